/- The law FnExactRootOf, as a plain statement: the program's RootOf answers as the reference's, and leaves its argument alone. Conditions: those of the row's reading alone. -/
/- Part 10 of 11 of this claim's texts. -/
import Derived.Test.YtmkhhnfmahdijaaWWords
import Derived.Deep.Slices
import Derived.ChangeArms
import Derived.WideShapes
import Derived.DataReads
import Derived.Test.YtmkhhnfmahdijaaRows
import Derived.WalkKit
import Derived.ProofKit
import Derived.Test.YtmkhhnfmahdijaaCBase0
import Derived.Test.YtmkhhnfmahdijaaCFnExactRootOf3
import Derived.Test.YtmkhhnfmahdijaaCFnExactRootOf6
import Derived.Test.YtmkhhnfmahdijaaCFnExactRootOf7
import Derived.Test.YtmkhhnfmahdijaaCFnExactRootOf8
namespace Go.Proofs.Ytmkhhnfmahdijaa.X
open Go.RowKit Go.Proofs.YtmkhhnfmahdijaaW.PrintWords Go.Proofs.YtmkhhnfmahdijaaW.PrintLast Go.Proofs.YtmkhhnfmahdijaaW.PrintMore
attribute [local go_sem] max2_int min2_int max_two min_two max_three min_three max_four min_four   -- for this text's walks alone
set_option linter.unusedVariables false
set_option linter.unusedSimpArgs false

/-! ### spec_l6Grow: function 117 -/
def spec_l6Grow.f : Nat → List ByteArray → Int → Bool → Option (List ByteArray)
  | 0, _, _, _ => none
  | k + 1, l0, a1, a2 => if a1 = (l0.length : Int) then (if a2 = true then (some (([] : List ByteArray))) else ((spec_l6Root.f k l0).bind fun t1168 => (some (([t1168] : List ByteArray))))) else ((spec_l6Half.f k (l0.length : Int)).bind fun t1172 => (if a1 ≤ t1172 then (if 0 ≤ t1172 then (if t1172 ≤ (l0.length : Int) then ((spec_l6Grow.f k (l0.take (t1172 : Int).toNat) a1 a2).bind fun t1174 => ((spec_l6Root.f k (l0.drop (t1172 : Int).toNat)).bind fun t1178 => (if t1174.length < 8796093022208 then (some (t1174 ++ [t1178])) else (none)))) else (none)) else (none)) else (if 0 ≤ t1172 then (if t1172 ≤ (l0.length : Int) then ((spec_l6Grow.f k (l0.drop (t1172 : Int).toNat) (wrap64 (a1 - t1172)) false).bind fun t1183 => ((spec_l6Root.f k (l0.take (t1172 : Int).toNat)).bind fun t1187 => (if t1183.length < 8796093022208 then (some (t1183 ++ [t1187])) else (none)))) else (none)) else (none))))
theorem spec_l6Grow.mono_l : ∀ k, (∀ y0 y1 y2, LeO (spec_l6Grow.f k y0 y1 y2) (spec_l6Grow.f (k + 1) y0 y1 y2))
  | 0 => fun _ _ _ r h => by simp [spec_l6Grow.f] at h
  | k + 1 => by
    have ih0 := spec_l6Grow.mono_l k
    · intro y0 y1 y2
      unfold spec_l6Grow.f
      repeat' first
      | (with_reducible exact ih0 _ _ _)
      | (with_reducible exact spec_l6Half.mono _ _)
      | (with_reducible exact spec_l6Root.mono _ _)
      | (with_reducible exact LeO.refl _)
      | (with_reducible exact LeO.none _)
      | (with_reducible refine LeO.ite ?_ ?_)
      | (with_reducible refine LeO.bind ?_ (fun _ => ?_))
      | exact ih0 _ _ _
      | exact spec_l6Half.mono _ _
      | exact spec_l6Root.mono _ _
      | exact LeO.none _
      | refine LeO.ite ?_ ?_
      | refine LeO.bind ?_ (fun _ => ?_)
theorem spec_l6Grow.mono : ∀ a0 a1 a2 k, LeO (spec_l6Grow.f k a0 a1 a2) (spec_l6Grow.f (k + 1) a0 a1 a2) := by
  intro a0 a1 a2 k
  have ih0 := spec_l6Grow.mono_l k
  exact ih0 a0 a1 a2
def spec_l6Grow.T7 : Bool × List (List Nat × List Nat) := (true, [([], []), ([], []), ([0, 1], [0, 1]), ([], []), ([], []), ([2, 3, 4], [2, 3, 4]), ([], []), ([], []), ([6, 7], [6, 7]), ([8, 5], [8]), ([9], [9]), ([5, 10, 9], [5, 10]), ([11, 11, 0, 1, 2, 3, 4, 5, 6, 7, 8, 9, 10, 11], [11])])
def spec_l6Grow.B7 : List Nat := [0, 0, 3, 0, 0, 31, 0, 0, 192, 511, 1023, 2047, 4095]
theorem spec_l6Grow.tab7 : rtab .any (opsOf Try.f117 7) = spec_l6Grow.T7 := by kernel_rfl
theorem spec_l6Grow.bits7 : waitsOk spec_l6Grow.T7.2 spec_l6Grow.B7 = true := by kernel_rfl
def spec_l6Grow.T8 : Bool × List (List Nat × List Nat) := (true, [([], []), ([], []), ([0, 1], [0, 1]), ([], []), ([], []), ([3, 4], [3, 4]), ([2, 5], [2, 5]), ([], []), ([], []), ([7, 8], [7, 8]), ([9, 6], [9]), ([10], [10]), ([6, 11, 10], [6, 11]), ([12, 12, 0, 1, 2, 3, 4, 5, 6, 7, 8, 9, 10, 11, 12], [12])])
def spec_l6Grow.B8 : List Nat := [0, 0, 3, 0, 0, 24, 63, 0, 0, 384, 1023, 2047, 4095, 8191]
theorem spec_l6Grow.tab8 : rtab .any (opsOf Try.f117 8) = spec_l6Grow.T8 := by kernel_rfl
theorem spec_l6Grow.bits8 : waitsOk spec_l6Grow.T8.2 spec_l6Grow.B8 = true := by kernel_rfl
set_option maxHeartbeats 8000000 in
set_option maxRecDepth 100000 in
theorem spec_l6Grow.calls (k : Nat) : ∀ (A0 : Option Addr) (c0 : Nat) (l0 : List ByteArray) (a1 : Int) (a2 : Bool) (r : List ByteArray) (w : World) (hr0 : Kd.C Kd.string w A0 l0.length l0) (hc0 : l0.length ≤ c0) (h : spec_l6Grow.f k l0 a1 a2 = some r),
    Calls Try.prog 117 #[.slice A0 l0.length c0, .int .i64 a1, .bool a2] w fun e w' => ∃ v0_ : Value, e = .returned (v0_) ∧ Kd.R Kd.string 9 w' w.heap.size (fun _ => True) v0_ r ∧ Below w.heap.size w w' := by
  induction k using Nat.strongRecOn with
  | _ k ih =>
  intro A0 c0 l0 a1 a2 r w hr0 hc0 h
  cases k with
  | zero => exact absurd h (by simp [spec_l6Grow.f])
  | succ k =>
  simp only [spec_l6Grow.f] at h
  have HR0 := Aside0.mk hr0
  have HC0 := Aside0.mk hc0
  clear hr0 hc0
  have HB := Aside0.mk (Below.refl w.heap.size w)
  have H : (if a1 = (l0.length : Int) then (if a2 = true then (some (([] : List ByteArray))) else ((spec_l6Root.f k l0).bind fun t1168 => (some (([t1168] : List ByteArray))))) else ((spec_l6Half.f k (l0.length : Int)).bind fun t1172 => (if a1 ≤ t1172 then (if 0 ≤ t1172 then (if t1172 ≤ (l0.length : Int) then ((spec_l6Grow.f k (l0.take (t1172 : Int).toNat) a1 a2).bind fun t1174 => ((spec_l6Root.f k (l0.drop (t1172 : Int).toNat)).bind fun t1178 => (if t1174.length < 8796093022208 then (some (t1174 ++ [t1178])) else (none)))) else (none)) else (none)) else (if 0 ≤ t1172 then (if t1172 ≤ (l0.length : Int) then ((spec_l6Grow.f k (l0.drop (t1172 : Int).toNat) (wrap64 (a1 - t1172)) false).bind fun t1183 => ((spec_l6Root.f k (l0.take (t1172 : Int).toNat)).bind fun t1187 => (if t1183.length < 8796093022208 then (some (t1183 ++ [t1187])) else (none)))) else (none)) else (none))))) = some r := h
  clear h
  by_cases c4 : a1 = (l0.length : Int)
  · rw [if_pos c4] at H
    have c4b0 : (a1 == (l0.length : Int)) = true := beq_iff_eq.mpr c4
    have c4b1 : (a1 != (l0.length : Int)) = false := bne_eq_false_iff_eq.mpr c4
    clear c4
    by_cases c5 : a2 = true
    · subst c5
      have H1 : (some (([] : List ByteArray))) = some r := by rw [if_pos rfl] at H; exact H
      clear H
      have H := H1
      clear H1
      obtain ⟨y1165, hy1165⟩ : ∃ y_ : List ByteArray, y_ = (([] : List ByteArray)) := ⟨_, rfl⟩
      replace H : (some y1165) = some r := by first | (rw [hy1165]; with_reducible exact H) | (have H2_ := (Option.bind_some _ _).symm.trans H; rw [hy1165]; with_reducible exact H2_) | (have H2_ := (Option.bind_some _ _).symm.trans H; with_reducible exact H2_) | with_reducible exact H | (rw [hy1165]; exact H) | exact H
      have Ny1165 := Aside0.mk hy1165
      clear hy1165
      obtain rfl := Option.some.inj H
      go_enter Try.func117, Try.ntmps117
      go_wp2_with (first | ((with_reducible refine gate_dst (N := 13) rfl ?_); refine Kd.R_lit Kd.string _ 9 ?hg (N := 13) ?hd (xs := ([] : List ByteArray)) (inner := []) (ok := fun _ => True) (okp := fun _ => True) ?hr ?hp (fun _ hk => hk) trivial (Below.refl _ _) (Nat.le_refl _) (by simp) ?_; (case hd => rfl); (case hg => rfl); (case hr => first | (go_simp; done) | (go_simp; rfl)); (case hp => exact (Reps.none _ _)); intro v1166 w6 ho7 hb hg_ hnew_; clear hg_ hnew_; (first | rw [← Ny1165.out] at ho7 | (simp only [Int.reduceToNat] at ho7; rw [← Ny1165.out] at ho7)); have n0_ := Aside0.mk (Kd.R_lower ho7 (below_size (by repeat (first | (with_reducible first | exact HB.out | apply below_alloc | apply pw_below_drewN | apply below_drew1) | exact HB.out)))); have n1_ := Aside0.mk (below_step (by repeat (first | (with_reducible first | exact HB.out | apply below_alloc | apply pw_below_drewN | apply below_drew1) | exact HB.out)) hb); clear HB; have HO1167 := n0_; have HB := n1_; clear n0_ n1_; clear hb ho7))
      go_ret
      exact ⟨_, by first | rfl | (simp [errW_none, errW_some] <;> rfl) | (simp [*, errW_none, errW_some] <;> rfl), by (with_reducible repeat (first | apply Kd.R_alloc | apply Kd.R_drewN | apply Kd.R_drew)); exact HO1167.out, by repeat (first | (with_reducible first | exact HB.out | apply below_alloc | apply pw_below_drewN | apply below_drew1) | exact HB.out)⟩
    · replace c5 := Bool.eq_false_iff.mpr c5
      subst c5
      have H1 : ((spec_l6Root.f k l0).bind fun t1168 => (some (([t1168] : List ByteArray)))) = some r := by rw [if_neg (show ¬ (false = true) by decide)] at H; exact H
      clear H
      have H := H1
      clear H1
      replace H := Option.bind_eq_some_iff.mp H
      obtain ⟨t1168, A80, H⟩ := H
      replace H : (some (([t1168] : List ByteArray))) = some r := H
      have A8 := Aside0.mk A80
      clear A80
      obtain ⟨y1169, hy1169⟩ : ∃ y_ : List ByteArray, y_ = (([t1168] : List ByteArray)) := ⟨_, rfl⟩
      replace H : (some y1169) = some r := by first | (rw [hy1169]; with_reducible exact H) | (have H2_ := (Option.bind_some _ _).symm.trans H; rw [hy1169]; with_reducible exact H2_) | (have H2_ := (Option.bind_some _ _).symm.trans H; with_reducible exact H2_) | with_reducible exact H | (rw [hy1169]; exact H) | exact H
      have Ny1169 := Aside0.mk hy1169
      clear hy1169
      obtain rfl := Option.some.inj H
      go_enter Try.func117, Try.ntmps117
      go_wp2_with (first | ((with_reducible refine gate_callee (f := 112) rfl ?_); refine goesL_ (some 15) rfl rfl Try.func112 (by kernel_rfl) rfl #[.slice A0 l0.length c0] rfl (by (try simp only [List.map_toArray, List.map_cons, List.map_nil]); first | done | rfl | (simp only [List.length_drop, List.length_take]; rfl)) ?_; (with_reducible refine (spec_l6Root.calls k _ _ l0 t1168 _ ?side1 ?side2 A8.out).mono ?_); (case side1 => repeat (first | exact HR0.out | (with_reducible refine Kd.C_alloc ?_ _) | (with_reducible refine Kd.C_drewN ?_ _) | (with_reducible refine Kd.C_drew ?_))); (case side2 => exact HC0.out); rintro e w9 ⟨rfl, hb⟩; refine ⟨_, rfl, ?_⟩; have n0_ := Aside0.mk (below_step (by repeat (first | (with_reducible first | exact HB.out | apply below_alloc | apply pw_below_drewN | apply below_drew1) | exact HB.out)) hb); clear HB; have HB := n0_; clear n0_; (try clear hb); (try clear hb2); (try clear hk); (try clear hi)) | ((with_reducible refine gate_dst (N := 16) rfl ?_); refine Kd.R_lit Kd.string _ 9 ?hg (N := 16) ?hd (xs := ([t1168] : List ByteArray)) (inner := [.string t1168]) (ok := fun _ => True) (okp := fun _ => True) ?hr ?hp (fun _ hk => hk) trivial (Below.refl _ _) (Nat.le_refl _) (by simp) ?_; (case hd => rfl); (case hg => rfl); (case hr => first | (go_simp; done) | (go_simp; rfl)); (case hp => exact (Reps.one (show Kd.M Kd.string _ _ _ t1168 [.string t1168] from rfl) (Reps.none _ _))); intro v1170 w10 ho11 hb hg_ hnew_; clear hg_ hnew_; (first | rw [← Ny1169.out] at ho11 | (simp only [Int.reduceToNat] at ho11; rw [← Ny1169.out] at ho11)); have n0_ := Aside0.mk (Kd.R_lower ho11 (below_size (by repeat (first | (with_reducible first | exact HB.out | apply below_alloc | apply pw_below_drewN | apply below_drew1) | exact HB.out)))); have n1_ := Aside0.mk (below_step (by repeat (first | (with_reducible first | exact HB.out | apply below_alloc | apply pw_below_drewN | apply below_drew1) | exact HB.out)) hb); clear HB; have HO1171 := n0_; have HB := n1_; clear n0_ n1_; clear hb ho11))
      go_ret
      exact ⟨_, by first | rfl | (simp [errW_none, errW_some] <;> rfl) | (simp [*, errW_none, errW_some] <;> rfl), by (with_reducible repeat (first | apply Kd.R_alloc | apply Kd.R_drewN | apply Kd.R_drew)); exact HO1171.out, by repeat (first | (with_reducible first | exact HB.out | apply below_alloc | apply pw_below_drewN | apply below_drew1) | exact HB.out)⟩
  · rw [if_neg c4] at H
    have c4b0 : (a1 == (l0.length : Int)) = false := beq_eq_false_iff_ne.mpr c4
    have c4b1 : (a1 != (l0.length : Int)) = true := bne_iff_ne.mpr c4
    replace H := Option.bind_eq_some_iff.mp H
    obtain ⟨t1172, A120, H⟩ := H
    replace H : (if a1 ≤ t1172 then (if 0 ≤ t1172 then (if t1172 ≤ (l0.length : Int) then ((spec_l6Grow.f k (l0.take (t1172 : Int).toNat) a1 a2).bind fun t1174 => ((spec_l6Root.f k (l0.drop (t1172 : Int).toNat)).bind fun t1178 => (if t1174.length < 8796093022208 then (some (t1174 ++ [t1178])) else (none)))) else (none)) else (none)) else (if 0 ≤ t1172 then (if t1172 ≤ (l0.length : Int) then ((spec_l6Grow.f k (l0.drop (t1172 : Int).toNat) (wrap64 (a1 - t1172)) false).bind fun t1183 => ((spec_l6Root.f k (l0.take (t1172 : Int).toNat)).bind fun t1187 => (if t1183.length < 8796093022208 then (some (t1183 ++ [t1187])) else (none)))) else (none)) else (none))) = some r := H
    have A12 := Aside0.mk A120
    clear A120
    by_cases c13 : a1 ≤ t1172
    · rw [if_pos c13] at H
      have c13b0 : decide (a1 ≤ t1172) = true := decide_eq_true c13
      clear c13
      by_cases c14 : 0 ≤ t1172
      · rw [if_pos c14] at H
        have c14b0 := eq_true c14
        have c14b1 : decide (0 ≤ t1172) = true := decide_eq_true c14
        clear c14
        by_cases c15 : t1172 ≤ (l0.length : Int)
        · rw [if_pos c15] at H
          have c15b0 := eq_true c15
          have c15b1 : decide (t1172 ≤ (l0.length : Int)) = true := decide_eq_true c15
          clear c15
          replace H := Option.bind_eq_some_iff.mp H
          obtain ⟨t1174, A160, H⟩ := H
          replace H : ((spec_l6Root.f k (l0.drop (t1172 : Int).toNat)).bind fun t1178 => (if t1174.length < 8796093022208 then (some (t1174 ++ [t1178])) else (none))) = some r := H
          have A16 := Aside0.mk A160
          clear A160
          have c17b0 := eq_true (of_decide_eq_true (by first | (with_reducible assumption) | assumption) : 0 ≤ t1172)
          have c18b0 := eq_true (of_decide_eq_true (by first | (with_reducible assumption) | assumption) : t1172 ≤ (l0.length : Int))
          replace H := Option.bind_eq_some_iff.mp H
          obtain ⟨t1178, A190, H⟩ := H
          replace H : (if t1174.length < 8796093022208 then (some (t1174 ++ [t1178])) else (none)) = some r := H
          have A19 := Aside0.mk A190
          clear A190
          by_cases c20 : t1174.length < 8796093022208
          · rw [if_pos c20] at H
            have LMc20 := Aside0.mk c20
            clear c20
            obtain ⟨y1179, hy1179⟩ : ∃ y_ : List ByteArray, y_ = (t1174 ++ [t1178]) := ⟨_, rfl⟩
            replace H : (some y1179) = some r := by first | (rw [hy1179]; with_reducible exact H) | (have H2_ := (Option.bind_some _ _).symm.trans H; rw [hy1179]; with_reducible exact H2_) | (have H2_ := (Option.bind_some _ _).symm.trans H; with_reducible exact H2_) | with_reducible exact H | (rw [hy1179]; exact H) | exact H
            have Ny1179 := Aside0.mk hy1179
            clear hy1179
            obtain rfl := Option.some.inj H
            go_enter Try.func117, Try.ntmps117
            try go_wp2_with (first | ((with_reducible refine gate_callee (f := 132) rfl ?_); refine goesL_ (some 19) rfl rfl Try.func132 (by kernel_rfl) rfl #[.int .i64 (l0.length : Int)] rfl (by (try simp only [List.map_toArray, List.map_cons, List.map_nil]); first | done | rfl | (simp only [List.length_drop, List.length_take]; rfl)) ?_; (with_reducible refine (spec_l6Half.calls k (l0.length : Int) t1172 _ A12.out).mono ?_); rintro e w' ⟨rfl, ⟨nd, rfl⟩⟩; refine ⟨_, rfl, ?_⟩))
            have n0_ := Aside0.mk (below_drew1 (pw_below_drewN HB.out nd))
            clear HB
            have HB := n0_
            clear n0_
            obtain ⟨i022, hi022, _, hsz22, _⟩ := info_parts info9
            obtain ⟨hcut22, hA22, hC22⟩ := print_take_of (P := Try.prog) Value.string (⟨#[]⟩ : ByteArray) 44 9 .i64 Try.underlying44 hi022 hsz22 A0 c0 l0 t1172 (of_decide_eq_true (by first | (with_reducible assumption) | assumption)) (of_decide_eq_true (by first | (with_reducible assumption) | assumption)) HC0.out
            have HR1173 := Aside0.mk (Kd.C_of_reads (h1 := fun _ => rfl) (hA22 _ (Kd.reads_of_C HR0.out)))
            have HC1173 := Aside0.mk hC22
            clear hA22 hC22 hi022 hsz22
            obtain ⟨i023, hi023, _, hsz23, _⟩ := info_parts info9
            obtain ⟨A23, hcut23, hA23, hC23⟩ := print_drop_of (P := Try.prog) Value.string (⟨#[]⟩ : ByteArray) 44 9 .i64 Try.underlying44 hi023 hsz23 A0 c0 l0 t1172 (of_decide_eq_true (by first | (with_reducible assumption) | assumption)) (of_decide_eq_true (by first | (with_reducible assumption) | assumption)) HC0.out
            have HR1177 := Aside0.mk (Kd.C_of_reads (h1 := fun _ => rfl) (hA23 _ (Kd.reads_of_C HR0.out)))
            have HC1177 := Aside0.mk hC23
            clear hA23 hC23 hi023 hsz23
            refine start_ (n := 13) (S := fun w' => True) (ds := []) #[false, false, false, false, false, false, false, false, false, false, false, false, false] (by kernel_rfl) rfl rfl trivial (fun hHeld => ?_); refine with_tabW spec_l6Grow.tab7 spec_l6Grow.bits7 (fun HT_ HW_ => ?_)
            generalize (w.drewN nd).drew = w21 at HB hHeld ⊢
            refine pure_ (i := 0) (N := some 23) (v := ?_) (a' := ?_) #[true, false, false, false, false, false, false, false, false, false, false, false, false] rfl rfl (any_of HT_.out (by kernel_rfl)) (fun _ _ _ h => h) (Or.inl ⟨by rfl, ?_⟩) ?_ ?_
            rotate_left
            · intro w'
              go_simp
              with_reducible rfl
            rotate_left
            · simp only [Act.put, List.setIfInBounds_toArray, List.set_cons_zero, List.set_cons_succ, i64_w, i32_w]
              rfl
            refine pure_ (i := 1) (N := some 24) (v := ?_) (a' := ?_) #[true, true, false, false, false, false, false, false, false, false, false, false, false] rfl rfl (any_of HT_.out (by kernel_rfl)) (fun _ _ _ h => h) (Or.inl ⟨by rfl, ?_⟩) ?_ ?_
            rotate_left
            · intro w'
              go_simp
              with_reducible rfl
            rotate_left
            · simp only [Act.put, List.setIfInBounds_toArray, List.set_cons_zero, List.set_cons_succ, i64_w, i32_w]
              rfl
            refine pure_ (i := 2) (N := some 25) (v := ?_) (a' := ?_) #[true, true, true, false, false, false, false, false, false, false, false, false, false] rfl rfl (any_of HT_.out (by kernel_rfl)) (fun _ _ _ h => h) (Or.inl ⟨by rfl, ?_⟩) ?_ ?_
            rotate_left
            · intro w'
              go_simp
              with_reducible rfl
            rotate_left
            · simp only [Act.put, List.setIfInBounds_toArray, List.set_cons_zero, List.set_cons_succ, i64_w, i32_w]
              rfl
            refine pure_ (i := 3) (N := some 26) (v := ?_) (a' := ?_) #[true, true, true, true, false, false, false, false, false, false, false, false, false] rfl rfl (any_of HT_.out (by kernel_rfl)) (fun _ _ _ h => h) (Or.inl ⟨by rfl, ?_⟩) ?_ ?_
            rotate_left
            · intro w'
              go_simp
              with_reducible rfl
            rotate_left
            · simp only [Act.put, List.setIfInBounds_toArray, List.set_cons_zero, List.set_cons_succ, i64_w, i32_w]
              rfl
            refine pure_ (i := 4) (N := some 27) (v := ?_) (a' := ?_) #[true, true, true, true, true, false, false, false, false, false, false, false, false] rfl rfl (any_of HT_.out (by kernel_rfl)) (fun _ _ _ h => h) (Or.inl ⟨by rfl, ?_⟩) ?_ ?_
            rotate_left
            · intro w'
              go_simp
              with_reducible rfl
            rotate_left
            · simp only [Act.put, List.setIfInBounds_toArray, List.set_cons_zero, List.set_cons_succ, i64_w, i32_w]
              rfl
            refine pure_ (i := 6) (N := some 29) (v := ?_) (a' := ?_) #[true, true, true, true, true, false, true, false, false, false, false, false, false] rfl rfl (any_of HT_.out (by kernel_rfl)) (fun _ _ _ h => h) (Or.inl ⟨by rfl, ?_⟩) ?_ ?_
            rotate_left
            · intro w'
              go_simp
              with_reducible rfl
            rotate_left
            · simp only [Act.put, List.setIfInBounds_toArray, List.set_cons_zero, List.set_cons_succ, i64_w, i32_w]
              rfl
            refine pure_ (i := 7) (N := some 30) (v := ?_) (a' := ?_) #[true, true, true, true, true, false, true, true, false, false, false, false, false] rfl rfl (any_of HT_.out (by kernel_rfl)) (fun _ _ _ h => h) (Or.inl ⟨by rfl, ?_⟩) ?_ ?_
            rotate_left
            · intro w'
              go_simp
              with_reducible rfl
            rotate_left
            · simp only [Act.put, List.setIfInBounds_toArray, List.set_cons_zero, List.set_cons_succ, i64_w, i32_w]
              rfl
            refine pure_ (i := 8) (N := some 31) (v := ?_) (a' := ?_) #[true, true, true, true, true, false, true, true, true, false, false, false, false] rfl rfl (any_of HT_.out (by kernel_rfl)) (fun _ _ _ h => h) (Or.inl ⟨by rfl, ?_⟩) ?_ ?_
            rotate_left
            · intro w'
              go_simp
              with_reducible rfl
            rotate_left
            · simp only [Act.put, List.setIfInBounds_toArray, List.set_cons_zero, List.set_cons_succ, i64_w, i32_w]
              rfl
            refine one_ (i := 5) (N := some 28) #[true, true, true, true, true, true, true, true, true, false, false, false, false] rfl rfl (one_of HT_.out (by kernel_rfl)) (by decide) (fun K hK => ?_)
            refine goes_ Try.func117 (by kernel_rfl) rfl #[.slice A0 (l0.take (t1172 : Int).toNat).length c0, .int .i64 a1, .bool a2] (by rfl) rfl rfl (by (try simp only [List.map_toArray, List.map_cons, List.map_nil]); first | done | (rw [show (l0.take (t1172 : Int).toNat).length = t1172.toNat from (by rw [List.length_take]; have h_ : (t1172 : Int) ≤ (l0.length : Int) := of_decide_eq_true (by first | (with_reducible assumption) | assumption); omega)] <;> rfl) | rfl | (simp only [List.length_drop, List.length_take]; rfl)) ?_
            with_reducible refine (ih k (by omega) _ _ (l0.take (t1172 : Int).toNat) a1 a2 t1174 _ ?side1 ?side2 A16.out).mono ?_
            (case side1 => repeat (first | exact (Kd.C_below HR1173.out HB.out) | (with_reducible refine Kd.C_alloc ?_ _) | (with_reducible refine Kd.C_drewN ?_ _) | (with_reducible refine Kd.C_drew ?_)))
            (case side2 => exact HC1173.out)
            rintro e w24 ⟨v1175, rfl, ho0, hb⟩
            refine ⟨_, rfl, ?_⟩
            have n0_ := Aside0.mk (Kd.R_lower ho0 (below_size (by repeat (first | (with_reducible first | exact HB.out | apply below_alloc | apply pw_below_drewN | apply below_drew1) | exact HB.out))))
            have n1_ := Aside0.mk (below_step (by repeat (first | (with_reducible first | exact HB.out | apply below_alloc | apply pw_below_drewN | apply below_drew1) | exact HB.out)) hb)
            clear HB
            have HO1176 := n0_
            have HB := n1_
            clear n0_ n1_
            (try clear hb)
            (try clear hb2)
            (try clear hk)
            (try clear hi)
            (try clear ho0)
            refine hK.out _ _ trivial (fun hHeld => ?_)
            clear hK K
            refine norm_ (a' := ?_) ?_ ?_
            rotate_left
            · show Act.put _ (some 28) _ = _
              simp only [Act.put, List.setIfInBounds_toArray, List.set_cons_zero, List.set_cons_succ, i64_w, i32_w]
              rfl
            refine one_ (i := 9) (N := some 32) #[true, true, true, true, true, true, true, true, true, true, false, false, false] rfl rfl (one_of HT_.out (by kernel_rfl)) (by decide) (fun K hK => ?_)
            refine goes_ Try.func112 (by kernel_rfl) rfl #[.slice A23 (l0.drop (t1172 : Int).toNat).length (c0 - t1172.toNat)] (by rfl) rfl rfl (by (try simp only [List.map_toArray, List.map_cons, List.map_nil]); first | done | (rw [show (l0.drop (t1172 : Int).toNat).length = (l0.length - t1172.toNat) from List.length_drop] <;> rfl) | rfl | (simp only [List.length_drop, List.length_take]; rfl)) ?_
            with_reducible refine (spec_l6Root.calls k _ _ (l0.drop (t1172 : Int).toNat) t1178 _ ?side1 ?side2 A19.out).mono ?_
            (case side1 => repeat (first | exact (Kd.C_below HR1177.out HB.out) | (with_reducible refine Kd.C_alloc ?_ _) | (with_reducible refine Kd.C_drewN ?_ _) | (with_reducible refine Kd.C_drew ?_)))
            (case side2 => exact HC1177.out)
            rintro e w25 ⟨rfl, hb⟩
            refine ⟨_, rfl, ?_⟩
            have n0_ := Aside0.mk (Kd.R_below (by (with_reducible repeat (first | apply Kd.R_alloc | apply Kd.R_drewN | apply Kd.R_drew)); exact HO1176.out) hb)
            have n1_ := Aside0.mk (below_step (by repeat (first | (with_reducible first | exact HB.out | apply below_alloc | apply pw_below_drewN | apply below_drew1) | exact HB.out)) hb)
            clear HO1176
            clear HB
            have HO1176 := n0_
            have HB := n1_
            clear n0_ n1_
            (try clear hb)
            (try clear hb2)
            (try clear hk)
            (try clear hi)
            refine hK.out _ _ trivial (fun hHeld => ?_)
            clear hK K
            refine norm_ (a' := ?_) ?_ ?_
            rotate_left
            · show Act.put _ (some 32) _ = _
              simp only [Act.put, List.setIfInBounds_toArray, List.set_cons_zero, List.set_cons_succ, i64_w, i32_w]
              rfl
            refine one_ (i := 10) (N := some 33) #[true, true, true, true, true, true, true, true, true, true, true, false, false] rfl rfl (one_of HT_.out (by kernel_rfl)) (by decide) (fun K hK => ?_)
            refine value_ (w1 := ?_) (v := ?_) (by rfl) rfl ?_ ?_
            rotate_left 2
            · go_simp
              constructor
              · rfl
              · rfl
            refine hK.out _ _ trivial (fun hHeld => ?_)
            clear hK K
            refine norm_ (a' := ?_) ?_ ?_
            rotate_left
            · show Act.put _ (some 33) _ = _
              simp only [Act.put, List.setIfInBounds_toArray, List.set_cons_zero, List.set_cons_succ, i64_w, i32_w]
              rfl
            refine one_ (i := 11) (N := some 34) #[true, true, true, true, true, true, true, true, true, true, true, true, false] rfl rfl (one_of HT_.out (by kernel_rfl)) (by decide) (fun K hK => ?_)
            refine Kd.R_append_step Kd.string (w0 := w) w.heap.size (by rfl) (.tmp 28) (.tmp 33) 44 9 (.string ⟨#[]⟩) 16 rfl Try.underlying44 info9 rfl (by decide) (by omega) v1175 t1174 t1178 [.string t1178] (fun _ => True) (fun _ => False) rfl rfl ?aP (fun _ hk => hk.elim) ?aF ?aO ?aB ?aS ?aL ?_
            (case aP => exact rfl)
            (case aB => exact (by repeat (first | (with_reducible first | exact HB.out | apply below_alloc | apply pw_below_drewN | apply below_drew1) | exact HB.out)))
            (case aF => exact (fun _ _ => trivial))
            (case aO => exact (by (with_reducible repeat (first | apply Kd.R_alloc | apply Kd.R_drewN | apply Kd.R_drew)); exact HO1176.out))
            (case aS => exact (below_size (by repeat (first | (with_reducible first | exact HB.out | apply below_alloc | apply pw_below_drewN | apply below_drew1) | exact HB.out))))
            (case aL => have := LMc20.out; omega)
            intro v1180 w26 ho hb hg hat
            rw [← Ny1179.out] at ho
            have n0_ := Aside0.mk (hb)
            have n1_ := Aside0.mk (ho)
            clear HB
            clear HO1176
            have HB := n0_
            have HO1181 := n1_
            clear n0_ n1_
            clear ho hb hg hat
            refine hK.out _ _ trivial (fun hHeld => ?_)
            clear hK K
            refine norm_ (a' := ?_) ?_ ?_
            rotate_left
            · show Act.put _ (some 34) _ = _
              simp only [Act.put, List.setIfInBounds_toArray, List.set_cons_zero, List.set_cons_succ, i64_w, i32_w]
              rfl
            refine pure_ (i := 12) (N := some 6) (v := ?_) (a' := ?_) #[true, true, true, true, true, true, true, true, true, true, true, true, true] rfl rfl (any_of HT_.out (by kernel_rfl)) (fun _ _ _ h => h) (Or.inl ⟨by rfl, ?_⟩) ?_ ?_
            rotate_left
            · intro w'
              go_simp
              with_reducible rfl
            rotate_left
            · simp only [Act.put, List.setIfInBounds_toArray, List.set_cons_zero, List.set_cons_succ, i64_w, i32_w]
              rfl
            refine done_ (done_of HT_.out (by kernel_rfl)) ?_
            try go_wp2
            go_ret
            exact ⟨_, by first | rfl | (simp [errW_none, errW_some] <;> rfl) | (simp [*, errW_none, errW_some] <;> rfl), by (with_reducible repeat (first | apply Kd.R_alloc | apply Kd.R_drewN | apply Kd.R_drew)); exact HO1181.out, by repeat (first | (with_reducible first | exact HB.out | apply below_alloc | apply pw_below_drewN | apply below_drew1) | exact HB.out)⟩
          · rw [if_neg c20] at H
            exact absurd H (by simp)
        · rw [if_neg c15] at H
          exact absurd H (by simp)
      · rw [if_neg c14] at H
        exact absurd H (by simp)
    · rw [if_neg c13] at H
      have c13b0 : decide (a1 ≤ t1172) = false := decide_eq_false c13
      clear c13
      by_cases c27 : 0 ≤ t1172
      · rw [if_pos c27] at H
        have c27b0 := eq_true c27
        have c27b1 : decide (0 ≤ t1172) = true := decide_eq_true c27
        clear c27
        by_cases c28 : t1172 ≤ (l0.length : Int)
        · rw [if_pos c28] at H
          have c28b0 := eq_true c28
          have c28b1 : decide (t1172 ≤ (l0.length : Int)) = true := decide_eq_true c28
          clear c28
          replace H := Option.bind_eq_some_iff.mp H
          obtain ⟨t1183, A290, H⟩ := H
          replace H : ((spec_l6Root.f k (l0.take (t1172 : Int).toNat)).bind fun t1187 => (if t1183.length < 8796093022208 then (some (t1183 ++ [t1187])) else (none))) = some r := H
          have A29 := Aside0.mk A290
          clear A290
          have c30b0 := eq_true (of_decide_eq_true (by first | (with_reducible assumption) | assumption) : 0 ≤ t1172)
          have c31b0 := eq_true (of_decide_eq_true (by first | (with_reducible assumption) | assumption) : t1172 ≤ (l0.length : Int))
          replace H := Option.bind_eq_some_iff.mp H
          obtain ⟨t1187, A320, H⟩ := H
          replace H : (if t1183.length < 8796093022208 then (some (t1183 ++ [t1187])) else (none)) = some r := H
          have A32 := Aside0.mk A320
          clear A320
          by_cases c33 : t1183.length < 8796093022208
          · rw [if_pos c33] at H
            have LMc33 := Aside0.mk c33
            clear c33
            obtain ⟨y1188, hy1188⟩ : ∃ y_ : List ByteArray, y_ = (t1183 ++ [t1187]) := ⟨_, rfl⟩
            replace H : (some y1188) = some r := by first | (rw [hy1188]; with_reducible exact H) | (have H2_ := (Option.bind_some _ _).symm.trans H; rw [hy1188]; with_reducible exact H2_) | (have H2_ := (Option.bind_some _ _).symm.trans H; with_reducible exact H2_) | with_reducible exact H | (rw [hy1188]; exact H) | exact H
            have Ny1188 := Aside0.mk hy1188
            clear hy1188
            obtain rfl := Option.some.inj H
            go_enter Try.func117, Try.ntmps117
            try go_wp2_with (first | ((with_reducible refine gate_callee (f := 132) rfl ?_); refine goesL_ (some 19) rfl rfl Try.func132 (by kernel_rfl) rfl #[.int .i64 (l0.length : Int)] rfl (by (try simp only [List.map_toArray, List.map_cons, List.map_nil]); first | done | rfl | (simp only [List.length_drop, List.length_take]; rfl)) ?_; (with_reducible refine (spec_l6Half.calls k (l0.length : Int) t1172 _ A12.out).mono ?_); rintro e w' ⟨rfl, ⟨nd, rfl⟩⟩; refine ⟨_, rfl, ?_⟩))
            have n0_ := Aside0.mk (below_drew1 (pw_below_drewN HB.out nd))
            clear HB
            have HB := n0_
            clear n0_
            obtain ⟨i035, hi035, _, hsz35, _⟩ := info_parts info9
            obtain ⟨A35, hcut35, hA35, hC35⟩ := print_drop_of (P := Try.prog) Value.string (⟨#[]⟩ : ByteArray) 44 9 .i64 Try.underlying44 hi035 hsz35 A0 c0 l0 t1172 (of_decide_eq_true (by first | (with_reducible assumption) | assumption)) (of_decide_eq_true (by first | (with_reducible assumption) | assumption)) HC0.out
            have HR1182 := Aside0.mk (Kd.C_of_reads (h1 := fun _ => rfl) (hA35 _ (Kd.reads_of_C HR0.out)))
            have HC1182 := Aside0.mk hC35
            clear hA35 hC35 hi035 hsz35
            obtain ⟨i036, hi036, _, hsz36, _⟩ := info_parts info9
            obtain ⟨hcut36, hA36, hC36⟩ := print_take_of (P := Try.prog) Value.string (⟨#[]⟩ : ByteArray) 44 9 .i64 Try.underlying44 hi036 hsz36 A0 c0 l0 t1172 (of_decide_eq_true (by first | (with_reducible assumption) | assumption)) (of_decide_eq_true (by first | (with_reducible assumption) | assumption)) HC0.out
            have HR1186 := Aside0.mk (Kd.C_of_reads (h1 := fun _ => rfl) (hA36 _ (Kd.reads_of_C HR0.out)))
            have HC1186 := Aside0.mk hC36
            clear hA36 hC36 hi036 hsz36
            refine start_ (n := 14) (S := fun w' => True) (ds := []) #[false, false, false, false, false, false, false, false, false, false, false, false, false, false] (by kernel_rfl) rfl rfl trivial (fun hHeld => ?_); refine with_tabW spec_l6Grow.tab8 spec_l6Grow.bits8 (fun HT_ HW_ => ?_)
            generalize (w.drewN nd).drew = w34 at HB hHeld ⊢
            refine pure_ (i := 0) (N := some 35) (v := ?_) (a' := ?_) #[true, false, false, false, false, false, false, false, false, false, false, false, false, false] rfl rfl (any_of HT_.out (by kernel_rfl)) (fun _ _ _ h => h) (Or.inl ⟨by rfl, ?_⟩) ?_ ?_
            rotate_left
            · intro w'
              go_simp
              with_reducible rfl
            rotate_left
            · simp only [Act.put, List.setIfInBounds_toArray, List.set_cons_zero, List.set_cons_succ, i64_w, i32_w]
              rfl
            refine pure_ (i := 1) (N := some 36) (v := ?_) (a' := ?_) #[true, true, false, false, false, false, false, false, false, false, false, false, false, false] rfl rfl (any_of HT_.out (by kernel_rfl)) (fun _ _ _ h => h) (Or.inl ⟨by rfl, ?_⟩) ?_ ?_
            rotate_left
            · intro w'
              go_simp
              with_reducible rfl
            rotate_left
            · simp only [Act.put, List.setIfInBounds_toArray, List.set_cons_zero, List.set_cons_succ, i64_w, i32_w]
              rfl
            refine pure_ (i := 2) (N := some 37) (v := ?_) (a' := ?_) #[true, true, true, false, false, false, false, false, false, false, false, false, false, false] rfl rfl (any_of HT_.out (by kernel_rfl)) (fun _ _ _ h => h) (Or.inl ⟨by rfl, ?_⟩) ?_ ?_
            rotate_left
            · intro w'
              go_simp
              with_reducible rfl
            rotate_left
            · simp only [Act.put, List.setIfInBounds_toArray, List.set_cons_zero, List.set_cons_succ, i64_w, i32_w]
              rfl
            refine pure_ (i := 3) (N := some 38) (v := ?_) (a' := ?_) #[true, true, true, true, false, false, false, false, false, false, false, false, false, false] rfl rfl (any_of HT_.out (by kernel_rfl)) (fun _ _ _ h => h) (Or.inl ⟨by rfl, ?_⟩) ?_ ?_
            rotate_left
            · intro w'
              go_simp
              with_reducible rfl
            rotate_left
            · simp only [Act.put, List.setIfInBounds_toArray, List.set_cons_zero, List.set_cons_succ, i64_w, i32_w]
              rfl
            refine pure_ (i := 4) (N := some 39) (v := ?_) (a' := ?_) #[true, true, true, true, true, false, false, false, false, false, false, false, false, false] rfl rfl (any_of HT_.out (by kernel_rfl)) (fun _ _ _ h => h) (Or.inl ⟨by rfl, ?_⟩) ?_ ?_
            rotate_left
            · intro w'
              go_simp
              with_reducible rfl
            rotate_left
            · simp only [Act.put, List.setIfInBounds_toArray, List.set_cons_zero, List.set_cons_succ, i64_w, i32_w]
              rfl
            refine pure_ (i := 5) (N := some 40) (v := ?_) (a' := ?_) #[true, true, true, true, true, true, false, false, false, false, false, false, false, false] rfl rfl (any_of HT_.out (by kernel_rfl)) (fun _ _ _ h => h) (Or.inl ⟨by rfl, ?_⟩) ?_ ?_
            rotate_left
            · intro w'
              go_simp
              with_reducible rfl
            rotate_left
            · simp only [Act.put, List.setIfInBounds_toArray, List.set_cons_zero, List.set_cons_succ, i64_w, i32_w]
              rfl
            refine pure_ (i := 7) (N := some 42) (v := ?_) (a' := ?_) #[true, true, true, true, true, true, false, true, false, false, false, false, false, false] rfl rfl (any_of HT_.out (by kernel_rfl)) (fun _ _ _ h => h) (Or.inl ⟨by rfl, ?_⟩) ?_ ?_
            rotate_left
            · intro w'
              go_simp
              with_reducible rfl
            rotate_left
            · simp only [Act.put, List.setIfInBounds_toArray, List.set_cons_zero, List.set_cons_succ, i64_w, i32_w]
              rfl
            refine pure_ (i := 8) (N := some 43) (v := ?_) (a' := ?_) #[true, true, true, true, true, true, false, true, true, false, false, false, false, false] rfl rfl (any_of HT_.out (by kernel_rfl)) (fun _ _ _ h => h) (Or.inl ⟨by rfl, ?_⟩) ?_ ?_
            rotate_left
            · intro w'
              go_simp
              with_reducible rfl
            rotate_left
            · simp only [Act.put, List.setIfInBounds_toArray, List.set_cons_zero, List.set_cons_succ, i64_w, i32_w]
              rfl
            refine pure_ (i := 9) (N := some 44) (v := ?_) (a' := ?_) #[true, true, true, true, true, true, false, true, true, true, false, false, false, false] rfl rfl (any_of HT_.out (by kernel_rfl)) (fun _ _ _ h => h) (Or.inl ⟨by rfl, ?_⟩) ?_ ?_
            rotate_left
            · intro w'
              go_simp
              with_reducible rfl
            rotate_left
            · simp only [Act.put, List.setIfInBounds_toArray, List.set_cons_zero, List.set_cons_succ, i64_w, i32_w]
              rfl
            refine one_ (i := 6) (N := some 41) #[true, true, true, true, true, true, true, true, true, true, false, false, false, false] rfl rfl (one_of HT_.out (by kernel_rfl)) (by decide) (fun K hK => ?_)
            refine goes_ Try.func117 (by kernel_rfl) rfl #[.slice A35 (l0.drop (t1172 : Int).toNat).length (c0 - t1172.toNat), .int .i64 (wrap64 (a1 - t1172)), .bool false] (by rfl) rfl rfl (by (try simp only [List.map_toArray, List.map_cons, List.map_nil]); first | done | (rw [show (l0.drop (t1172 : Int).toNat).length = (l0.length - t1172.toNat) from List.length_drop] <;> rfl) | rfl | (simp only [List.length_drop, List.length_take]; rfl)) ?_
            with_reducible refine (ih k (by omega) _ _ (l0.drop (t1172 : Int).toNat) (wrap64 (a1 - t1172)) false t1183 _ ?side1 ?side2 A29.out).mono ?_
            (case side1 => repeat (first | exact (Kd.C_below HR1182.out HB.out) | (with_reducible refine Kd.C_alloc ?_ _) | (with_reducible refine Kd.C_drewN ?_ _) | (with_reducible refine Kd.C_drew ?_)))
            (case side2 => exact HC1182.out)
            rintro e w37 ⟨v1184, rfl, ho0, hb⟩
            refine ⟨_, rfl, ?_⟩
            have n0_ := Aside0.mk (Kd.R_lower ho0 (below_size (by repeat (first | (with_reducible first | exact HB.out | apply below_alloc | apply pw_below_drewN | apply below_drew1) | exact HB.out))))
            have n1_ := Aside0.mk (below_step (by repeat (first | (with_reducible first | exact HB.out | apply below_alloc | apply pw_below_drewN | apply below_drew1) | exact HB.out)) hb)
            clear HB
            have HO1185 := n0_
            have HB := n1_
            clear n0_ n1_
            (try clear hb)
            (try clear hb2)
            (try clear hk)
            (try clear hi)
            (try clear ho0)
            refine hK.out _ _ trivial (fun hHeld => ?_)
            clear hK K
            refine norm_ (a' := ?_) ?_ ?_
            rotate_left
            · show Act.put _ (some 41) _ = _
              simp only [Act.put, List.setIfInBounds_toArray, List.set_cons_zero, List.set_cons_succ, i64_w, i32_w]
              rfl
            refine one_ (i := 10) (N := some 45) #[true, true, true, true, true, true, true, true, true, true, true, false, false, false] rfl rfl (one_of HT_.out (by kernel_rfl)) (by decide) (fun K hK => ?_)
            refine goes_ Try.func112 (by kernel_rfl) rfl #[.slice A0 (l0.take (t1172 : Int).toNat).length c0] (by rfl) rfl rfl (by (try simp only [List.map_toArray, List.map_cons, List.map_nil]); first | done | (rw [show (l0.take (t1172 : Int).toNat).length = t1172.toNat from (by rw [List.length_take]; have h_ : (t1172 : Int) ≤ (l0.length : Int) := of_decide_eq_true (by first | (with_reducible assumption) | assumption); omega)] <;> rfl) | rfl | (simp only [List.length_drop, List.length_take]; rfl)) ?_
            with_reducible refine (spec_l6Root.calls k _ _ (l0.take (t1172 : Int).toNat) t1187 _ ?side1 ?side2 A32.out).mono ?_
            (case side1 => repeat (first | exact (Kd.C_below HR1186.out HB.out) | (with_reducible refine Kd.C_alloc ?_ _) | (with_reducible refine Kd.C_drewN ?_ _) | (with_reducible refine Kd.C_drew ?_)))
            (case side2 => exact HC1186.out)
            rintro e w38 ⟨rfl, hb⟩
            refine ⟨_, rfl, ?_⟩
            have n0_ := Aside0.mk (Kd.R_below (by (with_reducible repeat (first | apply Kd.R_alloc | apply Kd.R_drewN | apply Kd.R_drew)); exact HO1185.out) hb)
            have n1_ := Aside0.mk (below_step (by repeat (first | (with_reducible first | exact HB.out | apply below_alloc | apply pw_below_drewN | apply below_drew1) | exact HB.out)) hb)
            clear HO1185
            clear HB
            have HO1185 := n0_
            have HB := n1_
            clear n0_ n1_
            (try clear hb)
            (try clear hb2)
            (try clear hk)
            (try clear hi)
            refine hK.out _ _ trivial (fun hHeld => ?_)
            clear hK K
            refine norm_ (a' := ?_) ?_ ?_
            rotate_left
            · show Act.put _ (some 45) _ = _
              simp only [Act.put, List.setIfInBounds_toArray, List.set_cons_zero, List.set_cons_succ, i64_w, i32_w]
              rfl
            refine one_ (i := 11) (N := some 46) #[true, true, true, true, true, true, true, true, true, true, true, true, false, false] rfl rfl (one_of HT_.out (by kernel_rfl)) (by decide) (fun K hK => ?_)
            refine value_ (w1 := ?_) (v := ?_) (by rfl) rfl ?_ ?_
            rotate_left 2
            · go_simp
              constructor
              · rfl
              · rfl
            refine hK.out _ _ trivial (fun hHeld => ?_)
            clear hK K
            refine norm_ (a' := ?_) ?_ ?_
            rotate_left
            · show Act.put _ (some 46) _ = _
              simp only [Act.put, List.setIfInBounds_toArray, List.set_cons_zero, List.set_cons_succ, i64_w, i32_w]
              rfl
            refine one_ (i := 12) (N := some 47) #[true, true, true, true, true, true, true, true, true, true, true, true, true, false] rfl rfl (one_of HT_.out (by kernel_rfl)) (by decide) (fun K hK => ?_)
            refine Kd.R_append_step Kd.string (w0 := w) w.heap.size (by rfl) (.tmp 41) (.tmp 46) 44 9 (.string ⟨#[]⟩) 16 rfl Try.underlying44 info9 rfl (by decide) (by omega) v1184 t1183 t1187 [.string t1187] (fun _ => True) (fun _ => False) rfl rfl ?aP (fun _ hk => hk.elim) ?aF ?aO ?aB ?aS ?aL ?_
            (case aP => exact rfl)
            (case aB => exact (by repeat (first | (with_reducible first | exact HB.out | apply below_alloc | apply pw_below_drewN | apply below_drew1) | exact HB.out)))
            (case aF => exact (fun _ _ => trivial))
            (case aO => exact (by (with_reducible repeat (first | apply Kd.R_alloc | apply Kd.R_drewN | apply Kd.R_drew)); exact HO1185.out))
            (case aS => exact (below_size (by repeat (first | (with_reducible first | exact HB.out | apply below_alloc | apply pw_below_drewN | apply below_drew1) | exact HB.out))))
            (case aL => have := LMc33.out; omega)
            intro v1189 w39 ho hb hg hat
            rw [← Ny1188.out] at ho
            have n0_ := Aside0.mk (hb)
            have n1_ := Aside0.mk (ho)
            clear HB
            clear HO1185
            have HB := n0_
            have HO1190 := n1_
            clear n0_ n1_
            clear ho hb hg hat
            refine hK.out _ _ trivial (fun hHeld => ?_)
            clear hK K
            refine norm_ (a' := ?_) ?_ ?_
            rotate_left
            · show Act.put _ (some 47) _ = _
              simp only [Act.put, List.setIfInBounds_toArray, List.set_cons_zero, List.set_cons_succ, i64_w, i32_w]
              rfl
            refine pure_ (i := 13) (N := some 6) (v := ?_) (a' := ?_) #[true, true, true, true, true, true, true, true, true, true, true, true, true, true] rfl rfl (any_of HT_.out (by kernel_rfl)) (fun _ _ _ h => h) (Or.inl ⟨by rfl, ?_⟩) ?_ ?_
            rotate_left
            · intro w'
              go_simp
              with_reducible rfl
            rotate_left
            · simp only [Act.put, List.setIfInBounds_toArray, List.set_cons_zero, List.set_cons_succ, i64_w, i32_w]
              rfl
            refine done_ (done_of HT_.out (by kernel_rfl)) ?_
            try go_wp2
            go_ret
            exact ⟨_, by first | rfl | (simp [errW_none, errW_some] <;> rfl) | (simp [*, errW_none, errW_some] <;> rfl), by (with_reducible repeat (first | apply Kd.R_alloc | apply Kd.R_drewN | apply Kd.R_drew)); exact HO1190.out, by repeat (first | (with_reducible first | exact HB.out | apply below_alloc | apply pw_below_drewN | apply below_drew1) | exact HB.out)⟩
          · rw [if_neg c33] at H
            exact absurd H (by simp)
        · rw [if_neg c28] at H
          exact absurd H (by simp)
      · rw [if_neg c27] at H
        exact absurd H (by simp)

end Go.Proofs.Ytmkhhnfmahdijaa.X

namespace Go.Proofs.Ytmkhhnfmahdijaa.X
open Go.RowKit Go.Proofs.YtmkhhnfmahdijaaW.PrintWords Go.Proofs.YtmkhhnfmahdijaaW.PrintLast Go.Proofs.YtmkhhnfmahdijaaW.PrintMore
attribute [local go_sem] max2_int min2_int max_two min_two max_three min_three max_four min_four   -- for this text's walks alone
set_option linter.unusedVariables false
set_option linter.unusedSimpArgs false

/-! ### spec_GrowPath: function 82 -/
def spec_GrowPath.f (k : Nat) (l0 : List ByteArray) (a1 : Int) : Option (List ByteArray) := if (l0.length : Int) > 200 then (some (([] : List ByteArray))) else ((spec_l1In.f a1 1 (wrap64 ((l0.length : Int) - 1))).bind fun t1194 => (if t1194 = true then ((spec_l6Grow.f k l0 a1 true).bind fun t1195 => (some t1195)) else (some (([] : List ByteArray)))))
theorem spec_GrowPath.mono : ∀ a0 a1 k, LeO (spec_GrowPath.f k a0 a1) (spec_GrowPath.f (k + 1) a0 a1) := by
  intro a0 a1 k
  unfold spec_GrowPath.f
  repeat' first
      | (with_reducible exact spec_l6Grow.mono _ _ _ _)
      | (with_reducible exact LeO.refl _)
      | (with_reducible exact LeO.none _)
      | (with_reducible refine LeO.ite ?_ ?_)
      | (with_reducible refine LeO.bind ?_ (fun _ => ?_))
      | exact spec_l6Grow.mono _ _ _ _
      | exact LeO.none _
      | refine LeO.ite ?_ ?_
      | refine LeO.bind ?_ (fun _ => ?_)
set_option maxHeartbeats 8000000 in
set_option maxRecDepth 100000 in
theorem spec_GrowPath.calls (k : Nat) (A0 : Option Addr) (c0 : Nat) (l0 : List ByteArray) (a1 : Int) (r : List ByteArray) (w : World) (hr0 : Kd.C Kd.string w A0 l0.length l0) (hc0 : l0.length ≤ c0) (h : spec_GrowPath.f k l0 a1 = some r) :
    Calls Try.prog 82 #[.slice A0 l0.length c0, .int .i64 a1] w fun e w' => ∃ v0_ : Value, e = .returned (v0_) ∧ Kd.R Kd.string 9 w' w.heap.size (fun _ => True) v0_ r ∧ Below w.heap.size w w' := by
  have HR0 := Aside0.mk hr0
  have HC0 := Aside0.mk hc0
  clear hr0 hc0
  have HB := Aside0.mk (Below.refl w.heap.size w)
  have H : (if (l0.length : Int) > 200 then (some (([] : List ByteArray))) else ((spec_l1In.f a1 1 (wrap64 ((l0.length : Int) - 1))).bind fun t1194 => (if t1194 = true then ((spec_l6Grow.f k l0 a1 true).bind fun t1195 => (some t1195)) else (some (([] : List ByteArray)))))) = some r := h
  clear h
  by_cases c3 : (l0.length : Int) > 200
  · rw [if_pos c3] at H
    have c3b0 : decide (200 < (l0.length : Int)) = true := decide_eq_true c3
    have c3b1 : decide (200 < l0.length) = true := decide_eq_true (by omega)
    clear c3
    obtain ⟨y1191, hy1191⟩ : ∃ y_ : List ByteArray, y_ = (([] : List ByteArray)) := ⟨_, rfl⟩
    replace H : (some y1191) = some r := by first | (rw [hy1191]; with_reducible exact H) | (have H2_ := (Option.bind_some _ _).symm.trans H; rw [hy1191]; with_reducible exact H2_) | (have H2_ := (Option.bind_some _ _).symm.trans H; with_reducible exact H2_) | with_reducible exact H | (rw [hy1191]; exact H) | exact H
    have Ny1191 := Aside0.mk hy1191
    clear hy1191
    obtain rfl := Option.some.inj H
    go_enter Try.func82, Try.ntmps82
    go_wp2_with (first | ((with_reducible refine gate_dst (N := 16) rfl ?_); (try (refine gate_guard (by rfl) ?_; dsimp only)); refine Kd.R_lit Kd.string _ 9 ?hg (N := 16) ?hd (xs := ([] : List ByteArray)) (inner := []) (ok := fun _ => True) (okp := fun _ => True) ?hr ?hp (fun _ hk => hk) trivial (Below.refl _ _) (Nat.le_refl _) (by simp) ?_; (case hd => rfl); (case hg => rfl); (case hr => first | (go_simp; done) | (go_simp; rfl)); (case hp => exact (Reps.none _ _)); intro v1192 w4 ho5 hb hg_ hnew_; clear hg_ hnew_; (first | rw [← Ny1191.out] at ho5 | (simp only [Int.reduceToNat] at ho5; rw [← Ny1191.out] at ho5)); have n0_ := Aside0.mk (Kd.R_lower ho5 (below_size (by repeat (first | (with_reducible first | exact HB.out | apply below_alloc | apply pw_below_drewN | apply below_drew1) | exact HB.out)))); have n1_ := Aside0.mk (below_step (by repeat (first | (with_reducible first | exact HB.out | apply below_alloc | apply pw_below_drewN | apply below_drew1) | exact HB.out)) hb); clear HB; have HO1193 := n0_; have HB := n1_; clear n0_ n1_; clear hb ho5))
    go_ret
    exact ⟨_, by first | rfl | (simp [errW_none, errW_some] <;> rfl) | (simp [*, errW_none, errW_some] <;> rfl), by (with_reducible repeat (first | apply Kd.R_alloc | apply Kd.R_drewN | apply Kd.R_drew)); exact HO1193.out, by repeat (first | (with_reducible first | exact HB.out | apply below_alloc | apply pw_below_drewN | apply below_drew1) | exact HB.out)⟩
  · rw [if_neg c3] at H
    have c3b0 : decide (200 < (l0.length : Int)) = false := decide_eq_false c3
    have c3b1 : decide (200 < l0.length) = false := decide_eq_false (by omega)
    clear c3
    replace H := Option.bind_eq_some_iff.mp H
    obtain ⟨t1194, A60, H⟩ := H
    replace H : (if t1194 = true then ((spec_l6Grow.f k l0 a1 true).bind fun t1195 => (some t1195)) else (some (([] : List ByteArray)))) = some r := H
    have A6 := Aside0.mk A60
    clear A60
    by_cases c7 : t1194 = true
    · subst c7
      have H1 : ((spec_l6Grow.f k l0 a1 true).bind fun t1195 => (some t1195)) = some r := by rw [if_pos rfl] at H; exact H
      clear H
      have H := H1
      clear H1
      replace H := Option.bind_eq_some_iff.mp H
      obtain ⟨t1195, A80, H⟩ := H
      replace H : (some t1195) = some r := H
      have A8 := Aside0.mk A80
      clear A80
      obtain rfl := Option.some.inj H
      go_enter Try.func82, Try.ntmps82
      go_wp2_with (first | (go_at_call 95; (with_reducible refine (spec_l1In.calls a1 1 (wrap64 ((l0.length : Int) - 1)) true _ A6.out).mono ?_); rintro e w' ⟨rfl, ⟨nd, rfl⟩⟩) | ((with_reducible refine gate_callee (f := 117) rfl ?_); refine goesL_ (some 19) rfl rfl Try.func117 (by kernel_rfl) rfl #[.slice A0 l0.length c0, .int .i64 a1, .bool true] rfl (by (try simp only [List.map_toArray, List.map_cons, List.map_nil]); first | done | rfl | (simp only [List.length_drop, List.length_take]; rfl)) ?_; (with_reducible refine (spec_l6Grow.calls k _ _ l0 a1 true t1195 _ ?side1 ?side2 A8.out).mono ?_); (case side1 => repeat (first | exact HR0.out | (with_reducible refine Kd.C_alloc ?_ _) | (with_reducible refine Kd.C_drewN ?_ _) | (with_reducible refine Kd.C_drew ?_))); (case side2 => exact HC0.out); rintro e w9 ⟨v1196, rfl, ho0, hb⟩; refine ⟨_, rfl, ?_⟩; have n0_ := Aside0.mk (Kd.R_lower ho0 (below_size (by repeat (first | (with_reducible first | exact HB.out | apply below_alloc | apply pw_below_drewN | apply below_drew1) | exact HB.out)))); have n1_ := Aside0.mk (below_step (by repeat (first | (with_reducible first | exact HB.out | apply below_alloc | apply pw_below_drewN | apply below_drew1) | exact HB.out)) hb); clear HB; have HO1197 := n0_; have HB := n1_; clear n0_ n1_; (try clear hb); (try clear hb2); (try clear hk); (try clear hi); (try clear ho0)))
      go_ret
      exact ⟨_, by first | rfl | (simp [errW_none, errW_some] <;> rfl) | (simp [*, errW_none, errW_some] <;> rfl), by (with_reducible repeat (first | apply Kd.R_alloc | apply Kd.R_drewN | apply Kd.R_drew)); exact HO1197.out, by repeat (first | (with_reducible first | exact HB.out | apply below_alloc | apply pw_below_drewN | apply below_drew1) | exact HB.out)⟩
    · replace c7 := Bool.eq_false_iff.mpr c7
      subst c7
      have H1 : (some (([] : List ByteArray))) = some r := by rw [if_neg (show ¬ (false = true) by decide)] at H; exact H
      clear H
      have H := H1
      clear H1
      obtain ⟨y1198, hy1198⟩ : ∃ y_ : List ByteArray, y_ = (([] : List ByteArray)) := ⟨_, rfl⟩
      replace H : (some y1198) = some r := by first | (rw [hy1198]; with_reducible exact H) | (have H2_ := (Option.bind_some _ _).symm.trans H; rw [hy1198]; with_reducible exact H2_) | (have H2_ := (Option.bind_some _ _).symm.trans H; with_reducible exact H2_) | with_reducible exact H | (rw [hy1198]; exact H) | exact H
      have Ny1198 := Aside0.mk hy1198
      clear hy1198
      obtain rfl := Option.some.inj H
      go_enter Try.func82, Try.ntmps82
      go_wp2_with (first | (go_at_call 95; (with_reducible refine (spec_l1In.calls a1 1 (wrap64 ((l0.length : Int) - 1)) false _ A6.out).mono ?_); rintro e w' ⟨rfl, ⟨nd, rfl⟩⟩) | ((with_reducible refine gate_dst (N := 16) rfl ?_); (try (refine gate_guard (by rfl) ?_; dsimp only)); refine Kd.R_lit Kd.string _ 9 ?hg (N := 16) ?hd (xs := ([] : List ByteArray)) (inner := []) (ok := fun _ => True) (okp := fun _ => True) ?hr ?hp (fun _ hk => hk) trivial (Below.refl _ _) (Nat.le_refl _) (by simp) ?_; (case hd => rfl); (case hg => rfl); (case hr => first | (go_simp; done) | (go_simp; rfl)); (case hp => exact (Reps.none _ _)); intro v1199 w10 ho11 hb hg_ hnew_; clear hg_ hnew_; (first | rw [← Ny1198.out] at ho11 | (simp only [Int.reduceToNat] at ho11; rw [← Ny1198.out] at ho11)); have n0_ := Aside0.mk (Kd.R_lower ho11 (below_size (by repeat (first | (with_reducible first | exact HB.out | apply below_alloc | apply pw_below_drewN | apply below_drew1) | exact HB.out)))); have n1_ := Aside0.mk (below_step (by repeat (first | (with_reducible first | exact HB.out | apply below_alloc | apply pw_below_drewN | apply below_drew1) | exact HB.out)) hb); clear HB; have HO1200 := n0_; have HB := n1_; clear n0_ n1_; clear hb ho11))
      go_ret
      exact ⟨_, by first | rfl | (simp [errW_none, errW_some] <;> rfl) | (simp [*, errW_none, errW_some] <;> rfl), by (with_reducible repeat (first | apply Kd.R_alloc | apply Kd.R_drewN | apply Kd.R_drew)); exact HO1200.out, by repeat (first | (with_reducible first | exact HB.out | apply below_alloc | apply pw_below_drewN | apply below_drew1) | exact HB.out)⟩

end Go.Proofs.Ytmkhhnfmahdijaa.X

/- Trees of digests: halves, roots, paths, the program's and the reference's: the same. Plain lemmas. -/
set_option linter.unusedVariables false
namespace Go.Proofs.Ytmkhhnfmahdijaa.Z
open Go.RowKit Go.Proofs.YtmkhhnfmahdijaaW.PrintWords Go.Proofs.YtmkhhnfmahdijaaW.PrintMore Go.Proofs.Ytmkhhnfmahdijaa.X

/-- Doubling c as long as twice it is less than n. -/
def hl (n c : Nat) : Nat := if h : 1 ≤ c ∧ 2 * c < n then hl n (2 * c) else c
termination_by n - c
decreasing_by omega
theorem hl_both (n : Nat) (hn : n ≤ 1000000000) (d : Nat) : ∀ c : Nat, n - c ≤ d → 1 ≤ c → c < n → Ev (fun k => impl_half.l0 k (n : Int) (c : Int)) (hl n c : Int) ∧ Ev (fun k => spec_l6Half.l0 k (n : Int) (c : Int)) (hl n c : Int) ∧ c ≤ hl n c ∧ hl n c < n := by
  induction d with
  | zero => intro c h1 h2 h3; omega
  | succ d ih =>
    intro c h1 h2 h3
    have e : wrap64 (2 * (c : Int)) = ((2 * c : Nat) : Int) := by rw [w64 (by omega)]; omega
    have e' : wrap64 ((c : Int) * 2) = ((2 * c : Nat) : Int) := by rw [w64 (by omega)]; omega
    by_cases hc : 2 * c < n
    · obtain ⟨a, b, g, g'⟩ := ih (2 * c) (by omega) (by omega) hc
      rw [hl, dif_pos ⟨h2, hc⟩]
      refine ⟨?_, ?_, by omega, g'⟩
      · refine evS (fun k => by rw [impl_half.l0]) ?_
        rw [e, e']
        exact evT (by omega) a
      · refine evS (fun k => by rw [spec_l6Half.l0]) ?_
        rw [e]
        exact evT (by omega) b
    · rw [hl, dif_neg (fun h => hc h.2)]
      refine ⟨?_, ?_, by omega, h3⟩
      · refine evS (fun k => by rw [impl_half.l0]) ?_
        rw [e]
        exact evF (by omega) (evR rfl)
      · refine evS (fun k => by rw [spec_l6Half.l0]) ?_
        rw [e]
        exact evF (by omega) (evR rfl)
/-- The greatest power of two below n. -/
def hf (n : Nat) : Nat := hl n 1
theorem hf_impl {n : Nat} (h2 : 2 ≤ n) (hn : n ≤ 1000000000) : Ev (fun k => impl_half.f k (n : Int)) (hf n : Int) := (hl_both n hn n 1 (by omega) (by omega) (by omega)).1
theorem hf_spec {n : Nat} (h2 : 2 ≤ n) (hn : n ≤ 1000000000) : Ev (fun k => spec_l6Half.f k (n : Int)) (hf n : Int) := (hl_both n hn n 1 (by omega) (by omega) (by omega)).2.1
theorem hl_ge (n d : Nat) : ∀ c : Nat, n - c ≤ d → 1 ≤ c → c < n → c ≤ hl n c ∧ hl n c < n := by
  induction d with
  | zero => intro c h1 h2 h3; omega
  | succ d ih =>
    intro c h1 h2 h3
    by_cases hc : 2 * c < n
    · obtain ⟨g, g'⟩ := ih (2 * c) (by omega) (by omega) hc
      rw [hl, dif_pos ⟨h2, hc⟩]
      omega
    · rw [hl, dif_neg (fun h => hc h.2)]
      omega
theorem hf_lt {n : Nat} (h2 : 2 ≤ n) : 1 ≤ hf n ∧ hf n < n := hl_ge n n 1 (by omega) (by omega) (by omega)
/-- The root of texts. -/
def root (l : List ByteArray) : ByteArray :=
  if h : l.length < 2 then (match l with | [] => dig [] | a :: _ => leaf a)
  else node (root (l.take (hf l.length))) (root (l.drop (hf l.length)))
termination_by l.length
decreasing_by
  · have := hf_lt (n := l.length) (by omega); simp; omega
  · have := hf_lt (n := l.length) (by omega); simp; omega
theorem root_nil : root [] = dig [] := by rw [root]; rfl
theorem root_one (a : ByteArray) : root [a] = leaf a := by rw [root]; rfl
theorem root_more {l : List ByteArray} (h : ¬ l.length < 2) : root l = node (root (l.take (hf l.length))) (root (l.drop (hf l.length))) := by rw [root, dif_neg h]
theorem root_size (l : List ByteArray) : (root l).size = 32 := by
  by_cases h : l.length < 2
  · match l, h with
    | [], _ => rw [root_nil]; exact dig_size _
    | [a], _ => rw [root_one]; exact leaf_size a
  · rw [root_more h]
    exact node_size _ _
/-- Texts that are not too long. -/
def Fit (l : List ByteArray) : Prop := ∀ y ∈ l, y.size ≤ 10000000000
theorem Fit.take {l : List ByteArray} (h : Fit l) (n : Nat) : Fit (l.take n) := fun y hy => h y (List.mem_of_mem_take hy)
theorem Fit.drop {l : List ByteArray} (h : Fit l) (n : Nat) : Fit (l.drop n) := fun y hy => h y (List.mem_of_mem_drop hy)
theorem root_both : ∀ (n : Nat) (l : List ByteArray), l.length = n → n ≤ 1000000000 → Fit l → Ev (fun k => impl_rootOf.f k l) (root l) ∧ Ev (fun k => spec_l6Root.f k l) (root l) := by
  intro n
  induction n using Nat.strongRecOn with
  | ind n ih =>
    intro l hl hn hf'
    by_cases h2 : l.length < 2
    · match l, h2 with
      | [], _ =>
        rw [root_nil]
        constructor
        · refine evS (fun k => by rw [impl_rootOf.f]) ?_
          exact evT rfl (evB (implDigest_ev [] (by simp)) (evR rfl))
        · refine evS (fun k => by rw [spec_l6Root.f]) ?_
          exact evT rfl (evB (specDigest_ev [] (by simp) (by simp)) (evR rfl))
      | [a], _ =>
        rw [root_one]
        have ha := hf' a (by simp)
        constructor
        · refine evS (fun k => by rw [impl_rootOf.f]) ?_
          exact evF (by simp) (evT rfl (evT (by simp) (evB (implLeaf_ev a ha) (evR rfl))))
        · refine evS (fun k => by rw [spec_l6Root.f]) ?_
          exact evF (by simp) (evT rfl (evT (by simp) (evB (specLeaf_ev a ha) (evR rfl))))
    · obtain ⟨g1, g2⟩ := hf_lt (n := l.length) (by omega)
      have hA := hf_impl (n := l.length) (by omega) (by omega)
      have hB := hf_spec (n := l.length) (by omega) (by omega)
      rw [root_more h2]
      generalize hf l.length = c at *
      obtain ⟨i1, s1⟩ := ih c (by omega) (l.take c) (by simp; omega) (by omega) (hf'.take c)
      obtain ⟨i2, s2⟩ := ih (l.length - c) (by omega) (l.drop c) (by simp) (by omega) (hf'.drop c)
      have z1 := root_size (l.take c)
      have z2 := root_size (l.drop c)
      have ec : ((c : Nat) : Int).toNat = c := by omega
      constructor
      · refine evS (fun k => by rw [impl_rootOf.f]) ?_
        refine evF (by omega) (evF (by omega) (evB hA ?_))
        rw [ec]
        exact evT (by omega) (evT (by omega) (evB i1 (evB i2 (evB (implNode_ev _ _ (by omega) (by omega)) (evR rfl)))))
      · refine evS (fun k => by rw [spec_l6Root.f]) ?_
        refine evF (by omega) (evF (by omega) (evB hB ?_))
        rw [ec]
        exact evT (by omega) (evT (by omega) (evB s1 (evB s2 (evB (specNode_ev _ _ (by omega) (by omega)) (evR rfl)))))
/-- The path of the i-th. -/
def path (l : List ByteArray) (i : Int) : List ByteArray :=
  if h : l.length < 2 then []
  else if i < hf l.length then path (l.take (hf l.length)) i ++ [root (l.drop (hf l.length))] else path (l.drop (hf l.length)) (i - hf l.length) ++ [root (l.take (hf l.length))]
termination_by l.length
decreasing_by
  · have := hf_lt (n := l.length) (by omega); simp; omega
  · have := hf_lt (n := l.length) (by omega); simp; omega
theorem path_small {l : List ByteArray} (h : l.length < 2) (i : Int) : path l i = [] := by rw [path, dif_pos h]
theorem path_more {l : List ByteArray} (h : ¬ l.length < 2) (i : Int) : path l i = if i < hf l.length then path (l.take (hf l.length)) i ++ [root (l.drop (hf l.length))] else path (l.drop (hf l.length)) (i - hf l.length) ++ [root (l.take (hf l.length))] := by rw [path, dif_neg h]
theorem path_both : ∀ (n : Nat) (l : List ByteArray) (i : Int), l.length = n → 1 ≤ n → n ≤ 1000000000 → 0 ≤ i → i ≤ 1000000000 → Fit l → Ev (fun k => impl_inPath.f k l i) (path l i) ∧ Ev (fun k => spec_l6Path.f k l i) (path l i) ∧ (path l i).length ≤ n ∧ ∀ y ∈ path l i, y.size = 32 := by
  intro n
  induction n using Nat.strongRecOn with
  | ind n ih =>
    intro l i hl h1 hn hi hi' hf'
    by_cases h2 : l.length < 2
    · rw [path_small h2]
      refine ⟨?_, ?_, by simp, by simp⟩
      · refine evS (fun k => by rw [impl_inPath.f]) ?_
        exact evT (by omega) (evR rfl)
      · refine evS (fun k => by rw [spec_l6Path.f]) ?_
        exact evT (by omega) (evR rfl)
    · obtain ⟨g1, g2⟩ := hf_lt (n := l.length) (by omega)
      have hA := hf_impl (n := l.length) (by omega) (by omega)
      have hB := hf_spec (n := l.length) (by omega) (by omega)
      rw [path_more h2]
      generalize hf l.length = c at *
      obtain ⟨i1, s1⟩ := root_both c (l.take c) (by simp; omega) (by omega) (hf'.take c)
      obtain ⟨i2, s2⟩ := root_both (l.length - c) (l.drop c) (by simp) (by omega) (hf'.drop c)
      have z1 := root_size (l.take c)
      have z2 := root_size (l.drop c)
      have ec : ((c : Nat) : Int).toNat = c := by omega
      by_cases hic : i < c
      · obtain ⟨a, b, g, g'⟩ := ih c (by omega) (l.take c) i (by simp; omega) g1 (by omega) hi hi' (hf'.take c)
        rw [if_pos hic]
        refine ⟨?_, ?_, by simp; omega, ?_⟩
        · refine evS (fun k => by rw [impl_inPath.f]) ?_
          refine evF (by omega) (evB hA ?_)
          rw [ec]
          exact evT hic (evT (by omega) (evT (by omega) (evB a (evB i2 (evT (by omega) (evR rfl))))))
        · refine evS (fun k => by rw [spec_l6Path.f]) ?_
          refine evF (by omega) (evB hB ?_)
          rw [ec]
          exact evT hic (evT (by omega) (evT (by omega) (evB b (evB s2 (evT (by omega) (evR rfl))))))
        · intro y hy
          rcases List.mem_append.1 hy with h | h
          · exact g' y h
          · rw [List.mem_singleton.1 h]; exact z2
      · obtain ⟨a, b, g, g'⟩ := ih (l.length - c) (by omega) (l.drop c) (i - c) (by simp) (by omega) (by omega) (by omega) (by omega) (hf'.drop c)
        have ew : wrap64 (i - (c : Int)) = i - c := w64 (by omega)
        rw [if_neg hic]
        refine ⟨?_, ?_, by simp; omega, ?_⟩
        · refine evS (fun k => by rw [impl_inPath.f]) ?_
          refine evF (by omega) (evB hA ?_)
          rw [ec, ew]
          exact evF hic (evT (by omega) (evT (by omega) (evB a (evB i1 (evT (by omega) (evR rfl))))))
        · refine evS (fun k => by rw [spec_l6Path.f]) ?_
          refine evF (by omega) (evB hB ?_)
          rw [ec, ew]
          exact evF hic (evT (by omega) (evT (by omega) (evB b (evB s1 (evT (by omega) (evR rfl))))))
        · intro y hy
          rcases List.mem_append.1 hy with h | h
          · exact g' y h
          · rw [List.mem_singleton.1 h]; exact z1
/-- The path of the first n. -/
def grow (l : List ByteArray) (n : Int) (w : Bool) : List ByteArray :=
  if n = l.length then (if w = true then [] else [root l])
  else if h : l.length < 2 then []
  else if n ≤ hf l.length then grow (l.take (hf l.length)) n w ++ [root (l.drop (hf l.length))] else grow (l.drop (hf l.length)) (n - hf l.length) false ++ [root (l.take (hf l.length))]
termination_by l.length
decreasing_by
  · have := hf_lt (n := l.length) (by omega); simp; omega
  · have := hf_lt (n := l.length) (by omega); simp; omega
theorem grow_all {l : List ByteArray} {n : Int} (h : n = l.length) (w : Bool) : grow l n w = if w = true then [] else [root l] := by rw [grow, if_pos h]
theorem grow_more {l : List ByteArray} {n : Int} (h : ¬ n = l.length) (h2 : ¬ l.length < 2) (w : Bool) : grow l n w = if n ≤ hf l.length then grow (l.take (hf l.length)) n w ++ [root (l.drop (hf l.length))] else grow (l.drop (hf l.length)) (n - hf l.length) false ++ [root (l.take (hf l.length))] := by rw [grow, if_neg h, dif_neg h2]
theorem grow_both : ∀ (m : Nat) (l : List ByteArray) (n : Int) (w : Bool), l.length = m → m ≤ 1000000000 → 1 ≤ n → n ≤ m → Fit l → Ev (fun k => impl_growFrom.f k l n w) (grow l n w) ∧ Ev (fun k => spec_l6Grow.f k l n w) (grow l n w) ∧ (grow l n w).length ≤ m ∧ ∀ y ∈ grow l n w, y.size = 32 := by
  intro m
  induction m using Nat.strongRecOn with
  | ind m ih =>
    intro l n w hl hm h1 hn hf'
    by_cases hnl : n = l.length
    · rw [grow_all hnl]
      obtain ⟨i1, s1⟩ := root_both m l hl hm hf'
      have z1 := root_size l
      cases w with
      | true =>
        refine ⟨?_, ?_, by simp, by simp⟩
        · refine evS (fun k => by rw [impl_growFrom.f]) ?_
          exact evT hnl (evT rfl (evR rfl))
        · refine evS (fun k => by rw [spec_l6Grow.f]) ?_
          exact evT hnl (evT rfl (evR rfl))
      | false =>
        refine ⟨?_, ?_, by simp; omega, by intro y hy; simp at hy; rw [hy]; exact z1⟩
        · refine evS (fun k => by rw [impl_growFrom.f]) ?_
          exact evT hnl (evF (by simp) (evB i1 (evR rfl)))
        · refine evS (fun k => by rw [spec_l6Grow.f]) ?_
          exact evT hnl (evF (by simp) (evB s1 (evR rfl)))
    · have h2 : ¬ l.length < 2 := by omega
      obtain ⟨g1, g2⟩ := hf_lt (n := l.length) (by omega)
      have hA := hf_impl (n := l.length) (by omega) (by omega)
      have hB := hf_spec (n := l.length) (by omega) (by omega)
      rw [grow_more hnl h2]
      generalize hf l.length = c at *
      obtain ⟨i1, s1⟩ := root_both c (l.take c) (by simp; omega) (by omega) (hf'.take c)
      obtain ⟨i2, s2⟩ := root_both (l.length - c) (l.drop c) (by simp) (by omega) (hf'.drop c)
      have z1 := root_size (l.take c)
      have z2 := root_size (l.drop c)
      have ec : ((c : Nat) : Int).toNat = c := by omega
      by_cases hic : n ≤ c
      · obtain ⟨a, b, g, g'⟩ := ih c (by omega) (l.take c) n w (by simp; omega) (by omega) h1 hic (hf'.take c)
        rw [if_pos hic]
        refine ⟨?_, ?_, by simp; omega, ?_⟩
        · refine evS (fun k => by rw [impl_growFrom.f]) ?_
          refine evF hnl (evB hA ?_)
          rw [ec]
          exact evT hic (evT (by omega) (evT (by omega) (evB a (evB i2 (evT (by omega) (evR rfl))))))
        · refine evS (fun k => by rw [spec_l6Grow.f]) ?_
          refine evF hnl (evB hB ?_)
          rw [ec]
          exact evT hic (evT (by omega) (evT (by omega) (evB b (evB s2 (evT (by omega) (evR rfl))))))
        · intro y hy
          rcases List.mem_append.1 hy with h | h
          · exact g' y h
          · rw [List.mem_singleton.1 h]; exact z2
      · obtain ⟨a, b, g, g'⟩ := ih (l.length - c) (by omega) (l.drop c) (n - c) false (by simp) (by omega) (by omega) (by omega) (hf'.drop c)
        have ew : wrap64 (n - (c : Int)) = n - c := w64 (by omega)
        rw [if_neg hic]
        refine ⟨?_, ?_, by simp; omega, ?_⟩
        · refine evS (fun k => by rw [impl_growFrom.f]) ?_
          refine evF hnl (evB hA ?_)
          rw [ec, ew]
          exact evF hic (evT (by omega) (evT (by omega) (evB a (evB i1 (evT (by omega) (evR rfl))))))
        · refine evS (fun k => by rw [spec_l6Grow.f]) ?_
          refine evF hnl (evB hB ?_)
          rw [ec, ew]
          exact evF hic (evT (by omega) (evT (by omega) (evB b (evB s1 (evT (by omega) (evR rfl))))))
        · intro y hy
          rcases List.mem_append.1 hy with h | h
          · exact g' y h
          · rw [List.mem_singleton.1 h]; exact z1
end Go.Proofs.Ytmkhhnfmahdijaa.Z

/- RootOf, InPath, GrowPath whole, the program's and the reference's. Plain lemmas. -/
set_option linter.unusedVariables false
namespace Go.Proofs.Ytmkhhnfmahdijaa.Z
open Go.RowKit Go.Proofs.YtmkhhnfmahdijaaW.PrintWords Go.Proofs.YtmkhhnfmahdijaaW.PrintMore Go.Proofs.Ytmkhhnfmahdijaa.X

def rootOf (l : List ByteArray) : ByteArray := if (l.length : Int) > 200 then ⟨#[]⟩ else root l
theorem rootOf_both (l : List ByteArray) (h : Fit l) : Ev (fun k => impl_RootOf.f k l) (rootOf l) ∧ Ev (fun k => spec_RootOf.f k l) (rootOf l) := by
  unfold rootOf impl_RootOf.f spec_RootOf.f
  by_cases hl : (l.length : Int) > 200
  · rw [if_pos hl]
    exact ⟨evT hl (evR rfl), evT hl (evR rfl)⟩
  · rw [if_neg hl]
    obtain ⟨a, b⟩ := root_both l.length l rfl (by omega) h
    exact ⟨evF hl (evB a (evR rfl)), evF hl (evB b (evR rfl))⟩
theorem rng_impl (a b c : Int) : impl_inRange.f a b c = some (decide (b ≤ a ∧ a ≤ c)) := by
  unfold impl_inRange.f
  by_cases h : a ≥ b
  · rw [if_pos h]
    simp [show b ≤ a from h]
  · rw [if_neg h]
    simp [show ¬ b ≤ a from h]
theorem rng_spec (a b c : Int) : spec_l1In.f a b c = some (decide (b ≤ a ∧ a ≤ c)) := by
  unfold spec_l1In.f
  by_cases h : a ≥ b
  · rw [if_pos h]
    simp [show b ≤ a from h]
  · rw [if_neg h]
    simp [show ¬ b ≤ a from h]
def inPathB (l : List ByteArray) (i : Int) : List ByteArray := if (l.length : Int) > 200 then [] else if 0 ≤ i ∧ i ≤ (l.length : Int) - 1 then path l i else []
theorem inPath_both (l : List ByteArray) (i : Int) (h : Fit l) : Ev (fun k => impl_InPath.f k l i) (inPathB l i) ∧ Ev (fun k => spec_InPath.f k l i) (inPathB l i) ∧ (inPathB l i).length ≤ 200 := by
  unfold inPathB impl_InPath.f spec_InPath.f
  by_cases hl : (l.length : Int) > 200
  · rw [if_pos hl]
    exact ⟨evT hl (evR rfl), evT hl (evR rfl), by simp⟩
  · rw [if_neg hl, w64 (x := (l.length : Int) - 1) (by omega), rng_impl, rng_spec]
    by_cases hi : 0 ≤ i ∧ i ≤ (l.length : Int) - 1
    · rw [if_pos hi, decide_eq_true hi]
      obtain ⟨a, b, c, _⟩ := path_both l.length l i rfl (by omega) (by omega) hi.1 (by omega) h
      exact ⟨evF hl (evC rfl (evT rfl (evB a (evR rfl)))), evF hl (evC rfl (evT rfl (evB b (evR rfl)))), by omega⟩
    · rw [if_neg hi, decide_eq_false hi]
      exact ⟨evF hl (evC rfl (evF Bool.false_ne_true (evR rfl))), evF hl (evC rfl (evF Bool.false_ne_true (evR rfl))), by simp⟩
def growPathB (l : List ByteArray) (n : Int) : List ByteArray := if (l.length : Int) > 200 then [] else if 1 ≤ n ∧ n ≤ (l.length : Int) - 1 then grow l n true else []
theorem growPath_both (l : List ByteArray) (n : Int) (h : Fit l) : Ev (fun k => impl_GrowPath.f k l n) (growPathB l n) ∧ Ev (fun k => spec_GrowPath.f k l n) (growPathB l n) ∧ (growPathB l n).length ≤ 200 := by
  unfold growPathB impl_GrowPath.f spec_GrowPath.f
  by_cases hl : (l.length : Int) > 200
  · rw [if_pos hl]
    exact ⟨evT hl (evR rfl), evT hl (evR rfl), by simp⟩
  · rw [if_neg hl, w64 (x := (l.length : Int) - 1) (by omega), rng_impl, rng_spec]
    by_cases hi : 1 ≤ n ∧ n ≤ (l.length : Int) - 1
    · rw [if_pos hi, decide_eq_true hi]
      obtain ⟨a, b, c, _⟩ := grow_both l.length l n true rfl (by omega) hi.1 (by omega) h
      exact ⟨evF hl (evC rfl (evT rfl (evB a (evR rfl)))), evF hl (evC rfl (evT rfl (evB b (evR rfl)))), by omega⟩
    · rw [if_neg hi, decide_eq_false hi]
      exact ⟨evF hl (evC rfl (evF Bool.false_ne_true (evR rfl))), evF hl (evC rfl (evF Bool.false_ne_true (evR rfl))), by simp⟩
end Go.Proofs.Ytmkhhnfmahdijaa.Z

/- The law FnExactRootOf, as a plain statement: the program's RootOf answers as the reference's, and leaves its argument alone. Conditions: those of the row's reading alone. -/
namespace Go.Proofs.Ytmkhhnfmahdijaa.Pure
open Go.RowKit Go.Proofs.Ytmkhhnfmahdijaa.X Go.Proofs.Ytmkhhnfmahdijaa.Z Go.Proofs.YtmkhhnfmahdijaaW.PrintWords Go.Proofs.YtmkhhnfmahdijaaW.PrintLast
theorem FnExactRootOf : laws_FnExactRootOf.Pure := by
  intro l h2 h3
  refine Ev.rounds ?_
  unfold laws_FnExactRootOf.f
  obtain ⟨q, hq, hq2⟩ := szStringS_ev l h2 h3 1048576 (by omega) (by omega)
  refine evB hq (evI (fun _ => evR rfl) (fun hn => ?_))
  have hT := toStringS_ev l (by omega)
  have hF : Fit l := fun y hy => by have := total_mem hy; omega
  obtain ⟨i, s⟩ := rootOf_both l hF
  exact evB hT (evB s (evB hT (evB i (evT rfl (evB hT (evB (eqStringS_same l (by omega)) (evT rfl (evR rfl))))))))
end Go.Proofs.Ytmkhhnfmahdijaa.Pure

/- Values that come in as data (strings' slices, structs, slices of structs, nested) are of the printer's kinds: one lemma a make of type. Plain lemmas for the rows of laws over such parameters. No conditions beyond what each lemma names. -/
set_option linter.unusedVariables false
namespace Go.Proofs.Ytmkhhnfmahdijaa.Y
open Go.RowKit Go.Proofs.YtmkhhnfmahdijaaW.PrintWords Go.ChangeShapes Go.WideShapes Go.Deep

/-- What is read as data of type T is of kind d, and G holds of what it says. -/
def Opn {α : Type} (P : Program) (d : Kd α) (T : TypeId) (G : α → Prop) : Prop :=
  ∀ {H : Type} (enc : TypeId × Value → H) (w : World) (spare : Nat → Bool) (held : Bool) (fuel : Nat) (cs : List Value) (x : DataW H × List MemPlace), DataW.trod enc P w 0 spare held fuel T cs = some x → ∃ y, d.K w y cs ∧ G y

theorem Opn.int {P : Program} {T : TypeId} {k : IntKind} (h : P.underlying T = some (.int k)) : Opn P (Kd.int k) T (fun n => (Lit.int k n).wf = true) := by
  intro H enc w spare held fuel cs x hx
  obtain ⟨n, rfl, _, hn⟩ := DataW.trod_int h hx
  exact ⟨n, rfl, hn⟩
theorem Opn.bool {P : Program} {T : TypeId} (h : P.underlying T = some .bool) : Opn P Kd.bool T (fun _ => True) := by
  intro H enc w spare held fuel cs x hx
  obtain ⟨n, rfl, _⟩ := DataW.trod_bool h hx
  exact ⟨n, rfl, trivial⟩
theorem Opn.string {P : Program} {T : TypeId} (h : P.underlying T = some .string) : Opn P Kd.string T (fun s => s.size ≤ maxLen) := by
  intro H enc w spare held fuel cs x hx
  obtain ⟨s, rfl, _, hs⟩ := DataW.trod_string h hx
  exact ⟨s, rfl, hs⟩
theorem Opn.slice {α : Type} {P : Program} {d : Kd α} {T e : TypeId} {G : α → Prop} [Inhabited α] (h : P.underlying T = some (.slice e)) (he : P.cellsOf e = d.sz) (ho : Opn P d e G) :
    Opn P (Kd.slice e d) T (fun l => l.length ≤ maxLen ∧ ∀ y, y ∈ l → G y) := by
  intro H enc w spare held fuel cs x hx
  rcases open_slice h hx with ⟨rfl, _⟩ | ⟨a, len, cap, m, n, D, Pl, rfl, _, hl, hm, hmm, _, hel⟩
  · exact ⟨[], ⟨none, 0, rfl, Nat.le_refl _, rfl, by simp, fun hn => absurd hn (Nat.lt_irrefl 0)⟩, by simp, fun y hy => by cases hy⟩
  · have hlm : len ≤ m := by rw [hmm]; split <;> omega
    have each : ∀ i, i < len → ∃ y, (∃ c, c.length = d.sz ∧ d.K w y c ∧ ∀ j u, c[j]? = some u → w.cell? (a.add (i * d.sz + j)) = some u) ∧ G y := by
      intro i hi
      obtain ⟨c, hc, ht⟩ := hel i (by omega)
      obtain ⟨y, hk, hg⟩ := ho enc w spare held n c _ ht
      obtain ⟨_, hlen, hcell⟩ := World.cells?_some hc
      refine ⟨y, ⟨c, hlen.trans he, hk, fun j u hu => ?_⟩, hg⟩
      have hj : j < P.cellsOf e := by rw [← hlen]; exact (List.getElem?_eq_some_iff.1 hu).1
      have := hcell j hj
      rw [Go.Deep.add_add, hu, he] at this
      exact this
    obtain ⟨f, hf⟩ := choose_lt each
    have hlen : ((List.range len).map f).length = len := by simp
    have hm' : len ≤ maxLen := Nat.le_trans hl hm
    refine ⟨(List.range len).map f, ⟨some a, cap, by rw [hlen], by rw [hlen]; exact hl, by rw [hlen], by rw [hlen]; unfold maxLen at hm'; exact hm', fun _ => ⟨a, rfl, fun j p hp => ?_⟩⟩, by rw [hlen]; exact hm', fun y hy => ?_⟩
    · obtain ⟨hj, rfl⟩ := List.getElem?_eq_some_iff.1 hp
      rw [hlen] at hj
      simp only [List.getElem_map, List.getElem_range]
      exact (hf j hj).1
    · obtain ⟨i, hi, rfl⟩ := List.mem_map.1 hy
      exact (hf i (List.mem_range.1 hi)).2

/-- The fields from cell 'off' on. -/
def FOpn {α : Type} (P : Program) (d : Kd α) (off : Nat) (fs : List Field) (G : α → Prop) : Prop :=
  ∀ {H : Type} (enc : TypeId × Value → H) (w : World) (spare : Nat → Bool) (held : Bool) (fuel : Nat) (cs : List Value),
    (∀ f, f ∈ fs → ∃ x, DataW.trod enc P w 0 spare held fuel f.type ((cs.drop f.offset).take (P.cellsOf f.type)) = some x) → cs.length = off + d.sz → ∃ y, d.K w y (cs.drop off) ∧ G y
theorem FOpn.one {α : Type} {P : Program} {d : Kd α} {off : Nat} {f : Field} {G : α → Prop} (hf : f.offset = off) (hc : P.cellsOf f.type = d.sz) (ho : Opn P d f.type G) : FOpn P d off [f] G := by
  intro H enc w spare held fuel cs hx hl
  obtain ⟨x, hx⟩ := hx f (by simp)
  rw [hf, hc, List.take_of_length_le (by simp; omega)] at hx
  exact ho enc w spare held fuel _ x hx
theorem FOpn.cons {α β : Type} {P : Program} {d : Kd α} {d' : Kd β} {off : Nat} {f : Field} {fs : List Field} {G : α → Prop} {G' : β → Prop} (hf : f.offset = off) (hc : P.cellsOf f.type = d.sz) (ho : Opn P d f.type G)
    (hs : FOpn P d' (off + d.sz) fs G') : FOpn P (Kd.pair d d') off (f :: fs) (fun y => G y.1 ∧ G' y.2) := by
  intro H enc w spare held fuel cs hx hl
  have hl' : cs.length = off + (d.sz + d'.sz) := hl
  obtain ⟨x, h1⟩ := hx f (by simp)
  rw [hf, hc] at h1
  obtain ⟨y, hy, gy⟩ := ho enc w spare held fuel _ x h1
  obtain ⟨z, hz, gz⟩ := hs enc w spare held fuel cs (fun g hg => hx g (List.mem_cons_of_mem _ hg)) (by omega)
  refine ⟨(y, z), ⟨_, _, ?_, hy, hz⟩, gy, gz⟩
  rw [← List.drop_drop, List.take_append_drop]
theorem Opn.struct {α β : Type} {P : Program} {d : Kd α} {T : TypeId} {fs : Array Field} {fl : List Field} {G : α → Prop} {G' : β → Prop} {proj : β → α} (mk : α → β) (h : P.underlying T = some (.struct fs)) (hfl : fs.toList = fl) (hc : P.cellsOf T = d.sz)
    (hmk : ∀ y, proj (mk y) = y) (hG : ∀ y, G y → G' (mk y)) (hs : FOpn P d 0 fl G) : Opn P (Kd.iso d proj) T G' := by
  intro H enc w spare held fuel cs x hx
  obtain ⟨xs, n, rfl, _, hlen, hxs, hall⟩ := DataW.trod_struct h hx
  obtain ⟨y, hy, gy⟩ := hs enc w spare held n cs (fun f hf => by
    rw [← hfl] at hf
    obtain ⟨i, hi, he⟩ := List.getElem_of_mem hf
    have hi' : i < fs.size := by simpa using hi
    have h1 : fs[i]? = some f := by rw [Array.getElem?_eq_getElem hi']; simpa using he
    exact ⟨_, (hall i f h1).trans (List.getElem?_eq_getElem (by omega))⟩) (by rw [hlen, hc, Nat.zero_add])
  refine ⟨mk y, ?_, hG y gy⟩
  show d.K w (proj (mk y)) cs
  rw [hmk]
  exact hy

/-- A parameter that is a slice. -/
theorem Opn.arg_slice {α : Type} {P : Program} {d : Kd α} {T e : TypeId} {G : α → Prop} [Inhabited α] (h : P.underlying T = some (.slice e)) (he : P.cellsOf e = d.sz) (ho : Opn P d e G)
    {H : Type} {enc : TypeId × Value → H} {w : World} {spare : Nat → Bool} {held : Bool} {v : Value} {D : DataW H} {ps : List MemPlace} {r : Reach} {b : Nat} (hv : Value.okWide P w r b T v) (hx : DataW.Trod enc P w 0 spare held T v D ps) :
    ∃ (A : Option Addr) (c : Nat) (l : List α), v = .slice A l.length c ∧ l.length ≤ c ∧ d.C w A l.length l ∧ l.length ≤ maxLen ∧ ∀ y, y ∈ l → G y := by
  obtain ⟨a, len, cap, rfl⟩ := okWide_slice h hv
  obtain ⟨fuel, hf⟩ := hx
  obtain ⟨l, ⟨A, c, hcs, hlc, hC⟩, hg1, hg2⟩ := Opn.slice h he ho enc w spare held fuel _ _ hf
  have hcs' : [Value.slice a len cap] = [Value.slice A l.length c] := hcs
  injection hcs' with h1 _
  exact ⟨A, c, l, h1, hlc, hC, hg1, hg2⟩
/-- A parameter that is a struct. -/
theorem Opn.arg_struct {α : Type} {P : Program} {d : Kd α} {T : TypeId} {G : α → Prop} {fs : Array Field} (hu : P.underlying T = some (.struct fs)) (ho : Opn P d T G)
    {H : Type} {enc : TypeId × Value → H} {w : World} {spare : Nat → Bool} {held : Bool} {v : Value} {D : DataW H} {ps : List MemPlace} {r : Reach} {b : Nat} (hv : Value.okWide P w r b T v) (hx : DataW.Trod enc P w 0 spare held T v D ps) :
    ∃ (cs : List Value) (y : α), v = .agg cs.toArray ∧ d.K w y cs ∧ G y := by
  obtain ⟨cs, rfl, _⟩ := okWide_struct hu hv
  obtain ⟨fuel, hf⟩ := hx
  obtain ⟨y, hk, hg⟩ := ho enc w spare held fuel _ _ hf
  exact ⟨cs.toList, y, by simp, hk, hg⟩
end Go.Proofs.Ytmkhhnfmahdijaa.Y

/- Three closed facts of the rows of this seat (how the program may be entered), by the first words of the translation's head row. No conditions. -/
namespace Go.Proofs.Ytmkhhnfmahdijaa.Y
open Go.ChangeShapes Go.WideShapes Go.ChangeAt Go.RowKit
def tailSigns : List Char := [Char.ofNat 108, Char.ofNat 111, Char.ofNat 111, Char.ofNat 112, Char.ofNat 46, Char.ofNat 101, Char.ofNat 120, Char.ofNat 97, Char.ofNat 109, Char.ofNat 112, Char.ofNat 108, Char.ofNat 101, Char.ofNat 47, Char.ofNat 103, Char.ofNat 48, Char.ofNat 48, Char.ofNat 50, Char.ofNat 51, Char.ofNat 51, Char.ofNat 47, Char.ofNat 108, Char.ofNat 97, Char.ofNat 119, Char.ofNat 115, Char.ofNat 46, Char.ofNat 70, Char.ofNat 110, Char.ofNat 69, Char.ofNat 120, Char.ofNat 97, Char.ofNat 99, Char.ofNat 116, Char.ofNat 67, Char.ofNat 111, Char.ofNat 110, Char.ofNat 115, Char.ofNat 116, Char.ofNat 97, Char.ofNat 110, Char.ofNat 116, Char.ofNat 115, Char.ofNat 32, Char.ofNat 108, Char.ofNat 111, Char.ofNat 111, Char.ofNat 112, Char.ofNat 46, Char.ofNat 101, Char.ofNat 120, Char.ofNat 97, Char.ofNat 109, Char.ofNat 112, Char.ofNat 108, Char.ofNat 101, Char.ofNat 47, Char.ofNat 103, Char.ofNat 48, Char.ofNat 48, Char.ofNat 50, Char.ofNat 51, Char.ofNat 51, Char.ofNat 47, Char.ofNat 108, Char.ofNat 97, Char.ofNat 119, Char.ofNat 115, Char.ofNat 46, Char.ofNat 70, Char.ofNat 110, Char.ofNat 69, Char.ofNat 120, Char.ofNat 97, Char.ofNat 99, Char.ofNat 116, Char.ofNat 72, Char.ofNat 101, Char.ofNat 120, Char.ofNat 79, Char.ofNat 102, Char.ofNat 32, Char.ofNat 108, Char.ofNat 111, Char.ofNat 111, Char.ofNat 112, Char.ofNat 46, Char.ofNat 101, Char.ofNat 120, Char.ofNat 97, Char.ofNat 109, Char.ofNat 112, Char.ofNat 108, Char.ofNat 101, Char.ofNat 47, Char.ofNat 103, Char.ofNat 48, Char.ofNat 48, Char.ofNat 50, Char.ofNat 51, Char.ofNat 51, Char.ofNat 47, Char.ofNat 108, Char.ofNat 97, Char.ofNat 119, Char.ofNat 115, Char.ofNat 46, Char.ofNat 70, Char.ofNat 110, Char.ofNat 69, Char.ofNat 120, Char.ofNat 97, Char.ofNat 99, Char.ofNat 116, Char.ofNat 85, Char.ofNat 110, Char.ofNat 72, Char.ofNat 101, Char.ofNat 120, Char.ofNat 32, Char.ofNat 108, Char.ofNat 111, Char.ofNat 111, Char.ofNat 112, Char.ofNat 46, Char.ofNat 101, Char.ofNat 120, Char.ofNat 97, Char.ofNat 109, Char.ofNat 112, Char.ofNat 108, Char.ofNat 101, Char.ofNat 47, Char.ofNat 103, Char.ofNat 48, Char.ofNat 48, Char.ofNat 50, Char.ofNat 51, Char.ofNat 51, Char.ofNat 47, Char.ofNat 108, Char.ofNat 97, Char.ofNat 119, Char.ofNat 115, Char.ofNat 46, Char.ofNat 70, Char.ofNat 110, Char.ofNat 69, Char.ofNat 120, Char.ofNat 97, Char.ofNat 99, Char.ofNat 116, Char.ofNat 71, Char.ofNat 101, Char.ofNat 116, Char.ofNat 78, Char.ofNat 117, Char.ofNat 109, Char.ofNat 32, Char.ofNat 108, Char.ofNat 111, Char.ofNat 111, Char.ofNat 112, Char.ofNat 46, Char.ofNat 101, Char.ofNat 120, Char.ofNat 97, Char.ofNat 109, Char.ofNat 112, Char.ofNat 108, Char.ofNat 101, Char.ofNat 47, Char.ofNat 103, Char.ofNat 48, Char.ofNat 48, Char.ofNat 50, Char.ofNat 51, Char.ofNat 51, Char.ofNat 47, Char.ofNat 108, Char.ofNat 97, Char.ofNat 119, Char.ofNat 115, Char.ofNat 46, Char.ofNat 70, Char.ofNat 110, Char.ofNat 69, Char.ofNat 120, Char.ofNat 97, Char.ofNat 99, Char.ofNat 116, Char.ofNat 80, Char.ofNat 97, Char.ofNat 100, Char.ofNat 100, Char.ofNat 101, Char.ofNat 100, Char.ofNat 32, Char.ofNat 108, Char.ofNat 111, Char.ofNat 111, Char.ofNat 112, Char.ofNat 46, Char.ofNat 101, Char.ofNat 120, Char.ofNat 97, Char.ofNat 109, Char.ofNat 112, Char.ofNat 108, Char.ofNat 101, Char.ofNat 47, Char.ofNat 103, Char.ofNat 48, Char.ofNat 48, Char.ofNat 50, Char.ofNat 51, Char.ofNat 51, Char.ofNat 47, Char.ofNat 108, Char.ofNat 97, Char.ofNat 119, Char.ofNat 115, Char.ofNat 46, Char.ofNat 70, Char.ofNat 110, Char.ofNat 69, Char.ofNat 120, Char.ofNat 97, Char.ofNat 99, Char.ofNat 116, Char.ofNat 71, Char.ofNat 101, Char.ofNat 116, Char.ofNat 84, Char.ofNat 101, Char.ofNat 120, Char.ofNat 116, Char.ofNat 32, Char.ofNat 108, Char.ofNat 111, Char.ofNat 111, Char.ofNat 112, Char.ofNat 46, Char.ofNat 101, Char.ofNat 120, Char.ofNat 97, Char.ofNat 109, Char.ofNat 112, Char.ofNat 108, Char.ofNat 101, Char.ofNat 47, Char.ofNat 103, Char.ofNat 48, Char.ofNat 48, Char.ofNat 50, Char.ofNat 51, Char.ofNat 51, Char.ofNat 47, Char.ofNat 108, Char.ofNat 97, Char.ofNat 119, Char.ofNat 115, Char.ofNat 46, Char.ofNat 70, Char.ofNat 110, Char.ofNat 69, Char.ofNat 120, Char.ofNat 97, Char.ofNat 99, Char.ofNat 116, Char.ofNat 80, Char.ofNat 117, Char.ofNat 116, Char.ofNat 78, Char.ofNat 117, Char.ofNat 109, Char.ofNat 32, Char.ofNat 108, Char.ofNat 111, Char.ofNat 111, Char.ofNat 112, Char.ofNat 46, Char.ofNat 101, Char.ofNat 120, Char.ofNat 97, Char.ofNat 109, Char.ofNat 112, Char.ofNat 108, Char.ofNat 101, Char.ofNat 47, Char.ofNat 103, Char.ofNat 48, Char.ofNat 48, Char.ofNat 50, Char.ofNat 51, Char.ofNat 51, Char.ofNat 47, Char.ofNat 108, Char.ofNat 97, Char.ofNat 119, Char.ofNat 115, Char.ofNat 46, Char.ofNat 70, Char.ofNat 110, Char.ofNat 69, Char.ofNat 120, Char.ofNat 97, Char.ofNat 99, Char.ofNat 116, Char.ofNat 80, Char.ofNat 117, Char.ofNat 116, Char.ofNat 84, Char.ofNat 101, Char.ofNat 120, Char.ofNat 116, Char.ofNat 32, Char.ofNat 108, Char.ofNat 111, Char.ofNat 111, Char.ofNat 112, Char.ofNat 46, Char.ofNat 101, Char.ofNat 120, Char.ofNat 97, Char.ofNat 109, Char.ofNat 112, Char.ofNat 108, Char.ofNat 101, Char.ofNat 47, Char.ofNat 103, Char.ofNat 48, Char.ofNat 48, Char.ofNat 50, Char.ofNat 51, Char.ofNat 51, Char.ofNat 47, Char.ofNat 108, Char.ofNat 97, Char.ofNat 119, Char.ofNat 115, Char.ofNat 46, Char.ofNat 70, Char.ofNat 110, Char.ofNat 78, Char.ofNat 117, Char.ofNat 109, Char.ofNat 115, Char.ofNat 32, Char.ofNat 108, Char.ofNat 111, Char.ofNat 111, Char.ofNat 112, Char.ofNat 46, Char.ofNat 101, Char.ofNat 120, Char.ofNat 97, Char.ofNat 109, Char.ofNat 112, Char.ofNat 108, Char.ofNat 101, Char.ofNat 47, Char.ofNat 103, Char.ofNat 48, Char.ofNat 48, Char.ofNat 50, Char.ofNat 51, Char.ofNat 51, Char.ofNat 47, Char.ofNat 108, Char.ofNat 97, Char.ofNat 119, Char.ofNat 115, Char.ofNat 46, Char.ofNat 70, Char.ofNat 110, Char.ofNat 69, Char.ofNat 120, Char.ofNat 97, Char.ofNat 99, Char.ofNat 116, Char.ofNat 69, Char.ofNat 100, Char.ofNat 103, Char.ofNat 101, Char.ofNat 79, Char.ofNat 107, Char.ofNat 32, Char.ofNat 108, Char.ofNat 111, Char.ofNat 111, Char.ofNat 112, Char.ofNat 46, Char.ofNat 101, Char.ofNat 120, Char.ofNat 97, Char.ofNat 109, Char.ofNat 112, Char.ofNat 108, Char.ofNat 101, Char.ofNat 47, Char.ofNat 103, Char.ofNat 48, Char.ofNat 48, Char.ofNat 50, Char.ofNat 51, Char.ofNat 51, Char.ofNat 47, Char.ofNat 108, Char.ofNat 97, Char.ofNat 119, Char.ofNat 115, Char.ofNat 46, Char.ofNat 70, Char.ofNat 110, Char.ofNat 69, Char.ofNat 120, Char.ofNat 97, Char.ofNat 99, Char.ofNat 116, Char.ofNat 80, Char.ofNat 117, Char.ofNat 116, Char.ofNat 84, Char.ofNat 101, Char.ofNat 120, Char.ofNat 116, Char.ofNat 115, Char.ofNat 32, Char.ofNat 108, Char.ofNat 111, Char.ofNat 111, Char.ofNat 112, Char.ofNat 46, Char.ofNat 101, Char.ofNat 120, Char.ofNat 97, Char.ofNat 109, Char.ofNat 112, Char.ofNat 108, Char.ofNat 101, Char.ofNat 47, Char.ofNat 103, Char.ofNat 48, Char.ofNat 48, Char.ofNat 50, Char.ofNat 51, Char.ofNat 51, Char.ofNat 47, Char.ofNat 108, Char.ofNat 97, Char.ofNat 119, Char.ofNat 115, Char.ofNat 46, Char.ofNat 70, Char.ofNat 110, Char.ofNat 84, Char.ofNat 101, Char.ofNat 120, Char.ofNat 116, Char.ofNat 115, Char.ofNat 32, Char.ofNat 108, Char.ofNat 111, Char.ofNat 111, Char.ofNat 112, Char.ofNat 46, Char.ofNat 101, Char.ofNat 120, Char.ofNat 97, Char.ofNat 109, Char.ofNat 112, Char.ofNat 108, Char.ofNat 101, Char.ofNat 47, Char.ofNat 103, Char.ofNat 48, Char.ofNat 48, Char.ofNat 50, Char.ofNat 51, Char.ofNat 51, Char.ofNat 47, Char.ofNat 108, Char.ofNat 97, Char.ofNat 119, Char.ofNat 115, Char.ofNat 46, Char.ofNat 70, Char.ofNat 110, Char.ofNat 69, Char.ofNat 120, Char.ofNat 97, Char.ofNat 99, Char.ofNat 116, Char.ofNat 71, Char.ofNat 101, Char.ofNat 116, Char.ofNat 84, Char.ofNat 101, Char.ofNat 120, Char.ofNat 116, Char.ofNat 115, Char.ofNat 32, Char.ofNat 108, Char.ofNat 111, Char.ofNat 111, Char.ofNat 112, Char.ofNat 46, Char.ofNat 101, Char.ofNat 120, Char.ofNat 97, Char.ofNat 109, Char.ofNat 112, Char.ofNat 108, Char.ofNat 101, Char.ofNat 47, Char.ofNat 103, Char.ofNat 48, Char.ofNat 48, Char.ofNat 50, Char.ofNat 51, Char.ofNat 51, Char.ofNat 47, Char.ofNat 108, Char.ofNat 97, Char.ofNat 119, Char.ofNat 115, Char.ofNat 46, Char.ofNat 70, Char.ofNat 110, Char.ofNat 82, Char.ofNat 111, Char.ofNat 111, Char.ofNat 116, Char.ofNat 115, Char.ofNat 32, Char.ofNat 108, Char.ofNat 111, Char.ofNat 111, Char.ofNat 112, Char.ofNat 46, Char.ofNat 101, Char.ofNat 120, Char.ofNat 97, Char.ofNat 109, Char.ofNat 112, Char.ofNat 108, Char.ofNat 101, Char.ofNat 47, Char.ofNat 103, Char.ofNat 48, Char.ofNat 48, Char.ofNat 50, Char.ofNat 51, Char.ofNat 51, Char.ofNat 47, Char.ofNat 108, Char.ofNat 97, Char.ofNat 119, Char.ofNat 115, Char.ofNat 46, Char.ofNat 70, Char.ofNat 110, Char.ofNat 69, Char.ofNat 120, Char.ofNat 97, Char.ofNat 99, Char.ofNat 116, Char.ofNat 76, Char.ofNat 101, Char.ofNat 97, Char.ofNat 102, Char.ofNat 72, Char.ofNat 97, Char.ofNat 115, Char.ofNat 104, Char.ofNat 32, Char.ofNat 108, Char.ofNat 111, Char.ofNat 111, Char.ofNat 112, Char.ofNat 46, Char.ofNat 101, Char.ofNat 120, Char.ofNat 97, Char.ofNat 109, Char.ofNat 112, Char.ofNat 108, Char.ofNat 101, Char.ofNat 47, Char.ofNat 103, Char.ofNat 48, Char.ofNat 48, Char.ofNat 50, Char.ofNat 51, Char.ofNat 51, Char.ofNat 47, Char.ofNat 108, Char.ofNat 97, Char.ofNat 119, Char.ofNat 115, Char.ofNat 46, Char.ofNat 70, Char.ofNat 110, Char.ofNat 69, Char.ofNat 120, Char.ofNat 97, Char.ofNat 99, Char.ofNat 116, Char.ofNat 78, Char.ofNat 111, Char.ofNat 100, Char.ofNat 101, Char.ofNat 72, Char.ofNat 97, Char.ofNat 115, Char.ofNat 104, Char.ofNat 32, Char.ofNat 108, Char.ofNat 111, Char.ofNat 111, Char.ofNat 112, Char.ofNat 46, Char.ofNat 101, Char.ofNat 120, Char.ofNat 97, Char.ofNat 109, Char.ofNat 112, Char.ofNat 108, Char.ofNat 101, Char.ofNat 47, Char.ofNat 103, Char.ofNat 48, Char.ofNat 48, Char.ofNat 50, Char.ofNat 51, Char.ofNat 51, Char.ofNat 47, Char.ofNat 108, Char.ofNat 97, Char.ofNat 119, Char.ofNat 115, Char.ofNat 46, Char.ofNat 70, Char.ofNat 110, Char.ofNat 69, Char.ofNat 120, Char.ofNat 97, Char.ofNat 99, Char.ofNat 116, Char.ofNat 68, Char.ofNat 105, Char.ofNat 103, Char.ofNat 101, Char.ofNat 115, Char.ofNat 116, Char.ofNat 32, Char.ofNat 108, Char.ofNat 111, Char.ofNat 111, Char.ofNat 112, Char.ofNat 46, Char.ofNat 101, Char.ofNat 120, Char.ofNat 97, Char.ofNat 109, Char.ofNat 112, Char.ofNat 108, Char.ofNat 101, Char.ofNat 47, Char.ofNat 103, Char.ofNat 48, Char.ofNat 48, Char.ofNat 50, Char.ofNat 51, Char.ofNat 51, Char.ofNat 47, Char.ofNat 108, Char.ofNat 97, Char.ofNat 119, Char.ofNat 115, Char.ofNat 46, Char.ofNat 70, Char.ofNat 110, Char.ofNat 80, Char.ofNat 97, Char.ofNat 116, Char.ofNat 104, Char.ofNat 115, Char.ofNat 32, Char.ofNat 108, Char.ofNat 111, Char.ofNat 111, Char.ofNat 112, Char.ofNat 46, Char.ofNat 101, Char.ofNat 120, Char.ofNat 97, Char.ofNat 109, Char.ofNat 112, Char.ofNat 108, Char.ofNat 101, Char.ofNat 47, Char.ofNat 103, Char.ofNat 48, Char.ofNat 48, Char.ofNat 50, Char.ofNat 51, Char.ofNat 51, Char.ofNat 47, Char.ofNat 108, Char.ofNat 97, Char.ofNat 119, Char.ofNat 115, Char.ofNat 46, Char.ofNat 70, Char.ofNat 110, Char.ofNat 71, Char.ofNat 114, Char.ofNat 111, Char.ofNat 119, Char.ofNat 110, Char.ofNat 32, Char.ofNat 108, Char.ofNat 111, Char.ofNat 111, Char.ofNat 112, Char.ofNat 46, Char.ofNat 101, Char.ofNat 120, Char.ofNat 97, Char.ofNat 109, Char.ofNat 112, Char.ofNat 108, Char.ofNat 101, Char.ofNat 47, Char.ofNat 103, Char.ofNat 48, Char.ofNat 48, Char.ofNat 50, Char.ofNat 51, Char.ofNat 51, Char.ofNat 47, Char.ofNat 108, Char.ofNat 97, Char.ofNat 119, Char.ofNat 115, Char.ofNat 46, Char.ofNat 70, Char.ofNat 110, Char.ofNat 69, Char.ofNat 120, Char.ofNat 97, Char.ofNat 99, Char.ofNat 116, Char.ofNat 82, Char.ofNat 111, Char.ofNat 111, Char.ofNat 116, Char.ofNat 79, Char.ofNat 102, Char.ofNat 32, Char.ofNat 108, Char.ofNat 111, Char.ofNat 111, Char.ofNat 112, Char.ofNat 46, Char.ofNat 101, Char.ofNat 120, Char.ofNat 97, Char.ofNat 109, Char.ofNat 112, Char.ofNat 108, Char.ofNat 101, Char.ofNat 47, Char.ofNat 103, Char.ofNat 48, Char.ofNat 48, Char.ofNat 50, Char.ofNat 51, Char.ofNat 51, Char.ofNat 47, Char.ofNat 108, Char.ofNat 97, Char.ofNat 119, Char.ofNat 115, Char.ofNat 46, Char.ofNat 70, Char.ofNat 110, Char.ofNat 68, Char.ofNat 105, Char.ofNat 103, Char.ofNat 101, Char.ofNat 115, Char.ofNat 116, Char.ofNat 115, Char.ofNat 32, Char.ofNat 108, Char.ofNat 111, Char.ofNat 111, Char.ofNat 112, Char.ofNat 46, Char.ofNat 101, Char.ofNat 120, Char.ofNat 97, Char.ofNat 109, Char.ofNat 112, Char.ofNat 108, Char.ofNat 101, Char.ofNat 47, Char.ofNat 103, Char.ofNat 48, Char.ofNat 48, Char.ofNat 50, Char.ofNat 51, Char.ofNat 51, Char.ofNat 47, Char.ofNat 108, Char.ofNat 97, Char.ofNat 119, Char.ofNat 115, Char.ofNat 46, Char.ofNat 70, Char.ofNat 110, Char.ofNat 69, Char.ofNat 120, Char.ofNat 97, Char.ofNat 99, Char.ofNat 116, Char.ofNat 67, Char.ofNat 104, Char.ofNat 101, Char.ofNat 99, Char.ofNat 107, Char.ofNat 73, Char.ofNat 110, Char.ofNat 32, Char.ofNat 108, Char.ofNat 111, Char.ofNat 111, Char.ofNat 112, Char.ofNat 46, Char.ofNat 101, Char.ofNat 120, Char.ofNat 97, Char.ofNat 109, Char.ofNat 112, Char.ofNat 108, Char.ofNat 101, Char.ofNat 47, Char.ofNat 103, Char.ofNat 48, Char.ofNat 48, Char.ofNat 50, Char.ofNat 51, Char.ofNat 51, Char.ofNat 47, Char.ofNat 108, Char.ofNat 97, Char.ofNat 119, Char.ofNat 115, Char.ofNat 46, Char.ofNat 70, Char.ofNat 110, Char.ofNat 69, Char.ofNat 120, Char.ofNat 97, Char.ofNat 99, Char.ofNat 116, Char.ofNat 67, Char.ofNat 104, Char.ofNat 101, Char.ofNat 99, Char.ofNat 107, Char.ofNat 71, Char.ofNat 114, Char.ofNat 111, Char.ofNat 119, Char.ofNat 32, Char.ofNat 108, Char.ofNat 111, Char.ofNat 111, Char.ofNat 112, Char.ofNat 46, Char.ofNat 101, Char.ofNat 120, Char.ofNat 97, Char.ofNat 109, Char.ofNat 112, Char.ofNat 108, Char.ofNat 101, Char.ofNat 47, Char.ofNat 103, Char.ofNat 48, Char.ofNat 48, Char.ofNat 50, Char.ofNat 51, Char.ofNat 51, Char.ofNat 47, Char.ofNat 108, Char.ofNat 97, Char.ofNat 119, Char.ofNat 115, Char.ofNat 46, Char.ofNat 70, Char.ofNat 110, Char.ofNat 69, Char.ofNat 120, Char.ofNat 97, Char.ofNat 99, Char.ofNat 116, Char.ofNat 73, Char.ofNat 110, Char.ofNat 80, Char.ofNat 97, Char.ofNat 116, Char.ofNat 104, Char.ofNat 32, Char.ofNat 108, Char.ofNat 111, Char.ofNat 111, Char.ofNat 112, Char.ofNat 46, Char.ofNat 101, Char.ofNat 120, Char.ofNat 97, Char.ofNat 109, Char.ofNat 112, Char.ofNat 108, Char.ofNat 101, Char.ofNat 47, Char.ofNat 103, Char.ofNat 48, Char.ofNat 48, Char.ofNat 50, Char.ofNat 51, Char.ofNat 51, Char.ofNat 47, Char.ofNat 108, Char.ofNat 97, Char.ofNat 119, Char.ofNat 115, Char.ofNat 46, Char.ofNat 70, Char.ofNat 110, Char.ofNat 69, Char.ofNat 120, Char.ofNat 97, Char.ofNat 99, Char.ofNat 116, Char.ofNat 71, Char.ofNat 114, Char.ofNat 111, Char.ofNat 119, Char.ofNat 80, Char.ofNat 97, Char.ofNat 116, Char.ofNat 104]
set_option maxRecDepth 100000 in
theorem initOrder_lit : Try.pinned.checked.prog.initOrder = "harness 2030bd7aaa6f326128d74bbc92777a6f2b658087ac5cca4802849e451c912101 cut at loop.example/g00233/laws.FnExactConstants loop.example/g00233/laws.FnExactHexOf loop.example/g00233/laws.FnExactUnHex loop.example/g00233/laws.FnExactGetNum loop.example/g00233/laws.FnExactPadded loop.example/g00233/laws.FnExactGetText loop.example/g00233/laws.FnExactPutNum loop.example/g00233/laws.FnExactPutText loop.example/g00233/laws.FnNums loop.example/g00233/laws.FnExactEdgeOk loop.example/g00233/laws.FnExactPutTexts loop.example/g00233/laws.FnTexts loop.example/g00233/laws.FnExactGetTexts loop.example/g00233/laws.FnRoots loop.example/g00233/laws.FnExactLeafHash loop.example/g00233/laws.FnExactNodeHash loop.example/g00233/laws.FnExactDigest loop.example/g00233/laws.FnPaths loop.example/g00233/laws.FnGrown loop.example/g00233/laws.FnExactRootOf loop.example/g00233/laws.FnDigests loop.example/g00233/laws.FnExactCheckIn loop.example/g00233/laws.FnExactCheckGrow loop.example/g00233/laws.FnExactInPath loop.example/g00233/laws.FnExactGrowPath" := by kernel_rfl
set_option maxRecDepth 100000 in
theorem lit_list : ("harness 2030bd7aaa6f326128d74bbc92777a6f2b658087ac5cca4802849e451c912101 cut at loop.example/g00233/laws.FnExactConstants loop.example/g00233/laws.FnExactHexOf loop.example/g00233/laws.FnExactUnHex loop.example/g00233/laws.FnExactGetNum loop.example/g00233/laws.FnExactPadded loop.example/g00233/laws.FnExactGetText loop.example/g00233/laws.FnExactPutNum loop.example/g00233/laws.FnExactPutText loop.example/g00233/laws.FnNums loop.example/g00233/laws.FnExactEdgeOk loop.example/g00233/laws.FnExactPutTexts loop.example/g00233/laws.FnTexts loop.example/g00233/laws.FnExactGetTexts loop.example/g00233/laws.FnRoots loop.example/g00233/laws.FnExactLeafHash loop.example/g00233/laws.FnExactNodeHash loop.example/g00233/laws.FnExactDigest loop.example/g00233/laws.FnPaths loop.example/g00233/laws.FnGrown loop.example/g00233/laws.FnExactRootOf loop.example/g00233/laws.FnDigests loop.example/g00233/laws.FnExactCheckIn loop.example/g00233/laws.FnExactCheckGrow loop.example/g00233/laws.FnExactInPath loop.example/g00233/laws.FnExactGrowPath" : String) = String.ofList (Char.ofNat 104 :: Char.ofNat 97 :: Char.ofNat 114 :: Char.ofNat 110 :: Char.ofNat 101 :: Char.ofNat 115 :: Char.ofNat 115 :: Char.ofNat 32 :: Char.ofNat 50 :: Char.ofNat 48 :: Char.ofNat 51 :: Char.ofNat 48 :: Char.ofNat 98 :: Char.ofNat 100 :: Char.ofNat 55 :: Char.ofNat 97 :: Char.ofNat 97 :: Char.ofNat 97 :: Char.ofNat 54 :: Char.ofNat 102 :: Char.ofNat 51 :: Char.ofNat 50 :: Char.ofNat 54 :: Char.ofNat 49 :: Char.ofNat 50 :: Char.ofNat 56 :: Char.ofNat 100 :: Char.ofNat 55 :: Char.ofNat 52 :: Char.ofNat 98 :: Char.ofNat 98 :: Char.ofNat 99 :: Char.ofNat 57 :: Char.ofNat 50 :: Char.ofNat 55 :: Char.ofNat 55 :: Char.ofNat 55 :: Char.ofNat 97 :: Char.ofNat 54 :: Char.ofNat 102 :: Char.ofNat 50 :: Char.ofNat 98 :: Char.ofNat 54 :: Char.ofNat 53 :: Char.ofNat 56 :: Char.ofNat 48 :: Char.ofNat 56 :: Char.ofNat 55 :: Char.ofNat 97 :: Char.ofNat 99 :: Char.ofNat 53 :: Char.ofNat 99 :: Char.ofNat 99 :: Char.ofNat 97 :: Char.ofNat 52 :: Char.ofNat 56 :: Char.ofNat 48 :: Char.ofNat 50 :: Char.ofNat 56 :: Char.ofNat 52 :: Char.ofNat 57 :: Char.ofNat 101 :: Char.ofNat 52 :: Char.ofNat 53 :: Char.ofNat 49 :: Char.ofNat 99 :: Char.ofNat 57 :: Char.ofNat 49 :: Char.ofNat 50 :: Char.ofNat 49 :: Char.ofNat 48 :: Char.ofNat 49 :: Char.ofNat 32 :: Char.ofNat 99 :: Char.ofNat 117 :: Char.ofNat 116 :: Char.ofNat 32 :: Char.ofNat 97 :: Char.ofNat 116 :: Char.ofNat 32 :: tailSigns) := by kernel_rfl
theorem initOrder_list : Try.pinned.checked.prog.initOrder.toList = Char.ofNat 104 :: Char.ofNat 97 :: Char.ofNat 114 :: Char.ofNat 110 :: Char.ofNat 101 :: Char.ofNat 115 :: Char.ofNat 115 :: Char.ofNat 32 :: Char.ofNat 50 :: Char.ofNat 48 :: Char.ofNat 51 :: Char.ofNat 48 :: Char.ofNat 98 :: Char.ofNat 100 :: Char.ofNat 55 :: Char.ofNat 97 :: Char.ofNat 97 :: Char.ofNat 97 :: Char.ofNat 54 :: Char.ofNat 102 :: Char.ofNat 51 :: Char.ofNat 50 :: Char.ofNat 54 :: Char.ofNat 49 :: Char.ofNat 50 :: Char.ofNat 56 :: Char.ofNat 100 :: Char.ofNat 55 :: Char.ofNat 52 :: Char.ofNat 98 :: Char.ofNat 98 :: Char.ofNat 99 :: Char.ofNat 57 :: Char.ofNat 50 :: Char.ofNat 55 :: Char.ofNat 55 :: Char.ofNat 55 :: Char.ofNat 97 :: Char.ofNat 54 :: Char.ofNat 102 :: Char.ofNat 50 :: Char.ofNat 98 :: Char.ofNat 54 :: Char.ofNat 53 :: Char.ofNat 56 :: Char.ofNat 48 :: Char.ofNat 56 :: Char.ofNat 55 :: Char.ofNat 97 :: Char.ofNat 99 :: Char.ofNat 53 :: Char.ofNat 99 :: Char.ofNat 99 :: Char.ofNat 97 :: Char.ofNat 52 :: Char.ofNat 56 :: Char.ofNat 48 :: Char.ofNat 50 :: Char.ofNat 56 :: Char.ofNat 52 :: Char.ofNat 57 :: Char.ofNat 101 :: Char.ofNat 52 :: Char.ofNat 53 :: Char.ofNat 49 :: Char.ofNat 99 :: Char.ofNat 57 :: Char.ofNat 49 :: Char.ofNat 50 :: Char.ofNat 49 :: Char.ofNat 48 :: Char.ofNat 49 :: Char.ofNat 32 :: Char.ofNat 99 :: Char.ofNat 117 :: Char.ofNat 116 :: Char.ofNat 32 :: Char.ofNat 97 :: Char.ofNat 116 :: Char.ofNat 32 :: tailSigns := (congrArg String.toList (initOrder_lit.trans lit_list)).trans String.toList_ofList
theorem words_at (r : List Char) : wordsSigns (Char.ofNat 104 :: Char.ofNat 97 :: Char.ofNat 114 :: Char.ofNat 110 :: Char.ofNat 101 :: Char.ofNat 115 :: Char.ofNat 115 :: Char.ofNat 32 :: Char.ofNat 50 :: Char.ofNat 48 :: Char.ofNat 51 :: Char.ofNat 48 :: Char.ofNat 98 :: Char.ofNat 100 :: Char.ofNat 55 :: Char.ofNat 97 :: Char.ofNat 97 :: Char.ofNat 97 :: Char.ofNat 54 :: Char.ofNat 102 :: Char.ofNat 51 :: Char.ofNat 50 :: Char.ofNat 54 :: Char.ofNat 49 :: Char.ofNat 50 :: Char.ofNat 56 :: Char.ofNat 100 :: Char.ofNat 55 :: Char.ofNat 52 :: Char.ofNat 98 :: Char.ofNat 98 :: Char.ofNat 99 :: Char.ofNat 57 :: Char.ofNat 50 :: Char.ofNat 55 :: Char.ofNat 55 :: Char.ofNat 55 :: Char.ofNat 97 :: Char.ofNat 54 :: Char.ofNat 102 :: Char.ofNat 50 :: Char.ofNat 98 :: Char.ofNat 54 :: Char.ofNat 53 :: Char.ofNat 56 :: Char.ofNat 48 :: Char.ofNat 56 :: Char.ofNat 55 :: Char.ofNat 97 :: Char.ofNat 99 :: Char.ofNat 53 :: Char.ofNat 99 :: Char.ofNat 99 :: Char.ofNat 97 :: Char.ofNat 52 :: Char.ofNat 56 :: Char.ofNat 48 :: Char.ofNat 50 :: Char.ofNat 56 :: Char.ofNat 52 :: Char.ofNat 57 :: Char.ofNat 101 :: Char.ofNat 52 :: Char.ofNat 53 :: Char.ofNat 49 :: Char.ofNat 99 :: Char.ofNat 57 :: Char.ofNat 49 :: Char.ofNat 50 :: Char.ofNat 49 :: Char.ofNat 48 :: Char.ofNat 49 :: Char.ofNat 32 :: Char.ofNat 99 :: Char.ofNat 117 :: Char.ofNat 116 :: Char.ofNat 32 :: Char.ofNat 97 :: Char.ofNat 116 :: Char.ofNat 32 :: r) = [Char.ofNat 104, Char.ofNat 97, Char.ofNat 114, Char.ofNat 110, Char.ofNat 101, Char.ofNat 115, Char.ofNat 115] :: [Char.ofNat 50, Char.ofNat 48, Char.ofNat 51, Char.ofNat 48, Char.ofNat 98, Char.ofNat 100, Char.ofNat 55, Char.ofNat 97, Char.ofNat 97, Char.ofNat 97, Char.ofNat 54, Char.ofNat 102, Char.ofNat 51, Char.ofNat 50, Char.ofNat 54, Char.ofNat 49, Char.ofNat 50, Char.ofNat 56, Char.ofNat 100, Char.ofNat 55, Char.ofNat 52, Char.ofNat 98, Char.ofNat 98, Char.ofNat 99, Char.ofNat 57, Char.ofNat 50, Char.ofNat 55, Char.ofNat 55, Char.ofNat 55, Char.ofNat 97, Char.ofNat 54, Char.ofNat 102, Char.ofNat 50, Char.ofNat 98, Char.ofNat 54, Char.ofNat 53, Char.ofNat 56, Char.ofNat 48, Char.ofNat 56, Char.ofNat 55, Char.ofNat 97, Char.ofNat 99, Char.ofNat 53, Char.ofNat 99, Char.ofNat 99, Char.ofNat 97, Char.ofNat 52, Char.ofNat 56, Char.ofNat 48, Char.ofNat 50, Char.ofNat 56, Char.ofNat 52, Char.ofNat 57, Char.ofNat 101, Char.ofNat 52, Char.ofNat 53, Char.ofNat 49, Char.ofNat 99, Char.ofNat 57, Char.ofNat 49, Char.ofNat 50, Char.ofNat 49, Char.ofNat 48, Char.ofNat 49] :: [Char.ofNat 99, Char.ofNat 117, Char.ofNat 116] :: [Char.ofNat 97, Char.ofNat 116] :: wordsSigns r := by kernel_rfl
theorem behind_at (t : List (List Char)) : behindMainWord ([Char.ofNat 104, Char.ofNat 97, Char.ofNat 114, Char.ofNat 110, Char.ofNat 101, Char.ofNat 115, Char.ofNat 115] :: [Char.ofNat 50, Char.ofNat 48, Char.ofNat 51, Char.ofNat 48, Char.ofNat 98, Char.ofNat 100, Char.ofNat 55, Char.ofNat 97, Char.ofNat 97, Char.ofNat 97, Char.ofNat 54, Char.ofNat 102, Char.ofNat 51, Char.ofNat 50, Char.ofNat 54, Char.ofNat 49, Char.ofNat 50, Char.ofNat 56, Char.ofNat 100, Char.ofNat 55, Char.ofNat 52, Char.ofNat 98, Char.ofNat 98, Char.ofNat 99, Char.ofNat 57, Char.ofNat 50, Char.ofNat 55, Char.ofNat 55, Char.ofNat 55, Char.ofNat 97, Char.ofNat 54, Char.ofNat 102, Char.ofNat 50, Char.ofNat 98, Char.ofNat 54, Char.ofNat 53, Char.ofNat 56, Char.ofNat 48, Char.ofNat 56, Char.ofNat 55, Char.ofNat 97, Char.ofNat 99, Char.ofNat 53, Char.ofNat 99, Char.ofNat 99, Char.ofNat 97, Char.ofNat 52, Char.ofNat 56, Char.ofNat 48, Char.ofNat 50, Char.ofNat 56, Char.ofNat 52, Char.ofNat 57, Char.ofNat 101, Char.ofNat 52, Char.ofNat 53, Char.ofNat 49, Char.ofNat 99, Char.ofNat 57, Char.ofNat 49, Char.ofNat 50, Char.ofNat 49, Char.ofNat 48, Char.ofNat 49] :: [Char.ofNat 99, Char.ofNat 117, Char.ofNat 116] :: [Char.ofNat 97, Char.ofNat 116] :: t) = [Char.ofNat 99, Char.ofNat 117, Char.ofNat 116] :: [Char.ofNat 97, Char.ofNat 116] :: t := by kernel_rfl
theorem behind_all : behindMainWord (wordsSigns Try.pinned.checked.prog.initOrder.toList) = [Char.ofNat 99, Char.ofNat 117, Char.ofNat 116] :: [Char.ofNat 97, Char.ofNat 116] :: wordsSigns tailSigns := by rw [initOrder_list, words_at, behind_at]
theorem make_of (c : List Char) (rest : List (List Char)) (P : Program) (h0 : (c == "gc".toList) = false) (h1 : (c == "spec".toList) = false) (h2 : (c == "cut".toList) = true) (h : behindMainWord (wordsSigns P.initOrder.toList) = c :: rest) : P.make = some .cut := by
  unfold Program.make
  rw [h]
  simp only [h0, h1, h2]
  rfl
theorem mayEnter_of (c : List Char) (rest : List (List Char)) (P : Program) (h0 : (c == "gc".toList) = false) (h1 : (c == "spec".toList) = false) (h2 : (c == "carried".toList) = false) (h : behindMainWord (wordsSigns P.initOrder.toList) = c :: rest)
    (h3 : ((stripLifts liftWords (c :: rest)).2.head? == some "cut".toList) = true) (h4 : P.laysLater = false) (h5 : P.bearsReflect = false) (h6 : P.doorFits (stripLifts liftWords (c :: rest)).1 = true) (h7 : (stripLifts liftWords (c :: rest)).1.contains "leanrows" = false) : P.mayEnter = true := by
  unfold Program.mayEnter
  rw [h]
  simp only [h0, h1, h2, h3, h4, h5, h6, h7]
  simp
theorem liftsFinal_of (c : List Char) (rest : List (List Char)) (P : Program) (h2 : (some c == some "carried".toList) = false) (h : behindMainWord (wordsSigns P.initOrder.toList) = c :: rest)
    (h3 : ((stripLifts liftWords (c :: rest)).2.head? == some "cut".toList) = true) (h7 : (stripLifts liftWords (c :: rest)).1.contains "finals" = false) : P.liftsFinal = false := by
  unfold Program.liftsFinal Program.headLifts
  rw [h]
  simp only [List.head?_cons, h2, h3, if_true, h7, Bool.false_and, Bool.or_self]
theorem strip_at (t : List (List Char)) : stripLifts liftWords ([Char.ofNat 99, Char.ofNat 117, Char.ofNat 116] :: [Char.ofNat 97, Char.ofNat 116] :: t) = ([], [Char.ofNat 99, Char.ofNat 117, Char.ofNat 116] :: [Char.ofNat 97, Char.ofNat 116] :: t) := by kernel_rfl
theorem laysLater_at : Try.pinned.checked.prog.laysLater = false := by kernel_rfl
theorem bearsReflect_at : Try.pinned.checked.prog.bearsReflect = false := by kernel_rfl
theorem doorFits_at : Try.pinned.checked.prog.doorFits [] = true := by kernel_rfl
theorem mayEnter_at : Try.pinned.checked.prog.mayEnter = true :=
  mayEnter_of _ _ _ (by kernel_rfl) (by kernel_rfl) (by kernel_rfl) behind_all (by rw [strip_at]; generalize wordsSigns tailSigns = t; kernel_rfl) laysLater_at bearsReflect_at (by rw [strip_at]; exact doorFits_at) (by rw [strip_at]; rfl)
theorem liftsFinal_at : Try.pinned.checked.prog.liftsFinal = false :=
  liftsFinal_of _ _ _ (by kernel_rfl) behind_all (by rw [strip_at]; generalize wordsSigns tailSigns = t; kernel_rfl) (by rw [strip_at]; rfl)
theorem make_at : Try.pinned.checked.prog.make = some .cut := make_of _ _ _ (by kernel_rfl) (by kernel_rfl) (by kernel_rfl) behind_all
end Go.Proofs.Ytmkhhnfmahdijaa.Y
