/- The law FnExactCheckGrow, as a plain statement: the program's CheckGrow answers as the reference's, and leaves its argument alone. Conditions: those of the row's reading alone. -/
/- Part 8 of 10 of this claim's texts. -/
import Derived.Test.YtmkhhnfmahdijaaWWords
import Derived.Test.YtmkhhnfmahdijaaWMore
import Derived.Laws.BitsLemmas
import Derived.Test.YtmkhhnfmahdijaaCBase0
import Derived.Test.YtmkhhnfmahdijaaCBase2
import Derived.Test.YtmkhhnfmahdijaaCFnExactCheckGrow3
import Derived.Test.YtmkhhnfmahdijaaCFnExactCheckGrow4
import Derived.Test.YtmkhhnfmahdijaaCFnExactCheckGrow5
import Derived.Test.YtmkhhnfmahdijaaCFnExactCheckGrow6
namespace Go.Proofs.Ytmkhhnfmahdijaa.X
open Go.RowKit Go.Proofs.YtmkhhnfmahdijaaW.PrintWords Go.Proofs.YtmkhhnfmahdijaaW.PrintLast Go.Proofs.YtmkhhnfmahdijaaW.PrintMore
attribute [local go_sem] max2_int min2_int max_two min_two max_three min_three max_four min_four   -- for this text's walks alone
set_option linter.unusedVariables false
set_option linter.unusedSimpArgs false

/-! ### laws_FnExactCheckGrow: function 25 -/
def laws_FnExactCheckGrow.f (k : Nat) (a0 : Int) (a1 : Int) (a2 : ByteArray) (a3 : ByteArray) (l4 : List ByteArray) : Option (Bool) := if (a2.size : Int) > 1048576 then (some true) else (if (a3.size : Int) > 1048576 then (some true) else ((laws_szStringS.f k l4 1048576).bind fun t1123 => (if t1123 < 0 then (some true) else ((laws_toStringS.f k l4).bind fun t1124 => ((spec_CheckGrow.f k a0 a1 a2 a3 t1124).bind fun t1127 => ((laws_toStringS.f k l4).bind fun t1128 => ((impl_CheckGrow.f k a0 a1 a2 a3 t1128).bind fun t1131 => (if (t1131 != t1127) = true then (some false) else ((laws_toStringS.f k l4).bind fun t1132 => ((laws_eqStringS.f k t1128 t1132).bind fun t1135 => (if t1135 = true then (some true) else (some false))))))))))))
theorem laws_FnExactCheckGrow.mono : ∀ a0 a1 a2 a3 a4 k, LeO (laws_FnExactCheckGrow.f k a0 a1 a2 a3 a4) (laws_FnExactCheckGrow.f (k + 1) a0 a1 a2 a3 a4) := by
  intro a0 a1 a2 a3 a4 k
  unfold laws_FnExactCheckGrow.f
  repeat' first
      | (with_reducible exact impl_CheckGrow.mono _ _ _ _ _ _)
      | (with_reducible exact laws_eqStringS.mono _ _ _)
      | (with_reducible exact laws_szStringS.mono _ _ _)
      | (with_reducible exact laws_toStringS.mono _ _)
      | (with_reducible exact spec_CheckGrow.mono _ _ _ _ _ _)
      | (with_reducible exact LeO.refl _)
      | (with_reducible exact LeO.none _)
      | (with_reducible refine LeO.ite ?_ ?_)
      | (with_reducible refine LeO.bind ?_ (fun _ => ?_))
      | exact impl_CheckGrow.mono _ _ _ _ _ _
      | exact laws_eqStringS.mono _ _ _
      | exact laws_szStringS.mono _ _ _
      | exact laws_toStringS.mono _ _
      | exact spec_CheckGrow.mono _ _ _ _ _ _
      | exact LeO.none _
      | refine LeO.ite ?_ ?_
      | refine LeO.bind ?_ (fun _ => ?_)
set_option maxHeartbeats 8000000 in
set_option maxRecDepth 100000 in
theorem laws_FnExactCheckGrow.calls (k : Nat) (a0 : Int) (a1 : Int) (a2 : ByteArray) (a3 : ByteArray) (A4 : Option Addr) (c4 : Nat) (l4 : List ByteArray) (r : Bool) (w : World) (hr4 : Kd.C Kd.string w A4 l4.length l4) (hc4 : l4.length ≤ c4) (h : laws_FnExactCheckGrow.f k a0 a1 a2 a3 l4 = some r) :
    Calls Try.prog 25 #[.int .i64 a0, .int .i64 a1, .string a2, .string a3, .slice A4 l4.length c4] w fun e w' => e = .returned (.bool r) ∧ Below w.heap.size w w' := by
  have HR4 := Aside0.mk hr4
  have HC4 := Aside0.mk hc4
  clear hr4 hc4
  have HB := Aside0.mk (Below.refl w.heap.size w)
  have H : (if (a2.size : Int) > 1048576 then (some true) else (if (a3.size : Int) > 1048576 then (some true) else ((laws_szStringS.f k l4 1048576).bind fun t1123 => (if t1123 < 0 then (some true) else ((laws_toStringS.f k l4).bind fun t1124 => ((spec_CheckGrow.f k a0 a1 a2 a3 t1124).bind fun t1127 => ((laws_toStringS.f k l4).bind fun t1128 => ((impl_CheckGrow.f k a0 a1 a2 a3 t1128).bind fun t1131 => (if (t1131 != t1127) = true then (some false) else ((laws_toStringS.f k l4).bind fun t1132 => ((laws_eqStringS.f k t1128 t1132).bind fun t1135 => (if t1135 = true then (some true) else (some false))))))))))))) = some r := h
  clear h
  by_cases c6 : (a2.size : Int) > 1048576
  · rw [if_pos c6] at H
    have c6b0 : decide (1048576 < (a2.size : Int)) = true := decide_eq_true c6
    have c6b1 : decide (1048576 < a2.size) = true := decide_eq_true (by omega)
    clear c6
    obtain rfl := Option.some.inj H
    go_enter Try.func25, Try.ntmps25
    go_wp2
    go_ret
    exact ⟨by first | rfl | (simp [errW_none, errW_some] <;> rfl) | (simp [*, errW_none, errW_some] <;> rfl), by repeat (first | (with_reducible first | exact HB.out | apply below_alloc | apply pw_below_drewN | apply below_drew1) | exact HB.out)⟩
  · rw [if_neg c6] at H
    have c6b0 : decide (1048576 < (a2.size : Int)) = false := decide_eq_false c6
    have c6b1 : decide (1048576 < a2.size) = false := decide_eq_false (by omega)
    clear c6
    by_cases c7 : (a3.size : Int) > 1048576
    · rw [if_pos c7] at H
      have c7b0 : decide (1048576 < (a3.size : Int)) = true := decide_eq_true c7
      have c7b1 : decide (1048576 < a3.size) = true := decide_eq_true (by omega)
      clear c7
      obtain rfl := Option.some.inj H
      go_enter Try.func25, Try.ntmps25
      go_wp2
      go_ret
      exact ⟨by first | rfl | (simp [errW_none, errW_some] <;> rfl) | (simp [*, errW_none, errW_some] <;> rfl), by repeat (first | (with_reducible first | exact HB.out | apply below_alloc | apply pw_below_drewN | apply below_drew1) | exact HB.out)⟩
    · rw [if_neg c7] at H
      have c7b0 : decide (1048576 < (a3.size : Int)) = false := decide_eq_false c7
      have c7b1 : decide (1048576 < a3.size) = false := decide_eq_false (by omega)
      clear c7
      replace H := Option.bind_eq_some_iff.mp H
      obtain ⟨t1123, A80, H⟩ := H
      replace H : (if t1123 < 0 then (some true) else ((laws_toStringS.f k l4).bind fun t1124 => ((spec_CheckGrow.f k a0 a1 a2 a3 t1124).bind fun t1127 => ((laws_toStringS.f k l4).bind fun t1128 => ((impl_CheckGrow.f k a0 a1 a2 a3 t1128).bind fun t1131 => (if (t1131 != t1127) = true then (some false) else ((laws_toStringS.f k l4).bind fun t1132 => ((laws_eqStringS.f k t1128 t1132).bind fun t1135 => (if t1135 = true then (some true) else (some false)))))))))) = some r := H
      have A8 := Aside0.mk A80
      clear A80
      by_cases c9 : t1123 < 0
      · rw [if_pos c9] at H
        have c9b0 : decide (t1123 < 0) = true := decide_eq_true c9
        clear c9
        obtain rfl := Option.some.inj H
        go_enter Try.func25, Try.ntmps25
        go_wp2_with (first | ((with_reducible refine gate_callee (f := 54) rfl ?_); refine goesL_ (some 23) rfl rfl Try.func54 (by kernel_rfl) rfl #[.slice A4 l4.length c4, .int .i64 1048576] rfl (by (try simp only [List.map_toArray, List.map_cons, List.map_nil]); first | done | rfl | (simp only [List.length_drop, List.length_take]; rfl)) ?_; (with_reducible refine (laws_szStringS.calls k _ _ l4 1048576 t1123 _ ?side1 ?side2 A8.out).mono ?_); (case side1 => repeat (first | exact HR4.out | (with_reducible refine Kd.C_alloc ?_ _) | (with_reducible refine Kd.C_drewN ?_ _) | (with_reducible refine Kd.C_drew ?_))); (case side2 => exact HC4.out); rintro e w' ⟨rfl, ⟨nd, rfl⟩⟩; refine ⟨_, rfl, ?_⟩))
        go_ret
        exact ⟨by first | rfl | (simp [errW_none, errW_some] <;> rfl) | (simp [*, errW_none, errW_some] <;> rfl), by repeat (first | (with_reducible first | exact HB.out | apply below_alloc | apply pw_below_drewN | apply below_drew1) | exact HB.out)⟩
      · rw [if_neg c9] at H
        have c9b0 : decide (t1123 < 0) = false := decide_eq_false c9
        clear c9
        replace H := Option.bind_eq_some_iff.mp H
        obtain ⟨t1124, A100, H⟩ := H
        replace H : ((spec_CheckGrow.f k a0 a1 a2 a3 t1124).bind fun t1127 => ((laws_toStringS.f k l4).bind fun t1128 => ((impl_CheckGrow.f k a0 a1 a2 a3 t1128).bind fun t1131 => (if (t1131 != t1127) = true then (some false) else ((laws_toStringS.f k l4).bind fun t1132 => ((laws_eqStringS.f k t1128 t1132).bind fun t1135 => (if t1135 = true then (some true) else (some false)))))))) = some r := H
        have A10 := Aside0.mk A100
        clear A100
        replace H := Option.bind_eq_some_iff.mp H
        obtain ⟨t1127, A110, H⟩ := H
        replace H : ((laws_toStringS.f k l4).bind fun t1128 => ((impl_CheckGrow.f k a0 a1 a2 a3 t1128).bind fun t1131 => (if (t1131 != t1127) = true then (some false) else ((laws_toStringS.f k l4).bind fun t1132 => ((laws_eqStringS.f k t1128 t1132).bind fun t1135 => (if t1135 = true then (some true) else (some false))))))) = some r := H
        have A11 := Aside0.mk A110
        clear A110
        replace H := Option.bind_eq_some_iff.mp H
        obtain ⟨t1128, A120, H⟩ := H
        replace H : ((impl_CheckGrow.f k a0 a1 a2 a3 t1128).bind fun t1131 => (if (t1131 != t1127) = true then (some false) else ((laws_toStringS.f k l4).bind fun t1132 => ((laws_eqStringS.f k t1128 t1132).bind fun t1135 => (if t1135 = true then (some true) else (some false)))))) = some r := H
        have A12 := Aside0.mk A120
        clear A120
        replace H := Option.bind_eq_some_iff.mp H
        obtain ⟨t1131, A130, H⟩ := H
        replace H : (if (t1131 != t1127) = true then (some false) else ((laws_toStringS.f k l4).bind fun t1132 => ((laws_eqStringS.f k t1128 t1132).bind fun t1135 => (if t1135 = true then (some true) else (some false))))) = some r := H
        have A13 := Aside0.mk A130
        clear A130
        by_cases c14 : (t1131 != t1127) = true
        · rw [if_pos c14] at H
          have c14b0 : (t1131 != t1127) = true := c14
          (try (have c14b1 : decide (t1131 = t1127) = false := by simpa using c14))
          (try (have c14b2 : (t1131 == t1127) = false := by simpa using c14))
          (try (have c14b3 : ¬ (t1131 = t1127) := by simpa using c14))
          clear c14
          obtain rfl := Option.some.inj H
          go_enter Try.func25, Try.ntmps25
          go_wp2_with (first | ((with_reducible refine gate_callee (f := 54) rfl ?_); refine goesL_ (some 23) rfl rfl Try.func54 (by kernel_rfl) rfl #[.slice A4 l4.length c4, .int .i64 1048576] rfl (by (try simp only [List.map_toArray, List.map_cons, List.map_nil]); first | done | rfl | (simp only [List.length_drop, List.length_take]; rfl)) ?_; (with_reducible refine (laws_szStringS.calls k _ _ l4 1048576 t1123 _ ?side1 ?side2 A8.out).mono ?_); (case side1 => repeat (first | exact HR4.out | (with_reducible refine Kd.C_alloc ?_ _) | (with_reducible refine Kd.C_drewN ?_ _) | (with_reducible refine Kd.C_drew ?_))); (case side2 => exact HC4.out); rintro e w' ⟨rfl, ⟨nd, rfl⟩⟩; refine ⟨_, rfl, ?_⟩) | ((with_reducible refine gate_callee (f := 56) rfl ?_); refine goesL_ (some 31) rfl rfl Try.func56 (by kernel_rfl) rfl #[.slice A4 l4.length c4] rfl (by (try simp only [List.map_toArray, List.map_cons, List.map_nil]); first | done | rfl | (simp only [List.length_drop, List.length_take]; rfl)) ?_; (with_reducible refine (laws_toStringS.calls k _ _ l4 t1124 _ ?side1 ?side2 A10.out).mono ?_); (case side1 => repeat (first | exact HR4.out | (with_reducible refine Kd.C_alloc ?_ _) | (with_reducible refine Kd.C_drewN ?_ _) | (with_reducible refine Kd.C_drew ?_))); (case side2 => exact HC4.out); rintro e w15 ⟨v1125, rfl, ho0, hb⟩; refine ⟨_, rfl, ?_⟩; have n0_ := Aside0.mk (Kd.R_lower ho0 (below_size (by repeat (first | (with_reducible first | exact HB.out | apply below_alloc | apply pw_below_drewN | apply below_drew1) | exact HB.out)))); have n1_ := Aside0.mk (below_step (by repeat (first | (with_reducible first | exact HB.out | apply below_alloc | apply pw_below_drewN | apply below_drew1) | exact HB.out)) hb); clear HB; have HO1126 := n0_; have HB := n1_; clear n0_ n1_; (try clear hb); (try clear hb2); (try clear hk); (try clear hi); (try clear ho0); obtain ⟨Ao16, co16, eo16⟩ := Kd.R_slice HO1126.out; subst eo16) | ((with_reducible refine gate_callee (f := 80) rfl ?_); refine goesL_ (some 32) rfl rfl Try.func80 (by kernel_rfl) rfl #[.int .i64 a0, .int .i64 a1, .string a2, .string a3, .slice Ao16 t1124.length co16] rfl (by (try simp only [List.map_toArray, List.map_cons, List.map_nil]); first | done | rfl | (simp only [List.length_drop, List.length_take]; rfl)) ?_; (with_reducible refine (spec_CheckGrow.calls k a0 a1 a2 a3 _ _ t1124 t1127 _ ?side1 ?side2 A11.out).mono ?_); (case side1 => repeat (first | exact (Kd.R_reads' HO1126.out).2.2 | (with_reducible refine Kd.C_alloc ?_ _) | (with_reducible refine Kd.C_drewN ?_ _) | (with_reducible refine Kd.C_drew ?_))); (case side2 => exact (Kd.R_reads' HO1126.out).2.1); rintro e w17 ⟨rfl, hb⟩; refine ⟨_, rfl, ?_⟩; have n0_ := Aside0.mk (Kd.R_below (by (with_reducible repeat (first | apply Kd.R_alloc | apply Kd.R_drewN | apply Kd.R_drew)); exact HO1126.out) hb); have n1_ := Aside0.mk (below_step (by repeat (first | (with_reducible first | exact HB.out | apply below_alloc | apply pw_below_drewN | apply below_drew1) | exact HB.out)) hb); clear HO1126; clear HB; have HO1126 := n0_; have HB := n1_; clear n0_ n1_; (try clear hb); (try clear hb2); (try clear hk); (try clear hi)) | ((with_reducible refine gate_callee (f := 56) rfl ?_); refine goesL_ (some 34) rfl rfl Try.func56 (by kernel_rfl) rfl #[.slice A4 l4.length c4] rfl (by (try simp only [List.map_toArray, List.map_cons, List.map_nil]); first | done | rfl | (simp only [List.length_drop, List.length_take]; rfl)) ?_; (with_reducible refine (laws_toStringS.calls k _ _ l4 t1128 _ ?side1 ?side2 A12.out).mono ?_); (case side1 => repeat (first | exact (Kd.C_below HR4.out HB.out) | (with_reducible refine Kd.C_alloc ?_ _) | (with_reducible refine Kd.C_drewN ?_ _) | (with_reducible refine Kd.C_drew ?_))); (case side2 => exact HC4.out); rintro e w18 ⟨v1129, rfl, ho0, hb⟩; refine ⟨_, rfl, ?_⟩; have n0_ := Aside0.mk (Kd.R_elder' (by (with_reducible repeat (first | apply Kd.R_alloc | apply Kd.R_drewN | apply Kd.R_drew)); exact HO1126.out) (Kd.R_base ho0) hb); have n1_ := Aside0.mk (Kd.R_lower (Kd.R_new' ho0 (Kd.R_lt (by (with_reducible repeat (first | apply Kd.R_alloc | apply Kd.R_drewN | apply Kd.R_drew)); exact HO1126.out))) (below_size (by repeat (first | (with_reducible first | exact HB.out | apply below_alloc | apply pw_below_drewN | apply below_drew1) | exact HB.out)))); have n2_ := Aside0.mk (below_step (by repeat (first | (with_reducible first | exact HB.out | apply below_alloc | apply pw_below_drewN | apply below_drew1) | exact HB.out)) hb); clear HO1126; clear HB; have HO1126 := n0_; have HO1130 := n1_; have HB := n2_; clear n0_ n1_ n2_; (try clear hb); (try clear hb2); (try clear hk); (try clear hi); (try clear ho0); obtain ⟨Ao19, co19, eo19⟩ := Kd.R_slice HO1130.out; subst eo19) | ((with_reducible refine gate_callee (f := 75) rfl ?_); refine goesL_ (some 40) rfl rfl Try.func75 (by kernel_rfl) rfl #[.int .i64 a0, .int .i64 a1, .string a2, .string a3, .slice Ao19 t1128.length co19] rfl (by (try simp only [List.map_toArray, List.map_cons, List.map_nil]); first | done | rfl | (simp only [List.length_drop, List.length_take]; rfl)) ?_; (with_reducible refine (impl_CheckGrow.calls k a0 a1 a2 a3 _ _ t1128 t1131 _ ?side1 ?side2 A13.out).mono ?_); (case side1 => repeat (first | exact (Kd.R_reads' HO1130.out).2.2 | (with_reducible refine Kd.C_alloc ?_ _) | (with_reducible refine Kd.C_drewN ?_ _) | (with_reducible refine Kd.C_drew ?_))); (case side2 => exact (Kd.R_reads' HO1130.out).2.1); rintro e w20 ⟨rfl, hb⟩; refine ⟨_, rfl, ?_⟩; have n0_ := Aside0.mk (Kd.R_below (by (with_reducible repeat (first | apply Kd.R_alloc | apply Kd.R_drewN | apply Kd.R_drew)); exact HO1126.out) hb); have n1_ := Aside0.mk (Kd.R_below (by (with_reducible repeat (first | apply Kd.R_alloc | apply Kd.R_drewN | apply Kd.R_drew)); exact HO1130.out) hb); have n2_ := Aside0.mk (below_step (by repeat (first | (with_reducible first | exact HB.out | apply below_alloc | apply pw_below_drewN | apply below_drew1) | exact HB.out)) hb); clear HO1126; clear HO1130; clear HB; have HO1126 := n0_; have HO1130 := n1_; have HB := n2_; clear n0_ n1_ n2_; (try clear hb); (try clear hb2); (try clear hk); (try clear hi)))
          go_ret
          exact ⟨by first | rfl | (simp [errW_none, errW_some] <;> rfl) | (simp [*, errW_none, errW_some] <;> rfl), by repeat (first | (with_reducible first | exact HB.out | apply below_alloc | apply pw_below_drewN | apply below_drew1) | exact HB.out)⟩
        · rw [if_neg c14] at H
          have c14b0 : (t1131 != t1127) = false := by simpa using c14
          (try (have c14b1 : decide (t1131 = t1127) = true := by simpa using c14))
          (try (have c14b2 : (t1131 == t1127) = true := by simpa using c14))
          clear c14
          replace H := Option.bind_eq_some_iff.mp H
          obtain ⟨t1132, A210, H⟩ := H
          replace H : ((laws_eqStringS.f k t1128 t1132).bind fun t1135 => (if t1135 = true then (some true) else (some false))) = some r := H
          have A21 := Aside0.mk A210
          clear A210
          replace H := Option.bind_eq_some_iff.mp H
          obtain ⟨t1135, A220, H⟩ := H
          replace H : (if t1135 = true then (some true) else (some false)) = some r := H
          have A22 := Aside0.mk A220
          clear A220
          by_cases c23 : t1135 = true
          · subst c23
            have H1 : (some true) = some r := by rw [if_pos rfl] at H; exact H
            clear H
            have H := H1
            clear H1
            obtain rfl := Option.some.inj H
            go_enter Try.func25, Try.ntmps25
            go_wp2_with (first | ((with_reducible refine gate_callee (f := 54) rfl ?_); refine goesL_ (some 23) rfl rfl Try.func54 (by kernel_rfl) rfl #[.slice A4 l4.length c4, .int .i64 1048576] rfl (by (try simp only [List.map_toArray, List.map_cons, List.map_nil]); first | done | rfl | (simp only [List.length_drop, List.length_take]; rfl)) ?_; (with_reducible refine (laws_szStringS.calls k _ _ l4 1048576 t1123 _ ?side1 ?side2 A8.out).mono ?_); (case side1 => repeat (first | exact HR4.out | (with_reducible refine Kd.C_alloc ?_ _) | (with_reducible refine Kd.C_drewN ?_ _) | (with_reducible refine Kd.C_drew ?_))); (case side2 => exact HC4.out); rintro e w' ⟨rfl, ⟨nd, rfl⟩⟩; refine ⟨_, rfl, ?_⟩) | ((with_reducible refine gate_callee (f := 56) rfl ?_); refine goesL_ (some 31) rfl rfl Try.func56 (by kernel_rfl) rfl #[.slice A4 l4.length c4] rfl (by (try simp only [List.map_toArray, List.map_cons, List.map_nil]); first | done | rfl | (simp only [List.length_drop, List.length_take]; rfl)) ?_; (with_reducible refine (laws_toStringS.calls k _ _ l4 t1124 _ ?side1 ?side2 A10.out).mono ?_); (case side1 => repeat (first | exact HR4.out | (with_reducible refine Kd.C_alloc ?_ _) | (with_reducible refine Kd.C_drewN ?_ _) | (with_reducible refine Kd.C_drew ?_))); (case side2 => exact HC4.out); rintro e w24 ⟨v1125, rfl, ho0, hb⟩; refine ⟨_, rfl, ?_⟩; have n0_ := Aside0.mk (Kd.R_lower ho0 (below_size (by repeat (first | (with_reducible first | exact HB.out | apply below_alloc | apply pw_below_drewN | apply below_drew1) | exact HB.out)))); have n1_ := Aside0.mk (below_step (by repeat (first | (with_reducible first | exact HB.out | apply below_alloc | apply pw_below_drewN | apply below_drew1) | exact HB.out)) hb); clear HB; have HO1126 := n0_; have HB := n1_; clear n0_ n1_; (try clear hb); (try clear hb2); (try clear hk); (try clear hi); (try clear ho0); obtain ⟨Ao25, co25, eo25⟩ := Kd.R_slice HO1126.out; subst eo25) | ((with_reducible refine gate_callee (f := 80) rfl ?_); refine goesL_ (some 32) rfl rfl Try.func80 (by kernel_rfl) rfl #[.int .i64 a0, .int .i64 a1, .string a2, .string a3, .slice Ao25 t1124.length co25] rfl (by (try simp only [List.map_toArray, List.map_cons, List.map_nil]); first | done | rfl | (simp only [List.length_drop, List.length_take]; rfl)) ?_; (with_reducible refine (spec_CheckGrow.calls k a0 a1 a2 a3 _ _ t1124 t1127 _ ?side1 ?side2 A11.out).mono ?_); (case side1 => repeat (first | exact (Kd.R_reads' HO1126.out).2.2 | (with_reducible refine Kd.C_alloc ?_ _) | (with_reducible refine Kd.C_drewN ?_ _) | (with_reducible refine Kd.C_drew ?_))); (case side2 => exact (Kd.R_reads' HO1126.out).2.1); rintro e w26 ⟨rfl, hb⟩; refine ⟨_, rfl, ?_⟩; have n0_ := Aside0.mk (Kd.R_below (by (with_reducible repeat (first | apply Kd.R_alloc | apply Kd.R_drewN | apply Kd.R_drew)); exact HO1126.out) hb); have n1_ := Aside0.mk (below_step (by repeat (first | (with_reducible first | exact HB.out | apply below_alloc | apply pw_below_drewN | apply below_drew1) | exact HB.out)) hb); clear HO1126; clear HB; have HO1126 := n0_; have HB := n1_; clear n0_ n1_; (try clear hb); (try clear hb2); (try clear hk); (try clear hi)) | ((with_reducible refine gate_callee (f := 56) rfl ?_); refine goesL_ (some 34) rfl rfl Try.func56 (by kernel_rfl) rfl #[.slice A4 l4.length c4] rfl (by (try simp only [List.map_toArray, List.map_cons, List.map_nil]); first | done | rfl | (simp only [List.length_drop, List.length_take]; rfl)) ?_; (with_reducible refine (laws_toStringS.calls k _ _ l4 t1128 _ ?side1 ?side2 A12.out).mono ?_); (case side1 => repeat (first | exact (Kd.C_below HR4.out HB.out) | (with_reducible refine Kd.C_alloc ?_ _) | (with_reducible refine Kd.C_drewN ?_ _) | (with_reducible refine Kd.C_drew ?_))); (case side2 => exact HC4.out); rintro e w27 ⟨v1129, rfl, ho0, hb⟩; refine ⟨_, rfl, ?_⟩; have n0_ := Aside0.mk (Kd.R_elder' (by (with_reducible repeat (first | apply Kd.R_alloc | apply Kd.R_drewN | apply Kd.R_drew)); exact HO1126.out) (Kd.R_base ho0) hb); have n1_ := Aside0.mk (Kd.R_lower (Kd.R_new' ho0 (Kd.R_lt (by (with_reducible repeat (first | apply Kd.R_alloc | apply Kd.R_drewN | apply Kd.R_drew)); exact HO1126.out))) (below_size (by repeat (first | (with_reducible first | exact HB.out | apply below_alloc | apply pw_below_drewN | apply below_drew1) | exact HB.out)))); have n2_ := Aside0.mk (below_step (by repeat (first | (with_reducible first | exact HB.out | apply below_alloc | apply pw_below_drewN | apply below_drew1) | exact HB.out)) hb); clear HO1126; clear HB; have HO1126 := n0_; have HO1130 := n1_; have HB := n2_; clear n0_ n1_ n2_; (try clear hb); (try clear hb2); (try clear hk); (try clear hi); (try clear ho0); obtain ⟨Ao28, co28, eo28⟩ := Kd.R_slice HO1130.out; subst eo28) | ((with_reducible refine gate_callee (f := 75) rfl ?_); refine goesL_ (some 40) rfl rfl Try.func75 (by kernel_rfl) rfl #[.int .i64 a0, .int .i64 a1, .string a2, .string a3, .slice Ao28 t1128.length co28] rfl (by (try simp only [List.map_toArray, List.map_cons, List.map_nil]); first | done | rfl | (simp only [List.length_drop, List.length_take]; rfl)) ?_; (with_reducible refine (impl_CheckGrow.calls k a0 a1 a2 a3 _ _ t1128 t1131 _ ?side1 ?side2 A13.out).mono ?_); (case side1 => repeat (first | exact (Kd.R_reads' HO1130.out).2.2 | (with_reducible refine Kd.C_alloc ?_ _) | (with_reducible refine Kd.C_drewN ?_ _) | (with_reducible refine Kd.C_drew ?_))); (case side2 => exact (Kd.R_reads' HO1130.out).2.1); rintro e w29 ⟨rfl, hb⟩; refine ⟨_, rfl, ?_⟩; have n0_ := Aside0.mk (Kd.R_below (by (with_reducible repeat (first | apply Kd.R_alloc | apply Kd.R_drewN | apply Kd.R_drew)); exact HO1126.out) hb); have n1_ := Aside0.mk (Kd.R_below (by (with_reducible repeat (first | apply Kd.R_alloc | apply Kd.R_drewN | apply Kd.R_drew)); exact HO1130.out) hb); have n2_ := Aside0.mk (below_step (by repeat (first | (with_reducible first | exact HB.out | apply below_alloc | apply pw_below_drewN | apply below_drew1) | exact HB.out)) hb); clear HO1126; clear HO1130; clear HB; have HO1126 := n0_; have HO1130 := n1_; have HB := n2_; clear n0_ n1_ n2_; (try clear hb); (try clear hb2); (try clear hk); (try clear hi)) | ((with_reducible refine gate_callee (f := 56) rfl ?_); refine goesL_ (some 46) rfl rfl Try.func56 (by kernel_rfl) rfl #[.slice A4 l4.length c4] rfl (by (try simp only [List.map_toArray, List.map_cons, List.map_nil]); first | done | rfl | (simp only [List.length_drop, List.length_take]; rfl)) ?_; (with_reducible refine (laws_toStringS.calls k _ _ l4 t1132 _ ?side1 ?side2 A21.out).mono ?_); (case side1 => repeat (first | exact (Kd.C_below HR4.out HB.out) | (with_reducible refine Kd.C_alloc ?_ _) | (with_reducible refine Kd.C_drewN ?_ _) | (with_reducible refine Kd.C_drew ?_))); (case side2 => exact HC4.out); rintro e w30 ⟨v1133, rfl, ho0, hb⟩; refine ⟨_, rfl, ?_⟩; have n0_ := Aside0.mk (Kd.R_elder' (by (with_reducible repeat (first | apply Kd.R_alloc | apply Kd.R_drewN | apply Kd.R_drew)); exact HO1126.out) (Kd.R_base ho0) hb); have n1_ := Aside0.mk (Kd.R_elder' (by (with_reducible repeat (first | apply Kd.R_alloc | apply Kd.R_drewN | apply Kd.R_drew)); exact HO1130.out) (Kd.R_base ho0) hb); have n2_ := Aside0.mk (Kd.R_lower (Kd.R_new' (Kd.R_new' ho0 (Kd.R_lt (by (with_reducible repeat (first | apply Kd.R_alloc | apply Kd.R_drewN | apply Kd.R_drew)); exact HO1126.out))) (Kd.R_lt (by (with_reducible repeat (first | apply Kd.R_alloc | apply Kd.R_drewN | apply Kd.R_drew)); exact HO1130.out))) (below_size (by repeat (first | (with_reducible first | exact HB.out | apply below_alloc | apply pw_below_drewN | apply below_drew1) | exact HB.out)))); have n3_ := Aside0.mk (below_step (by repeat (first | (with_reducible first | exact HB.out | apply below_alloc | apply pw_below_drewN | apply below_drew1) | exact HB.out)) hb); clear HO1126; clear HO1130; clear HB; have HO1126 := n0_; have HO1130 := n1_; have HO1134 := n2_; have HB := n3_; clear n0_ n1_ n2_ n3_; (try clear hb); (try clear hb2); (try clear hk); (try clear hi); (try clear ho0); obtain ⟨Ao31, co31, eo31⟩ := Kd.R_slice HO1134.out; subst eo31) | ((with_reducible refine gate_callee (f := 58) rfl ?_); refine goesL_ (some 47) rfl rfl Try.func58 (by kernel_rfl) rfl #[.slice Ao28 t1128.length co28, .slice Ao31 t1132.length co31] rfl (by (try simp only [List.map_toArray, List.map_cons, List.map_nil]); first | done | rfl | (simp only [List.length_drop, List.length_take]; rfl)) ?_; (with_reducible refine (laws_eqStringS.calls k _ _ t1128 _ _ t1132 true _ ?side1 ?side2 ?side3 ?side4 A22.out).mono ?_); (case side1 => repeat (first | exact (Kd.R_reads' HO1130.out).2.2 | (with_reducible refine Kd.C_alloc ?_ _) | (with_reducible refine Kd.C_drewN ?_ _) | (with_reducible refine Kd.C_drew ?_))); (case side2 => exact (Kd.R_reads' HO1130.out).2.1); (case side3 => repeat (first | exact (Kd.R_reads' HO1134.out).2.2 | (with_reducible refine Kd.C_alloc ?_ _) | (with_reducible refine Kd.C_drewN ?_ _) | (with_reducible refine Kd.C_drew ?_))); (case side4 => exact (Kd.R_reads' HO1134.out).2.1); rintro e w' ⟨rfl, ⟨nd, rfl⟩⟩; refine ⟨_, rfl, ?_⟩))
            go_ret
            exact ⟨by first | rfl | (simp [errW_none, errW_some] <;> rfl) | (simp [*, errW_none, errW_some] <;> rfl), by repeat (first | (with_reducible first | exact HB.out | apply below_alloc | apply pw_below_drewN | apply below_drew1) | exact HB.out)⟩
          · replace c23 := Bool.eq_false_iff.mpr c23
            subst c23
            have H1 : (some false) = some r := by rw [if_neg (show ¬ (false = true) by decide)] at H; exact H
            clear H
            have H := H1
            clear H1
            obtain rfl := Option.some.inj H
            go_enter Try.func25, Try.ntmps25
            go_wp2_with (first | ((with_reducible refine gate_callee (f := 54) rfl ?_); refine goesL_ (some 23) rfl rfl Try.func54 (by kernel_rfl) rfl #[.slice A4 l4.length c4, .int .i64 1048576] rfl (by (try simp only [List.map_toArray, List.map_cons, List.map_nil]); first | done | rfl | (simp only [List.length_drop, List.length_take]; rfl)) ?_; (with_reducible refine (laws_szStringS.calls k _ _ l4 1048576 t1123 _ ?side1 ?side2 A8.out).mono ?_); (case side1 => repeat (first | exact HR4.out | (with_reducible refine Kd.C_alloc ?_ _) | (with_reducible refine Kd.C_drewN ?_ _) | (with_reducible refine Kd.C_drew ?_))); (case side2 => exact HC4.out); rintro e w' ⟨rfl, ⟨nd, rfl⟩⟩; refine ⟨_, rfl, ?_⟩) | ((with_reducible refine gate_callee (f := 56) rfl ?_); refine goesL_ (some 31) rfl rfl Try.func56 (by kernel_rfl) rfl #[.slice A4 l4.length c4] rfl (by (try simp only [List.map_toArray, List.map_cons, List.map_nil]); first | done | rfl | (simp only [List.length_drop, List.length_take]; rfl)) ?_; (with_reducible refine (laws_toStringS.calls k _ _ l4 t1124 _ ?side1 ?side2 A10.out).mono ?_); (case side1 => repeat (first | exact HR4.out | (with_reducible refine Kd.C_alloc ?_ _) | (with_reducible refine Kd.C_drewN ?_ _) | (with_reducible refine Kd.C_drew ?_))); (case side2 => exact HC4.out); rintro e w32 ⟨v1125, rfl, ho0, hb⟩; refine ⟨_, rfl, ?_⟩; have n0_ := Aside0.mk (Kd.R_lower ho0 (below_size (by repeat (first | (with_reducible first | exact HB.out | apply below_alloc | apply pw_below_drewN | apply below_drew1) | exact HB.out)))); have n1_ := Aside0.mk (below_step (by repeat (first | (with_reducible first | exact HB.out | apply below_alloc | apply pw_below_drewN | apply below_drew1) | exact HB.out)) hb); clear HB; have HO1126 := n0_; have HB := n1_; clear n0_ n1_; (try clear hb); (try clear hb2); (try clear hk); (try clear hi); (try clear ho0); obtain ⟨Ao33, co33, eo33⟩ := Kd.R_slice HO1126.out; subst eo33) | ((with_reducible refine gate_callee (f := 80) rfl ?_); refine goesL_ (some 32) rfl rfl Try.func80 (by kernel_rfl) rfl #[.int .i64 a0, .int .i64 a1, .string a2, .string a3, .slice Ao33 t1124.length co33] rfl (by (try simp only [List.map_toArray, List.map_cons, List.map_nil]); first | done | rfl | (simp only [List.length_drop, List.length_take]; rfl)) ?_; (with_reducible refine (spec_CheckGrow.calls k a0 a1 a2 a3 _ _ t1124 t1127 _ ?side1 ?side2 A11.out).mono ?_); (case side1 => repeat (first | exact (Kd.R_reads' HO1126.out).2.2 | (with_reducible refine Kd.C_alloc ?_ _) | (with_reducible refine Kd.C_drewN ?_ _) | (with_reducible refine Kd.C_drew ?_))); (case side2 => exact (Kd.R_reads' HO1126.out).2.1); rintro e w34 ⟨rfl, hb⟩; refine ⟨_, rfl, ?_⟩; have n0_ := Aside0.mk (Kd.R_below (by (with_reducible repeat (first | apply Kd.R_alloc | apply Kd.R_drewN | apply Kd.R_drew)); exact HO1126.out) hb); have n1_ := Aside0.mk (below_step (by repeat (first | (with_reducible first | exact HB.out | apply below_alloc | apply pw_below_drewN | apply below_drew1) | exact HB.out)) hb); clear HO1126; clear HB; have HO1126 := n0_; have HB := n1_; clear n0_ n1_; (try clear hb); (try clear hb2); (try clear hk); (try clear hi)) | ((with_reducible refine gate_callee (f := 56) rfl ?_); refine goesL_ (some 34) rfl rfl Try.func56 (by kernel_rfl) rfl #[.slice A4 l4.length c4] rfl (by (try simp only [List.map_toArray, List.map_cons, List.map_nil]); first | done | rfl | (simp only [List.length_drop, List.length_take]; rfl)) ?_; (with_reducible refine (laws_toStringS.calls k _ _ l4 t1128 _ ?side1 ?side2 A12.out).mono ?_); (case side1 => repeat (first | exact (Kd.C_below HR4.out HB.out) | (with_reducible refine Kd.C_alloc ?_ _) | (with_reducible refine Kd.C_drewN ?_ _) | (with_reducible refine Kd.C_drew ?_))); (case side2 => exact HC4.out); rintro e w35 ⟨v1129, rfl, ho0, hb⟩; refine ⟨_, rfl, ?_⟩; have n0_ := Aside0.mk (Kd.R_elder' (by (with_reducible repeat (first | apply Kd.R_alloc | apply Kd.R_drewN | apply Kd.R_drew)); exact HO1126.out) (Kd.R_base ho0) hb); have n1_ := Aside0.mk (Kd.R_lower (Kd.R_new' ho0 (Kd.R_lt (by (with_reducible repeat (first | apply Kd.R_alloc | apply Kd.R_drewN | apply Kd.R_drew)); exact HO1126.out))) (below_size (by repeat (first | (with_reducible first | exact HB.out | apply below_alloc | apply pw_below_drewN | apply below_drew1) | exact HB.out)))); have n2_ := Aside0.mk (below_step (by repeat (first | (with_reducible first | exact HB.out | apply below_alloc | apply pw_below_drewN | apply below_drew1) | exact HB.out)) hb); clear HO1126; clear HB; have HO1126 := n0_; have HO1130 := n1_; have HB := n2_; clear n0_ n1_ n2_; (try clear hb); (try clear hb2); (try clear hk); (try clear hi); (try clear ho0); obtain ⟨Ao36, co36, eo36⟩ := Kd.R_slice HO1130.out; subst eo36) | ((with_reducible refine gate_callee (f := 75) rfl ?_); refine goesL_ (some 40) rfl rfl Try.func75 (by kernel_rfl) rfl #[.int .i64 a0, .int .i64 a1, .string a2, .string a3, .slice Ao36 t1128.length co36] rfl (by (try simp only [List.map_toArray, List.map_cons, List.map_nil]); first | done | rfl | (simp only [List.length_drop, List.length_take]; rfl)) ?_; (with_reducible refine (impl_CheckGrow.calls k a0 a1 a2 a3 _ _ t1128 t1131 _ ?side1 ?side2 A13.out).mono ?_); (case side1 => repeat (first | exact (Kd.R_reads' HO1130.out).2.2 | (with_reducible refine Kd.C_alloc ?_ _) | (with_reducible refine Kd.C_drewN ?_ _) | (with_reducible refine Kd.C_drew ?_))); (case side2 => exact (Kd.R_reads' HO1130.out).2.1); rintro e w37 ⟨rfl, hb⟩; refine ⟨_, rfl, ?_⟩; have n0_ := Aside0.mk (Kd.R_below (by (with_reducible repeat (first | apply Kd.R_alloc | apply Kd.R_drewN | apply Kd.R_drew)); exact HO1126.out) hb); have n1_ := Aside0.mk (Kd.R_below (by (with_reducible repeat (first | apply Kd.R_alloc | apply Kd.R_drewN | apply Kd.R_drew)); exact HO1130.out) hb); have n2_ := Aside0.mk (below_step (by repeat (first | (with_reducible first | exact HB.out | apply below_alloc | apply pw_below_drewN | apply below_drew1) | exact HB.out)) hb); clear HO1126; clear HO1130; clear HB; have HO1126 := n0_; have HO1130 := n1_; have HB := n2_; clear n0_ n1_ n2_; (try clear hb); (try clear hb2); (try clear hk); (try clear hi)) | ((with_reducible refine gate_callee (f := 56) rfl ?_); refine goesL_ (some 46) rfl rfl Try.func56 (by kernel_rfl) rfl #[.slice A4 l4.length c4] rfl (by (try simp only [List.map_toArray, List.map_cons, List.map_nil]); first | done | rfl | (simp only [List.length_drop, List.length_take]; rfl)) ?_; (with_reducible refine (laws_toStringS.calls k _ _ l4 t1132 _ ?side1 ?side2 A21.out).mono ?_); (case side1 => repeat (first | exact (Kd.C_below HR4.out HB.out) | (with_reducible refine Kd.C_alloc ?_ _) | (with_reducible refine Kd.C_drewN ?_ _) | (with_reducible refine Kd.C_drew ?_))); (case side2 => exact HC4.out); rintro e w38 ⟨v1133, rfl, ho0, hb⟩; refine ⟨_, rfl, ?_⟩; have n0_ := Aside0.mk (Kd.R_elder' (by (with_reducible repeat (first | apply Kd.R_alloc | apply Kd.R_drewN | apply Kd.R_drew)); exact HO1126.out) (Kd.R_base ho0) hb); have n1_ := Aside0.mk (Kd.R_elder' (by (with_reducible repeat (first | apply Kd.R_alloc | apply Kd.R_drewN | apply Kd.R_drew)); exact HO1130.out) (Kd.R_base ho0) hb); have n2_ := Aside0.mk (Kd.R_lower (Kd.R_new' (Kd.R_new' ho0 (Kd.R_lt (by (with_reducible repeat (first | apply Kd.R_alloc | apply Kd.R_drewN | apply Kd.R_drew)); exact HO1126.out))) (Kd.R_lt (by (with_reducible repeat (first | apply Kd.R_alloc | apply Kd.R_drewN | apply Kd.R_drew)); exact HO1130.out))) (below_size (by repeat (first | (with_reducible first | exact HB.out | apply below_alloc | apply pw_below_drewN | apply below_drew1) | exact HB.out)))); have n3_ := Aside0.mk (below_step (by repeat (first | (with_reducible first | exact HB.out | apply below_alloc | apply pw_below_drewN | apply below_drew1) | exact HB.out)) hb); clear HO1126; clear HO1130; clear HB; have HO1126 := n0_; have HO1130 := n1_; have HO1134 := n2_; have HB := n3_; clear n0_ n1_ n2_ n3_; (try clear hb); (try clear hb2); (try clear hk); (try clear hi); (try clear ho0); obtain ⟨Ao39, co39, eo39⟩ := Kd.R_slice HO1134.out; subst eo39) | ((with_reducible refine gate_callee (f := 58) rfl ?_); refine goesL_ (some 47) rfl rfl Try.func58 (by kernel_rfl) rfl #[.slice Ao36 t1128.length co36, .slice Ao39 t1132.length co39] rfl (by (try simp only [List.map_toArray, List.map_cons, List.map_nil]); first | done | rfl | (simp only [List.length_drop, List.length_take]; rfl)) ?_; (with_reducible refine (laws_eqStringS.calls k _ _ t1128 _ _ t1132 false _ ?side1 ?side2 ?side3 ?side4 A22.out).mono ?_); (case side1 => repeat (first | exact (Kd.R_reads' HO1130.out).2.2 | (with_reducible refine Kd.C_alloc ?_ _) | (with_reducible refine Kd.C_drewN ?_ _) | (with_reducible refine Kd.C_drew ?_))); (case side2 => exact (Kd.R_reads' HO1130.out).2.1); (case side3 => repeat (first | exact (Kd.R_reads' HO1134.out).2.2 | (with_reducible refine Kd.C_alloc ?_ _) | (with_reducible refine Kd.C_drewN ?_ _) | (with_reducible refine Kd.C_drew ?_))); (case side4 => exact (Kd.R_reads' HO1134.out).2.1); rintro e w' ⟨rfl, ⟨nd, rfl⟩⟩; refine ⟨_, rfl, ?_⟩))
            go_ret
            exact ⟨by first | rfl | (simp [errW_none, errW_some] <;> rfl) | (simp [*, errW_none, errW_some] <;> rfl), by repeat (first | (with_reducible first | exact HB.out | apply below_alloc | apply pw_below_drewN | apply below_drew1) | exact HB.out)⟩

/-- THE ONE PURE STATEMENT of laws_FnExactCheckGrow: yours. -/
def laws_FnExactCheckGrow.Pure : Prop := ∀ (a0 : Int) (a1 : Int) (a2 : ByteArray) (a3 : ByteArray) (l4 : List ByteArray), (Lit.int .i64 a0).wf = true → (Lit.int .i64 a1).wf = true → a2.size ≤ 140737488351232 → a3.size ≤ 140737488351232 → l4.length ≤ maxLen → (∀ y, y ∈ l4 → y.size ≤ maxLen) → ∃ k, laws_FnExactCheckGrow.f k a0 a1 a2 a3 l4 = some true
theorem laws_FnExactCheckGrow.walk (P : laws_FnExactCheckGrow.Pure) (a0 : Int) (a1 : Int) (a2 : ByteArray) (a3 : ByteArray) (a4 : Option Addr) (cap4 : Nat) (l4 : List ByteArray) (w : World) (w0 : (Lit.int .i64 a0).wf = true) (w1 : (Lit.int .i64 a1).wf = true) (w2 : a2.size ≤ 140737488351232) (w3 : a3.size ≤ 140737488351232) (hr4 : Kd.C Kd.string w a4 l4.length l4) (hc4 : l4.length ≤ cap4) (hm4 : l4.length ≤ maxLen) (hg4 : ∀ y, y ∈ l4 → y.size ≤ maxLen) :
    Calls Try.prog 25 #[.int .i64 a0, .int .i64 a1, .string a2, .string a3, .slice a4 l4.length cap4] w fun e w' => e = .returned (.bool true) ∧ Below w.heap.size w w' := by
  obtain ⟨k, h⟩ := P a0 a1 a2 a3 l4 w0 w1 w2 w3 hm4 hg4
  refine (laws_FnExactCheckGrow.calls k a0 a1 a2 a3 _ _ l4 true w hr4 hc4 h).mono ?_
  rintro e w' ⟨rfl, hd⟩
  exact ⟨rfl, hd⟩

end Go.Proofs.Ytmkhhnfmahdijaa.X

/- Plain lemmas for what the printed functions compute: enough rounds ('Ev'), tests, bounds of whole numbers, lists. No Go, no memory. -/
set_option linter.unusedVariables false
namespace Go.Proofs.Ytmkhhnfmahdijaa.Z
open Go.RowKit Go.Proofs.YtmkhhnfmahdijaaW.PrintWords Go.Proofs.YtmkhhnfmahdijaaW.PrintMore

theorem evT {α : Type} {c : Prop} [Decidable c] {f g : Nat → Option α} {r : α} (h : c) (H : Ev f r) : Ev (fun k => if c then f k else g k) r := by
  obtain ⟨K, hK⟩ := H
  exact ⟨K, fun k hk => (if_pos h).trans (hK k hk)⟩
theorem evF {α : Type} {c : Prop} [Decidable c] {f g : Nat → Option α} {r : α} (h : ¬ c) (H : Ev g r) : Ev (fun k => if c then f k else g k) r := by
  obtain ⟨K, hK⟩ := H
  exact ⟨K, fun k hk => (if_neg h).trans (hK k hk)⟩
theorem evI {α : Type} {c : Prop} [Decidable c] {f g : Nat → Option α} {r : α} (H : c → Ev f r) (H' : ¬ c → Ev g r) : Ev (fun k => if c then f k else g k) r := by
  by_cases h : c
  · exact evT h (H h)
  · exact evF h (H' h)
theorem evB {α β : Type} {g : Nat → Option α} {f : Nat → α → Option β} {a : α} {r : β} (h : Ev g a) (k : Ev (fun n => f n a) r) : Ev (fun n => (g n).bind (f n)) r := Ev.bind h k
theorem evR {α : Type} {r r' : α} (h : r = r') : Ev (fun _ => some r) r' := h ▸ Ev.now r
/-- A callee without rounds. -/
theorem evC {α β : Type} {x : Option α} {f : Nat → α → Option β} {a : α} {r : β} (h : x = some a) (k : Ev (fun n => f n a) r) : Ev (fun n => x.bind (f n)) r := by
  subst h
  exact k
theorem evS {α : Type} {g f : Nat → Option α} {r : α} (h : ∀ k, g (k + 1) = f k) (k : Ev f r) : Ev g r := Ev.step h k
theorem evE {α : Type} {g : Nat → Option α} {r r' : α} (h : r = r') (k : Ev g r) : Ev g r' := h ▸ k
/-- Two answers of one function are one. -/
theorem ev_one {α : Type} {g : Nat → Option α} {r r' : α} (h : Ev g r) (h' : Ev g r') : r = r' := by
  obtain ⟨K, hK⟩ := h
  obtain ⟨L, hL⟩ := h'
  have a := hK (max K L) (Nat.le_max_left _ _)
  have b := hL (max K L) (Nat.le_max_right _ _)
  rw [a] at b
  exact Option.some.inj b

theorem w64 {x : Int} (h : -9223372036854775808 ≤ x ∧ x ≤ 9223372036854775807) : wrap64 x = x := by unfold wrap64; omega
theorem w64s {i n : Nat} (h : i < n) (hn : n ≤ 9223372036854775807) : wrap64 ((i : Int) + 1) = ((i + 1 : Nat) : Int) := by unfold wrap64; omega
theorem wu64 {x : Int} (h : 0 ≤ x ∧ x ≤ 18446744073709551615) : IntKind.u64.wrap x = x := by
  simp [IntKind.wrap, IntKind.bits, IntKind.signed]
  omega
theorem wi64 (x : Int) : IntKind.i64.wrap x = wrap64 x := by rw [Go.IntKind.wrap_i64]; unfold wrap64; rfl
theorem wraps_i64 (n : Int) (h₀ : 0 ≤ n) (h₁ : n < 2 ^ 63) : IntKind.i64.wrap n = n := by
  rw [wi64, w64]
  have : (2 : Int) ^ 63 = 9223372036854775808 := by decide
  omega

/-- Two lists that tell the same at each place. -/
theorem ext_get {α : Type} {l m : List α} (hn : l.length = m.length) (h : ∀ j, j < m.length → l[j]? = m[j]?) : l = m := by
  apply List.ext_getElem?
  intro j
  rcases Nat.lt_or_ge j m.length with hj | hj
  · exact h j hj
  · rw [List.getElem?_eq_none (by omega), List.getElem?_eq_none (by omega)]
theorem rd_get {l : List Int} {i : Nat} (h : i < l.length) : l[i]? = some (rd l (i : Int)) := by
  simp [rd, List.getElem?_eq_getElem h]
theorem rdOf_get {α : Type} {d : α} {l : List α} {i : Nat} (h : i < l.length) : l[i]? = some (rdOf d l (i : Int)) := by
  simp [rdOf, List.getElem?_eq_getElem h]
/-- A place that is written as it must be: one more place tells the same. -/
theorem set_next {α : Type} {l m : List α} {i : Nat} {x : α} (hn : l.length = m.length) (hi : i < m.length) (hx : m[i]? = some x) (h : ∀ j, j < i → l[j]? = m[j]?) : ∀ j, j < i + 1 → (l.set i x)[j]? = m[j]? := by
  intro j hj
  rcases Nat.lt_or_ge j i with h1 | h1
  · rw [List.getElem?_set_ne (by omega)]
    exact h j h1
  · obtain rfl : i = j := by omega
    rw [List.getElem?_set_self (by omega), hx]
end Go.Proofs.Ytmkhhnfmahdijaa.Z

namespace Go.Proofs.Ytmkhhnfmahdijaa.X
open Go.RowKit Go.Proofs.YtmkhhnfmahdijaaW.PrintWords Go.Proofs.YtmkhhnfmahdijaaW.PrintLast Go.Proofs.YtmkhhnfmahdijaaW.PrintMore
attribute [local go_sem] max2_int min2_int max_two min_two max_three min_three max_four min_four   -- for this text's walks alone
set_option linter.unusedVariables false
set_option linter.unusedSimpArgs false

/-! ### laws_toByteS: function 33 -/
def laws_toByteS.l0 : Nat → List Int → List Int → Int → Option (List Int)
  | 0, _, _, _ => none
  | k + 1, x0, x3, x4 => if x4 < (x0.length : Int) then (if 0 ≤ x4 then (if x4 < (x3.length : Int) then (laws_toByteS.l0 k x0 (x3.set (x4 : Int).toNat (rd x0 x4)) (wrap64 (x4 + 1))) else (none)) else (none)) else (some x3)
def laws_toByteS.f (k : Nat) (l0 : List Int) : Option (List Int) := if 0 ≤ (l0.length : Int) then (if ((l0.length : Int) : Int).toNat ≤ 281474976710656 then (laws_toByteS.l0 k l0 (List.replicate ((l0.length : Int) : Int).toNat 0) 0) else (none)) else (none)
theorem laws_toByteS.mono_l : ∀ k, (∀ y0 y1 y2, LeO (laws_toByteS.l0 k y0 y1 y2) (laws_toByteS.l0 (k + 1) y0 y1 y2))
  | 0 => fun _ _ _ r h => by simp [laws_toByteS.l0] at h
  | k + 1 => by
    have ih0 := laws_toByteS.mono_l k
    · intro y0 y1 y2
      unfold laws_toByteS.l0
      repeat' first
      | (with_reducible exact ih0 _ _ _)
      | (with_reducible exact LeO.refl _)
      | (with_reducible exact LeO.none _)
      | (with_reducible refine LeO.ite ?_ ?_)
      | (with_reducible refine LeO.bind ?_ (fun _ => ?_))
      | exact ih0 _ _ _
      | exact LeO.none _
      | refine LeO.ite ?_ ?_
      | refine LeO.bind ?_ (fun _ => ?_)
theorem laws_toByteS.mono : ∀ a0 k, LeO (laws_toByteS.f k a0) (laws_toByteS.f (k + 1) a0) := by
  intro a0 k
  have ih0 := laws_toByteS.mono_l k
  unfold laws_toByteS.f
  repeat' first
      | (with_reducible exact ih0 _ _ _)
      | (with_reducible exact LeO.refl _)
      | (with_reducible exact LeO.none _)
      | (with_reducible refine LeO.ite ?_ ?_)
      | (with_reducible refine LeO.bind ?_ (fun _ => ?_))
      | exact ih0 _ _ _
      | exact LeO.none _
      | refine LeO.ite ?_ ?_
      | refine LeO.bind ?_ (fun _ => ?_)
set_option maxHeartbeats 8000000 in
set_option maxRecDepth 100000 in
theorem laws_toByteS.calls (k : Nat) (A0 : Option Addr) (c0 : Nat) (l0 : List Int) (r : List Int) (w : World) (hr0 : Kd.C (Kd.int .u8) w A0 l0.length l0) (hc0 : l0.length ≤ c0) (h : laws_toByteS.f k l0 = some r) :
    Calls Try.prog 33 #[.slice A0 l0.length c0] w fun e w' => ∃ v0_ : Value, e = .returned (v0_) ∧ Kd.R (Kd.int .u8) 5 w' w.heap.size (fun _ => True) v0_ r ∧ Below w.heap.size w w' := by
  have HR0 := Aside0.mk hr0
  have HC0 := Aside0.mk hc0
  clear hr0 hc0
  have HB := Aside0.mk (Below.refl w.heap.size w)
  have H : (if 0 ≤ (l0.length : Int) then (if ((l0.length : Int) : Int).toNat ≤ 281474976710656 then (laws_toByteS.l0 k l0 (List.replicate ((l0.length : Int) : Int).toNat 0) 0) else (none)) else (none)) = some r := h
  clear h
  by_cases c2 : 0 ≤ (l0.length : Int)
  · rw [if_pos c2] at H
    have c2b0 := eq_true c2
    have c2b1 : decide (0 ≤ (l0.length : Int)) = true := decide_eq_true c2
    clear c2
    by_cases c3 : ((l0.length : Int) : Int).toNat ≤ 281474976710656
    · rw [if_pos c3] at H
      have c3b0 := eq_true c3
      have c3b1 : decide (((l0.length : Int) : Int).toNat ≤ 281474976710656) = true := decide_eq_true c3
      clear c3
      obtain ⟨y131, hy131⟩ : ∃ y_ : List Int, y_ = (List.replicate ((l0.length : Int) : Int).toNat 0) := ⟨_, rfl⟩
      replace H : (laws_toByteS.l0 k l0 y131 0) = some r := by first | (rw [hy131]; with_reducible exact H) | (have H2_ := (Option.bind_some _ _).symm.trans H; rw [hy131]; with_reducible exact H2_) | (have H2_ := (Option.bind_some _ _).symm.trans H; with_reducible exact H2_) | with_reducible exact H | (rw [hy131]; exact H) | exact H
      have Ny131 := Aside0.mk hy131
      clear hy131
      have H' := Aside0.mk H
      clear H
      go_enter Try.func33, Try.ntmps33
      go_wp2_with (first | ((with_reducible refine gate_dst (N := 7) rfl ?_); refine Kd.R_make (Kd.int .u8) _ 5 rfl (N := 7) rfl 27 _ _ rfl (l0.length : Int) rfl rfl Try.underlying27 (.int .u8 0) 1 info5 rfl (by decide) (by omega) 0 (ok := fun _ => True) (okp := fun _ => True) rfl (fun _ hk => hk) trivial (of_decide_eq_true (by first | (with_reducible assumption) | assumption)) (Nat.le_trans (Nat.mul_le_mul_right _ (of_decide_eq_true (by first | (with_reducible assumption) | assumption) : (l0.length : Int).toNat ≤ 281474976710656)) (by omega)) (Below.refl _ _) (Nat.le_refl _) ?_; intro v132 w4 ho5 hb hg_ hnew_; clear hg_ hnew_; (first | rw [← Ny131.out] at ho5 | (simp only [Int.reduceToNat] at ho5; rw [← Ny131.out] at ho5)); have n0_ := Aside0.mk (Kd.R_lower ho5 (below_size (by repeat (first | (with_reducible first | exact HB.out | apply below_alloc | apply pw_below_drewN | apply below_drew1) | exact HB.out)))); have n1_ := Aside0.mk (below_step (by repeat (first | (with_reducible first | exact HB.out | apply below_alloc | apply pw_below_drewN | apply below_drew1) | exact HB.out)) hb); clear HB; have HO133 := n0_; have HB := n1_; clear n0_ n1_; clear hb ho5))
      go_loopg [4] k (fun kq v4 w' => ∃ (x3_1 : List Int) (x4_1 : Int), v4 = .int .i64 x4_1 ∧ Aside0 (laws_toByteS.l0 kq l0 x3_1 x4_1 = some r) ∧ Aside0 (kq ≤ k) ∧ Aside0 (Kd.R (Kd.int .u8) 5 w' w.heap.size (fun _ => True) v132 x3_1) ∧ Aside0 (Below w.heap.size w w'))
      case atStart => exact ⟨(y131), (0), (by first | rfl | (simp; done) | (simp [*]; done)), H', ⟨Nat.le_refl _⟩, ⟨by (with_reducible repeat (first | apply Kd.R_alloc | apply Kd.R_drewN | apply Kd.R_drew)); exact HO133.out⟩, ⟨by repeat (first | (with_reducible first | exact HB.out | apply below_alloc | apply pw_below_drewN | apply below_drew1) | exact HB.out)⟩⟩
      case round =>
        clear H'
        try clear c2
        try clear c2b0
        try clear c2b1
        try clear p2
        try clear c3
        try clear c3b0
        try clear c3b1
        obtain ⟨x3_1, x4_1, rfl, HA, HK1, HO_3, HB⟩ := hrel
        cases gk with
        | zero => exact absurd HA.out (by simp [laws_toByteS.l0])
        | succ k1 =>
          have H := HA.out
          clear HA
          simp only [laws_toByteS.l0] at H
          by_cases c6 : x4_1 < (l0.length : Int)
          · rw [if_pos c6] at H
            have c6b0 : decide (x4_1 < (l0.length : Int)) = true := decide_eq_true c6
            clear c6
            by_cases c7 : 0 ≤ x4_1
            · rw [if_pos c7] at H
              have c7b0 : decide (0 ≤ x4_1) = true := decide_eq_true c7
              clear c7
              by_cases c8 : x4_1 < (x3_1.length : Int)
              · rw [if_pos c8] at H
                have c8b0 : decide (x4_1 < (x3_1.length : Int)) = true := decide_eq_true c8
                clear c8
                obtain ⟨y135, hy135⟩ : ∃ y_ : List Int, y_ = (x3_1.set (x4_1 : Int).toNat (rd l0 x4_1)) := ⟨_, rfl⟩
                replace H : (laws_toByteS.l0 k1 l0 y135 (wrap64 (x4_1 + 1))) = some r := by first | (rw [hy135]; with_reducible exact H) | (have H2_ := (Option.bind_some _ _).symm.trans H; rw [hy135]; with_reducible exact H2_) | (have H2_ := (Option.bind_some _ _).symm.trans H; with_reducible exact H2_) | with_reducible exact H | (rw [hy135]; exact H) | exact H
                have Ny135 := Aside0.mk hy135
                clear hy135
                have H' := Aside0.mk H
                clear H
                have p134 : 0 ≤ (x4_1 : Int) := of_decide_eq_true (by first | (with_reducible assumption) | assumption)
                have q134 : x4_1 < (l0.length : Int) := of_decide_eq_true (by first | (with_reducible assumption) | assumption)
                obtain ⟨ad134, e134, hx134_0⟩ := Kd.at_int HR0.out x4_1 p134 q134
                cases e134
                replace hx134_0 := (HB.out.cell (World.block_lt_of_cell? w _ hx134_0)).trans hx134_0
                replace p134 := eq_true p134
                replace q134 := eq_true q134
                have p9 : 0 ≤ (x4_1 : Int) := of_decide_eq_true (by first | (with_reducible assumption) | assumption)
                have q9 : (x4_1 : Int) < ((x3_1.length : Int) : Int) := of_decide_eq_true (by first | (with_reducible assumption) | assumption)
                obtain ⟨go9, co9, eo9, gb9, gl9, cl9, HG9⟩ := Kd.R_form HO_3.out (by omega)
                (first | cases eo9 | (injection eo9 with ea_ en_ ec_; (first | subst ea_ | (injection ea_ with ea_; subst ea_)); subst ec_; clear en_))
                have GB9 := Aside0.mk gb9
                have GG9 := Aside0.mk HG9
                clear gb9 gl9 HG9
                obtain ⟨hx9_0, hf9_0⟩ := Kd.R_celln 0 HO_3.out (x4_1 : Int) p9 q9
                replace p9 := eq_true p9
                replace q9 := eq_true q9
                have HP10 := Kd.R_putg HO_3.out (x4_1 : Int) (rd l0 x4_1)
                go_wp2_with (first | ((with_reducible refine gate_store (t := 5) (p := 20) rfl ?_); refine store_event (t := 5) (p := 20) (v := ?vo_w11) (w1 := (wr.setCell ⟨go9, (x4_1 : Int).toNat, none⟩ (.int .u8 (rd l0 x4_1)))) ?hg ?ho ?hn ?hr ?_; (case ho => rfl); (case hg => rfl); (case hn => rfl); (case hr => first | (go_simp; done) | (go_simp; rfl)); intro w11 hw; have hg : wr.grownBy w11 (some go9) := (by rw [hw]; exact HP10.2); have hp_ : Kd.R (Kd.int .u8) 5 w11 w.heap.size (fun _ => True) (.slice (some ⟨go9, 0, none⟩) x3_1.length co9) y135 := (by rw [hw, Ny135.out]; exact HP10.1); clear HP10; have n0_ := Aside0.mk (hp_); have n1_ := Aside0.mk ((by rw [hw]; exact below_set (HB.out) GB9.out : Below w.heap.size w w11)); clear HO_3; clear HB; have HO_3 := n0_; have HB := n1_; clear n0_ n1_; clear hg hw hp_))
                go_roundg k1
                case measure => have := HK1.out; omega
                case rel => exact ⟨(y135), (wrap64 (x4_1 + 1)), (by first | rfl | (simp; done) | (simp [*]; done)), H', ⟨by have := HK1.out; omega⟩, ⟨by (with_reducible repeat (first | apply Kd.R_alloc | apply Kd.R_drewN | apply Kd.R_drew)); exact HO_3.out⟩, ⟨by repeat (first | (with_reducible first | exact HB.out | apply below_alloc | apply pw_below_drewN | apply below_drew1) | exact HB.out)⟩⟩
              · rw [if_neg c8] at H
                exact absurd H (by simp)
            · rw [if_neg c7] at H
              exact absurd H (by simp)
          · rw [if_neg c6] at H
            have c6b0 : decide (x4_1 < (l0.length : Int)) = false := decide_eq_false c6
            clear c6
            obtain rfl := Option.some.inj H
            go_wp2
            go_ret
            exact ⟨_, by first | rfl | (simp [errW_none, errW_some] <;> rfl) | (simp [*, errW_none, errW_some] <;> rfl), by (with_reducible repeat (first | apply Kd.R_alloc | apply Kd.R_drewN | apply Kd.R_drew)); exact HO_3.out, by repeat (first | (with_reducible first | exact HB.out | apply below_alloc | apply pw_below_drewN | apply below_drew1) | exact HB.out)⟩
    · rw [if_neg c3] at H
      exact absurd H (by simp)
  · rw [if_neg c2] at H
    exact absurd H (by simp)

end Go.Proofs.Ytmkhhnfmahdijaa.X

namespace Go.Proofs.Ytmkhhnfmahdijaa.X
open Go.RowKit Go.Proofs.YtmkhhnfmahdijaaW.PrintWords Go.Proofs.YtmkhhnfmahdijaaW.PrintLast Go.Proofs.YtmkhhnfmahdijaaW.PrintMore
attribute [local go_sem] max2_int min2_int max_two min_two max_three min_three max_four min_four   -- for this text's walks alone
set_option linter.unusedVariables false
set_option linter.unusedSimpArgs false

/-! ### laws_eqByteS: function 35 -/
def laws_eqByteS.l0 : Nat → List Int → List Int → Int → Option (Bool)
  | 0, _, _, _ => none
  | k + 1, x0, x1, x5 => if x5 < (x0.length : Int) then (if 0 ≤ x5 then (if x5 < (x1.length : Int) then (if (rd x0 x5) = (rd x1 x5) then (laws_eqByteS.l0 k x0 x1 (wrap64 (x5 + 1))) else (some false)) else (none)) else (none)) else (some true)
def laws_eqByteS.f (k : Nat) (l0 : List Int) (l1 : List Int) : Option (Bool) := if (l0.length : Int) = (l1.length : Int) then (laws_eqByteS.l0 k l0 l1 0) else (some false)
theorem laws_eqByteS.mono_l : ∀ k, (∀ y0 y1 y2, LeO (laws_eqByteS.l0 k y0 y1 y2) (laws_eqByteS.l0 (k + 1) y0 y1 y2))
  | 0 => fun _ _ _ r h => by simp [laws_eqByteS.l0] at h
  | k + 1 => by
    have ih0 := laws_eqByteS.mono_l k
    · intro y0 y1 y2
      unfold laws_eqByteS.l0
      repeat' first
      | (with_reducible exact ih0 _ _ _)
      | (with_reducible exact LeO.refl _)
      | (with_reducible exact LeO.none _)
      | (with_reducible refine LeO.ite ?_ ?_)
      | (with_reducible refine LeO.bind ?_ (fun _ => ?_))
      | exact ih0 _ _ _
      | exact LeO.none _
      | refine LeO.ite ?_ ?_
      | refine LeO.bind ?_ (fun _ => ?_)
theorem laws_eqByteS.mono : ∀ a0 a1 k, LeO (laws_eqByteS.f k a0 a1) (laws_eqByteS.f (k + 1) a0 a1) := by
  intro a0 a1 k
  have ih0 := laws_eqByteS.mono_l k
  unfold laws_eqByteS.f
  repeat' first
      | (with_reducible exact ih0 _ _ _)
      | (with_reducible exact LeO.refl _)
      | (with_reducible exact LeO.none _)
      | (with_reducible refine LeO.ite ?_ ?_)
      | (with_reducible refine LeO.bind ?_ (fun _ => ?_))
      | exact ih0 _ _ _
      | exact LeO.none _
      | refine LeO.ite ?_ ?_
      | refine LeO.bind ?_ (fun _ => ?_)
set_option maxHeartbeats 8000000 in
set_option maxRecDepth 100000 in
theorem laws_eqByteS.calls (k : Nat) (A0 : Option Addr) (c0 : Nat) (l0 : List Int) (A1 : Option Addr) (c1 : Nat) (l1 : List Int) (r : Bool) (w : World) (hr0 : Kd.C (Kd.int .u8) w A0 l0.length l0) (hc0 : l0.length ≤ c0) (hr1 : Kd.C (Kd.int .u8) w A1 l1.length l1) (hc1 : l1.length ≤ c1) (h : laws_eqByteS.f k l0 l1 = some r) :
    Calls Try.prog 35 #[.slice A0 l0.length c0, .slice A1 l1.length c1] w fun e w' => e = .returned (.bool r) ∧ Drawn0 w w' := by
  have HR0 := Aside0.mk hr0
  have HC0 := Aside0.mk hc0
  clear hr0 hc0
  have HR1 := Aside0.mk hr1
  have HC1 := Aside0.mk hc1
  clear hr1 hc1
  have H : (if (l0.length : Int) = (l1.length : Int) then (laws_eqByteS.l0 k l0 l1 0) else (some false)) = some r := h
  clear h
  by_cases c3 : (l0.length : Int) = (l1.length : Int)
  · rw [if_pos c3] at H
    have c3b0 : ((l0.length : Int) == (l1.length : Int)) = true := beq_iff_eq.mpr c3
    have c3b1 : ((l0.length : Int) != (l1.length : Int)) = false := bne_eq_false_iff_eq.mpr c3
    have c3b2 : (l0.length == l1.length) = true := by first | simpa using c3 | (simp at c3 ⊢; omega)
    clear c3
    have H' := Aside0.mk H
    clear H
    go_enter Try.func35, Try.ntmps35
    go_wp2
    repeat (go_quiet (fail); try go_wp2)
    go_loopg [5] k (fun kq v5 w' => ∃ (x5_1 : Int), v5 = .int .i64 x5_1 ∧ Aside0 (laws_eqByteS.l0 kq l0 l1 x5_1 = some r) ∧ Aside0 (kq ≤ k) ∧ Drawn0 w w')
    case atStart => exact ⟨(0), (by first | rfl | (simp; done) | (simp [*]; done)), H', ⟨Nat.le_refl _⟩, by repeat (first | exact Drawn0.refl _ | apply Drawn0.step)⟩
    case round =>
      clear H'
      try clear c1
      try clear p2
      try clear c3
      try clear c3b0
      try clear c3b1
      try clear c3b2
      obtain ⟨x5_1, rfl, HA, HK1, ⟨m1, rfl⟩⟩ := hrel
      cases gk with
      | zero => exact absurd HA.out (by simp [laws_eqByteS.l0])
      | succ k1 =>
        have H := HA.out
        clear HA
        simp only [laws_eqByteS.l0] at H
        by_cases c4 : x5_1 < (l0.length : Int)
        · rw [if_pos c4] at H
          have c4b0 : decide (x5_1 < (l0.length : Int)) = true := decide_eq_true c4
          clear c4
          by_cases c5 : 0 ≤ x5_1
          · rw [if_pos c5] at H
            have c5b0 : decide (0 ≤ x5_1) = true := decide_eq_true c5
            clear c5
            by_cases c6 : x5_1 < (l1.length : Int)
            · rw [if_pos c6] at H
              have c6b0 : decide (x5_1 < (l1.length : Int)) = true := decide_eq_true c6
              clear c6
              by_cases c7 : (rd l0 x5_1) = (rd l1 x5_1)
              · rw [if_pos c7] at H
                have c7b0 : ((rd l0 x5_1) == (rd l1 x5_1)) = true := beq_iff_eq.mpr c7
                have c7b1 : ((rd l0 x5_1) != (rd l1 x5_1)) = false := bne_eq_false_iff_eq.mpr c7
                clear c7
                have H' := Aside0.mk H
                clear H
                have p138 : 0 ≤ (x5_1 : Int) := of_decide_eq_true (by first | (with_reducible assumption) | assumption)
                have q138 : x5_1 < (l0.length : Int) := of_decide_eq_true (by first | (with_reducible assumption) | assumption)
                obtain ⟨ad138, e138, hx138_0⟩ := Kd.at_int HR0.out x5_1 p138 q138
                cases e138
                replace p138 := eq_true p138
                replace q138 := eq_true q138
                have p139 : 0 ≤ (x5_1 : Int) := of_decide_eq_true (by first | (with_reducible assumption) | assumption)
                have q139 : x5_1 < (l1.length : Int) := of_decide_eq_true (by first | (with_reducible assumption) | assumption)
                obtain ⟨ad139, e139, hx139_0⟩ := Kd.at_int HR1.out x5_1 p139 q139
                cases e139
                replace p139 := eq_true p139
                replace q139 := eq_true q139
                go_wp2
                repeat (go_quiet (fail); try go_wp2)
                go_roundg k1
                case measure => have := HK1.out; omega
                case rel => exact ⟨(wrap64 (x5_1 + 1)), (by first | rfl | (simp; done) | (simp [*]; done)), H', ⟨by have := HK1.out; omega⟩, by repeat (first | exact Drawn0.refl _ | apply Drawn0.step)⟩
              · rw [if_neg c7] at H
                have c7b0 : ((rd l0 x5_1) == (rd l1 x5_1)) = false := beq_eq_false_iff_ne.mpr c7
                have c7b1 : ((rd l0 x5_1) != (rd l1 x5_1)) = true := bne_iff_ne.mpr c7
                obtain rfl := Option.some.inj H
                have p138 : 0 ≤ (x5_1 : Int) := of_decide_eq_true (by first | (with_reducible assumption) | assumption)
                have q138 : x5_1 < (l0.length : Int) := of_decide_eq_true (by first | (with_reducible assumption) | assumption)
                obtain ⟨ad138, e138, hx138_0⟩ := Kd.at_int HR0.out x5_1 p138 q138
                cases e138
                replace p138 := eq_true p138
                replace q138 := eq_true q138
                have p139 : 0 ≤ (x5_1 : Int) := of_decide_eq_true (by first | (with_reducible assumption) | assumption)
                have q139 : x5_1 < (l1.length : Int) := of_decide_eq_true (by first | (with_reducible assumption) | assumption)
                obtain ⟨ad139, e139, hx139_0⟩ := Kd.at_int HR1.out x5_1 p139 q139
                cases e139
                replace p139 := eq_true p139
                replace q139 := eq_true q139
                go_wp2
                repeat (go_quiet (fail); try go_wp2)
                go_ret
                exact ⟨by first | rfl | (simp; done) | (simp [*]; done), by repeat (first | exact Drawn0.refl _ | apply Drawn0.step)⟩
            · rw [if_neg c6] at H
              exact absurd H (by simp)
          · rw [if_neg c5] at H
            exact absurd H (by simp)
        · rw [if_neg c4] at H
          have c4b0 : decide (x5_1 < (l0.length : Int)) = false := decide_eq_false c4
          clear c4
          obtain rfl := Option.some.inj H
          go_wp2
          repeat (go_quiet (fail); try go_wp2)
          go_ret
          exact ⟨by first | rfl | (simp; done) | (simp [*]; done), by repeat (first | exact Drawn0.refl _ | apply Drawn0.step)⟩
  · rw [if_neg c3] at H
    have c3b0 : ((l0.length : Int) == (l1.length : Int)) = false := beq_eq_false_iff_ne.mpr c3
    have c3b1 : ((l0.length : Int) != (l1.length : Int)) = true := bne_iff_ne.mpr c3
    have c3b2 : (l0.length == l1.length) = false := by first | simpa using c3 | (simp at c3 ⊢; omega)
    obtain rfl := Option.some.inj H
    go_enter Try.func35, Try.ntmps35
    go_wp2
    repeat (go_quiet (fail); try go_wp2)
    go_ret
    exact ⟨by first | rfl | (simp; done) | (simp [*]; done), by repeat (first | exact Drawn0.refl _ | apply Drawn0.step)⟩

end Go.Proofs.Ytmkhhnfmahdijaa.X

namespace Go.Proofs.Ytmkhhnfmahdijaa.X
open Go.RowKit Go.Proofs.YtmkhhnfmahdijaaW.PrintWords Go.Proofs.YtmkhhnfmahdijaaW.PrintLast Go.Proofs.YtmkhhnfmahdijaaW.PrintMore
attribute [local go_sem] max2_int min2_int max_two min_two max_three min_three max_four min_four   -- for this text's walks alone
set_option linter.unusedVariables false
set_option linter.unusedSimpArgs false

/-! ### laws_markByteS: function 38 -/
def laws_markByteS.l0 : Nat → List Int → Int → Int → Option (Int × List Int)
  | 0, _, _, _ => none
  | k + 1, x0, x1, x5 => if x5 < (x0.length : Int) then (if 0 ≤ x5 then (laws_markByteS.l0 k (x0.set (x5 : Int).toNat ((x1) % 256)) (wrap64 (x1 + 1)) (wrap64 (x5 + 1))) else (none)) else (some (x1, x0))
def laws_markByteS.f (k : Nat) (l0 : List Int) (a1 : Int) : Option (Int × List Int) := laws_markByteS.l0 k l0 a1 0
theorem laws_markByteS.mono_l : ∀ k, (∀ y0 y1 y2, LeO (laws_markByteS.l0 k y0 y1 y2) (laws_markByteS.l0 (k + 1) y0 y1 y2))
  | 0 => fun _ _ _ r h => by simp [laws_markByteS.l0] at h
  | k + 1 => by
    have ih0 := laws_markByteS.mono_l k
    · intro y0 y1 y2
      unfold laws_markByteS.l0
      repeat' first
      | (with_reducible exact ih0 _ _ _)
      | (with_reducible exact LeO.refl _)
      | (with_reducible exact LeO.none _)
      | (with_reducible refine LeO.ite ?_ ?_)
      | (with_reducible refine LeO.bind ?_ (fun _ => ?_))
      | exact ih0 _ _ _
      | exact LeO.none _
      | refine LeO.ite ?_ ?_
      | refine LeO.bind ?_ (fun _ => ?_)
theorem laws_markByteS.mono : ∀ a0 a1 k, LeO (laws_markByteS.f k a0 a1) (laws_markByteS.f (k + 1) a0 a1) := by
  intro a0 a1 k
  have ih0 := laws_markByteS.mono_l k
  unfold laws_markByteS.f
  repeat' first
      | (with_reducible exact ih0 _ _ _)
      | (with_reducible exact LeO.refl _)
      | (with_reducible exact LeO.none _)
      | (with_reducible refine LeO.ite ?_ ?_)
      | (with_reducible refine LeO.bind ?_ (fun _ => ?_))
      | exact ih0 _ _ _
      | exact LeO.none _
      | refine LeO.ite ?_ ?_
      | refine LeO.bind ?_ (fun _ => ?_)
set_option maxHeartbeats 8000000 in
set_option maxRecDepth 100000 in
theorem laws_markByteS.calls (k : Nat) (P0_ : Nat → Prop) (u9000_ : Value) (l0 : List Int) (a1 : Int) (r1 : Int) (r2 : List Int) (w0 w : World) (hB : Below w0.heap.size w0 w) (ho0 : Kd.R (Kd.int .u8) 5 w w0.heap.size P0_ u9000_ l0) (h : laws_markByteS.f k l0 a1 = some (r1, r2)) :
    Calls Try.prog 38 #[u9000_, .int .i64 a1] w fun e w' => e = .returned (.int .i64 r1) ∧ Kd.R (Kd.int .u8) 5 w' w0.heap.size (fun k_ => (P0_ k_ ∨ w.heap.size ≤ k_)) u9000_ r2 ∧ Below w0.heap.size w0 w' ∧ Kept w w' (fun k_ => P0_ k_) := by
  have HO0 := Aside0.mk (show Kd.R (Kd.int .u8) 5 w w0.heap.size (fun k_ => (P0_ k_ ∨ w.heap.size ≤ k_)) u9000_ l0 from Kd.R_mono ho0 (fun k_ hk => (.inl hk)))
  have HK := Aside0.mk (Kept.refl w (fun k_ => P0_ k_))
  have HW0 := Aside0.mk hB.size
  have HB := Aside0.mk hB
  clear hB
  have H : (laws_markByteS.l0 k l0 a1 0) = some (r1, r2) := h
  clear h
  have H' := Aside0.mk H
  clear H
  go_enter Try.func38, Try.ntmps38
  go_wp2
  go_loopg [1, 5] k (fun kq v1 v5 w' => ∃ (x0_1 : List Int) (x1_1 : Int) (x5_1 : Int), v1 = .int .i64 x1_1 ∧ v5 = .int .i64 x5_1 ∧ Aside0 (laws_markByteS.l0 kq x0_1 x1_1 x5_1 = some (r1, r2)) ∧ Aside0 (kq ≤ k) ∧ Aside0 (Kd.R (Kd.int .u8) 5 w' w0.heap.size (fun k_ => (P0_ k_ ∨ w.heap.size ≤ k_)) u9000_ x0_1) ∧ Aside0 (Kept w w' (fun k_ => P0_ k_)) ∧ Aside0 (Below w0.heap.size w0 w'))
  case atStart => exact ⟨(l0), (a1), (0), (by first | rfl | (simp; done) | (simp [*]; done)), (by first | rfl | (simp; done) | (simp [*]; done)), H', ⟨Nat.le_refl _⟩, ⟨by (with_reducible repeat (first | apply Kd.R_alloc | apply Kd.R_drewN | apply Kd.R_drew)); exact HO0.out⟩, ⟨by repeat (first | (with_reducible first | exact HK.out | apply Kept.alloc | apply Kept.drewN | apply Kept.drew) | exact HK.out)⟩, ⟨by repeat (first | (with_reducible first | exact HB.out | apply below_alloc | apply pw_below_drewN | apply below_drew1) | exact HB.out)⟩⟩
  case round =>
    clear H'
    try clear p2
    obtain ⟨x0_1, x1_1, x5_1, rfl, rfl, HA, HK1, HO_0, HK, HB⟩ := hrel
    cases gk with
    | zero => exact absurd HA.out (by simp [laws_markByteS.l0])
    | succ k1 =>
      have H := HA.out
      clear HA
      simp only [laws_markByteS.l0] at H
      by_cases c3 : x5_1 < (x0_1.length : Int)
      · rw [if_pos c3] at H
        have c3b0 : decide (x5_1 < (x0_1.length : Int)) = true := decide_eq_true c3
        clear c3
        by_cases c4 : 0 ≤ x5_1
        · rw [if_pos c4] at H
          have c4b0 : decide (0 ≤ x5_1) = true := decide_eq_true c4
          clear c4
          obtain ⟨y183, hy183⟩ : ∃ y_ : List Int, y_ = (x0_1.set (x5_1 : Int).toNat ((x1_1) % 256)) := ⟨_, rfl⟩
          replace H : (laws_markByteS.l0 k1 y183 (wrap64 (x1_1 + 1)) (wrap64 (x5_1 + 1))) = some (r1, r2) := by first | (rw [hy183]; with_reducible exact H) | (have H2_ := (Option.bind_some _ _).symm.trans H; rw [hy183]; with_reducible exact H2_) | (have H2_ := (Option.bind_some _ _).symm.trans H; with_reducible exact H2_) | with_reducible exact H | (rw [hy183]; exact H) | exact H
          have Ny183 := Aside0.mk hy183
          clear hy183
          have H' := Aside0.mk H
          clear H
          obtain ⟨Ao6, co6, eo6⟩ := Kd.R_slice HO_0.out
          subst eo6
          have p5 : 0 ≤ (x5_1 : Int) := of_decide_eq_true (by first | (with_reducible assumption) | assumption)
          have q5 : (x5_1 : Int) < ((x0_1.length : Int) : Int) := of_decide_eq_true (by first | (with_reducible assumption) | assumption)
          obtain ⟨go5, co5, eo5, gb5, gl5, cl5, HG5⟩ := Kd.R_form HO_0.out (by omega)
          (first | cases eo5 | (injection eo5 with ea_ en_ ec_; (first | subst ea_ | (injection ea_ with ea_; subst ea_)); subst ec_; clear en_))
          have GB5 := Aside0.mk gb5
          have GG5 := Aside0.mk HG5
          clear gb5 gl5 HG5
          have HMgo5 := Aside0.mk (show (P0_ go5 ∨ w.heap.size ≤ go5) from (HO_0.out.1 _ rfl))
          obtain ⟨hx5_0, hf5_0⟩ := Kd.R_celln 0 HO_0.out (x5_1 : Int) p5 q5
          replace p5 := eq_true p5
          replace q5 := eq_true q5
          have HP7 := Kd.R_putg HO_0.out (x5_1 : Int) ((x1_1) % 256)
          go_wp2_with (first | ((with_reducible refine gate_store (t := 5) (p := 16) rfl ?_); refine store_event (t := 5) (p := 16) (v := ?vo_w8) (w1 := (wr.setCell ⟨go5, (x5_1 : Int).toNat, none⟩ (.int .u8 ((x1_1) % 256)))) ?hg ?ho ?hn ?hr ?_; (case ho => rfl); (case hg => rfl); (case hn => rfl); (case hr => first | (go_simp; done) | (go_simp; rfl)); intro w8 hw; have hg : wr.grownBy w8 (some go5) := (by rw [hw]; exact HP7.2); have hp_ : Kd.R (Kd.int .u8) 5 w8 w0.heap.size (fun k_ => (P0_ k_ ∨ w.heap.size ≤ k_)) (.slice (some ⟨go5, 0, none⟩) x0_1.length co6) y183 := (by rw [hw, Ny183.out]; exact HP7.1); clear HP7; have n0_ := Aside0.mk (hp_); have n1_ := Aside0.mk ((by rw [hw]; exact below_set (HB.out) GB5.out : Below w0.heap.size w0 w8)); have n2_ := Aside0.mk (Kept.of_grown (S := (fun k_ => P0_ k_)) hg (by repeat (first | (with_reducible first | exact HK.out | apply Kept.alloc | apply Kept.drewN | apply Kept.drew) | exact HK.out)) (fun k_ e_ => (HO_0.out.1 k_ e_))); clear HO_0; clear HB; clear HK; have HO_0 := n0_; have HB := n1_; have HK := n2_; clear n0_ n1_ n2_; clear hg hw hp_))
          go_roundg k1
          case measure => have := HK1.out; omega
          case rel => exact ⟨(y183), (wrap64 (x1_1 + 1)), (wrap64 (x5_1 + 1)), (by first | rfl | (simp; done) | (simp [*]; done)), (by first | rfl | (simp; done) | (simp [*]; done)), H', ⟨by have := HK1.out; omega⟩, ⟨by (with_reducible repeat (first | apply Kd.R_alloc | apply Kd.R_drewN | apply Kd.R_drew)); exact HO_0.out⟩, ⟨by repeat (first | (with_reducible first | exact HK.out | apply Kept.alloc | apply Kept.drewN | apply Kept.drew) | exact HK.out)⟩, ⟨by repeat (first | (with_reducible first | exact HB.out | apply below_alloc | apply pw_below_drewN | apply below_drew1) | exact HB.out)⟩⟩
        · rw [if_neg c4] at H
          exact absurd H (by simp)
      · rw [if_neg c3] at H
        have c3b0 : decide (x5_1 < (x0_1.length : Int)) = false := decide_eq_false c3
        clear c3
        simp only [Option.some.injEq, Prod.mk.injEq] at H
        obtain ⟨rfl, rfl⟩ := H
        obtain ⟨Ao9, co9, eo9⟩ := Kd.R_slice HO_0.out
        subst eo9
        go_wp2
        go_ret
        exact ⟨by first | rfl | (simp [errW_none, errW_some] <;> rfl) | (simp [*, errW_none, errW_some] <;> rfl), by (with_reducible repeat (first | apply Kd.R_alloc | apply Kd.R_drewN | apply Kd.R_drew)); exact HO_0.out, by repeat (first | (with_reducible first | exact HB.out | apply below_alloc | apply pw_below_drewN | apply below_drew1) | exact HB.out), by repeat (first | (with_reducible first | exact HK.out | apply Kept.alloc | apply Kept.drewN | apply Kept.drew) | exact HK.out)⟩

end Go.Proofs.Ytmkhhnfmahdijaa.X

namespace Go.Proofs.Ytmkhhnfmahdijaa.X
open Go.RowKit Go.Proofs.YtmkhhnfmahdijaaW.PrintWords Go.Proofs.YtmkhhnfmahdijaaW.PrintLast Go.Proofs.YtmkhhnfmahdijaaW.PrintMore
attribute [local go_sem] max2_int min2_int max_two min_two max_three min_three max_four min_four   -- for this text's walks alone
set_option linter.unusedVariables false
set_option linter.unusedSimpArgs false

/-! ### laws_heldByteS: function 39 -/
def laws_heldByteS.l0 : Nat → List Int → Int → Int → Option (Int)
  | 0, _, _, _ => none
  | k + 1, x0, x1, x5 => if x5 < (x0.length : Int) then (if 0 ≤ x5 then (if (rd x0 x5) = ((x1) % 256) then (laws_heldByteS.l0 k x0 (wrap64 (x1 + 1)) (wrap64 (x5 + 1))) else (some (-1))) else (none)) else (some x1)
def laws_heldByteS.f (k : Nat) (l0 : List Int) (a1 : Int) : Option (Int) := laws_heldByteS.l0 k l0 a1 0
theorem laws_heldByteS.mono_l : ∀ k, (∀ y0 y1 y2, LeO (laws_heldByteS.l0 k y0 y1 y2) (laws_heldByteS.l0 (k + 1) y0 y1 y2))
  | 0 => fun _ _ _ r h => by simp [laws_heldByteS.l0] at h
  | k + 1 => by
    have ih0 := laws_heldByteS.mono_l k
    · intro y0 y1 y2
      unfold laws_heldByteS.l0
      repeat' first
      | (with_reducible exact ih0 _ _ _)
      | (with_reducible exact LeO.refl _)
      | (with_reducible exact LeO.none _)
      | (with_reducible refine LeO.ite ?_ ?_)
      | (with_reducible refine LeO.bind ?_ (fun _ => ?_))
      | exact ih0 _ _ _
      | exact LeO.none _
      | refine LeO.ite ?_ ?_
      | refine LeO.bind ?_ (fun _ => ?_)
theorem laws_heldByteS.mono : ∀ a0 a1 k, LeO (laws_heldByteS.f k a0 a1) (laws_heldByteS.f (k + 1) a0 a1) := by
  intro a0 a1 k
  have ih0 := laws_heldByteS.mono_l k
  unfold laws_heldByteS.f
  repeat' first
      | (with_reducible exact ih0 _ _ _)
      | (with_reducible exact LeO.refl _)
      | (with_reducible exact LeO.none _)
      | (with_reducible refine LeO.ite ?_ ?_)
      | (with_reducible refine LeO.bind ?_ (fun _ => ?_))
      | exact ih0 _ _ _
      | exact LeO.none _
      | refine LeO.ite ?_ ?_
      | refine LeO.bind ?_ (fun _ => ?_)
set_option maxHeartbeats 8000000 in
set_option maxRecDepth 100000 in
theorem laws_heldByteS.calls (k : Nat) (A0 : Option Addr) (c0 : Nat) (l0 : List Int) (a1 : Int) (r : Int) (w : World) (hr0 : Kd.C (Kd.int .u8) w A0 l0.length l0) (hc0 : l0.length ≤ c0) (h : laws_heldByteS.f k l0 a1 = some r) :
    Calls Try.prog 39 #[.slice A0 l0.length c0, .int .i64 a1] w fun e w' => e = .returned (.int .i64 r) ∧ Drawn0 w w' := by
  have HR0 := Aside0.mk hr0
  have HC0 := Aside0.mk hc0
  clear hr0 hc0
  have H : (laws_heldByteS.l0 k l0 a1 0) = some r := h
  clear h
  have H' := Aside0.mk H
  clear H
  go_enter Try.func39, Try.ntmps39
  go_wp2
  go_loopg [1, 5] k (fun kq v1 v5 w' => ∃ (x1_1 : Int) (x5_1 : Int), v1 = .int .i64 x1_1 ∧ v5 = .int .i64 x5_1 ∧ Aside0 (laws_heldByteS.l0 kq l0 x1_1 x5_1 = some r) ∧ Aside0 (kq ≤ k) ∧ Drawn0 w w')
  case atStart => exact ⟨(a1), (0), (by first | rfl | (simp; done) | (simp [*]; done)), (by first | rfl | (simp; done) | (simp [*]; done)), H', ⟨Nat.le_refl _⟩, by repeat (first | exact Drawn0.refl _ | apply Drawn0.step)⟩
  case round =>
    clear H'
    try clear p2
    obtain ⟨x1_1, x5_1, rfl, rfl, HA, HK1, ⟨m1, rfl⟩⟩ := hrel
    cases gk with
    | zero => exact absurd HA.out (by simp [laws_heldByteS.l0])
    | succ k1 =>
      have H := HA.out
      clear HA
      simp only [laws_heldByteS.l0] at H
      by_cases c3 : x5_1 < (l0.length : Int)
      · rw [if_pos c3] at H
        have c3b0 : decide (x5_1 < (l0.length : Int)) = true := decide_eq_true c3
        clear c3
        by_cases c4 : 0 ≤ x5_1
        · rw [if_pos c4] at H
          have c4b0 : decide (0 ≤ x5_1) = true := decide_eq_true c4
          clear c4
          by_cases c5 : (rd l0 x5_1) = ((x1_1) % 256)
          · rw [if_pos c5] at H
            have c5b0 : ((rd l0 x5_1) == ((x1_1) % 256)) = true := beq_iff_eq.mpr c5
            have c5b1 : ((rd l0 x5_1) != ((x1_1) % 256)) = false := bne_eq_false_iff_eq.mpr c5
            clear c5
            have H' := Aside0.mk H
            clear H
            have p184 : 0 ≤ (x5_1 : Int) := of_decide_eq_true (by first | (with_reducible assumption) | assumption)
            have q184 : x5_1 < (l0.length : Int) := of_decide_eq_true (by first | (with_reducible assumption) | assumption)
            obtain ⟨ad184, e184, hx184_0⟩ := Kd.at_int HR0.out x5_1 p184 q184
            cases e184
            replace p184 := eq_true p184
            replace q184 := eq_true q184
            go_wp2
            go_roundg k1
            case measure => have := HK1.out; omega
            case rel => exact ⟨(wrap64 (x1_1 + 1)), (wrap64 (x5_1 + 1)), (by first | rfl | (simp; done) | (simp [*]; done)), (by first | rfl | (simp; done) | (simp [*]; done)), H', ⟨by have := HK1.out; omega⟩, by repeat (first | exact Drawn0.refl _ | apply Drawn0.step)⟩
          · rw [if_neg c5] at H
            have c5b0 : ((rd l0 x5_1) == ((x1_1) % 256)) = false := beq_eq_false_iff_ne.mpr c5
            have c5b1 : ((rd l0 x5_1) != ((x1_1) % 256)) = true := bne_iff_ne.mpr c5
            obtain rfl := Option.some.inj H
            have p184 : 0 ≤ (x5_1 : Int) := of_decide_eq_true (by first | (with_reducible assumption) | assumption)
            have q184 : x5_1 < (l0.length : Int) := of_decide_eq_true (by first | (with_reducible assumption) | assumption)
            obtain ⟨ad184, e184, hx184_0⟩ := Kd.at_int HR0.out x5_1 p184 q184
            cases e184
            replace p184 := eq_true p184
            replace q184 := eq_true q184
            go_wp2
            go_ret
            exact ⟨by first | rfl | (simp; done) | (simp [*]; done), by repeat (first | exact Drawn0.refl _ | apply Drawn0.step)⟩
        · rw [if_neg c4] at H
          exact absurd H (by simp)
      · rw [if_neg c3] at H
        have c3b0 : decide (x5_1 < (l0.length : Int)) = false := decide_eq_false c3
        clear c3
        obtain rfl := Option.some.inj H
        go_wp2
        go_ret
        exact ⟨by first | rfl | (simp; done) | (simp [*]; done), by repeat (first | exact Drawn0.refl _ | apply Drawn0.step)⟩

end Go.Proofs.Ytmkhhnfmahdijaa.X

/- What the laws' own helpers compute: copies, comparisons, marks. No Go, no memory. -/
set_option linter.unusedVariables false
namespace Go.Proofs.Ytmkhhnfmahdijaa.Z
open Go.RowKit Go.Proofs.YtmkhhnfmahdijaaW.PrintWords Go.Proofs.YtmkhhnfmahdijaaW.PrintMore Go.Proofs.Ytmkhhnfmahdijaa.X

/-! Strings as lists of bytes -/
theorem tl_loop (a : ByteArray) (d : Nat) : ∀ i r, a.size = i + d → ByteArray.toList.loop a i r = r.reverse ++ a.data.toList.drop i := by
  have h2 := data_length a
  induction d with
  | zero =>
    intro i r h
    unfold ByteArray.toList.loop
    rw [if_neg (by omega), List.drop_eq_nil_of_le (by omega), List.append_nil]
  | succ d ih =>
    intro i r h
    unfold ByteArray.toList.loop
    rw [if_pos (by omega), ih (i + 1) _ (by omega)]
    have hi : i < a.data.size := by
      have : a.data.size = a.size := rfl
      omega
    rw [List.drop_eq_getElem_cons (i := i) (by simpa using hi)]
    simp [ByteArray.get!]
    exact getElem!_pos a.data i hi
theorem tl (a : ByteArray) : a.toList = a.data.toList := by
  unfold ByteArray.toList
  rw [tl_loop a a.size 0 [] (by omega)]
  simp
theorem tl_inj {a b : ByteArray} : a.toList = b.toList ↔ a = b := by
  constructor
  · intro h
    rw [tl, tl] at h
    have h1 : a.data = b.data := Array.toList_inj.1 h
    cases a
    cases b
    simp_all
  · rintro rfl
    rfl

/-! toByteS -/
theorem toByteS_l0 (l : List Int) (hn : l.length ≤ 4611686018427387904) (d : Nat) : ∀ (i : Nat) (m : List Int), i + d = l.length → m.length = l.length → (∀ j, j < i → m[j]? = l[j]?) → Ev (fun k => laws_toByteS.l0 k l m (i : Int)) l := by
  induction d with
  | zero =>
    intro i m hi hm h
    refine evS (fun k => by rw [laws_toByteS.l0]) (evF (by omega) (evR ?_))
    exact ext_get hm (fun j hj => h j (by omega))
  | succ d ih =>
    intro i m hi hm h
    refine evS (fun k => by rw [laws_toByteS.l0]) (evT (by omega) (evT (by omega) (evT (by omega) ?_)))
    rw [w64s (show i < l.length by omega) (by omega)]
    exact ih (i + 1) _ (by omega) (by simpa using hm) (by simpa using set_next hm (by omega) (rd_get (by omega)) h)
theorem toByteS_ev (l : List Int) (hn : l.length ≤ 281474976710656) : Ev (fun k => laws_toByteS.f k l) l := by
  unfold laws_toByteS.f
  exact evT (by omega) (evT (by omega) (toByteS_l0 l (by omega) l.length 0 _ (by omega) (by simp) (by intro j hj; omega)))

/-! eqByteS -/
theorem eqByteS_l0 (a b : List Int) (hn : a.length ≤ 4611686018427387904) (hl : a.length = b.length) (d : Nat) : ∀ (i : Nat), i + d = a.length → (∀ j, j < i → a[j]? = b[j]?) → Ev (fun k => laws_eqByteS.l0 k a b (i : Int)) (decide (a = b)) := by
  induction d with
  | zero =>
    intro i hi h
    refine evS (fun k => by rw [laws_eqByteS.l0]) (evF (by omega) (evR ?_))
    exact (decide_eq_true (ext_get hl (fun j hj => h j (by omega)))).symm
  | succ d ih =>
    intro i hi h
    refine evS (fun k => by rw [laws_eqByteS.l0]) (evT (by omega) (evT (by omega) (evT (by omega) (evI ?_ ?_))))
    · intro he
      rw [w64s (show i < a.length by omega) (by omega)]
      refine ih (i + 1) (by omega) (fun j hj => ?_)
      rcases Nat.lt_or_ge j i with h1 | h1
      · exact h j h1
      · obtain rfl : i = j := by omega
        rw [rd_get (by omega), rd_get (by omega), he]
    · intro he
      refine evR (decide_eq_false (fun e => he ?_)).symm
      rw [e]
theorem eqByteS_ev (a b : List Int) (hn : a.length ≤ 4611686018427387904) : Ev (fun k => laws_eqByteS.f k a b) (decide (a = b)) := by
  unfold laws_eqByteS.f
  refine evI (fun h => ?_) (fun h => ?_)
  · exact eqByteS_l0 a b hn (by omega) a.length 0 (by omega) (by intro j hj; omega)
  · refine evR (decide_eq_false (fun e => h ?_)).symm
    rw [e]
theorem eqByteS_same (a : List Int) (hn : a.length ≤ 4611686018427387904) : Ev (fun k => laws_eqByteS.f k a a) true := by
  have := eqByteS_ev a a hn
  rwa [decide_eq_true rfl] at this

/-! marks -/
def mkB (n : Nat) (k : Int) : List Int := (List.range n).map fun (i : Nat) => (k + (i : Int)) % 256
theorem mkB_length (n : Nat) (k : Int) : (mkB n k).length = n := by simp [mkB]
theorem mkB_get {n : Nat} (k : Int) {i : Nat} (h : i < n) : (mkB n k)[i]? = some ((k + (i : Int)) % 256) := by simp [mkB, h]
theorem markByteS_l0 (n : Nat) (a : Int) (ha : 0 ≤ a) (hn : a + n ≤ 4611686018427387904) (d : Nat) : ∀ (i : Nat) (m : List Int), i + d = n → m.length = n → (∀ j, j < i → m[j]? = (mkB n a)[j]?) → Ev (fun k => laws_markByteS.l0 k m (a + (i : Int)) (i : Int)) (a + (n : Int), mkB n a) := by
  induction d with
  | zero =>
    intro i m hi hm h
    refine evS (fun k => by rw [laws_markByteS.l0]) (evF (by omega) (evR ?_))
    rw [ext_get (m := mkB n a) (by rw [mkB_length]; exact hm) (fun j hj => h j (by rw [mkB_length] at hj; omega)), show i = n by omega]
  | succ d ih =>
    intro i m hi hm h
    refine evS (fun k => by rw [laws_markByteS.l0]) (evT (by omega) (evT (by omega) ?_))
    rw [w64s (show i < n by omega) (by omega), w64 (x := a + (i : Int) + 1) (by omega), show a + (i : Int) + 1 = a + ((i + 1 : Nat) : Int) by omega]
    exact ih (i + 1) _ (by omega) (by simpa using hm) (by simpa using set_next (m := mkB n a) (by rw [mkB_length]; exact hm) (by rw [mkB_length]; omega) (mkB_get a (by omega)) h)
theorem markByteS_ev (l : List Int) (a : Int) (ha : 0 ≤ a) (hn : a + l.length ≤ 4611686018427387904) : Ev (fun k => laws_markByteS.f k l a) (a + (l.length : Int), mkB l.length a) := by
  have h := markByteS_l0 l.length a ha hn l.length 0 l (by omega) rfl (by intro j hj; omega)
  rw [show a + ((0 : Nat) : Int) = a by omega] at h
  exact h
theorem heldByteS_l0 (n : Nat) (a : Int) (ha : 0 ≤ a) (hn : a + n ≤ 4611686018427387904) (d : Nat) : ∀ (i : Nat), i + d = n → Ev (fun k => laws_heldByteS.l0 k (mkB n a) (a + (i : Int)) (i : Int)) (a + (n : Int)) := by
  induction d with
  | zero =>
    intro i hi
    refine evS (fun k => by rw [laws_heldByteS.l0]) (evF (by rw [mkB_length]; omega) (evR ?_))
    rw [show i = n by omega]
  | succ d ih =>
    intro i hi
    refine evS (fun k => by rw [laws_heldByteS.l0]) (evT (by rw [mkB_length]; omega) (evT (by omega) (evT ?_ ?_)))
    · have h1 := rd_get (l := mkB n a) (i := i) (by rw [mkB_length]; omega)
      rw [mkB_get a (by omega)] at h1
      exact (Option.some.inj h1).symm
    · rw [w64s (show i < n by omega) (by omega), w64 (x := a + (i : Int) + 1) (by omega), show a + (i : Int) + 1 = a + ((i + 1 : Nat) : Int) by omega]
      exact ih (i + 1) (by omega)
theorem heldByteS_ev (n : Nat) (a : Int) (ha : 0 ≤ a) (hn : a + n ≤ 4611686018427387904) : Ev (fun k => laws_heldByteS.f k (mkB n a) a) (a + (n : Int)) := by
  have h := heldByteS_l0 n a ha hn n 0 (by omega)
  rw [show a + ((0 : Nat) : Int) = a by omega] at h
  exact h

/-- Marks that are held, behind one another. -/
theorem evHeld {α : Type} {g f f' : Nat → Option α} {r : α} {n : Nat} {m : Int} (hm : m = 1 + (n : Int)) (H : Ev g r) : Ev (fun k => if m < 0 then f k else if m = 1 + (n : Int) then g k else f' k) r :=
  evF (by omega) (evT hm H)
theorem evNeg {α : Type} {g f : Nat → Option α} {r : α} {n : Nat} (H : Ev g r) : Ev (fun k => if (1 + (n : Int)) < 0 then f k else g k) r := evF (by omega) H

/-! strings' slices -/
theorem toStringS_l0 (l : List ByteArray) (hn : l.length ≤ 4611686018427387904) (d : Nat) : ∀ (i : Nat) (m : List ByteArray), i + d = l.length → m.length = l.length → (∀ j, j < i → m[j]? = l[j]?) → Ev (fun k => laws_toStringS.l0 k l m (i : Int)) l := by
  induction d with
  | zero =>
    intro i m hi hm h
    refine evS (fun k => by rw [laws_toStringS.l0]) (evF (by omega) (evR ?_))
    exact ext_get hm (fun j hj => h j (by omega))
  | succ d ih =>
    intro i m hi hm h
    refine evS (fun k => by rw [laws_toStringS.l0]) (evT (by omega) (evT (by omega) (evT (by omega) ?_)))
    rw [w64s (show i < l.length by omega) (by omega)]
    exact ih (i + 1) _ (by omega) (by simpa using hm) (by simpa using set_next hm (by omega) (rdOf_get (by omega)) h)
theorem toStringS_ev (l : List ByteArray) (hn : l.length ≤ 1048576) : Ev (fun k => laws_toStringS.f k l) l := by
  unfold laws_toStringS.f
  exact evT (by omega) (evT (by omega) (toStringS_l0 l (by omega) l.length 0 _ (by omega) (by simp) (by intro j hj; omega)))
theorem eqStringS_l0 (a b : List ByteArray) (hn : a.length ≤ 4611686018427387904) (hl : a.length = b.length) (d : Nat) : ∀ (i : Nat), i + d = a.length → (∀ j, j < i → a[j]? = b[j]?) → Ev (fun k => laws_eqStringS.l0 k a b (i : Int)) (decide (a = b)) := by
  induction d with
  | zero =>
    intro i hi h
    refine evS (fun k => by rw [laws_eqStringS.l0]) (evF (by omega) (evR ?_))
    exact (decide_eq_true (ext_get hl (fun j hj => h j (by omega)))).symm
  | succ d ih =>
    intro i hi h
    refine evS (fun k => by rw [laws_eqStringS.l0]) (evT (by omega) (evT (by omega) (evT (by omega) (evI ?_ ?_))))
    · intro he
      rw [w64s (show i < a.length by omega) (by omega)]
      refine ih (i + 1) (by omega) (fun j hj => ?_)
      rcases Nat.lt_or_ge j i with h1 | h1
      · exact h j h1
      · obtain rfl : i = j := by omega
        rw [rdOf_get (d := ByteArray.empty) (by omega), rdOf_get (d := ByteArray.empty) (by omega), tl_inj.1 he]
    · intro he
      refine evR (decide_eq_false (fun e => he ?_)).symm
      rw [e]
theorem eqStringS_ev (a b : List ByteArray) (hn : a.length ≤ 4611686018427387904) : Ev (fun k => laws_eqStringS.f k a b) (decide (a = b)) := by
  unfold laws_eqStringS.f
  refine evI (fun h => ?_) (fun h => ?_)
  · exact eqStringS_l0 a b hn (by omega) a.length 0 (by omega) (by intro j hj; omega)
  · refine evR (decide_eq_false (fun e => h ?_)).symm
    rw [e]
theorem eqStringS_same (a : List ByteArray) (hn : a.length ≤ 4611686018427387904) : Ev (fun k => laws_eqStringS.f k a a) true := by
  have := eqStringS_ev a a hn
  rwa [decide_eq_true rfl] at this

/-- How many bytes and texts there are. -/
def total (l : List ByteArray) : Nat := (l.map fun s => s.size).sum
theorem total_nil : total [] = 0 := rfl
theorem total_cons (s : ByteArray) (l : List ByteArray) : total (s :: l) = s.size + total l := by simp [total]
theorem total_drop (l : List ByteArray) (i : Nat) (h : i < l.length) : total (l.drop i) = (rdOf ByteArray.empty l (i : Int)).size + total (l.drop (i + 1)) := by
  rw [List.drop_eq_getElem_cons h, total_cons]
  have := rdOf_get (d := ByteArray.empty) h
  rw [List.getElem?_eq_getElem h] at this
  rw [Option.some.inj this]
theorem szStringS_l0 (l : List ByteArray) (hn : l.length ≤ 4611686018427387904) (hs : ∀ y, y ∈ l → y.size ≤ maxLen) (d : Nat) : ∀ (i : Nat) (left : Int), i + d = l.length → 0 ≤ left → left ≤ 1048576 → ∃ r : Int, Ev (fun k => laws_szStringS.l0 k l left (i : Int)) r ∧ (r < 0 ∨ 0 ≤ r ∧ (total (l.drop i) : Int) + r = left) := by
  induction d with
  | zero =>
    intro i left hi h0 h1
    refine ⟨left, evS (fun k => by rw [laws_szStringS.l0]) (evF (by omega) (evR rfl)), .inr ⟨h0, ?_⟩⟩
    rw [List.drop_eq_nil_of_le (by omega), total_nil]
    omega
  | succ d ih =>
    intro i left hi h0 h1
    have hm : (rdOf ByteArray.empty l (i : Int)).size ≤ maxLen := by
      refine hs _ ?_
      have := rdOf_get (d := ByteArray.empty) (l := l) (i := i) (by omega)
      exact List.mem_of_getElem? this
    unfold maxLen at hm
    have hw : wrap64 (left - ((rdOf ByteArray.empty l (i : Int)).size : Int)) = left - ((rdOf ByteArray.empty l (i : Int)).size : Int) := w64 (by omega)
    have ht := total_drop l i (by omega)
    by_cases hlt : left - ((rdOf ByteArray.empty l (i : Int)).size : Int) < 0
    · refine ⟨-1, evS (fun k => by rw [laws_szStringS.l0]) (evT (by omega) (evT (by omega) ?_)), .inl (by omega)⟩
      rw [hw]
      exact evT hlt (evR rfl)
    · obtain ⟨r, hr, hr2⟩ := ih (i + 1) (left - ((rdOf ByteArray.empty l (i : Int)).size : Int)) (by omega) (by omega) (by omega)
      refine ⟨r, evS (fun k => by rw [laws_szStringS.l0]) (evT (by omega) (evT (by omega) ?_)), ?_⟩
      · rw [hw, w64s (show i < l.length by omega) (by omega)]
        exact evF hlt hr
      · rcases hr2 with h | ⟨h, h'⟩
        · exact .inl h
        · exact .inr ⟨h, by omega⟩
theorem szStringS_ev (l : List ByteArray) (hn : l.length ≤ maxLen) (hs : ∀ y, y ∈ l → y.size ≤ maxLen) (left : Int) (h0 : 0 ≤ left) (h1 : left ≤ 1048576) :
    ∃ r : Int, Ev (fun k => laws_szStringS.f k l left) r ∧ (r < 0 ∨ 0 ≤ r ∧ (l.length : Int) + (total l : Int) + r = left) := by
  unfold maxLen at hn
  have hw : wrap64 (left - (l.length : Int)) = left - (l.length : Int) := w64 (by omega)
  by_cases hlt : left - (l.length : Int) < 0
  · refine ⟨-1, ?_, .inl (by omega)⟩
    unfold laws_szStringS.f
    rw [hw]
    exact evT hlt (evR rfl)
  · obtain ⟨r, hr, hr2⟩ := szStringS_l0 l (by omega) hs l.length 0 (left - (l.length : Int)) (by omega) (by omega) (by omega)
    refine ⟨r, ?_, ?_⟩
    · unfold laws_szStringS.f
      rw [hw]
      exact evF hlt hr
    · rcases hr2 with h | ⟨h, h'⟩
      · exact .inl h
      · exact .inr ⟨h, by rw [List.drop_zero] at h'; omega⟩
theorem total_mem {l : List ByteArray} {y : ByteArray} (h : y ∈ l) : y.size ≤ total l := by
  induction l with
  | nil => cases h
  | cons a l ih =>
    rw [total_cons]
    rcases List.mem_cons.1 h with rfl | h
    · omega
    · have := ih h
      omega
end Go.Proofs.Ytmkhhnfmahdijaa.Z

/- Halves, the program's and the reference's: the same. Plain lemmas. -/
set_option linter.unusedVariables false
namespace Go.Proofs.Ytmkhhnfmahdijaa.Z
open Go.RowKit Go.Proofs.YtmkhhnfmahdijaaW.PrintWords Go.Proofs.YtmkhhnfmahdijaaW.PrintMore Go.Proofs.Ytmkhhnfmahdijaa.X
/-- Doubling c as long as twice it is less than n. -/
def hl (n c : Nat) : Nat := if h : 1 ≤ c ∧ 2 * c < n then hl n (2 * c) else c
termination_by n - c
decreasing_by omega
theorem hl_both (n : Nat) (hn : n ≤ 1000000000) (d : Nat) : ∀ c : Nat, n - c ≤ d → 1 ≤ c → c < n → Ev (fun k => impl_half.l0 k (n : Int) (c : Int)) (hl n c : Int) ∧ Ev (fun k => spec_l6Half.l0 k (n : Int) (c : Int)) (hl n c : Int) ∧ c ≤ hl n c ∧ hl n c < n := by
  induction d with
  | zero => intro c h1 h2 h3; omega
  | succ d ih =>
    intro c h1 h2 h3
    have e : wrap64 (2 * (c : Int)) = ((2 * c : Nat) : Int) := by rw [w64 (by omega)]; omega
    have e' : wrap64 ((c : Int) * 2) = ((2 * c : Nat) : Int) := by rw [w64 (by omega)]; omega
    by_cases hc : 2 * c < n
    · obtain ⟨a, b, g, g'⟩ := ih (2 * c) (by omega) (by omega) hc
      rw [hl, dif_pos ⟨h2, hc⟩]
      refine ⟨?_, ?_, by omega, g'⟩
      · refine evS (fun k => by rw [impl_half.l0]) ?_
        rw [e, e']
        exact evT (by omega) a
      · refine evS (fun k => by rw [spec_l6Half.l0]) ?_
        rw [e]
        exact evT (by omega) b
    · rw [hl, dif_neg (fun h => hc h.2)]
      refine ⟨?_, ?_, by omega, h3⟩
      · refine evS (fun k => by rw [impl_half.l0]) ?_
        rw [e]
        exact evF (by omega) (evR rfl)
      · refine evS (fun k => by rw [spec_l6Half.l0]) ?_
        rw [e]
        exact evF (by omega) (evR rfl)
/-- The greatest power of two below n. -/
def hf (n : Nat) : Nat := hl n 1
theorem hf_impl {n : Nat} (h2 : 2 ≤ n) (hn : n ≤ 1000000000) : Ev (fun k => impl_half.f k (n : Int)) (hf n : Int) := (hl_both n hn n 1 (by omega) (by omega) (by omega)).1
theorem hf_spec {n : Nat} (h2 : 2 ≤ n) (hn : n ≤ 1000000000) : Ev (fun k => spec_l6Half.f k (n : Int)) (hf n : Int) := (hl_both n hn n 1 (by omega) (by omega) (by omega)).2.1
theorem hl_ge (n d : Nat) : ∀ c : Nat, n - c ≤ d → 1 ≤ c → c < n → c ≤ hl n c ∧ hl n c < n := by
  induction d with
  | zero => intro c h1 h2 h3; omega
  | succ d ih =>
    intro c h1 h2 h3
    by_cases hc : 2 * c < n
    · obtain ⟨g, g'⟩ := ih (2 * c) (by omega) (by omega) hc
      rw [hl, dif_pos ⟨h2, hc⟩]
      omega
    · rw [hl, dif_neg (fun h => hc h.2)]
      omega
theorem hf_lt {n : Nat} (h2 : 2 ≤ n) : 1 ≤ hf n ∧ hf n < n := hl_ge n n 1 (by omega) (by omega) (by omega)
/-- Texts that are not too long. -/
def Fit (l : List ByteArray) : Prop := ∀ y ∈ l, y.size ≤ 10000000000
theorem Fit.take {l : List ByteArray} (h : Fit l) (n : Nat) : Fit (l.take n) := fun y hy => h y (List.mem_of_mem_take hy)
theorem Fit.drop {l : List ByteArray} (h : Fit l) (n : Nat) : Fit (l.drop n) := fun y hy => h y (List.mem_of_mem_drop hy)
end Go.Proofs.Ytmkhhnfmahdijaa.Z

/- Words of 32 bits: what the program's and the reference's operations on them say is the same. Plain lemmas. -/
set_option linter.unusedVariables false
namespace Go.Proofs.Ytmkhhnfmahdijaa.Z
open Go.RowKit Go.Proofs.YtmkhhnfmahdijaaW.PrintWords Go.Proofs.YtmkhhnfmahdijaaW.PrintMore Go.Proofs.Ytmkhhnfmahdijaa.X Go.Proofs.Ytmkhhnfmahdijaa.Sha

/-- A word of 32 bits. -/
def W (x : Int) : Prop := 0 ≤ x ∧ x < 4294967296
theorem wp64 (n : Int) (h₀ : 0 ≤ n) (h₁ : n < 2 ^ 63) : IntKind.i64.wrap n = n := by rw [IntKind.wrap_i64]; omega
theorem wp32 (n : Int) (h₀ : 0 ≤ n) (h₁ : n < 2 ^ 32) : IntKind.u32.wrap n = n := by rw [IntKind.wrap_u32]; omega
theorem xor_nat (k : IntKind) (j : Nat) (hj : j ≤ k.bits) (hk : ∀ n : Int, 0 ≤ n → n < 2 ^ j → k.wrap n = n) (a b : Nat) (ha : a < 2 ^ j) (hb : b < 2 ^ j) :
    Go.bits .xor k a b = ((a ^^^ b : Nat) : Int) := by
  have hp : 2 ^ j ≤ 2 ^ k.bits := Nat.pow_le_pow_right (by decide) hj
  have ha' : a % 2 ^ k.bits = a := Nat.mod_eq_of_lt (Nat.lt_of_lt_of_le ha hp)
  have hb' : b % 2 ^ k.bits = b := Nat.mod_eq_of_lt (Nat.lt_of_lt_of_le hb hp)
  have cast : ∀ n : Nat, n < 2 ^ j → ((n : Nat) : Int) < 2 ^ j := fun n h => by exact_mod_cast h
  simp only [Go.bits, BitVec.ofInt_natCast, BitVec.toNat_xor, BitVec.toNat_ofNat, ha', hb']
  exact hk _ (Int.natCast_nonneg _) (cast _ (Nat.xor_lt_two_pow ha hb))
theorem nat_of {x : Int} (h : W x) : ∃ a : Nat, x = (a : Int) ∧ a < 2 ^ 32 := by
  obtain ⟨a, rfl⟩ := Int.eq_ofNat_of_zero_le h.1
  exact ⟨a, rfl, by have := h.2; omega⟩
theorem b_and {x y : Int} (hx : W x) (hy : W y) : Go.bits .and .i64 x y = Go.bits .and .u32 x y ∧ W (Go.bits .and .u32 x y) := by
  obtain ⟨a, rfl, ha⟩ := nat_of hx
  obtain ⟨b, rfl, hb⟩ := nat_of hy
  rw [(bits_nat .i64 32 (by decide) (fun n h h' => wp64 n h (by omega)) a b ha hb).1, (bits_nat .u32 32 (by decide) wp32 a b ha hb).1]
  exact ⟨rfl, by have := Nat.and_lt_two_pow a hb; unfold W; omega⟩
theorem b_or {x y : Int} (hx : W x) (hy : W y) : Go.bits .or .i64 x y = Go.bits .or .u32 x y ∧ W (Go.bits .or .u32 x y) := by
  obtain ⟨a, rfl, ha⟩ := nat_of hx
  obtain ⟨b, rfl, hb⟩ := nat_of hy
  rw [(bits_nat .i64 32 (by decide) (fun n h h' => wp64 n h (by omega)) a b ha hb).2, (bits_nat .u32 32 (by decide) wp32 a b ha hb).2]
  exact ⟨rfl, by have := Nat.or_lt_two_pow ha hb; unfold W; omega⟩
theorem b_xor {x y : Int} (hx : W x) (hy : W y) : Go.bits .xor .i64 x y = Go.bits .xor .u32 x y ∧ W (Go.bits .xor .u32 x y) := by
  obtain ⟨a, rfl, ha⟩ := nat_of hx
  obtain ⟨b, rfl, hb⟩ := nat_of hy
  rw [xor_nat .i64 32 (by decide) (fun n h h' => wp64 n h (by omega)) a b ha hb, xor_nat .u32 32 (by decide) wp32 a b ha hb]
  exact ⟨rfl, by have := Nat.xor_lt_two_pow ha hb; unfold W; omega⟩
theorem b_mask {x : Int} (h0 : 0 ≤ x) (h1 : x < 2 ^ 63) : Go.bits .and .i64 x 4294967295 = x % 4294967296 := bits_mask .i64 63 (by decide) wp64 32 (by decide) x h0 h1
theorem W_mod (x : Int) : W (x % 4294967296) := by unfold W; omega
theorem W_div {x d : Int} (h : W x) (hd : 0 < d) : W (x / d) := ⟨Int.ediv_nonneg h.1 (by omega), by have := Int.ediv_le_self d h.1; have := h.2; omega⟩
theorem W_rot {x : Int} (h : W x) (n : Nat) : W (rot n x) := (b_or (W_mod _) (W_div h (by exact_mod_cast Nat.two_pow_pos n))).2
theorem turn_is {x : Int} (h : W x) (n : Nat) (h2 : 2 ≤ n) (hn : n ≤ 32) : spec_l2Turn.f x (n : Int) = some (rot n x) := by
  have e1 : IntKind.u64.wrap ((n : Nat) : Int) = n := wu64 (by omega)
  have e2 : wrap64 (32 - (n : Int)) = ((32 - n : Nat) : Int) := by rw [w64 (by omega)]; omega
  have e3 : IntKind.u64.wrap ((32 - n : Nat) : Int) = ((32 - n : Nat) : Int) := wu64 (by omega)
  obtain ⟨a, rfl, ha⟩ := nat_of h
  have hp : 0 < 2 ^ n := Nat.two_pow_pos n
  have hq : 2 ^ (32 - n) ≤ 2 ^ 30 := Nat.pow_le_pow_right (by decide) (by omega)
  have hm : a * 2 ^ (32 - n) < 2 ^ 62 := Nat.lt_of_le_of_lt (Nat.mul_le_mul_left a hq) (by omega)
  have hd : a / 2 ^ n < 2 ^ 32 := Nat.lt_of_le_of_lt (Nat.div_le_self _ _) ha
  have s1 : shr .i64 (a : Int) (n : Int) = ((a / 2 ^ n : Nat) : Int) := by
    unfold shr
    rw [show min (n : Int).toNat IntKind.i64.bits = n by show min _ 64 = _; omega]
    simp
  have s2 : shl .i64 (a : Int) ((32 - n : Nat) : Int) = ((a * 2 ^ (32 - n) : Nat) : Int) := by
    unfold shl
    rw [show min ((32 - n : Nat) : Int).toNat IntKind.i64.bits = 32 - n by show min _ 64 = _; omega]
    rw [wp64 _ (by exact_mod_cast Nat.zero_le _) (by exact_mod_cast Nat.lt_trans hm (by decide))]
    simp
  have hor : (a / 2 ^ n ||| a * 2 ^ (32 - n)) < 2 ^ 62 := Nat.or_lt_two_pow (by omega) hm
  unfold spec_l2Turn.f
  rw [e1, e2, e3, if_pos (by omega), if_pos (by omega), s1, s2, (bits_nat .i64 62 (by decide) (fun n h h' => wp64 n h (by omega)) _ _ (by omega) hm).2, b_mask (by omega) (by exact_mod_cast Nat.lt_trans hor (by decide))]
  unfold rot
  have hr : (a : Int) * 2 ^ (32 - n) % 4294967296 = ((a * 2 ^ (32 - n) % 2 ^ 32 : Nat) : Int) := by simp
  have hd' : (a : Int) / 2 ^ n = ((a / 2 ^ n : Nat) : Int) := by simp
  rw [hr, hd', (bits_nat .u32 32 (by decide) wp32 _ _ (Nat.mod_lt _ (by decide)) hd).2]
  congr 1
  have : ((a / 2 ^ n ||| a * 2 ^ (32 - n) : Nat) : Int) % 4294967296 = (((a / 2 ^ n ||| a * 2 ^ (32 - n)) % 2 ^ 32 : Nat) : Int) := by simp
  rw [this, Nat.or_mod_two_pow, Nat.mod_eq_of_lt hd, Nat.or_comm]
end Go.Proofs.Ytmkhhnfmahdijaa.Z

/- The reference's digest: what it computes, in the words of the program's digest. Plain lemmas. -/
set_option linter.unusedVariables false
namespace Go.Proofs.Ytmkhhnfmahdijaa.Z
open Go.RowKit Go.Proofs.YtmkhhnfmahdijaaW.PrintWords Go.Proofs.YtmkhhnfmahdijaaW.PrintMore Go.Proofs.Ytmkhhnfmahdijaa.X Go.Proofs.Ytmkhhnfmahdijaa.Sha

theorem evE' {α : Type} {f g : Nat → Option α} {r : α} (h : g = f) (k : Ev g r) : Ev f r := h ▸ k
def Byte (x : Int) : Prop := 0 ≤ x ∧ x < 256
theorem rdm (f : Nat → Int) {i j : Nat} (h : j < i) : rd ((List.range i).map f) (j : Int) = f j := by
  unfold rd
  simp [h]
theorem four_is {a b c d : Int} (ha : Byte a) (hb : Byte b) (hc : Byte c) (hd : Byte d) :
    Go.bits .or .i64 (Go.bits .or .i64 (Go.bits .or .i64 (wrap64 ((wrap64 a) * 16777216)) (wrap64 ((wrap64 b) * 65536))) (wrap64 ((wrap64 c) * 256))) (wrap64 d) = four a b c d ∧ W (four a b c d) := by
  unfold Byte at ha hb hc hd
  have e1 : wrap64 ((wrap64 a) * 16777216) = a % 4294967296 * 16777216 % 4294967296 := by rw [w64 (x := a) (by omega), w64 (by omega)]; omega
  have e2 : wrap64 ((wrap64 b) * 65536) = b % 4294967296 * 65536 % 4294967296 := by rw [w64 (x := b) (by omega), w64 (by omega)]; omega
  have e3 : wrap64 ((wrap64 c) * 256) = c % 4294967296 * 256 % 4294967296 := by rw [w64 (x := c) (by omega), w64 (by omega)]; omega
  have e4 : wrap64 d = d % 4294967296 := by rw [w64 (by omega)]; omega
  rw [e1, e2, e3, e4]
  obtain ⟨x1, y1⟩ := b_or (W_mod (a % 4294967296 * 16777216)) (W_mod (b % 4294967296 * 65536))
  obtain ⟨x2, y2⟩ := b_or y1 (W_mod (c % 4294967296 * 256))
  obtain ⟨x3, y3⟩ := b_or y2 (W_mod d)
  rw [x1, x2, x3]
  exact ⟨rfl, y3⟩
theorem W_ws {g : Nat → Int} (hg : ∀ j, j < 64 → Byte (g j)) (j : Nat) : W (ws g j) := by
  by_cases h : j < 16
  · rw [ws_lt h]
    exact (four_is (hg _ (by omega)) (hg _ (by omega)) (hg _ (by omega)) (hg _ (by omega))).2
  · rw [ws_ge h]
    exact W_mod _
theorem ws_congr {g g' : Nat → Int} (h : ∀ j, j < 64 → g j = g' j) : ∀ j, ws g j = ws g' j := by
  intro j
  induction j using Nat.strongRecOn with
  | ind j ih =>
    by_cases hj : j < 16
    · rw [ws_lt hj, ws_lt hj]
      unfold w16
      rw [h _ (by omega), h _ (by omega), h _ (by omega), h _ (by omega)]
    · rw [ws_ge hj, ws_ge hj, ih _ (by omega), ih _ (by omega), ih _ (by omega), ih _ (by omega)]
theorem mix_is {p q r s : Int} (hp : W p) (hq : W q) (hr : W r) (hs : W s) :
    Go.bits .and .i64 (wrap64 ((wrap64 ((wrap64 (p + (Go.bits .xor .i64 (Go.bits .xor .i64 (rot 7 q) (rot 18 q)) (q / 8)))) + r)) + (Go.bits .xor .i64 (Go.bits .xor .i64 (rot 17 s) (rot 19 s)) (s / 1024)))) 4294967295 = mix p q r s := by
  obtain ⟨x1, y1⟩ := b_xor (W_rot hq 7) (W_rot hq 18)
  obtain ⟨x2, y2⟩ := b_xor y1 (W_div hq (show (0 : Int) < 8 by omega))
  obtain ⟨x3, y3⟩ := b_xor (W_rot hs 17) (W_rot hs 19)
  obtain ⟨x4, y4⟩ := b_xor y3 (W_div hs (show (0 : Int) < 1024 by omega))
  rw [x1, x2, x3, x4]
  have eA : sA q = Go.bits .xor .u32 (Go.bits .xor .u32 (rot 7 q) (rot 18 q)) (q / 8) := rfl
  have eB : sB s = Go.bits .xor .u32 (Go.bits .xor .u32 (rot 17 s) (rot 19 s)) (s / 1024) := rfl
  have yA : W (sA q) := y2
  have yB : W (sB s) := y4
  rw [← eA, ← eB]
  clear y1 y2 y3 y4 x1 x2 x3 x4 eA eB
  unfold W at *
  rw [w64 (x := p + sA q) (by omega), w64 (x := p + sA q + r) (by omega), w64 (by omega), b_mask (by omega) (by omega)]
  rfl
theorem words_l1 (g : Nat → Int) (hg : ∀ j, j < 64 → Byte (g j)) : ∀ d i : Nat, 16 ≤ i → i + d = 64 → Ev (fun k => spec_l2Words.l1 k ((List.range i).map (ws g)) (i : Int)) ((List.range 64).map (ws g)) := by
  intro d
  induction d with
  | zero =>
    intro i h1 h2
    obtain rfl : i = 64 := by omega
    exact evS (fun k => by rw [spec_l2Words.l1]) (evF (by omega) (evR rfl))
  | succ d ih =>
    intro i h1 h2
    have e15 : wrap64 ((i : Int) - 15) = ((i - 15 : Nat) : Int) := by rw [w64 (by omega)]; omega
    have e2 : wrap64 ((i : Int) - 2) = ((i - 2 : Nat) : Int) := by rw [w64 (by omega)]; omega
    have e16 : wrap64 ((i : Int) - 16) = ((i - 16 : Nat) : Int) := by rw [w64 (by omega)]; omega
    have e7 : wrap64 ((i : Int) - 7) = ((i - 7 : Nat) : Int) := by rw [w64 (by omega)]; omega
    have hl : ((List.range i).map (ws g)).length = i := by simp
    refine evS (fun k => by rw [spec_l2Words.l1]) ?_
    rw [e15, e2, e16, e7, rdm _ (show i - 15 < i by omega), rdm _ (show i - 2 < i by omega), rdm _ (show i - 16 < i by omega), rdm _ (show i - 7 < i by omega), hl]
    refine evT (by omega) ?_
    refine evT (by omega) ?_
    refine evT (by omega) ?_
    refine evT (by omega) ?_
    refine evT (by omega) ?_
    refine evC (turn_is (W_ws hg _) 7 (by omega) (by omega)) ?_
    refine evC (turn_is (W_ws hg _) 18 (by omega) (by omega)) ?_
    refine evC (turn_is (W_ws hg _) 17 (by omega) (by omega)) ?_
    refine evC (turn_is (W_ws hg _) 19 (by omega) (by omega)) ?_
    refine evT (by omega) ?_
    refine evT (by omega) ?_
    refine evT (by omega) ?_
    refine evT (by omega) ?_
    refine evT (by omega) ?_
    rw [mix_is (W_ws hg _) (W_ws hg _) (W_ws hg _) (W_ws hg _), ← ws_ge (show ¬ i < 16 by omega), w64s (show i < 64 by omega) (by omega)]
    have := ih (i + 1) (by omega) (by omega)
    rw [List.range_succ, List.map_append] at this
    exact this
theorem words_l0 (b : List Int) (hb : b.length = 64) (hg : ∀ j : Nat, j < 64 → Byte (rd b (j : Int))) : ∀ d i : Nat, i + d = 16 →
    Ev (fun k => spec_l2Words.l0 k b ((List.range i).map (ws (fun j => rd b (j : Int)))) (i : Int)) ((List.range 64).map (ws (fun j => rd b (j : Int)))) := by
  intro d
  induction d with
  | zero =>
    intro i h2
    obtain rfl : i = 16 := by omega
    have h1 : Ev (fun k => spec_l2Words.l1 k ((List.range 16).map (ws (fun j => rd b (j : Int)))) 16) _ := words_l1 _ hg 48 16 (by omega) (by omega)
    refine evS (fun k => by rw [spec_l2Words.l0]) ?_
    exact evF (by omega) h1
  | succ d ih =>
    intro i h2
    have e0 : wrap64 (4 * (i : Int)) = ((4 * i : Nat) : Int) := by rw [w64 (by omega)]; omega
    have e1 : wrap64 (((4 * i : Nat) : Int) + 1) = ((4 * i + 1 : Nat) : Int) := by rw [w64 (by omega)]; omega
    have e2 : wrap64 (((4 * i : Nat) : Int) + 2) = ((4 * i + 2 : Nat) : Int) := by rw [w64 (by omega)]; omega
    have e3 : wrap64 (((4 * i : Nat) : Int) + 3) = ((4 * i + 3 : Nat) : Int) := by rw [w64 (by omega)]; omega
    have hl : ((List.range i).map (ws (fun j => rd b (j : Int)))).length = i := by simp
    refine evS (fun k => by rw [spec_l2Words.l0]) ?_
    rw [e0, e1, e2, e3, hl, hb]
    refine evT (by omega) ?_
    refine evT (by omega) ?_
    refine evT (by omega) ?_
    refine evT (by omega) ?_
    refine evT (by omega) ?_
    refine evT (by omega) ?_
    refine evT (by omega) ?_
    refine evT (by omega) ?_
    refine evT (by omega) ?_
    refine evT (by omega) ?_
    rw [(four_is (hg _ (by omega)) (hg _ (by omega)) (hg _ (by omega)) (hg _ (by omega))).1, w64s (show i < 64 by omega) (by omega)]
    have := ih (i + 1) (by omega)
    rw [List.range_succ, List.map_append] at this
    rw [show [four (rd b ((4 * i : Nat) : Int)) (rd b ((4 * i + 1 : Nat) : Int)) (rd b ((4 * i + 2 : Nat) : Int)) (rd b ((4 * i + 3 : Nat) : Int))] = List.map (ws fun j => rd b (j : Int)) [i] by simp [ws_lt (show i < 16 by omega), w16]]
    exact this
theorem words_ev (b : List Int) (hb : b.length = 64) (hg : ∀ j : Nat, j < 64 → Byte (rd b (j : Int))) : Ev (fun k => spec_l2Words.f k b) ((List.range 64).map (ws (fun j => rd b (j : Int)))) := by
  have := words_l0 b hb hg 16 0 rfl
  exact this
/-- Eight words as a list. -/
def L (f : Nat → Int) : List Int := [f 0, f 1, f 2, f 3, f 4, f 5, f 6, f 7]
theorem L_len (f : Nat → Int) : ((L f).length : Int) = 8 := rfl
theorem L_rd (f : Nat → Int) {i : Nat} (h : i < 8) : rd (L f) (i : Int) = f i := by
  match i, h with
  | 0, _ => rfl
  | 1, _ => rfl
  | 2, _ => rfl
  | 3, _ => rfl
  | 4, _ => rfl
  | 5, _ => rfl
  | 6, _ => rfl
  | 7, _ => rfl
theorem L_set (f : Nat → Int) {i : Nat} (h : i < 8) (x : Int) : (L f).set i x = L (fun j => if j = i then x else f j) := by
  match i, h with
  | 0, _ => rfl
  | 1, _ => rfl
  | 2, _ => rfl
  | 3, _ => rfl
  | 4, _ => rfl
  | 5, _ => rfl
  | 6, _ => rfl
  | 7, _ => rfl
theorem L_congr {f g : Nat → Int} (h : ∀ j, j < 8 → f j = g j) : L f = L g := by
  unfold L
  rw [h 0 (by omega), h 1 (by omega), h 2 (by omega), h 3 (by omega), h 4 (by omega), h 5 (by omega), h 6 (by omega), h 7 (by omega)]
def W8 (f : Nat → Int) : Prop := ∀ j, j < 8 → W (f j)
theorem tA_is {e : Int} (h : W e) : Go.bits .xor .i64 (Go.bits .xor .i64 (rot 6 e) (rot 11 e)) (rot 25 e) = tA e ∧ W (tA e) := by
  obtain ⟨x1, y1⟩ := b_xor (W_rot h 6) (W_rot h 11)
  obtain ⟨x2, y2⟩ := b_xor y1 (W_rot h 25)
  rw [x1, x2]
  exact ⟨rfl, y2⟩
theorem tB_is {e : Int} (h : W e) : Go.bits .xor .i64 (Go.bits .xor .i64 (rot 2 e) (rot 13 e)) (rot 22 e) = tB e ∧ W (tB e) := by
  obtain ⟨x1, y1⟩ := b_xor (W_rot h 2) (W_rot h 13)
  obtain ⟨x2, y2⟩ := b_xor y1 (W_rot h 22)
  rw [x1, x2]
  exact ⟨rfl, y2⟩
theorem ch_is {e f g : Int} (he : W e) (hf : W f) (hg : W g) : Go.bits .xor .i64 (Go.bits .and .i64 e f) (Go.bits .and .i64 (Go.bits .xor .i64 4294967295 e) g) = ch e f g ∧ W (ch e f g) := by
  have hM : W 4294967295 := ⟨by omega, by omega⟩
  obtain ⟨x1, y1⟩ := b_and he hf
  obtain ⟨x2, y2⟩ := b_xor hM he
  obtain ⟨x3, y3⟩ := b_and y2 hg
  obtain ⟨x4, y4⟩ := b_xor y1 y3
  rw [x1, x2, x3, x4]
  exact ⟨rfl, y4⟩
theorem maj_is {e f g : Int} (he : W e) (hf : W f) (hg : W g) : Go.bits .xor .i64 (Go.bits .xor .i64 (Go.bits .and .i64 e f) (Go.bits .and .i64 e g)) (Go.bits .and .i64 f g) = maj e f g ∧ W (maj e f g) := by
  obtain ⟨x1, y1⟩ := b_and he hf
  obtain ⟨x2, y2⟩ := b_and he hg
  obtain ⟨x3, y3⟩ := b_and hf hg
  obtain ⟨x4, y4⟩ := b_xor y1 y2
  obtain ⟨x5, y5⟩ := b_xor y4 y3
  rw [x1, x2, x3, x4, x5]
  exact ⟨rfl, y5⟩
theorem W8_step {v : Nat → Int} (h : W8 v) (k x : Int) : W8 (Sha.step v k x) := by
  intro j hj
  match j, hj with
  | 0, _ => exact W_mod _
  | 1, _ => exact h 0 (by omega)
  | 2, _ => exact h 1 (by omega)
  | 3, _ => exact h 2 (by omega)
  | 4, _ => exact W_mod _
  | 5, _ => exact h 4 (by omega)
  | 6, _ => exact h 5 (by omega)
  | 7, _ => exact h 6 (by omega)
theorem W8_run {h : Nat → Int} (hh : W8 h) (K Ws : Nat → Int) : ∀ n, W8 (run h K Ws n)
  | 0 => hh
  | n + 1 => W8_step (W8_run hh K Ws n) _ _
theorem W8_turn (h g K : Nat → Int) : W8 (turn h g K) := fun j _ => W_mod _
theorem kk_W : ∀ i : Nat, i < 64 → W (kk i) := by
  have : ∀ i : Nat, i < 64 → 0 ≤ kk i ∧ kk i < 4294967296 := by decide +kernel
  exact this
theorem step_is {v : Nat → Int} (h : W8 v) {k x : Int} (hk : W k) (hx : W x) :
    ([Go.bits .and .i64 (wrap64 ((wrap64 ((wrap64 ((wrap64 ((wrap64 ((v 7) + tA (v 4))) + ch (v 4) (v 5) (v 6))) + k)) + x)) + (wrap64 (tB (v 0) + maj (v 0) (v 1) (v 2))))) 4294967295, v 0, v 1, v 2,
      Go.bits .and .i64 (wrap64 ((v 3) + (wrap64 ((wrap64 ((wrap64 ((wrap64 ((v 7) + tA (v 4))) + ch (v 4) (v 5) (v 6))) + k)) + x)))) 4294967295, v 4, v 5, v 6] : List Int) = L (Sha.step v k x) := by
  have a7 := h 7 (by omega)
  have a3 := h 3 (by omega)
  have yA := (tA_is (h 4 (by omega))).2
  have yB := (tB_is (h 0 (by omega))).2
  have yC := (ch_is (h 4 (by omega)) (h 5 (by omega)) (h 6 (by omega))).2
  have yM := (maj_is (h 0 (by omega)) (h 1 (by omega)) (h 2 (by omega))).2
  have e0 : Sha.step v k x 0 = (v 7 + tA (v 4) + ch (v 4) (v 5) (v 6) + k + x + tB (v 0) + maj (v 0) (v 1) (v 2)) % 4294967296 := rfl
  have e4 : Sha.step v k x 4 = (v 3 + (v 7 + tA (v 4) + ch (v 4) (v 5) (v 6) + k + x)) % 4294967296 := rfl
  have eL : L (Sha.step v k x) = [Sha.step v k x 0, v 0, v 1, v 2, Sha.step v k x 4, v 4, v 5, v 6] := rfl
  rw [eL, e0, e4]
  generalize tA (v 4) = A at *
  generalize tB (v 0) = B at *
  generalize ch (v 4) (v 5) (v 6) = C at *
  generalize maj (v 0) (v 1) (v 2) = M at *
  generalize v 7 = p7 at *
  generalize v 3 = p3 at *
  clear eL e0 e4 h
  unfold W at *
  rw [w64 (x := p7 + A) (by omega), w64 (x := p7 + A + C) (by omega), w64 (x := p7 + A + C + k) (by omega), w64 (x := p7 + A + C + k + x) (by omega), w64 (x := B + M) (by omega), w64 (x := p3 + _) (by omega), w64 (by omega), b_mask (by omega) (by omega), b_mask (by omega) (by omega)]
  congr 2
  omega
theorem block_l1 (h v : Nat → Int) (hh : W8 h) (hv : W8 v) : ∀ d i : Nat, i + d = 8 → Ev (fun k => spec_l2Block.l1 k (L h) (L (fun j => if j < i then (h j + v j) % 4294967296 else v j)) (i : Int)) (L (fun j => (h j + v j) % 4294967296)) := by
  intro d
  induction d with
  | zero =>
    intro i h2
    obtain rfl : i = 8 := by omega
    refine evS (fun k => by rw [spec_l2Block.l1]) ?_
    exact evF (by omega) (evR (L_congr fun j hj => by simp [hj]))
  | succ d ih =>
    intro i h2
    have hi : i < 8 := by omega
    refine evS (fun k => by rw [spec_l2Block.l1]) ?_
    rw [L_len, L_len, L_rd _ hi, L_rd _ hi, if_neg (show ¬ i < i by omega), show ((i : Nat) : Int).toNat = i by omega, L_set _ hi, w64s (show i < 8 by omega) (by omega)]
    refine evT (by omega) ?_
    refine evT (by omega) ?_
    refine evT (by omega) ?_
    refine evT (by omega) ?_
    have := ih (i + 1) (by omega)
    refine evE' ?_ this
    have h1 := hh i hi
    have h3 := hv i hi
    unfold W at h1 h3
    have e : Go.bits .and .i64 (wrap64 (v i + h i)) 4294967295 = (h i + v i) % 4294967296 := by
      rw [w64 (by omega), b_mask (by omega) (by omega), Int.add_comm]
    rw [e]
    funext k
    congr 1
    symm
    refine L_congr fun j hj => ?_
    by_cases hji : j = i
    · subst hji
      simp
    · by_cases hj2 : j < i
      · simp [hji, hj2, show j < i + 1 by omega]
      · simp [hji, hj2, show ¬ j < i + 1 by omega]
theorem block_l0 (h g : Nat → Int) (hh : W8 h) (hg : ∀ j, j < 64 → Byte (g j)) : ∀ d i : Nat, i + d = 64 → Ev (fun k => spec_l2Block.l0 k (L h) kks ((List.range 64).map (ws g)) (L (run h kk (ws g) i)) (i : Int)) (L (turn h g kk)) := by
  intro d
  induction d with
  | zero =>
    intro i h2
    obtain rfl : i = 64 := by omega
    have h1 : Ev (fun k => spec_l2Block.l1 k (L h) (L (run h kk (ws g) 64)) 0) (L (turn h g kk)) := block_l1 h (run h kk (ws g) 64) hh (W8_run hh _ _ _) 8 0 rfl
    refine evS (fun k => by rw [spec_l2Block.l0]) ?_
    exact evF (by omega) h1
  | succ d ih =>
    intro i h2
    have hi : i < 64 := by omega
    have hv := W8_run hh kk (ws g) i
    have hst : L (run h kk (ws g) (i + 1)) = L (Sha.step (run h kk (ws g) i) (kk i) (ws g i)) := rfl
    have := ih (i + 1) (by omega)
    rw [hst, ← step_is hv (kk_W i hi) (W_ws hg i)] at this
    generalize run h kk (ws g) i = v at hv this
    have k0 : rd (L v) 0 = v 0 := rfl
    have k1 : rd (L v) 1 = v 1 := rfl
    have k2 : rd (L v) 2 = v 2 := rfl
    have k3 : rd (L v) 3 = v 3 := rfl
    have k4 : rd (L v) 4 = v 4 := rfl
    have k5 : rd (L v) 5 = v 5 := rfl
    have k6 : rd (L v) 6 = v 6 := rfl
    have k7 : rd (L v) 7 = v 7 := rfl
    have hkl : ((kks.length : Nat) : Int) = 64 := rfl
    have hwl : ((((List.range 64).map (ws g)).length : Nat) : Int) = 64 := by simp
    have hkr : rd kks (i : Int) = kk i := by simp [rd, kk]
    refine evS (fun k => by rw [spec_l2Block.l0]) ?_
    rw [k0, k1, k2, k3, k4, k5, k6, k7, L_len, hkl, hwl, hkr, rdm _ hi, w64s hi (by omega)]
    refine evT (by omega) ?_
    refine evT (by omega) ?_
    refine evC (turn_is (hv 4 (by omega)) 6 (by omega) (by omega)) ?_
    refine evC (turn_is (hv 4 (by omega)) 11 (by omega) (by omega)) ?_
    refine evC (turn_is (hv 4 (by omega)) 25 (by omega) (by omega)) ?_
    refine evT (by omega) ?_
    refine evT (by omega) ?_
    refine evT (by omega) ?_
    refine evT (by omega) ?_
    refine evT (by omega) ?_
    refine evT (by omega) ?_
    refine evT (by omega) ?_
    refine evC (turn_is (hv 0 (by omega)) 2 (by omega) (by omega)) ?_
    refine evC (turn_is (hv 0 (by omega)) 13 (by omega) (by omega)) ?_
    refine evC (turn_is (hv 0 (by omega)) 22 (by omega) (by omega)) ?_
    refine evT (by omega) ?_
    refine evT (by omega) ?_
    refine evT (by omega) ?_
    rw [(tA_is (hv 4 (by omega))).1, (tB_is (hv 0 (by omega))).1, (ch_is (hv 4 (by omega)) (hv 5 (by omega)) (hv 6 (by omega))).1, (maj_is (hv 0 (by omega)) (hv 1 (by omega)) (hv 2 (by omega))).1]
    exact this
theorem block_ev (h : Nat → Int) (b : List Int) (hh : W8 h) (hb : b.length = 64) (hg : ∀ j : Nat, j < 64 → Byte (rd b (j : Int))) : Ev (fun k => spec_l2Block.f k (L h) b kks) (L (turn h (fun j => rd b (j : Int)) kk)) := by
  unfold spec_l2Block.f
  refine evB (words_ev b hb hg) ?_
  refine evC rfl ?_
  refine evT (by simp [L]) ?_
  exact block_l0 h _ hh hg 64 0 rfl
end Go.Proofs.Ytmkhhnfmahdijaa.Z

/- What Padded computes, the program's and the reference's: the same. No Go, no memory. -/
set_option linter.unusedVariables false
namespace Go.Proofs.Ytmkhhnfmahdijaa.Z
open Go.RowKit Go.Proofs.YtmkhhnfmahdijaaW.PrintWords Go.Proofs.YtmkhhnfmahdijaaW.PrintMore Go.Proofs.Ytmkhhnfmahdijaa.X

/-- The bytes of a count, from group i down. -/
def lenB (x : Int) : Nat → List Int
  | 0 => []
  | i + 1 => (shr .i64 x ((8 * i : Nat) : Int) % 256) :: lenB x i
theorem lenB_length (x : Int) (i : Nat) : (lenB x i).length = i := by
  induction i with
  | zero => rfl
  | succ i ih => simp [lenB, ih]
def padB (b : List Int) : List Int := b ++ (128 :: List.replicate ((119 - b.length % 64) % 64) 0) ++ lenB (8 * (b.length : Int)) 8
theorem padB_length (b : List Int) : (padB b).length = b.length + 1 + (119 - b.length % 64) % 64 + 8 := by
  simp [padB, lenB_length]
  omega
theorem padB_mod (b : List Int) : (padB b).length % 64 = 0 := by rw [padB_length]; omega

theorem specPad_l1 (x : Int) : ∀ (i : Nat) (m : List Int), i ≤ 8 → m.length + i < 140737488355328 → Ev (fun k => spec_Padded.l1 k m x (8 * (i : Int) - 8)) (m ++ lenB x i) := by
  intro i
  induction i with
  | zero =>
    intro m h0 h1
    exact evS (fun k => by rw [spec_Padded.l1]) (evF (by omega) (evR (by simp [lenB])))
  | succ i ih =>
    intro m h0 h1
    have hu : IntKind.u64.wrap (8 * ((i + 1 : Nat) : Int) - 8) = ((8 * i : Nat) : Int) := by rw [wu64 (by omega)]; omega
    refine evS (fun k => by rw [spec_Padded.l1]) (evT (by omega) ?_)
    rw [hu]
    refine evT (by omega) (evT (by omega) ?_)
    rw [w64 (x := 8 * ((i + 1 : Nat) : Int) - 8 - 8) (by omega), show 8 * ((i + 1 : Nat) : Int) - 8 - 8 = 8 * (i : Int) - 8 by omega]
    refine evE ?_ (ih _ (by omega) (by simp; omega))
    simp [lenB]
theorem implPad_l1 (x : Int) : ∀ (i : Nat) (m : List Int), i ≤ 8 → m.length + i < 140737488355328 → Ev (fun k => impl_Padded.l1 k m x ((i : Int) - 1)) (m ++ lenB x i) := by
  intro i
  induction i with
  | zero =>
    intro m h0 h1
    exact evS (fun k => by rw [impl_Padded.l1]) (evF (by omega) (evR (by simp [lenB])))
  | succ i ih =>
    intro m h0 h1
    have hw : wrap64 (8 * (((i + 1 : Nat) : Int) - 1)) = ((8 * i : Nat) : Int) := by rw [w64 (by omega)]; omega
    have hu : IntKind.u64.wrap ((8 * i : Nat) : Int) = ((8 * i : Nat) : Int) := wu64 (by omega)
    refine evS (fun k => by rw [impl_Padded.l1]) (evT (by omega) ?_)
    rw [hw, hu]
    refine evT (by omega) (evT (by omega) ?_)
    rw [w64 (x := ((i + 1 : Nat) : Int) - 1 - 1) (by omega), show ((i + 1 : Nat) : Int) - 1 - 1 = (i : Int) - 1 by omega]
    refine evE ?_ (ih _ (by omega) (by simp; omega))
    simp [lenB]
theorem specPad_l0 (b : List Int) (hb : b.length ≤ 100000000000) (d : Nat) : ∀ (m : List Int), d < 64 → (m.length + d) % 64 = 56 → m.length + d ≤ 140000000000000 → Ev (fun k => spec_Padded.l0 k b m) (m ++ List.replicate d 0 ++ lenB (8 * (b.length : Int)) 8) := by
  induction d with
  | zero =>
    intro m h0 h1 h2
    refine evS (fun k => by rw [spec_Padded.l0]) (evT (by omega) ?_)
    rw [w64 (x := (b.length : Int) * 8) (by omega), show (b.length : Int) * 8 = 8 * (b.length : Int) by omega]
    refine evE ?_ (specPad_l1 (8 * (b.length : Int)) 8 m (by omega) (by omega))
    simp
  | succ d ih =>
    intro m h0 h1 h2
    refine evS (fun k => by rw [spec_Padded.l0]) (evF (by omega) (evT (by omega) ?_))
    refine evE ?_ (ih _ (by omega) (by simp; omega) (by simp; omega))
    simp [List.replicate_succ]
theorem implPad_l0 (b : List Int) (hb : b.length ≤ 100000000000) (d : Nat) : ∀ (m : List Int), d < 64 → (m.length + d) % 64 = 56 → m.length + d ≤ 140000000000000 → Ev (fun k => impl_Padded.l0 k b m) (m ++ List.replicate d 0 ++ lenB (8 * (b.length : Int)) 8) := by
  induction d with
  | zero =>
    intro m h0 h1 h2
    have hw : wrap64 ((m.length : Int) + 8) = (m.length : Int) + 8 := w64 (by omega)
    refine evS (fun k => by rw [impl_Padded.l0]) ?_
    rw [hw, Int.tmod_eq_emod_of_nonneg (by omega)]
    refine evT (by omega) ?_
    rw [w64 (x := 8 * (b.length : Int)) (by omega)]
    refine evE ?_ (implPad_l1 (8 * (b.length : Int)) 8 m (by omega) (by omega))
    simp
  | succ d ih =>
    intro m h0 h1 h2
    have hw : wrap64 ((m.length : Int) + 8) = (m.length : Int) + 8 := w64 (by omega)
    refine evS (fun k => by rw [impl_Padded.l0]) ?_
    rw [hw, Int.tmod_eq_emod_of_nonneg (by omega)]
    refine evF (by omega) (evT (by omega) ?_)
    refine evE ?_ (ih _ (by omega) (by simp; omega) (by simp; omega))
    simp [List.replicate_succ]
theorem specPad_ev (b : List Int) (hb : b.length ≤ 100000000000) : Ev (fun k => spec_Padded.f k b) (padB b) := by
  unfold spec_Padded.f
  refine evC rfl ?_
  refine evT (by simp; omega) ?_
  refine evC rfl ?_
  simp only [List.nil_append]
  refine evT (by omega) ?_
  refine evE ?_ (specPad_l0 b hb ((119 - b.length % 64) % 64) _ (by omega) (by simp; omega) (by simp; omega))
  simp [padB]
theorem implPad_ev (b : List Int) (hb : b.length ≤ 100000000000) : Ev (fun k => impl_Padded.f k b) (padB b) := by
  unfold impl_Padded.f
  refine evC (a := b) (by unfold slices_Clone_byte_byte.f; rw [if_pos (by omega)]) ?_
  refine evT (by omega) ?_
  refine evE ?_ (implPad_l0 b hb ((119 - b.length % 64) % 64) _ (by omega) (by simp; omega) (by simp; omega))
  simp [padB]
end Go.Proofs.Ytmkhhnfmahdijaa.Z

/- The reference's digest and the program's: one text of one list of bytes. Plain lemmas. -/
set_option linter.unusedVariables false
namespace Go.Proofs.Ytmkhhnfmahdijaa.Z
open Go.RowKit Go.Proofs.YtmkhhnfmahdijaaW.PrintWords Go.Proofs.YtmkhhnfmahdijaaW.PrintMore Go.Proofs.Ytmkhhnfmahdijaa.X Go.Proofs.Ytmkhhnfmahdijaa.Sha

theorem W8_h0 : W8 h0 := by
  intro j hj
  match j, hj with
  | 0, _ => exact ⟨by decide, by decide⟩
  | 1, _ => exact ⟨by decide, by decide⟩
  | 2, _ => exact ⟨by decide, by decide⟩
  | 3, _ => exact ⟨by decide, by decide⟩
  | 4, _ => exact ⟨by decide, by decide⟩
  | 5, _ => exact ⟨by decide, by decide⟩
  | 6, _ => exact ⟨by decide, by decide⟩
  | 7, _ => exact ⟨by decide, by decide⟩
theorem W8_fold (p : List Int) : ∀ i, W8 (fold p (List.range i))
  | 0 => W8_h0
  | i + 1 => by
    rw [List.range_succ, fold_snoc]
    exact W8_turn _ _ _
theorem digest_l1 (F : Nat → Int) : ∀ d i : Nat, i + d = 8 → Ev (fun k => spec_Digest.l1 k (L F) (Sha.bytes F i) (i : Int)) (strOfNums (Sha.bytes F 8)) := by
  intro d
  induction d with
  | zero =>
    intro i h2
    obtain rfl : i = 8 := by omega
    refine evS (fun k => by rw [spec_Digest.l1]) ?_
    exact evF (by omega) (evR rfl)
  | succ d ih =>
    intro i h2
    have hi : i < 8 := by omega
    have hl := bytes_length F i
    refine evS (fun k => by rw [spec_Digest.l1]) ?_
    rw [L_len, L_rd _ hi, w64s hi (by omega)]
    refine evT (by omega) ?_
    refine evT (by omega) ?_
    refine evT (by omega) ?_
    refine evC rfl ?_
    refine evT (by simp; omega) ?_
    exact ih (i + 1) (by omega)
theorem digest_l0 (p : List Int) (m : Nat) (hp : p.length = 64 * m) (hp1 : p.length ≤ 140737488351232) (hb : ∀ x ∈ p, Byte x) : ∀ d i : Nat, i + d = m →
    Ev (fun k => spec_Digest.l0 k p (L (fold p (List.range i))) kks ((64 * i : Nat) : Int)) (text p) := by
  intro d
  induction d with
  | zero =>
    intro i h2
    obtain rfl : i = m := by omega
    have ht : text p = strOfNums (Sha.bytes (fold p (List.range i)) 8) := by unfold text; rw [show p.length / 64 = i by omega]
    rw [ht]
    have h1 : Ev (fun k => spec_Digest.l1 k (L (fold p (List.range i))) [] 0) _ := digest_l1 (fold p (List.range i)) 8 0 rfl
    refine evS (fun k => by rw [spec_Digest.l0]) ?_
    exact evF (by omega) h1
  | succ d ih =>
    intro i h2
    have e : wrap64 (((64 * i : Nat) : Int) + 64) = ((64 * (i + 1) : Nat) : Int) := by rw [w64 (by omega)]; omega
    refine evS (fun k => by rw [spec_Digest.l0]) ?_
    rw [e, hp]
    refine evT (by omega) ?_
    refine evT (by omega) ?_
    refine evT (by omega) ?_
    refine evT (by omega) ?_
    rw [show (((64 * (i + 1) : Nat) : Int)).toNat = 64 * (i + 1) by omega, show (((64 * i : Nat) : Int)).toNat = 64 * i by omega]
    have hblen : ((p.take (64 * (i + 1))).drop (64 * i)).length = 64 := by simp; omega
    have hbr : ∀ j : Nat, j < 64 → rd ((p.take (64 * (i + 1))).drop (64 * i)) (j : Int) = rd p ((64 * i + j : Nat) : Int) := fun j hj => by
      unfold rd
      rw [List.getD_eq_getElem?_getD, List.getD_eq_getElem?_getD, List.getElem?_drop, List.getElem?_take]
      simp only [Int.toNat_natCast]
      rw [if_pos (by omega)]
    have hrb : ∀ j : Nat, j < 64 → Byte (rd p ((64 * i + j : Nat) : Int)) := fun j hj => by
      have hlt : 64 * i + j < p.length := by omega
      have : rd p ((64 * i + j : Nat) : Int) = p[64 * i + j] := by
        unfold rd
        rw [show (((64 * i + j : Nat) : Int)).toNat = 64 * i + j by omega]
        simp [hlt]
      rw [this]
      exact hb _ (List.getElem_mem _)
    refine evB (block_ev _ _ (W8_fold p i) hblen (fun j hj => by rw [hbr j hj]; exact hrb j hj)) ?_
    have hws : ws (fun j => rd ((p.take (64 * (i + 1))).drop (64 * i)) (j : Int)) = ws (fun j => rd p ((64 * i + j : Nat) : Int)) := funext (ws_congr fun j hj => hbr j hj)
    have ht : turn (fold p (List.range i)) (fun j => rd ((p.take (64 * (i + 1))).drop (64 * i)) (j : Int)) kk = fold p (List.range (i + 1)) := by
      rw [List.range_succ, fold_snoc]
      unfold turn
      rw [hws]
    rw [ht]
    exact ih (i + 1) (by omega)
theorem lenB_byte (x : Int) : ∀ i, ∀ y ∈ lenB x i, Byte y := by
  intro i
  induction i with
  | zero => simp [lenB]
  | succ i ih => 
    intro y hy
    simp only [lenB, List.mem_cons] at hy
    rcases hy with rfl | hy
    · unfold Byte; omega
    · exact ih y hy
theorem padB_byte (b : List Int) (hb : ∀ x ∈ b, Byte x) : ∀ x ∈ padB b, Byte x := by
  intro x hx
  unfold padB at hx
  rcases List.mem_append.1 hx with h | h
  · rcases List.mem_append.1 h with h | h
    · exact hb x h
    · rcases List.mem_cons.1 h with h | h
      · subst h; unfold Byte; omega
      · rw [(List.mem_replicate.1 h).2]; unfold Byte; omega
  · exact lenB_byte _ _ x h
/-- The digest of a list of bytes. -/
def dig (b : List Int) : ByteArray := text (padB b)
theorem specDigest_ev (b : List Int) (hl : b.length ≤ 100000000000) (hb : ∀ x ∈ b, Byte x) : Ev (fun k => spec_Digest.f k b) (dig b) := by
  unfold spec_Digest.f
  have hm := padB_mod b
  have hn := padB_length b
  refine evB (specPad_ev b hl) ?_
  refine evC rfl ?_
  exact digest_l0 (padB b) ((padB b).length / 64) (by omega) (by omega) (padB_byte b hb) _ 0 (Nat.zero_add _)
theorem implDigest_ev (b : List Int) (hl : b.length ≤ 100000000000) : Ev (fun k => impl_Digest.f k b) (dig b) := by
  unfold impl_Digest.f
  have hm := padB_mod b
  have hn := padB_length b
  refine evB (implPad_ev b hl) ?_
  exact evT ⟨hm, by omega, by omega⟩ (evR rfl)
theorem dig_size (b : List Int) : (dig b).size = 32 := by
  unfold dig text
  have := bytes_length (fold (padB b) (List.range ((padB b).length / 64))) 8
  simp [strOfNums, ByteArray.size, this]
end Go.Proofs.Ytmkhhnfmahdijaa.Z

namespace Go.Proofs.Ytmkhhnfmahdijaa.X
open Go.RowKit Go.Proofs.YtmkhhnfmahdijaaW.PrintWords Go.Proofs.YtmkhhnfmahdijaaW.PrintLast Go.Proofs.YtmkhhnfmahdijaaW.PrintMore
attribute [local go_sem] max2_int min2_int max_two min_two max_three min_three max_four min_four   -- for this text's walks alone
set_option linter.unusedVariables false
set_option linter.unusedSimpArgs false

/-! ### spec_LeafHash: function 69 -/
def spec_LeafHash.f (k : Nat) (a0 : ByteArray) : Option (ByteArray) := (some (([0] : List Int) : List Int)).bind fun y862 => (if y862.length + a0.size < 140737488355328 then ((spec_Digest.f k (y862 ++ bytesOf a0)).bind fun t868 => (some t868)) else (none))
theorem spec_LeafHash.mono : ∀ a0 k, LeO (spec_LeafHash.f k a0) (spec_LeafHash.f (k + 1) a0) := by
  intro a0 k
  unfold spec_LeafHash.f
  repeat' first
      | (with_reducible exact spec_Digest.mono _ _)
      | (with_reducible exact LeO.refl _)
      | (with_reducible exact LeO.none _)
      | (with_reducible refine LeO.ite ?_ ?_)
      | (with_reducible refine LeO.bind ?_ (fun _ => ?_))
      | exact spec_Digest.mono _ _
      | exact LeO.none _
      | refine LeO.ite ?_ ?_
      | refine LeO.bind ?_ (fun _ => ?_)
set_option maxHeartbeats 8000000 in
set_option maxRecDepth 100000 in
theorem spec_LeafHash.calls (k : Nat) (a0 : ByteArray) (r : ByteArray) (w : World) (h : spec_LeafHash.f k a0 = some r) :
    Calls Try.prog 69 #[.string a0] w fun e w' => e = .returned (.string r) ∧ Below w.heap.size w w' := by
  have HB := Aside0.mk (Below.refl w.heap.size w)
  have H : ((some (([0] : List Int) : List Int)).bind fun y862 => (if y862.length + a0.size < 140737488355328 then ((spec_Digest.f k (y862 ++ bytesOf a0)).bind fun t868 => (some t868)) else (none))) = some r := h
  clear h
  obtain ⟨y862, hy862⟩ : ∃ y_ : List Int, y_ = (([0] : List Int)) := ⟨_, rfl⟩
  replace H : (if y862.length + a0.size < 140737488355328 then ((spec_Digest.f k (y862 ++ bytesOf a0)).bind fun t868 => (some t868)) else (none)) = some r := by first | (rw [hy862]; with_reducible exact H) | (have H2_ := (Option.bind_some _ _).symm.trans H; rw [hy862]; with_reducible exact H2_) | (have H2_ := (Option.bind_some _ _).symm.trans H; with_reducible exact H2_) | with_reducible exact H | (rw [hy862]; exact H) | exact H
  have Ny862 := Aside0.mk hy862
  clear hy862
  by_cases c2 : y862.length + a0.size < 140737488355328
  · rw [if_pos c2] at H
    have LMc2 := Aside0.mk c2
    clear c2
    obtain ⟨y865, hy865⟩ : ∃ y_ : List Int, y_ = (y862 ++ bytesOf a0) := ⟨_, rfl⟩
    replace H : ((spec_Digest.f k y865).bind fun t868 => (some t868)) = some r := by first | (rw [hy865]; with_reducible exact H) | (have H2_ := (Option.bind_some _ _).symm.trans H; rw [hy865]; with_reducible exact H2_) | (have H2_ := (Option.bind_some _ _).symm.trans H; with_reducible exact H2_) | with_reducible exact H | (rw [hy865]; exact H) | exact H
    have Ny865 := Aside0.mk hy865
    clear hy865
    replace H := Option.bind_eq_some_iff.mp H
    obtain ⟨t868, A30, H⟩ := H
    replace H : (some t868) = some r := H
    have A3 := Aside0.mk A30
    clear A30
    obtain rfl := Option.some.inj H
    go_enter Try.func69, Try.ntmps69
    go_wp2_with (first | ((with_reducible refine gate_dst (N := 3) rfl ?_); refine Kd.R_lit (Kd.int .u8) _ 5 ?hg (N := 3) ?hd (xs := ([0] : List Int)) (inner := [.int .u8 0]) (ok := fun _ => True) (okp := fun _ => True) ?hr ?hp (fun _ hk => hk) trivial (Below.refl _ _) (Nat.le_refl _) (by simp) ?_; (case hd => rfl); (case hg => rfl); (case hr => first | (go_simp; done) | (go_simp; rfl)); (case hp => exact (Reps.one (show Kd.M (Kd.int .u8) _ _ _ 0 [.int .u8 0] from rfl) (Reps.none _ _))); intro v863 w4 ho5 hb hg_ hnew_; clear hg_ hnew_; (first | rw [← Ny862.out] at ho5 | (simp only [Int.reduceToNat] at ho5; rw [← Ny862.out] at ho5)); have n0_ := Aside0.mk (Kd.R_lower ho5 (below_size (by repeat (first | (with_reducible first | exact HB.out | apply below_alloc | apply pw_below_drewN | apply below_drew1) | exact HB.out)))); have n1_ := Aside0.mk (below_step (by repeat (first | (with_reducible first | exact HB.out | apply below_alloc | apply pw_below_drewN | apply below_drew1) | exact HB.out)) hb); clear HB; have HO864 := n0_; have HB := n1_; clear n0_ n1_; clear hb ho5) | (at_builtin; refine Y.R_append_str (w0 := w) w.heap.size rfl (.tmp 3) _ 27 9 5 rfl Try.underlying27 Try.underlying9 info5 v863 y862 a0 (fun _ => True) rfl rfl ?aF ?aO ?aB ?aS ?aL ?_; (case aB => exact (by repeat (first | (with_reducible first | exact HB.out | apply below_alloc | apply pw_below_drewN | apply below_drew1) | exact HB.out))); (case aF => exact (fun _ _ => trivial)); (case aO => exact (by (with_reducible repeat (first | apply Kd.R_alloc | apply Kd.R_drewN | apply Kd.R_drew)); exact HO864.out)); (case aS => exact (below_size (by repeat (first | (with_reducible first | exact HB.out | apply below_alloc | apply pw_below_drewN | apply below_drew1) | exact HB.out)))); (case aL => have := LMc2.out; omega); intro v866 w6 ho hb hg hat; rw [← Ny865.out] at ho; have n0_ := Aside0.mk (hb); have n1_ := Aside0.mk (ho); clear HB; clear HO864; have HB := n0_; have HO867 := n1_; clear n0_ n1_; clear ho hb hg hat; obtain ⟨Ao7, co7, eo7⟩ := Kd.R_slice HO867.out; subst eo7) | ((with_reducible refine gate_callee (f := 71) rfl ?_); refine goesL_ (some 6) rfl rfl Try.func71 (by kernel_rfl) rfl #[.slice Ao7 y865.length co7] rfl (by (try simp only [List.map_toArray, List.map_cons, List.map_nil]); first | done | rfl | (simp only [List.length_drop, List.length_take]; rfl)) ?_; (with_reducible refine (spec_Digest.calls k _ _ y865 t868 _ ?side1 ?side2 A3.out).mono ?_); (case side1 => repeat (first | exact (Kd.R_reads' HO867.out).2.2 | (with_reducible refine Kd.C_alloc ?_ _) | (with_reducible refine Kd.C_drewN ?_ _) | (with_reducible refine Kd.C_drew ?_))); (case side2 => exact (Kd.R_reads' HO867.out).2.1); rintro e w8 ⟨rfl, hb⟩; refine ⟨_, rfl, ?_⟩; have n0_ := Aside0.mk (Kd.R_below (by (with_reducible repeat (first | apply Kd.R_alloc | apply Kd.R_drewN | apply Kd.R_drew)); exact HO867.out) hb); have n1_ := Aside0.mk (below_step (by repeat (first | (with_reducible first | exact HB.out | apply below_alloc | apply pw_below_drewN | apply below_drew1) | exact HB.out)) hb); clear HO867; clear HB; have HO867 := n0_; have HB := n1_; clear n0_ n1_; (try clear hb); (try clear hb2); (try clear hk); (try clear hi)))
    go_ret
    exact ⟨by first | rfl | (simp [errW_none, errW_some] <;> rfl) | (simp [*, errW_none, errW_some] <;> rfl), by repeat (first | (with_reducible first | exact HB.out | apply below_alloc | apply pw_below_drewN | apply below_drew1) | exact HB.out)⟩
  · rw [if_neg c2] at H
    exact absurd H (by simp)

end Go.Proofs.Ytmkhhnfmahdijaa.X
