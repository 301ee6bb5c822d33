/- The law FnPaths, as a plain statement: each of drawn texts has a path that is right, as one of so many; with one part more it is not. Conditions: those of the row's reading alone. -/
/- Part 6 of 8 of this claim's texts. -/
import Derived.Test.YtmkhhnfmahdijaaWWords
import Derived.Test.YtmkhhnfmahdijaaWMore
import Derived.Laws.BitsLemmas
import Derived.Deep.Slices
import Derived.ChangeArms
import Derived.WideShapes
import Derived.DataReads
import Derived.Test.YtmkhhnfmahdijaaCBase0
import Derived.Test.YtmkhhnfmahdijaaCBase2
import Derived.Test.YtmkhhnfmahdijaaCFnPaths3
import Derived.Test.YtmkhhnfmahdijaaCFnPaths4
namespace Go.Proofs.Ytmkhhnfmahdijaa.X
open Go.RowKit Go.Proofs.YtmkhhnfmahdijaaW.PrintWords Go.Proofs.YtmkhhnfmahdijaaW.PrintLast Go.Proofs.YtmkhhnfmahdijaaW.PrintMore
attribute [local go_sem] max2_int min2_int max_two min_two max_three min_three max_four min_four   -- for this text's walks alone
set_option linter.unusedVariables false
set_option linter.unusedSimpArgs false

/-! ### laws_FnPaths: function 20 -/
def laws_FnPaths.f (k : Nat) (l0 : List Int) : Option (Bool) := (laws_big.f l0).bind fun t926 => (if t926 = true then (some true) else ((spec_DrawLeaves.f k l0).bind fun bt927 => ((impl_InPath.f k bt927.1 bt927.2).bind fun t931 => ((impl_RootOf.f k bt927.1).bind fun t934 => ((some (([] : List ByteArray) : List ByteArray)).bind fun y935 => (if y935.length + t931.length < 8796093022208 then ((some (y935 ++ t931 : List ByteArray)).bind fun y938 => (if y938.length < 8796093022208 then (if 0 ≤ bt927.2 then (if bt927.2 < (bt927.1.length : Int) then ((impl_CheckIn.f k (rdOf ByteArray.empty bt927.1 bt927.2) bt927.2 (bt927.1.length : Int) t931 t934).bind fun t945 => (if t945 = true then ((impl_CheckIn.f k (rdOf ByteArray.empty bt927.1 bt927.2) bt927.2 (bt927.1.length : Int) (y938 ++ [t934]) t934).bind fun t947 => (if t947 = true then (some false) else ((impl_CheckIn.f k (rdOf ByteArray.empty bt927.1 bt927.2) (bt927.1.length : Int) (bt927.1.length : Int) t931 t934).bind fun t949 => (if t949 = true then (some false) else (some ((t934.size : Int) == 32)))))) else (some false))) else (none)) else (none)) else (none))) else (none)))))))
theorem laws_FnPaths.mono : ∀ a0 k, LeO (laws_FnPaths.f k a0) (laws_FnPaths.f (k + 1) a0) := by
  intro a0 k
  unfold laws_FnPaths.f
  repeat' first
      | (with_reducible exact impl_CheckIn.mono _ _ _ _ _ _)
      | (with_reducible exact impl_InPath.mono _ _ _)
      | (with_reducible exact impl_RootOf.mono _ _)
      | (with_reducible exact spec_DrawLeaves.mono _ _)
      | (with_reducible exact LeO.refl _)
      | (with_reducible exact LeO.none _)
      | (with_reducible refine LeO.ite ?_ ?_)
      | (with_reducible refine LeO.bind ?_ (fun _ => ?_))
      | exact impl_CheckIn.mono _ _ _ _ _ _
      | exact impl_InPath.mono _ _ _
      | exact impl_RootOf.mono _ _
      | exact spec_DrawLeaves.mono _ _
      | exact LeO.none _
      | refine LeO.ite ?_ ?_
      | refine LeO.bind ?_ (fun _ => ?_)
set_option maxHeartbeats 8000000 in
set_option maxRecDepth 100000 in
theorem laws_FnPaths.calls (k : Nat) (A0 : Option Addr) (c0 : Nat) (l0 : List Int) (r : Bool) (w : World) (hr0 : Kd.C (Kd.int .u8) w A0 l0.length l0) (hc0 : l0.length ≤ c0) (h : laws_FnPaths.f k l0 = some r) :
    Calls Try.prog 20 #[.slice A0 l0.length c0] w fun e w' => e = .returned (.bool r) ∧ Below w.heap.size w w' := by
  have HR0 := Aside0.mk hr0
  have HC0 := Aside0.mk hc0
  clear hr0 hc0
  have HB := Aside0.mk (Below.refl w.heap.size w)
  have H : ((laws_big.f l0).bind fun t926 => (if t926 = true then (some true) else ((spec_DrawLeaves.f k l0).bind fun bt927 => ((impl_InPath.f k bt927.1 bt927.2).bind fun t931 => ((impl_RootOf.f k bt927.1).bind fun t934 => ((some (([] : List ByteArray) : List ByteArray)).bind fun y935 => (if y935.length + t931.length < 8796093022208 then ((some (y935 ++ t931 : List ByteArray)).bind fun y938 => (if y938.length < 8796093022208 then (if 0 ≤ bt927.2 then (if bt927.2 < (bt927.1.length : Int) then ((impl_CheckIn.f k (rdOf ByteArray.empty bt927.1 bt927.2) bt927.2 (bt927.1.length : Int) t931 t934).bind fun t945 => (if t945 = true then ((impl_CheckIn.f k (rdOf ByteArray.empty bt927.1 bt927.2) bt927.2 (bt927.1.length : Int) (y938 ++ [t934]) t934).bind fun t947 => (if t947 = true then (some false) else ((impl_CheckIn.f k (rdOf ByteArray.empty bt927.1 bt927.2) (bt927.1.length : Int) (bt927.1.length : Int) t931 t934).bind fun t949 => (if t949 = true then (some false) else (some ((t934.size : Int) == 32)))))) else (some false))) else (none)) else (none)) else (none))) else (none)))))))) = some r := h
  clear h
  replace H := Option.bind_eq_some_iff.mp H
  obtain ⟨t926, A20, H⟩ := H
  replace H : (if t926 = true then (some true) else ((spec_DrawLeaves.f k l0).bind fun bt927 => ((impl_InPath.f k bt927.1 bt927.2).bind fun t931 => ((impl_RootOf.f k bt927.1).bind fun t934 => ((some (([] : List ByteArray) : List ByteArray)).bind fun y935 => (if y935.length + t931.length < 8796093022208 then ((some (y935 ++ t931 : List ByteArray)).bind fun y938 => (if y938.length < 8796093022208 then (if 0 ≤ bt927.2 then (if bt927.2 < (bt927.1.length : Int) then ((impl_CheckIn.f k (rdOf ByteArray.empty bt927.1 bt927.2) bt927.2 (bt927.1.length : Int) t931 t934).bind fun t945 => (if t945 = true then ((impl_CheckIn.f k (rdOf ByteArray.empty bt927.1 bt927.2) bt927.2 (bt927.1.length : Int) (y938 ++ [t934]) t934).bind fun t947 => (if t947 = true then (some false) else ((impl_CheckIn.f k (rdOf ByteArray.empty bt927.1 bt927.2) (bt927.1.length : Int) (bt927.1.length : Int) t931 t934).bind fun t949 => (if t949 = true then (some false) else (some ((t934.size : Int) == 32)))))) else (some false))) else (none)) else (none)) else (none))) else (none))))))) = some r := H
  have A2 := Aside0.mk A20
  clear A20
  by_cases c3 : t926 = true
  · subst c3
    have H1 : (some true) = some r := by rw [if_pos rfl] at H; exact H
    clear H
    have H := H1
    clear H1
    obtain rfl := Option.some.inj H
    go_enter Try.func20, Try.ntmps20
    go_wp2_with (first | ((with_reducible refine gate_callee (f := 46) rfl ?_); refine goesL_ (some 9) rfl rfl Try.func46 (by kernel_rfl) rfl #[.slice A0 l0.length c0] rfl (by (try simp only [List.map_toArray, List.map_cons, List.map_nil]); first | done | rfl | (simp only [List.length_drop, List.length_take]; rfl)) ?_; (with_reducible refine (laws_big.calls _ _ l0 true _ ?side1 ?side2 A2.out).mono ?_); (case side1 => repeat (first | exact HR0.out | (with_reducible refine Kd.C_alloc ?_ _) | (with_reducible refine Kd.C_drewN ?_ _) | (with_reducible refine Kd.C_drew ?_))); (case side2 => exact HC0.out); rintro e w' ⟨rfl, ⟨nd, rfl⟩⟩; refine ⟨_, rfl, ?_⟩))
    go_ret
    exact ⟨by first | rfl | (simp [errW_none, errW_some] <;> rfl) | (simp [*, errW_none, errW_some] <;> rfl), by repeat (first | (with_reducible first | exact HB.out | apply below_alloc | apply pw_below_drewN | apply below_drew1) | exact HB.out)⟩
  · replace c3 := Bool.eq_false_iff.mpr c3
    subst c3
    have H1 : ((spec_DrawLeaves.f k l0).bind fun bt927 => ((impl_InPath.f k bt927.1 bt927.2).bind fun t931 => ((impl_RootOf.f k bt927.1).bind fun t934 => ((some (([] : List ByteArray) : List ByteArray)).bind fun y935 => (if y935.length + t931.length < 8796093022208 then ((some (y935 ++ t931 : List ByteArray)).bind fun y938 => (if y938.length < 8796093022208 then (if 0 ≤ bt927.2 then (if bt927.2 < (bt927.1.length : Int) then ((impl_CheckIn.f k (rdOf ByteArray.empty bt927.1 bt927.2) bt927.2 (bt927.1.length : Int) t931 t934).bind fun t945 => (if t945 = true then ((impl_CheckIn.f k (rdOf ByteArray.empty bt927.1 bt927.2) bt927.2 (bt927.1.length : Int) (y938 ++ [t934]) t934).bind fun t947 => (if t947 = true then (some false) else ((impl_CheckIn.f k (rdOf ByteArray.empty bt927.1 bt927.2) (bt927.1.length : Int) (bt927.1.length : Int) t931 t934).bind fun t949 => (if t949 = true then (some false) else (some ((t934.size : Int) == 32)))))) else (some false))) else (none)) else (none)) else (none))) else (none)))))) = some r := by rw [if_neg (show ¬ (false = true) by decide)] at H; exact H
    clear H
    have H := H1
    clear H1
    replace H := Option.bind_eq_some_iff.mp H
    obtain ⟨⟨t927, t928⟩, A40, H⟩ := H
    replace H : ((impl_InPath.f k t927 t928).bind fun t931 => ((impl_RootOf.f k t927).bind fun t934 => ((some (([] : List ByteArray) : List ByteArray)).bind fun y935 => (if y935.length + t931.length < 8796093022208 then ((some (y935 ++ t931 : List ByteArray)).bind fun y938 => (if y938.length < 8796093022208 then (if 0 ≤ t928 then (if t928 < (t927.length : Int) then ((impl_CheckIn.f k (rdOf ByteArray.empty t927 t928) t928 (t927.length : Int) t931 t934).bind fun t945 => (if t945 = true then ((impl_CheckIn.f k (rdOf ByteArray.empty t927 t928) t928 (t927.length : Int) (y938 ++ [t934]) t934).bind fun t947 => (if t947 = true then (some false) else ((impl_CheckIn.f k (rdOf ByteArray.empty t927 t928) (t927.length : Int) (t927.length : Int) t931 t934).bind fun t949 => (if t949 = true then (some false) else (some ((t934.size : Int) == 32)))))) else (some false))) else (none)) else (none)) else (none))) else (none))))) = some r := H
    have A4 := Aside0.mk A40
    clear A40
    replace H := Option.bind_eq_some_iff.mp H
    obtain ⟨t931, A50, H⟩ := H
    replace H : ((impl_RootOf.f k t927).bind fun t934 => ((some (([] : List ByteArray) : List ByteArray)).bind fun y935 => (if y935.length + t931.length < 8796093022208 then ((some (y935 ++ t931 : List ByteArray)).bind fun y938 => (if y938.length < 8796093022208 then (if 0 ≤ t928 then (if t928 < (t927.length : Int) then ((impl_CheckIn.f k (rdOf ByteArray.empty t927 t928) t928 (t927.length : Int) t931 t934).bind fun t945 => (if t945 = true then ((impl_CheckIn.f k (rdOf ByteArray.empty t927 t928) t928 (t927.length : Int) (y938 ++ [t934]) t934).bind fun t947 => (if t947 = true then (some false) else ((impl_CheckIn.f k (rdOf ByteArray.empty t927 t928) (t927.length : Int) (t927.length : Int) t931 t934).bind fun t949 => (if t949 = true then (some false) else (some ((t934.size : Int) == 32)))))) else (some false))) else (none)) else (none)) else (none))) else (none)))) = some r := H
    have A5 := Aside0.mk A50
    clear A50
    replace H := Option.bind_eq_some_iff.mp H
    obtain ⟨t934, A60, H⟩ := H
    replace H : ((some (([] : List ByteArray) : List ByteArray)).bind fun y935 => (if y935.length + t931.length < 8796093022208 then ((some (y935 ++ t931 : List ByteArray)).bind fun y938 => (if y938.length < 8796093022208 then (if 0 ≤ t928 then (if t928 < (t927.length : Int) then ((impl_CheckIn.f k (rdOf ByteArray.empty t927 t928) t928 (t927.length : Int) t931 t934).bind fun t945 => (if t945 = true then ((impl_CheckIn.f k (rdOf ByteArray.empty t927 t928) t928 (t927.length : Int) (y938 ++ [t934]) t934).bind fun t947 => (if t947 = true then (some false) else ((impl_CheckIn.f k (rdOf ByteArray.empty t927 t928) (t927.length : Int) (t927.length : Int) t931 t934).bind fun t949 => (if t949 = true then (some false) else (some ((t934.size : Int) == 32)))))) else (some false))) else (none)) else (none)) else (none))) else (none))) = some r := H
    have A6 := Aside0.mk A60
    clear A60
    obtain ⟨y935, hy935⟩ : ∃ y_ : List ByteArray, y_ = (([] : List ByteArray)) := ⟨_, rfl⟩
    replace H : (if y935.length + t931.length < 8796093022208 then ((some (y935 ++ t931 : List ByteArray)).bind fun y938 => (if y938.length < 8796093022208 then (if 0 ≤ t928 then (if t928 < (t927.length : Int) then ((impl_CheckIn.f k (rdOf ByteArray.empty t927 t928) t928 (t927.length : Int) t931 t934).bind fun t945 => (if t945 = true then ((impl_CheckIn.f k (rdOf ByteArray.empty t927 t928) t928 (t927.length : Int) (y938 ++ [t934]) t934).bind fun t947 => (if t947 = true then (some false) else ((impl_CheckIn.f k (rdOf ByteArray.empty t927 t928) (t927.length : Int) (t927.length : Int) t931 t934).bind fun t949 => (if t949 = true then (some false) else (some ((t934.size : Int) == 32)))))) else (some false))) else (none)) else (none)) else (none))) else (none)) = some r := by first | (rw [hy935]; with_reducible exact H) | (have H2_ := (Option.bind_some _ _).symm.trans H; rw [hy935]; with_reducible exact H2_) | (have H2_ := (Option.bind_some _ _).symm.trans H; with_reducible exact H2_) | with_reducible exact H | (rw [hy935]; exact H) | exact H
    have Ny935 := Aside0.mk hy935
    clear hy935
    by_cases c7 : y935.length + t931.length < 8796093022208
    · rw [if_pos c7] at H
      have LMc7 := Aside0.mk c7
      clear c7
      obtain ⟨y938, hy938⟩ : ∃ y_ : List ByteArray, y_ = (y935 ++ t931) := ⟨_, rfl⟩
      replace H : (if y938.length < 8796093022208 then (if 0 ≤ t928 then (if t928 < (t927.length : Int) then ((impl_CheckIn.f k (rdOf ByteArray.empty t927 t928) t928 (t927.length : Int) t931 t934).bind fun t945 => (if t945 = true then ((impl_CheckIn.f k (rdOf ByteArray.empty t927 t928) t928 (t927.length : Int) (y938 ++ [t934]) t934).bind fun t947 => (if t947 = true then (some false) else ((impl_CheckIn.f k (rdOf ByteArray.empty t927 t928) (t927.length : Int) (t927.length : Int) t931 t934).bind fun t949 => (if t949 = true then (some false) else (some ((t934.size : Int) == 32)))))) else (some false))) else (none)) else (none)) else (none)) = some r := by first | (rw [hy938]; with_reducible exact H) | (have H2_ := (Option.bind_some _ _).symm.trans H; rw [hy938]; with_reducible exact H2_) | (have H2_ := (Option.bind_some _ _).symm.trans H; with_reducible exact H2_) | with_reducible exact H | (rw [hy938]; exact H) | exact H
      have Ny938 := Aside0.mk hy938
      clear hy938
      by_cases c8 : y938.length < 8796093022208
      · rw [if_pos c8] at H
        have LMc8 := Aside0.mk c8
        clear c8
        obtain ⟨y941, hy941⟩ : ∃ y_ : List ByteArray, y_ = (y938 ++ [t934]) := ⟨_, rfl⟩
        replace H : (if 0 ≤ t928 then (if t928 < (t927.length : Int) then ((impl_CheckIn.f k (rdOf ByteArray.empty t927 t928) t928 (t927.length : Int) t931 t934).bind fun t945 => (if t945 = true then ((impl_CheckIn.f k (rdOf ByteArray.empty t927 t928) t928 (t927.length : Int) y941 t934).bind fun t947 => (if t947 = true then (some false) else ((impl_CheckIn.f k (rdOf ByteArray.empty t927 t928) (t927.length : Int) (t927.length : Int) t931 t934).bind fun t949 => (if t949 = true then (some false) else (some ((t934.size : Int) == 32)))))) else (some false))) else (none)) else (none)) = some r := by first | (rw [hy941]; with_reducible exact H) | (have H2_ := (Option.bind_some _ _).symm.trans H; rw [hy941]; with_reducible exact H2_) | (have H2_ := (Option.bind_some _ _).symm.trans H; with_reducible exact H2_) | with_reducible exact H | (rw [hy941]; exact H) | exact H
        have Ny941 := Aside0.mk hy941
        clear hy941
        by_cases c9 : 0 ≤ t928
        · rw [if_pos c9] at H
          have c9b0 : decide (0 ≤ t928) = true := decide_eq_true c9
          clear c9
          by_cases c10 : t928 < (t927.length : Int)
          · rw [if_pos c10] at H
            have c10b0 : decide (t928 < (t927.length : Int)) = true := decide_eq_true c10
            clear c10
            replace H := Option.bind_eq_some_iff.mp H
            obtain ⟨t945, A110, H⟩ := H
            replace H : (if t945 = true then ((impl_CheckIn.f k (rdOf ByteArray.empty t927 t928) t928 (t927.length : Int) y941 t934).bind fun t947 => (if t947 = true then (some false) else ((impl_CheckIn.f k (rdOf ByteArray.empty t927 t928) (t927.length : Int) (t927.length : Int) t931 t934).bind fun t949 => (if t949 = true then (some false) else (some ((t934.size : Int) == 32)))))) else (some false)) = some r := H
            have A11 := Aside0.mk A110
            clear A110
            by_cases c12 : t945 = true
            · subst c12
              have H1 : ((impl_CheckIn.f k (rdOf ByteArray.empty t927 t928) t928 (t927.length : Int) y941 t934).bind fun t947 => (if t947 = true then (some false) else ((impl_CheckIn.f k (rdOf ByteArray.empty t927 t928) (t927.length : Int) (t927.length : Int) t931 t934).bind fun t949 => (if t949 = true then (some false) else (some ((t934.size : Int) == 32)))))) = some r := by rw [if_pos rfl] at H; exact H
              clear H
              have H := H1
              clear H1
              replace H := Option.bind_eq_some_iff.mp H
              obtain ⟨t947, A130, H⟩ := H
              replace H : (if t947 = true then (some false) else ((impl_CheckIn.f k (rdOf ByteArray.empty t927 t928) (t927.length : Int) (t927.length : Int) t931 t934).bind fun t949 => (if t949 = true then (some false) else (some ((t934.size : Int) == 32))))) = some r := H
              have A13 := Aside0.mk A130
              clear A130
              by_cases c14 : t947 = true
              · subst c14
                have H1 : (some false) = some r := by rw [if_pos rfl] at H; exact H
                clear H
                have H := H1
                clear H1
                obtain rfl := Option.some.inj H
                go_enter Try.func20, Try.ntmps20
                go_wp2_with (first | ((with_reducible refine gate_callee (f := 46) rfl ?_); refine goesL_ (some 9) rfl rfl Try.func46 (by kernel_rfl) rfl #[.slice A0 l0.length c0] rfl (by (try simp only [List.map_toArray, List.map_cons, List.map_nil]); first | done | rfl | (simp only [List.length_drop, List.length_take]; rfl)) ?_; (with_reducible refine (laws_big.calls _ _ l0 false _ ?side1 ?side2 A2.out).mono ?_); (case side1 => repeat (first | exact HR0.out | (with_reducible refine Kd.C_alloc ?_ _) | (with_reducible refine Kd.C_drewN ?_ _) | (with_reducible refine Kd.C_drew ?_))); (case side2 => exact HC0.out); rintro e w' ⟨rfl, ⟨nd, rfl⟩⟩; refine ⟨_, rfl, ?_⟩) | ((with_reducible refine gate_callee (f := 65) rfl ?_); refine goesL_ (some 12) rfl rfl Try.func65 (by kernel_rfl) rfl #[.slice A0 l0.length c0] rfl (by (try simp only [List.map_toArray, List.map_cons, List.map_nil]); first | done | rfl | (simp only [List.length_drop, List.length_take]; rfl)) ?_; (with_reducible refine (spec_DrawLeaves.calls k _ _ l0 t927 t928 _ ?side1 ?side2 A4.out).mono ?_); (case side1 => repeat (first | exact HR0.out | (with_reducible refine Kd.C_alloc ?_ _) | (with_reducible refine Kd.C_drewN ?_ _) | (with_reducible refine Kd.C_drew ?_))); (case side2 => exact HC0.out); rintro e w15 ⟨v929, rfl, ho0, hb⟩; refine ⟨_, rfl, ?_⟩; have n0_ := Aside0.mk (Kd.R_lower ho0 (below_size (by repeat (first | (with_reducible first | exact HB.out | apply below_alloc | apply pw_below_drewN | apply below_drew1) | exact HB.out)))); have n1_ := Aside0.mk (below_step (by repeat (first | (with_reducible first | exact HB.out | apply below_alloc | apply pw_below_drewN | apply below_drew1) | exact HB.out)) hb); clear HB; have HO930 := n0_; have HB := n1_; clear n0_ n1_; (try clear hb); (try clear hb2); (try clear hk); (try clear hi); (try clear ho0); obtain ⟨Ao16, co16, eo16⟩ := Kd.R_slice HO930.out; subst eo16) | ((with_reducible refine gate_callee (f := 73) rfl ?_); refine goesL_ (some 17) rfl rfl Try.func73 (by kernel_rfl) rfl #[.slice Ao16 t927.length co16, .int .i64 t928] rfl (by (try simp only [List.map_toArray, List.map_cons, List.map_nil]); first | done | rfl | (simp only [List.length_drop, List.length_take]; rfl)) ?_; (with_reducible refine (impl_InPath.calls k _ _ t927 t928 t931 _ ?side1 ?side2 A5.out).mono ?_); (case side1 => repeat (first | exact (Kd.R_reads' HO930.out).2.2 | (with_reducible refine Kd.C_alloc ?_ _) | (with_reducible refine Kd.C_drewN ?_ _) | (with_reducible refine Kd.C_drew ?_))); (case side2 => exact (Kd.R_reads' HO930.out).2.1); rintro e w17 ⟨v932, rfl, ho0, hb⟩; refine ⟨_, rfl, ?_⟩; have n0_ := Aside0.mk (Kd.R_elder' (by (with_reducible repeat (first | apply Kd.R_alloc | apply Kd.R_drewN | apply Kd.R_drew)); exact HO930.out) (Kd.R_base ho0) hb); have n1_ := Aside0.mk (Kd.R_lower (Kd.R_new' ho0 (Kd.R_lt (by (with_reducible repeat (first | apply Kd.R_alloc | apply Kd.R_drewN | apply Kd.R_drew)); exact HO930.out))) (below_size (by repeat (first | (with_reducible first | exact HB.out | apply below_alloc | apply pw_below_drewN | apply below_drew1) | exact HB.out)))); have n2_ := Aside0.mk (below_step (by repeat (first | (with_reducible first | exact HB.out | apply below_alloc | apply pw_below_drewN | apply below_drew1) | exact HB.out)) hb); clear HO930; clear HB; have HO930 := n0_; have HO933 := n1_; have HB := n2_; clear n0_ n1_ n2_; (try clear hb); (try clear hb2); (try clear hk); (try clear hi); (try clear ho0)) | ((with_reducible refine gate_callee (f := 66) rfl ?_); refine goesL_ (some 19) rfl rfl Try.func66 (by kernel_rfl) rfl #[.slice Ao16 t927.length co16] rfl (by (try simp only [List.map_toArray, List.map_cons, List.map_nil]); first | done | rfl | (simp only [List.length_drop, List.length_take]; rfl)) ?_; (with_reducible refine (impl_RootOf.calls k _ _ t927 t934 _ ?side1 ?side2 A6.out).mono ?_); (case side1 => repeat (first | exact (Kd.R_reads' HO930.out).2.2 | (with_reducible refine Kd.C_alloc ?_ _) | (with_reducible refine Kd.C_drewN ?_ _) | (with_reducible refine Kd.C_drew ?_))); (case side2 => exact (Kd.R_reads' HO930.out).2.1); rintro e w18 ⟨rfl, hb⟩; refine ⟨_, rfl, ?_⟩; have n0_ := Aside0.mk (Kd.R_below (by (with_reducible repeat (first | apply Kd.R_alloc | apply Kd.R_drewN | apply Kd.R_drew)); exact HO930.out) hb); have n1_ := Aside0.mk (Kd.R_below (by (with_reducible repeat (first | apply Kd.R_alloc | apply Kd.R_drewN | apply Kd.R_drew)); exact HO933.out) hb); have n2_ := Aside0.mk (below_step (by repeat (first | (with_reducible first | exact HB.out | apply below_alloc | apply pw_below_drewN | apply below_drew1) | exact HB.out)) hb); clear HO930; clear HO933; clear HB; have HO930 := n0_; have HO933 := n1_; have HB := n2_; clear n0_ n1_ n2_; (try clear hb); (try clear hb2); (try clear hk); (try clear hi)) | ((with_reducible refine gate_dst (N := 20) rfl ?_); (try (refine gate_guard (by rfl) ?_; dsimp only)); refine Kd.R_lit Kd.string _ 9 ?hg (N := 20) ?hd (xs := ([] : List ByteArray)) (inner := []) (ok := fun _ => True) (okp := fun _ => True) ?hr ?hp (fun _ hk => hk) trivial (Below.refl _ _) (Nat.le_refl _) (by simp) ?_; (case hd => rfl); (case hg => rfl); (case hr => first | (go_simp; done) | (go_simp; rfl)); (case hp => exact (Reps.none _ _)); intro v936 w19 ho20 hb hg_ hnew_; clear hg_ hnew_; (first | rw [← Ny935.out] at ho20 | (simp only [Int.reduceToNat] at ho20; rw [← Ny935.out] at ho20)); have n0_ := Aside0.mk (Kd.R_elder' (by (with_reducible repeat (first | apply Kd.R_alloc | apply Kd.R_drewN | apply Kd.R_drew)); exact HO930.out) (Kd.R_base ho20) hb); have n1_ := Aside0.mk (Kd.R_elder' (by (with_reducible repeat (first | apply Kd.R_alloc | apply Kd.R_drewN | apply Kd.R_drew)); exact HO933.out) (Kd.R_base ho20) hb); have n2_ := Aside0.mk (Kd.R_lower (Kd.R_new' (Kd.R_new' ho20 (Kd.R_lt (by (with_reducible repeat (first | apply Kd.R_alloc | apply Kd.R_drewN | apply Kd.R_drew)); exact HO930.out))) (Kd.R_lt (by (with_reducible repeat (first | apply Kd.R_alloc | apply Kd.R_drewN | apply Kd.R_drew)); exact HO933.out))) (below_size (by repeat (first | (with_reducible first | exact HB.out | apply below_alloc | apply pw_below_drewN | apply below_drew1) | exact HB.out)))); have n3_ := Aside0.mk (below_step (by repeat (first | (with_reducible first | exact HB.out | apply below_alloc | apply pw_below_drewN | apply below_drew1) | exact HB.out)) hb); clear HO930; clear HO933; clear HB; have HO930 := n0_; have HO933 := n1_; have HO937 := n2_; have HB := n3_; clear n0_ n1_ n2_ n3_; clear hb ho20; obtain ⟨Ao22, co22, eo22⟩ := Kd.R_slice HO933.out; subst eo22) | ((with_reducible refine gate_builtin (b := .append) (xs := #[.tmp 20, .tmp 21]) rfl ?_); (try (refine gate_guard (by rfl) ?_; dsimp only)); at_builtin; refine Kd.R_append_rows Kd.string (w0 := w) w.heap.size rfl (.tmp 20) (.tmp 21) 44 9 (.string ⟨#[]⟩) 16 rfl Try.underlying44 info9 rfl (by decide) (by omega) v936 y935 t931 _ _ _ (fun k_ => some k_ ≠ (.slice Ao16 t927.length co16 : Value).ownBlock ∧ some k_ ≠ (.slice Ao22 t931.length co22 : Value).ownBlock) (fun _ => False) rfl rfl ?aO ?aR (fun _ _ h => h) (fun _ h => h.elim) ?aF ?aB ?aS ?aL ?_; (case aR => repeat (first | exact (Kd.R_reads' HO933.out).2.2 | (with_reducible refine Kd.C_alloc ?_ _) | (with_reducible refine Kd.C_drewN ?_ _) | (with_reducible refine Kd.C_drew ?_))); (case aB => exact (by repeat (first | (with_reducible first | exact HB.out | apply below_alloc | apply pw_below_drewN | apply below_drew1) | exact HB.out))); (case aF => exact (fun k_ hk => ⟨Kd.fresh' (Kd.R_lt (by (with_reducible repeat (first | apply Kd.R_alloc | apply Kd.R_drewN | apply Kd.R_drew)); exact HO930.out)) k_ hk, Kd.fresh' (Kd.R_lt (by (with_reducible repeat (first | apply Kd.R_alloc | apply Kd.R_drewN | apply Kd.R_drew)); exact HO933.out)) k_ hk⟩)); (case aO => exact (by (with_reducible repeat (first | apply Kd.R_alloc | apply Kd.R_drewN | apply Kd.R_drew)); exact Kd.R_mono HO937.out (fun _ hk => ⟨hk.1.2, hk.2⟩))); (case aS => exact (below_size (by repeat (first | (with_reducible first | exact HB.out | apply below_alloc | apply pw_below_drewN | apply below_drew1) | exact HB.out)))); (case aL => have := LMc7.out; omega); intro v939 w21 ho hb hg hat; rw [← Ny938.out] at ho; have n0_ := Aside0.mk (Kd.R_after (ok := (fun k_ => some k_ ≠ (.slice Ao22 t931.length co22 : Value).ownBlock)) (by (with_reducible repeat (first | apply Kd.R_alloc | apply Kd.R_drewN | apply Kd.R_drew)); exact Kd.R_mono HO930.out (fun _ hk => ⟨hk.1.2, hk.2⟩)) hg hat); have n1_ := Aside0.mk (Kd.R_after (ok := (fun k_ => some k_ ≠ (.slice Ao16 t927.length co16 : Value).ownBlock)) (by (with_reducible repeat (first | apply Kd.R_alloc | apply Kd.R_drewN | apply Kd.R_drew)); exact Kd.R_mono HO933.out (fun _ hk => ⟨hk.1.2, hk.2⟩)) hg hat); have n2_ := Aside0.mk (hb); have n3_ := Aside0.mk (ho); clear HO930; clear HO933; clear HB; clear HO937; have HO930 := n0_; have HO933 := n1_; have HB := n2_; have HO940 := n3_; clear n0_ n1_ n2_ n3_; clear ho hb hg hat) | ((with_reducible refine gate_builtin (b := .append) (xs := #[.tmp 22, .tmp 24]) rfl ?_); (try (refine gate_guard (by rfl) ?_; dsimp only)); at_builtin; refine Kd.R_append Kd.string (w0 := w) w.heap.size rfl (.tmp 22) (.tmp 24) 44 9 (.string ⟨#[]⟩) 16 rfl Try.underlying44 info9 rfl (by decide) (by omega) v939 y938 t934 [.string t934] (fun k_ => some k_ ≠ (.slice Ao16 t927.length co16 : Value).ownBlock ∧ some k_ ≠ (.slice Ao22 t931.length co22 : Value).ownBlock) (fun _ => False) rfl rfl ?aP (fun _ hk => hk.elim) ?aF ?aO ?aB ?aS ?aL ?_; (case aP => exact rfl); (case aB => exact (by repeat (first | (with_reducible first | exact HB.out | apply below_alloc | apply pw_below_drewN | apply below_drew1) | exact HB.out))); (case aF => exact (fun k_ hk => ⟨Kd.fresh' (Kd.R_lt (by (with_reducible repeat (first | apply Kd.R_alloc | apply Kd.R_drewN | apply Kd.R_drew)); exact HO930.out)) k_ hk, Kd.fresh' (Kd.R_lt (by (with_reducible repeat (first | apply Kd.R_alloc | apply Kd.R_drewN | apply Kd.R_drew)); exact HO933.out)) k_ hk⟩)); (case aO => exact (by (with_reducible repeat (first | apply Kd.R_alloc | apply Kd.R_drewN | apply Kd.R_drew)); exact HO940.out)); (case aS => exact (below_size (by repeat (first | (with_reducible first | exact HB.out | apply below_alloc | apply pw_below_drewN | apply below_drew1) | exact HB.out)))); (case aL => have := LMc8.out; omega); intro v942 w23 ho hb hg hat; rw [← Ny941.out] at ho; have n0_ := Aside0.mk (Kd.R_after (ok := (fun k_ => some k_ ≠ (.slice Ao22 t931.length co22 : Value).ownBlock)) (by (with_reducible repeat (first | apply Kd.R_alloc | apply Kd.R_drewN | apply Kd.R_drew)); exact HO930.out) hg hat); have n1_ := Aside0.mk (Kd.R_after (ok := (fun k_ => some k_ ≠ (.slice Ao16 t927.length co16 : Value).ownBlock)) (by (with_reducible repeat (first | apply Kd.R_alloc | apply Kd.R_drewN | apply Kd.R_drew)); exact HO933.out) hg hat); have n2_ := Aside0.mk (hb); have n3_ := Aside0.mk (ho); clear HO930; clear HO933; clear HB; clear HO940; have HO930 := n0_; have HO933 := n1_; have HB := n2_; have HO943 := n3_; clear n0_ n1_ n2_ n3_; clear ho hb hg hat; have p944 : 0 ≤ (t928 : Int) := of_decide_eq_true (by first | (with_reducible assumption) | assumption); have q944 : t928 < (t927.length : Int) := of_decide_eq_true (by first | (with_reducible assumption) | assumption); obtain ⟨ad944, e944, hx944_0⟩ := Kd.at_string (Kd.R_reads' HO930.out).2.2 t928 p944 q944; cases e944; replace p944 := eq_true p944; replace q944 := eq_true q944) | ((with_reducible refine gate_callee (f := 74) rfl ?_); refine goesL_ (some 35) rfl rfl Try.func74 (by kernel_rfl) rfl #[.string (rdOf ByteArray.empty t927 t928), .int .i64 t928, .int .i64 (t927.length : Int), .slice Ao22 t931.length co22, .string t934] rfl (by (try simp only [List.map_toArray, List.map_cons, List.map_nil]); first | done | rfl | (simp only [List.length_drop, List.length_take]; rfl)) ?_; (with_reducible refine (impl_CheckIn.calls k (rdOf ByteArray.empty t927 t928) t928 (t927.length : Int) _ _ t931 t934 true _ ?side1 ?side2 A11.out).mono ?_); (case side1 => repeat (first | exact (Kd.R_reads' HO933.out).2.2 | (with_reducible refine Kd.C_alloc ?_ _) | (with_reducible refine Kd.C_drewN ?_ _) | (with_reducible refine Kd.C_drew ?_))); (case side2 => exact (Kd.R_reads' HO933.out).2.1); rintro e w24 ⟨rfl, hb⟩; refine ⟨_, rfl, ?_⟩; have n0_ := Aside0.mk (Kd.R_below (by (with_reducible repeat (first | apply Kd.R_alloc | apply Kd.R_drewN | apply Kd.R_drew)); exact HO930.out) hb); have n1_ := Aside0.mk (Kd.R_below (by (with_reducible repeat (first | apply Kd.R_alloc | apply Kd.R_drewN | apply Kd.R_drew)); exact HO933.out) hb); have n2_ := Aside0.mk (Kd.R_below (by (with_reducible repeat (first | apply Kd.R_alloc | apply Kd.R_drewN | apply Kd.R_drew)); exact HO943.out) hb); have n3_ := Aside0.mk (below_step (by repeat (first | (with_reducible first | exact HB.out | apply below_alloc | apply pw_below_drewN | apply below_drew1) | exact HB.out)) hb); clear HO930; clear HO933; clear HO943; clear HB; have HO930 := n0_; have HO933 := n1_; have HO943 := n2_; have HB := n3_; clear n0_ n1_ n2_ n3_; (try clear hb); (try clear hb2); (try clear hk); (try clear hi); have p946 : 0 ≤ (t928 : Int) := of_decide_eq_true (by first | (with_reducible assumption) | assumption); have q946 : t928 < (t927.length : Int) := of_decide_eq_true (by first | (with_reducible assumption) | assumption); obtain ⟨ad946, e946, hx946_0⟩ := Kd.at_string (Kd.R_reads' HO930.out).2.2 t928 p946 q946; obtain rfl : ad944 = ad946 := (by injection e946); replace p946 := eq_true p946; replace q946 := eq_true q946; obtain ⟨Ao25, co25, eo25⟩ := Kd.R_slice HO943.out; subst eo25) | (go_at_call 74; (with_reducible refine (impl_CheckIn.calls k (rdOf ByteArray.empty t927 t928) t928 (t927.length : Int) _ _ y941 t934 true _ ?side1 ?side2 A13.out).mono ?_); (case side1 => repeat (first | exact (Kd.R_reads' HO943.out).2.2 | (with_reducible refine Kd.C_alloc ?_ _) | (with_reducible refine Kd.C_drewN ?_ _) | (with_reducible refine Kd.C_drew ?_))); (case side2 => exact (Kd.R_reads' HO943.out).2.1); rintro e w26 ⟨rfl, hb⟩; have n0_ := Aside0.mk (Kd.R_below (by (with_reducible repeat (first | apply Kd.R_alloc | apply Kd.R_drewN | apply Kd.R_drew)); exact HO930.out) hb); have n1_ := Aside0.mk (Kd.R_below (by (with_reducible repeat (first | apply Kd.R_alloc | apply Kd.R_drewN | apply Kd.R_drew)); exact HO933.out) hb); have n2_ := Aside0.mk (Kd.R_below (by (with_reducible repeat (first | apply Kd.R_alloc | apply Kd.R_drewN | apply Kd.R_drew)); exact HO943.out) hb); have n3_ := Aside0.mk (below_step (by repeat (first | (with_reducible first | exact HB.out | apply below_alloc | apply pw_below_drewN | apply below_drew1) | exact HB.out)) hb); clear HO930; clear HO933; clear HO943; clear HB; have HO930 := n0_; have HO933 := n1_; have HO943 := n2_; have HB := n3_; clear n0_ n1_ n2_ n3_; (try clear hb); (try clear hb2); (try clear hk); (try clear hi)))
                go_ret
                exact ⟨by first | rfl | (simp [errW_none, errW_some] <;> rfl) | (simp [*, errW_none, errW_some] <;> rfl), by repeat (first | (with_reducible first | exact HB.out | apply below_alloc | apply pw_below_drewN | apply below_drew1) | exact HB.out)⟩
              · replace c14 := Bool.eq_false_iff.mpr c14
                subst c14
                have H1 : ((impl_CheckIn.f k (rdOf ByteArray.empty t927 t928) (t927.length : Int) (t927.length : Int) t931 t934).bind fun t949 => (if t949 = true then (some false) else (some ((t934.size : Int) == 32)))) = some r := by rw [if_neg (show ¬ (false = true) by decide)] at H; exact H
                clear H
                have H := H1
                clear H1
                replace H := Option.bind_eq_some_iff.mp H
                obtain ⟨t949, A270, H⟩ := H
                replace H : (if t949 = true then (some false) else (some ((t934.size : Int) == 32))) = some r := H
                have A27 := Aside0.mk A270
                clear A270
                by_cases c28 : t949 = true
                · subst c28
                  have H1 : (some false) = some r := by rw [if_pos rfl] at H; exact H
                  clear H
                  have H := H1
                  clear H1
                  obtain rfl := Option.some.inj H
                  go_enter Try.func20, Try.ntmps20
                  go_wp2_with (first | ((with_reducible refine gate_callee (f := 46) rfl ?_); refine goesL_ (some 9) rfl rfl Try.func46 (by kernel_rfl) rfl #[.slice A0 l0.length c0] rfl (by (try simp only [List.map_toArray, List.map_cons, List.map_nil]); first | done | rfl | (simp only [List.length_drop, List.length_take]; rfl)) ?_; (with_reducible refine (laws_big.calls _ _ l0 false _ ?side1 ?side2 A2.out).mono ?_); (case side1 => repeat (first | exact HR0.out | (with_reducible refine Kd.C_alloc ?_ _) | (with_reducible refine Kd.C_drewN ?_ _) | (with_reducible refine Kd.C_drew ?_))); (case side2 => exact HC0.out); rintro e w' ⟨rfl, ⟨nd, rfl⟩⟩; refine ⟨_, rfl, ?_⟩) | ((with_reducible refine gate_callee (f := 65) rfl ?_); refine goesL_ (some 12) rfl rfl Try.func65 (by kernel_rfl) rfl #[.slice A0 l0.length c0] rfl (by (try simp only [List.map_toArray, List.map_cons, List.map_nil]); first | done | rfl | (simp only [List.length_drop, List.length_take]; rfl)) ?_; (with_reducible refine (spec_DrawLeaves.calls k _ _ l0 t927 t928 _ ?side1 ?side2 A4.out).mono ?_); (case side1 => repeat (first | exact HR0.out | (with_reducible refine Kd.C_alloc ?_ _) | (with_reducible refine Kd.C_drewN ?_ _) | (with_reducible refine Kd.C_drew ?_))); (case side2 => exact HC0.out); rintro e w29 ⟨v929, rfl, ho0, hb⟩; refine ⟨_, rfl, ?_⟩; have n0_ := Aside0.mk (Kd.R_lower ho0 (below_size (by repeat (first | (with_reducible first | exact HB.out | apply below_alloc | apply pw_below_drewN | apply below_drew1) | exact HB.out)))); have n1_ := Aside0.mk (below_step (by repeat (first | (with_reducible first | exact HB.out | apply below_alloc | apply pw_below_drewN | apply below_drew1) | exact HB.out)) hb); clear HB; have HO930 := n0_; have HB := n1_; clear n0_ n1_; (try clear hb); (try clear hb2); (try clear hk); (try clear hi); (try clear ho0); obtain ⟨Ao30, co30, eo30⟩ := Kd.R_slice HO930.out; subst eo30) | ((with_reducible refine gate_callee (f := 73) rfl ?_); refine goesL_ (some 17) rfl rfl Try.func73 (by kernel_rfl) rfl #[.slice Ao30 t927.length co30, .int .i64 t928] rfl (by (try simp only [List.map_toArray, List.map_cons, List.map_nil]); first | done | rfl | (simp only [List.length_drop, List.length_take]; rfl)) ?_; (with_reducible refine (impl_InPath.calls k _ _ t927 t928 t931 _ ?side1 ?side2 A5.out).mono ?_); (case side1 => repeat (first | exact (Kd.R_reads' HO930.out).2.2 | (with_reducible refine Kd.C_alloc ?_ _) | (with_reducible refine Kd.C_drewN ?_ _) | (with_reducible refine Kd.C_drew ?_))); (case side2 => exact (Kd.R_reads' HO930.out).2.1); rintro e w31 ⟨v932, rfl, ho0, hb⟩; refine ⟨_, rfl, ?_⟩; have n0_ := Aside0.mk (Kd.R_elder' (by (with_reducible repeat (first | apply Kd.R_alloc | apply Kd.R_drewN | apply Kd.R_drew)); exact HO930.out) (Kd.R_base ho0) hb); have n1_ := Aside0.mk (Kd.R_lower (Kd.R_new' ho0 (Kd.R_lt (by (with_reducible repeat (first | apply Kd.R_alloc | apply Kd.R_drewN | apply Kd.R_drew)); exact HO930.out))) (below_size (by repeat (first | (with_reducible first | exact HB.out | apply below_alloc | apply pw_below_drewN | apply below_drew1) | exact HB.out)))); have n2_ := Aside0.mk (below_step (by repeat (first | (with_reducible first | exact HB.out | apply below_alloc | apply pw_below_drewN | apply below_drew1) | exact HB.out)) hb); clear HO930; clear HB; have HO930 := n0_; have HO933 := n1_; have HB := n2_; clear n0_ n1_ n2_; (try clear hb); (try clear hb2); (try clear hk); (try clear hi); (try clear ho0)) | ((with_reducible refine gate_callee (f := 66) rfl ?_); refine goesL_ (some 19) rfl rfl Try.func66 (by kernel_rfl) rfl #[.slice Ao30 t927.length co30] rfl (by (try simp only [List.map_toArray, List.map_cons, List.map_nil]); first | done | rfl | (simp only [List.length_drop, List.length_take]; rfl)) ?_; (with_reducible refine (impl_RootOf.calls k _ _ t927 t934 _ ?side1 ?side2 A6.out).mono ?_); (case side1 => repeat (first | exact (Kd.R_reads' HO930.out).2.2 | (with_reducible refine Kd.C_alloc ?_ _) | (with_reducible refine Kd.C_drewN ?_ _) | (with_reducible refine Kd.C_drew ?_))); (case side2 => exact (Kd.R_reads' HO930.out).2.1); rintro e w32 ⟨rfl, hb⟩; refine ⟨_, rfl, ?_⟩; have n0_ := Aside0.mk (Kd.R_below (by (with_reducible repeat (first | apply Kd.R_alloc | apply Kd.R_drewN | apply Kd.R_drew)); exact HO930.out) hb); have n1_ := Aside0.mk (Kd.R_below (by (with_reducible repeat (first | apply Kd.R_alloc | apply Kd.R_drewN | apply Kd.R_drew)); exact HO933.out) hb); have n2_ := Aside0.mk (below_step (by repeat (first | (with_reducible first | exact HB.out | apply below_alloc | apply pw_below_drewN | apply below_drew1) | exact HB.out)) hb); clear HO930; clear HO933; clear HB; have HO930 := n0_; have HO933 := n1_; have HB := n2_; clear n0_ n1_ n2_; (try clear hb); (try clear hb2); (try clear hk); (try clear hi)) | ((with_reducible refine gate_dst (N := 20) rfl ?_); (try (refine gate_guard (by rfl) ?_; dsimp only)); refine Kd.R_lit Kd.string _ 9 ?hg (N := 20) ?hd (xs := ([] : List ByteArray)) (inner := []) (ok := fun _ => True) (okp := fun _ => True) ?hr ?hp (fun _ hk => hk) trivial (Below.refl _ _) (Nat.le_refl _) (by simp) ?_; (case hd => rfl); (case hg => rfl); (case hr => first | (go_simp; done) | (go_simp; rfl)); (case hp => exact (Reps.none _ _)); intro v936 w33 ho34 hb hg_ hnew_; clear hg_ hnew_; (first | rw [← Ny935.out] at ho34 | (simp only [Int.reduceToNat] at ho34; rw [← Ny935.out] at ho34)); have n0_ := Aside0.mk (Kd.R_elder' (by (with_reducible repeat (first | apply Kd.R_alloc | apply Kd.R_drewN | apply Kd.R_drew)); exact HO930.out) (Kd.R_base ho34) hb); have n1_ := Aside0.mk (Kd.R_elder' (by (with_reducible repeat (first | apply Kd.R_alloc | apply Kd.R_drewN | apply Kd.R_drew)); exact HO933.out) (Kd.R_base ho34) hb); have n2_ := Aside0.mk (Kd.R_lower (Kd.R_new' (Kd.R_new' ho34 (Kd.R_lt (by (with_reducible repeat (first | apply Kd.R_alloc | apply Kd.R_drewN | apply Kd.R_drew)); exact HO930.out))) (Kd.R_lt (by (with_reducible repeat (first | apply Kd.R_alloc | apply Kd.R_drewN | apply Kd.R_drew)); exact HO933.out))) (below_size (by repeat (first | (with_reducible first | exact HB.out | apply below_alloc | apply pw_below_drewN | apply below_drew1) | exact HB.out)))); have n3_ := Aside0.mk (below_step (by repeat (first | (with_reducible first | exact HB.out | apply below_alloc | apply pw_below_drewN | apply below_drew1) | exact HB.out)) hb); clear HO930; clear HO933; clear HB; have HO930 := n0_; have HO933 := n1_; have HO937 := n2_; have HB := n3_; clear n0_ n1_ n2_ n3_; clear hb ho34; obtain ⟨Ao36, co36, eo36⟩ := Kd.R_slice HO933.out; subst eo36) | ((with_reducible refine gate_builtin (b := .append) (xs := #[.tmp 20, .tmp 21]) rfl ?_); (try (refine gate_guard (by rfl) ?_; dsimp only)); at_builtin; refine Kd.R_append_rows Kd.string (w0 := w) w.heap.size rfl (.tmp 20) (.tmp 21) 44 9 (.string ⟨#[]⟩) 16 rfl Try.underlying44 info9 rfl (by decide) (by omega) v936 y935 t931 _ _ _ (fun k_ => some k_ ≠ (.slice Ao30 t927.length co30 : Value).ownBlock ∧ some k_ ≠ (.slice Ao36 t931.length co36 : Value).ownBlock) (fun _ => False) rfl rfl ?aO ?aR (fun _ _ h => h) (fun _ h => h.elim) ?aF ?aB ?aS ?aL ?_; (case aR => repeat (first | exact (Kd.R_reads' HO933.out).2.2 | (with_reducible refine Kd.C_alloc ?_ _) | (with_reducible refine Kd.C_drewN ?_ _) | (with_reducible refine Kd.C_drew ?_))); (case aB => exact (by repeat (first | (with_reducible first | exact HB.out | apply below_alloc | apply pw_below_drewN | apply below_drew1) | exact HB.out))); (case aF => exact (fun k_ hk => ⟨Kd.fresh' (Kd.R_lt (by (with_reducible repeat (first | apply Kd.R_alloc | apply Kd.R_drewN | apply Kd.R_drew)); exact HO930.out)) k_ hk, Kd.fresh' (Kd.R_lt (by (with_reducible repeat (first | apply Kd.R_alloc | apply Kd.R_drewN | apply Kd.R_drew)); exact HO933.out)) k_ hk⟩)); (case aO => exact (by (with_reducible repeat (first | apply Kd.R_alloc | apply Kd.R_drewN | apply Kd.R_drew)); exact Kd.R_mono HO937.out (fun _ hk => ⟨hk.1.2, hk.2⟩))); (case aS => exact (below_size (by repeat (first | (with_reducible first | exact HB.out | apply below_alloc | apply pw_below_drewN | apply below_drew1) | exact HB.out)))); (case aL => have := LMc7.out; omega); intro v939 w35 ho hb hg hat; rw [← Ny938.out] at ho; have n0_ := Aside0.mk (Kd.R_after (ok := (fun k_ => some k_ ≠ (.slice Ao36 t931.length co36 : Value).ownBlock)) (by (with_reducible repeat (first | apply Kd.R_alloc | apply Kd.R_drewN | apply Kd.R_drew)); exact Kd.R_mono HO930.out (fun _ hk => ⟨hk.1.2, hk.2⟩)) hg hat); have n1_ := Aside0.mk (Kd.R_after (ok := (fun k_ => some k_ ≠ (.slice Ao30 t927.length co30 : Value).ownBlock)) (by (with_reducible repeat (first | apply Kd.R_alloc | apply Kd.R_drewN | apply Kd.R_drew)); exact Kd.R_mono HO933.out (fun _ hk => ⟨hk.1.2, hk.2⟩)) hg hat); have n2_ := Aside0.mk (hb); have n3_ := Aside0.mk (ho); clear HO930; clear HO933; clear HB; clear HO937; have HO930 := n0_; have HO933 := n1_; have HB := n2_; have HO940 := n3_; clear n0_ n1_ n2_ n3_; clear ho hb hg hat) | ((with_reducible refine gate_builtin (b := .append) (xs := #[.tmp 22, .tmp 24]) rfl ?_); (try (refine gate_guard (by rfl) ?_; dsimp only)); at_builtin; refine Kd.R_append Kd.string (w0 := w) w.heap.size rfl (.tmp 22) (.tmp 24) 44 9 (.string ⟨#[]⟩) 16 rfl Try.underlying44 info9 rfl (by decide) (by omega) v939 y938 t934 [.string t934] (fun k_ => some k_ ≠ (.slice Ao30 t927.length co30 : Value).ownBlock ∧ some k_ ≠ (.slice Ao36 t931.length co36 : Value).ownBlock) (fun _ => False) rfl rfl ?aP (fun _ hk => hk.elim) ?aF ?aO ?aB ?aS ?aL ?_; (case aP => exact rfl); (case aB => exact (by repeat (first | (with_reducible first | exact HB.out | apply below_alloc | apply pw_below_drewN | apply below_drew1) | exact HB.out))); (case aF => exact (fun k_ hk => ⟨Kd.fresh' (Kd.R_lt (by (with_reducible repeat (first | apply Kd.R_alloc | apply Kd.R_drewN | apply Kd.R_drew)); exact HO930.out)) k_ hk, Kd.fresh' (Kd.R_lt (by (with_reducible repeat (first | apply Kd.R_alloc | apply Kd.R_drewN | apply Kd.R_drew)); exact HO933.out)) k_ hk⟩)); (case aO => exact (by (with_reducible repeat (first | apply Kd.R_alloc | apply Kd.R_drewN | apply Kd.R_drew)); exact HO940.out)); (case aS => exact (below_size (by repeat (first | (with_reducible first | exact HB.out | apply below_alloc | apply pw_below_drewN | apply below_drew1) | exact HB.out)))); (case aL => have := LMc8.out; omega); intro v942 w37 ho hb hg hat; rw [← Ny941.out] at ho; have n0_ := Aside0.mk (Kd.R_after (ok := (fun k_ => some k_ ≠ (.slice Ao36 t931.length co36 : Value).ownBlock)) (by (with_reducible repeat (first | apply Kd.R_alloc | apply Kd.R_drewN | apply Kd.R_drew)); exact HO930.out) hg hat); have n1_ := Aside0.mk (Kd.R_after (ok := (fun k_ => some k_ ≠ (.slice Ao30 t927.length co30 : Value).ownBlock)) (by (with_reducible repeat (first | apply Kd.R_alloc | apply Kd.R_drewN | apply Kd.R_drew)); exact HO933.out) hg hat); have n2_ := Aside0.mk (hb); have n3_ := Aside0.mk (ho); clear HO930; clear HO933; clear HB; clear HO940; have HO930 := n0_; have HO933 := n1_; have HB := n2_; have HO943 := n3_; clear n0_ n1_ n2_ n3_; clear ho hb hg hat; have p944 : 0 ≤ (t928 : Int) := of_decide_eq_true (by first | (with_reducible assumption) | assumption); have q944 : t928 < (t927.length : Int) := of_decide_eq_true (by first | (with_reducible assumption) | assumption); obtain ⟨ad944, e944, hx944_0⟩ := Kd.at_string (Kd.R_reads' HO930.out).2.2 t928 p944 q944; cases e944; replace p944 := eq_true p944; replace q944 := eq_true q944) | ((with_reducible refine gate_callee (f := 74) rfl ?_); refine goesL_ (some 35) rfl rfl Try.func74 (by kernel_rfl) rfl #[.string (rdOf ByteArray.empty t927 t928), .int .i64 t928, .int .i64 (t927.length : Int), .slice Ao36 t931.length co36, .string t934] rfl (by (try simp only [List.map_toArray, List.map_cons, List.map_nil]); first | done | rfl | (simp only [List.length_drop, List.length_take]; rfl)) ?_; (with_reducible refine (impl_CheckIn.calls k (rdOf ByteArray.empty t927 t928) t928 (t927.length : Int) _ _ t931 t934 true _ ?side1 ?side2 A11.out).mono ?_); (case side1 => repeat (first | exact (Kd.R_reads' HO933.out).2.2 | (with_reducible refine Kd.C_alloc ?_ _) | (with_reducible refine Kd.C_drewN ?_ _) | (with_reducible refine Kd.C_drew ?_))); (case side2 => exact (Kd.R_reads' HO933.out).2.1); rintro e w38 ⟨rfl, hb⟩; refine ⟨_, rfl, ?_⟩; have n0_ := Aside0.mk (Kd.R_below (by (with_reducible repeat (first | apply Kd.R_alloc | apply Kd.R_drewN | apply Kd.R_drew)); exact HO930.out) hb); have n1_ := Aside0.mk (Kd.R_below (by (with_reducible repeat (first | apply Kd.R_alloc | apply Kd.R_drewN | apply Kd.R_drew)); exact HO933.out) hb); have n2_ := Aside0.mk (Kd.R_below (by (with_reducible repeat (first | apply Kd.R_alloc | apply Kd.R_drewN | apply Kd.R_drew)); exact HO943.out) hb); have n3_ := Aside0.mk (below_step (by repeat (first | (with_reducible first | exact HB.out | apply below_alloc | apply pw_below_drewN | apply below_drew1) | exact HB.out)) hb); clear HO930; clear HO933; clear HO943; clear HB; have HO930 := n0_; have HO933 := n1_; have HO943 := n2_; have HB := n3_; clear n0_ n1_ n2_ n3_; (try clear hb); (try clear hb2); (try clear hk); (try clear hi); have p946 : 0 ≤ (t928 : Int) := of_decide_eq_true (by first | (with_reducible assumption) | assumption); have q946 : t928 < (t927.length : Int) := of_decide_eq_true (by first | (with_reducible assumption) | assumption); obtain ⟨ad946, e946, hx946_0⟩ := Kd.at_string (Kd.R_reads' HO930.out).2.2 t928 p946 q946; obtain rfl : ad944 = ad946 := (by injection e946); replace p946 := eq_true p946; replace q946 := eq_true q946; obtain ⟨Ao39, co39, eo39⟩ := Kd.R_slice HO943.out; subst eo39) | (go_at_call 74; (with_reducible refine (impl_CheckIn.calls k (rdOf ByteArray.empty t927 t928) t928 (t927.length : Int) _ _ y941 t934 false _ ?side1 ?side2 A13.out).mono ?_); (case side1 => repeat (first | exact (Kd.R_reads' HO943.out).2.2 | (with_reducible refine Kd.C_alloc ?_ _) | (with_reducible refine Kd.C_drewN ?_ _) | (with_reducible refine Kd.C_drew ?_))); (case side2 => exact (Kd.R_reads' HO943.out).2.1); rintro e w40 ⟨rfl, hb⟩; have n0_ := Aside0.mk (Kd.R_below (by (with_reducible repeat (first | apply Kd.R_alloc | apply Kd.R_drewN | apply Kd.R_drew)); exact HO930.out) hb); have n1_ := Aside0.mk (Kd.R_below (by (with_reducible repeat (first | apply Kd.R_alloc | apply Kd.R_drewN | apply Kd.R_drew)); exact HO933.out) hb); have n2_ := Aside0.mk (Kd.R_below (by (with_reducible repeat (first | apply Kd.R_alloc | apply Kd.R_drewN | apply Kd.R_drew)); exact HO943.out) hb); have n3_ := Aside0.mk (below_step (by repeat (first | (with_reducible first | exact HB.out | apply below_alloc | apply pw_below_drewN | apply below_drew1) | exact HB.out)) hb); clear HO930; clear HO933; clear HO943; clear HB; have HO930 := n0_; have HO933 := n1_; have HO943 := n2_; have HB := n3_; clear n0_ n1_ n2_ n3_; (try clear hb); (try clear hb2); (try clear hk); (try clear hi); have p948 : 0 ≤ (t928 : Int) := of_decide_eq_true (by first | (with_reducible assumption) | assumption); have q948 : t928 < (t927.length : Int) := of_decide_eq_true (by first | (with_reducible assumption) | assumption); obtain ⟨ad948, e948, hx948_0⟩ := Kd.at_string (Kd.R_reads' HO930.out).2.2 t928 p948 q948; obtain rfl : ad944 = ad948 := (by injection e948); replace p948 := eq_true p948; replace q948 := eq_true q948) | (go_at_call 74; (with_reducible refine (impl_CheckIn.calls k (rdOf ByteArray.empty t927 t928) (t927.length : Int) (t927.length : Int) _ _ t931 t934 true _ ?side1 ?side2 A27.out).mono ?_); (case side1 => repeat (first | exact (Kd.R_reads' HO933.out).2.2 | (with_reducible refine Kd.C_alloc ?_ _) | (with_reducible refine Kd.C_drewN ?_ _) | (with_reducible refine Kd.C_drew ?_))); (case side2 => exact (Kd.R_reads' HO933.out).2.1); rintro e w41 ⟨rfl, hb⟩; have n0_ := Aside0.mk (Kd.R_below (by (with_reducible repeat (first | apply Kd.R_alloc | apply Kd.R_drewN | apply Kd.R_drew)); exact HO930.out) hb); have n1_ := Aside0.mk (Kd.R_below (by (with_reducible repeat (first | apply Kd.R_alloc | apply Kd.R_drewN | apply Kd.R_drew)); exact HO933.out) hb); have n2_ := Aside0.mk (Kd.R_below (by (with_reducible repeat (first | apply Kd.R_alloc | apply Kd.R_drewN | apply Kd.R_drew)); exact HO943.out) hb); have n3_ := Aside0.mk (below_step (by repeat (first | (with_reducible first | exact HB.out | apply below_alloc | apply pw_below_drewN | apply below_drew1) | exact HB.out)) hb); clear HO930; clear HO933; clear HO943; clear HB; have HO930 := n0_; have HO933 := n1_; have HO943 := n2_; have HB := n3_; clear n0_ n1_ n2_ n3_; (try clear hb); (try clear hb2); (try clear hk); (try clear hi)))
                  go_ret
                  exact ⟨by first | rfl | (simp [errW_none, errW_some] <;> rfl) | (simp [*, errW_none, errW_some] <;> rfl), by repeat (first | (with_reducible first | exact HB.out | apply below_alloc | apply pw_below_drewN | apply below_drew1) | exact HB.out)⟩
                · replace c28 := Bool.eq_false_iff.mpr c28
                  subst c28
                  have H1 : (some ((t934.size : Int) == 32)) = some r := by rw [if_neg (show ¬ (false = true) by decide)] at H; exact H
                  clear H
                  have H := H1
                  clear H1
                  obtain rfl := Option.some.inj H
                  go_enter Try.func20, Try.ntmps20
                  go_wp2_with (first | ((with_reducible refine gate_callee (f := 46) rfl ?_); refine goesL_ (some 9) rfl rfl Try.func46 (by kernel_rfl) rfl #[.slice A0 l0.length c0] rfl (by (try simp only [List.map_toArray, List.map_cons, List.map_nil]); first | done | rfl | (simp only [List.length_drop, List.length_take]; rfl)) ?_; (with_reducible refine (laws_big.calls _ _ l0 false _ ?side1 ?side2 A2.out).mono ?_); (case side1 => repeat (first | exact HR0.out | (with_reducible refine Kd.C_alloc ?_ _) | (with_reducible refine Kd.C_drewN ?_ _) | (with_reducible refine Kd.C_drew ?_))); (case side2 => exact HC0.out); rintro e w' ⟨rfl, ⟨nd, rfl⟩⟩; refine ⟨_, rfl, ?_⟩) | ((with_reducible refine gate_callee (f := 65) rfl ?_); refine goesL_ (some 12) rfl rfl Try.func65 (by kernel_rfl) rfl #[.slice A0 l0.length c0] rfl (by (try simp only [List.map_toArray, List.map_cons, List.map_nil]); first | done | rfl | (simp only [List.length_drop, List.length_take]; rfl)) ?_; (with_reducible refine (spec_DrawLeaves.calls k _ _ l0 t927 t928 _ ?side1 ?side2 A4.out).mono ?_); (case side1 => repeat (first | exact HR0.out | (with_reducible refine Kd.C_alloc ?_ _) | (with_reducible refine Kd.C_drewN ?_ _) | (with_reducible refine Kd.C_drew ?_))); (case side2 => exact HC0.out); rintro e w42 ⟨v929, rfl, ho0, hb⟩; refine ⟨_, rfl, ?_⟩; have n0_ := Aside0.mk (Kd.R_lower ho0 (below_size (by repeat (first | (with_reducible first | exact HB.out | apply below_alloc | apply pw_below_drewN | apply below_drew1) | exact HB.out)))); have n1_ := Aside0.mk (below_step (by repeat (first | (with_reducible first | exact HB.out | apply below_alloc | apply pw_below_drewN | apply below_drew1) | exact HB.out)) hb); clear HB; have HO930 := n0_; have HB := n1_; clear n0_ n1_; (try clear hb); (try clear hb2); (try clear hk); (try clear hi); (try clear ho0); obtain ⟨Ao43, co43, eo43⟩ := Kd.R_slice HO930.out; subst eo43) | ((with_reducible refine gate_callee (f := 73) rfl ?_); refine goesL_ (some 17) rfl rfl Try.func73 (by kernel_rfl) rfl #[.slice Ao43 t927.length co43, .int .i64 t928] rfl (by (try simp only [List.map_toArray, List.map_cons, List.map_nil]); first | done | rfl | (simp only [List.length_drop, List.length_take]; rfl)) ?_; (with_reducible refine (impl_InPath.calls k _ _ t927 t928 t931 _ ?side1 ?side2 A5.out).mono ?_); (case side1 => repeat (first | exact (Kd.R_reads' HO930.out).2.2 | (with_reducible refine Kd.C_alloc ?_ _) | (with_reducible refine Kd.C_drewN ?_ _) | (with_reducible refine Kd.C_drew ?_))); (case side2 => exact (Kd.R_reads' HO930.out).2.1); rintro e w44 ⟨v932, rfl, ho0, hb⟩; refine ⟨_, rfl, ?_⟩; have n0_ := Aside0.mk (Kd.R_elder' (by (with_reducible repeat (first | apply Kd.R_alloc | apply Kd.R_drewN | apply Kd.R_drew)); exact HO930.out) (Kd.R_base ho0) hb); have n1_ := Aside0.mk (Kd.R_lower (Kd.R_new' ho0 (Kd.R_lt (by (with_reducible repeat (first | apply Kd.R_alloc | apply Kd.R_drewN | apply Kd.R_drew)); exact HO930.out))) (below_size (by repeat (first | (with_reducible first | exact HB.out | apply below_alloc | apply pw_below_drewN | apply below_drew1) | exact HB.out)))); have n2_ := Aside0.mk (below_step (by repeat (first | (with_reducible first | exact HB.out | apply below_alloc | apply pw_below_drewN | apply below_drew1) | exact HB.out)) hb); clear HO930; clear HB; have HO930 := n0_; have HO933 := n1_; have HB := n2_; clear n0_ n1_ n2_; (try clear hb); (try clear hb2); (try clear hk); (try clear hi); (try clear ho0)) | ((with_reducible refine gate_callee (f := 66) rfl ?_); refine goesL_ (some 19) rfl rfl Try.func66 (by kernel_rfl) rfl #[.slice Ao43 t927.length co43] rfl (by (try simp only [List.map_toArray, List.map_cons, List.map_nil]); first | done | rfl | (simp only [List.length_drop, List.length_take]; rfl)) ?_; (with_reducible refine (impl_RootOf.calls k _ _ t927 t934 _ ?side1 ?side2 A6.out).mono ?_); (case side1 => repeat (first | exact (Kd.R_reads' HO930.out).2.2 | (with_reducible refine Kd.C_alloc ?_ _) | (with_reducible refine Kd.C_drewN ?_ _) | (with_reducible refine Kd.C_drew ?_))); (case side2 => exact (Kd.R_reads' HO930.out).2.1); rintro e w45 ⟨rfl, hb⟩; refine ⟨_, rfl, ?_⟩; have n0_ := Aside0.mk (Kd.R_below (by (with_reducible repeat (first | apply Kd.R_alloc | apply Kd.R_drewN | apply Kd.R_drew)); exact HO930.out) hb); have n1_ := Aside0.mk (Kd.R_below (by (with_reducible repeat (first | apply Kd.R_alloc | apply Kd.R_drewN | apply Kd.R_drew)); exact HO933.out) hb); have n2_ := Aside0.mk (below_step (by repeat (first | (with_reducible first | exact HB.out | apply below_alloc | apply pw_below_drewN | apply below_drew1) | exact HB.out)) hb); clear HO930; clear HO933; clear HB; have HO930 := n0_; have HO933 := n1_; have HB := n2_; clear n0_ n1_ n2_; (try clear hb); (try clear hb2); (try clear hk); (try clear hi)) | ((with_reducible refine gate_dst (N := 20) rfl ?_); (try (refine gate_guard (by rfl) ?_; dsimp only)); refine Kd.R_lit Kd.string _ 9 ?hg (N := 20) ?hd (xs := ([] : List ByteArray)) (inner := []) (ok := fun _ => True) (okp := fun _ => True) ?hr ?hp (fun _ hk => hk) trivial (Below.refl _ _) (Nat.le_refl _) (by simp) ?_; (case hd => rfl); (case hg => rfl); (case hr => first | (go_simp; done) | (go_simp; rfl)); (case hp => exact (Reps.none _ _)); intro v936 w46 ho47 hb hg_ hnew_; clear hg_ hnew_; (first | rw [← Ny935.out] at ho47 | (simp only [Int.reduceToNat] at ho47; rw [← Ny935.out] at ho47)); have n0_ := Aside0.mk (Kd.R_elder' (by (with_reducible repeat (first | apply Kd.R_alloc | apply Kd.R_drewN | apply Kd.R_drew)); exact HO930.out) (Kd.R_base ho47) hb); have n1_ := Aside0.mk (Kd.R_elder' (by (with_reducible repeat (first | apply Kd.R_alloc | apply Kd.R_drewN | apply Kd.R_drew)); exact HO933.out) (Kd.R_base ho47) hb); have n2_ := Aside0.mk (Kd.R_lower (Kd.R_new' (Kd.R_new' ho47 (Kd.R_lt (by (with_reducible repeat (first | apply Kd.R_alloc | apply Kd.R_drewN | apply Kd.R_drew)); exact HO930.out))) (Kd.R_lt (by (with_reducible repeat (first | apply Kd.R_alloc | apply Kd.R_drewN | apply Kd.R_drew)); exact HO933.out))) (below_size (by repeat (first | (with_reducible first | exact HB.out | apply below_alloc | apply pw_below_drewN | apply below_drew1) | exact HB.out)))); have n3_ := Aside0.mk (below_step (by repeat (first | (with_reducible first | exact HB.out | apply below_alloc | apply pw_below_drewN | apply below_drew1) | exact HB.out)) hb); clear HO930; clear HO933; clear HB; have HO930 := n0_; have HO933 := n1_; have HO937 := n2_; have HB := n3_; clear n0_ n1_ n2_ n3_; clear hb ho47; obtain ⟨Ao49, co49, eo49⟩ := Kd.R_slice HO933.out; subst eo49) | ((with_reducible refine gate_builtin (b := .append) (xs := #[.tmp 20, .tmp 21]) rfl ?_); (try (refine gate_guard (by rfl) ?_; dsimp only)); at_builtin; refine Kd.R_append_rows Kd.string (w0 := w) w.heap.size rfl (.tmp 20) (.tmp 21) 44 9 (.string ⟨#[]⟩) 16 rfl Try.underlying44 info9 rfl (by decide) (by omega) v936 y935 t931 _ _ _ (fun k_ => some k_ ≠ (.slice Ao43 t927.length co43 : Value).ownBlock ∧ some k_ ≠ (.slice Ao49 t931.length co49 : Value).ownBlock) (fun _ => False) rfl rfl ?aO ?aR (fun _ _ h => h) (fun _ h => h.elim) ?aF ?aB ?aS ?aL ?_; (case aR => repeat (first | exact (Kd.R_reads' HO933.out).2.2 | (with_reducible refine Kd.C_alloc ?_ _) | (with_reducible refine Kd.C_drewN ?_ _) | (with_reducible refine Kd.C_drew ?_))); (case aB => exact (by repeat (first | (with_reducible first | exact HB.out | apply below_alloc | apply pw_below_drewN | apply below_drew1) | exact HB.out))); (case aF => exact (fun k_ hk => ⟨Kd.fresh' (Kd.R_lt (by (with_reducible repeat (first | apply Kd.R_alloc | apply Kd.R_drewN | apply Kd.R_drew)); exact HO930.out)) k_ hk, Kd.fresh' (Kd.R_lt (by (with_reducible repeat (first | apply Kd.R_alloc | apply Kd.R_drewN | apply Kd.R_drew)); exact HO933.out)) k_ hk⟩)); (case aO => exact (by (with_reducible repeat (first | apply Kd.R_alloc | apply Kd.R_drewN | apply Kd.R_drew)); exact Kd.R_mono HO937.out (fun _ hk => ⟨hk.1.2, hk.2⟩))); (case aS => exact (below_size (by repeat (first | (with_reducible first | exact HB.out | apply below_alloc | apply pw_below_drewN | apply below_drew1) | exact HB.out)))); (case aL => have := LMc7.out; omega); intro v939 w48 ho hb hg hat; rw [← Ny938.out] at ho; have n0_ := Aside0.mk (Kd.R_after (ok := (fun k_ => some k_ ≠ (.slice Ao49 t931.length co49 : Value).ownBlock)) (by (with_reducible repeat (first | apply Kd.R_alloc | apply Kd.R_drewN | apply Kd.R_drew)); exact Kd.R_mono HO930.out (fun _ hk => ⟨hk.1.2, hk.2⟩)) hg hat); have n1_ := Aside0.mk (Kd.R_after (ok := (fun k_ => some k_ ≠ (.slice Ao43 t927.length co43 : Value).ownBlock)) (by (with_reducible repeat (first | apply Kd.R_alloc | apply Kd.R_drewN | apply Kd.R_drew)); exact Kd.R_mono HO933.out (fun _ hk => ⟨hk.1.2, hk.2⟩)) hg hat); have n2_ := Aside0.mk (hb); have n3_ := Aside0.mk (ho); clear HO930; clear HO933; clear HB; clear HO937; have HO930 := n0_; have HO933 := n1_; have HB := n2_; have HO940 := n3_; clear n0_ n1_ n2_ n3_; clear ho hb hg hat) | ((with_reducible refine gate_builtin (b := .append) (xs := #[.tmp 22, .tmp 24]) rfl ?_); (try (refine gate_guard (by rfl) ?_; dsimp only)); at_builtin; refine Kd.R_append Kd.string (w0 := w) w.heap.size rfl (.tmp 22) (.tmp 24) 44 9 (.string ⟨#[]⟩) 16 rfl Try.underlying44 info9 rfl (by decide) (by omega) v939 y938 t934 [.string t934] (fun k_ => some k_ ≠ (.slice Ao43 t927.length co43 : Value).ownBlock ∧ some k_ ≠ (.slice Ao49 t931.length co49 : Value).ownBlock) (fun _ => False) rfl rfl ?aP (fun _ hk => hk.elim) ?aF ?aO ?aB ?aS ?aL ?_; (case aP => exact rfl); (case aB => exact (by repeat (first | (with_reducible first | exact HB.out | apply below_alloc | apply pw_below_drewN | apply below_drew1) | exact HB.out))); (case aF => exact (fun k_ hk => ⟨Kd.fresh' (Kd.R_lt (by (with_reducible repeat (first | apply Kd.R_alloc | apply Kd.R_drewN | apply Kd.R_drew)); exact HO930.out)) k_ hk, Kd.fresh' (Kd.R_lt (by (with_reducible repeat (first | apply Kd.R_alloc | apply Kd.R_drewN | apply Kd.R_drew)); exact HO933.out)) k_ hk⟩)); (case aO => exact (by (with_reducible repeat (first | apply Kd.R_alloc | apply Kd.R_drewN | apply Kd.R_drew)); exact HO940.out)); (case aS => exact (below_size (by repeat (first | (with_reducible first | exact HB.out | apply below_alloc | apply pw_below_drewN | apply below_drew1) | exact HB.out)))); (case aL => have := LMc8.out; omega); intro v942 w50 ho hb hg hat; rw [← Ny941.out] at ho; have n0_ := Aside0.mk (Kd.R_after (ok := (fun k_ => some k_ ≠ (.slice Ao49 t931.length co49 : Value).ownBlock)) (by (with_reducible repeat (first | apply Kd.R_alloc | apply Kd.R_drewN | apply Kd.R_drew)); exact HO930.out) hg hat); have n1_ := Aside0.mk (Kd.R_after (ok := (fun k_ => some k_ ≠ (.slice Ao43 t927.length co43 : Value).ownBlock)) (by (with_reducible repeat (first | apply Kd.R_alloc | apply Kd.R_drewN | apply Kd.R_drew)); exact HO933.out) hg hat); have n2_ := Aside0.mk (hb); have n3_ := Aside0.mk (ho); clear HO930; clear HO933; clear HB; clear HO940; have HO930 := n0_; have HO933 := n1_; have HB := n2_; have HO943 := n3_; clear n0_ n1_ n2_ n3_; clear ho hb hg hat; have p944 : 0 ≤ (t928 : Int) := of_decide_eq_true (by first | (with_reducible assumption) | assumption); have q944 : t928 < (t927.length : Int) := of_decide_eq_true (by first | (with_reducible assumption) | assumption); obtain ⟨ad944, e944, hx944_0⟩ := Kd.at_string (Kd.R_reads' HO930.out).2.2 t928 p944 q944; cases e944; replace p944 := eq_true p944; replace q944 := eq_true q944) | ((with_reducible refine gate_callee (f := 74) rfl ?_); refine goesL_ (some 35) rfl rfl Try.func74 (by kernel_rfl) rfl #[.string (rdOf ByteArray.empty t927 t928), .int .i64 t928, .int .i64 (t927.length : Int), .slice Ao49 t931.length co49, .string t934] rfl (by (try simp only [List.map_toArray, List.map_cons, List.map_nil]); first | done | rfl | (simp only [List.length_drop, List.length_take]; rfl)) ?_; (with_reducible refine (impl_CheckIn.calls k (rdOf ByteArray.empty t927 t928) t928 (t927.length : Int) _ _ t931 t934 true _ ?side1 ?side2 A11.out).mono ?_); (case side1 => repeat (first | exact (Kd.R_reads' HO933.out).2.2 | (with_reducible refine Kd.C_alloc ?_ _) | (with_reducible refine Kd.C_drewN ?_ _) | (with_reducible refine Kd.C_drew ?_))); (case side2 => exact (Kd.R_reads' HO933.out).2.1); rintro e w51 ⟨rfl, hb⟩; refine ⟨_, rfl, ?_⟩; have n0_ := Aside0.mk (Kd.R_below (by (with_reducible repeat (first | apply Kd.R_alloc | apply Kd.R_drewN | apply Kd.R_drew)); exact HO930.out) hb); have n1_ := Aside0.mk (Kd.R_below (by (with_reducible repeat (first | apply Kd.R_alloc | apply Kd.R_drewN | apply Kd.R_drew)); exact HO933.out) hb); have n2_ := Aside0.mk (Kd.R_below (by (with_reducible repeat (first | apply Kd.R_alloc | apply Kd.R_drewN | apply Kd.R_drew)); exact HO943.out) hb); have n3_ := Aside0.mk (below_step (by repeat (first | (with_reducible first | exact HB.out | apply below_alloc | apply pw_below_drewN | apply below_drew1) | exact HB.out)) hb); clear HO930; clear HO933; clear HO943; clear HB; have HO930 := n0_; have HO933 := n1_; have HO943 := n2_; have HB := n3_; clear n0_ n1_ n2_ n3_; (try clear hb); (try clear hb2); (try clear hk); (try clear hi); have p946 : 0 ≤ (t928 : Int) := of_decide_eq_true (by first | (with_reducible assumption) | assumption); have q946 : t928 < (t927.length : Int) := of_decide_eq_true (by first | (with_reducible assumption) | assumption); obtain ⟨ad946, e946, hx946_0⟩ := Kd.at_string (Kd.R_reads' HO930.out).2.2 t928 p946 q946; obtain rfl : ad944 = ad946 := (by injection e946); replace p946 := eq_true p946; replace q946 := eq_true q946; obtain ⟨Ao52, co52, eo52⟩ := Kd.R_slice HO943.out; subst eo52) | (go_at_call 74; (with_reducible refine (impl_CheckIn.calls k (rdOf ByteArray.empty t927 t928) t928 (t927.length : Int) _ _ y941 t934 false _ ?side1 ?side2 A13.out).mono ?_); (case side1 => repeat (first | exact (Kd.R_reads' HO943.out).2.2 | (with_reducible refine Kd.C_alloc ?_ _) | (with_reducible refine Kd.C_drewN ?_ _) | (with_reducible refine Kd.C_drew ?_))); (case side2 => exact (Kd.R_reads' HO943.out).2.1); rintro e w53 ⟨rfl, hb⟩; have n0_ := Aside0.mk (Kd.R_below (by (with_reducible repeat (first | apply Kd.R_alloc | apply Kd.R_drewN | apply Kd.R_drew)); exact HO930.out) hb); have n1_ := Aside0.mk (Kd.R_below (by (with_reducible repeat (first | apply Kd.R_alloc | apply Kd.R_drewN | apply Kd.R_drew)); exact HO933.out) hb); have n2_ := Aside0.mk (Kd.R_below (by (with_reducible repeat (first | apply Kd.R_alloc | apply Kd.R_drewN | apply Kd.R_drew)); exact HO943.out) hb); have n3_ := Aside0.mk (below_step (by repeat (first | (with_reducible first | exact HB.out | apply below_alloc | apply pw_below_drewN | apply below_drew1) | exact HB.out)) hb); clear HO930; clear HO933; clear HO943; clear HB; have HO930 := n0_; have HO933 := n1_; have HO943 := n2_; have HB := n3_; clear n0_ n1_ n2_ n3_; (try clear hb); (try clear hb2); (try clear hk); (try clear hi); have p948 : 0 ≤ (t928 : Int) := of_decide_eq_true (by first | (with_reducible assumption) | assumption); have q948 : t928 < (t927.length : Int) := of_decide_eq_true (by first | (with_reducible assumption) | assumption); obtain ⟨ad948, e948, hx948_0⟩ := Kd.at_string (Kd.R_reads' HO930.out).2.2 t928 p948 q948; obtain rfl : ad944 = ad948 := (by injection e948); replace p948 := eq_true p948; replace q948 := eq_true q948) | (go_at_call 74; (with_reducible refine (impl_CheckIn.calls k (rdOf ByteArray.empty t927 t928) (t927.length : Int) (t927.length : Int) _ _ t931 t934 false _ ?side1 ?side2 A27.out).mono ?_); (case side1 => repeat (first | exact (Kd.R_reads' HO933.out).2.2 | (with_reducible refine Kd.C_alloc ?_ _) | (with_reducible refine Kd.C_drewN ?_ _) | (with_reducible refine Kd.C_drew ?_))); (case side2 => exact (Kd.R_reads' HO933.out).2.1); rintro e w54 ⟨rfl, hb⟩; have n0_ := Aside0.mk (Kd.R_below (by (with_reducible repeat (first | apply Kd.R_alloc | apply Kd.R_drewN | apply Kd.R_drew)); exact HO930.out) hb); have n1_ := Aside0.mk (Kd.R_below (by (with_reducible repeat (first | apply Kd.R_alloc | apply Kd.R_drewN | apply Kd.R_drew)); exact HO933.out) hb); have n2_ := Aside0.mk (Kd.R_below (by (with_reducible repeat (first | apply Kd.R_alloc | apply Kd.R_drewN | apply Kd.R_drew)); exact HO943.out) hb); have n3_ := Aside0.mk (below_step (by repeat (first | (with_reducible first | exact HB.out | apply below_alloc | apply pw_below_drewN | apply below_drew1) | exact HB.out)) hb); clear HO930; clear HO933; clear HO943; clear HB; have HO930 := n0_; have HO933 := n1_; have HO943 := n2_; have HB := n3_; clear n0_ n1_ n2_ n3_; (try clear hb); (try clear hb2); (try clear hk); (try clear hi)))
                  go_ret
                  exact ⟨by first | rfl | (simp [errW_none, errW_some] <;> rfl) | (simp [*, errW_none, errW_some] <;> rfl), by repeat (first | (with_reducible first | exact HB.out | apply below_alloc | apply pw_below_drewN | apply below_drew1) | exact HB.out)⟩
            · replace c12 := Bool.eq_false_iff.mpr c12
              subst c12
              have H1 : (some false) = some r := by rw [if_neg (show ¬ (false = true) by decide)] at H; exact H
              clear H
              have H := H1
              clear H1
              obtain rfl := Option.some.inj H
              go_enter Try.func20, Try.ntmps20
              go_wp2_with (first | ((with_reducible refine gate_callee (f := 46) rfl ?_); refine goesL_ (some 9) rfl rfl Try.func46 (by kernel_rfl) rfl #[.slice A0 l0.length c0] rfl (by (try simp only [List.map_toArray, List.map_cons, List.map_nil]); first | done | rfl | (simp only [List.length_drop, List.length_take]; rfl)) ?_; (with_reducible refine (laws_big.calls _ _ l0 false _ ?side1 ?side2 A2.out).mono ?_); (case side1 => repeat (first | exact HR0.out | (with_reducible refine Kd.C_alloc ?_ _) | (with_reducible refine Kd.C_drewN ?_ _) | (with_reducible refine Kd.C_drew ?_))); (case side2 => exact HC0.out); rintro e w' ⟨rfl, ⟨nd, rfl⟩⟩; refine ⟨_, rfl, ?_⟩) | ((with_reducible refine gate_callee (f := 65) rfl ?_); refine goesL_ (some 12) rfl rfl Try.func65 (by kernel_rfl) rfl #[.slice A0 l0.length c0] rfl (by (try simp only [List.map_toArray, List.map_cons, List.map_nil]); first | done | rfl | (simp only [List.length_drop, List.length_take]; rfl)) ?_; (with_reducible refine (spec_DrawLeaves.calls k _ _ l0 t927 t928 _ ?side1 ?side2 A4.out).mono ?_); (case side1 => repeat (first | exact HR0.out | (with_reducible refine Kd.C_alloc ?_ _) | (with_reducible refine Kd.C_drewN ?_ _) | (with_reducible refine Kd.C_drew ?_))); (case side2 => exact HC0.out); rintro e w55 ⟨v929, rfl, ho0, hb⟩; refine ⟨_, rfl, ?_⟩; have n0_ := Aside0.mk (Kd.R_lower ho0 (below_size (by repeat (first | (with_reducible first | exact HB.out | apply below_alloc | apply pw_below_drewN | apply below_drew1) | exact HB.out)))); have n1_ := Aside0.mk (below_step (by repeat (first | (with_reducible first | exact HB.out | apply below_alloc | apply pw_below_drewN | apply below_drew1) | exact HB.out)) hb); clear HB; have HO930 := n0_; have HB := n1_; clear n0_ n1_; (try clear hb); (try clear hb2); (try clear hk); (try clear hi); (try clear ho0); obtain ⟨Ao56, co56, eo56⟩ := Kd.R_slice HO930.out; subst eo56) | ((with_reducible refine gate_callee (f := 73) rfl ?_); refine goesL_ (some 17) rfl rfl Try.func73 (by kernel_rfl) rfl #[.slice Ao56 t927.length co56, .int .i64 t928] rfl (by (try simp only [List.map_toArray, List.map_cons, List.map_nil]); first | done | rfl | (simp only [List.length_drop, List.length_take]; rfl)) ?_; (with_reducible refine (impl_InPath.calls k _ _ t927 t928 t931 _ ?side1 ?side2 A5.out).mono ?_); (case side1 => repeat (first | exact (Kd.R_reads' HO930.out).2.2 | (with_reducible refine Kd.C_alloc ?_ _) | (with_reducible refine Kd.C_drewN ?_ _) | (with_reducible refine Kd.C_drew ?_))); (case side2 => exact (Kd.R_reads' HO930.out).2.1); rintro e w57 ⟨v932, rfl, ho0, hb⟩; refine ⟨_, rfl, ?_⟩; have n0_ := Aside0.mk (Kd.R_elder' (by (with_reducible repeat (first | apply Kd.R_alloc | apply Kd.R_drewN | apply Kd.R_drew)); exact HO930.out) (Kd.R_base ho0) hb); have n1_ := Aside0.mk (Kd.R_lower (Kd.R_new' ho0 (Kd.R_lt (by (with_reducible repeat (first | apply Kd.R_alloc | apply Kd.R_drewN | apply Kd.R_drew)); exact HO930.out))) (below_size (by repeat (first | (with_reducible first | exact HB.out | apply below_alloc | apply pw_below_drewN | apply below_drew1) | exact HB.out)))); have n2_ := Aside0.mk (below_step (by repeat (first | (with_reducible first | exact HB.out | apply below_alloc | apply pw_below_drewN | apply below_drew1) | exact HB.out)) hb); clear HO930; clear HB; have HO930 := n0_; have HO933 := n1_; have HB := n2_; clear n0_ n1_ n2_; (try clear hb); (try clear hb2); (try clear hk); (try clear hi); (try clear ho0)) | ((with_reducible refine gate_callee (f := 66) rfl ?_); refine goesL_ (some 19) rfl rfl Try.func66 (by kernel_rfl) rfl #[.slice Ao56 t927.length co56] rfl (by (try simp only [List.map_toArray, List.map_cons, List.map_nil]); first | done | rfl | (simp only [List.length_drop, List.length_take]; rfl)) ?_; (with_reducible refine (impl_RootOf.calls k _ _ t927 t934 _ ?side1 ?side2 A6.out).mono ?_); (case side1 => repeat (first | exact (Kd.R_reads' HO930.out).2.2 | (with_reducible refine Kd.C_alloc ?_ _) | (with_reducible refine Kd.C_drewN ?_ _) | (with_reducible refine Kd.C_drew ?_))); (case side2 => exact (Kd.R_reads' HO930.out).2.1); rintro e w58 ⟨rfl, hb⟩; refine ⟨_, rfl, ?_⟩; have n0_ := Aside0.mk (Kd.R_below (by (with_reducible repeat (first | apply Kd.R_alloc | apply Kd.R_drewN | apply Kd.R_drew)); exact HO930.out) hb); have n1_ := Aside0.mk (Kd.R_below (by (with_reducible repeat (first | apply Kd.R_alloc | apply Kd.R_drewN | apply Kd.R_drew)); exact HO933.out) hb); have n2_ := Aside0.mk (below_step (by repeat (first | (with_reducible first | exact HB.out | apply below_alloc | apply pw_below_drewN | apply below_drew1) | exact HB.out)) hb); clear HO930; clear HO933; clear HB; have HO930 := n0_; have HO933 := n1_; have HB := n2_; clear n0_ n1_ n2_; (try clear hb); (try clear hb2); (try clear hk); (try clear hi)) | ((with_reducible refine gate_dst (N := 20) rfl ?_); (try (refine gate_guard (by rfl) ?_; dsimp only)); refine Kd.R_lit Kd.string _ 9 ?hg (N := 20) ?hd (xs := ([] : List ByteArray)) (inner := []) (ok := fun _ => True) (okp := fun _ => True) ?hr ?hp (fun _ hk => hk) trivial (Below.refl _ _) (Nat.le_refl _) (by simp) ?_; (case hd => rfl); (case hg => rfl); (case hr => first | (go_simp; done) | (go_simp; rfl)); (case hp => exact (Reps.none _ _)); intro v936 w59 ho60 hb hg_ hnew_; clear hg_ hnew_; (first | rw [← Ny935.out] at ho60 | (simp only [Int.reduceToNat] at ho60; rw [← Ny935.out] at ho60)); have n0_ := Aside0.mk (Kd.R_elder' (by (with_reducible repeat (first | apply Kd.R_alloc | apply Kd.R_drewN | apply Kd.R_drew)); exact HO930.out) (Kd.R_base ho60) hb); have n1_ := Aside0.mk (Kd.R_elder' (by (with_reducible repeat (first | apply Kd.R_alloc | apply Kd.R_drewN | apply Kd.R_drew)); exact HO933.out) (Kd.R_base ho60) hb); have n2_ := Aside0.mk (Kd.R_lower (Kd.R_new' (Kd.R_new' ho60 (Kd.R_lt (by (with_reducible repeat (first | apply Kd.R_alloc | apply Kd.R_drewN | apply Kd.R_drew)); exact HO930.out))) (Kd.R_lt (by (with_reducible repeat (first | apply Kd.R_alloc | apply Kd.R_drewN | apply Kd.R_drew)); exact HO933.out))) (below_size (by repeat (first | (with_reducible first | exact HB.out | apply below_alloc | apply pw_below_drewN | apply below_drew1) | exact HB.out)))); have n3_ := Aside0.mk (below_step (by repeat (first | (with_reducible first | exact HB.out | apply below_alloc | apply pw_below_drewN | apply below_drew1) | exact HB.out)) hb); clear HO930; clear HO933; clear HB; have HO930 := n0_; have HO933 := n1_; have HO937 := n2_; have HB := n3_; clear n0_ n1_ n2_ n3_; clear hb ho60; obtain ⟨Ao62, co62, eo62⟩ := Kd.R_slice HO933.out; subst eo62) | ((with_reducible refine gate_builtin (b := .append) (xs := #[.tmp 20, .tmp 21]) rfl ?_); (try (refine gate_guard (by rfl) ?_; dsimp only)); at_builtin; refine Kd.R_append_rows Kd.string (w0 := w) w.heap.size rfl (.tmp 20) (.tmp 21) 44 9 (.string ⟨#[]⟩) 16 rfl Try.underlying44 info9 rfl (by decide) (by omega) v936 y935 t931 _ _ _ (fun k_ => some k_ ≠ (.slice Ao56 t927.length co56 : Value).ownBlock ∧ some k_ ≠ (.slice Ao62 t931.length co62 : Value).ownBlock) (fun _ => False) rfl rfl ?aO ?aR (fun _ _ h => h) (fun _ h => h.elim) ?aF ?aB ?aS ?aL ?_; (case aR => repeat (first | exact (Kd.R_reads' HO933.out).2.2 | (with_reducible refine Kd.C_alloc ?_ _) | (with_reducible refine Kd.C_drewN ?_ _) | (with_reducible refine Kd.C_drew ?_))); (case aB => exact (by repeat (first | (with_reducible first | exact HB.out | apply below_alloc | apply pw_below_drewN | apply below_drew1) | exact HB.out))); (case aF => exact (fun k_ hk => ⟨Kd.fresh' (Kd.R_lt (by (with_reducible repeat (first | apply Kd.R_alloc | apply Kd.R_drewN | apply Kd.R_drew)); exact HO930.out)) k_ hk, Kd.fresh' (Kd.R_lt (by (with_reducible repeat (first | apply Kd.R_alloc | apply Kd.R_drewN | apply Kd.R_drew)); exact HO933.out)) k_ hk⟩)); (case aO => exact (by (with_reducible repeat (first | apply Kd.R_alloc | apply Kd.R_drewN | apply Kd.R_drew)); exact Kd.R_mono HO937.out (fun _ hk => ⟨hk.1.2, hk.2⟩))); (case aS => exact (below_size (by repeat (first | (with_reducible first | exact HB.out | apply below_alloc | apply pw_below_drewN | apply below_drew1) | exact HB.out)))); (case aL => have := LMc7.out; omega); intro v939 w61 ho hb hg hat; rw [← Ny938.out] at ho; have n0_ := Aside0.mk (Kd.R_after (ok := (fun k_ => some k_ ≠ (.slice Ao62 t931.length co62 : Value).ownBlock)) (by (with_reducible repeat (first | apply Kd.R_alloc | apply Kd.R_drewN | apply Kd.R_drew)); exact Kd.R_mono HO930.out (fun _ hk => ⟨hk.1.2, hk.2⟩)) hg hat); have n1_ := Aside0.mk (Kd.R_after (ok := (fun k_ => some k_ ≠ (.slice Ao56 t927.length co56 : Value).ownBlock)) (by (with_reducible repeat (first | apply Kd.R_alloc | apply Kd.R_drewN | apply Kd.R_drew)); exact Kd.R_mono HO933.out (fun _ hk => ⟨hk.1.2, hk.2⟩)) hg hat); have n2_ := Aside0.mk (hb); have n3_ := Aside0.mk (ho); clear HO930; clear HO933; clear HB; clear HO937; have HO930 := n0_; have HO933 := n1_; have HB := n2_; have HO940 := n3_; clear n0_ n1_ n2_ n3_; clear ho hb hg hat) | ((with_reducible refine gate_builtin (b := .append) (xs := #[.tmp 22, .tmp 24]) rfl ?_); (try (refine gate_guard (by rfl) ?_; dsimp only)); at_builtin; refine Kd.R_append Kd.string (w0 := w) w.heap.size rfl (.tmp 22) (.tmp 24) 44 9 (.string ⟨#[]⟩) 16 rfl Try.underlying44 info9 rfl (by decide) (by omega) v939 y938 t934 [.string t934] (fun k_ => some k_ ≠ (.slice Ao56 t927.length co56 : Value).ownBlock ∧ some k_ ≠ (.slice Ao62 t931.length co62 : Value).ownBlock) (fun _ => False) rfl rfl ?aP (fun _ hk => hk.elim) ?aF ?aO ?aB ?aS ?aL ?_; (case aP => exact rfl); (case aB => exact (by repeat (first | (with_reducible first | exact HB.out | apply below_alloc | apply pw_below_drewN | apply below_drew1) | exact HB.out))); (case aF => exact (fun k_ hk => ⟨Kd.fresh' (Kd.R_lt (by (with_reducible repeat (first | apply Kd.R_alloc | apply Kd.R_drewN | apply Kd.R_drew)); exact HO930.out)) k_ hk, Kd.fresh' (Kd.R_lt (by (with_reducible repeat (first | apply Kd.R_alloc | apply Kd.R_drewN | apply Kd.R_drew)); exact HO933.out)) k_ hk⟩)); (case aO => exact (by (with_reducible repeat (first | apply Kd.R_alloc | apply Kd.R_drewN | apply Kd.R_drew)); exact HO940.out)); (case aS => exact (below_size (by repeat (first | (with_reducible first | exact HB.out | apply below_alloc | apply pw_below_drewN | apply below_drew1) | exact HB.out)))); (case aL => have := LMc8.out; omega); intro v942 w63 ho hb hg hat; rw [← Ny941.out] at ho; have n0_ := Aside0.mk (Kd.R_after (ok := (fun k_ => some k_ ≠ (.slice Ao62 t931.length co62 : Value).ownBlock)) (by (with_reducible repeat (first | apply Kd.R_alloc | apply Kd.R_drewN | apply Kd.R_drew)); exact HO930.out) hg hat); have n1_ := Aside0.mk (Kd.R_after (ok := (fun k_ => some k_ ≠ (.slice Ao56 t927.length co56 : Value).ownBlock)) (by (with_reducible repeat (first | apply Kd.R_alloc | apply Kd.R_drewN | apply Kd.R_drew)); exact HO933.out) hg hat); have n2_ := Aside0.mk (hb); have n3_ := Aside0.mk (ho); clear HO930; clear HO933; clear HB; clear HO940; have HO930 := n0_; have HO933 := n1_; have HB := n2_; have HO943 := n3_; clear n0_ n1_ n2_ n3_; clear ho hb hg hat; have p944 : 0 ≤ (t928 : Int) := of_decide_eq_true (by first | (with_reducible assumption) | assumption); have q944 : t928 < (t927.length : Int) := of_decide_eq_true (by first | (with_reducible assumption) | assumption); obtain ⟨ad944, e944, hx944_0⟩ := Kd.at_string (Kd.R_reads' HO930.out).2.2 t928 p944 q944; cases e944; replace p944 := eq_true p944; replace q944 := eq_true q944) | ((with_reducible refine gate_callee (f := 74) rfl ?_); refine goesL_ (some 35) rfl rfl Try.func74 (by kernel_rfl) rfl #[.string (rdOf ByteArray.empty t927 t928), .int .i64 t928, .int .i64 (t927.length : Int), .slice Ao62 t931.length co62, .string t934] rfl (by (try simp only [List.map_toArray, List.map_cons, List.map_nil]); first | done | rfl | (simp only [List.length_drop, List.length_take]; rfl)) ?_; (with_reducible refine (impl_CheckIn.calls k (rdOf ByteArray.empty t927 t928) t928 (t927.length : Int) _ _ t931 t934 false _ ?side1 ?side2 A11.out).mono ?_); (case side1 => repeat (first | exact (Kd.R_reads' HO933.out).2.2 | (with_reducible refine Kd.C_alloc ?_ _) | (with_reducible refine Kd.C_drewN ?_ _) | (with_reducible refine Kd.C_drew ?_))); (case side2 => exact (Kd.R_reads' HO933.out).2.1); rintro e w64 ⟨rfl, hb⟩; refine ⟨_, rfl, ?_⟩; have n0_ := Aside0.mk (Kd.R_below (by (with_reducible repeat (first | apply Kd.R_alloc | apply Kd.R_drewN | apply Kd.R_drew)); exact HO930.out) hb); have n1_ := Aside0.mk (Kd.R_below (by (with_reducible repeat (first | apply Kd.R_alloc | apply Kd.R_drewN | apply Kd.R_drew)); exact HO933.out) hb); have n2_ := Aside0.mk (Kd.R_below (by (with_reducible repeat (first | apply Kd.R_alloc | apply Kd.R_drewN | apply Kd.R_drew)); exact HO943.out) hb); have n3_ := Aside0.mk (below_step (by repeat (first | (with_reducible first | exact HB.out | apply below_alloc | apply pw_below_drewN | apply below_drew1) | exact HB.out)) hb); clear HO930; clear HO933; clear HO943; clear HB; have HO930 := n0_; have HO933 := n1_; have HO943 := n2_; have HB := n3_; clear n0_ n1_ n2_ n3_; (try clear hb); (try clear hb2); (try clear hk); (try clear hi)))
              go_ret
              exact ⟨by first | rfl | (simp [errW_none, errW_some] <;> rfl) | (simp [*, errW_none, errW_some] <;> rfl), by repeat (first | (with_reducible first | exact HB.out | apply below_alloc | apply pw_below_drewN | apply below_drew1) | exact HB.out)⟩
          · rw [if_neg c10] at H
            exact absurd H (by simp)
        · rw [if_neg c9] at H
          exact absurd H (by simp)
      · rw [if_neg c8] at H
        exact absurd H (by simp)
    · rw [if_neg c7] at H
      exact absurd H (by simp)

/-- THE ONE PURE STATEMENT of laws_FnPaths: yours. -/
def laws_FnPaths.Pure : Prop := ∀ (l0 : List Int), l0.length ≤ maxLen → l0.length * 1 ≤ 140737488351232 → (∀ x ∈ l0, (Lit.int .u8 x).wf = true) → ∃ k, laws_FnPaths.f k l0 = some true
theorem laws_FnPaths.walk (P : laws_FnPaths.Pure) (a0 : Option Addr) (len0 cap0 : Nat) (z0 : List Int) (w : World) (w0 : (a0 = none ∧ len0 = 0 ∧ cap0 = 0 ∧ z0 = []) ∨ ∃ x, a0 = some x ∧ len0 ≤ cap0 ∧ cap0 ≤ maxLen ∧ z0.length = cap0 ∧ (∀ i, i < z0.length → w.cell? (x.add i) = some (.int .u8 (z0.getD i 0))) ∧ ∀ n ∈ z0, (Lit.int .u8 n).wf = true) (y0 : len0 * 1 ≤ 140737488351232) :
    Calls Try.prog 20 #[.slice a0 len0 cap0] w fun e w' => e = .returned (.bool true) ∧ Below w.heap.size w w' := by
  obtain ⟨l0, rfl, hr0, hm0, hw0, hc0⟩ := ReadsInt.ofRowC w0
  obtain ⟨k, h⟩ := P l0 hm0 y0 hw0
  refine (laws_FnPaths.calls k _ _ l0 true w (Kd.C_of_reads (d := (0 : Int)) (h1 := fun _ => rfl) hr0) hc0 h).mono ?_
  rintro e w' ⟨rfl, hd⟩
  exact ⟨rfl, hd⟩

end Go.Proofs.Ytmkhhnfmahdijaa.X

/- Plain lemmas for what the printed functions compute: enough rounds ('Ev'), tests, bounds of whole numbers, lists. No Go, no memory. -/
set_option linter.unusedVariables false
namespace Go.Proofs.Ytmkhhnfmahdijaa.Z
open Go.RowKit Go.Proofs.YtmkhhnfmahdijaaW.PrintWords Go.Proofs.YtmkhhnfmahdijaaW.PrintMore

theorem evT {α : Type} {c : Prop} [Decidable c] {f g : Nat → Option α} {r : α} (h : c) (H : Ev f r) : Ev (fun k => if c then f k else g k) r := by
  obtain ⟨K, hK⟩ := H
  exact ⟨K, fun k hk => (if_pos h).trans (hK k hk)⟩
theorem evF {α : Type} {c : Prop} [Decidable c] {f g : Nat → Option α} {r : α} (h : ¬ c) (H : Ev g r) : Ev (fun k => if c then f k else g k) r := by
  obtain ⟨K, hK⟩ := H
  exact ⟨K, fun k hk => (if_neg h).trans (hK k hk)⟩
theorem evI {α : Type} {c : Prop} [Decidable c] {f g : Nat → Option α} {r : α} (H : c → Ev f r) (H' : ¬ c → Ev g r) : Ev (fun k => if c then f k else g k) r := by
  by_cases h : c
  · exact evT h (H h)
  · exact evF h (H' h)
theorem evB {α β : Type} {g : Nat → Option α} {f : Nat → α → Option β} {a : α} {r : β} (h : Ev g a) (k : Ev (fun n => f n a) r) : Ev (fun n => (g n).bind (f n)) r := Ev.bind h k
theorem evR {α : Type} {r r' : α} (h : r = r') : Ev (fun _ => some r) r' := h ▸ Ev.now r
/-- A callee without rounds. -/
theorem evC {α β : Type} {x : Option α} {f : Nat → α → Option β} {a : α} {r : β} (h : x = some a) (k : Ev (fun n => f n a) r) : Ev (fun n => x.bind (f n)) r := by
  subst h
  exact k
theorem evS {α : Type} {g f : Nat → Option α} {r : α} (h : ∀ k, g (k + 1) = f k) (k : Ev f r) : Ev g r := Ev.step h k
theorem evE {α : Type} {g : Nat → Option α} {r r' : α} (h : r = r') (k : Ev g r) : Ev g r' := h ▸ k
/-- Two answers of one function are one. -/
theorem ev_one {α : Type} {g : Nat → Option α} {r r' : α} (h : Ev g r) (h' : Ev g r') : r = r' := by
  obtain ⟨K, hK⟩ := h
  obtain ⟨L, hL⟩ := h'
  have a := hK (max K L) (Nat.le_max_left _ _)
  have b := hL (max K L) (Nat.le_max_right _ _)
  rw [a] at b
  exact Option.some.inj b

theorem w64 {x : Int} (h : -9223372036854775808 ≤ x ∧ x ≤ 9223372036854775807) : wrap64 x = x := by unfold wrap64; omega
theorem w64s {i n : Nat} (h : i < n) (hn : n ≤ 9223372036854775807) : wrap64 ((i : Int) + 1) = ((i + 1 : Nat) : Int) := by unfold wrap64; omega
theorem wu64 {x : Int} (h : 0 ≤ x ∧ x ≤ 18446744073709551615) : IntKind.u64.wrap x = x := by
  simp [IntKind.wrap, IntKind.bits, IntKind.signed]
  omega
theorem wi64 (x : Int) : IntKind.i64.wrap x = wrap64 x := by rw [Go.IntKind.wrap_i64]; unfold wrap64; rfl
theorem wraps_i64 (n : Int) (h₀ : 0 ≤ n) (h₁ : n < 2 ^ 63) : IntKind.i64.wrap n = n := by
  rw [wi64, w64]
  have : (2 : Int) ^ 63 = 9223372036854775808 := by decide
  omega

/-- Two lists that tell the same at each place. -/
theorem ext_get {α : Type} {l m : List α} (hn : l.length = m.length) (h : ∀ j, j < m.length → l[j]? = m[j]?) : l = m := by
  apply List.ext_getElem?
  intro j
  rcases Nat.lt_or_ge j m.length with hj | hj
  · exact h j hj
  · rw [List.getElem?_eq_none (by omega), List.getElem?_eq_none (by omega)]
theorem rd_get {l : List Int} {i : Nat} (h : i < l.length) : l[i]? = some (rd l (i : Int)) := by
  simp [rd, List.getElem?_eq_getElem h]
theorem rdOf_get {α : Type} {d : α} {l : List α} {i : Nat} (h : i < l.length) : l[i]? = some (rdOf d l (i : Int)) := by
  simp [rdOf, List.getElem?_eq_getElem h]
/-- A place that is written as it must be: one more place tells the same. -/
theorem set_next {α : Type} {l m : List α} {i : Nat} {x : α} (hn : l.length = m.length) (hi : i < m.length) (hx : m[i]? = some x) (h : ∀ j, j < i → l[j]? = m[j]?) : ∀ j, j < i + 1 → (l.set i x)[j]? = m[j]? := by
  intro j hj
  rcases Nat.lt_or_ge j i with h1 | h1
  · rw [List.getElem?_set_ne (by omega)]
    exact h j h1
  · obtain rfl : i = j := by omega
    rw [List.getElem?_set_self (by omega), hx]
end Go.Proofs.Ytmkhhnfmahdijaa.Z

/- The program's digests of leaves and nodes. Plain lemmas. -/
set_option linter.unusedVariables false
namespace Go.Proofs.Ytmkhhnfmahdijaa.ZI
open Go.RowKit Go.Proofs.YtmkhhnfmahdijaaW.PrintWords Go.Proofs.YtmkhhnfmahdijaaW.PrintMore Go.Proofs.Ytmkhhnfmahdijaa.X Go.Proofs.Ytmkhhnfmahdijaa.Z Go.Proofs.Ytmkhhnfmahdijaa.Sha

/-- The bytes of a count, from group i down. -/
def lenB (x : Int) : Nat → List Int
  | 0 => []
  | i + 1 => (shr .i64 x ((8 * i : Nat) : Int) % 256) :: lenB x i
theorem lenB_length (x : Int) (i : Nat) : (lenB x i).length = i := by
  induction i with
  | zero => rfl
  | succ i ih => simp [lenB, ih]
def padB (b : List Int) : List Int := b ++ (128 :: List.replicate ((119 - b.length % 64) % 64) 0) ++ lenB (8 * (b.length : Int)) 8
theorem padB_length (b : List Int) : (padB b).length = b.length + 1 + (119 - b.length % 64) % 64 + 8 := by
  simp [padB, lenB_length]
  omega
theorem padB_mod (b : List Int) : (padB b).length % 64 = 0 := by rw [padB_length]; omega

theorem implPad_l1 (x : Int) : ∀ (i : Nat) (m : List Int), i ≤ 8 → m.length + i < 140737488355328 → Ev (fun k => impl_Padded.l1 k m x ((i : Int) - 1)) (m ++ lenB x i) := by
  intro i
  induction i with
  | zero =>
    intro m h0 h1
    exact evS (fun k => by rw [impl_Padded.l1]) (evF (by omega) (evR (by simp [lenB])))
  | succ i ih =>
    intro m h0 h1
    have hw : wrap64 (8 * (((i + 1 : Nat) : Int) - 1)) = ((8 * i : Nat) : Int) := by rw [w64 (by omega)]; omega
    have hu : IntKind.u64.wrap ((8 * i : Nat) : Int) = ((8 * i : Nat) : Int) := wu64 (by omega)
    refine evS (fun k => by rw [impl_Padded.l1]) (evT (by omega) ?_)
    rw [hw, hu]
    refine evT (by omega) (evT (by omega) ?_)
    rw [w64 (x := ((i + 1 : Nat) : Int) - 1 - 1) (by omega), show ((i + 1 : Nat) : Int) - 1 - 1 = (i : Int) - 1 by omega]
    refine evE ?_ (ih _ (by omega) (by simp; omega))
    simp [lenB]
theorem implPad_l0 (b : List Int) (hb : b.length ≤ 100000000000) (d : Nat) : ∀ (m : List Int), d < 64 → (m.length + d) % 64 = 56 → m.length + d ≤ 140000000000000 → Ev (fun k => impl_Padded.l0 k b m) (m ++ List.replicate d 0 ++ lenB (8 * (b.length : Int)) 8) := by
  induction d with
  | zero =>
    intro m h0 h1 h2
    have hw : wrap64 ((m.length : Int) + 8) = (m.length : Int) + 8 := w64 (by omega)
    refine evS (fun k => by rw [impl_Padded.l0]) ?_
    rw [hw, Int.tmod_eq_emod_of_nonneg (by omega)]
    refine evT (by omega) ?_
    rw [w64 (x := 8 * (b.length : Int)) (by omega)]
    refine evE ?_ (implPad_l1 (8 * (b.length : Int)) 8 m (by omega) (by omega))
    simp
  | succ d ih =>
    intro m h0 h1 h2
    have hw : wrap64 ((m.length : Int) + 8) = (m.length : Int) + 8 := w64 (by omega)
    refine evS (fun k => by rw [impl_Padded.l0]) ?_
    rw [hw, Int.tmod_eq_emod_of_nonneg (by omega)]
    refine evF (by omega) (evT (by omega) ?_)
    refine evE ?_ (ih _ (by omega) (by simp; omega) (by simp; omega))
    simp [List.replicate_succ]
theorem implPad_ev (b : List Int) (hb : b.length ≤ 100000000000) : Ev (fun k => impl_Padded.f k b) (padB b) := by
  unfold impl_Padded.f
  refine evC (a := b) (by unfold slices_Clone_byte_byte.f; rw [if_pos (by omega)]) ?_
  refine evT (by omega) ?_
  refine evE ?_ (implPad_l0 b hb ((119 - b.length % 64) % 64) _ (by omega) (by simp; omega) (by simp; omega))
  simp [padB]

/-- The digest of a list of bytes. -/
def dig (b : List Int) : ByteArray := text (padB b)
theorem implDigest_ev (b : List Int) (hl : b.length ≤ 100000000000) : Ev (fun k => impl_Digest.f k b) (dig b) := by
  unfold impl_Digest.f
  have hm := padB_mod b
  have hn := padB_length b
  refine evB (implPad_ev b hl) ?_
  exact evT ⟨hm, by omega, by omega⟩ (evR rfl)
theorem dig_size (b : List Int) : (dig b).size = 32 := by
  unfold dig text
  have := bytes_length (fold (padB b) (List.range ((padB b).length / 64))) 8
  simp [strOfNums, ByteArray.size, this]


theorem bo_len (s : ByteArray) : (bytesOf s).length = s.size := bytesOf_length s
def leaf (a : ByteArray) : ByteArray := dig ([0] ++ bytesOf a)
def node (a b : ByteArray) : ByteArray := dig (([1] ++ bytesOf a) ++ bytesOf b)
theorem leaf_size (a : ByteArray) : (leaf a).size = 32 := dig_size _
theorem node_size (a b : ByteArray) : (node a b).size = 32 := dig_size _
theorem implLeaf_ev (a : ByteArray) (h : a.size ≤ 10000000000) : Ev (fun k => impl_LeafHash.f k a) (leaf a) := by
  have hl := bo_len a
  unfold impl_LeafHash.f
  exact evC rfl (evT (by simp; omega) (evB (implDigest_ev _ (by simp; omega)) (evR rfl)))
theorem implNode_ev (a b : ByteArray) (h : a.size ≤ 10000000000) (h' : b.size ≤ 10000000000) : Ev (fun k => impl_NodeHash.f k a b) (node a b) := by
  have hl := bo_len a
  have hl' := bo_len b
  unfold impl_NodeHash.f
  exact evC rfl (evT (by simp; omega) (evC rfl (evT (by simp; omega) (evB (implDigest_ev _ (by simp; omega)) (evR rfl)))))

end Go.Proofs.Ytmkhhnfmahdijaa.ZI

/- The program's halves and roots. Plain lemmas. -/
set_option linter.unusedVariables false
namespace Go.Proofs.Ytmkhhnfmahdijaa.ZI
open Go.RowKit Go.Proofs.YtmkhhnfmahdijaaW.PrintWords Go.Proofs.YtmkhhnfmahdijaaW.PrintMore Go.Proofs.Ytmkhhnfmahdijaa.X Go.Proofs.Ytmkhhnfmahdijaa.Z
/-- Doubling c as long as twice it is less than n. -/
def hl (n c : Nat) : Nat := if h : 1 ≤ c ∧ 2 * c < n then hl n (2 * c) else c
termination_by n - c
decreasing_by omega
theorem hl_impl (n : Nat) (hn : n ≤ 1000000000) (d : Nat) : ∀ c : Nat, n - c ≤ d → 1 ≤ c → c < n → Ev (fun k => impl_half.l0 k (n : Int) (c : Int)) (hl n c : Int) ∧ c ≤ hl n c ∧ hl n c < n := by
  induction d with
  | zero => intro c h1 h2 h3; omega
  | succ d ih =>
    intro c h1 h2 h3
    have e : wrap64 (2 * (c : Int)) = ((2 * c : Nat) : Int) := by rw [w64 (by omega)]; omega
    have e' : wrap64 ((c : Int) * 2) = ((2 * c : Nat) : Int) := by rw [w64 (by omega)]; omega
    by_cases hc : 2 * c < n
    · obtain ⟨a, g, g'⟩ := ih (2 * c) (by omega) (by omega) hc
      rw [hl, dif_pos ⟨h2, hc⟩]
      refine ⟨?_, by omega, g'⟩
      · refine evS (fun k => by rw [impl_half.l0]) ?_
        rw [e, e']
        exact evT (by omega) a
    · rw [hl, dif_neg (fun h => hc h.2)]
      refine ⟨?_, by omega, h3⟩
      · refine evS (fun k => by rw [impl_half.l0]) ?_
        rw [e]
        exact evF (by omega) (evR rfl)
/-- The greatest power of two below n. -/
def hf (n : Nat) : Nat := hl n 1
theorem hf_impl {n : Nat} (h2 : 2 ≤ n) (hn : n ≤ 1000000000) : Ev (fun k => impl_half.f k (n : Int)) (hf n : Int) := (hl_impl n hn n 1 (by omega) (by omega) (by omega)).1
theorem hl_ge (n d : Nat) : ∀ c : Nat, n - c ≤ d → 1 ≤ c → c < n → c ≤ hl n c ∧ hl n c < n := by
  induction d with
  | zero => intro c h1 h2 h3; omega
  | succ d ih =>
    intro c h1 h2 h3
    by_cases hc : 2 * c < n
    · obtain ⟨g, g'⟩ := ih (2 * c) (by omega) (by omega) hc
      rw [hl, dif_pos ⟨h2, hc⟩]
      omega
    · rw [hl, dif_neg (fun h => hc h.2)]
      omega
theorem hf_lt {n : Nat} (h2 : 2 ≤ n) : 1 ≤ hf n ∧ hf n < n := hl_ge n n 1 (by omega) (by omega) (by omega)
/-- Texts that are not too long. -/
def Fit (l : List ByteArray) : Prop := ∀ y ∈ l, y.size ≤ 10000000000
theorem Fit.take {l : List ByteArray} (h : Fit l) (n : Nat) : Fit (l.take n) := fun y hy => h y (List.mem_of_mem_take hy)
theorem Fit.drop {l : List ByteArray} (h : Fit l) (n : Nat) : Fit (l.drop n) := fun y hy => h y (List.mem_of_mem_drop hy)

/-- The root of texts. -/
def root (l : List ByteArray) : ByteArray :=
  if h : l.length < 2 then (match l with | [] => dig [] | a :: _ => leaf a)
  else node (root (l.take (hf l.length))) (root (l.drop (hf l.length)))
termination_by l.length
decreasing_by
  · have := hf_lt (n := l.length) (by omega); simp; omega
  · have := hf_lt (n := l.length) (by omega); simp; omega
theorem root_nil : root [] = dig [] := by rw [root]; rfl
theorem root_one (a : ByteArray) : root [a] = leaf a := by rw [root]; rfl
theorem root_more {l : List ByteArray} (h : ¬ l.length < 2) : root l = node (root (l.take (hf l.length))) (root (l.drop (hf l.length))) := by rw [root, dif_neg h]
theorem root_size (l : List ByteArray) : (root l).size = 32 := by
  by_cases h : l.length < 2
  · match l, h with
    | [], _ => rw [root_nil]; exact dig_size _
    | [a], _ => rw [root_one]; exact leaf_size a
  · rw [root_more h]
    exact node_size _ _
theorem root_impl : ∀ (n : Nat) (l : List ByteArray), l.length = n → n ≤ 1000000000 → Fit l → Ev (fun k => impl_rootOf.f k l) (root l) := by
  intro n
  induction n using Nat.strongRecOn with
  | ind n ih =>
    intro l hl hn hf'
    by_cases h2 : l.length < 2
    · match l, h2 with
      | [], _ =>
        rw [root_nil]
        refine evS (fun k => by rw [impl_rootOf.f]) ?_
        exact evT rfl (evB (implDigest_ev [] (by simp)) (evR rfl))
      | [a], _ =>
        rw [root_one]
        have ha := hf' a (by simp)
        refine evS (fun k => by rw [impl_rootOf.f]) ?_
        exact evF (by simp) (evT rfl (evT (by simp) (evB (implLeaf_ev a ha) (evR rfl))))
    · obtain ⟨g1, g2⟩ := hf_lt (n := l.length) (by omega)
      have hA := hf_impl (n := l.length) (by omega) (by omega)
      rw [root_more h2]
      generalize hf l.length = c at *
      have i1 := ih c (by omega) (l.take c) (by simp; omega) (by omega) (hf'.take c)
      have i2 := ih (l.length - c) (by omega) (l.drop c) (by simp) (by omega) (hf'.drop c)
      have z1 := root_size (l.take c)
      have z2 := root_size (l.drop c)
      have ec : ((c : Nat) : Int).toNat = c := by omega
      · refine evS (fun k => by rw [impl_rootOf.f]) ?_
        refine evF (by omega) (evF (by omega) (evB hA ?_))
        rw [ec]
        exact evT (by omega) (evT (by omega) (evB i1 (evB i2 (evB (implNode_ev _ _ (by omega) (by omega)) (evR rfl)))))

theorem rootOf_impl (l : List ByteArray) (hl : l.length ≤ 200) (h : Fit l) : Ev (fun k => impl_RootOf.f k l) (root l) := by
  unfold impl_RootOf.f
  exact evF (by omega) (evB (root_impl l.length l rfl (by omega) h) (evR rfl))
end Go.Proofs.Ytmkhhnfmahdijaa.ZI

/- The program's paths, and what comes of them. Plain lemmas. -/
set_option linter.unusedVariables false
namespace Go.Proofs.Ytmkhhnfmahdijaa.ZI
open Go.RowKit Go.Proofs.YtmkhhnfmahdijaaW.PrintWords Go.Proofs.YtmkhhnfmahdijaaW.PrintMore Go.Proofs.Ytmkhhnfmahdijaa.X Go.Proofs.Ytmkhhnfmahdijaa.Z
/-- The path of the i-th. -/
def path (l : List ByteArray) (i : Int) : List ByteArray :=
  if h : l.length < 2 then []
  else if i < hf l.length then path (l.take (hf l.length)) i ++ [root (l.drop (hf l.length))] else path (l.drop (hf l.length)) (i - hf l.length) ++ [root (l.take (hf l.length))]
termination_by l.length
decreasing_by
  · have := hf_lt (n := l.length) (by omega); simp; omega
  · have := hf_lt (n := l.length) (by omega); simp; omega
theorem path_small {l : List ByteArray} (h : l.length < 2) (i : Int) : path l i = [] := by rw [path, dif_pos h]
theorem path_more {l : List ByteArray} (h : ¬ l.length < 2) (i : Int) : path l i = if i < hf l.length then path (l.take (hf l.length)) i ++ [root (l.drop (hf l.length))] else path (l.drop (hf l.length)) (i - hf l.length) ++ [root (l.take (hf l.length))] := by rw [path, dif_neg h]
theorem path_impl : ∀ (n : Nat) (l : List ByteArray) (i : Int), l.length = n → 1 ≤ n → n ≤ 1000000000 → 0 ≤ i → i ≤ 1000000000 → Fit l → Ev (fun k => impl_inPath.f k l i) (path l i) ∧ (path l i).length ≤ n ∧ ∀ y ∈ path l i, y.size = 32 := by
  intro n
  induction n using Nat.strongRecOn with
  | ind n ih =>
    intro l i hl h1 hn hi hi' hf'
    by_cases h2 : l.length < 2
    · rw [path_small h2]
      refine ⟨?_, by simp, by simp⟩
      · refine evS (fun k => by rw [impl_inPath.f]) ?_
        exact evT (by omega) (evR rfl)
    · obtain ⟨g1, g2⟩ := hf_lt (n := l.length) (by omega)
      have hA := hf_impl (n := l.length) (by omega) (by omega)
      rw [path_more h2]
      generalize hf l.length = c at *
      have i1 := root_impl c (l.take c) (by simp; omega) (by omega) (hf'.take c)
      have i2 := root_impl (l.length - c) (l.drop c) (by simp) (by omega) (hf'.drop c)
      have z1 := root_size (l.take c)
      have z2 := root_size (l.drop c)
      have ec : ((c : Nat) : Int).toNat = c := by omega
      by_cases hic : i < c
      · obtain ⟨a, g, g'⟩ := ih c (by omega) (l.take c) i (by simp; omega) g1 (by omega) hi hi' (hf'.take c)
        rw [if_pos hic]
        refine ⟨?_, by simp; omega, ?_⟩
        · refine evS (fun k => by rw [impl_inPath.f]) ?_
          refine evF (by omega) (evB hA ?_)
          rw [ec]
          exact evT hic (evT (by omega) (evT (by omega) (evB a (evB i2 (evT (by omega) (evR rfl))))))
        · intro y hy
          rcases List.mem_append.1 hy with h | h
          · exact g' y h
          · rw [List.mem_singleton.1 h]; exact z2
      · obtain ⟨a, g, g'⟩ := ih (l.length - c) (by omega) (l.drop c) (i - c) (by simp) (by omega) (by omega) (by omega) (by omega) (hf'.drop c)
        have ew : wrap64 (i - (c : Int)) = i - c := w64 (by omega)
        rw [if_neg hic]
        refine ⟨?_, by simp; omega, ?_⟩
        · refine evS (fun k => by rw [impl_inPath.f]) ?_
          refine evF (by omega) (evB hA ?_)
          rw [ec, ew]
          exact evF hic (evT (by omega) (evT (by omega) (evB a (evB i1 (evT (by omega) (evR rfl))))))
        · intro y hy
          rcases List.mem_append.1 hy with h | h
          · exact g' y h
          · rw [List.mem_singleton.1 h]; exact z1

theorem rng_impl (a b c : Int) : impl_inRange.f a b c = some (decide (b ≤ a ∧ a ≤ c)) := by
  unfold impl_inRange.f
  by_cases h : a ≥ b
  · rw [if_pos h]
    simp [show b ≤ a from h]
  · rw [if_neg h]
    simp [show ¬ b ≤ a from h]
theorem inPath_impl (l : List ByteArray) (i : Int) (h : Fit l) (hl : l.length ≤ 200) (h0 : 0 ≤ i) (h1 : i < l.length) : Ev (fun k => impl_InPath.f k l i) (path l i) := by
  unfold impl_InPath.f
  rw [w64 (x := (l.length : Int) - 1) (by omega), rng_impl, decide_eq_true (show 0 ≤ i ∧ i ≤ (l.length : Int) - 1 by omega)]
  obtain ⟨a, _⟩ := path_impl l.length l i rfl (by omega) (by omega) h0 (by omega) h
  exact evF (by omega) (evC rfl (evT rfl (evB a (evR rfl))))

def lastOf (p : List ByteArray) : ByteArray := rdOf ByteArray.empty p ((p.length - 1 : Nat) : Int)
def up (s : ByteArray) (i : Int) (n : Nat) (p : List ByteArray) : ByteArray × Bool :=
  if h : n < 2 then (s, (p.length : Int) == 0)
  else if p.length = 0 then (⟨#[]⟩, false)
  else if i < hf n then (node (up s i (hf n) (p.take (p.length - 1))).1 (lastOf p), (up s i (hf n) (p.take (p.length - 1))).2)
  else (node (lastOf p) (up s (i - hf n) (n - hf n) (p.take (p.length - 1))).1, (up s (i - hf n) (n - hf n) (p.take (p.length - 1))).2)
termination_by n
decreasing_by
  all_goals have := hf_lt (n := n) (by omega); omega
theorem up_one {n : Nat} (h : n < 2) (s : ByteArray) (i : Int) (p : List ByteArray) : up s i n p = (s, (p.length : Int) == 0) := by rw [up, dif_pos h]
theorem up_nil {n : Nat} (h : ¬ n < 2) (s : ByteArray) (i : Int) {p : List ByteArray} (hp : p.length = 0) : up s i n p = (⟨#[]⟩, false) := by rw [up, dif_neg h, if_pos hp]
theorem up_lo {n : Nat} (h : ¬ n < 2) (s : ByteArray) {i : Int} {p : List ByteArray} (hp : ¬ p.length = 0) (hi : i < hf n) : up s i n p = (node (up s i (hf n) (p.take (p.length - 1))).1 (lastOf p), (up s i (hf n) (p.take (p.length - 1))).2) := by rw [up, dif_neg h, if_neg hp, if_pos hi]
theorem up_hi {n : Nat} (h : ¬ n < 2) (s : ByteArray) {i : Int} {p : List ByteArray} (hp : ¬ p.length = 0) (hi : ¬ i < hf n) : up s i n p = (node (lastOf p) (up s (i - hf n) (n - hf n) (p.take (p.length - 1))).1, (up s (i - hf n) (n - hf n) (p.take (p.length - 1))).2) := by rw [up, dif_neg h, if_neg hp, if_neg hi]
theorem lastOf_fit {p : List ByteArray} (h : Fit p) (hp : ¬ p.length = 0) : (lastOf p).size ≤ 10000000000 := by
  have hlt : p.length - 1 < p.length := by omega
  have : lastOf p = p[p.length - 1] := by
    unfold lastOf rdOf
    rw [show (((p.length - 1 : Nat) : Int)).toNat = p.length - 1 by omega]
    simp [hlt]
  rw [this]
  exact h _ (List.getElem_mem _)
theorem up_impl (s : ByteArray) (hs : s.size ≤ 10000000000) : ∀ (n : Nat) (i : Int) (p : List ByteArray), 1 ≤ n → n ≤ 1000000000 → 0 ≤ i → i ≤ 1000000000 → Fit p → p.length ≤ 1000000000 →
    Ev (fun k => impl_climb.f k s i (n : Int) p) (up (leaf s) i n p) ∧ (up (leaf s) i n p).1.size ≤ 32 := by
  intro n
  induction n using Nat.strongRecOn with
  | ind n ih =>
    intro i p h1 hn hi hi' hF hp
    by_cases h2 : n < 2
    · rw [up_one h2]
      refine ⟨?_, by rw [leaf_size]; exact Nat.le_refl _⟩
      · refine evS (fun k => by rw [impl_climb.f]) ?_
        exact evT (by omega) (evB (implLeaf_ev s hs) (evR rfl))
    · have hne : ¬ (n : Int) = 1 := by omega
      have hn2 : ¬ (n : Int) < 2 := by omega
      by_cases hp0 : p.length = 0
      · rw [up_nil h2 _ _ hp0]
        refine ⟨?_, by decide⟩
        · refine evS (fun k => by rw [impl_climb.f]) ?_
          exact evF hne (evF (by omega) (evR rfl))
      · obtain ⟨g1, g2⟩ := hf_lt (n := n) (by omega)
        have hA := hf_impl (n := n) (by omega) (by omega)
        have hz := lastOf_fit hF hp0
        have ew : wrap64 ((p.length : Int) - 1) = ((p.length - 1 : Nat) : Int) := by rw [w64 (by omega)]; omega
        have et : (((p.length - 1 : Nat) : Int)).toNat = p.length - 1 := by omega
        have hT : (p.take (p.length - 1)).length ≤ 1000000000 := by simp; omega
        have hpl : ¬ (p.length : Int) = 0 := by omega
        have hpp : 0 < p.length := by omega
        have hp9 : p.length ≤ 9000000000000000000 := by omega
        by_cases hic : i < hf n
        · rw [up_lo h2 _ hp0 hic]
          generalize hf n = c at *
          obtain ⟨a, z⟩ := ih c (by omega) i (p.take (p.length - 1)) g1 (by omega) hi hi' (hF.take _) hT
          refine ⟨?_, by rw [node_size]; exact Nat.le_refl _⟩
          · refine evS (fun k => by rw [impl_climb.f]) ?_
            exact evF hne (evT hpp (evT hp9 (evB hA (evT hic (evB a (evB (implNode_ev _ _ (by omega) hz) (evR rfl)))))))
        · rw [up_hi h2 _ hp0 hic]
          generalize hf n = c at *
          obtain ⟨a, z⟩ := ih (n - c) (by omega) (i - c) (p.take (p.length - 1)) (by omega) (by omega) (by omega) (by omega) (hF.take _) hT
          have e1 : wrap64 (i - (c : Int)) = i - c := w64 (by omega)
          have e2 : wrap64 ((n : Int) - (c : Int)) = ((n - c : Nat) : Int) := by rw [w64 (by omega)]; omega
          refine ⟨?_, by rw [node_size]; exact Nat.le_refl _⟩
          · refine evS (fun k => by rw [impl_climb.f]) ?_
            refine evF hne (evT hpp (evT hp9 (evB hA (evF hic ?_))))
            rw [e1, e2]
            exact evB a (evB (implNode_ev _ _ hz (by omega)) (evR rfl))
def checkIn (s : ByteArray) (i n : Int) (p : List ByteArray) (r : ByteArray) : Bool :=
  if 1 ≤ n ∧ n ≤ 200 then (if 0 ≤ i ∧ i ≤ n - 1 then (if (up (leaf s) i n.toNat p).2 = true then ((up (leaf s) i n.toNat p).1.toList == r.toList) else false) else false) else false
theorem checkIn_impl (s : ByteArray) (hs : s.size ≤ 10000000000) (i n : Int) (p : List ByteArray) (hF : Fit p) (hp : p.length ≤ 1000000000) (r : ByteArray) :
    Ev (fun k => impl_CheckIn.f k s i n p r) (checkIn s i n p r) := by
  unfold checkIn impl_CheckIn.f
  rw [rng_impl]
  by_cases h1 : 1 ≤ n ∧ n ≤ 200
  · rw [if_pos h1, decide_eq_true h1, w64 (x := n - 1) (by omega), rng_impl]
    by_cases h2 : 0 ≤ i ∧ i ≤ n - 1
    · rw [if_pos h2, decide_eq_true h2]
      obtain ⟨m, rfl⟩ := Int.eq_ofNat_of_zero_le (show 0 ≤ n by omega)
      obtain ⟨a, _⟩ := up_impl s hs m i p (by omega) (by omega) h2.1 (by omega) hF hp
      rw [show ((m : Nat) : Int).toNat = m by omega]
      · refine evC rfl (evT rfl (evC rfl (evT rfl (evB a ?_))))
        by_cases hb : (up (leaf s) i m p).2 = true
        · exact evE (if_pos hb).symm (evT hb (evR rfl))
        · exact evE (if_neg hb).symm (evF hb (evR rfl))
    · rw [if_neg h2, decide_eq_false h2]
      · exact evC rfl (evT rfl (evC rfl (evF Bool.false_ne_true (evR rfl))))
  · rw [if_neg h1, decide_eq_false h1]
    · exact evC rfl (evF Bool.false_ne_true (evR rfl))

end Go.Proofs.Ytmkhhnfmahdijaa.ZI

/- What the reference's draws of one number give. No Go, no memory. -/
set_option linter.unusedVariables false
namespace Go.Proofs.Ytmkhhnfmahdijaa.Z
open Go.RowKit Go.Proofs.YtmkhhnfmahdijaaW.PrintWords Go.Proofs.YtmkhhnfmahdijaaW.PrintMore Go.Proofs.Ytmkhhnfmahdijaa.X

theorem and255 (a : Int) : 0 ≤ Go.bits .and .i64 a 255 ∧ Go.bits .and .i64 a 255 ≤ 255 := by
  have h : ((BitVec.ofInt 64 a &&& BitVec.ofInt 64 255).toNat) ≤ 255 := by
    rw [BitVec.toNat_and]
    exact Nat.and_le_right
  have h2 : Go.bits .and .i64 a 255 = IntKind.i64.wrap (((BitVec.ofInt 64 a &&& BitVec.ofInt 64 255).toNat : Nat) : Int) := rfl
  rw [h2, wi64, w64 (by omega)]
  omega
/-- A place of the cursor over l. -/
def At (l : List Int) (i : Int) : Prop := 0 ≤ i ∧ i ≤ l.length
theorem byte_some (l : List Int) (hl : l.length ≤ 140737488355328) (i h : Int) (hi : At l i) : ∃ x i' h', spec_l1Byte.f l i h = some (x, i', h') ∧ 0 ≤ x ∧ x ≤ 255 ∧ At l i' := by
  unfold At at *
  unfold spec_l1Byte.f
  by_cases h1 : i < (l.length : Int)
  · rw [if_pos h1, if_pos hi.1, w64 (x := i + 1) (by omega)]
    exact ⟨_, _, _, rfl, (and255 _).1, (and255 _).2, by omega, by omega⟩
  · rw [if_neg h1]
    exact ⟨_, _, _, rfl, (and255 _).1, (and255 _).2, hi⟩
theorem below_some (l : List Int) (hl : l.length ≤ 140737488355328) (i h n : Int) (hi : At l i) (hn : n ≤ 1000000) : ∃ x i' h', spec_l1Below.f l i h n = some (x, i', h') ∧ 0 ≤ x ∧ (x < n ∨ x = 0) ∧ At l i' := by
  unfold spec_l1Below.f
  by_cases h0 : n ≤ 0
  · rw [if_pos h0]
    exact ⟨_, _, _, rfl, by omega, .inr rfl, hi⟩
  rw [if_neg h0]
  by_cases h1 : n ≤ 256
  · rw [if_pos h1]
    obtain ⟨x, i', h', e, hx0, hx1, hi'⟩ := byte_some l hl i h hi
    rw [e]
    simp only [Option.bind_some]
    rw [if_neg (by omega), Int.tmod_eq_emod_of_nonneg hx0]
    exact ⟨_, _, _, rfl, Int.emod_nonneg _ (by omega), .inl (Int.emod_lt_of_pos _ (by omega)), hi'⟩
  · rw [if_neg h1]
    obtain ⟨x, i1, h1', e1, hx0, hx1, hi1⟩ := byte_some l hl i h hi
    obtain ⟨y, i2, h2', e2, hy0, hy1, hi2⟩ := byte_some l hl i1 h1' hi1
    obtain ⟨z, i3, h3', e3, hz0, hz1, hi3⟩ := byte_some l hl i2 h2' hi2
    rw [e1]
    simp only [Option.bind_some]
    rw [e2]
    simp only [Option.bind_some]
    rw [e3]
    simp only [Option.bind_some]
    rw [if_neg (by omega), w64 (x := x * 65536) (by omega), w64 (x := y * 256) (by omega), w64 (x := x * 65536 + y * 256) (by omega), w64 (x := x * 65536 + y * 256 + z) (by omega), Int.tmod_eq_emod_of_nonneg (by omega)]
    exact ⟨_, _, _, rfl, Int.emod_nonneg _ (by omega), .inl (Int.emod_lt_of_pos _ (by omega)), hi3⟩
theorem int_some (l : List Int) (hl : l.length ≤ 140737488355328) (i h : Int) (m : List Int) (hi : At l i) (hm : 0 < m.length) (hm2 : m.length ≤ 1000) : ∃ x i' h', spec_l1Int.f l i h m = some (x, i', h') ∧ x ∈ m ∧ At l i' := by
  unfold spec_l1Int.f
  obtain ⟨x, i', h', e, hx0, hx1, hi'⟩ := below_some l hl i h (m.length : Int) hi (by omega)
  rw [e]
  simp only [Option.bind_some]
  rw [if_pos hx0, if_pos (by omega)]
  refine ⟨_, _, _, rfl, ?_, hi'⟩
  have := rd_get (l := m) (i := x.toNat) (by omega)
  rw [show ((x.toNat : Nat) : Int) = x by omega] at this
  exact List.mem_of_getElem? this
theorem new_l0 (l : List Int) (hl : l.length ≤ 140737488355328) (d : Nat) : ∀ (j : Nat) (h : Int), j + d = l.length → ∃ h', Ev (fun k => spec_l1New.l0 k l h (j : Int)) (l, 0, h') := by
  induction d with
  | zero =>
    intro j h hj
    exact ⟨h, evS (fun k => by rw [spec_l1New.l0]) (evF (by omega) (evR rfl))⟩
  | succ d ih =>
    intro j h hj
    by_cases h4 : (j : Int) < 4000
    · obtain ⟨h', e⟩ := ih (j + 1) (Go.bits .and .i64 (wrap64 ((wrap64 ((wrap64 (h * 137)) + (wrap64 (rd l (j : Int))))) + 11)) 1073741823) (by omega)
      refine ⟨h', evS (fun k => by rw [spec_l1New.l0]) (evT (by omega) (evT h4 (evT (by omega) ?_)))⟩
      rw [w64s (show j < l.length by omega) (by omega)]
      exact e
    · exact ⟨h, evS (fun k => by rw [spec_l1New.l0]) (evT (by omega) (evF h4 (evR rfl)))⟩
theorem new_some (l : List Int) (hl : l.length ≤ 140737488355328) : ∃ h', Ev (fun k => spec_l1New.f k l) (l, 0, h') := by
  obtain ⟨h', e⟩ := new_l0 l hl l.length 0 (wrap64 (372372 + (l.length : Int))) (by omega)
  exact ⟨h', e⟩
theorem strOf_size' (l : List Int) : (strOfNums l).size = l.length := by simp [strOfNums, ByteArray.size]
theorem at_zero (l : List Int) : At l 0 := ⟨by omega, by omega⟩
theorem u8_wf {x : Int} (h : 0 ≤ x ∧ x ≤ 255) : (Lit.int .u8 x).wf = true := by
  simp [Lit.wf, IntKind.min, IntKind.max, IntKind.signed, IntKind.bits]
  omega

end Go.Proofs.Ytmkhhnfmahdijaa.Z

/- A drawn text. No Go, no memory. -/
set_option linter.unusedVariables false
namespace Go.Proofs.Ytmkhhnfmahdijaa.Z
open Go.RowKit Go.Proofs.YtmkhhnfmahdijaaW.PrintWords Go.Proofs.YtmkhhnfmahdijaaW.PrintMore Go.Proofs.Ytmkhhnfmahdijaa.X

theorem str_some (l : List Int) (hl : l.length ≤ 140737488355328) (i h : Int) (m : List ByteArray) (hi : At l i) (hm : 0 < m.length) (hm2 : m.length ≤ 1000) : ∃ x i' h', spec_l1Str.f l i h m = some (x, i', h') ∧ x ∈ m ∧ At l i' := by
  unfold spec_l1Str.f
  obtain ⟨x, i', h', e, hx0, hx1, hi'⟩ := below_some l hl i h (m.length : Int) hi (by omega)
  rw [e]
  simp only [Option.bind_some]
  rw [if_pos hx0, if_pos (by omega)]
  refine ⟨_, _, _, rfl, ?_, hi'⟩
  have := rdOf_get (d := ByteArray.empty) (l := m) (i := x.toNat) (by omega)
  rw [show ((x.toNat : Nat) : Int) = x by omega] at this
  exact List.mem_of_getElem? this
end Go.Proofs.Ytmkhhnfmahdijaa.Z

/- Leaves that are drawn: some, each short. Plain lemmas. -/
set_option linter.unusedVariables false
namespace Go.Proofs.Ytmkhhnfmahdijaa.Z
open Go.RowKit Go.Proofs.YtmkhhnfmahdijaaW.PrintWords Go.Proofs.YtmkhhnfmahdijaaW.PrintMore Go.Proofs.Ytmkhhnfmahdijaa.X
theorem list_l0 (l : List Int) (hl : l.length ≤ 140737488355328) (d : Nat) : ∀ (acc : List ByteArray) (i h : Int), d ≤ 100 → acc.length + d ≤ 200 → (∀ s ∈ acc, s.size ≤ 3) → At l i →
    ∃ r i' h', Ev (fun k => spec_l6List.l0 k acc (d : Int) l i h) (r, i', h') ∧ r.length = acc.length + d ∧ (∀ s ∈ r, s.size ≤ 3) ∧ At l i' := by
  induction d with
  | zero =>
    intro acc i h h1 h2 h3 h4
    exact ⟨acc, i, h, evS (fun k => by rw [spec_l6List.l0]) (evF (by simp) (evR rfl)), by simp, h3, h4⟩
  | succ d ih =>
    intro acc i h h1 h2 h3 h4
    obtain ⟨x, i', h', e, hx, a'⟩ := str_some l hl i h ([(⟨#[]⟩ : ByteArray), (⟨#[97]⟩ : ByteArray), (⟨#[98]⟩ : ByteArray), (⟨#[120, 121, 122]⟩ : ByteArray)]) h4 (by simp) (by simp)
    have hx3 : x.size ≤ 3 := by
      simp only [List.mem_cons, List.not_mem_nil, or_false] at hx
      rcases hx with rfl | rfl | rfl | rfl <;> decide
    obtain ⟨r, i2, h2', e2, l2, s2, a2⟩ := ih (acc ++ [x]) i' h' (by omega) (by simp; omega) (by
      intro s hs
      rcases List.mem_append.1 hs with h | h
      · exact h3 s h
      · rw [List.mem_singleton.1 h]; exact hx3) a'
    refine ⟨r, i2, h2', ?_, by rw [l2]; simp; omega, s2, a2⟩
    refine evS (fun k => by rw [spec_l6List.l0]) ?_
    refine evT (by omega) (evC e (evT (by omega) ?_))
    rw [show wrap64 (((d + 1 : Nat) : Int) - 1) = (d : Int) by rw [w64 (by omega)]; omega]
    exact e2
theorem list_some (l : List Int) (hl : l.length ≤ 140737488355328) (i h : Int) (hi : At l i) : ∃ r i' h', Ev (fun k => spec_l6List.f k l i h) (r, i', h') ∧ r.length ≤ 8 ∧ (∀ s ∈ r, s.size ≤ 3) ∧ At l i' := by
  obtain ⟨x, i', h', e, hx, a'⟩ := int_some l hl i h [0, 1, 2, 3, 4, 5, 7, 8, 6] hi (by simp) (by simp)
  have hx2 : 0 ≤ x ∧ x ≤ 8 := by
    simp only [List.mem_cons, List.not_mem_nil, or_false] at hx
    omega
  obtain ⟨n, rfl⟩ := Int.eq_ofNat_of_zero_le hx2.1
  obtain ⟨r, i2, h2, e2, l2, s2, a2⟩ := list_l0 l hl n [] i' h' (by omega) (by simp; omega) (by simp) a'
  exact ⟨r, i2, h2, by unfold spec_l6List.f; exact evC e e2, by rw [l2]; simp; omega, s2, a2⟩
theorem leaves_some (l : List Int) (hl : l.length ≤ 140737488355328) : ∃ r x, Ev (fun k => spec_DrawLeaves.f k l) (r, x) ∧ 1 ≤ r.length ∧ r.length ≤ 9 ∧ (∀ s ∈ r, s.size ≤ 3) ∧ 0 ≤ x ∧ x < r.length := by
  obtain ⟨h', e1⟩ := new_some l hl
  obtain ⟨r, i2, h2, e2, l2, s2, a2⟩ := list_some l hl 0 h' (at_zero _)
  obtain ⟨x, i3, h3, e3, x0, x1, a3⟩ := below_some l hl i2 h2 ((r ++ [(⟨#[122]⟩ : ByteArray)]).length : Int) a2 (by simp; omega)
  refine ⟨r ++ [⟨#[122]⟩], x, ?_, by simp, by simp; omega, ?_, x0, ?_⟩
  · unfold spec_DrawLeaves.f
    refine evB e1 (evB e2 ?_)
    have hr : r.length < 8796093022208 := by omega
    exact evT hr (evC rfl (evC e3 (evR rfl)))
  · intro s hs
    rcases List.mem_append.1 hs with h | h
    · exact s2 s h
    · rw [List.mem_singleton.1 h]; decide
  · rcases x1 with h | h
    · exact h
    · rw [h]; simp
end Go.Proofs.Ytmkhhnfmahdijaa.Z

/- The law FnPaths, as a plain statement: each of drawn texts has a path that is right, as one of so many; with one part more it is not. Conditions: those of the row's reading alone. -/
namespace Go.Proofs.Ytmkhhnfmahdijaa.Pure
open Go.RowKit Go.Proofs.Ytmkhhnfmahdijaa.X Go.Proofs.Ytmkhhnfmahdijaa.Z Go.Proofs.Ytmkhhnfmahdijaa.ZI Go.Proofs.YtmkhhnfmahdijaaW.PrintWords Go.Proofs.YtmkhhnfmahdijaaW.PrintLast
/-- How many a path has. -/
def dep (i : Int) (n : Nat) : Nat := if h : n < 2 then 0 else if i < hf n then dep i (hf n) + 1 else dep (i - hf n) (n - hf n) + 1
termination_by n
decreasing_by
  all_goals have := hf_lt (n := n) (by omega); omega
theorem dep_small {n : Nat} (h : n < 2) (i : Int) : dep i n = 0 := by rw [dep, dif_pos h]
theorem dep_more {n : Nat} (h : ¬ n < 2) (i : Int) : dep i n = if i < hf n then dep i (hf n) + 1 else dep (i - hf n) (n - hf n) + 1 := by rw [dep, dif_neg h]
theorem path_len : ∀ (n : Nat) (l : List ByteArray) (i : Int), l.length = n → (path l i).length = dep i n := by
  intro n
  induction n using Nat.strongRecOn with
  | ind n ih =>
    intro l i hl
    by_cases h2 : n < 2
    · rw [path_small (by omega), dep_small h2]; rfl
    · have hlt := hf_lt (n := n) (by omega)
      rw [path_more (by omega), dep_more h2, hl]
      by_cases hi : i < hf n
      · rw [if_pos hi, if_pos hi, List.length_append, ih (hf n) (by omega) _ i (by simp; omega)]; rfl
      · rw [if_neg hi, if_neg hi, List.length_append, ih (n - hf n) (by omega) _ (i - hf n) (by simp; omega)]; rfl
theorem up_dep (s : ByteArray) : ∀ (n : Nat) (i : Int) (p : List ByteArray), (up s i n p).2 = decide (p.length = dep i n) := by
  intro n
  induction n using Nat.strongRecOn with
  | ind n ih =>
    intro i p
    by_cases h2 : n < 2
    · rw [up_one h2, dep_small h2]
      show ((p.length : Int) == 0) = _
      by_cases hp : p.length = 0
      · simp [hp]
      · rw [decide_eq_false hp]
        exact beq_eq_false_iff_ne.mpr (by omega)
    · by_cases hp : p.length = 0
      · rw [up_nil h2 _ _ hp, dep_more h2]
        split
        · simp; omega
        · simp; omega
      · have hlt := hf_lt (n := n) (by omega)
        by_cases hi : i < hf n
        · rw [up_lo h2 _ hp hi, dep_more h2, if_pos hi]
          show (up s i (hf n) _).2 = _
          rw [ih (hf n) (by omega)]
          simp only [List.length_take, decide_eq_decide]
          omega
        · rw [up_hi h2 _ hp hi, dep_more h2, if_neg hi]
          show (up s (i - hf n) (n - hf n) _).2 = _
          rw [ih (n - hf n) (by omega)]
          simp only [List.length_take, decide_eq_decide]
          omega
theorem last_snoc (x : List ByteArray) (y : ByteArray) : lastOf (x ++ [y]) = y := by
  unfold lastOf rdOf
  rw [show ((((x ++ [y]).length - 1 : Nat) : Int)).toNat = x.length by simp]
  simp
theorem take_snoc (x : List ByteArray) (y : ByteArray) : (x ++ [y]).take ((x ++ [y]).length - 1) = x := by simp
theorem path_up : ∀ (n : Nat) (l : List ByteArray) (i : Nat), l.length = n → i < n → up (leaf (rdOf ByteArray.empty l (i : Int))) (i : Int) n (path l (i : Int)) = (root l, true) := by
  intro n
  induction n using Nat.strongRecOn with
  | ind n ih =>
    intro l i hl hi
    by_cases h2 : n < 2
    · obtain ⟨a, rfl⟩ := List.length_eq_one_iff.1 (show l.length = 1 by omega)
      obtain rfl : i = 0 := by omega
      rw [path_small (by simp), up_one h2, root_one]
      rfl
    · have hlt := hf_lt (n := n) (by omega)
      rw [root_more (l := l) (by omega), path_more (l := l) (by omega), hl]
      generalize hc : hf n = c at *
      by_cases hic : (i : Int) < c
      · rw [if_pos hic, up_lo h2 _ (by simp) (by rw [hc]; exact hic), take_snoc, last_snoc, hc]
        have := ih c (by omega) (l.take c) i (by simp; omega) (by omega)
        have e : rdOf ByteArray.empty (l.take c) (i : Int) = rdOf ByteArray.empty l (i : Int) := by
          unfold rdOf
          rw [List.getD_eq_getElem?_getD, List.getD_eq_getElem?_getD, List.getElem?_take, if_pos (by omega)]
        rw [e] at this
        rw [this]
      · rw [if_neg hic, up_hi h2 _ (by simp) (by rw [hc]; exact hic), take_snoc, last_snoc, hc]
        have := ih (n - c) (by omega) (l.drop c) (i - c) (by simp; omega) (by omega)
        have e : rdOf ByteArray.empty (l.drop c) ((i - c : Nat) : Int) = rdOf ByteArray.empty l (i : Int) := by
          unfold rdOf
          rw [List.getD_eq_getElem?_getD, List.getD_eq_getElem?_getD, List.getElem?_drop]
          congr 2
          omega
        rw [e, show ((i - c : Nat) : Int) = (i : Int) - c by omega] at this
        rw [this]
theorem FnPaths : laws_FnPaths.Pure := by
  intro l0 h1 h2 h3
  refine Ev.rounds ?_
  unfold laws_FnPaths.f
  refine evC (by unfold laws_big.f; rfl) (evI (fun _ => evR rfl) (fun hl' => ?_))
  obtain ⟨l, x, hD, l1, l2, l3, x0, x1⟩ := leaves_some l0 (by omega)
  have hF : Fit l := fun y hy => by have := l3 y hy; omega
  obtain ⟨i, rfl⟩ := Int.eq_ofNat_of_zero_le x0
  have a := rootOf_impl l (by omega) hF
  have b := inPath_impl l (i : Int) hF (by omega) (by omega) (by omega)
  have hz := root_size l
  obtain ⟨_, pl, ps⟩ := path_impl l.length l (i : Int) rfl (by omega) (by omega) (by omega) (by omega) hF
  have hFp : Fit (path l (i : Int)) := fun y hy => by have := ps y hy; omega
  have hFq : Fit (path l (i : Int) ++ [root l]) := fun y hy => by
    rcases List.mem_append.1 hy with h | h
    · exact hFp y h
    · rw [List.mem_singleton.1 h]; omega
  have hup := path_up l.length l i rfl (by omega)
  have hs : (rdOf ByteArray.empty l (i : Int)).size ≤ 10000000000 := by
    have hlt : i < l.length := by omega
    have : rdOf ByteArray.empty l (i : Int) = l[i] := by unfold rdOf; simp [hlt]
    rw [this]
    exact hF _ (List.getElem_mem _)
  have hlen := path_len l.length l (i : Int) rfl
  have c1 := checkIn_impl _ hs (i : Int) (l.length : Int) (path l (i : Int)) hFp (by omega) (root l)
  have c2 := checkIn_impl _ hs (i : Int) (l.length : Int) (path l (i : Int) ++ [root l]) hFq (by simp; omega) (root l)
  have c3 := checkIn_impl _ hs (l.length : Int) (l.length : Int) (path l (i : Int)) hFp (by omega) (root l)
  have e1 : checkIn (rdOf ByteArray.empty l (i : Int)) (i : Int) (l.length : Int) (path l (i : Int)) (root l) = true := by
    unfold checkIn
    rw [if_pos (by omega), if_pos (by omega), show ((l.length : Nat) : Int).toNat = l.length by omega, hup]
    simp
  have e2 : checkIn (rdOf ByteArray.empty l (i : Int)) (i : Int) (l.length : Int) (path l (i : Int) ++ [root l]) (root l) = false := by
    unfold checkIn
    rw [if_pos (by omega), if_pos (by omega), show ((l.length : Nat) : Int).toNat = l.length by omega, up_dep, decide_eq_false (by simp; omega)]
    simp
  have e3 : checkIn (rdOf ByteArray.empty l (i : Int)) (l.length : Int) (l.length : Int) (path l (i : Int)) (root l) = false := by
    unfold checkIn
    rw [if_pos (by omega), if_neg (by omega)]
  rw [e1] at c1
  rw [e2] at c2
  rw [e3] at c3
  refine evB hD (evB b (evB a (evC rfl (evT (by simp; omega) (evC rfl (evT (by simp; omega) (evT (by omega) (evT (by omega) (evB c1 (evT rfl (evB c2 (evF Bool.false_ne_true (evB c3 (evF Bool.false_ne_true (evR ?_)))))))))))))))
  rw [hz]
  rfl
end Go.Proofs.Ytmkhhnfmahdijaa.Pure

/- Values that come in as data (strings' slices, structs, slices of structs, nested) are of the printer's kinds: one lemma a make of type. Plain lemmas for the rows of laws over such parameters. No conditions beyond what each lemma names. -/
set_option linter.unusedVariables false
namespace Go.Proofs.Ytmkhhnfmahdijaa.Y
open Go.RowKit Go.Proofs.YtmkhhnfmahdijaaW.PrintWords Go.ChangeShapes Go.WideShapes Go.Deep

/-- What is read as data of type T is of kind d, and G holds of what it says. -/
def Opn {α : Type} (P : Program) (d : Kd α) (T : TypeId) (G : α → Prop) : Prop :=
  ∀ {H : Type} (enc : TypeId × Value → H) (w : World) (spare : Nat → Bool) (held : Bool) (fuel : Nat) (cs : List Value) (x : DataW H × List MemPlace), DataW.trod enc P w 0 spare held fuel T cs = some x → ∃ y, d.K w y cs ∧ G y

theorem Opn.int {P : Program} {T : TypeId} {k : IntKind} (h : P.underlying T = some (.int k)) : Opn P (Kd.int k) T (fun n => (Lit.int k n).wf = true) := by
  intro H enc w spare held fuel cs x hx
  obtain ⟨n, rfl, _, hn⟩ := DataW.trod_int h hx
  exact ⟨n, rfl, hn⟩
theorem Opn.bool {P : Program} {T : TypeId} (h : P.underlying T = some .bool) : Opn P Kd.bool T (fun _ => True) := by
  intro H enc w spare held fuel cs x hx
  obtain ⟨n, rfl, _⟩ := DataW.trod_bool h hx
  exact ⟨n, rfl, trivial⟩
theorem Opn.string {P : Program} {T : TypeId} (h : P.underlying T = some .string) : Opn P Kd.string T (fun s => s.size ≤ maxLen) := by
  intro H enc w spare held fuel cs x hx
  obtain ⟨s, rfl, _, hs⟩ := DataW.trod_string h hx
  exact ⟨s, rfl, hs⟩
theorem Opn.slice {α : Type} {P : Program} {d : Kd α} {T e : TypeId} {G : α → Prop} [Inhabited α] (h : P.underlying T = some (.slice e)) (he : P.cellsOf e = d.sz) (ho : Opn P d e G) :
    Opn P (Kd.slice e d) T (fun l => l.length ≤ maxLen ∧ ∀ y, y ∈ l → G y) := by
  intro H enc w spare held fuel cs x hx
  rcases open_slice h hx with ⟨rfl, _⟩ | ⟨a, len, cap, m, n, D, Pl, rfl, _, hl, hm, hmm, _, hel⟩
  · exact ⟨[], ⟨none, 0, rfl, Nat.le_refl _, rfl, by simp, fun hn => absurd hn (Nat.lt_irrefl 0)⟩, by simp, fun y hy => by cases hy⟩
  · have hlm : len ≤ m := by rw [hmm]; split <;> omega
    have each : ∀ i, i < len → ∃ y, (∃ c, c.length = d.sz ∧ d.K w y c ∧ ∀ j u, c[j]? = some u → w.cell? (a.add (i * d.sz + j)) = some u) ∧ G y := by
      intro i hi
      obtain ⟨c, hc, ht⟩ := hel i (by omega)
      obtain ⟨y, hk, hg⟩ := ho enc w spare held n c _ ht
      obtain ⟨_, hlen, hcell⟩ := World.cells?_some hc
      refine ⟨y, ⟨c, hlen.trans he, hk, fun j u hu => ?_⟩, hg⟩
      have hj : j < P.cellsOf e := by rw [← hlen]; exact (List.getElem?_eq_some_iff.1 hu).1
      have := hcell j hj
      rw [Go.Deep.add_add, hu, he] at this
      exact this
    obtain ⟨f, hf⟩ := choose_lt each
    have hlen : ((List.range len).map f).length = len := by simp
    have hm' : len ≤ maxLen := Nat.le_trans hl hm
    refine ⟨(List.range len).map f, ⟨some a, cap, by rw [hlen], by rw [hlen]; exact hl, by rw [hlen], by rw [hlen]; unfold maxLen at hm'; exact hm', fun _ => ⟨a, rfl, fun j p hp => ?_⟩⟩, by rw [hlen]; exact hm', fun y hy => ?_⟩
    · obtain ⟨hj, rfl⟩ := List.getElem?_eq_some_iff.1 hp
      rw [hlen] at hj
      simp only [List.getElem_map, List.getElem_range]
      exact (hf j hj).1
    · obtain ⟨i, hi, rfl⟩ := List.mem_map.1 hy
      exact (hf i (List.mem_range.1 hi)).2

/-- The fields from cell 'off' on. -/
def FOpn {α : Type} (P : Program) (d : Kd α) (off : Nat) (fs : List Field) (G : α → Prop) : Prop :=
  ∀ {H : Type} (enc : TypeId × Value → H) (w : World) (spare : Nat → Bool) (held : Bool) (fuel : Nat) (cs : List Value),
    (∀ f, f ∈ fs → ∃ x, DataW.trod enc P w 0 spare held fuel f.type ((cs.drop f.offset).take (P.cellsOf f.type)) = some x) → cs.length = off + d.sz → ∃ y, d.K w y (cs.drop off) ∧ G y
theorem FOpn.one {α : Type} {P : Program} {d : Kd α} {off : Nat} {f : Field} {G : α → Prop} (hf : f.offset = off) (hc : P.cellsOf f.type = d.sz) (ho : Opn P d f.type G) : FOpn P d off [f] G := by
  intro H enc w spare held fuel cs hx hl
  obtain ⟨x, hx⟩ := hx f (by simp)
  rw [hf, hc, List.take_of_length_le (by simp; omega)] at hx
  exact ho enc w spare held fuel _ x hx
theorem FOpn.cons {α β : Type} {P : Program} {d : Kd α} {d' : Kd β} {off : Nat} {f : Field} {fs : List Field} {G : α → Prop} {G' : β → Prop} (hf : f.offset = off) (hc : P.cellsOf f.type = d.sz) (ho : Opn P d f.type G)
    (hs : FOpn P d' (off + d.sz) fs G') : FOpn P (Kd.pair d d') off (f :: fs) (fun y => G y.1 ∧ G' y.2) := by
  intro H enc w spare held fuel cs hx hl
  have hl' : cs.length = off + (d.sz + d'.sz) := hl
  obtain ⟨x, h1⟩ := hx f (by simp)
  rw [hf, hc] at h1
  obtain ⟨y, hy, gy⟩ := ho enc w spare held fuel _ x h1
  obtain ⟨z, hz, gz⟩ := hs enc w spare held fuel cs (fun g hg => hx g (List.mem_cons_of_mem _ hg)) (by omega)
  refine ⟨(y, z), ⟨_, _, ?_, hy, hz⟩, gy, gz⟩
  rw [← List.drop_drop, List.take_append_drop]
theorem Opn.struct {α β : Type} {P : Program} {d : Kd α} {T : TypeId} {fs : Array Field} {fl : List Field} {G : α → Prop} {G' : β → Prop} {proj : β → α} (mk : α → β) (h : P.underlying T = some (.struct fs)) (hfl : fs.toList = fl) (hc : P.cellsOf T = d.sz)
    (hmk : ∀ y, proj (mk y) = y) (hG : ∀ y, G y → G' (mk y)) (hs : FOpn P d 0 fl G) : Opn P (Kd.iso d proj) T G' := by
  intro H enc w spare held fuel cs x hx
  obtain ⟨xs, n, rfl, _, hlen, hxs, hall⟩ := DataW.trod_struct h hx
  obtain ⟨y, hy, gy⟩ := hs enc w spare held n cs (fun f hf => by
    rw [← hfl] at hf
    obtain ⟨i, hi, he⟩ := List.getElem_of_mem hf
    have hi' : i < fs.size := by simpa using hi
    have h1 : fs[i]? = some f := by rw [Array.getElem?_eq_getElem hi']; simpa using he
    exact ⟨_, (hall i f h1).trans (List.getElem?_eq_getElem (by omega))⟩) (by rw [hlen, hc, Nat.zero_add])
  refine ⟨mk y, ?_, hG y gy⟩
  show d.K w (proj (mk y)) cs
  rw [hmk]
  exact hy

/-- A parameter that is a slice. -/
theorem Opn.arg_slice {α : Type} {P : Program} {d : Kd α} {T e : TypeId} {G : α → Prop} [Inhabited α] (h : P.underlying T = some (.slice e)) (he : P.cellsOf e = d.sz) (ho : Opn P d e G)
    {H : Type} {enc : TypeId × Value → H} {w : World} {spare : Nat → Bool} {held : Bool} {v : Value} {D : DataW H} {ps : List MemPlace} {r : Reach} {b : Nat} (hv : Value.okWide P w r b T v) (hx : DataW.Trod enc P w 0 spare held T v D ps) :
    ∃ (A : Option Addr) (c : Nat) (l : List α), v = .slice A l.length c ∧ l.length ≤ c ∧ d.C w A l.length l ∧ l.length ≤ maxLen ∧ ∀ y, y ∈ l → G y := by
  obtain ⟨a, len, cap, rfl⟩ := okWide_slice h hv
  obtain ⟨fuel, hf⟩ := hx
  obtain ⟨l, ⟨A, c, hcs, hlc, hC⟩, hg1, hg2⟩ := Opn.slice h he ho enc w spare held fuel _ _ hf
  have hcs' : [Value.slice a len cap] = [Value.slice A l.length c] := hcs
  injection hcs' with h1 _
  exact ⟨A, c, l, h1, hlc, hC, hg1, hg2⟩
/-- A parameter that is a struct. -/
theorem Opn.arg_struct {α : Type} {P : Program} {d : Kd α} {T : TypeId} {G : α → Prop} {fs : Array Field} (hu : P.underlying T = some (.struct fs)) (ho : Opn P d T G)
    {H : Type} {enc : TypeId × Value → H} {w : World} {spare : Nat → Bool} {held : Bool} {v : Value} {D : DataW H} {ps : List MemPlace} {r : Reach} {b : Nat} (hv : Value.okWide P w r b T v) (hx : DataW.Trod enc P w 0 spare held T v D ps) :
    ∃ (cs : List Value) (y : α), v = .agg cs.toArray ∧ d.K w y cs ∧ G y := by
  obtain ⟨cs, rfl, _⟩ := okWide_struct hu hv
  obtain ⟨fuel, hf⟩ := hx
  obtain ⟨y, hk, hg⟩ := ho enc w spare held fuel _ _ hf
  exact ⟨cs.toList, y, by simp, hk, hg⟩
end Go.Proofs.Ytmkhhnfmahdijaa.Y
