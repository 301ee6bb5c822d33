/- The law FnExactPutEntry, as a plain statement: the program's PutEntry answers as the reference's, and leaves its argument alone. Conditions: those of the row's reading alone. -/
/- Part 7 of 10 of this claim's texts. -/
import Derived.Test.YtgdknepphkhnlaaGreatDoorCFnExactPutEntry1
import Derived.Test.YtgdknepphkhnlaaGreatDoorCFnExactPutEntry5
namespace Go.Proofs.YtgdknepphkhnlaaGreatDoor.X
open Go.RowKit Go.Proofs.YtgdknepphkhnlaaGreatDoorW.PrintWords Go.Proofs.YtgdknepphkhnlaaGreatDoorW.PrintLast Go.Proofs.YtgdknepphkhnlaaGreatDoorW.PrintMore
attribute [local go_sem] max2_int min2_int max_two min_two max_three min_three max_four min_four
set_option linter.unusedVariables false
set_option linter.unusedSimpArgs false
def spec_l3Text.f : Nat → Int → Option (ByteArray)
 | 0, _ => none
 | k + 1, a0 => if a0 < 10 then (some (strOfNums (([(wrap64 (48 + a0)) % 256] : List Int)))) else ((spec_l3Text.f k (wrap64 (Int.tdiv a0 10))).bind fun t278 => ((some (([(wrap64 (48 + (Int.tmod a0 10))) % 256] : List Int) : List Int)).bind fun y279 => (if t278.size + (strOfNums y279).size ≤ 9223372036854775807 then (some (t278 ++ (strOfNums y279))) else (none))))
def spec_l3Text.T3 : Bool × List (List Nat × List Nat) := (true, [([], []), ([0], [0]), ([1], [1]), ([], []), ([3], [3]), ([4], [4]), ([5], [5]), ([6], [6]), ([7], [7]), ([2, 8], [2, 8]), ([9, 2, 0, 1, 2, 3, 4, 5, 6, 7, 8, 9], [9])])
def spec_l3Text.B3 : List Nat := [0, 1, 3, 0, 8, 24, 56, 120, 248, 511, 1023]
theorem spec_l3Text.tab3 : rtab .any (opsOf Tryz.f106 3) = spec_l3Text.T3 := by kernel_rfl
theorem spec_l3Text.bits3 : waitsOk spec_l3Text.T3.2 spec_l3Text.B3 = true := by kernel_rfl
set_option maxHeartbeats 8000000 in
set_option maxRecDepth 100000 in
theorem spec_l3Text.calls (k : Nat) : ∀ (a0 : Int) (r : ByteArray) (w : World) (h : spec_l3Text.f k a0 = some r),
  Calls Tryz.prog 106 #[.int .i64 a0] w fun e w' => e = .returned (.string r) ∧ Below w.heap.size w w' := by
 induction k using Nat.strongRecOn with
 | _ k ih =>
 intro a0 r w h
 cases k with
 | zero => exact absurd h (by simp [spec_l3Text.f])
 | succ k =>
 simp only [spec_l3Text.f] at h
 have HB := Aside0.mk (Below.refl w.heap.size w)
 have H : (if a0 < 10 then (some (strOfNums (([(wrap64 (48 + a0)) % 256] : List Int)))) else ((spec_l3Text.f k (wrap64 (Int.tdiv a0 10))).bind fun t278 => ((some (([(wrap64 (48 + (Int.tmod a0 10))) % 256] : List Int) : List Int)).bind fun y279 => (if t278.size + (strOfNums y279).size ≤ 9223372036854775807 then (some (t278 ++ (strOfNums y279))) else (none))))) = some r := h
 clear h
 by_cases c2 : a0 < 10
 ·rw [if_pos c2] at H
  have c2b0 : decide (a0 < 10) = true := decide_eq_true c2
  clear c2
  obtain ⟨y275, hy275⟩ : ∃ y_ : List Int, y_ = (([(wrap64 (48 + a0)) % 256] : List Int)) := ⟨_, rfl⟩
  replace H : (some (strOfNums y275)) = some r := by first | (rw [hy275]; with_reducible exact H) | (have H2_ := (Option.bind_some _ _).symm.trans H; rw [hy275]; with_reducible exact H2_) | (have H2_ := (Option.bind_some _ _).symm.trans H; with_reducible exact H2_) | with_reducible exact H | (rw [hy275]; exact H) | exact H
  have Ny275 := Aside0.mk hy275
  clear hy275
  obtain rfl := Option.some.inj H
  go_enter Tryz.func106, Tryz.ntmps106
  go_wp2_with (first | ((with_reducible refine gate_dst (N := 8) rfl ?_); refine Kd.R_lit (Kd.int .u8) _ 5 ?hg (N := 8) ?hd (xs := ([(wrap64 (48 + a0)) % 256] : List Int)) (inner := [.int .u8 ((wrap64 (48 + a0)) % 256)]) (ok := fun _ => True) (okp := fun _ => True) ?hr ?hp (fun _ hk => hk) trivial (Below.refl _ _) (Nat.le_refl _) (by simp) ?_; (case hd => exact zw); (case hg => exact zw); (case hr => exact zx); (case hp => exact (Reps.one (show Kd.M (Kd.int .u8) _ _ _ ((wrap64 (48 + a0)) % 256) [.int .u8 ((wrap64 (48 + a0)) % 256)] from rfl) (Reps.none _ _))); intro v276 w3 ho4 hb hg_ hnew_; clear hg_ hnew_; (first | rw [← Ny275.out] at ho4 | (simp only [Int.reduceToNat] at ho4; rw [← Ny275.out] at ho4)); have n0_ := Aside0.mk (Kd.R_lower ho4 (below_size zp)); have n1_ := Aside0.mk (below_step zp hb); clear HB; have HO277 := n0_; have HB := n1_; clear n0_ n1_; clear hb ho4; have hcv5 := own_string (P := Tryz.prog) Tryz.underlying22 Tryz.underlying5 Tryz.underlying9 (Kd.own_of_R HO277.out)))
  go_ret
  exact ⟨zr, zp⟩
 ·rw [if_neg c2] at H
  have c2b0 : decide (a0 < 10) = false := decide_eq_false c2
  clear c2
  replace H := Option.bind_eq_some_iff.mp H
  obtain ⟨t278, A60, H⟩ := H
  replace H : ((some (([(wrap64 (48 + (Int.tmod a0 10))) % 256] : List Int) : List Int)).bind fun y279 => (if t278.size + (strOfNums y279).size ≤ 9223372036854775807 then (some (t278 ++ (strOfNums y279))) else (none))) = some r := H
  have A6 := Aside0.mk A60
  clear A60
  obtain ⟨y279, hy279⟩ : ∃ y_ : List Int, y_ = (([(wrap64 (48 + (Int.tmod a0 10))) % 256] : List Int)) := ⟨_, rfl⟩
  replace H : (if t278.size + (strOfNums y279).size ≤ 9223372036854775807 then (some (t278 ++ (strOfNums y279))) else (none)) = some r := by first | (rw [hy279]; with_reducible exact H) | (have H2_ := (Option.bind_some _ _).symm.trans H; rw [hy279]; with_reducible exact H2_) | (have H2_ := (Option.bind_some _ _).symm.trans H; with_reducible exact H2_) | with_reducible exact H | (rw [hy279]; exact H) | exact H
  have Ny279 := Aside0.mk hy279
  clear hy279
  by_cases c7 : t278.size + (strOfNums y279).size ≤ 9223372036854775807
  ·rw [if_pos c7] at H
   have c7b0 := eq_true c7
   have c7b1 : decide (t278.size + (strOfNums y279).size ≤ 9223372036854775807) = true := decide_eq_true c7
   try have c7b2 : (9223372036854775807 < t278.size + (strOfNums y279).size) = False := eq_false (Nat.not_lt.2 c7)
   obtain rfl := Option.some.inj H
   go_enter Tryz.func106, Tryz.ntmps106
   try go_wp2
   have n0_ := Aside0.mk (below_drew1 HB.out)
   clear HB
   have HB := n0_
   clear n0_
   refine start_ (n := 11) (S := fun w' => True) (ds := []) #[z4h, z4h, z4h, z4h, z4h, z4h, z4h, z4h, z4h, z4h, z4h] zi rfl rfl trivial (fun hHeld => ?_); refine with_tabW spec_l3Text.tab3 spec_l3Text.bits3 (fun HT_ HW_ => ?_)
   generalize w.drew = w8 at HB hHeld ⊢
   refine pure_ (i := 0) (N := some 10) (v := ?_) (a' := ?_) #[z4g, z4h, z4h, z4h, z4h, z4h, z4h, z4h, z4h, z4h, z4h] rfl rfl (any_of HT_.out zi) (fun _ _ _ h => h) (Or.inl ⟨zw, ?_⟩) ?_ ?_
   rotate_left
   ·intro w'
    go_simp
    with_reducible rfl
   rotate_left
   ·simp only [Act.put, z4i, z4j, z4k, i64_w, i32_w]
    rfl
   refine pure_ (i := 1) (N := some 11) (v := ?_) (a' := ?_) #[z4g, z4g, z4h, z4h, z4h, z4h, z4h, z4h, z4h, z4h, z4h] rfl rfl (any_of HT_.out zi) (fun _ _ _ h => h) (Or.inl ⟨zw, ?_⟩) ?_ ?_
   rotate_left
   ·intro w'
    go_simp
    with_reducible rfl
   rotate_left
   ·simp only [Act.put, z4i, z4j, z4k, i64_w, i32_w]
    rfl
   refine pure_ (i := 3) (N := some 13) (v := ?_) (a' := ?_) #[z4g, z4g, z4h, z4g, z4h, z4h, z4h, z4h, z4h, z4h, z4h] rfl rfl (any_of HT_.out zi) (fun _ _ _ h => h) (Or.inl ⟨zw, ?_⟩) ?_ ?_
   rotate_left
   ·intro w'
    go_simp
    with_reducible rfl
   rotate_left
   ·simp only [Act.put, z4i, z4j, z4k, i64_w, i32_w]
    rfl
   refine pure_ (i := 4) (N := some 14) (v := ?_) (a' := ?_) #[z4g, z4g, z4h, z4g, z4g, z4h, z4h, z4h, z4h, z4h, z4h] rfl rfl (any_of HT_.out zi) (fun _ _ _ h => h) (Or.inl ⟨zw, ?_⟩) ?_ ?_
   rotate_left
   ·intro w'
    go_simp
    with_reducible rfl
   rotate_left
   ·simp only [Act.put, z4i, z4j, z4k, i64_w, i32_w]
    rfl
   refine pure_ (i := 5) (N := some 15) (v := ?_) (a' := ?_) #[z4g, z4g, z4h, z4g, z4g, z4g, z4h, z4h, z4h, z4h, z4h] rfl rfl (any_of HT_.out zi) (fun _ _ _ h => h) (Or.inl ⟨zw, ?_⟩) ?_ ?_
   rotate_left
   ·intro w'
    go_simp
    with_reducible rfl
   rotate_left
   ·simp only [Act.put, z4i, z4j, z4k, i64_w, i32_w]
    rfl
   refine pure_ (i := 6) (N := some 16) (v := ?_) (a' := ?_) #[z4g, z4g, z4h, z4g, z4g, z4g, z4g, z4h, z4h, z4h, z4h] rfl rfl (any_of HT_.out zi) (fun _ _ _ h => h) (Or.inl ⟨zw, ?_⟩) ?_ ?_
   rotate_left
   ·intro w'
    go_simp
    with_reducible rfl
   rotate_left
   ·simp only [Act.put, z4i, z4j, z4k, i64_w, i32_w]
    rfl
   refine join_ (σ := Value) 2 #[z4g, z4g, z4g, z4g, z4g, z4g, z4g, z4g, z4g, z4h, z4h] (fun s_ => [(12, .string t278), (17, s_), (18, .string (strOfNums y279))]) (fun s_ w' => (Kd.R (Kd.int .u8) 5 w' w.heap.size (fun _ => True) s_ y279) ∧ (Below w.heap.size w w')) ?_ ?_
   rotate_left
   ·intro hCont
    refine two_ (i := 2) (j := 7) (Ni := some 12) (Nj := some 17) #[z4g, z4g, z4g, z4g, z4g, z4g, z4g, z4h, z4h, z4h, z4h] #[z4g, z4g, z4h, z4g, z4g, z4g, z4g, z4g, z4h, z4h, z4h] rfl rfl rfl rfl (two_of HT_.out zi) zh zh (fun K hK => ?_) (fun K hK => ?_)
    ·skip
     refine goes_ Tryz.func106 zi rfl #[.int .i64 (wrap64 (Int.tdiv a0 10))] zw rfl rfl zo ?_
     with_reducible refine (ih k zg (wrap64 (Int.tdiv a0 10)) t278 _ A6.out).mono ?_
     rintro e w9 ⟨rfl, hb⟩
     refine ⟨_, rfl, ?_⟩
     have n0_ := Aside0.mk (below_step zp hb)
     clear HB
     have HB := n0_
     clear n0_
     (try clear hb)
     (try clear hb2)
     (try clear hk)
     (try clear hi)
     refine hK.out _ _ trivial (fun hHeld => ?_)
     clear hK K
     refine norm_ (a' := ?_) ?_ ?_
     rotate_left
     ·show Act.put _ (some 12) _ = _
      simp only [Act.put, z4i, z4j, z4k, i64_w, i32_w]
      rfl
     refine one_ (i := 7) (N := some 17) #[z4g, z4g, z4g, z4g, z4g, z4g, z4g, z4g, z4h, z4h, z4h] rfl rfl (one_of HT_.out zi) zh (fun K hK => ?_)
     refine Kd.R_lit_step (Kd.int .u8) _ 5 ?hg (N := 17) ?hd (xs := ([(wrap64 (48 + (Int.tmod a0 10))) % 256] : List Int)) (inner := [.int .u8 ((wrap64 (48 + (Int.tmod a0 10))) % 256)]) (ok := fun _ => True) (okp := fun _ => True) ?hr ?hp (fun _ hk => hk) trivial (Below.refl _ _) (Nat.le_refl _) (by simp) ?_; (case hd => exact zw); (case hg => exact zw); (case hr => exact zx); (case hp => exact (Reps.one (show Kd.M (Kd.int .u8) _ _ _ ((wrap64 (48 + (Int.tmod a0 10))) % 256) [.int .u8 ((wrap64 (48 + (Int.tmod a0 10))) % 256)] from rfl) (Reps.none _ _)))
     intro v280 w10 ho11 hb hg_ hnew_
     clear hg_ hnew_
     (first | rw [← Ny279.out] at ho11 | (simp only [Int.reduceToNat] at ho11; rw [← Ny279.out] at ho11))
     have n0_ := Aside0.mk (Kd.R_lower ho11 (below_size zp))
     have n1_ := Aside0.mk (below_step zp hb)
     clear HB
     have HO281 := n0_
     have HB := n1_
     clear n0_ n1_
     clear hb ho11
     refine hK.out _ _ trivial (fun hHeld => ?_)
     clear hK K
     refine norm_ (a' := ?_) ?_ ?_
     rotate_left
     ·show Act.put _ (some 17) _ = _
      simp only [Act.put, z4i, z4j, z4k, i64_w, i32_w]
      rfl
     refine one_ (i := 8) (N := some 18) #[z4g, z4g, z4g, z4g, z4g, z4g, z4g, z4g, z4g, z4h, z4h] rfl rfl (one_of HT_.out zi) zh (fun K hK => ?_)
     have hcv12 := own_string (P := Tryz.prog) Tryz.underlying22 Tryz.underlying5 Tryz.underlying9 (Kd.own_of_R HO281.out)
     refine value_ (w1 := ?_) (v := ?_) zw rfl ?_ ?_
     rotate_left 2
     ·go_simp
      constructor
      ·rfl
      ·rfl
     clear hcv12
     refine hK.out _ _ trivial (fun hHeld => ?_)
     clear hK K
     refine norm_ (a' := ?_) ?_ ?_
     rotate_left
     ·show Act.put _ (some 18) _ = _
      simp only [Act.put, z4i, z4j, z4k, i64_w, i32_w]
      rfl
     exact norm_ z2l (hCont (v280) _ ⟨z2m, zp⟩)
    ·skip
     refine Kd.R_lit_step (Kd.int .u8) _ 5 ?hg (N := 17) ?hd (xs := ([(wrap64 (48 + (Int.tmod a0 10))) % 256] : List Int)) (inner := [.int .u8 ((wrap64 (48 + (Int.tmod a0 10))) % 256)]) (ok := fun _ => True) (okp := fun _ => True) ?hr ?hp (fun _ hk => hk) trivial (Below.refl _ _) (Nat.le_refl _) (by simp) ?_; (case hd => exact zw); (case hg => exact zw); (case hr => exact zx); (case hp => exact (Reps.one (show Kd.M (Kd.int .u8) _ _ _ ((wrap64 (48 + (Int.tmod a0 10))) % 256) [.int .u8 ((wrap64 (48 + (Int.tmod a0 10))) % 256)] from rfl) (Reps.none _ _)))
     intro v280 w9 ho10 hb hg_ hnew_
     clear hg_ hnew_
     (first | rw [← Ny279.out] at ho10 | (simp only [Int.reduceToNat] at ho10; rw [← Ny279.out] at ho10))
     have n0_ := Aside0.mk (Kd.R_lower ho10 (below_size zp))
     have n1_ := Aside0.mk (below_step zp hb)
     clear HB
     have HO281 := n0_
     have HB := n1_
     clear n0_ n1_
     clear hb ho10
     refine hK.out _ _ trivial (fun hHeld => ?_)
     clear hK K
     refine norm_ (a' := ?_) ?_ ?_
     rotate_left
     ·show Act.put _ (some 17) _ = _
      simp only [Act.put, z4i, z4j, z4k, i64_w, i32_w]
      rfl
     refine two_ (i := 2) (j := 8) (Ni := some 12) (Nj := some 18) #[z4g, z4g, z4g, z4g, z4g, z4g, z4g, z4g, z4h, z4h, z4h] #[z4g, z4g, z4h, z4g, z4g, z4g, z4g, z4g, z4g, z4h, z4h] rfl rfl rfl rfl (two_of HT_.out zi) zh zh (fun K hK => ?_) (fun K hK => ?_)
     ·skip
      refine goes_ Tryz.func106 zi rfl #[.int .i64 (wrap64 (Int.tdiv a0 10))] zw rfl rfl zo ?_
      with_reducible refine (ih k zg (wrap64 (Int.tdiv a0 10)) t278 _ A6.out).mono ?_
      rintro e w11 ⟨rfl, hb⟩
      refine ⟨_, rfl, ?_⟩
      have n0_ := Aside0.mk (Kd.R_below z2m hb)
      have n1_ := Aside0.mk (below_step zp hb)
      clear HO281
      clear HB
      have HO281 := n0_
      have HB := n1_
      clear n0_ n1_
      (try clear hb)
      (try clear hb2)
      (try clear hk)
      (try clear hi)
      refine hK.out _ _ trivial (fun hHeld => ?_)
      clear hK K
      refine norm_ (a' := ?_) ?_ ?_
      rotate_left
      ·show Act.put _ (some 12) _ = _
       simp only [Act.put, z4i, z4j, z4k, i64_w, i32_w]
       rfl
      refine one_ (i := 8) (N := some 18) #[z4g, z4g, z4g, z4g, z4g, z4g, z4g, z4g, z4g, z4h, z4h] rfl rfl (one_of HT_.out zi) zh (fun K hK => ?_)
      have hcv12 := own_string (P := Tryz.prog) Tryz.underlying22 Tryz.underlying5 Tryz.underlying9 (Kd.own_of_R HO281.out)
      refine value_ (w1 := ?_) (v := ?_) zw rfl ?_ ?_
      rotate_left 2
      ·go_simp
       constructor
       ·rfl
       ·rfl
      clear hcv12
      refine hK.out _ _ trivial (fun hHeld => ?_)
      clear hK K
      refine norm_ (a' := ?_) ?_ ?_
      rotate_left
      ·show Act.put _ (some 18) _ = _
       simp only [Act.put, z4i, z4j, z4k, i64_w, i32_w]
       rfl
      exact norm_ z2l (hCont (v280) _ ⟨z2m, zp⟩)
     ·skip
      have hcv11 := own_string (P := Tryz.prog) Tryz.underlying22 Tryz.underlying5 Tryz.underlying9 (Kd.own_of_R HO281.out)
      refine value_ (w1 := ?_) (v := ?_) zw rfl ?_ ?_
      rotate_left 2
      ·go_simp
       constructor
       ·rfl
       ·rfl
      clear hcv11
      refine hK.out _ _ trivial (fun hHeld => ?_)
      clear hK K
      refine norm_ (a' := ?_) ?_ ?_
      rotate_left
      ·show Act.put _ (some 18) _ = _
       simp only [Act.put, z4i, z4j, z4k, i64_w, i32_w]
       rfl
      refine one_ (i := 2) (N := some 12) #[z4g, z4g, z4g, z4g, z4g, z4g, z4g, z4g, z4g, z4h, z4h] rfl rfl (one_of HT_.out zi) zh (fun K hK => ?_)
      refine goes_ Tryz.func106 zi rfl #[.int .i64 (wrap64 (Int.tdiv a0 10))] zw rfl rfl zo ?_
      with_reducible refine (ih k zg (wrap64 (Int.tdiv a0 10)) t278 _ A6.out).mono ?_
      rintro e w12 ⟨rfl, hb⟩
      refine ⟨_, rfl, ?_⟩
      have n0_ := Aside0.mk (Kd.R_below z2m hb)
      have n1_ := Aside0.mk (below_step zp hb)
      clear HO281
      clear HB
      have HO281 := n0_
      have HB := n1_
      clear n0_ n1_
      (try clear hb)
      (try clear hb2)
      (try clear hk)
      (try clear hi)
      refine hK.out _ _ trivial (fun hHeld => ?_)
      clear hK K
      refine norm_ (a' := ?_) ?_ ?_
      rotate_left
      ·show Act.put _ (some 12) _ = _
       simp only [Act.put, z4i, z4j, z4k, i64_w, i32_w]
       rfl
      exact norm_ z2l (hCont (v280) _ ⟨z2m, zp⟩)
   rintro v280 w13 ⟨h0_, h1_⟩
   have n0_ : Aside0 (Kd.R (Kd.int .u8) 5 w13 w.heap.size (fun _ => True) v280 y279) := ⟨h0_⟩
   have n1_ : Aside0 (Below w.heap.size w w13) := ⟨h1_⟩
   clear HB
   clear h0_ h1_
   have HO281 := n0_
   have HB := n1_
   clear n0_ n1_
   have hHeld := trivial
   refine norm_ (a' := ?_) ?_ ?_
   rotate_left
   ·simp only [putAll, Act.put, z4i, z4j, z4k]
    rfl
   refine pure_ (i := 9) (N := some 19) (v := ?_) (a' := ?_) #[z4g, z4g, z4g, z4g, z4g, z4g, z4g, z4g, z4g, z4g, z4h] rfl rfl (any_of HT_.out zi) (fun _ _ _ h => h) (Or.inl ⟨zw, ?_⟩) ?_ ?_
   rotate_left
   ·intro w'
    go_simp
    with_reducible rfl
   rotate_left
   ·simp only [Act.put, z4i, z4j, z4k, i64_w, i32_w]
    rfl
   refine pure_ (i := 10) (N := some 2) (v := ?_) (a' := ?_) #[z4g, z4g, z4g, z4g, z4g, z4g, z4g, z4g, z4g, z4g, z4g] rfl rfl (any_of HT_.out zi) (fun _ _ _ h => h) (Or.inl ⟨zw, ?_⟩) ?_ ?_
   rotate_left
   ·intro w'
    go_simp
    with_reducible rfl
   rotate_left
   ·simp only [Act.put, z4i, z4j, z4k, i64_w, i32_w]
    rfl
   refine done_ (done_of HT_.out zi) ?_
   try go_wp2
   go_ret
   exact ⟨zr, zp⟩
  ·rw [if_neg c7] at H
   exact absurd H (by simp)
end Go.Proofs.YtgdknepphkhnlaaGreatDoor.X

namespace Go.Proofs.YtgdknepphkhnlaaGreatDoor.X
open Go.RowKit Go.Proofs.YtgdknepphkhnlaaGreatDoorW.PrintWords Go.Proofs.YtgdknepphkhnlaaGreatDoorW.PrintLast Go.Proofs.YtgdknepphkhnlaaGreatDoorW.PrintMore
attribute [local go_sem] max2_int min2_int max_two min_two max_three min_three max_four min_four
set_option linter.unusedVariables false
set_option linter.unusedSimpArgs false
def spec_VersionText.f (k : Nat) (a0_0 : Int) (a0_1 : Int) (a0_2 : Int) (a0_3 : ByteArray) : Option (ByteArray) := (spec_VersionOk.f k a0_0 a0_1 a0_2 a0_3).bind fun t283 => (if t283 = true then ((spec_l3Text.f k a0_0).bind fun t284 => (if 1 + t284.size ≤ 9223372036854775807 then (if ((⟨#[118]⟩ : ByteArray) ++ t284).size + 1 ≤ 9223372036854775807 then ((spec_l3Text.f k a0_1).bind fun t285 => (if (((⟨#[118]⟩ : ByteArray) ++ t284) ++ (⟨#[46]⟩ : ByteArray)).size + t285.size ≤ 9223372036854775807 then (if ((((⟨#[118]⟩ : ByteArray) ++ t284) ++ (⟨#[46]⟩ : ByteArray)) ++ t285).size + 1 ≤ 9223372036854775807 then ((spec_l3Text.f k a0_2).bind fun t286 => (if (((((⟨#[118]⟩ : ByteArray) ++ t284) ++ (⟨#[46]⟩ : ByteArray)) ++ t285) ++ (⟨#[46]⟩ : ByteArray)).size + t286.size ≤ 9223372036854775807 then (if a0_3.toList = ([] : List UInt8) then (some ((((((⟨#[118]⟩ : ByteArray) ++ t284) ++ (⟨#[46]⟩ : ByteArray)) ++ t285) ++ (⟨#[46]⟩ : ByteArray)) ++ t286)) else (if ((((((⟨#[118]⟩ : ByteArray) ++ t284) ++ (⟨#[46]⟩ : ByteArray)) ++ t285) ++ (⟨#[46]⟩ : ByteArray)) ++ t286).size + 1 ≤ 9223372036854775807 then (if (((((((⟨#[118]⟩ : ByteArray) ++ t284) ++ (⟨#[46]⟩ : ByteArray)) ++ t285) ++ (⟨#[46]⟩ : ByteArray)) ++ t286) ++ (⟨#[45]⟩ : ByteArray)).size + a0_3.size ≤ 9223372036854775807 then (some ((((((((⟨#[118]⟩ : ByteArray) ++ t284) ++ (⟨#[46]⟩ : ByteArray)) ++ t285) ++ (⟨#[46]⟩ : ByteArray)) ++ t286) ++ (⟨#[45]⟩ : ByteArray)) ++ a0_3)) else (none)) else (none))) else (none))) else (none)) else (none))) else (none)) else (none))) else (some (⟨#[]⟩ : ByteArray)))
def spec_VersionText.T3 : Bool × List (List Nat × List Nat) := (true, [([], []), ([0], [0]), ([1], [1]), ([2], [2]), ([3], [3]), ([], []), ([5], [5]), ([6, 2], [6]), ([4, 7], [4, 7]), ([8], [8]), ([], []), ([10], [10]), ([11, 7], [11]), ([9, 12], [9, 12]), ([13, 12, 0, 1, 2, 3, 4, 5, 6, 7, 8, 9, 10, 11, 12, 13], [13])])
def spec_VersionText.B3 : List Nat := [0, 1, 3, 7, 15, 0, 32, 103, 255, 511, 0, 1024, 3303, 8191, 16383]
theorem spec_VersionText.tab3 : rtab .any (opsOf Tryz.f86 3) = spec_VersionText.T3 := by kernel_rfl
theorem spec_VersionText.bits3 : waitsOk spec_VersionText.T3.2 spec_VersionText.B3 = true := by kernel_rfl
set_option maxHeartbeats 8000000 in
set_option maxRecDepth 100000 in
theorem spec_VersionText.calls (k : Nat) (a0_0 : Int) (a0_1 : Int) (a0_2 : Int) (a0_3 : ByteArray) (r : ByteArray) (w : World) (h : spec_VersionText.f k a0_0 a0_1 a0_2 a0_3 = some r) :
  Calls Tryz.prog 86 #[.agg #[.int .i64 a0_0, .int .i64 a0_1, .int .i64 a0_2, .string a0_3]] w fun e w' => e = .returned (.string r) ∧ Below w.heap.size w w' := by
 have hu25 := Tryz.underlying25
 have HB := Aside0.mk (Below.refl w.heap.size w)
 have H : ((spec_VersionOk.f k a0_0 a0_1 a0_2 a0_3).bind fun t283 => (if t283 = true then ((spec_l3Text.f k a0_0).bind fun t284 => (if 1 + t284.size ≤ 9223372036854775807 then (if ((⟨#[118]⟩ : ByteArray) ++ t284).size + 1 ≤ 9223372036854775807 then ((spec_l3Text.f k a0_1).bind fun t285 => (if (((⟨#[118]⟩ : ByteArray) ++ t284) ++ (⟨#[46]⟩ : ByteArray)).size + t285.size ≤ 9223372036854775807 then (if ((((⟨#[118]⟩ : ByteArray) ++ t284) ++ (⟨#[46]⟩ : ByteArray)) ++ t285).size + 1 ≤ 9223372036854775807 then ((spec_l3Text.f k a0_2).bind fun t286 => (if (((((⟨#[118]⟩ : ByteArray) ++ t284) ++ (⟨#[46]⟩ : ByteArray)) ++ t285) ++ (⟨#[46]⟩ : ByteArray)).size + t286.size ≤ 9223372036854775807 then (if a0_3.toList = ([] : List UInt8) then (some ((((((⟨#[118]⟩ : ByteArray) ++ t284) ++ (⟨#[46]⟩ : ByteArray)) ++ t285) ++ (⟨#[46]⟩ : ByteArray)) ++ t286)) else (if ((((((⟨#[118]⟩ : ByteArray) ++ t284) ++ (⟨#[46]⟩ : ByteArray)) ++ t285) ++ (⟨#[46]⟩ : ByteArray)) ++ t286).size + 1 ≤ 9223372036854775807 then (if (((((((⟨#[118]⟩ : ByteArray) ++ t284) ++ (⟨#[46]⟩ : ByteArray)) ++ t285) ++ (⟨#[46]⟩ : ByteArray)) ++ t286) ++ (⟨#[45]⟩ : ByteArray)).size + a0_3.size ≤ 9223372036854775807 then (some ((((((((⟨#[118]⟩ : ByteArray) ++ t284) ++ (⟨#[46]⟩ : ByteArray)) ++ t285) ++ (⟨#[46]⟩ : ByteArray)) ++ t286) ++ (⟨#[45]⟩ : ByteArray)) ++ a0_3)) else (none)) else (none))) else (none))) else (none)) else (none))) else (none)) else (none))) else (some (⟨#[]⟩ : ByteArray)))) = some r := h
 clear h
 replace H := Option.bind_eq_some_iff.mp H
 obtain ⟨t283, A20, H⟩ := H
 replace H : (if t283 = true then ((spec_l3Text.f k a0_0).bind fun t284 => (if 1 + t284.size ≤ 9223372036854775807 then (if ((⟨#[118]⟩ : ByteArray) ++ t284).size + 1 ≤ 9223372036854775807 then ((spec_l3Text.f k a0_1).bind fun t285 => (if (((⟨#[118]⟩ : ByteArray) ++ t284) ++ (⟨#[46]⟩ : ByteArray)).size + t285.size ≤ 9223372036854775807 then (if ((((⟨#[118]⟩ : ByteArray) ++ t284) ++ (⟨#[46]⟩ : ByteArray)) ++ t285).size + 1 ≤ 9223372036854775807 then ((spec_l3Text.f k a0_2).bind fun t286 => (if (((((⟨#[118]⟩ : ByteArray) ++ t284) ++ (⟨#[46]⟩ : ByteArray)) ++ t285) ++ (⟨#[46]⟩ : ByteArray)).size + t286.size ≤ 9223372036854775807 then (if a0_3.toList = ([] : List UInt8) then (some ((((((⟨#[118]⟩ : ByteArray) ++ t284) ++ (⟨#[46]⟩ : ByteArray)) ++ t285) ++ (⟨#[46]⟩ : ByteArray)) ++ t286)) else (if ((((((⟨#[118]⟩ : ByteArray) ++ t284) ++ (⟨#[46]⟩ : ByteArray)) ++ t285) ++ (⟨#[46]⟩ : ByteArray)) ++ t286).size + 1 ≤ 9223372036854775807 then (if (((((((⟨#[118]⟩ : ByteArray) ++ t284) ++ (⟨#[46]⟩ : ByteArray)) ++ t285) ++ (⟨#[46]⟩ : ByteArray)) ++ t286) ++ (⟨#[45]⟩ : ByteArray)).size + a0_3.size ≤ 9223372036854775807 then (some ((((((((⟨#[118]⟩ : ByteArray) ++ t284) ++ (⟨#[46]⟩ : ByteArray)) ++ t285) ++ (⟨#[46]⟩ : ByteArray)) ++ t286) ++ (⟨#[45]⟩ : ByteArray)) ++ a0_3)) else (none)) else (none))) else (none))) else (none)) else (none))) else (none)) else (none))) else (some (⟨#[]⟩ : ByteArray))) = some r := H
 have A2 := Aside0.mk A20
 clear A20
 by_cases c3 : t283 = true
 ·subst c3
  have H1 : ((spec_l3Text.f k a0_0).bind fun t284 => (if 1 + t284.size ≤ 9223372036854775807 then (if ((⟨#[118]⟩ : ByteArray) ++ t284).size + 1 ≤ 9223372036854775807 then ((spec_l3Text.f k a0_1).bind fun t285 => (if (((⟨#[118]⟩ : ByteArray) ++ t284) ++ (⟨#[46]⟩ : ByteArray)).size + t285.size ≤ 9223372036854775807 then (if ((((⟨#[118]⟩ : ByteArray) ++ t284) ++ (⟨#[46]⟩ : ByteArray)) ++ t285).size + 1 ≤ 9223372036854775807 then ((spec_l3Text.f k a0_2).bind fun t286 => (if (((((⟨#[118]⟩ : ByteArray) ++ t284) ++ (⟨#[46]⟩ : ByteArray)) ++ t285) ++ (⟨#[46]⟩ : ByteArray)).size + t286.size ≤ 9223372036854775807 then (if a0_3.toList = ([] : List UInt8) then (some ((((((⟨#[118]⟩ : ByteArray) ++ t284) ++ (⟨#[46]⟩ : ByteArray)) ++ t285) ++ (⟨#[46]⟩ : ByteArray)) ++ t286)) else (if ((((((⟨#[118]⟩ : ByteArray) ++ t284) ++ (⟨#[46]⟩ : ByteArray)) ++ t285) ++ (⟨#[46]⟩ : ByteArray)) ++ t286).size + 1 ≤ 9223372036854775807 then (if (((((((⟨#[118]⟩ : ByteArray) ++ t284) ++ (⟨#[46]⟩ : ByteArray)) ++ t285) ++ (⟨#[46]⟩ : ByteArray)) ++ t286) ++ (⟨#[45]⟩ : ByteArray)).size + a0_3.size ≤ 9223372036854775807 then (some ((((((((⟨#[118]⟩ : ByteArray) ++ t284) ++ (⟨#[46]⟩ : ByteArray)) ++ t285) ++ (⟨#[46]⟩ : ByteArray)) ++ t286) ++ (⟨#[45]⟩ : ByteArray)) ++ a0_3)) else (none)) else (none))) else (none))) else (none)) else (none))) else (none)) else (none))) = some r := by rw [if_pos rfl] at H; exact H
  clear H
  have H := H1
  clear H1
  replace H := Option.bind_eq_some_iff.mp H
  obtain ⟨t284, A40, H⟩ := H
  replace H : (if 1 + t284.size ≤ 9223372036854775807 then (if ((⟨#[118]⟩ : ByteArray) ++ t284).size + 1 ≤ 9223372036854775807 then ((spec_l3Text.f k a0_1).bind fun t285 => (if (((⟨#[118]⟩ : ByteArray) ++ t284) ++ (⟨#[46]⟩ : ByteArray)).size + t285.size ≤ 9223372036854775807 then (if ((((⟨#[118]⟩ : ByteArray) ++ t284) ++ (⟨#[46]⟩ : ByteArray)) ++ t285).size + 1 ≤ 9223372036854775807 then ((spec_l3Text.f k a0_2).bind fun t286 => (if (((((⟨#[118]⟩ : ByteArray) ++ t284) ++ (⟨#[46]⟩ : ByteArray)) ++ t285) ++ (⟨#[46]⟩ : ByteArray)).size + t286.size ≤ 9223372036854775807 then (if a0_3.toList = ([] : List UInt8) then (some ((((((⟨#[118]⟩ : ByteArray) ++ t284) ++ (⟨#[46]⟩ : ByteArray)) ++ t285) ++ (⟨#[46]⟩ : ByteArray)) ++ t286)) else (if ((((((⟨#[118]⟩ : ByteArray) ++ t284) ++ (⟨#[46]⟩ : ByteArray)) ++ t285) ++ (⟨#[46]⟩ : ByteArray)) ++ t286).size + 1 ≤ 9223372036854775807 then (if (((((((⟨#[118]⟩ : ByteArray) ++ t284) ++ (⟨#[46]⟩ : ByteArray)) ++ t285) ++ (⟨#[46]⟩ : ByteArray)) ++ t286) ++ (⟨#[45]⟩ : ByteArray)).size + a0_3.size ≤ 9223372036854775807 then (some ((((((((⟨#[118]⟩ : ByteArray) ++ t284) ++ (⟨#[46]⟩ : ByteArray)) ++ t285) ++ (⟨#[46]⟩ : ByteArray)) ++ t286) ++ (⟨#[45]⟩ : ByteArray)) ++ a0_3)) else (none)) else (none))) else (none))) else (none)) else (none))) else (none)) else (none)) = some r := H
  have A4 := Aside0.mk A40
  clear A40
  by_cases c5 : 1 + t284.size ≤ 9223372036854775807
  ·rw [if_pos c5] at H
   have c5b0 := eq_true c5
   have c5b1 : decide (1 + t284.size ≤ 9223372036854775807) = true := decide_eq_true c5
   try have c5b2 : (9223372036854775807 < 1 + t284.size) = False := eq_false (Nat.not_lt.2 c5)
   by_cases c6 : ((⟨#[118]⟩ : ByteArray) ++ t284).size + 1 ≤ 9223372036854775807
   ·rw [if_pos c6] at H
    have c6s0 : (9223372036854775807 < 1 + t284.size + 1) = False := eq_false (Nat.not_lt.2 (by have h_ := c6; simp only [ByteArray.size_append] at h_; exact h_))
    have c6b0 := eq_true c6
    have c6b1 : decide (((⟨#[118]⟩ : ByteArray) ++ t284).size + 1 ≤ 9223372036854775807) = true := decide_eq_true c6
    try have c6b2 : (9223372036854775807 < ((⟨#[118]⟩ : ByteArray) ++ t284).size + 1) = False := eq_false (Nat.not_lt.2 c6)
    replace H := Option.bind_eq_some_iff.mp H
    obtain ⟨t285, A70, H⟩ := H
    replace H : (if (((⟨#[118]⟩ : ByteArray) ++ t284) ++ (⟨#[46]⟩ : ByteArray)).size + t285.size ≤ 9223372036854775807 then (if ((((⟨#[118]⟩ : ByteArray) ++ t284) ++ (⟨#[46]⟩ : ByteArray)) ++ t285).size + 1 ≤ 9223372036854775807 then ((spec_l3Text.f k a0_2).bind fun t286 => (if (((((⟨#[118]⟩ : ByteArray) ++ t284) ++ (⟨#[46]⟩ : ByteArray)) ++ t285) ++ (⟨#[46]⟩ : ByteArray)).size + t286.size ≤ 9223372036854775807 then (if a0_3.toList = ([] : List UInt8) then (some ((((((⟨#[118]⟩ : ByteArray) ++ t284) ++ (⟨#[46]⟩ : ByteArray)) ++ t285) ++ (⟨#[46]⟩ : ByteArray)) ++ t286)) else (if ((((((⟨#[118]⟩ : ByteArray) ++ t284) ++ (⟨#[46]⟩ : ByteArray)) ++ t285) ++ (⟨#[46]⟩ : ByteArray)) ++ t286).size + 1 ≤ 9223372036854775807 then (if (((((((⟨#[118]⟩ : ByteArray) ++ t284) ++ (⟨#[46]⟩ : ByteArray)) ++ t285) ++ (⟨#[46]⟩ : ByteArray)) ++ t286) ++ (⟨#[45]⟩ : ByteArray)).size + a0_3.size ≤ 9223372036854775807 then (some ((((((((⟨#[118]⟩ : ByteArray) ++ t284) ++ (⟨#[46]⟩ : ByteArray)) ++ t285) ++ (⟨#[46]⟩ : ByteArray)) ++ t286) ++ (⟨#[45]⟩ : ByteArray)) ++ a0_3)) else (none)) else (none))) else (none))) else (none)) else (none)) = some r := H
    have A7 := Aside0.mk A70
    clear A70
    by_cases c8 : (((⟨#[118]⟩ : ByteArray) ++ t284) ++ (⟨#[46]⟩ : ByteArray)).size + t285.size ≤ 9223372036854775807
    ·rw [if_pos c8] at H
     have c8s0 : (9223372036854775807 < 1 + t284.size + 1 + t285.size) = False := eq_false (Nat.not_lt.2 (by have h_ := c8; simp only [ByteArray.size_append] at h_; exact h_))
     have c8b0 := eq_true c8
     have c8b1 : decide ((((⟨#[118]⟩ : ByteArray) ++ t284) ++ (⟨#[46]⟩ : ByteArray)).size + t285.size ≤ 9223372036854775807) = true := decide_eq_true c8
     try have c8b2 : (9223372036854775807 < (((⟨#[118]⟩ : ByteArray) ++ t284) ++ (⟨#[46]⟩ : ByteArray)).size + t285.size) = False := eq_false (Nat.not_lt.2 c8)
     by_cases c9 : ((((⟨#[118]⟩ : ByteArray) ++ t284) ++ (⟨#[46]⟩ : ByteArray)) ++ t285).size + 1 ≤ 9223372036854775807
     ·rw [if_pos c9] at H
      have c9s0 : (9223372036854775807 < 1 + t284.size + 1 + t285.size + 1) = False := eq_false (Nat.not_lt.2 (by have h_ := c9; simp only [ByteArray.size_append] at h_; exact h_))
      have c9b0 := eq_true c9
      have c9b1 : decide (((((⟨#[118]⟩ : ByteArray) ++ t284) ++ (⟨#[46]⟩ : ByteArray)) ++ t285).size + 1 ≤ 9223372036854775807) = true := decide_eq_true c9
      try have c9b2 : (9223372036854775807 < ((((⟨#[118]⟩ : ByteArray) ++ t284) ++ (⟨#[46]⟩ : ByteArray)) ++ t285).size + 1) = False := eq_false (Nat.not_lt.2 c9)
      replace H := Option.bind_eq_some_iff.mp H
      obtain ⟨t286, A100, H⟩ := H
      replace H : (if (((((⟨#[118]⟩ : ByteArray) ++ t284) ++ (⟨#[46]⟩ : ByteArray)) ++ t285) ++ (⟨#[46]⟩ : ByteArray)).size + t286.size ≤ 9223372036854775807 then (if a0_3.toList = ([] : List UInt8) then (some ((((((⟨#[118]⟩ : ByteArray) ++ t284) ++ (⟨#[46]⟩ : ByteArray)) ++ t285) ++ (⟨#[46]⟩ : ByteArray)) ++ t286)) else (if ((((((⟨#[118]⟩ : ByteArray) ++ t284) ++ (⟨#[46]⟩ : ByteArray)) ++ t285) ++ (⟨#[46]⟩ : ByteArray)) ++ t286).size + 1 ≤ 9223372036854775807 then (if (((((((⟨#[118]⟩ : ByteArray) ++ t284) ++ (⟨#[46]⟩ : ByteArray)) ++ t285) ++ (⟨#[46]⟩ : ByteArray)) ++ t286) ++ (⟨#[45]⟩ : ByteArray)).size + a0_3.size ≤ 9223372036854775807 then (some ((((((((⟨#[118]⟩ : ByteArray) ++ t284) ++ (⟨#[46]⟩ : ByteArray)) ++ t285) ++ (⟨#[46]⟩ : ByteArray)) ++ t286) ++ (⟨#[45]⟩ : ByteArray)) ++ a0_3)) else (none)) else (none))) else (none)) = some r := H
      have A10 := Aside0.mk A100
      clear A100
      by_cases c11 : (((((⟨#[118]⟩ : ByteArray) ++ t284) ++ (⟨#[46]⟩ : ByteArray)) ++ t285) ++ (⟨#[46]⟩ : ByteArray)).size + t286.size ≤ 9223372036854775807
      ·rw [if_pos c11] at H
       have c11s0 : (9223372036854775807 < 1 + t284.size + 1 + t285.size + 1 + t286.size) = False := eq_false (Nat.not_lt.2 (by have h_ := c11; simp only [ByteArray.size_append] at h_; exact h_))
       have c11b0 := eq_true c11
       have c11b1 : decide ((((((⟨#[118]⟩ : ByteArray) ++ t284) ++ (⟨#[46]⟩ : ByteArray)) ++ t285) ++ (⟨#[46]⟩ : ByteArray)).size + t286.size ≤ 9223372036854775807) = true := decide_eq_true c11
       try have c11b2 : (9223372036854775807 < (((((⟨#[118]⟩ : ByteArray) ++ t284) ++ (⟨#[46]⟩ : ByteArray)) ++ t285) ++ (⟨#[46]⟩ : ByteArray)).size + t286.size) = False := eq_false (Nat.not_lt.2 c11)
       by_cases c12 : a0_3.toList = ([] : List UInt8)
       ·rw [if_pos c12] at H
        have c12b0 : (a0_3.toList == ([] : List UInt8)) = true := beq_iff_eq.mpr c12
        have c12b1 : (a0_3.toList != ([] : List UInt8)) = false := bne_eq_false_iff_eq.mpr c12
        clear c12
        obtain rfl := Option.some.inj H
        go_enter Tryz.func86, Tryz.ntmps86
        try go_wp2_with (first | ((with_reducible refine gate_dst (N := 1) rfl ?_); refine box_event zw (N := 1) zw (cs := #[.int .i64 a0_0, .int .i64 a0_1, .int .i64 a0_2, .string a0_3]) (t := 25) zx ?_; intro gb282 hg w13 hbox hb; have n0_ := Aside0.mk (below_step zp hb); have n1_ := Aside0.mk hbox; have n2_ := Aside0.mk ((z3s : w.heap.size ≤ gb282)); have n3_ := Aside0.mk ((z3s : w.heap.size ≤ gb282)); clear HB; have HB := n0_; have BK282 := n1_; have GW282 := n2_; have GE282 := n3_; clear n0_ n1_ n2_ n3_; clear hb hbox hg; obtain ⟨hcz14_0, hcz14_1, hcz14_2, hcz14_3, hfz14_0, hfz14_1, hfz14_2, hfz14_3⟩ := zd BK282.out) | ((with_reducible refine gate_callee (f := 68) rfl ?_); refine goesL_ (some 5) rfl rfl Tryz.func68 zi rfl #[.agg #[.int .i64 a0_0, .int .i64 a0_1, .int .i64 a0_2, .string a0_3]] rfl zo ?_; (with_reducible refine (spec_VersionOk.calls k a0_0 a0_1 a0_2 a0_3 true _ A2.out).mono ?_); rintro e w15 ⟨rfl, hb⟩; refine ⟨_, rfl, ?_⟩; have n0_ := Aside0.mk (blk_below (g := gb282) (o := .cells #[.int .i64 a0_0, .int .i64 a0_1, .int .i64 a0_2, .string a0_3] 25 (0, 0)) z2n hb); have n1_ := Aside0.mk (below_step z2o hb); clear BK282; clear HB; have BK282 := n0_; have HB := n1_; clear n0_ n1_; (try clear hb); (try clear hb2); (try clear hk); (try clear hi)))
        have n0_ := Aside0.mk (blk_drew BK282.out)
        have n1_ := Aside0.mk (below_drew1 HB.out)
        clear BK282
        clear HB
        have BK282 := n0_
        have HB := n1_
        clear n0_ n1_
        refine start_ (n := 15) (S := fun w' => w'.cell? ⟨gb282, 0, none⟩ = some (.int .i64 a0_0) ∧ w'.cell? ⟨gb282, 1, none⟩ = some (.int .i64 a0_1) ∧ w'.cell? ⟨gb282, 2, none⟩ = some (.int .i64 a0_2) ∧ w'.cell? ⟨gb282, 3, none⟩ = some (.string a0_3)) (ds := []) #[z4h, z4h, z4h, z4h, z4h, z4h, z4h, z4h, z4h, z4h, z4h, z4h, z4h, z4h, z4h] zi rfl rfl ⟨(blk_cell BK282.out 0).trans rfl, (blk_cell BK282.out 1).trans rfl, (blk_cell BK282.out 2).trans rfl, (blk_cell BK282.out 3).trans rfl⟩ (fun hHeld => ?_); refine with_tabW spec_VersionText.tab3 spec_VersionText.bits3 (fun HT_ HW_ => ?_)
        generalize w15.drew = w16 at BK282 HB hHeld ⊢
        refine pure_ (i := 0) (N := some 7) (v := ?_) (a' := ?_) #[z4g, z4h, z4h, z4h, z4h, z4h, z4h, z4h, z4h, z4h, z4h, z4h, z4h, z4h, z4h] rfl rfl (any_of HT_.out zi) (fun _ _ _ h => h) (Or.inl ⟨zw, ?_⟩) ?_ ?_
        rotate_left
        ·intro w'
         go_simp
         with_reducible rfl
        rotate_left
        ·simp only [Act.put, z4i, z4j, z4k, i64_w, i32_w]
         rfl
        refine pure_ (i := 5) (N := some 12) (v := ?_) (a' := ?_) #[z4g, z4h, z4h, z4h, z4h, z4g, z4h, z4h, z4h, z4h, z4h, z4h, z4h, z4h, z4h] rfl rfl (any_of HT_.out zi) (fun _ _ _ h => h) (Or.inl ⟨zw, ?_⟩) ?_ ?_
        rotate_left
        ·intro w'
         go_simp
         with_reducible rfl
        rotate_left
        ·simp only [Act.put, z4i, z4j, z4k, i64_w, i32_w]
         rfl
        refine pure_ (i := 10) (N := some 17) (v := ?_) (a' := ?_) #[z4g, z4h, z4h, z4h, z4h, z4g, z4h, z4h, z4h, z4h, z4g, z4h, z4h, z4h, z4h] rfl rfl (any_of HT_.out zi) (fun _ _ _ h => h) (Or.inl ⟨zw, ?_⟩) ?_ ?_
        rotate_left
        ·intro w'
         go_simp
         with_reducible rfl
        rotate_left
        ·simp only [Act.put, z4i, z4j, z4k, i64_w, i32_w]
         rfl
        refine take_ (i := 1) (N := some 8) (v := ?_) (a' := ?_) #[z4g, z4g, z4h, z4h, z4h, z4g, z4h, z4h, z4h, z4h, z4g, z4h, z4h, z4h, z4h] rfl rfl (take_ofW HT_.out HW_.out zi) (fun _ _ _ h => h) (Or.inl ⟨zw, ?_⟩) hHeld ?_ ?_
        rotate_left
        ·rintro w' ⟨s0, s1, s2, s3⟩
         go_simp
         with_reducible rfl
        rotate_left
        ·simp only [Act.put, z4i, z4j, z4k, i64_w, i32_w]
         rfl
        refine take_ (i := 6) (N := some 13) (v := ?_) (a' := ?_) #[z4g, z4g, z4h, z4h, z4h, z4g, z4g, z4h, z4h, z4h, z4g, z4h, z4h, z4h, z4h] rfl rfl (take_ofW HT_.out HW_.out zi) (fun _ _ _ h => h) (Or.inl ⟨zw, ?_⟩) hHeld ?_ ?_
        rotate_left
        ·rintro w' ⟨s0, s1, s2, s3⟩
         go_simp
         with_reducible rfl
        rotate_left
        ·simp only [Act.put, z4i, z4j, z4k, i64_w, i32_w]
         rfl
        refine take_ (i := 11) (N := some 18) (v := ?_) (a' := ?_) #[z4g, z4g, z4h, z4h, z4h, z4g, z4g, z4h, z4h, z4h, z4g, z4g, z4h, z4h, z4h] rfl rfl (take_ofW HT_.out HW_.out zi) (fun _ _ _ h => h) (Or.inl ⟨zw, ?_⟩) hHeld ?_ ?_
        rotate_left
        ·rintro w' ⟨s0, s1, s2, s3⟩
         go_simp
         with_reducible rfl
        rotate_left
        ·simp only [Act.put, z4i, z4j, z4k, i64_w, i32_w]
         rfl
        refine one_ (i := 2) (N := some 9) #[z4g, z4g, z4g, z4h, z4h, z4g, z4g, z4h, z4h, z4h, z4g, z4g, z4h, z4h, z4h] rfl rfl (one_of HT_.out zi) zh (fun K hK => ?_)
        refine goes_ Tryz.func106 zi rfl #[.int .i64 a0_0] zw rfl rfl zo ?_
        with_reducible refine (spec_l3Text.calls k a0_0 t284 _ A4.out).mono ?_
        rintro e w17 ⟨rfl, hb⟩
        refine ⟨_, rfl, ?_⟩
        have n0_ := Aside0.mk (blk_below (g := gb282) (o := .cells #[.int .i64 a0_0, .int .i64 a0_1, .int .i64 a0_2, .string a0_3] 25 (0, 0)) z2n hb)
        have n1_ := Aside0.mk (below_step z2o hb)
        clear BK282
        clear HB
        have BK282 := n0_
        have HB := n1_
        clear n0_ n1_
        (try clear hb)
        (try clear hb2)
        (try clear hk)
        (try clear hi)
        refine hK.out _ _ ⟨(blk_cell BK282.out 0).trans rfl, (blk_cell BK282.out 1).trans rfl, (blk_cell BK282.out 2).trans rfl, (blk_cell BK282.out 3).trans rfl⟩ (fun hHeld => ?_)
        clear hK K
        refine norm_ (a' := ?_) ?_ ?_
        rotate_left
        ·show Act.put _ (some 9) _ = _
         simp only [Act.put, z4i, z4j, z4k, i64_w, i32_w]
         rfl
        refine pure_ (i := 3) (N := some 10) (v := ?_) (a' := ?_) #[z4g, z4g, z4g, z4g, z4h, z4g, z4g, z4h, z4h, z4h, z4g, z4g, z4h, z4h, z4h] rfl rfl (any_of HT_.out zi) (fun _ _ _ h => h) (Or.inl ⟨zw, ?_⟩) ?_ ?_
        rotate_left
        ·intro w'
         go_simp
         with_reducible rfl
        rotate_left
        ·simp only [Act.put, z4i, z4j, z4k, i64_w, i32_w]
         rfl
        refine pure_ (i := 4) (N := some 11) (v := ?_) (a' := ?_) #[z4g, z4g, z4g, z4g, z4g, z4g, z4g, z4h, z4h, z4h, z4g, z4g, z4h, z4h, z4h] rfl rfl (any_of HT_.out zi) (fun _ _ _ h => h) (Or.inl ⟨zw, ?_⟩) ?_ ?_
        rotate_left
        ·intro w'
         go_simp
         with_reducible rfl
        rotate_left
        ·simp only [Act.put, z4i, z4j, z4k, i64_w, i32_w]
         rfl
        refine one_ (i := 7) (N := some 14) #[z4g, z4g, z4g, z4g, z4g, z4g, z4g, z4g, z4h, z4h, z4g, z4g, z4h, z4h, z4h] rfl rfl (one_of HT_.out zi) zh (fun K hK => ?_)
        refine goes_ Tryz.func106 zi rfl #[.int .i64 a0_1] zw rfl rfl zo ?_
        with_reducible refine (spec_l3Text.calls k a0_1 t285 _ A7.out).mono ?_
        rintro e w18 ⟨rfl, hb⟩
        refine ⟨_, rfl, ?_⟩
        have n0_ := Aside0.mk (blk_below (g := gb282) (o := .cells #[.int .i64 a0_0, .int .i64 a0_1, .int .i64 a0_2, .string a0_3] 25 (0, 0)) z2n hb)
        have n1_ := Aside0.mk (below_step z2o hb)
        clear BK282
        clear HB
        have BK282 := n0_
        have HB := n1_
        clear n0_ n1_
        (try clear hb)
        (try clear hb2)
        (try clear hk)
        (try clear hi)
        refine hK.out _ _ ⟨(blk_cell BK282.out 0).trans rfl, (blk_cell BK282.out 1).trans rfl, (blk_cell BK282.out 2).trans rfl, (blk_cell BK282.out 3).trans rfl⟩ (fun hHeld => ?_)
        clear hK K
        refine norm_ (a' := ?_) ?_ ?_
        rotate_left
        ·show Act.put _ (some 14) _ = _
         simp only [Act.put, z4i, z4j, z4k, i64_w, i32_w]
         rfl
        refine pure_ (i := 8) (N := some 15) (v := ?_) (a' := ?_) #[z4g, z4g, z4g, z4g, z4g, z4g, z4g, z4g, z4g, z4h, z4g, z4g, z4h, z4h, z4h] rfl rfl (any_of HT_.out zi) (fun _ _ _ h => h) (Or.inl ⟨zw, ?_⟩) ?_ ?_
        rotate_left
        ·intro w'
         go_simp
         with_reducible rfl
        rotate_left
        ·simp only [Act.put, z4i, z4j, z4k, i64_w, i32_w]
         rfl
        refine pure_ (i := 9) (N := some 16) (v := ?_) (a' := ?_) #[z4g, z4g, z4g, z4g, z4g, z4g, z4g, z4g, z4g, z4g, z4g, z4g, z4h, z4h, z4h] rfl rfl (any_of HT_.out zi) (fun _ _ _ h => h) (Or.inl ⟨zw, ?_⟩) ?_ ?_
        rotate_left
        ·intro w'
         go_simp
         with_reducible rfl
        rotate_left
        ·simp only [Act.put, z4i, z4j, z4k, i64_w, i32_w]
         rfl
        refine one_ (i := 12) (N := some 19) #[z4g, z4g, z4g, z4g, z4g, z4g, z4g, z4g, z4g, z4g, z4g, z4g, z4g, z4h, z4h] rfl rfl (one_of HT_.out zi) zh (fun K hK => ?_)
        refine goes_ Tryz.func106 zi rfl #[.int .i64 a0_2] zw rfl rfl zo ?_
        with_reducible refine (spec_l3Text.calls k a0_2 t286 _ A10.out).mono ?_
        rintro e w19 ⟨rfl, hb⟩
        refine ⟨_, rfl, ?_⟩
        have n0_ := Aside0.mk (blk_below (g := gb282) (o := .cells #[.int .i64 a0_0, .int .i64 a0_1, .int .i64 a0_2, .string a0_3] 25 (0, 0)) z2n hb)
        have n1_ := Aside0.mk (below_step z2o hb)
        clear BK282
        clear HB
        have BK282 := n0_
        have HB := n1_
        clear n0_ n1_
        (try clear hb)
        (try clear hb2)
        (try clear hk)
        (try clear hi)
        refine hK.out _ _ ⟨(blk_cell BK282.out 0).trans rfl, (blk_cell BK282.out 1).trans rfl, (blk_cell BK282.out 2).trans rfl, (blk_cell BK282.out 3).trans rfl⟩ (fun hHeld => ?_)
        clear hK K
        refine norm_ (a' := ?_) ?_ ?_
        rotate_left
        ·show Act.put _ (some 19) _ = _
         simp only [Act.put, z4i, z4j, z4k, i64_w, i32_w]
         rfl
        refine pure_ (i := 13) (N := some 20) (v := ?_) (a' := ?_) #[z4g, z4g, z4g, z4g, z4g, z4g, z4g, z4g, z4g, z4g, z4g, z4g, z4g, z4g, z4h] rfl rfl (any_of HT_.out zi) (fun _ _ _ h => h) (Or.inl ⟨zw, ?_⟩) ?_ ?_
        rotate_left
        ·intro w'
         go_simp
         with_reducible rfl
        rotate_left
        ·simp only [Act.put, z4i, z4j, z4k, i64_w, i32_w]
         rfl
        refine pure_ (i := 14) (N := some 3) (v := ?_) (a' := ?_) #[z4g, z4g, z4g, z4g, z4g, z4g, z4g, z4g, z4g, z4g, z4g, z4g, z4g, z4g, z4g] rfl rfl (any_of HT_.out zi) (fun _ _ _ h => h) (Or.inl ⟨zw, ?_⟩) ?_ ?_
        rotate_left
        ·intro w'
         go_simp
         with_reducible rfl
        rotate_left
        ·simp only [Act.put, z4i, z4j, z4k, i64_w, i32_w]
         rfl
        refine done_ (done_of HT_.out zi) ?_
        obtain ⟨hcz20_0, hcz20_1, hcz20_2, hcz20_3, hfz20_0, hfz20_1, hfz20_2, hfz20_3⟩ := zd BK282.out
        try go_wp2
        go_ret
        exact ⟨zr, z2o⟩
       ·rw [if_neg c12] at H
        have c12b0 : (a0_3.toList == ([] : List UInt8)) = false := beq_eq_false_iff_ne.mpr c12
        have c12b1 : (a0_3.toList != ([] : List UInt8)) = true := bne_iff_ne.mpr c12
        by_cases c21 : ((((((⟨#[118]⟩ : ByteArray) ++ t284) ++ (⟨#[46]⟩ : ByteArray)) ++ t285) ++ (⟨#[46]⟩ : ByteArray)) ++ t286).size + 1 ≤ 9223372036854775807
        ·rw [if_pos c21] at H
         have c21s0 : (9223372036854775807 < 1 + t284.size + 1 + t285.size + 1 + t286.size + 1) = False := eq_false (Nat.not_lt.2 (by have h_ := c21; simp only [ByteArray.size_append] at h_; exact h_))
         have c21b0 := eq_true c21
         have c21b1 : decide (((((((⟨#[118]⟩ : ByteArray) ++ t284) ++ (⟨#[46]⟩ : ByteArray)) ++ t285) ++ (⟨#[46]⟩ : ByteArray)) ++ t286).size + 1 ≤ 9223372036854775807) = true := decide_eq_true c21
         try have c21b2 : (9223372036854775807 < ((((((⟨#[118]⟩ : ByteArray) ++ t284) ++ (⟨#[46]⟩ : ByteArray)) ++ t285) ++ (⟨#[46]⟩ : ByteArray)) ++ t286).size + 1) = False := eq_false (Nat.not_lt.2 c21)
         by_cases c22 : (((((((⟨#[118]⟩ : ByteArray) ++ t284) ++ (⟨#[46]⟩ : ByteArray)) ++ t285) ++ (⟨#[46]⟩ : ByteArray)) ++ t286) ++ (⟨#[45]⟩ : ByteArray)).size + a0_3.size ≤ 9223372036854775807
         ·rw [if_pos c22] at H
          have c22s0 : (9223372036854775807 < 1 + t284.size + 1 + t285.size + 1 + t286.size + 1 + a0_3.size) = False := eq_false (Nat.not_lt.2 (by have h_ := c22; simp only [ByteArray.size_append] at h_; exact h_))
          have c22b0 := eq_true c22
          have c22b1 : decide ((((((((⟨#[118]⟩ : ByteArray) ++ t284) ++ (⟨#[46]⟩ : ByteArray)) ++ t285) ++ (⟨#[46]⟩ : ByteArray)) ++ t286) ++ (⟨#[45]⟩ : ByteArray)).size + a0_3.size ≤ 9223372036854775807) = true := decide_eq_true c22
          try have c22b2 : (9223372036854775807 < (((((((⟨#[118]⟩ : ByteArray) ++ t284) ++ (⟨#[46]⟩ : ByteArray)) ++ t285) ++ (⟨#[46]⟩ : ByteArray)) ++ t286) ++ (⟨#[45]⟩ : ByteArray)).size + a0_3.size) = False := eq_false (Nat.not_lt.2 c22)
          obtain rfl := Option.some.inj H
          go_enter Tryz.func86, Tryz.ntmps86
          try go_wp2_with (first | ((with_reducible refine gate_dst (N := 1) rfl ?_); refine box_event zw (N := 1) zw (cs := #[.int .i64 a0_0, .int .i64 a0_1, .int .i64 a0_2, .string a0_3]) (t := 25) zx ?_; intro gb282 hg w23 hbox hb; have n0_ := Aside0.mk (below_step zp hb); have n1_ := Aside0.mk hbox; have n2_ := Aside0.mk ((z3s : w.heap.size ≤ gb282)); have n3_ := Aside0.mk ((z3s : w.heap.size ≤ gb282)); clear HB; have HB := n0_; have BK282 := n1_; have GW282 := n2_; have GE282 := n3_; clear n0_ n1_ n2_ n3_; clear hb hbox hg; obtain ⟨hcz24_0, hcz24_1, hcz24_2, hcz24_3, hfz24_0, hfz24_1, hfz24_2, hfz24_3⟩ := zd BK282.out) | ((with_reducible refine gate_callee (f := 68) rfl ?_); refine goesL_ (some 5) rfl rfl Tryz.func68 zi rfl #[.agg #[.int .i64 a0_0, .int .i64 a0_1, .int .i64 a0_2, .string a0_3]] rfl zo ?_; (with_reducible refine (spec_VersionOk.calls k a0_0 a0_1 a0_2 a0_3 true _ A2.out).mono ?_); rintro e w25 ⟨rfl, hb⟩; refine ⟨_, rfl, ?_⟩; have n0_ := Aside0.mk (blk_below (g := gb282) (o := .cells #[.int .i64 a0_0, .int .i64 a0_1, .int .i64 a0_2, .string a0_3] 25 (0, 0)) z2n hb); have n1_ := Aside0.mk (below_step z2o hb); clear BK282; clear HB; have BK282 := n0_; have HB := n1_; clear n0_ n1_; (try clear hb); (try clear hb2); (try clear hk); (try clear hi)))
          have n0_ := Aside0.mk (blk_drew BK282.out)
          have n1_ := Aside0.mk (below_drew1 HB.out)
          clear BK282
          clear HB
          have BK282 := n0_
          have HB := n1_
          clear n0_ n1_
          refine start_ (n := 15) (S := fun w' => w'.cell? ⟨gb282, 0, none⟩ = some (.int .i64 a0_0) ∧ w'.cell? ⟨gb282, 1, none⟩ = some (.int .i64 a0_1) ∧ w'.cell? ⟨gb282, 2, none⟩ = some (.int .i64 a0_2) ∧ w'.cell? ⟨gb282, 3, none⟩ = some (.string a0_3)) (ds := []) #[z4h, z4h, z4h, z4h, z4h, z4h, z4h, z4h, z4h, z4h, z4h, z4h, z4h, z4h, z4h] zi rfl rfl ⟨(blk_cell BK282.out 0).trans rfl, (blk_cell BK282.out 1).trans rfl, (blk_cell BK282.out 2).trans rfl, (blk_cell BK282.out 3).trans rfl⟩ (fun hHeld => ?_); refine with_tabW spec_VersionText.tab3 spec_VersionText.bits3 (fun HT_ HW_ => ?_)
          generalize w25.drew = w26 at BK282 HB hHeld ⊢
          refine pure_ (i := 0) (N := some 7) (v := ?_) (a' := ?_) #[z4g, z4h, z4h, z4h, z4h, z4h, z4h, z4h, z4h, z4h, z4h, z4h, z4h, z4h, z4h] rfl rfl (any_of HT_.out zi) (fun _ _ _ h => h) (Or.inl ⟨zw, ?_⟩) ?_ ?_
          rotate_left
          ·intro w'
           go_simp
           with_reducible rfl
          rotate_left
          ·simp only [Act.put, z4i, z4j, z4k, i64_w, i32_w]
           rfl
          refine pure_ (i := 5) (N := some 12) (v := ?_) (a' := ?_) #[z4g, z4h, z4h, z4h, z4h, z4g, z4h, z4h, z4h, z4h, z4h, z4h, z4h, z4h, z4h] rfl rfl (any_of HT_.out zi) (fun _ _ _ h => h) (Or.inl ⟨zw, ?_⟩) ?_ ?_
          rotate_left
          ·intro w'
           go_simp
           with_reducible rfl
          rotate_left
          ·simp only [Act.put, z4i, z4j, z4k, i64_w, i32_w]
           rfl
          refine pure_ (i := 10) (N := some 17) (v := ?_) (a' := ?_) #[z4g, z4h, z4h, z4h, z4h, z4g, z4h, z4h, z4h, z4h, z4g, z4h, z4h, z4h, z4h] rfl rfl (any_of HT_.out zi) (fun _ _ _ h => h) (Or.inl ⟨zw, ?_⟩) ?_ ?_
          rotate_left
          ·intro w'
           go_simp
           with_reducible rfl
          rotate_left
          ·simp only [Act.put, z4i, z4j, z4k, i64_w, i32_w]
           rfl
          refine take_ (i := 1) (N := some 8) (v := ?_) (a' := ?_) #[z4g, z4g, z4h, z4h, z4h, z4g, z4h, z4h, z4h, z4h, z4g, z4h, z4h, z4h, z4h] rfl rfl (take_ofW HT_.out HW_.out zi) (fun _ _ _ h => h) (Or.inl ⟨zw, ?_⟩) hHeld ?_ ?_
          rotate_left
          ·rintro w' ⟨s0, s1, s2, s3⟩
           go_simp
           with_reducible rfl
          rotate_left
          ·simp only [Act.put, z4i, z4j, z4k, i64_w, i32_w]
           rfl
          refine take_ (i := 6) (N := some 13) (v := ?_) (a' := ?_) #[z4g, z4g, z4h, z4h, z4h, z4g, z4g, z4h, z4h, z4h, z4g, z4h, z4h, z4h, z4h] rfl rfl (take_ofW HT_.out HW_.out zi) (fun _ _ _ h => h) (Or.inl ⟨zw, ?_⟩) hHeld ?_ ?_
          rotate_left
          ·rintro w' ⟨s0, s1, s2, s3⟩
           go_simp
           with_reducible rfl
          rotate_left
          ·simp only [Act.put, z4i, z4j, z4k, i64_w, i32_w]
           rfl
          refine take_ (i := 11) (N := some 18) (v := ?_) (a' := ?_) #[z4g, z4g, z4h, z4h, z4h, z4g, z4g, z4h, z4h, z4h, z4g, z4g, z4h, z4h, z4h] rfl rfl (take_ofW HT_.out HW_.out zi) (fun _ _ _ h => h) (Or.inl ⟨zw, ?_⟩) hHeld ?_ ?_
          rotate_left
          ·rintro w' ⟨s0, s1, s2, s3⟩
           go_simp
           with_reducible rfl
          rotate_left
          ·simp only [Act.put, z4i, z4j, z4k, i64_w, i32_w]
           rfl
          refine one_ (i := 2) (N := some 9) #[z4g, z4g, z4g, z4h, z4h, z4g, z4g, z4h, z4h, z4h, z4g, z4g, z4h, z4h, z4h] rfl rfl (one_of HT_.out zi) zh (fun K hK => ?_)
          refine goes_ Tryz.func106 zi rfl #[.int .i64 a0_0] zw rfl rfl zo ?_
          with_reducible refine (spec_l3Text.calls k a0_0 t284 _ A4.out).mono ?_
          rintro e w27 ⟨rfl, hb⟩
          refine ⟨_, rfl, ?_⟩
          have n0_ := Aside0.mk (blk_below (g := gb282) (o := .cells #[.int .i64 a0_0, .int .i64 a0_1, .int .i64 a0_2, .string a0_3] 25 (0, 0)) z2n hb)
          have n1_ := Aside0.mk (below_step z2o hb)
          clear BK282
          clear HB
          have BK282 := n0_
          have HB := n1_
          clear n0_ n1_
          (try clear hb)
          (try clear hb2)
          (try clear hk)
          (try clear hi)
          refine hK.out _ _ ⟨(blk_cell BK282.out 0).trans rfl, (blk_cell BK282.out 1).trans rfl, (blk_cell BK282.out 2).trans rfl, (blk_cell BK282.out 3).trans rfl⟩ (fun hHeld => ?_)
          clear hK K
          refine norm_ (a' := ?_) ?_ ?_
          rotate_left
          ·show Act.put _ (some 9) _ = _
           simp only [Act.put, z4i, z4j, z4k, i64_w, i32_w]
           rfl
          refine pure_ (i := 3) (N := some 10) (v := ?_) (a' := ?_) #[z4g, z4g, z4g, z4g, z4h, z4g, z4g, z4h, z4h, z4h, z4g, z4g, z4h, z4h, z4h] rfl rfl (any_of HT_.out zi) (fun _ _ _ h => h) (Or.inl ⟨zw, ?_⟩) ?_ ?_
          rotate_left
          ·intro w'
           go_simp
           with_reducible rfl
          rotate_left
          ·simp only [Act.put, z4i, z4j, z4k, i64_w, i32_w]
           rfl
          refine pure_ (i := 4) (N := some 11) (v := ?_) (a' := ?_) #[z4g, z4g, z4g, z4g, z4g, z4g, z4g, z4h, z4h, z4h, z4g, z4g, z4h, z4h, z4h] rfl rfl (any_of HT_.out zi) (fun _ _ _ h => h) (Or.inl ⟨zw, ?_⟩) ?_ ?_
          rotate_left
          ·intro w'
           go_simp
           with_reducible rfl
          rotate_left
          ·simp only [Act.put, z4i, z4j, z4k, i64_w, i32_w]
           rfl
          refine one_ (i := 7) (N := some 14) #[z4g, z4g, z4g, z4g, z4g, z4g, z4g, z4g, z4h, z4h, z4g, z4g, z4h, z4h, z4h] rfl rfl (one_of HT_.out zi) zh (fun K hK => ?_)
          refine goes_ Tryz.func106 zi rfl #[.int .i64 a0_1] zw rfl rfl zo ?_
          with_reducible refine (spec_l3Text.calls k a0_1 t285 _ A7.out).mono ?_
          rintro e w28 ⟨rfl, hb⟩
          refine ⟨_, rfl, ?_⟩
          have n0_ := Aside0.mk (blk_below (g := gb282) (o := .cells #[.int .i64 a0_0, .int .i64 a0_1, .int .i64 a0_2, .string a0_3] 25 (0, 0)) z2n hb)
          have n1_ := Aside0.mk (below_step z2o hb)
          clear BK282
          clear HB
          have BK282 := n0_
          have HB := n1_
          clear n0_ n1_
          (try clear hb)
          (try clear hb2)
          (try clear hk)
          (try clear hi)
          refine hK.out _ _ ⟨(blk_cell BK282.out 0).trans rfl, (blk_cell BK282.out 1).trans rfl, (blk_cell BK282.out 2).trans rfl, (blk_cell BK282.out 3).trans rfl⟩ (fun hHeld => ?_)
          clear hK K
          refine norm_ (a' := ?_) ?_ ?_
          rotate_left
          ·show Act.put _ (some 14) _ = _
           simp only [Act.put, z4i, z4j, z4k, i64_w, i32_w]
           rfl
          refine pure_ (i := 8) (N := some 15) (v := ?_) (a' := ?_) #[z4g, z4g, z4g, z4g, z4g, z4g, z4g, z4g, z4g, z4h, z4g, z4g, z4h, z4h, z4h] rfl rfl (any_of HT_.out zi) (fun _ _ _ h => h) (Or.inl ⟨zw, ?_⟩) ?_ ?_
          rotate_left
          ·intro w'
           go_simp
           with_reducible rfl
          rotate_left
          ·simp only [Act.put, z4i, z4j, z4k, i64_w, i32_w]
           rfl
          refine pure_ (i := 9) (N := some 16) (v := ?_) (a' := ?_) #[z4g, z4g, z4g, z4g, z4g, z4g, z4g, z4g, z4g, z4g, z4g, z4g, z4h, z4h, z4h] rfl rfl (any_of HT_.out zi) (fun _ _ _ h => h) (Or.inl ⟨zw, ?_⟩) ?_ ?_
          rotate_left
          ·intro w'
           go_simp
           with_reducible rfl
          rotate_left
          ·simp only [Act.put, z4i, z4j, z4k, i64_w, i32_w]
           rfl
          refine one_ (i := 12) (N := some 19) #[z4g, z4g, z4g, z4g, z4g, z4g, z4g, z4g, z4g, z4g, z4g, z4g, z4g, z4h, z4h] rfl rfl (one_of HT_.out zi) zh (fun K hK => ?_)
          refine goes_ Tryz.func106 zi rfl #[.int .i64 a0_2] zw rfl rfl zo ?_
          with_reducible refine (spec_l3Text.calls k a0_2 t286 _ A10.out).mono ?_
          rintro e w29 ⟨rfl, hb⟩
          refine ⟨_, rfl, ?_⟩
          have n0_ := Aside0.mk (blk_below (g := gb282) (o := .cells #[.int .i64 a0_0, .int .i64 a0_1, .int .i64 a0_2, .string a0_3] 25 (0, 0)) z2n hb)
          have n1_ := Aside0.mk (below_step z2o hb)
          clear BK282
          clear HB
          have BK282 := n0_
          have HB := n1_
          clear n0_ n1_
          (try clear hb)
          (try clear hb2)
          (try clear hk)
          (try clear hi)
          refine hK.out _ _ ⟨(blk_cell BK282.out 0).trans rfl, (blk_cell BK282.out 1).trans rfl, (blk_cell BK282.out 2).trans rfl, (blk_cell BK282.out 3).trans rfl⟩ (fun hHeld => ?_)
          clear hK K
          refine norm_ (a' := ?_) ?_ ?_
          rotate_left
          ·show Act.put _ (some 19) _ = _
           simp only [Act.put, z4i, z4j, z4k, i64_w, i32_w]
           rfl
          refine pure_ (i := 13) (N := some 20) (v := ?_) (a' := ?_) #[z4g, z4g, z4g, z4g, z4g, z4g, z4g, z4g, z4g, z4g, z4g, z4g, z4g, z4g, z4h] rfl rfl (any_of HT_.out zi) (fun _ _ _ h => h) (Or.inl ⟨zw, ?_⟩) ?_ ?_
          rotate_left
          ·intro w'
           go_simp
           with_reducible rfl
          rotate_left
          ·simp only [Act.put, z4i, z4j, z4k, i64_w, i32_w]
           rfl
          refine pure_ (i := 14) (N := some 3) (v := ?_) (a' := ?_) #[z4g, z4g, z4g, z4g, z4g, z4g, z4g, z4g, z4g, z4g, z4g, z4g, z4g, z4g, z4g] rfl rfl (any_of HT_.out zi) (fun _ _ _ h => h) (Or.inl ⟨zw, ?_⟩) ?_ ?_
          rotate_left
          ·intro w'
           go_simp
           with_reducible rfl
          rotate_left
          ·simp only [Act.put, z4i, z4j, z4k, i64_w, i32_w]
           rfl
          refine done_ (done_of HT_.out zi) ?_
          obtain ⟨hcz30_0, hcz30_1, hcz30_2, hcz30_3, hfz30_0, hfz30_1, hfz30_2, hfz30_3⟩ := zd BK282.out
          try go_wp2
          go_ret
          exact ⟨zr, z2o⟩
         ·rw [if_neg c22] at H
          exact absurd H (by simp)
        ·rw [if_neg c21] at H
         exact absurd H (by simp)
      ·rw [if_neg c11] at H
       exact absurd H (by simp)
     ·rw [if_neg c9] at H
      exact absurd H (by simp)
    ·rw [if_neg c8] at H
     exact absurd H (by simp)
   ·rw [if_neg c6] at H
    exact absurd H (by simp)
  ·rw [if_neg c5] at H
   exact absurd H (by simp)
 ·replace c3 := Bool.eq_false_iff.mpr c3
  subst c3
  have H1 : (some (⟨#[]⟩ : ByteArray)) = some r := by rw [if_neg (show ¬ (false = true) by decide)] at H; exact H
  clear H
  have H := H1
  clear H1
  obtain rfl := Option.some.inj H
  go_enter Tryz.func86, Tryz.ntmps86
  go_wp2_with (first | ((with_reducible refine gate_dst (N := 1) rfl ?_); refine box_event zw (N := 1) zw (cs := #[.int .i64 a0_0, .int .i64 a0_1, .int .i64 a0_2, .string a0_3]) (t := 25) zx ?_; intro gb282 hg w31 hbox hb; have n0_ := Aside0.mk (below_step zp hb); have n1_ := Aside0.mk hbox; have n2_ := Aside0.mk ((z3s : w.heap.size ≤ gb282)); have n3_ := Aside0.mk ((z3s : w.heap.size ≤ gb282)); clear HB; have HB := n0_; have BK282 := n1_; have GW282 := n2_; have GE282 := n3_; clear n0_ n1_ n2_ n3_; clear hb hbox hg; obtain ⟨hcz32_0, hcz32_1, hcz32_2, hcz32_3, hfz32_0, hfz32_1, hfz32_2, hfz32_3⟩ := zd BK282.out) | ((with_reducible refine gate_callee (f := 68) rfl ?_); refine goesL_ (some 5) rfl rfl Tryz.func68 zi rfl #[.agg #[.int .i64 a0_0, .int .i64 a0_1, .int .i64 a0_2, .string a0_3]] rfl zo ?_; (with_reducible refine (spec_VersionOk.calls k a0_0 a0_1 a0_2 a0_3 false _ A2.out).mono ?_); rintro e w33 ⟨rfl, hb⟩; refine ⟨_, rfl, ?_⟩; have n0_ := Aside0.mk (blk_below (g := gb282) (o := .cells #[.int .i64 a0_0, .int .i64 a0_1, .int .i64 a0_2, .string a0_3] 25 (0, 0)) z2n hb); have n1_ := Aside0.mk (below_step z2o hb); clear BK282; clear HB; have BK282 := n0_; have HB := n1_; clear n0_ n1_; (try clear hb); (try clear hb2); (try clear hk); (try clear hi)))
  go_ret
  exact ⟨zr, z2o⟩
end Go.Proofs.YtgdknepphkhnlaaGreatDoor.X

namespace Go.Proofs.YtgdknepphkhnlaaGreatDoor.X
open Go.RowKit Go.Proofs.YtgdknepphkhnlaaGreatDoorW.PrintWords Go.Proofs.YtgdknepphkhnlaaGreatDoorW.PrintLast Go.Proofs.YtgdknepphkhnlaaGreatDoorW.PrintMore
attribute [local go_sem] max2_int min2_int max_two min_two max_three min_three max_four min_four
set_option linter.unusedVariables false
set_option linter.unusedSimpArgs false
def spec_EntryName.f (k : Nat) (a0 : ByteArray) (a1_0 : Int) (a1_1 : Int) (a1_2 : Int) (a1_3 : ByteArray) : Option (ByteArray) := (spec_Fits.f k a0 a1_0 a1_1 a1_2 a1_3).bind fun t288 => (if t288 = true then (if a0.size + 1 ≤ 9223372036854775807 then ((spec_VersionText.f k a1_0 a1_1 a1_2 a1_3).bind fun t289 => (if (a0 ++ (⟨#[64]⟩ : ByteArray)).size + t289.size ≤ 9223372036854775807 then (some ((a0 ++ (⟨#[64]⟩ : ByteArray)) ++ t289)) else (none))) else (none)) else (some (⟨#[]⟩ : ByteArray)))
set_option maxHeartbeats 8000000 in
set_option maxRecDepth 100000 in
theorem spec_EntryName.calls (k : Nat) (a0 : ByteArray) (a1_0 : Int) (a1_1 : Int) (a1_2 : Int) (a1_3 : ByteArray) (r : ByteArray) (w : World) (h : spec_EntryName.f k a0 a1_0 a1_1 a1_2 a1_3 = some r) :
  Calls Tryz.prog 55 #[.string a0, .agg #[.int .i64 a1_0, .int .i64 a1_1, .int .i64 a1_2, .string a1_3]] w fun e w' => e = .returned (.string r) ∧ Below w.heap.size w w' := by
 have hu25 := Tryz.underlying25
 have HB := Aside0.mk (Below.refl w.heap.size w)
 have H : ((spec_Fits.f k a0 a1_0 a1_1 a1_2 a1_3).bind fun t288 => (if t288 = true then (if a0.size + 1 ≤ 9223372036854775807 then ((spec_VersionText.f k a1_0 a1_1 a1_2 a1_3).bind fun t289 => (if (a0 ++ (⟨#[64]⟩ : ByteArray)).size + t289.size ≤ 9223372036854775807 then (some ((a0 ++ (⟨#[64]⟩ : ByteArray)) ++ t289)) else (none))) else (none)) else (some (⟨#[]⟩ : ByteArray)))) = some r := h
 clear h
 replace H := Option.bind_eq_some_iff.mp H
 obtain ⟨t288, A30, H⟩ := H
 replace H : (if t288 = true then (if a0.size + 1 ≤ 9223372036854775807 then ((spec_VersionText.f k a1_0 a1_1 a1_2 a1_3).bind fun t289 => (if (a0 ++ (⟨#[64]⟩ : ByteArray)).size + t289.size ≤ 9223372036854775807 then (some ((a0 ++ (⟨#[64]⟩ : ByteArray)) ++ t289)) else (none))) else (none)) else (some (⟨#[]⟩ : ByteArray))) = some r := H
 have A3 := Aside0.mk A30
 clear A30
 by_cases c4 : t288 = true
 ·subst c4
  have H1 : (if a0.size + 1 ≤ 9223372036854775807 then ((spec_VersionText.f k a1_0 a1_1 a1_2 a1_3).bind fun t289 => (if (a0 ++ (⟨#[64]⟩ : ByteArray)).size + t289.size ≤ 9223372036854775807 then (some ((a0 ++ (⟨#[64]⟩ : ByteArray)) ++ t289)) else (none))) else (none)) = some r := by rw [if_pos rfl] at H; exact H
  clear H
  have H := H1
  clear H1
  by_cases c5 : a0.size + 1 ≤ 9223372036854775807
  ·rw [if_pos c5] at H
   have c5b0 := eq_true c5
   have c5b1 : decide (a0.size + 1 ≤ 9223372036854775807) = true := decide_eq_true c5
   try have c5b2 : (9223372036854775807 < a0.size + 1) = False := eq_false (Nat.not_lt.2 c5)
   replace H := Option.bind_eq_some_iff.mp H
   obtain ⟨t289, A60, H⟩ := H
   replace H : (if (a0 ++ (⟨#[64]⟩ : ByteArray)).size + t289.size ≤ 9223372036854775807 then (some ((a0 ++ (⟨#[64]⟩ : ByteArray)) ++ t289)) else (none)) = some r := H
   have A6 := Aside0.mk A60
   clear A60
   by_cases c7 : (a0 ++ (⟨#[64]⟩ : ByteArray)).size + t289.size ≤ 9223372036854775807
   ·rw [if_pos c7] at H
    have c7s0 : (9223372036854775807 < a0.size + 1 + t289.size) = False := eq_false (Nat.not_lt.2 (by have h_ := c7; simp only [ByteArray.size_append] at h_; exact h_))
    have c7b0 := eq_true c7
    have c7b1 : decide ((a0 ++ (⟨#[64]⟩ : ByteArray)).size + t289.size ≤ 9223372036854775807) = true := decide_eq_true c7
    try have c7b2 : (9223372036854775807 < (a0 ++ (⟨#[64]⟩ : ByteArray)).size + t289.size) = False := eq_false (Nat.not_lt.2 c7)
    obtain rfl := Option.some.inj H
    go_enter Tryz.func55, Tryz.ntmps55
    go_wp2_with (first | ((with_reducible refine gate_dst (N := 3) rfl ?_); refine box_event zw (N := 3) zw (cs := #[.int .i64 a1_0, .int .i64 a1_1, .int .i64 a1_2, .string a1_3]) (t := 25) zx ?_; intro gb287 hg w8 hbox hb; have n0_ := Aside0.mk (below_step zp hb); have n1_ := Aside0.mk hbox; have n2_ := Aside0.mk ((z3s : w.heap.size ≤ gb287)); have n3_ := Aside0.mk ((z3s : w.heap.size ≤ gb287)); clear HB; have HB := n0_; have BK287 := n1_; have GW287 := n2_; have GE287 := n3_; clear n0_ n1_ n2_ n3_; clear hb hbox hg; obtain ⟨hcz9_0, hcz9_1, hcz9_2, hcz9_3, hfz9_0, hfz9_1, hfz9_2, hfz9_3⟩ := zd BK287.out) | ((with_reducible refine gate_callee (f := 33) rfl ?_); refine goesL_ (some 7) rfl rfl Tryz.func33 zi rfl #[.string a0, .agg #[.int .i64 a1_0, .int .i64 a1_1, .int .i64 a1_2, .string a1_3]] rfl zo ?_; (with_reducible refine (spec_Fits.calls k a0 a1_0 a1_1 a1_2 a1_3 true _ A3.out).mono ?_); rintro e w10 ⟨rfl, hb⟩; refine ⟨_, rfl, ?_⟩; have n0_ := Aside0.mk (blk_below (g := gb287) (o := .cells #[.int .i64 a1_0, .int .i64 a1_1, .int .i64 a1_2, .string a1_3] 25 (0, 0)) z2p hb); have n1_ := Aside0.mk (below_step z2q hb); clear BK287; clear HB; have BK287 := n0_; have HB := n1_; clear n0_ n1_; (try clear hb); (try clear hb2); (try clear hk); (try clear hi); obtain ⟨hcz11_0, hcz11_1, hcz11_2, hcz11_3, hfz11_0, hfz11_1, hfz11_2, hfz11_3⟩ := zd BK287.out) | ((with_reducible refine gate_callee (f := 86) rfl ?_); refine goesL_ (some 12) rfl rfl Tryz.func86 zi rfl #[.agg #[.int .i64 a1_0, .int .i64 a1_1, .int .i64 a1_2, .string a1_3]] rfl zo ?_; (with_reducible refine (spec_VersionText.calls k a1_0 a1_1 a1_2 a1_3 t289 _ A6.out).mono ?_); rintro e w12 ⟨rfl, hb⟩; refine ⟨_, rfl, ?_⟩; have n0_ := Aside0.mk (blk_below (g := gb287) (o := .cells #[.int .i64 a1_0, .int .i64 a1_1, .int .i64 a1_2, .string a1_3] 25 (0, 0)) z2p hb); have n1_ := Aside0.mk (below_step z2q hb); clear BK287; clear HB; have BK287 := n0_; have HB := n1_; clear n0_ n1_; (try clear hb); (try clear hb2); (try clear hk); (try clear hi)))
    go_ret
    exact ⟨zr, z2q⟩
   ·rw [if_neg c7] at H
    exact absurd H (by simp)
  ·rw [if_neg c5] at H
   exact absurd H (by simp)
 ·replace c4 := Bool.eq_false_iff.mpr c4
  subst c4
  have H1 : (some (⟨#[]⟩ : ByteArray)) = some r := by rw [if_neg (show ¬ (false = true) by decide)] at H; exact H
  clear H
  have H := H1
  clear H1
  obtain rfl := Option.some.inj H
  go_enter Tryz.func55, Tryz.ntmps55
  go_wp2_with (first | ((with_reducible refine gate_dst (N := 3) rfl ?_); refine box_event zw (N := 3) zw (cs := #[.int .i64 a1_0, .int .i64 a1_1, .int .i64 a1_2, .string a1_3]) (t := 25) zx ?_; intro gb287 hg w13 hbox hb; have n0_ := Aside0.mk (below_step zp hb); have n1_ := Aside0.mk hbox; have n2_ := Aside0.mk ((z3s : w.heap.size ≤ gb287)); have n3_ := Aside0.mk ((z3s : w.heap.size ≤ gb287)); clear HB; have HB := n0_; have BK287 := n1_; have GW287 := n2_; have GE287 := n3_; clear n0_ n1_ n2_ n3_; clear hb hbox hg; obtain ⟨hcz14_0, hcz14_1, hcz14_2, hcz14_3, hfz14_0, hfz14_1, hfz14_2, hfz14_3⟩ := zd BK287.out) | ((with_reducible refine gate_callee (f := 33) rfl ?_); refine goesL_ (some 7) rfl rfl Tryz.func33 zi rfl #[.string a0, .agg #[.int .i64 a1_0, .int .i64 a1_1, .int .i64 a1_2, .string a1_3]] rfl zo ?_; (with_reducible refine (spec_Fits.calls k a0 a1_0 a1_1 a1_2 a1_3 false _ A3.out).mono ?_); rintro e w15 ⟨rfl, hb⟩; refine ⟨_, rfl, ?_⟩; have n0_ := Aside0.mk (blk_below (g := gb287) (o := .cells #[.int .i64 a1_0, .int .i64 a1_1, .int .i64 a1_2, .string a1_3] 25 (0, 0)) z2p hb); have n1_ := Aside0.mk (below_step z2q hb); clear BK287; clear HB; have BK287 := n0_; have HB := n1_; clear n0_ n1_; (try clear hb); (try clear hb2); (try clear hk); (try clear hi)))
  go_ret
  exact ⟨zr, z2q⟩
end Go.Proofs.YtgdknepphkhnlaaGreatDoor.X

namespace Go.Proofs.YtgdknepphkhnlaaGreatDoor.X
open Go.RowKit Go.Proofs.YtgdknepphkhnlaaGreatDoorW.PrintWords Go.Proofs.YtgdknepphkhnlaaGreatDoorW.PrintLast Go.Proofs.YtgdknepphkhnlaaGreatDoorW.PrintMore
attribute [local go_sem] max2_int min2_int max_two min_two max_three min_three max_four min_four
set_option linter.unusedVariables false
set_option linter.unusedSimpArgs false
mutual
def spec_PutNum.j0 : Nat → Int → List Int → Option (List Int)
 | 0, _, _ => none
 | k + 1, x1, x5 => if x1 < 0 then (spec_PutNum.j1 k 0 x5) else (spec_PutNum.j1 k x1 x5)
def spec_PutNum.j1 : Nat → Int → List Int → Option (List Int)
 | 0, _, _ => none
 | k + 1, x1, x5 => spec_PutNum.l0 k x1 x5
def spec_PutNum.l0 : Nat → Int → List Int → Option (List Int)
 | 0, _, _ => none
 | k + 1, x1, x5 => if x1 > 127 then (if x5.length < 140737488355328 then (spec_PutNum.l0 k (x1 / 128) (x5 ++ [(Go.bits .or .i64 (Go.bits .and .i64 x1 127) 128) % 256])) else (none)) else (if x5.length < 140737488355328 then (some (x5 ++ [(x1) % 256])) else (none))
end
def spec_PutNum.f (k : Nat) (l0 : List Int) (a1 : Int) : Option (List Int) := (some (([] : List Int) : List Int)).bind fun y290 => (if y290.length + l0.length < 140737488355328 then ((some (y290 ++ l0 : List Int)).bind fun y293 => (if a1 > 1000000000 then (spec_PutNum.j0 k 1000000000 y293) else (spec_PutNum.j0 k a1 y293))) else (none))
set_option maxHeartbeats 8000000 in
set_option maxRecDepth 100000 in
theorem spec_PutNum.calls (k : Nat) (A0 : Option Addr) (c0 : Nat) (l0 : List Int) (a1 : Int) (r : List Int) (w : World) (hr0 : Kd.C (Kd.int .u8) w A0 l0.length l0) (hc0 : l0.length ≤ c0) (h : spec_PutNum.f k l0 a1 = some r) :
  Calls Tryz.prog 89 #[.slice A0 l0.length c0, .int .i64 a1] w fun e w' => ∃ v0_ : Value, e = .returned (v0_) ∧ Kd.R (Kd.int .u8) 5 w' w.heap.size (fun _ => True) v0_ r ∧ Below w.heap.size w w' := by
 have HR0 := Aside0.mk hr0
 have HC0 := Aside0.mk hc0
 clear hr0 hc0
 have HB := Aside0.mk (Below.refl w.heap.size w)
 have H : ((some (([] : List Int) : List Int)).bind fun y290 => (if y290.length + l0.length < 140737488355328 then ((some (y290 ++ l0 : List Int)).bind fun y293 => (if a1 > 1000000000 then (spec_PutNum.j0 k 1000000000 y293) else (spec_PutNum.j0 k a1 y293))) else (none))) = some r := h
 clear h
 obtain ⟨y290, hy290⟩ : ∃ y_ : List Int, y_ = (([] : List Int)) := ⟨_, rfl⟩
 replace H : (if y290.length + l0.length < 140737488355328 then ((some (y290 ++ l0 : List Int)).bind fun y293 => (if a1 > 1000000000 then (spec_PutNum.j0 k 1000000000 y293) else (spec_PutNum.j0 k a1 y293))) else (none)) = some r := by first | (rw [hy290]; with_reducible exact H) | (have H2_ := (Option.bind_some _ _).symm.trans H; rw [hy290]; with_reducible exact H2_) | (have H2_ := (Option.bind_some _ _).symm.trans H; with_reducible exact H2_) | with_reducible exact H | (rw [hy290]; exact H) | exact H
 have Ny290 := Aside0.mk hy290
 clear hy290
 by_cases c3 : y290.length + l0.length < 140737488355328
 ·rw [if_pos c3] at H
  have LMc3 := Aside0.mk c3
  clear c3
  obtain ⟨y293, hy293⟩ : ∃ y_ : List Int, y_ = (y290 ++ l0) := ⟨_, rfl⟩
  replace H : (if a1 > 1000000000 then (spec_PutNum.j0 k 1000000000 y293) else (spec_PutNum.j0 k a1 y293)) = some r := by first | (rw [hy293]; with_reducible exact H) | (have H2_ := (Option.bind_some _ _).symm.trans H; rw [hy293]; with_reducible exact H2_) | (have H2_ := (Option.bind_some _ _).symm.trans H; with_reducible exact H2_) | with_reducible exact H | (rw [hy293]; exact H) | exact H
  have Ny293 := Aside0.mk hy293
  clear hy293
  have HC4 := Aside0.mk H
  clear H
  go_enter Tryz.func89, Tryz.ntmps89
  go_upto_if 10 with (first | ((with_reducible refine gate_dst (N := 6) rfl ?_); refine Kd.R_lit (Kd.int .u8) _ 5 ?hg (N := 6) ?hd (xs := ([] : List Int)) (inner := []) (ok := fun _ => True) (okp := fun _ => True) ?hr ?hp (fun _ hk => hk) trivial (Below.refl _ _) (Nat.le_refl _) (by simp) ?_; (case hd => exact zw); (case hg => exact zw); (case hr => exact zx); (case hp => exact (Reps.none _ _)); intro v291 w5 ho6 hb hg_ hnew_; clear hg_ hnew_; (first | rw [← Ny290.out] at ho6 | (simp only [Int.reduceToNat] at ho6; rw [← Ny290.out] at ho6)); have n0_ := Aside0.mk (Kd.R_lower ho6 (below_size zp)); have n1_ := Aside0.mk (below_step zp hb); clear HB; have HO292 := n0_; have HB := n1_; clear n0_ n1_; clear hb ho6) | ((with_reducible refine gate_builtin (b := .append) (xs := #[.tmp 6, .tmp 7]) rfl ?_); at_builtin; refine Kd.R_append_rows (Kd.int .u8) (w0 := w) w.heap.size rfl (.tmp 6) (.tmp 7) 22 5 (.int .u8 0) 1 rfl Tryz.underlying22 info5 rfl zh zg v291 y290 l0 _ _ _ (fun _ => True) (fun _ => False) rfl rfl ?aO ?aR (fun _ _ h => h) (fun _ h => h.elim) ?aF ?aB ?aS ?aL ?_; (case aR => repeat (first | exact (Kd.C_below HR0.out HB.out) | (with_reducible refine Kd.C_alloc ?_ _) | (with_reducible refine Kd.C_drewN ?_ _) | (with_reducible refine Kd.C_drew ?_))); (case aB => exact zp); (case aF => exact (fun _ _ => trivial)); (case aO => exact (by (with_reducible repeat (first | apply Kd.R_alloc | apply Kd.R_drewN | apply Kd.R_drew)); exact HO292.out)); (case aS => exact (below_size zp)); (case aL => have := LMc3.out; omega); intro v294 w7 ho hb hg hat; rw [← Ny293.out] at ho; have n0_ := Aside0.mk hb; have n1_ := Aside0.mk ho; clear HB; clear HO292; have HB := n0_; have HO295 := n1_; clear n0_ n1_; clear ho hb hg hat))
  (try simp only [Act.put, z4i, z4j, z4k])
  go_cut [1] (fun v1 wc => ∃ (kq : Nat) (x1_3 : Int), v1 = .int .i64 x1_3 ∧ Aside0 (spec_PutNum.j0 kq x1_3 y293 = some r) ∧ Aside0 (kq ≤ k) ∧ Aside0 (Kd.R (Kd.int .u8) 5 wc w.heap.size (fun _ => True) v294 y293) ∧ Aside0 (Below w.heap.size w wc))
  case first =>
   have H := HC4.out
   clear HC4
   by_cases c8 : a1 > 1000000000
   ·rw [if_pos c8] at H
    have c8b0 : decide (1000000000 < a1) = true := decide_eq_true c8
    clear c8
    (first | rw [c8b0] | (simp only [i64_w, i32_w]; rw [c8b0]) | skip)
    have H' := Aside0.mk H
    clear H
    go_wp2
    go_meet
    case rel => exact ⟨_, (1000000000), zj, H', ⟨zt⟩, ⟨by (with_reducible repeat (first | apply Kd.R_alloc | apply Kd.R_drewN | apply Kd.R_drew)); exact HO295.out⟩, ⟨zp⟩⟩
   ·rw [if_neg c8] at H
    have c8b0 : decide (1000000000 < a1) = false := decide_eq_false c8
    clear c8
    (first | rw [c8b0] | (simp only [i64_w, i32_w]; rw [c8b0]) | skip)
    have H' := Aside0.mk H
    clear H
    go_wp2
    go_meet
    case rel => exact ⟨_, (a1), zj, H', ⟨zt⟩, ⟨by (with_reducible repeat (first | apply Kd.R_alloc | apply Kd.R_drewN | apply Kd.R_drew)); exact HO295.out⟩, ⟨zp⟩⟩
  case rest =>
   clear HC4
   try clear p2
   try clear c3
   try clear c8
   try clear c8b0
   obtain ⟨kq, x1_3, rfl, HA, HJ3, HO_5, HB⟩ := hcut
   cases kq with
   | zero => exact absurd HA.out (by simp [spec_PutNum.j0])
   | succ kj3 =>
    have H := HA.out
    clear HA
    simp only [spec_PutNum.j0] at H
    have HC9 := Aside0.mk H
    clear H
    go_upto_if 12 with (fail)
    go_cut [1] (fun v1 wc => ∃ (kq : Nat) (x1_8 : Int), v1 = .int .i64 x1_8 ∧ Aside0 (spec_PutNum.j1 kq x1_8 y293 = some r) ∧ Aside0 (kq ≤ kj3) ∧ Aside0 (Kd.R (Kd.int .u8) 5 wc w.heap.size (fun _ => True) v294 y293) ∧ Aside0 (Below w.heap.size w wc))
    case first =>
     have H := HC9.out
     clear HC9
     by_cases c10 : x1_3 < 0
     ·rw [if_pos c10] at H
      have c10b0 : decide (x1_3 < 0) = true := decide_eq_true c10
      clear c10
      (first | rw [c10b0] | (simp only [i64_w, i32_w]; rw [c10b0]) | skip)
      have H' := Aside0.mk H
      clear H
      go_wp2
      go_meet
      case rel => exact ⟨_, (0), zj, H', ⟨by have := HJ3.out; first | omega | exact Nat.le_refl _⟩, ⟨z2e⟩, ⟨zp⟩⟩
     ·rw [if_neg c10] at H
      have c10b0 : decide (x1_3 < 0) = false := decide_eq_false c10
      clear c10
      (first | rw [c10b0] | (simp only [i64_w, i32_w]; rw [c10b0]) | skip)
      have H' := Aside0.mk H
      clear H
      go_wp2
      go_meet
      case rel => exact ⟨_, (x1_3), zj, H', ⟨by have := HJ3.out; first | omega | exact Nat.le_refl _⟩, ⟨z2e⟩, ⟨zp⟩⟩
    case rest =>
     clear HC9
     try clear c1
     try clear p2
     try clear c3
     try clear c8
     try clear c8b0
     try clear c10
     try clear c10b0
     try clear p2
     obtain ⟨kq, x1_8, rfl, HA, HJ8, HO_5, HB⟩ := hcut
     cases kq with
     | zero => exact absurd HA.out (by simp [spec_PutNum.j1])
     | succ kj8 =>
      have H := HA.out
      clear HA
      simp only [spec_PutNum.j1] at H
      have H' := Aside0.mk H
      clear H
      go_wp2
      go_loopg [1, 5] kj8 (fun kq v1 v5 w' => ∃ (x1_3 : Int) (x5_3 : List Int), v1 = .int .i64 x1_3 ∧ Aside0 (spec_PutNum.l0 kq x1_3 x5_3 = some r) ∧ Aside0 (kq ≤ kj8) ∧ Aside0 (Kd.R (Kd.int .u8) 5 w' w.heap.size (fun _ => True) v5 x5_3) ∧ Aside0 (Below w.heap.size w w'))
      case atStart => exact ⟨(x1_8), (y293), zj, H', ⟨Nat.le_refl _⟩, ⟨z2e⟩, ⟨zp⟩⟩
      case round =>
       clear H'
       try clear c1
       try clear p2
       try clear c3
       try clear c8
       try clear c8b0
       try clear c10
       try clear c10b0
       try clear p2
       obtain ⟨x1_3, x5_3, rfl, HA, HK3, HO_5, HB⟩ := hrel
       cases gk with
       | zero => exact absurd HA.out (by simp [spec_PutNum.l0])
       | succ k3 =>
        have H := HA.out
        clear HA
        simp only [spec_PutNum.l0] at H
        by_cases c11 : x1_3 > 127
        ·rw [if_pos c11] at H
         have c11b0 : decide (127 < x1_3) = true := decide_eq_true c11
         clear c11
         by_cases c12 : x5_3.length < 140737488355328
         ·rw [if_pos c12] at H
          have LMc12 := Aside0.mk c12
          clear c12
          obtain ⟨y296, hy296⟩ : ∃ y_ : List Int, y_ = (x5_3 ++ [(Go.bits .or .i64 (Go.bits .and .i64 x1_3 127) 128) % 256]) := ⟨_, rfl⟩
          replace H : (spec_PutNum.l0 k3 (x1_3 / 128) y296) = some r := by first | (rw [hy296]; with_reducible exact H) | (have H2_ := (Option.bind_some _ _).symm.trans H; rw [hy296]; with_reducible exact H2_) | (have H2_ := (Option.bind_some _ _).symm.trans H; with_reducible exact H2_) | with_reducible exact H | (rw [hy296]; exact H) | exact H
          have Ny296 := Aside0.mk hy296
          clear hy296
          have H' := Aside0.mk H
          clear H
          go_wp2_with (first | ((with_reducible refine gate_builtin (b := .append) (xs := #[.tmp 15, .tmp 20]) rfl ?_); at_builtin; refine Kd.R_append (Kd.int .u8) (w0 := w) w.heap.size rfl (.tmp 15) (.tmp 20) 22 5 (.int .u8 0) 1 rfl Tryz.underlying22 info5 rfl zh zg u5 x5_3 ((Go.bits .or .i64 (Go.bits .and .i64 x1_3 127) 128) % 256) [.int .u8 ((Go.bits .or .i64 (Go.bits .and .i64 x1_3 127) 128) % 256)] (fun _ => True) (fun _ => False) rfl rfl ?aP (fun _ hk => hk.elim) ?aF ?aO ?aB ?aS ?aL ?_; (case aP => exact rfl); (case aB => exact zp); (case aF => exact (fun _ _ => trivial)); (case aO => exact z2e); (case aS => exact (below_size zp)); (case aL => have := LMc12.out; omega); intro v297 w13 ho hb hg hat; rw [← Ny296.out] at ho; have n0_ := Aside0.mk hb; have n1_ := Aside0.mk ho; clear HB; clear HO_5; have HB := n0_; have HO298 := n1_; clear n0_ n1_; clear ho hb hg hat))
          go_roundg k3
          case measure => have := HJ3.out; have := HJ8.out; have := HK3.out; omega
          case rel => exact ⟨(x1_3 / 128), (y296), zj, H', ⟨by have := HJ3.out; have := HJ8.out; have := HK3.out; omega⟩, ⟨by (with_reducible repeat (first | apply Kd.R_alloc | apply Kd.R_drewN | apply Kd.R_drew)); exact HO298.out⟩, ⟨zp⟩⟩
         ·rw [if_neg c12] at H
          exact absurd H (by simp)
        ·rw [if_neg c11] at H
         have c11b0 : decide (127 < x1_3) = false := decide_eq_false c11
         clear c11
         by_cases c14 : x5_3.length < 140737488355328
         ·rw [if_pos c14] at H
          have LMc14 := Aside0.mk c14
          clear c14
          obtain ⟨y299, hy299⟩ : ∃ y_ : List Int, y_ = (x5_3 ++ [(x1_3) % 256]) := ⟨_, rfl⟩
          replace H : (some y299) = some r := by first | (rw [hy299]; with_reducible exact H) | (have H2_ := (Option.bind_some _ _).symm.trans H; rw [hy299]; with_reducible exact H2_) | (have H2_ := (Option.bind_some _ _).symm.trans H; with_reducible exact H2_) | with_reducible exact H | (rw [hy299]; exact H) | exact H
          have Ny299 := Aside0.mk hy299
          clear hy299
          obtain rfl := Option.some.inj H
          go_wp2_with (first | ((with_reducible refine gate_builtin (b := .append) (xs := #[.tmp 24, .tmp 27]) rfl ?_); at_builtin; refine Kd.R_append (Kd.int .u8) (w0 := w) w.heap.size rfl (.tmp 24) (.tmp 27) 22 5 (.int .u8 0) 1 rfl Tryz.underlying22 info5 rfl zh zg u5 x5_3 ((x1_3) % 256) [.int .u8 ((x1_3) % 256)] (fun _ => True) (fun _ => False) rfl rfl ?aP (fun _ hk => hk.elim) ?aF ?aO ?aB ?aS ?aL ?_; (case aP => exact rfl); (case aB => exact zp); (case aF => exact (fun _ _ => trivial)); (case aO => exact z2e); (case aS => exact (below_size zp)); (case aL => have := LMc14.out; omega); intro v300 w15 ho hb hg hat; rw [← Ny299.out] at ho; have n0_ := Aside0.mk hb; have n1_ := Aside0.mk ho; clear HB; clear HO_5; have HB := n0_; have HO301 := n1_; clear n0_ n1_; clear ho hb hg hat))
          go_ret
          exact ⟨_, zr, by (with_reducible repeat (first | apply Kd.R_alloc | apply Kd.R_drewN | apply Kd.R_drew)); exact HO301.out, zp⟩
         ·rw [if_neg c14] at H
          exact absurd H (by simp)
 ·rw [if_neg c3] at H
  exact absurd H (by simp)
end Go.Proofs.YtgdknepphkhnlaaGreatDoor.X

namespace Go.Proofs.YtgdknepphkhnlaaGreatDoor.X
open Go.RowKit Go.Proofs.YtgdknepphkhnlaaGreatDoorW.PrintWords Go.Proofs.YtgdknepphkhnlaaGreatDoorW.PrintLast Go.Proofs.YtgdknepphkhnlaaGreatDoorW.PrintMore
attribute [local go_sem] max2_int min2_int max_two min_two max_three min_three max_four min_four
set_option linter.unusedVariables false
set_option linter.unusedSimpArgs false
def spec_PutText.f (k : Nat) (l0 : List Int) (a1 : ByteArray) : Option (List Int) := (spec_PutNum.f k l0 (a1.size : Int)).bind fun t302 => (if t302.length + a1.size < 140737488355328 then (some (t302 ++ bytesOf a1)) else (none))
set_option maxHeartbeats 8000000 in
set_option maxRecDepth 100000 in
theorem spec_PutText.calls (k : Nat) (A0 : Option Addr) (c0 : Nat) (l0 : List Int) (a1 : ByteArray) (r : List Int) (w : World) (hr0 : Kd.C (Kd.int .u8) w A0 l0.length l0) (hc0 : l0.length ≤ c0) (h : spec_PutText.f k l0 a1 = some r) :
  Calls Tryz.prog 61 #[.slice A0 l0.length c0, .string a1] w fun e w' => ∃ v0_ : Value, e = .returned (v0_) ∧ Kd.R (Kd.int .u8) 5 w' w.heap.size (fun _ => True) v0_ r ∧ Below w.heap.size w w' := by
 have HR0 := Aside0.mk hr0
 have HC0 := Aside0.mk hc0
 clear hr0 hc0
 have HB := Aside0.mk (Below.refl w.heap.size w)
 have H : ((spec_PutNum.f k l0 (a1.size : Int)).bind fun t302 => (if t302.length + a1.size < 140737488355328 then (some (t302 ++ bytesOf a1)) else (none))) = some r := h
 clear h
 replace H := Option.bind_eq_some_iff.mp H
 obtain ⟨t302, A30, H⟩ := H
 replace H : (if t302.length + a1.size < 140737488355328 then (some (t302 ++ bytesOf a1)) else (none)) = some r := H
 have A3 := Aside0.mk A30
 clear A30
 by_cases c4 : t302.length + a1.size < 140737488355328
 ·rw [if_pos c4] at H
  have LMc4 := Aside0.mk c4
  clear c4
  obtain ⟨y305, hy305⟩ : ∃ y_ : List Int, y_ = (t302 ++ bytesOf a1) := ⟨_, rfl⟩
  replace H : (some y305) = some r := by first | (rw [hy305]; with_reducible exact H) | (have H2_ := (Option.bind_some _ _).symm.trans H; rw [hy305]; with_reducible exact H2_) | (have H2_ := (Option.bind_some _ _).symm.trans H; with_reducible exact H2_) | with_reducible exact H | (rw [hy305]; exact H) | exact H
  have Ny305 := Aside0.mk hy305
  clear hy305
  obtain rfl := Option.some.inj H
  go_enter Tryz.func61, Tryz.ntmps61
  go_wp2_with (first | ((with_reducible refine gate_callee (f := 89) rfl ?_); refine goesL_ (some 8) rfl rfl Tryz.func89 zi rfl #[.slice A0 l0.length c0, .int .i64 (a1.size : Int)] rfl zo ?_; (with_reducible refine (spec_PutNum.calls k _ _ l0 (a1.size : Int) t302 _ ?side1 ?side2 A3.out).mono ?_); (case side1 => repeat (first | exact HR0.out | (with_reducible refine Kd.C_alloc ?_ _) | (with_reducible refine Kd.C_drewN ?_ _) | (with_reducible refine Kd.C_drew ?_))); (case side2 => exact HC0.out); rintro e w5 ⟨v303, rfl, ho0, hb⟩; refine ⟨_, rfl, ?_⟩; have n0_ := Aside0.mk (Kd.R_lower ho0 (below_size zp)); have n1_ := Aside0.mk (below_step zp hb); clear HB; have HO304 := n0_; have HB := n1_; clear n0_ n1_; (try clear hb); (try clear hb2); (try clear hk); (try clear hi); (try clear ho0)) | (at_builtin; refine Y.R_append_str (w0 := w) w.heap.size rfl (.tmp 8) _ 22 9 5 rfl Tryz.underlying22 Tryz.underlying9 info5 v303 t302 a1 (fun _ => True) rfl rfl ?aF ?aO ?aB ?aS ?aL ?_; (case aB => exact zp); (case aF => exact (fun _ _ => trivial)); (case aO => exact (by (with_reducible repeat (first | apply Kd.R_alloc | apply Kd.R_drewN | apply Kd.R_drew)); exact HO304.out)); (case aS => exact (below_size zp)); (case aL => have := LMc4.out; omega); intro v306 w6 ho hb hg hat; rw [← Ny305.out] at ho; have n0_ := Aside0.mk hb; have n1_ := Aside0.mk ho; clear HB; clear HO304; have HB := n0_; have HO307 := n1_; clear n0_ n1_; clear ho hb hg hat))
  go_ret
  exact ⟨_, zr, by (with_reducible repeat (first | apply Kd.R_alloc | apply Kd.R_drewN | apply Kd.R_drew)); exact HO307.out, zp⟩
 ·rw [if_neg c4] at H
  exact absurd H (by simp)
end Go.Proofs.YtgdknepphkhnlaaGreatDoor.X

namespace Go.Proofs.YtgdknepphkhnlaaGreatDoor.X
open Go.RowKit Go.Proofs.YtgdknepphkhnlaaGreatDoorW.PrintWords Go.Proofs.YtgdknepphkhnlaaGreatDoorW.PrintLast Go.Proofs.YtgdknepphkhnlaaGreatDoorW.PrintMore
attribute [local go_sem] max2_int min2_int max_two min_two max_three min_three max_four min_four
set_option linter.unusedVariables false
set_option linter.unusedSimpArgs false
def spec_PutTexts.l0 : Nat → List ByteArray → List Int → Int → Option (List Int)
 | 0, _, _, _ => none
 | k + 1, x1, x5, x6 => if x6 < (x1.length : Int) then (if 0 ≤ x6 then ((spec_PutText.f k x5 (rdOf ByteArray.empty x1 x6)).bind fun t312 => (spec_PutTexts.l0 k x1 t312 (wrap64 (x6 + 1)))) else (none)) else (some x5)
def spec_PutTexts.f (k : Nat) (l0 : List Int) (l1 : List ByteArray) : Option (List Int) := (spec_PutNum.f k l0 (l1.length : Int)).bind fun t308 => (spec_PutTexts.l0 k l1 t308 0)
set_option maxHeartbeats 8000000 in
set_option maxRecDepth 100000 in
theorem spec_PutTexts.calls (k : Nat) (A0 : Option Addr) (c0 : Nat) (l0 : List Int) (A1 : Option Addr) (c1 : Nat) (l1 : List ByteArray) (r : List Int) (w : World) (hr0 : Kd.C (Kd.int .u8) w A0 l0.length l0) (hc0 : l0.length ≤ c0) (hr1 : Kd.C Kd.string w A1 l1.length l1) (hc1 : l1.length ≤ c1) (h : spec_PutTexts.f k l0 l1 = some r) :
  Calls Tryz.prog 60 #[.slice A0 l0.length c0, .slice A1 l1.length c1] w fun e w' => ∃ v0_ : Value, e = .returned (v0_) ∧ Kd.R (Kd.int .u8) 5 w' w.heap.size (fun _ => True) v0_ r ∧ Below w.heap.size w w' := by
 have HR0 := Aside0.mk hr0
 have HC0 := Aside0.mk hc0
 clear hr0 hc0
 have HR1 := Aside0.mk hr1
 have HC1 := Aside0.mk hc1
 clear hr1 hc1
 have HB := Aside0.mk (Below.refl w.heap.size w)
 have H : ((spec_PutNum.f k l0 (l1.length : Int)).bind fun t308 => (spec_PutTexts.l0 k l1 t308 0)) = some r := h
 clear h
 replace H := Option.bind_eq_some_iff.mp H
 obtain ⟨t308, A30, H⟩ := H
 replace H : (spec_PutTexts.l0 k l1 t308 0) = some r := H
 have A3 := Aside0.mk A30
 clear A30
 have H' := Aside0.mk H
 clear H
 go_enter Tryz.func60, Tryz.ntmps60
 go_wp2_with (first | ((with_reducible refine gate_callee (f := 89) rfl ?_); refine goesL_ (some 10) rfl rfl Tryz.func89 zi rfl #[.slice A0 l0.length c0, .int .i64 (l1.length : Int)] rfl zo ?_; (with_reducible refine (spec_PutNum.calls k _ _ l0 (l1.length : Int) t308 _ ?side1 ?side2 A3.out).mono ?_); (case side1 => repeat (first | exact HR0.out | (with_reducible refine Kd.C_alloc ?_ _) | (with_reducible refine Kd.C_drewN ?_ _) | (with_reducible refine Kd.C_drew ?_))); (case side2 => exact HC0.out); rintro e w4 ⟨v309, rfl, ho0, hb⟩; refine ⟨_, rfl, ?_⟩; have n0_ := Aside0.mk (Kd.R_lower ho0 (below_size zp)); have n1_ := Aside0.mk (below_step zp hb); clear HB; have HO310 := n0_; have HB := n1_; clear n0_ n1_; (try clear hb); (try clear hb2); (try clear hk); (try clear hi); (try clear ho0)))
 go_loopg [5, 6] k (fun kq v5 v6 w' => ∃ (x5_1 : List Int) (x6_1 : Int), v6 = .int .i64 x6_1 ∧ Aside0 (spec_PutTexts.l0 kq l1 x5_1 x6_1 = some r) ∧ Aside0 (kq ≤ k) ∧ Aside0 (Kd.R (Kd.int .u8) 5 w' w.heap.size (fun _ => True) v5 x5_1) ∧ Aside0 (Below w.heap.size w w'))
 case atStart => exact ⟨(t308), (0), zj, H', ⟨Nat.le_refl _⟩, ⟨by (with_reducible repeat (first | apply Kd.R_alloc | apply Kd.R_drewN | apply Kd.R_drew)); exact HO310.out⟩, ⟨zp⟩⟩
 case round =>
  clear H'
  try clear c1
  try clear p2
  obtain ⟨x5_1, x6_1, rfl, HA, HK1, HO_5, HB⟩ := hrel
  cases gk with
  | zero => exact absurd HA.out (by simp [spec_PutTexts.l0])
  | succ k1 =>
   have H := HA.out
   clear HA
   simp only [spec_PutTexts.l0] at H
   by_cases c5 : x6_1 < (l1.length : Int)
   ·rw [if_pos c5] at H
    have c5b0 : decide (x6_1 < (l1.length : Int)) = true := decide_eq_true c5
    clear c5
    by_cases c6 : 0 ≤ x6_1
    ·rw [if_pos c6] at H
     have c6b0 : decide (0 ≤ x6_1) = true := decide_eq_true c6
     clear c6
     replace H := Option.bind_eq_some_iff.mp H
     obtain ⟨t312, A70, H⟩ := H
     replace H : (spec_PutTexts.l0 k1 l1 t312 (wrap64 (x6_1 + 1))) = some r := H
     have A7 := Aside0.mk A70
     clear A70
     have H' := Aside0.mk H
     clear H
     have p311 : 0 ≤ (x6_1 : Int) := of_decide_eq_true zm
     have q311 : x6_1 < (l1.length : Int) := of_decide_eq_true zm
     obtain ⟨ad311, e311, hx311_0⟩ := Kd.at_string HR1.out x6_1 p311 q311
     cases e311
     replace hx311_0 := (HB.out.cell (World.block_lt_of_cell? w _ hx311_0)).trans hx311_0
     replace p311 := eq_true p311
     replace q311 := eq_true q311
     obtain ⟨Ao8, co8, eo8⟩ := Kd.R_slice HO_5.out
     subst eo8
     go_wp2_with (first | ((with_reducible refine gate_callee (f := 61) rfl ?_); refine goesL_ (some 22) rfl rfl Tryz.func61 zi rfl #[.slice Ao8 x5_1.length co8, .string (rdOf ByteArray.empty l1 x6_1)] rfl zo ?_; (with_reducible refine (spec_PutText.calls k1 _ _ x5_1 (rdOf ByteArray.empty l1 x6_1) t312 _ ?side1 ?side2 A7.out).mono ?_); (case side1 => repeat (first | exact (Kd.R_reads' HO_5.out).2.2 | (with_reducible refine Kd.C_alloc ?_ _) | (with_reducible refine Kd.C_drewN ?_ _) | (with_reducible refine Kd.C_drew ?_))); (case side2 => exact (Kd.R_reads' HO_5.out).2.1); rintro e w9 ⟨v313, rfl, ho0, hb⟩; refine ⟨_, rfl, ?_⟩; have n0_ := Aside0.mk (Kd.R_elder' z2e (Kd.R_base ho0) hb); have n1_ := Aside0.mk (Kd.R_lower (Kd.R_new' ho0 (Kd.R_lt z2e)) (below_size zp)); have n2_ := Aside0.mk (below_step zp hb); clear HO_5; clear HB; have HO_5 := n0_; have HO314 := n1_; have HB := n2_; clear n0_ n1_ n2_; (try clear hb); (try clear hb2); (try clear hk); (try clear hi); (try clear ho0)))
     go_roundg k1
     case measure => have := HK1.out; omega
     case rel => exact ⟨(t312), (wrap64 (x6_1 + 1)), zj, H', ⟨zn⟩, ⟨by (with_reducible repeat (first | apply Kd.R_alloc | apply Kd.R_drewN | apply Kd.R_drew)); exact Kd.R_mono HO314.out (fun _ hk => trivial)⟩, ⟨zp⟩⟩
    ·rw [if_neg c6] at H
     exact absurd H (by simp)
   ·rw [if_neg c5] at H
    have c5b0 : decide (x6_1 < (l1.length : Int)) = false := decide_eq_false c5
    clear c5
    obtain rfl := Option.some.inj H
    go_wp2
    go_ret
    exact ⟨_, zr, z2e, zp⟩
end Go.Proofs.YtgdknepphkhnlaaGreatDoor.X

namespace Go.Proofs.YtgdknepphkhnlaaGreatDoor.X
open Go.RowKit Go.Proofs.YtgdknepphkhnlaaGreatDoorW.PrintWords Go.Proofs.YtgdknepphkhnlaaGreatDoorW.PrintLast Go.Proofs.YtgdknepphkhnlaaGreatDoorW.PrintMore
attribute [local go_sem] max2_int min2_int max_two min_two max_three min_three max_four min_four
set_option linter.unusedVariables false
set_option linter.unusedSimpArgs false
def spec_PutEntry.l0 : Nat → List ByteArray → Int → ByteArray → Int → Int → Int → ByteArray → List (S35) → Option (ByteArray)
 | 0, _, _, _, _, _, _, _, _ => none
 | k + 1, x3, x4, x316000, x316001, x316002, x316003, x316004, x316005 => if x4 < (x316005.length : Int) then (if 0 ≤ x4 then ((spec_EntryName.f k ((rd_T35 x316005 x4).f0) ((rd_T35 x316005 x4).f1.f0) ((rd_T35 x316005 x4).f1.f1) ((rd_T35 x316005 x4).f1.f2) ((rd_T35 x316005 x4).f1.f3)).bind fun t322 => (if x3.length < 8796093022208 then (spec_PutEntry.l0 k (x3 ++ [t322]) (wrap64 (x4 + 1)) x316000 x316001 x316002 x316003 x316004 x316005) else (none))) else (none)) else ((spec_EntryName.f k x316000 x316001 x316002 x316003 x316004).bind fun t329 => ((spec_PutText.f k (([] : List Int)) t329).bind fun t330 => ((spec_PutTexts.f k t330 x3).bind fun t333 => (some (strOfNums t333)))))
def spec_PutEntry.f (k : Nat) (a0_0 : ByteArray) (a0_1 : Int) (a0_2 : Int) (a0_3 : Int) (a0_4 : ByteArray) (l0_5 : List (S35)) : Option (ByteArray) := (spec_EntryOk.f k a0_0 a0_1 a0_2 a0_3 a0_4 l0_5).bind fun t316 => (if t316 = true then (spec_PutEntry.l0 k (([] : List ByteArray)) 0 a0_0 a0_1 a0_2 a0_3 a0_4 l0_5) else (some (⟨#[]⟩ : ByteArray)))
def spec_PutEntry.T7 : Bool × List (List Nat × List Nat) := (true, [([], []), ([], []), ([1], [1]), ([], []), ([2, 3], [2, 3]), ([4], [4]), ([5], [5]), ([], []), ([7], [7]), ([], []), ([8, 9], [8, 9]), ([10], [10]), ([11], [11]), ([6, 12], [6, 12]), ([13], [13]), ([0, 14, 13], [0, 14]), ([15, 15, 0, 1, 2, 3, 4, 5, 6, 7, 8, 9, 10, 11, 12, 13, 14, 15], [0, 15])])
def spec_PutEntry.B7 : List Nat := [0, 0, 2, 0, 14, 30, 62, 0, 128, 0, 896, 1920, 3968, 8190, 16382, 32767, 65535]
theorem spec_PutEntry.tab7 : rtab .any (opsOf Tryz.f26 7) = spec_PutEntry.T7 := by kernel_rfl
theorem spec_PutEntry.bits7 : waitsOk spec_PutEntry.T7.2 spec_PutEntry.B7 = true := by kernel_rfl
set_option maxHeartbeats 8000000 in
set_option maxRecDepth 100000 in
theorem spec_PutEntry.calls (k : Nat) (a0_0 : ByteArray) (a0_1 : Int) (a0_2 : Int) (a0_3 : Int) (a0_4 : ByteArray) (A0_5 : Option Addr) (c0_5 : Nat) (l0_5 : List (S35)) (r : ByteArray) (w : World) (hr0_5 : Kd.C k35 w A0_5 l0_5.length l0_5) (hc0_5 : l0_5.length ≤ c0_5) (h : spec_PutEntry.f k a0_0 a0_1 a0_2 a0_3 a0_4 l0_5 = some r) :
  Calls Tryz.prog 26 #[.agg #[.string a0_0, .int .i64 a0_1, .int .i64 a0_2, .int .i64 a0_3, .string a0_4, .slice A0_5 l0_5.length c0_5]] w fun e w' => e = .returned (.string r) ∧ Below w.heap.size w w' := by
 have hu28 := Tryz.underlying28
 have hu25 := Tryz.underlying25
 have HR0_5 := Aside0.mk hr0_5
 have HC0_5 := Aside0.mk hc0_5
 clear hr0_5 hc0_5
 have HB := Aside0.mk (Below.refl w.heap.size w)
 have H : ((spec_EntryOk.f k a0_0 a0_1 a0_2 a0_3 a0_4 l0_5).bind fun t316 => (if t316 = true then (spec_PutEntry.l0 k (([] : List ByteArray)) 0 a0_0 a0_1 a0_2 a0_3 a0_4 l0_5) else (some (⟨#[]⟩ : ByteArray)))) = some r := h
 clear h
 replace H := Option.bind_eq_some_iff.mp H
 obtain ⟨t316, A20, H⟩ := H
 replace H : (if t316 = true then (spec_PutEntry.l0 k (([] : List ByteArray)) 0 a0_0 a0_1 a0_2 a0_3 a0_4 l0_5) else (some (⟨#[]⟩ : ByteArray))) = some r := H
 have A2 := Aside0.mk A20
 clear A20
 by_cases c3 : t316 = true
 ·subst c3
  have H1 : (spec_PutEntry.l0 k (([] : List ByteArray)) 0 a0_0 a0_1 a0_2 a0_3 a0_4 l0_5) = some r := by rw [if_pos rfl] at H; exact H
  clear H
  have H := H1
  clear H1
  obtain ⟨y317, hy317⟩ : ∃ y_ : List ByteArray, y_ = (([] : List ByteArray)) := ⟨_, rfl⟩
  replace H : (spec_PutEntry.l0 k y317 0 a0_0 a0_1 a0_2 a0_3 a0_4 l0_5) = some r := by first | (rw [hy317]; with_reducible exact H) | (have H2_ := (Option.bind_some _ _).symm.trans H; rw [hy317]; with_reducible exact H2_) | (have H2_ := (Option.bind_some _ _).symm.trans H; with_reducible exact H2_) | with_reducible exact H | (rw [hy317]; exact H) | exact H
  have Ny317 := Aside0.mk hy317
  clear hy317
  have H' := Aside0.mk H
  clear H
  go_enter Tryz.func26, Tryz.ntmps26
  go_wp2_with (first | ((with_reducible refine gate_dst (N := 1) rfl ?_); refine box_event zw (N := 1) zw (cs := #[.string a0_0, .int .i64 a0_1, .int .i64 a0_2, .int .i64 a0_3, .string a0_4, .slice A0_5 l0_5.length c0_5]) (t := 28) zx ?_; intro gb315 hg w4 hbox hb; have n0_ := Aside0.mk (below_step zp hb); have n1_ := Aside0.mk hbox; have n2_ := Aside0.mk ((z3s : w.heap.size ≤ gb315)); have n3_ := Aside0.mk ((z3s : w.heap.size ≤ gb315)); clear HB; have HB := n0_; have BK315 := n1_; have GW315 := n2_; have GE315 := n3_; clear n0_ n1_ n2_ n3_; clear hb hbox hg; obtain ⟨hcz5_0, hcz5_1, hcz5_2, hcz5_3, hcz5_4, hcz5_5, hfz5_0, hfz5_1, hfz5_2, hfz5_3, hfz5_4, hfz5_5⟩ := zf BK315.out) | ((with_reducible refine gate_callee (f := 10) rfl ?_); refine goesL_ (some 6) rfl rfl Tryz.func10 zi rfl #[.agg #[.string a0_0, .int .i64 a0_1, .int .i64 a0_2, .int .i64 a0_3, .string a0_4, .slice A0_5 l0_5.length c0_5]] rfl zo ?_; (with_reducible refine (spec_EntryOk.calls k a0_0 a0_1 a0_2 a0_3 a0_4 _ _ l0_5 true _ ?side1 ?side2 A2.out).mono ?_); (case side1 => exact z1f); (case side2 => exact HC0_5.out); rintro e w6 ⟨rfl, hb⟩; refine ⟨_, rfl, ?_⟩; have n0_ := Aside0.mk (blk_below (g := gb315) (o := .cells #[.string a0_0, .int .i64 a0_1, .int .i64 a0_2, .int .i64 a0_3, .string a0_4, .slice A0_5 l0_5.length c0_5] 28 (0, 0)) z2r hb); have n1_ := Aside0.mk (below_step z2s hb); clear BK315; clear HB; have BK315 := n0_; have HB := n1_; clear n0_ n1_; (try clear hb); (try clear hb2); (try clear hk); (try clear hi)) | ((with_reducible refine gate_dst (N := 8) rfl ?_); refine Kd.R_lit Kd.string _ 9 ?hg (N := 8) ?hd (xs := ([] : List ByteArray)) (inner := []) (ok := fun _ => True) (okp := fun _ => True) ?hr ?hp (fun _ hk => hk) trivial (Below.refl _ _) (Nat.le_refl _) (by simp) ?_; (case hd => exact zw); (case hg => exact zw); (case hr => exact zx); (case hp => exact (Reps.none _ _)); intro v318 w7 ho8 hb hg_ hnew_; clear hg_ hnew_; (first | rw [← Ny317.out] at ho8 | (simp only [Int.reduceToNat] at ho8; rw [← Ny317.out] at ho8)); have n0_ := Aside0.mk (Kd.R_lower ho8 (below_size z2s)); have n1_ := Aside0.mk (blk_below (g := gb315) (o := .cells #[.string a0_0, .int .i64 a0_1, .int .i64 a0_2, .int .i64 a0_3, .string a0_4, .slice A0_5 l0_5.length c0_5] 28 (0, 0)) z2r hb); have n2_ := Aside0.mk (below_step z2s hb); clear BK315; clear HB; have HO319 := n0_; have BK315 := n1_; have HB := n2_; clear n0_ n1_ n2_; clear hb ho8))
  go_loopg [3, 4] k (fun kq v3 v4 w' => ∃ (x3_1 : List ByteArray) (x4_1 : Int), v4 = .int .i64 x4_1 ∧ Aside0 (spec_PutEntry.l0 kq x3_1 x4_1 a0_0 a0_1 a0_2 a0_3 a0_4 l0_5 = some r) ∧ Aside0 (kq ≤ k) ∧ Aside0 (Kd.R Kd.string 9 w' w.heap.size (fun _ => True) v3 x3_1) ∧ Aside0 (w'.heap[gb315]? = some (.cells #[.string a0_0, .int .i64 a0_1, .int .i64 a0_2, .int .i64 a0_3, .string a0_4, (.slice A0_5 l0_5.length c0_5)] 28 (0, 0))) ∧ Aside0 (Below w.heap.size w w'))
  case atStart => exact ⟨(y317), (0), zj, H', ⟨Nat.le_refl _⟩, ⟨by (with_reducible repeat (first | apply Kd.R_alloc | apply Kd.R_drewN | apply Kd.R_drew)); exact HO319.out⟩, ⟨z2r⟩, ⟨z2s⟩⟩
  case round =>
   clear H'
   try clear c1
   try clear c2
   try clear p2
   try clear c3
   try clear hcz5_0
   try clear hcz5_1
   try clear hcz5_2
   try clear hcz5_3
   try clear hcz5_4
   try clear hcz5_5
   try clear hfz5_0
   try clear hfz5_1
   try clear hfz5_2
   try clear hfz5_3
   try clear hfz5_4
   try clear hfz5_5
   obtain ⟨x3_1, x4_1, rfl, HA, HK1, HO_3, BK315, HB⟩ := hrel
   cases gk with
   | zero => exact absurd HA.out (by simp [spec_PutEntry.l0])
   | succ k1 =>
    have H := HA.out
    clear HA
    simp only [spec_PutEntry.l0] at H
    by_cases c9 : x4_1 < (l0_5.length : Int)
    ·rw [if_pos c9] at H
     have c9b0 : decide (x4_1 < (l0_5.length : Int)) = true := decide_eq_true c9
     clear c9
     by_cases c10 : 0 ≤ x4_1
     ·rw [if_pos c10] at H
      have c10b0 : decide (0 ≤ x4_1) = true := decide_eq_true c10
      clear c10
      replace H := Option.bind_eq_some_iff.mp H
      obtain ⟨t322, A110, H⟩ := H
      replace H : (if x3_1.length < 8796093022208 then (spec_PutEntry.l0 k1 (x3_1 ++ [t322]) (wrap64 (x4_1 + 1)) a0_0 a0_1 a0_2 a0_3 a0_4 l0_5) else (none)) = some r := H
      have A11 := Aside0.mk A110
      clear A110
      by_cases c12 : x3_1.length < 8796093022208
      ·rw [if_pos c12] at H
       have LMc12 := Aside0.mk c12
       clear c12
       obtain ⟨y323, hy323⟩ : ∃ y_ : List ByteArray, y_ = (x3_1 ++ [t322]) := ⟨_, rfl⟩
       replace H : (spec_PutEntry.l0 k1 y323 (wrap64 (x4_1 + 1)) a0_0 a0_1 a0_2 a0_3 a0_4 l0_5) = some r := by first | (rw [hy323]; with_reducible exact H) | (have H2_ := (Option.bind_some _ _).symm.trans H; rw [hy323]; with_reducible exact H2_) | (have H2_ := (Option.bind_some _ _).symm.trans H; with_reducible exact H2_) | with_reducible exact H | (rw [hy323]; exact H) | exact H
       have Ny323 := Aside0.mk hy323
       clear hy323
       have H' := Aside0.mk H
       clear H
       obtain ⟨hcz13_0, hcz13_1, hcz13_2, hcz13_3, hcz13_4, hcz13_5, hfz13_0, hfz13_1, hfz13_2, hfz13_3, hfz13_4, hfz13_5⟩ := zf BK315.out
       try go_wp2
       have n0_ := Aside0.mk (Kd.R_drew HO_3.out)
       have n1_ := Aside0.mk (blk_drew BK315.out)
       have n2_ := Aside0.mk (below_drew1 HB.out)
       clear HO_3
       clear BK315
       clear HB
       have HO_3 := n0_
       have BK315 := n1_
       have HB := n2_
       clear n0_ n1_ n2_
       have p320 : 0 ≤ (x4_1 : Int) := of_decide_eq_true zm
       have q320 : x4_1 < (l0_5.length : Int) := of_decide_eq_true zm
       obtain ⟨ad320, e320, hx320_0, hx320_1, hx320_2, hx320_3, hx320_4⟩ := at_T35 HR0_5.out x4_1 p320 q320
       have hw320_4 := hx320_4
       have hw320_3 := hx320_3
       have hw320_2 := hx320_2
       have hw320_1 := hx320_1
       have hw320_0 := hx320_0
       cases e320
       replace hx320_0 := (HB.out.cell (World.block_lt_of_cell? w _ hx320_0)).trans hx320_0
       replace hx320_1 := (HB.out.cell (World.block_lt_of_cell? w _ hx320_1)).trans hx320_1
       replace hx320_2 := (HB.out.cell (World.block_lt_of_cell? w _ hx320_2)).trans hx320_2
       replace hx320_3 := (HB.out.cell (World.block_lt_of_cell? w _ hx320_3)).trans hx320_3
       replace hx320_4 := (HB.out.cell (World.block_lt_of_cell? w _ hx320_4)).trans hx320_4
       replace p320 := eq_true p320
       replace q320 := eq_true q320
       have p321 : 0 ≤ (x4_1 : Int) := of_decide_eq_true zm
       have q321 : x4_1 < (l0_5.length : Int) := of_decide_eq_true zm
       obtain ⟨ad321, e321, hx321_0, hx321_1, hx321_2, hx321_3, hx321_4⟩ := at_T35 HR0_5.out x4_1 p321 q321
       have hw321_4 := hx321_4
       have hw321_3 := hx321_3
       have hw321_2 := hx321_2
       have hw321_1 := hx321_1
       have hw321_0 := hx321_0
       obtain rfl : ad320 = ad321 := (by injection e321)
       replace hx321_0 := (HB.out.cell (World.block_lt_of_cell? w _ hx321_0)).trans hx321_0
       replace hx321_1 := (HB.out.cell (World.block_lt_of_cell? w _ hx321_1)).trans hx321_1
       replace hx321_2 := (HB.out.cell (World.block_lt_of_cell? w _ hx321_2)).trans hx321_2
       replace hx321_3 := (HB.out.cell (World.block_lt_of_cell? w _ hx321_3)).trans hx321_3
       replace hx321_4 := (HB.out.cell (World.block_lt_of_cell? w _ hx321_4)).trans hx321_4
       replace p321 := eq_true p321
       replace q321 := eq_true q321
       refine start_ (n := 17) (S := fun w' => w'.cell? ⟨gb315, 0, none⟩ = some (.string a0_0) ∧ w'.cell? ⟨gb315, 1, none⟩ = some (.int .i64 a0_1) ∧ w'.cell? ⟨gb315, 2, none⟩ = some (.int .i64 a0_2) ∧ w'.cell? ⟨gb315, 3, none⟩ = some (.int .i64 a0_3) ∧ w'.cell? ⟨gb315, 4, none⟩ = some (.string a0_4) ∧ w'.cell? ⟨gb315, 5, none⟩ = some (.slice (some ad320) l0_5.length c0_5) ∧ w'.cell? (ad320.add ((x4_1).toNat * 5)) = some (.string ((rd_T35 l0_5 x4_1).f0)) ∧ w'.cell? ⟨(ad320.add ((x4_1).toNat * 5)).block, (ad320.add ((x4_1).toNat * 5)).off + 1, none⟩ = some (.int .i64 ((rd_T35 l0_5 x4_1).f1.f0)) ∧ w'.cell? ⟨(ad320.add ((x4_1).toNat * 5)).block, (ad320.add ((x4_1).toNat * 5)).off + 2, none⟩ = some (.int .i64 ((rd_T35 l0_5 x4_1).f1.f1)) ∧ w'.cell? ⟨(ad320.add ((x4_1).toNat * 5)).block, (ad320.add ((x4_1).toNat * 5)).off + 3, none⟩ = some (.int .i64 ((rd_T35 l0_5 x4_1).f1.f2)) ∧ w'.cell? ⟨(ad320.add ((x4_1).toNat * 5)).block, (ad320.add ((x4_1).toNat * 5)).off + 4, none⟩ = some (.string ((rd_T35 l0_5 x4_1).f1.f3)) ∧ w'.cell? (ad320.add ((x4_1).toNat * 5)) = some (.string ((rd_T35 l0_5 x4_1).f0)) ∧ w'.cell? ⟨(ad320.add ((x4_1).toNat * 5)).block, (ad320.add ((x4_1).toNat * 5)).off + 1, none⟩ = some (.int .i64 ((rd_T35 l0_5 x4_1).f1.f0)) ∧ w'.cell? ⟨(ad320.add ((x4_1).toNat * 5)).block, (ad320.add ((x4_1).toNat * 5)).off + 2, none⟩ = some (.int .i64 ((rd_T35 l0_5 x4_1).f1.f1)) ∧ w'.cell? ⟨(ad320.add ((x4_1).toNat * 5)).block, (ad320.add ((x4_1).toNat * 5)).off + 3, none⟩ = some (.int .i64 ((rd_T35 l0_5 x4_1).f1.f2)) ∧ w'.cell? ⟨(ad320.add ((x4_1).toNat * 5)).block, (ad320.add ((x4_1).toNat * 5)).off + 4, none⟩ = some (.string ((rd_T35 l0_5 x4_1).f1.f3))) (ds := []) #[z4h, z4h, z4h, z4h, z4h, z4h, z4h, z4h, z4h, z4h, z4h, z4h, z4h, z4h, z4h, z4h, z4h] zi rfl rfl ⟨(blk_cell BK315.out 0).trans rfl, (blk_cell BK315.out 1).trans rfl, (blk_cell BK315.out 2).trans rfl, (blk_cell BK315.out 3).trans rfl, (blk_cell BK315.out 4).trans rfl, (blk_cell BK315.out 5).trans rfl, ((HB.out.cell (World.block_lt_of_cell? w _ hw320_0)).trans hw320_0), ((HB.out.cell (World.block_lt_of_cell? w _ hw320_1)).trans hw320_1), ((HB.out.cell (World.block_lt_of_cell? w _ hw320_2)).trans hw320_2), ((HB.out.cell (World.block_lt_of_cell? w _ hw320_3)).trans hw320_3), ((HB.out.cell (World.block_lt_of_cell? w _ hw320_4)).trans hw320_4), ((HB.out.cell (World.block_lt_of_cell? w _ hw321_0)).trans hw321_0), ((HB.out.cell (World.block_lt_of_cell? w _ hw321_1)).trans hw321_1), ((HB.out.cell (World.block_lt_of_cell? w _ hw321_2)).trans hw321_2), ((HB.out.cell (World.block_lt_of_cell? w _ hw321_3)).trans hw321_3), ((HB.out.cell (World.block_lt_of_cell? w _ hw321_4)).trans hw321_4)⟩ (fun hHeld => ?_); refine with_tabW spec_PutEntry.tab7 spec_PutEntry.bits7 (fun HT_ HW_ => ?_)
       generalize wr.drew = w14 at HO_3 BK315 HB hx320_0 hx320_1 hx320_2 hx320_3 hx320_4 hx321_0 hx321_1 hx321_2 hx321_3 hx321_4 hHeld ⊢
       refine pure_ (i := 0) (N := some 16) (v := ?_) (a' := ?_) #[z4g, z4h, z4h, z4h, z4h, z4h, z4h, z4h, z4h, z4h, z4h, z4h, z4h, z4h, z4h, z4h, z4h] rfl rfl (any_of HT_.out zi) (fun _ _ _ h => h) (Or.inl ⟨zw, ?_⟩) ?_ ?_
       rotate_left
       ·intro w'
        go_simp
        with_reducible rfl
       rotate_left
       ·simp only [Act.put, z4i, z4j, z4k, i64_w, i32_w]
        rfl
       refine pure_ (i := 1) (N := some 17) (v := ?_) (a' := ?_) #[z4g, z4g, z4h, z4h, z4h, z4h, z4h, z4h, z4h, z4h, z4h, z4h, z4h, z4h, z4h, z4h, z4h] rfl rfl (any_of HT_.out zi) (fun _ _ _ h => h) (Or.inl ⟨zw, ?_⟩) ?_ ?_
       rotate_left
       ·intro w'
        go_simp
        with_reducible rfl
       rotate_left
       ·simp only [Act.put, z4i, z4j, z4k, i64_w, i32_w]
        rfl
       refine pure_ (i := 3) (N := some 19) (v := ?_) (a' := ?_) #[z4g, z4g, z4h, z4g, z4h, z4h, z4h, z4h, z4h, z4h, z4h, z4h, z4h, z4h, z4h, z4h, z4h] rfl rfl (any_of HT_.out zi) (fun _ _ _ h => h) (Or.inl ⟨zw, ?_⟩) ?_ ?_
       rotate_left
       ·intro w'
        go_simp
        with_reducible rfl
       rotate_left
       ·simp only [Act.put, z4i, z4j, z4k, i64_w, i32_w]
        rfl
       refine pure_ (i := 7) (N := some 23) (v := ?_) (a' := ?_) #[z4g, z4g, z4h, z4g, z4h, z4h, z4h, z4g, z4h, z4h, z4h, z4h, z4h, z4h, z4h, z4h, z4h] rfl rfl (any_of HT_.out zi) (fun _ _ _ h => h) (Or.inl ⟨zw, ?_⟩) ?_ ?_
       rotate_left
       ·intro w'
        go_simp
        with_reducible rfl
       rotate_left
       ·simp only [Act.put, z4i, z4j, z4k, i64_w, i32_w]
        rfl
       refine pure_ (i := 9) (N := some 25) (v := ?_) (a' := ?_) #[z4g, z4g, z4h, z4g, z4h, z4h, z4h, z4g, z4h, z4g, z4h, z4h, z4h, z4h, z4h, z4h, z4h] rfl rfl (any_of HT_.out zi) (fun _ _ _ h => h) (Or.inl ⟨zw, ?_⟩) ?_ ?_
       rotate_left
       ·intro w'
        go_simp
        with_reducible rfl
       rotate_left
       ·simp only [Act.put, z4i, z4j, z4k, i64_w, i32_w]
        rfl
       refine take_ (i := 2) (N := some 18) (v := ?_) (a' := ?_) #[z4g, z4g, z4g, z4g, z4h, z4h, z4h, z4g, z4h, z4g, z4h, z4h, z4h, z4h, z4h, z4h, z4h] rfl rfl (take_ofW HT_.out HW_.out zi) (fun _ _ _ h => h) (Or.inl ⟨zw, ?_⟩) hHeld ?_ ?_
       rotate_left
       ·rintro w' ⟨s0, s1, s2, s3, s4, s5, s6, s7, s8, s9, s10, s11, s12, s13, s14, s15⟩
        go_simp
        with_reducible rfl
       rotate_left
       ·simp only [Act.put, z4i, z4j, z4k, i64_w, i32_w]
        rfl
       refine pure_ (i := 4) (N := some 20) (v := ?_) (a' := ?_) #[z4g, z4g, z4g, z4g, z4g, z4h, z4h, z4g, z4h, z4g, z4h, z4h, z4h, z4h, z4h, z4h, z4h] rfl rfl (any_of HT_.out zi) (fun _ _ _ h => h) (Or.inl ⟨zw, ?_⟩) ?_ ?_
       rotate_left
       ·intro w'
        go_simp
        with_reducible rfl
       rotate_left
       ·simp only [Act.put, z4i, z4j, z4k, i64_w, i32_w]
        rfl
       refine pure_ (i := 5) (N := some 21) (v := ?_) (a' := ?_) #[z4g, z4g, z4g, z4g, z4g, z4g, z4h, z4g, z4h, z4g, z4h, z4h, z4h, z4h, z4h, z4h, z4h] rfl rfl (any_of HT_.out zi) (fun _ _ _ h => h) (Or.inl ⟨zw, ?_⟩) ?_ ?_
       rotate_left
       ·intro w'
        go_simp
        with_reducible rfl
       rotate_left
       ·simp only [Act.put, z4i, z4j, z4k, i64_w, i32_w]
        rfl
       refine take_ (i := 6) (N := some 22) (v := ?_) (a' := ?_) #[z4g, z4g, z4g, z4g, z4g, z4g, z4g, z4g, z4h, z4g, z4h, z4h, z4h, z4h, z4h, z4h, z4h] rfl rfl (take_ofW HT_.out HW_.out zi) (fun _ _ _ h => h) (Or.inl ⟨zw, ?_⟩) hHeld ?_ ?_
       rotate_left
       ·rintro w' ⟨s0, s1, s2, s3, s4, s5, s6, s7, s8, s9, s10, s11, s12, s13, s14, s15⟩
        go_simp
        with_reducible rfl
       rotate_left
       ·simp only [Act.put, z4i, z4j, z4k, i64_w, i32_w]
        rfl
       refine take_ (i := 8) (N := some 24) (v := ?_) (a' := ?_) #[z4g, z4g, z4g, z4g, z4g, z4g, z4g, z4g, z4g, z4g, z4h, z4h, z4h, z4h, z4h, z4h, z4h] rfl rfl (take_ofW HT_.out HW_.out zi) (fun _ _ _ h => h) (Or.inl ⟨zw, ?_⟩) hHeld ?_ ?_
       rotate_left
       ·rintro w' ⟨s0, s1, s2, s3, s4, s5, s6, s7, s8, s9, s10, s11, s12, s13, s14, s15⟩
        go_simp
        with_reducible rfl
       rotate_left
       ·simp only [Act.put, z4i, z4j, z4k, i64_w, i32_w]
        rfl
       refine pure_ (i := 10) (N := some 26) (v := ?_) (a' := ?_) #[z4g, z4g, z4g, z4g, z4g, z4g, z4g, z4g, z4g, z4g, z4g, z4h, z4h, z4h, z4h, z4h, z4h] rfl rfl (any_of HT_.out zi) (fun _ _ _ h => h) (Or.inl ⟨zw, ?_⟩) ?_ ?_
       rotate_left
       ·intro w'
        go_simp
        with_reducible rfl
       rotate_left
       ·simp only [Act.put, z4i, z4j, z4k, i64_w, i32_w]
        rfl
       refine pure_ (i := 11) (N := some 27) (v := ?_) (a' := ?_) #[z4g, z4g, z4g, z4g, z4g, z4g, z4g, z4g, z4g, z4g, z4g, z4g, z4h, z4h, z4h, z4h, z4h] rfl rfl (any_of HT_.out zi) (fun _ _ _ h => h) (Or.inl ⟨zw, ?_⟩) ?_ ?_
       rotate_left
       ·intro w'
        go_simp
        with_reducible rfl
       rotate_left
       ·simp only [Act.put, z4i, z4j, z4k, i64_w, i32_w]
        rfl
       refine take_ (i := 12) (N := some 28) (v := ?_) (a' := ?_) #[z4g, z4g, z4g, z4g, z4g, z4g, z4g, z4g, z4g, z4g, z4g, z4g, z4g, z4h, z4h, z4h, z4h] rfl rfl (take_ofW HT_.out HW_.out zi) (fun _ _ _ h => h) (Or.inl ⟨zw, ?_⟩) hHeld ?_ ?_
       rotate_left
       ·rintro w' ⟨s0, s1, s2, s3, s4, s5, s6, s7, s8, s9, s10, s11, s12, s13, s14, s15⟩
        go_simp
        with_reducible rfl
       rotate_left
       ·simp only [Act.put, z4i, z4j, z4k, i64_w, i32_w]
        rfl
       refine one_ (i := 13) (N := some 29) #[z4g, z4g, z4g, z4g, z4g, z4g, z4g, z4g, z4g, z4g, z4g, z4g, z4g, z4g, z4h, z4h, z4h] rfl rfl (one_of HT_.out zi) zh (fun K hK => ?_)
       refine goes_ Tryz.func55 zi rfl #[.string ((rd_T35 l0_5 x4_1).f0), .agg #[.int .i64 ((rd_T35 l0_5 x4_1).f1.f0), .int .i64 ((rd_T35 l0_5 x4_1).f1.f1), .int .i64 ((rd_T35 l0_5 x4_1).f1.f2), .string ((rd_T35 l0_5 x4_1).f1.f3)]] zw rfl rfl zo ?_
       with_reducible refine (spec_EntryName.calls k1 ((rd_T35 l0_5 x4_1).f0) ((rd_T35 l0_5 x4_1).f1.f0) ((rd_T35 l0_5 x4_1).f1.f1) ((rd_T35 l0_5 x4_1).f1.f2) ((rd_T35 l0_5 x4_1).f1.f3) t322 _ A11.out).mono ?_
       rintro e w15 ⟨rfl, hb⟩
       refine ⟨_, rfl, ?_⟩
       have n0_ := Aside0.mk (Kd.R_below zq hb)
       have n1_ := Aside0.mk (blk_below (g := gb315) (o := .cells #[.string a0_0, .int .i64 a0_1, .int .i64 a0_2, .int .i64 a0_3, .string a0_4, .slice (some ad320) l0_5.length c0_5] 28 (0, 0)) z2r hb)
       have n2_ := Aside0.mk (below_step z2s hb)
       clear HO_3
       clear BK315
       clear HB
       have HO_3 := n0_
       have BK315 := n1_
       have HB := n2_
       clear n0_ n1_ n2_
       (try clear hb)
       (try clear hb2)
       (try clear hk)
       (try clear hi)
       refine hK.out _ _ ⟨(blk_cell BK315.out 0).trans rfl, (blk_cell BK315.out 1).trans rfl, (blk_cell BK315.out 2).trans rfl, (blk_cell BK315.out 3).trans rfl, (blk_cell BK315.out 4).trans rfl, (blk_cell BK315.out 5).trans rfl, ((HB.out.cell (World.block_lt_of_cell? w _ hw320_0)).trans hw320_0), ((HB.out.cell (World.block_lt_of_cell? w _ hw320_1)).trans hw320_1), ((HB.out.cell (World.block_lt_of_cell? w _ hw320_2)).trans hw320_2), ((HB.out.cell (World.block_lt_of_cell? w _ hw320_3)).trans hw320_3), ((HB.out.cell (World.block_lt_of_cell? w _ hw320_4)).trans hw320_4), ((HB.out.cell (World.block_lt_of_cell? w _ hw321_0)).trans hw321_0), ((HB.out.cell (World.block_lt_of_cell? w _ hw321_1)).trans hw321_1), ((HB.out.cell (World.block_lt_of_cell? w _ hw321_2)).trans hw321_2), ((HB.out.cell (World.block_lt_of_cell? w _ hw321_3)).trans hw321_3), ((HB.out.cell (World.block_lt_of_cell? w _ hw321_4)).trans hw321_4)⟩ (fun hHeld => ?_)
       clear hK K
       refine norm_ (a' := ?_) ?_ ?_
       rotate_left
       ·show Act.put _ (some 29) _ = _
        simp only [Act.put, z4i, z4j, z4k, i64_w, i32_w]
        rfl
       refine one_ (i := 14) (N := some 30) #[z4g, z4g, z4g, z4g, z4g, z4g, z4g, z4g, z4g, z4g, z4g, z4g, z4g, z4g, z4g, z4h, z4h] rfl rfl (one_of HT_.out zi) zh (fun K hK => ?_)
       refine value_ (w1 := ?_) (v := ?_) zw rfl ?_ ?_
       rotate_left 2
       ·go_simp
        constructor
        ·rfl
        ·rfl
       refine hK.out _ _ ⟨(blk_cell (blk_alloc BK315.out _) 0).trans rfl, (blk_cell (blk_alloc BK315.out _) 1).trans rfl, (blk_cell (blk_alloc BK315.out _) 2).trans rfl, (blk_cell (blk_alloc BK315.out _) 3).trans rfl, (blk_cell (blk_alloc BK315.out _) 4).trans rfl, (blk_cell (blk_alloc BK315.out _) 5).trans rfl, (World.cell?_alloc_lt _ _ _ (World.block_lt_of_cell? _ _ (((HB.out.cell (World.block_lt_of_cell? w _ hw320_0)).trans hw320_0)))).trans (((HB.out.cell (World.block_lt_of_cell? w _ hw320_0)).trans hw320_0)), (World.cell?_alloc_lt _ _ _ (World.block_lt_of_cell? _ _ (((HB.out.cell (World.block_lt_of_cell? w _ hw320_1)).trans hw320_1)))).trans (((HB.out.cell (World.block_lt_of_cell? w _ hw320_1)).trans hw320_1)), (World.cell?_alloc_lt _ _ _ (World.block_lt_of_cell? _ _ (((HB.out.cell (World.block_lt_of_cell? w _ hw320_2)).trans hw320_2)))).trans (((HB.out.cell (World.block_lt_of_cell? w _ hw320_2)).trans hw320_2)), (World.cell?_alloc_lt _ _ _ (World.block_lt_of_cell? _ _ (((HB.out.cell (World.block_lt_of_cell? w _ hw320_3)).trans hw320_3)))).trans (((HB.out.cell (World.block_lt_of_cell? w _ hw320_3)).trans hw320_3)), (World.cell?_alloc_lt _ _ _ (World.block_lt_of_cell? _ _ (((HB.out.cell (World.block_lt_of_cell? w _ hw320_4)).trans hw320_4)))).trans (((HB.out.cell (World.block_lt_of_cell? w _ hw320_4)).trans hw320_4)), (World.cell?_alloc_lt _ _ _ (World.block_lt_of_cell? _ _ (((HB.out.cell (World.block_lt_of_cell? w _ hw321_0)).trans hw321_0)))).trans (((HB.out.cell (World.block_lt_of_cell? w _ hw321_0)).trans hw321_0)), (World.cell?_alloc_lt _ _ _ (World.block_lt_of_cell? _ _ (((HB.out.cell (World.block_lt_of_cell? w _ hw321_1)).trans hw321_1)))).trans (((HB.out.cell (World.block_lt_of_cell? w _ hw321_1)).trans hw321_1)), (World.cell?_alloc_lt _ _ _ (World.block_lt_of_cell? _ _ (((HB.out.cell (World.block_lt_of_cell? w _ hw321_2)).trans hw321_2)))).trans (((HB.out.cell (World.block_lt_of_cell? w _ hw321_2)).trans hw321_2)), (World.cell?_alloc_lt _ _ _ (World.block_lt_of_cell? _ _ (((HB.out.cell (World.block_lt_of_cell? w _ hw321_3)).trans hw321_3)))).trans (((HB.out.cell (World.block_lt_of_cell? w _ hw321_3)).trans hw321_3)), (World.cell?_alloc_lt _ _ _ (World.block_lt_of_cell? _ _ (((HB.out.cell (World.block_lt_of_cell? w _ hw321_4)).trans hw321_4)))).trans (((HB.out.cell (World.block_lt_of_cell? w _ hw321_4)).trans hw321_4))⟩ (fun hHeld => ?_)
       clear hK K
       refine norm_ (a' := ?_) ?_ ?_
       rotate_left
       ·show Act.put _ (some 30) _ = _
        simp only [Act.put, z4i, z4j, z4k, i64_w, i32_w]
        rfl
       refine one_ (i := 15) (N := some 31) #[z4g, z4g, z4g, z4g, z4g, z4g, z4g, z4g, z4g, z4g, z4g, z4g, z4g, z4g, z4g, z4g, z4h] rfl rfl (one_of HT_.out zi) zh (fun K hK => ?_)
       refine Kd.R_append_step Kd.string (w0 := w) w.heap.size zw (.tmp 16) (.tmp 30) 55 9 (.string ⟨#[]⟩) 16 rfl Tryz.underlying55 info9 rfl zh zg u3 x3_1 t322 [.string t322] (fun _ => True) (fun _ => False) rfl rfl ?aP (fun _ hk => hk.elim) ?aF ?aO ?aB ?aS ?aL ?_
       (case aP => exact rfl)
       (case aB => exact z2s)
       (case aF => exact (fun _ _ => trivial))
       (case aO => exact zq)
       (case aS => exact (below_size z2s))
       (case aL => have := LMc12.out; omega)
       intro v324 w16 ho hb hg hat
       rw [← Ny323.out] at ho
       have n0_ := Aside0.mk (blk_grown (g := gb315) (o := .cells #[.string a0_0, .int .i64 a0_1, .int .i64 a0_2, .int .i64 a0_3, .string a0_4, .slice (some ad320) l0_5.length c0_5] 28 (0, 0)) z2r hg (Kd.R_ne HO_3.out BK315.out zh))
       have n1_ := Aside0.mk hb
       have n2_ := Aside0.mk ho
       clear BK315
       clear HB
       clear HO_3
       have BK315 := n0_
       have HB := n1_
       have HO325 := n2_
       clear n0_ n1_ n2_
       clear ho hb hg hat
       refine hK.out _ _ ⟨(blk_cell BK315.out 0).trans rfl, (blk_cell BK315.out 1).trans rfl, (blk_cell BK315.out 2).trans rfl, (blk_cell BK315.out 3).trans rfl, (blk_cell BK315.out 4).trans rfl, (blk_cell BK315.out 5).trans rfl, ((HB.out.cell (World.block_lt_of_cell? w _ hw320_0)).trans hw320_0), ((HB.out.cell (World.block_lt_of_cell? w _ hw320_1)).trans hw320_1), ((HB.out.cell (World.block_lt_of_cell? w _ hw320_2)).trans hw320_2), ((HB.out.cell (World.block_lt_of_cell? w _ hw320_3)).trans hw320_3), ((HB.out.cell (World.block_lt_of_cell? w _ hw320_4)).trans hw320_4), ((HB.out.cell (World.block_lt_of_cell? w _ hw321_0)).trans hw321_0), ((HB.out.cell (World.block_lt_of_cell? w _ hw321_1)).trans hw321_1), ((HB.out.cell (World.block_lt_of_cell? w _ hw321_2)).trans hw321_2), ((HB.out.cell (World.block_lt_of_cell? w _ hw321_3)).trans hw321_3), ((HB.out.cell (World.block_lt_of_cell? w _ hw321_4)).trans hw321_4)⟩ (fun hHeld => ?_)
       clear hK K
       refine norm_ (a' := ?_) ?_ ?_
       rotate_left
       ·show Act.put _ (some 31) _ = _
        simp only [Act.put, z4i, z4j, z4k, i64_w, i32_w]
        rfl
       refine pure_ (i := 16) (N := some 3) (v := ?_) (a' := ?_) #[z4g, z4g, z4g, z4g, z4g, z4g, z4g, z4g, z4g, z4g, z4g, z4g, z4g, z4g, z4g, z4g, z4g] rfl rfl (any_of HT_.out zi) (fun _ _ _ h => h) (Or.inl ⟨zw, ?_⟩) ?_ ?_
       rotate_left
       ·intro w'
        go_simp
        with_reducible rfl
       rotate_left
       ·simp only [Act.put, z4i, z4j, z4k, i64_w, i32_w]
        rfl
       refine done_ (done_of HT_.out zi) ?_
       try go_wp2
       go_roundg k1
       case measure => have := HK1.out; omega
       case rel => exact ⟨(y323), (wrap64 (x4_1 + 1)), zj, H', ⟨zn⟩, ⟨by (with_reducible repeat (first | apply Kd.R_alloc | apply Kd.R_drewN | apply Kd.R_drew)); exact HO325.out⟩, ⟨z2r⟩, ⟨z2s⟩⟩
      ·rw [if_neg c12] at H
       exact absurd H (by simp)
     ·rw [if_neg c10] at H
      exact absurd H (by simp)
    ·rw [if_neg c9] at H
     have c9b0 : decide (x4_1 < (l0_5.length : Int)) = false := decide_eq_false c9
     clear c9
     obtain ⟨y326, hy326⟩ : ∃ y_ : List Int, y_ = (([] : List Int)) := ⟨_, rfl⟩
     replace H : ((spec_EntryName.f k1 a0_0 a0_1 a0_2 a0_3 a0_4).bind fun t329 => ((spec_PutText.f k1 y326 t329).bind fun t330 => ((spec_PutTexts.f k1 t330 x3_1).bind fun t333 => (some (strOfNums t333))))) = some r := by first | (rw [hy326]; with_reducible exact H) | (have H2_ := (Option.bind_some _ _).symm.trans H; rw [hy326]; with_reducible exact H2_) | (have H2_ := (Option.bind_some _ _).symm.trans H; with_reducible exact H2_) | with_reducible exact H | (rw [hy326]; exact H) | exact H
     have Ny326 := Aside0.mk hy326
     clear hy326
     replace H := Option.bind_eq_some_iff.mp H
     obtain ⟨t329, A170, H⟩ := H
     replace H : ((spec_PutText.f k1 y326 t329).bind fun t330 => ((spec_PutTexts.f k1 t330 x3_1).bind fun t333 => (some (strOfNums t333)))) = some r := H
     have A17 := Aside0.mk A170
     clear A170
     replace H := Option.bind_eq_some_iff.mp H
     obtain ⟨t330, A180, H⟩ := H
     replace H : ((spec_PutTexts.f k1 t330 x3_1).bind fun t333 => (some (strOfNums t333))) = some r := H
     have A18 := Aside0.mk A180
     clear A180
     replace H := Option.bind_eq_some_iff.mp H
     obtain ⟨t333, A190, H⟩ := H
     replace H : (some (strOfNums t333)) = some r := H
     have A19 := Aside0.mk A190
     clear A190
     obtain rfl := Option.some.inj H
     obtain ⟨hcz20_0, hcz20_1, hcz20_2, hcz20_3, hcz20_4, hcz20_5, hfz20_0, hfz20_1, hfz20_2, hfz20_3, hfz20_4, hfz20_5⟩ := zf BK315.out
     go_wp2_with (first | ((with_reducible refine gate_dst (N := 32) rfl ?_); refine Kd.R_lit (Kd.int .u8) _ 5 ?hg (N := 32) ?hd (xs := ([] : List Int)) (inner := []) (ok := fun _ => True) (okp := fun _ => True) ?hr ?hp (fun _ hk => hk) trivial (Below.refl _ _) (Nat.le_refl _) (by simp) ?_; (case hd => exact zw); (case hg => exact zw); (case hr => exact zx); (case hp => exact (Reps.none _ _)); intro v327 w21 ho22 hb hg_ hnew_; clear hg_ hnew_; (first | rw [← Ny326.out] at ho22 | (simp only [Int.reduceToNat] at ho22; rw [← Ny326.out] at ho22)); have n0_ := Aside0.mk (Kd.R_below zq hb); have n1_ := Aside0.mk (Kd.R_lower ho22 (below_size z2s)); have n2_ := Aside0.mk (blk_below (g := gb315) (o := .cells #[.string a0_0, .int .i64 a0_1, .int .i64 a0_2, .int .i64 a0_3, .string a0_4, .slice A0_5 l0_5.length c0_5] 28 (0, 0)) z2r hb); have n3_ := Aside0.mk (below_step z2s hb); clear HO_3; clear BK315; clear HB; have HO_3 := n0_; have HO328 := n1_; have BK315 := n2_; have HB := n3_; clear n0_ n1_ n2_ n3_; clear hb ho22; obtain ⟨hcz23_0, hcz23_1, hcz23_2, hcz23_3, hcz23_4, hcz23_5, hfz23_0, hfz23_1, hfz23_2, hfz23_3, hfz23_4, hfz23_5⟩ := zf BK315.out) | ((with_reducible refine gate_callee (f := 55) rfl ?_); refine goesL_ (some 37) rfl rfl Tryz.func55 zi rfl #[.string a0_0, .agg #[.int .i64 a0_1, .int .i64 a0_2, .int .i64 a0_3, .string a0_4]] rfl zo ?_; (with_reducible refine (spec_EntryName.calls k1 a0_0 a0_1 a0_2 a0_3 a0_4 t329 _ A17.out).mono ?_); rintro e w24 ⟨rfl, hb⟩; refine ⟨_, rfl, ?_⟩; have n0_ := Aside0.mk (Kd.R_below zq hb); have n1_ := Aside0.mk (Kd.R_below z2t hb); have n2_ := Aside0.mk (blk_below (g := gb315) (o := .cells #[.string a0_0, .int .i64 a0_1, .int .i64 a0_2, .int .i64 a0_3, .string a0_4, .slice A0_5 l0_5.length c0_5] 28 (0, 0)) z2r hb); have n3_ := Aside0.mk (below_step z2s hb); clear HO_3; clear HO328; clear BK315; clear HB; have HO_3 := n0_; have HO328 := n1_; have BK315 := n2_; have HB := n3_; clear n0_ n1_ n2_ n3_; (try clear hb); (try clear hb2); (try clear hk); (try clear hi); obtain ⟨Ao25, co25, eo25⟩ := Kd.R_slice HO328.out; subst eo25) | ((with_reducible refine gate_callee (f := 61) rfl ?_); refine goesL_ (some 38) rfl rfl Tryz.func61 zi rfl #[.slice Ao25 y326.length co25, .string t329] rfl zo ?_; (with_reducible refine (spec_PutText.calls k1 _ _ y326 t329 t330 _ ?side1 ?side2 A18.out).mono ?_); (case side1 => repeat (first | exact (Kd.R_reads' HO328.out).2.2 | (with_reducible refine Kd.C_alloc ?_ _) | (with_reducible refine Kd.C_drewN ?_ _) | (with_reducible refine Kd.C_drew ?_))); (case side2 => exact (Kd.R_reads' HO328.out).2.1); rintro e w26 ⟨v331, rfl, ho0, hb⟩; refine ⟨_, rfl, ?_⟩; have n0_ := Aside0.mk (Kd.R_below zq hb); have n1_ := Aside0.mk (Kd.R_elder' z2t (Kd.R_base ho0) hb); have n2_ := Aside0.mk (Kd.R_lower (Kd.R_new' ho0 (Kd.R_lt z2t)) (below_size z2s)); have n3_ := Aside0.mk (blk_below (g := gb315) (o := .cells #[.string a0_0, .int .i64 a0_1, .int .i64 a0_2, .int .i64 a0_3, .string a0_4, .slice A0_5 l0_5.length c0_5] 28 (0, 0)) z2r hb); have n4_ := Aside0.mk (below_step z2s hb); clear HO_3; clear HO328; clear BK315; clear HB; have HO_3 := n0_; have HO328 := n1_; have HO332 := n2_; have BK315 := n3_; have HB := n4_; clear n0_ n1_ n2_ n3_ n4_; (try clear hb); (try clear hb2); (try clear hk); (try clear hi); (try clear ho0); obtain ⟨Ao27, co27, eo27⟩ := Kd.R_slice HO332.out; subst eo27; obtain ⟨Ao28, co28, eo28⟩ := Kd.R_slice HO_3.out; subst eo28) | ((with_reducible refine gate_callee (f := 60) rfl ?_); refine goesL_ (some 40) rfl rfl Tryz.func60 zi rfl #[.slice Ao27 t330.length co27, .slice Ao28 x3_1.length co28] rfl zo ?_; (with_reducible refine (spec_PutTexts.calls k1 _ _ t330 _ _ x3_1 t333 _ ?side1 ?side2 ?side3 ?side4 A19.out).mono ?_); (case side1 => repeat (first | exact (Kd.R_reads' HO332.out).2.2 | (with_reducible refine Kd.C_alloc ?_ _) | (with_reducible refine Kd.C_drewN ?_ _) | (with_reducible refine Kd.C_drew ?_))); (case side2 => exact (Kd.R_reads' HO332.out).2.1); (case side3 => repeat (first | exact (Kd.R_reads' HO_3.out).2.2 | (with_reducible refine Kd.C_alloc ?_ _) | (with_reducible refine Kd.C_drewN ?_ _) | (with_reducible refine Kd.C_drew ?_))); (case side4 => exact (Kd.R_reads' HO_3.out).2.1); rintro e w29 ⟨v334, rfl, ho0, hb⟩; refine ⟨_, rfl, ?_⟩; have n0_ := Aside0.mk (Kd.R_below zq hb); have n1_ := Aside0.mk (Kd.R_elder' z2t (Kd.R_base ho0) hb); have n2_ := Aside0.mk (Kd.R_elder' (by (with_reducible repeat (first | apply Kd.R_alloc | apply Kd.R_drewN | apply Kd.R_drew)); exact HO332.out) (Kd.R_base ho0) hb); have n3_ := Aside0.mk (Kd.R_lower (Kd.R_new' (Kd.R_new' ho0 (Kd.R_lt z2t)) (Kd.R_lt (by (with_reducible repeat (first | apply Kd.R_alloc | apply Kd.R_drewN | apply Kd.R_drew)); exact HO332.out))) (below_size z2s)); have n4_ := Aside0.mk (blk_below (g := gb315) (o := .cells #[.string a0_0, .int .i64 a0_1, .int .i64 a0_2, .int .i64 a0_3, .string a0_4, .slice A0_5 l0_5.length c0_5] 28 (0, 0)) z2r hb); have n5_ := Aside0.mk (below_step z2s hb); clear HO_3; clear HO328; clear HO332; clear BK315; clear HB; have HO_3 := n0_; have HO328 := n1_; have HO332 := n2_; have HO335 := n3_; have BK315 := n4_; have HB := n5_; clear n0_ n1_ n2_ n3_ n4_ n5_; (try clear hb); (try clear hb2); (try clear hk); (try clear hi); (try clear ho0); have hcv30 := own_string (P := Tryz.prog) Tryz.underlying22 Tryz.underlying5 Tryz.underlying9 (Kd.own_of_R HO335.out)))
     go_ret
     exact ⟨zr, z2s⟩
 ·replace c3 := Bool.eq_false_iff.mpr c3
  subst c3
  have H1 : (some (⟨#[]⟩ : ByteArray)) = some r := by rw [if_neg (show ¬ (false = true) by decide)] at H; exact H
  clear H
  have H := H1
  clear H1
  obtain rfl := Option.some.inj H
  go_enter Tryz.func26, Tryz.ntmps26
  go_wp2_with (first | ((with_reducible refine gate_dst (N := 1) rfl ?_); refine box_event zw (N := 1) zw (cs := #[.string a0_0, .int .i64 a0_1, .int .i64 a0_2, .int .i64 a0_3, .string a0_4, .slice A0_5 l0_5.length c0_5]) (t := 28) zx ?_; intro gb315 hg w31 hbox hb; have n0_ := Aside0.mk (below_step zp hb); have n1_ := Aside0.mk hbox; have n2_ := Aside0.mk ((z3s : w.heap.size ≤ gb315)); have n3_ := Aside0.mk ((z3s : w.heap.size ≤ gb315)); clear HB; have HB := n0_; have BK315 := n1_; have GW315 := n2_; have GE315 := n3_; clear n0_ n1_ n2_ n3_; clear hb hbox hg; obtain ⟨hcz32_0, hcz32_1, hcz32_2, hcz32_3, hcz32_4, hcz32_5, hfz32_0, hfz32_1, hfz32_2, hfz32_3, hfz32_4, hfz32_5⟩ := zf BK315.out) | ((with_reducible refine gate_callee (f := 10) rfl ?_); refine goesL_ (some 6) rfl rfl Tryz.func10 zi rfl #[.agg #[.string a0_0, .int .i64 a0_1, .int .i64 a0_2, .int .i64 a0_3, .string a0_4, .slice A0_5 l0_5.length c0_5]] rfl zo ?_; (with_reducible refine (spec_EntryOk.calls k a0_0 a0_1 a0_2 a0_3 a0_4 _ _ l0_5 false _ ?side1 ?side2 A2.out).mono ?_); (case side1 => exact z1f); (case side2 => exact HC0_5.out); rintro e w33 ⟨rfl, hb⟩; refine ⟨_, rfl, ?_⟩; have n0_ := Aside0.mk (blk_below (g := gb315) (o := .cells #[.string a0_0, .int .i64 a0_1, .int .i64 a0_2, .int .i64 a0_3, .string a0_4, .slice A0_5 l0_5.length c0_5] 28 (0, 0)) z2r hb); have n1_ := Aside0.mk (below_step z2s hb); clear BK315; clear HB; have BK315 := n0_; have HB := n1_; clear n0_ n1_; (try clear hb); (try clear hb2); (try clear hk); (try clear hi)))
  go_ret
  exact ⟨zr, z2s⟩
end Go.Proofs.YtgdknepphkhnlaaGreatDoor.X

namespace Go.Proofs.YtgdknepphkhnlaaGreatDoor.X
open Go.RowKit Go.Proofs.YtgdknepphkhnlaaGreatDoorW.PrintWords Go.Proofs.YtgdknepphkhnlaaGreatDoorW.PrintLast Go.Proofs.YtgdknepphkhnlaaGreatDoorW.PrintMore
attribute [local go_sem] max2_int min2_int max_two min_two max_three min_three max_four min_four
set_option linter.unusedVariables false
set_option linter.unusedSimpArgs false
def laws_toVersion.f (a0_0 : Int) (a0_1 : Int) (a0_2 : Int) (a0_3 : ByteArray) : Option (Int × Int × Int × ByteArray) := some (a0_0, a0_1, a0_2, a0_3)
set_option maxHeartbeats 8000000 in
set_option maxRecDepth 100000 in
theorem laws_toVersion.calls (a0_0 : Int) (a0_1 : Int) (a0_2 : Int) (a0_3 : ByteArray) (r1 : Int) (r2 : Int) (r3 : Int) (r4 : ByteArray) (w : World) (h : laws_toVersion.f a0_0 a0_1 a0_2 a0_3 = some (r1, r2, r3, r4)) :
  Calls Tryz.prog 62 #[.agg #[.int .i64 a0_0, .int .i64 a0_1, .int .i64 a0_2, .string a0_3]] w fun e w' => e = .returned (.agg #[.int .i64 r1, .int .i64 r2, .int .i64 r3, .string r4]) ∧ Below w.heap.size w w' := by
 have hu45 := Tryz.underlying45
 have hu25 := Tryz.underlying25
 have HB := Aside0.mk (Below.refl w.heap.size w)
 have H : (some (a0_0, a0_1, a0_2, a0_3)) = some (r1, r2, r3, r4) := h
 clear h
 simp only [Option.some.injEq, Prod.mk.injEq] at H
 obtain ⟨rfl, rfl, rfl, rfl⟩ := H
 go_enter Tryz.func62, Tryz.ntmps62
 go_wp2_with (first | ((with_reducible refine gate_dst (N := 1) rfl ?_); refine box_event zw (N := 1) zw (cs := #[.int .i64 a0_0, .int .i64 a0_1, .int .i64 a0_2, .string a0_3]) (t := 45) zx ?_; intro gb336 hg w2 hbox hb; have n0_ := Aside0.mk (below_step zp hb); have n1_ := Aside0.mk hbox; have n2_ := Aside0.mk ((z3s : w.heap.size ≤ gb336)); have n3_ := Aside0.mk ((z3s : w.heap.size ≤ gb336)); clear HB; have HB := n0_; have BK336 := n1_; have GW336 := n2_; have GE336 := n3_; clear n0_ n1_ n2_ n3_; clear hb hbox hg) | ((with_reducible refine gate_dst (N := 2) rfl ?_); refine box_event zw (N := 2) zw (cs := #[.int .i64 0, .int .i64 0, .int .i64 0, .string (⟨#[]⟩ : ByteArray)]) (t := 25) zx ?_; intro gb337 hg w3 hbox hb; have n0_ := Aside0.mk (blk_below (g := gb336) (o := .cells #[.int .i64 a0_0, .int .i64 a0_1, .int .i64 a0_2, .string a0_3] 45 (0, 0)) z2u hb); have n1_ := Aside0.mk (below_step z2v hb); have n2_ := Aside0.mk hbox; have n3_ := Aside0.mk ((by rw [hg]; exact (below_size z2v) : w.heap.size ≤ gb337)); have n4_ := Aside0.mk ((by rw [hg]; exact (below_size z2v) : w.heap.size ≤ gb337)); have n5_ := Aside0.mk ((by rw [hg]; exact Nat.ne_of_lt (blk_lt (g := gb336) (o := .cells #[.int .i64 a0_0, .int .i64 a0_1, .int .i64 a0_2, .string a0_3] 45 (0, 0)) z2u) : gb336 ≠ gb337)); have n6_ := Aside0.mk ((by rw [hg]; exact Nat.ne_of_gt (blk_lt (g := gb336) (o := .cells #[.int .i64 a0_0, .int .i64 a0_1, .int .i64 a0_2, .string a0_3] 45 (0, 0)) z2u) : gb337 ≠ gb336)); clear BK336; clear HB; have BK336 := n0_; have HB := n1_; have BK337 := n2_; have GW337 := n3_; have GE337 := n4_; have NB336_337 := n5_; have NB337_336 := n6_; clear n0_ n1_ n2_ n3_ n4_ n5_ n6_; clear hb hbox hg) | ((with_reducible refine gate_dst (N := 3) rfl ?_); refine box_event zw (N := 3) zw (cs := #[.int .i64 0, .int .i64 0, .int .i64 0, .string (⟨#[]⟩ : ByteArray)]) (t := 25) zx ?_; intro gb338 hg w4 hbox hb; have n0_ := Aside0.mk (blk_below (g := gb336) (o := .cells #[.int .i64 a0_0, .int .i64 a0_1, .int .i64 a0_2, .string a0_3] 45 (0, 0)) z2u hb); have n1_ := Aside0.mk (blk_below (g := gb337) (o := .cells #[.int .i64 0, .int .i64 0, .int .i64 0, .string (⟨#[]⟩ : ByteArray)] 25 (0, 0)) z2w hb); have n2_ := Aside0.mk (below_step z2x hb); have n3_ := Aside0.mk hbox; have n4_ := Aside0.mk ((by rw [hg]; exact (below_size z2x) : w.heap.size ≤ gb338)); have n5_ := Aside0.mk ((by rw [hg]; exact (below_size z2x) : w.heap.size ≤ gb338)); have n6_ := Aside0.mk ((by rw [hg]; exact Nat.ne_of_lt (blk_lt (g := gb336) (o := .cells #[.int .i64 a0_0, .int .i64 a0_1, .int .i64 a0_2, .string a0_3] 45 (0, 0)) z2u) : gb336 ≠ gb338)); have n7_ := Aside0.mk ((by rw [hg]; exact Nat.ne_of_gt (blk_lt (g := gb336) (o := .cells #[.int .i64 a0_0, .int .i64 a0_1, .int .i64 a0_2, .string a0_3] 45 (0, 0)) z2u) : gb338 ≠ gb336)); have n8_ := Aside0.mk ((by rw [hg]; exact Nat.ne_of_lt (blk_lt (g := gb337) (o := .cells #[.int .i64 0, .int .i64 0, .int .i64 0, .string (⟨#[]⟩ : ByteArray)] 25 (0, 0)) z2w) : gb337 ≠ gb338)); have n9_ := Aside0.mk ((by rw [hg]; exact Nat.ne_of_gt (blk_lt (g := gb337) (o := .cells #[.int .i64 0, .int .i64 0, .int .i64 0, .string (⟨#[]⟩ : ByteArray)] 25 (0, 0)) z2w) : gb338 ≠ gb337)); clear BK336; clear BK337; clear HB; have BK336 := n0_; have BK337 := n1_; have HB := n2_; have BK338 := n3_; have GW338 := n4_; have GE338 := n5_; have NB336_338 := n6_; have NB338_336 := n7_; have NB337_338 := n8_; have NB338_337 := n9_; clear n0_ n1_ n2_ n3_ n4_ n5_ n6_ n7_ n8_ n9_; clear hb hbox hg; have hnb5 := NB336_337.out; have hnc5 := NB337_336.out; have hnb6 := NB336_338.out; have hnc6 := NB338_336.out; obtain ⟨hcz7_0, hcz7_1, hcz7_2, hcz7_3, hfz7_0, hfz7_1, hfz7_2, hfz7_3⟩ := zd BK336.out; have hnb8 := NB338_337.out; have hnc8 := NB337_338.out; obtain ⟨hcz9_0, hcz9_1, hcz9_2, hcz9_3, hfz9_0, hfz9_1, hfz9_2, hfz9_3⟩ := zd BK338.out; obtain ⟨hcz10_0, hcz10_1, hcz10_2, hcz10_3, hfz10_0, hfz10_1, hfz10_2, hfz10_3⟩ := zd BK337.out))
 refine bodyPost_ret (results_cell_row rfl _ _ gb337 25 #[.int .i64 a0_0, .int .i64 a0_1, .int .i64 a0_2, .string a0_3] (0, 0) _ rfl (by (with_reducible repeat (first | refine blk_drewN ?_ _ | refine blk_drew ?_ | refine blk_alloc ?_ _)); refine blk_put (cs := #[.int .i64 a0_0, .int .i64 a0_1, .int .i64 a0_2, .string (⟨#[]⟩ : ByteArray)]) ?_ 3 _ rfl; (with_reducible repeat (first | refine blk_drewN ?_ _ | refine blk_drew ?_ | refine blk_alloc ?_ _)); refine blk_put (cs := #[.int .i64 a0_0, .int .i64 a0_1, .int .i64 0, .string (⟨#[]⟩ : ByteArray)]) ?_ 2 _ rfl; (with_reducible repeat (first | refine blk_drewN ?_ _ | refine blk_drew ?_ | refine blk_alloc ?_ _)); refine blk_put (cs := #[.int .i64 a0_0, .int .i64 0, .int .i64 0, .string (⟨#[]⟩ : ByteArray)]) ?_ 1 _ rfl; (with_reducible repeat (first | refine blk_drewN ?_ _ | refine blk_drew ?_ | refine blk_alloc ?_ _)); refine blk_put (cs := #[.int .i64 0, .int .i64 0, .int .i64 0, .string (⟨#[]⟩ : ByteArray)]) ?_ 0 _ rfl; (with_reducible repeat (first | refine blk_drewN ?_ _ | refine blk_drew ?_ | refine blk_alloc ?_ _)); refine blk_far ?_ NB337_338.out _; (with_reducible repeat (first | refine blk_drewN ?_ _ | refine blk_drew ?_ | refine blk_alloc ?_ _)); refine blk_far ?_ NB337_338.out _; (with_reducible repeat (first | refine blk_drewN ?_ _ | refine blk_drew ?_ | refine blk_alloc ?_ _)); refine blk_far ?_ NB337_338.out _; (with_reducible repeat (first | refine blk_drewN ?_ _ | refine blk_drew ?_ | refine blk_alloc ?_ _)); refine blk_far ?_ NB337_338.out _; (with_reducible repeat (first | refine blk_drewN ?_ _ | refine blk_drew ?_ | refine blk_alloc ?_ _)); exact BK337.out) Tryz.underlying25 rfl zi) rfl ?_
 exact ⟨zr, by repeat (first | (with_reducible first | exact HB.out | apply below_alloc | apply pw_below_drewN | apply below_drew1 | refine below_set ?_ GE336.out | refine below_set ?_ GE337.out | refine below_set ?_ GE338.out) | exact HB.out)⟩
end Go.Proofs.YtgdknepphkhnlaaGreatDoor.X
