/- The law FnRead, as a plain statement: what is read of a drawn text as an entry is right, and has that text; what is read as a name has that name. Conditions: those of the row's reading alone. -/
/- Part 6 of 13 of this claim's texts. -/
import Derived.Test.YtgdknepphkhnlaaGreatDoorCFnRead1
import Derived.Test.YtgdknepphkhnlaaGreatDoorCFnRead4
namespace Go.Proofs.YtgdknepphkhnlaaGreatDoor.X
open Go.RowKit Go.Proofs.YtgdknepphkhnlaaGreatDoorW.PrintWords Go.Proofs.YtgdknepphkhnlaaGreatDoorW.PrintLast Go.Proofs.YtgdknepphkhnlaaGreatDoorW.PrintMore
attribute [local go_sem] max2_int min2_int max_two min_two max_three min_three max_four min_four
set_option linter.unusedVariables false
set_option linter.unusedSimpArgs false
def spec_l3Text.f : Nat → Int → Option (ByteArray)
 | 0, _ => none
 | k + 1, a0 => if a0 < 10 then (some (strOfNums (([(wrap64 (48 + a0)) % 256] : List Int)))) else ((spec_l3Text.f k (wrap64 (Int.tdiv a0 10))).bind fun t293 => ((some (([(wrap64 (48 + (Int.tmod a0 10))) % 256] : List Int) : List Int)).bind fun y294 => (if t293.size + (strOfNums y294).size ≤ 9223372036854775807 then (some (t293 ++ (strOfNums y294))) else (none))))
def spec_l3Text.T3 : Bool × List (List Nat × List Nat) := (true, [([], []), ([0], [0]), ([1], [1]), ([], []), ([3], [3]), ([4], [4]), ([5], [5]), ([6], [6]), ([7], [7]), ([2, 8], [2, 8]), ([9, 2, 0, 1, 2, 3, 4, 5, 6, 7, 8, 9], [9])])
def spec_l3Text.B3 : List Nat := [0, 1, 3, 0, 8, 24, 56, 120, 248, 511, 1023]
theorem spec_l3Text.tab3 : rtab .any (opsOf Tryz.f106 3) = spec_l3Text.T3 := by kernel_rfl
theorem spec_l3Text.bits3 : waitsOk spec_l3Text.T3.2 spec_l3Text.B3 = true := by kernel_rfl
set_option maxHeartbeats 8000000 in
set_option maxRecDepth 100000 in
theorem spec_l3Text.calls (k : Nat) : ∀ (a0 : Int) (r : ByteArray) (w : World) (h : spec_l3Text.f k a0 = some r),
  Calls Tryz.prog 106 #[.int .i64 a0] w fun e w' => e = .returned (.string r) ∧ Below w.heap.size w w' := by
 induction k using Nat.strongRecOn with
 | _ k ih =>
 intro a0 r w h
 cases k with
 | zero => exact absurd h (by simp [spec_l3Text.f])
 | succ k =>
 simp only [spec_l3Text.f] at h
 have HB := zn (Below.refl w.heap.size w)
 have H : (if a0 < 10 then (some (strOfNums (([(wrap64 (48 + a0)) % 256] : List Int)))) else ((spec_l3Text.f k (wrap64 (Int.tdiv a0 10))).bind fun t293 => ((some (([(wrap64 (48 + (Int.tmod a0 10))) % 256] : List Int) : List Int)).bind fun y294 => (if t293.size + (strOfNums y294).size ≤ 9223372036854775807 then (some (t293 ++ (strOfNums y294))) else (none))))) = some r := h
 clear h
 by_cases c2 : a0 < 10
 ·rw [if_pos c2] at H
  have c2b0 := decide_eq_true c2
  clear c2
  obtain ⟨y290, hy290⟩ : ∃ y_ : List Int, y_ = (([(wrap64 (48 + a0)) % 256] : List Int)) := ⟨_, rfl⟩
  replace H : (some (strOfNums y290)) = some r := by first | (rw [hy290]; with_reducible exact H) | (have H2_ := (Option.bind_some _ _).symm.trans H; rw [hy290]; with_reducible exact H2_) | (have H2_ := (Option.bind_some _ _).symm.trans H; with_reducible exact H2_) | with_reducible exact H | (rw [hy290]; exact H) | exact H
  have Ny290 := zn hy290
  clear hy290
  obtain rfl := Option.some.inj H
  go_enter Tryz.func106, Tryz.ntmps106
  go_wp2_with (first | ((with_reducible refine zr 8 rfl ?_); refine Kd.R_lit (Kd.int .u8) _ 5 ?hg (N := 8) ?hd (xs := ([(wrap64 (48 + a0)) % 256] : List Int)) (inner := [.int .u8 ((wrap64 (48 + a0)) % 256)]) (ok := fun _ => True) (okp := fun _ => True) ?hr ?hp (fun _ hk => hk) trivial (Below.refl _ _) (Nat.le_refl _) (by simp) ?_; (case hd => exact z2b); (case hg => exact z2b); (case hr => exact z3t); (case hp => exact (Reps.one (show Kd.M (Kd.int .u8) _ _ _ ((wrap64 (48 + a0)) % 256) [.int .u8 ((wrap64 (48 + a0)) % 256)] from rfl) (Reps.none _ _))); intro v291 w3 ho4 hb hg_ hnew_; clear hg_ hnew_; (first | rw [← Ny290.out] at ho4 | (simp only [Int.reduceToNat] at ho4; rw [← Ny290.out] at ho4)); have n_ := zo (Kd.R_lower ho4 (below_size z1r)) (below_step z1r hb); clear HB; obtain ⟨HO292, HB⟩ := n_; clear hb ho4; have hcv5 := own_string (P := Tryz.prog) Tryz.underlying22 Tryz.underlying5 Tryz.underlying9 (Kd.own_of_R HO292.out)))
  go_ret
  exact ⟨z1t, z1r⟩
 ·rw [if_neg c2] at H
  have c2b0 := decide_eq_false c2
  clear c2
  obtain ⟨t293, A6, H⟩ := zm H
  try dsimp only at H
  obtain ⟨y294, hy294⟩ : ∃ y_ : List Int, y_ = (([(wrap64 (48 + (Int.tmod a0 10))) % 256] : List Int)) := ⟨_, rfl⟩
  replace H : (if t293.size + (strOfNums y294).size ≤ 9223372036854775807 then (some (t293 ++ (strOfNums y294))) else (none)) = some r := by first | (rw [hy294]; with_reducible exact H) | (have H2_ := (Option.bind_some _ _).symm.trans H; rw [hy294]; with_reducible exact H2_) | (have H2_ := (Option.bind_some _ _).symm.trans H; with_reducible exact H2_) | with_reducible exact H | (rw [hy294]; exact H) | exact H
  have Ny294 := zn hy294
  clear hy294
  by_cases c7 : t293.size + (strOfNums y294).size ≤ 9223372036854775807
  ·rw [if_pos c7] at H
   have c7b0 := eq_true c7
   have c7b1 := decide_eq_true c7
   try have c7b2 : (9223372036854775807 < t293.size + (strOfNums y294).size) = False := eq_false (Nat.not_lt.2 c7)
   obtain rfl := Option.some.inj H
   go_enter Tryz.func106, Tryz.ntmps106
   try go_wp2
   replace HB := zn (below_drew1 HB.out)
   refine start_ (n := 11) (S := fun w' => True) (ds := []) #[z9d, z9d, z9d, z9d, z9d, z9d, z9d, z9d, z9d, z9d, z9d] z1m rfl rfl trivial (fun hHeld => ?_); refine with_tabW spec_l3Text.tab3 spec_l3Text.bits3 (fun HT_ HW_ => ?_)
   generalize w.drew = w8 at HB hHeld ⊢
   refine zw 0 (some 10) #[z9c, z9d, z9d, z9d, z9d, z9d, z9d, z9d, z9d, z9d, z9d] rfl rfl ?_
   refine zw 1 (some 11) #[z9c, z9c, z9d, z9d, z9d, z9d, z9d, z9d, z9d, z9d, z9d] rfl rfl ?_
   refine zw 3 (some 13) #[z9c, z9c, z9d, z9c, z9d, z9d, z9d, z9d, z9d, z9d, z9d] rfl rfl ?_
   refine zw 4 (some 14) #[z9c, z9c, z9d, z9c, z9c, z9d, z9d, z9d, z9d, z9d, z9d] rfl rfl ?_
   refine zw 5 (some 15) #[z9c, z9c, z9d, z9c, z9c, z9c, z9d, z9d, z9d, z9d, z9d] rfl rfl ?_
   refine zw 6 (some 16) #[z9c, z9c, z9d, z9c, z9c, z9c, z9c, z9d, z9d, z9d, z9d] rfl rfl ?_
   refine join_ (σ := Value) 2 #[z9c, z9c, z9c, z9c, z9c, z9c, z9c, z9c, z9c, z9d, z9d] (fun s_ => [(12, .string t293), (17, s_), (18, .string (strOfNums y294))]) (fun s_ w' => (Kd.R (Kd.int .u8) 5 w' w.heap.size (fun _ => True) s_ y294) ∧ (Below w.heap.size w w')) ?_ ?_
   rotate_left
   ·intro hCont
    refine two_ (i := 2) (j := 7) (Ni := some 12) (Nj := some 17) #[z9c, z9c, z9c, z9c, z9c, z9c, z9c, z9d, z9d, z9d, z9d] #[z9c, z9c, z9d, z9c, z9c, z9c, z9c, z9c, z9d, z9d, z9d] rfl rfl rfl rfl (two_of HT_.out z1m) z1l z1l (fun K hK => ?_) (fun K hK => ?_)
    ·skip
     refine goes_ Tryz.func106 z1m rfl #[.int .i64 (wrap64 (Int.tdiv a0 10))] z2b rfl rfl z2d ?_
     with_reducible refine (ih k z1k (wrap64 (Int.tdiv a0 10)) t293 _ A6.out).mono ?_
     rintro e w9 ⟨rfl, hb⟩
     refine ⟨_, rfl, ?_⟩
     replace HB := zn (below_step z1r hb)
     (try clear hb)
     (try clear hb2)
     (try clear hk)
     (try clear hi)
     refine hK.out _ _ trivial (fun hHeld => ?_)
     clear hK K
     refine zy (some 12) rfl ?_
     refine one_ (i := 7) (N := some 17) #[z9c, z9c, z9c, z9c, z9c, z9c, z9c, z9c, z9d, z9d, z9d] rfl rfl (one_of HT_.out z1m) z1l (fun K hK => ?_)
     refine Kd.R_lit_step (Kd.int .u8) _ 5 ?hg (N := 17) ?hd (xs := ([(wrap64 (48 + (Int.tmod a0 10))) % 256] : List Int)) (inner := [.int .u8 ((wrap64 (48 + (Int.tmod a0 10))) % 256)]) (ok := fun _ => True) (okp := fun _ => True) ?hr ?hp (fun _ hk => hk) trivial (Below.refl _ _) (Nat.le_refl _) (by simp) ?_; (case hd => exact z2b); (case hg => exact z2b); (case hr => exact z3t); (case hp => exact (Reps.one (show Kd.M (Kd.int .u8) _ _ _ ((wrap64 (48 + (Int.tmod a0 10))) % 256) [.int .u8 ((wrap64 (48 + (Int.tmod a0 10))) % 256)] from rfl) (Reps.none _ _)))
     intro v295 w10 ho11 hb hg_ hnew_
     clear hg_ hnew_
     (first | rw [← Ny294.out] at ho11 | (simp only [Int.reduceToNat] at ho11; rw [← Ny294.out] at ho11))
     have n_ := zo (Kd.R_lower ho11 (below_size z1r)) (below_step z1r hb)
     clear HB
     obtain ⟨HO296, HB⟩ := n_
     clear hb ho11
     refine hK.out _ _ trivial (fun hHeld => ?_)
     clear hK K
     refine zy (some 17) rfl ?_
     refine one_ (i := 8) (N := some 18) #[z9c, z9c, z9c, z9c, z9c, z9c, z9c, z9c, z9c, z9d, z9d] rfl rfl (one_of HT_.out z1m) z1l (fun K hK => ?_)
     have hcv12 := own_string (P := Tryz.prog) Tryz.underlying22 Tryz.underlying5 Tryz.underlying9 (Kd.own_of_R HO296.out)
     refine value_ (w1 := ?_) (v := ?_) z2b rfl ?_ ?_
     rotate_left 2
     ·go_simp
      constructor
      ·rfl
      ·rfl
     clear hcv12
     refine hK.out _ _ trivial (fun hHeld => ?_)
     clear hK K
     refine zy (some 18) rfl ?_
     exact norm_ z4a (hCont (v295) _ ⟨z4b, z1r⟩)
    ·skip
     refine Kd.R_lit_step (Kd.int .u8) _ 5 ?hg (N := 17) ?hd (xs := ([(wrap64 (48 + (Int.tmod a0 10))) % 256] : List Int)) (inner := [.int .u8 ((wrap64 (48 + (Int.tmod a0 10))) % 256)]) (ok := fun _ => True) (okp := fun _ => True) ?hr ?hp (fun _ hk => hk) trivial (Below.refl _ _) (Nat.le_refl _) (by simp) ?_; (case hd => exact z2b); (case hg => exact z2b); (case hr => exact z3t); (case hp => exact (Reps.one (show Kd.M (Kd.int .u8) _ _ _ ((wrap64 (48 + (Int.tmod a0 10))) % 256) [.int .u8 ((wrap64 (48 + (Int.tmod a0 10))) % 256)] from rfl) (Reps.none _ _)))
     intro v295 w9 ho10 hb hg_ hnew_
     clear hg_ hnew_
     (first | rw [← Ny294.out] at ho10 | (simp only [Int.reduceToNat] at ho10; rw [← Ny294.out] at ho10))
     have n_ := zo (Kd.R_lower ho10 (below_size z1r)) (below_step z1r hb)
     clear HB
     obtain ⟨HO296, HB⟩ := n_
     clear hb ho10
     refine hK.out _ _ trivial (fun hHeld => ?_)
     clear hK K
     refine zy (some 17) rfl ?_
     refine two_ (i := 2) (j := 8) (Ni := some 12) (Nj := some 18) #[z9c, z9c, z9c, z9c, z9c, z9c, z9c, z9c, z9d, z9d, z9d] #[z9c, z9c, z9d, z9c, z9c, z9c, z9c, z9c, z9c, z9d, z9d] rfl rfl rfl rfl (two_of HT_.out z1m) z1l z1l (fun K hK => ?_) (fun K hK => ?_)
     ·skip
      refine goes_ Tryz.func106 z1m rfl #[.int .i64 (wrap64 (Int.tdiv a0 10))] z2b rfl rfl z2d ?_
      with_reducible refine (ih k z1k (wrap64 (Int.tdiv a0 10)) t293 _ A6.out).mono ?_
      rintro e w11 ⟨rfl, hb⟩
      refine ⟨_, rfl, ?_⟩
      have n_ := zo (Kd.R_below z4b hb) (below_step z1r hb)
      clear HO296 HB
      obtain ⟨HO296, HB⟩ := n_
      (try clear hb)
      (try clear hb2)
      (try clear hk)
      (try clear hi)
      refine hK.out _ _ trivial (fun hHeld => ?_)
      clear hK K
      refine zy (some 12) rfl ?_
      refine one_ (i := 8) (N := some 18) #[z9c, z9c, z9c, z9c, z9c, z9c, z9c, z9c, z9c, z9d, z9d] rfl rfl (one_of HT_.out z1m) z1l (fun K hK => ?_)
      have hcv12 := own_string (P := Tryz.prog) Tryz.underlying22 Tryz.underlying5 Tryz.underlying9 (Kd.own_of_R HO296.out)
      refine value_ (w1 := ?_) (v := ?_) z2b rfl ?_ ?_
      rotate_left 2
      ·go_simp
       constructor
       ·rfl
       ·rfl
      clear hcv12
      refine hK.out _ _ trivial (fun hHeld => ?_)
      clear hK K
      refine zy (some 18) rfl ?_
      exact norm_ z4a (hCont (v295) _ ⟨z4b, z1r⟩)
     ·skip
      have hcv11 := own_string (P := Tryz.prog) Tryz.underlying22 Tryz.underlying5 Tryz.underlying9 (Kd.own_of_R HO296.out)
      refine value_ (w1 := ?_) (v := ?_) z2b rfl ?_ ?_
      rotate_left 2
      ·go_simp
       constructor
       ·rfl
       ·rfl
      clear hcv11
      refine hK.out _ _ trivial (fun hHeld => ?_)
      clear hK K
      refine zy (some 18) rfl ?_
      refine one_ (i := 2) (N := some 12) #[z9c, z9c, z9c, z9c, z9c, z9c, z9c, z9c, z9c, z9d, z9d] rfl rfl (one_of HT_.out z1m) z1l (fun K hK => ?_)
      refine goes_ Tryz.func106 z1m rfl #[.int .i64 (wrap64 (Int.tdiv a0 10))] z2b rfl rfl z2d ?_
      with_reducible refine (ih k z1k (wrap64 (Int.tdiv a0 10)) t293 _ A6.out).mono ?_
      rintro e w12 ⟨rfl, hb⟩
      refine ⟨_, rfl, ?_⟩
      have n_ := zo (Kd.R_below z4b hb) (below_step z1r hb)
      clear HO296 HB
      obtain ⟨HO296, HB⟩ := n_
      (try clear hb)
      (try clear hb2)
      (try clear hk)
      (try clear hi)
      refine hK.out _ _ trivial (fun hHeld => ?_)
      clear hK K
      refine zy (some 12) rfl ?_
      exact norm_ z4a (hCont (v295) _ ⟨z4b, z1r⟩)
   rintro v295 w13 ⟨h0_, h1_⟩
   have n0_ : Aside0 (Kd.R (Kd.int .u8) 5 w13 w.heap.size (fun _ => True) v295 y294) := ⟨h0_⟩
   have n1_ : Aside0 (Below w.heap.size w w13) := ⟨h1_⟩
   clear HB
   clear h0_ h1_
   have HO296 := n0_
   have HB := n1_
   clear n0_ n1_
   have hHeld := trivial
   refine norm_ (a' := ?_) ?_ ?_
   rotate_left
   ·simp only [putAll, Act.put, z9e, z9f, z9g]
    rfl
   refine zw 9 (some 19) #[z9c, z9c, z9c, z9c, z9c, z9c, z9c, z9c, z9c, z9c, z9d] rfl rfl ?_
   refine zw 10 (some 2) #[z9c, z9c, z9c, z9c, z9c, z9c, z9c, z9c, z9c, z9c, z9c] rfl rfl ?_
   refine done_ (done_of HT_.out z1m) ?_
   try go_wp2
   go_ret
   exact ⟨z1t, z1r⟩
  ·rw [if_neg c7] at H
   exact absurd H (by simp)
def spec_VersionText.f (k : Nat) (a0_0 : Int) (a0_1 : Int) (a0_2 : Int) (a0_3 : ByteArray) : Option (ByteArray) := (spec_VersionOk.f k a0_0 a0_1 a0_2 a0_3).bind fun t298 => (if t298 = true then ((spec_l3Text.f k a0_0).bind fun t299 => (if 1 + t299.size ≤ 9223372036854775807 then (if ((⟨#[118]⟩ : ByteArray) ++ t299).size + 1 ≤ 9223372036854775807 then ((spec_l3Text.f k a0_1).bind fun t300 => (if (((⟨#[118]⟩ : ByteArray) ++ t299) ++ (⟨#[46]⟩ : ByteArray)).size + t300.size ≤ 9223372036854775807 then (if ((((⟨#[118]⟩ : ByteArray) ++ t299) ++ (⟨#[46]⟩ : ByteArray)) ++ t300).size + 1 ≤ 9223372036854775807 then ((spec_l3Text.f k a0_2).bind fun t301 => (if (((((⟨#[118]⟩ : ByteArray) ++ t299) ++ (⟨#[46]⟩ : ByteArray)) ++ t300) ++ (⟨#[46]⟩ : ByteArray)).size + t301.size ≤ 9223372036854775807 then (if a0_3.toList = ([] : List UInt8) then (some ((((((⟨#[118]⟩ : ByteArray) ++ t299) ++ (⟨#[46]⟩ : ByteArray)) ++ t300) ++ (⟨#[46]⟩ : ByteArray)) ++ t301)) else (if ((((((⟨#[118]⟩ : ByteArray) ++ t299) ++ (⟨#[46]⟩ : ByteArray)) ++ t300) ++ (⟨#[46]⟩ : ByteArray)) ++ t301).size + 1 ≤ 9223372036854775807 then (if (((((((⟨#[118]⟩ : ByteArray) ++ t299) ++ (⟨#[46]⟩ : ByteArray)) ++ t300) ++ (⟨#[46]⟩ : ByteArray)) ++ t301) ++ (⟨#[45]⟩ : ByteArray)).size + a0_3.size ≤ 9223372036854775807 then (some ((((((((⟨#[118]⟩ : ByteArray) ++ t299) ++ (⟨#[46]⟩ : ByteArray)) ++ t300) ++ (⟨#[46]⟩ : ByteArray)) ++ t301) ++ (⟨#[45]⟩ : ByteArray)) ++ a0_3)) else (none)) else (none))) else (none))) else (none)) else (none))) else (none)) else (none))) else (some (⟨#[]⟩ : ByteArray)))
def spec_VersionText.T3 : Bool × List (List Nat × List Nat) := (true, [([], []), ([0], [0]), ([1], [1]), ([2], [2]), ([3], [3]), ([], []), ([5], [5]), ([6, 2], [6]), ([4, 7], [4, 7]), ([8], [8]), ([], []), ([10], [10]), ([11, 7], [11]), ([9, 12], [9, 12]), ([13, 12, 0, 1, 2, 3, 4, 5, 6, 7, 8, 9, 10, 11, 12, 13], [13])])
def spec_VersionText.B3 : List Nat := [0, 1, 3, 7, 15, 0, 32, 103, 255, 511, 0, 1024, 3303, 8191, 16383]
theorem spec_VersionText.tab3 : rtab .any (opsOf Tryz.f86 3) = spec_VersionText.T3 := by kernel_rfl
theorem spec_VersionText.bits3 : waitsOk spec_VersionText.T3.2 spec_VersionText.B3 = true := by kernel_rfl
set_option maxHeartbeats 8000000 in
set_option maxRecDepth 100000 in
theorem spec_VersionText.calls (k : Nat) (a0_0 : Int) (a0_1 : Int) (a0_2 : Int) (a0_3 : ByteArray) (r : ByteArray) (w : World) (h : spec_VersionText.f k a0_0 a0_1 a0_2 a0_3 = some r) :
  Calls Tryz.prog 86 #[.agg #[.int .i64 a0_0, .int .i64 a0_1, .int .i64 a0_2, .string a0_3]] w fun e w' => e = .returned (.string r) ∧ Below w.heap.size w w' := by
 have hu25 := Tryz.underlying25
 have HB := zn (Below.refl w.heap.size w)
 have H := h
 unfold spec_VersionText.f at H
 clear h
 obtain ⟨t298, A2, H⟩ := zm H
 try dsimp only at H
 by_cases c3 : t298 = true
 ·subst c3
  rw [if_pos rfl] at H
  obtain ⟨t299, A4, H⟩ := zm H
  try dsimp only at H
  by_cases c5 : 1 + t299.size ≤ 9223372036854775807
  ·rw [if_pos c5] at H
   have c5b0 := eq_true c5
   have c5b1 := decide_eq_true c5
   try have c5b2 : (9223372036854775807 < 1 + t299.size) = False := eq_false (Nat.not_lt.2 c5)
   by_cases c6 : ((⟨#[118]⟩ : ByteArray) ++ t299).size + 1 ≤ 9223372036854775807
   ·rw [if_pos c6] at H
    have c6s0 : (9223372036854775807 < 1 + t299.size + 1) = False := eq_false (Nat.not_lt.2 (by have h_ := c6; simp only [ByteArray.size_append] at h_; exact h_))
    have c6b0 := eq_true c6
    have c6b1 := decide_eq_true c6
    try have c6b2 : (9223372036854775807 < ((⟨#[118]⟩ : ByteArray) ++ t299).size + 1) = False := eq_false (Nat.not_lt.2 c6)
    obtain ⟨t300, A7, H⟩ := zm H
    try dsimp only at H
    by_cases c8 : (((⟨#[118]⟩ : ByteArray) ++ t299) ++ (⟨#[46]⟩ : ByteArray)).size + t300.size ≤ 9223372036854775807
    ·rw [if_pos c8] at H
     have c8s0 : (9223372036854775807 < 1 + t299.size + 1 + t300.size) = False := eq_false (Nat.not_lt.2 (by have h_ := c8; simp only [ByteArray.size_append] at h_; exact h_))
     have c8b0 := eq_true c8
     have c8b1 := decide_eq_true c8
     try have c8b2 : (9223372036854775807 < (((⟨#[118]⟩ : ByteArray) ++ t299) ++ (⟨#[46]⟩ : ByteArray)).size + t300.size) = False := eq_false (Nat.not_lt.2 c8)
     by_cases c9 : ((((⟨#[118]⟩ : ByteArray) ++ t299) ++ (⟨#[46]⟩ : ByteArray)) ++ t300).size + 1 ≤ 9223372036854775807
     ·rw [if_pos c9] at H
      have c9s0 : (9223372036854775807 < 1 + t299.size + 1 + t300.size + 1) = False := eq_false (Nat.not_lt.2 (by have h_ := c9; simp only [ByteArray.size_append] at h_; exact h_))
      have c9b0 := eq_true c9
      have c9b1 := decide_eq_true c9
      try have c9b2 : (9223372036854775807 < ((((⟨#[118]⟩ : ByteArray) ++ t299) ++ (⟨#[46]⟩ : ByteArray)) ++ t300).size + 1) = False := eq_false (Nat.not_lt.2 c9)
      obtain ⟨t301, A10, H⟩ := zm H
      try dsimp only at H
      by_cases c11 : (((((⟨#[118]⟩ : ByteArray) ++ t299) ++ (⟨#[46]⟩ : ByteArray)) ++ t300) ++ (⟨#[46]⟩ : ByteArray)).size + t301.size ≤ 9223372036854775807
      ·rw [if_pos c11] at H
       have c11s0 : (9223372036854775807 < 1 + t299.size + 1 + t300.size + 1 + t301.size) = False := eq_false (Nat.not_lt.2 (by have h_ := c11; simp only [ByteArray.size_append] at h_; exact h_))
       have c11b0 := eq_true c11
       have c11b1 := decide_eq_true c11
       try have c11b2 : (9223372036854775807 < (((((⟨#[118]⟩ : ByteArray) ++ t299) ++ (⟨#[46]⟩ : ByteArray)) ++ t300) ++ (⟨#[46]⟩ : ByteArray)).size + t301.size) = False := eq_false (Nat.not_lt.2 c11)
       by_cases c12 : a0_3.toList = ([] : List UInt8)
       ·rw [if_pos c12] at H
        have c12b0 := beq_iff_eq.mpr c12
        have c12b1 := bne_eq_false_iff_eq.mpr c12
        clear c12
        obtain rfl := Option.some.inj H
        go_enter Tryz.func86, Tryz.ntmps86
        try go_wp2_with (first | ((with_reducible refine zr 1 rfl ?_); refine zt 25 #[.int .i64 a0_0, .int .i64 a0_1, .int .i64 a0_2, .string a0_3] ?_; intro gb297 hg w13 hbox hb; have n_ := zv (below_step z1r hb) hbox (z8j : w.heap.size ≤ gb297) (z8j : w.heap.size ≤ gb297); clear HB; obtain ⟨HB, BK297, GW297, GE297⟩ := n_; clear hb hbox hg; obtain ⟨hcz14_0, hcz14_1, hcz14_2, hcz14_3, hfz14_0, hfz14_1, hfz14_2, hfz14_3⟩ := zf BK297.out) | ((with_reducible refine zi 68 rfl ?_); refine zj (some 5) Tryz.func68 #[.agg #[.int .i64 a0_0, .int .i64 a0_1, .int .i64 a0_2, .string a0_3]] rfl ?_; (with_reducible refine (spec_VersionOk.calls k a0_0 a0_1 a0_2 a0_3 true _ A2.out).mono ?_); rintro e w15 ⟨rfl, hb⟩; refine ⟨_, rfl, ?_⟩; have n_ := zo (blk_below (zu BK297.out) hb) (below_step z4c hb); clear BK297 HB; obtain ⟨BK297, HB⟩ := n_; (try clear hb)))
        have n_ := zo (blk_drew BK297.out) (below_drew1 HB.out)
        clear BK297 HB
        obtain ⟨BK297, HB⟩ := n_
        refine start_ (n := 15) (S := fun w' => w'.cell? ⟨gb297, 0, none⟩ = some (.int .i64 a0_0) ∧ w'.cell? ⟨gb297, 1, none⟩ = some (.int .i64 a0_1) ∧ w'.cell? ⟨gb297, 2, none⟩ = some (.int .i64 a0_2) ∧ w'.cell? ⟨gb297, 3, none⟩ = some (.string a0_3)) (ds := []) #[z9d, z9d, z9d, z9d, z9d, z9d, z9d, z9d, z9d, z9d, z9d, z9d, z9d, z9d, z9d] z1m rfl rfl ⟨(blk_cell BK297.out 0).trans rfl, (blk_cell BK297.out 1).trans rfl, (blk_cell BK297.out 2).trans rfl, (blk_cell BK297.out 3).trans rfl⟩ (fun hHeld => ?_); refine with_tabW spec_VersionText.tab3 spec_VersionText.bits3 (fun HT_ HW_ => ?_)
        generalize w15.drew = w16 at BK297 HB hHeld ⊢
        refine zw 0 (some 7) #[z9c, z9d, z9d, z9d, z9d, z9d, z9d, z9d, z9d, z9d, z9d, z9d, z9d, z9d, z9d] rfl rfl ?_
        refine zw 5 (some 12) #[z9c, z9d, z9d, z9d, z9d, z9c, z9d, z9d, z9d, z9d, z9d, z9d, z9d, z9d, z9d] rfl rfl ?_
        refine zw 10 (some 17) #[z9c, z9d, z9d, z9d, z9d, z9c, z9d, z9d, z9d, z9d, z9c, z9d, z9d, z9d, z9d] rfl rfl ?_
        refine zx 1 (some 8) #[z9c, z9c, z9d, z9d, z9d, z9c, z9d, z9d, z9d, z9d, z9c, z9d, z9d, z9d, z9d] rfl rfl (Or.inl ⟨z2b, z2i⟩) hHeld ?_
        refine zx 6 (some 13) #[z9c, z9c, z9d, z9d, z9d, z9c, z9c, z9d, z9d, z9d, z9c, z9d, z9d, z9d, z9d] rfl rfl (Or.inl ⟨z2b, z2i⟩) hHeld ?_
        refine zx 11 (some 18) #[z9c, z9c, z9d, z9d, z9d, z9c, z9c, z9d, z9d, z9d, z9c, z9c, z9d, z9d, z9d] rfl rfl (Or.inl ⟨z2b, z2i⟩) hHeld ?_
        refine one_ (i := 2) (N := some 9) #[z9c, z9c, z9c, z9d, z9d, z9c, z9c, z9d, z9d, z9d, z9c, z9c, z9d, z9d, z9d] rfl rfl (one_of HT_.out z1m) z1l (fun K hK => ?_)
        refine goes_ Tryz.func106 z1m rfl #[.int .i64 a0_0] z2b rfl rfl z2d ?_
        with_reducible refine (spec_l3Text.calls k a0_0 t299 _ A4.out).mono ?_
        rintro e w17 ⟨rfl, hb⟩
        refine ⟨_, rfl, ?_⟩
        have n_ := zo (blk_below (zu BK297.out) hb) (below_step z4c hb)
        clear BK297 HB
        obtain ⟨BK297, HB⟩ := n_
        (try clear hb)
        (try clear hb2)
        (try clear hk)
        (try clear hi)
        refine hK.out _ _ ⟨(blk_cell BK297.out 0).trans rfl, (blk_cell BK297.out 1).trans rfl, (blk_cell BK297.out 2).trans rfl, (blk_cell BK297.out 3).trans rfl⟩ (fun hHeld => ?_)
        clear hK K
        refine zy (some 9) rfl ?_
        refine zw 3 (some 10) #[z9c, z9c, z9c, z9c, z9d, z9c, z9c, z9d, z9d, z9d, z9c, z9c, z9d, z9d, z9d] rfl rfl ?_
        refine zw 4 (some 11) #[z9c, z9c, z9c, z9c, z9c, z9c, z9c, z9d, z9d, z9d, z9c, z9c, z9d, z9d, z9d] rfl rfl ?_
        refine one_ (i := 7) (N := some 14) #[z9c, z9c, z9c, z9c, z9c, z9c, z9c, z9c, z9d, z9d, z9c, z9c, z9d, z9d, z9d] rfl rfl (one_of HT_.out z1m) z1l (fun K hK => ?_)
        refine goes_ Tryz.func106 z1m rfl #[.int .i64 a0_1] z2b rfl rfl z2d ?_
        with_reducible refine (spec_l3Text.calls k a0_1 t300 _ A7.out).mono ?_
        rintro e w18 ⟨rfl, hb⟩
        refine ⟨_, rfl, ?_⟩
        have n_ := zo (blk_below (zu BK297.out) hb) (below_step z4c hb)
        clear BK297 HB
        obtain ⟨BK297, HB⟩ := n_
        (try clear hb)
        (try clear hb2)
        (try clear hk)
        (try clear hi)
        refine hK.out _ _ ⟨(blk_cell BK297.out 0).trans rfl, (blk_cell BK297.out 1).trans rfl, (blk_cell BK297.out 2).trans rfl, (blk_cell BK297.out 3).trans rfl⟩ (fun hHeld => ?_)
        clear hK K
        refine zy (some 14) rfl ?_
        refine zw 8 (some 15) #[z9c, z9c, z9c, z9c, z9c, z9c, z9c, z9c, z9c, z9d, z9c, z9c, z9d, z9d, z9d] rfl rfl ?_
        refine zw 9 (some 16) #[z9c, z9c, z9c, z9c, z9c, z9c, z9c, z9c, z9c, z9c, z9c, z9c, z9d, z9d, z9d] rfl rfl ?_
        refine one_ (i := 12) (N := some 19) #[z9c, z9c, z9c, z9c, z9c, z9c, z9c, z9c, z9c, z9c, z9c, z9c, z9c, z9d, z9d] rfl rfl (one_of HT_.out z1m) z1l (fun K hK => ?_)
        refine goes_ Tryz.func106 z1m rfl #[.int .i64 a0_2] z2b rfl rfl z2d ?_
        with_reducible refine (spec_l3Text.calls k a0_2 t301 _ A10.out).mono ?_
        rintro e w19 ⟨rfl, hb⟩
        refine ⟨_, rfl, ?_⟩
        have n_ := zo (blk_below (zu BK297.out) hb) (below_step z4c hb)
        clear BK297 HB
        obtain ⟨BK297, HB⟩ := n_
        (try clear hb)
        (try clear hb2)
        (try clear hk)
        (try clear hi)
        refine hK.out _ _ ⟨(blk_cell BK297.out 0).trans rfl, (blk_cell BK297.out 1).trans rfl, (blk_cell BK297.out 2).trans rfl, (blk_cell BK297.out 3).trans rfl⟩ (fun hHeld => ?_)
        clear hK K
        refine zy (some 19) rfl ?_
        refine zw 13 (some 20) #[z9c, z9c, z9c, z9c, z9c, z9c, z9c, z9c, z9c, z9c, z9c, z9c, z9c, z9c, z9d] rfl rfl ?_
        refine zw 14 (some 3) #[z9c, z9c, z9c, z9c, z9c, z9c, z9c, z9c, z9c, z9c, z9c, z9c, z9c, z9c, z9c] rfl rfl ?_
        refine done_ (done_of HT_.out z1m) ?_
        obtain ⟨hcz20_0, hcz20_1, hcz20_2, hcz20_3, hfz20_0, hfz20_1, hfz20_2, hfz20_3⟩ := zf BK297.out
        try go_wp2
        go_ret
        exact ⟨z1t, z4c⟩
       ·rw [if_neg c12] at H
        have c12b0 := beq_eq_false_iff_ne.mpr c12
        have c12b1 := bne_iff_ne.mpr c12
        by_cases c21 : ((((((⟨#[118]⟩ : ByteArray) ++ t299) ++ (⟨#[46]⟩ : ByteArray)) ++ t300) ++ (⟨#[46]⟩ : ByteArray)) ++ t301).size + 1 ≤ 9223372036854775807
        ·rw [if_pos c21] at H
         have c21s0 : (9223372036854775807 < 1 + t299.size + 1 + t300.size + 1 + t301.size + 1) = False := eq_false (Nat.not_lt.2 (by have h_ := c21; simp only [ByteArray.size_append] at h_; exact h_))
         have c21b0 := eq_true c21
         have c21b1 := decide_eq_true c21
         try have c21b2 : (9223372036854775807 < ((((((⟨#[118]⟩ : ByteArray) ++ t299) ++ (⟨#[46]⟩ : ByteArray)) ++ t300) ++ (⟨#[46]⟩ : ByteArray)) ++ t301).size + 1) = False := eq_false (Nat.not_lt.2 c21)
         by_cases c22 : (((((((⟨#[118]⟩ : ByteArray) ++ t299) ++ (⟨#[46]⟩ : ByteArray)) ++ t300) ++ (⟨#[46]⟩ : ByteArray)) ++ t301) ++ (⟨#[45]⟩ : ByteArray)).size + a0_3.size ≤ 9223372036854775807
         ·rw [if_pos c22] at H
          have c22s0 : (9223372036854775807 < 1 + t299.size + 1 + t300.size + 1 + t301.size + 1 + a0_3.size) = False := eq_false (Nat.not_lt.2 (by have h_ := c22; simp only [ByteArray.size_append] at h_; exact h_))
          have c22b0 := eq_true c22
          have c22b1 := decide_eq_true c22
          try have c22b2 : (9223372036854775807 < (((((((⟨#[118]⟩ : ByteArray) ++ t299) ++ (⟨#[46]⟩ : ByteArray)) ++ t300) ++ (⟨#[46]⟩ : ByteArray)) ++ t301) ++ (⟨#[45]⟩ : ByteArray)).size + a0_3.size) = False := eq_false (Nat.not_lt.2 c22)
          obtain rfl := Option.some.inj H
          go_enter Tryz.func86, Tryz.ntmps86
          try go_wp2_with (first | ((with_reducible refine zr 1 rfl ?_); refine zt 25 #[.int .i64 a0_0, .int .i64 a0_1, .int .i64 a0_2, .string a0_3] ?_; intro gb297 hg w23 hbox hb; have n_ := zv (below_step z1r hb) hbox (z8j : w.heap.size ≤ gb297) (z8j : w.heap.size ≤ gb297); clear HB; obtain ⟨HB, BK297, GW297, GE297⟩ := n_; clear hb hbox hg; obtain ⟨hcz24_0, hcz24_1, hcz24_2, hcz24_3, hfz24_0, hfz24_1, hfz24_2, hfz24_3⟩ := zf BK297.out) | ((with_reducible refine zi 68 rfl ?_); refine zj (some 5) Tryz.func68 #[.agg #[.int .i64 a0_0, .int .i64 a0_1, .int .i64 a0_2, .string a0_3]] rfl ?_; (with_reducible refine (spec_VersionOk.calls k a0_0 a0_1 a0_2 a0_3 true _ A2.out).mono ?_); rintro e w25 ⟨rfl, hb⟩; refine ⟨_, rfl, ?_⟩; have n_ := zo (blk_below (zu BK297.out) hb) (below_step z4c hb); clear BK297 HB; obtain ⟨BK297, HB⟩ := n_; (try clear hb)))
          have n_ := zo (blk_drew BK297.out) (below_drew1 HB.out)
          clear BK297 HB
          obtain ⟨BK297, HB⟩ := n_
          refine start_ (n := 15) (S := fun w' => w'.cell? ⟨gb297, 0, none⟩ = some (.int .i64 a0_0) ∧ w'.cell? ⟨gb297, 1, none⟩ = some (.int .i64 a0_1) ∧ w'.cell? ⟨gb297, 2, none⟩ = some (.int .i64 a0_2) ∧ w'.cell? ⟨gb297, 3, none⟩ = some (.string a0_3)) (ds := []) #[z9d, z9d, z9d, z9d, z9d, z9d, z9d, z9d, z9d, z9d, z9d, z9d, z9d, z9d, z9d] z1m rfl rfl ⟨(blk_cell BK297.out 0).trans rfl, (blk_cell BK297.out 1).trans rfl, (blk_cell BK297.out 2).trans rfl, (blk_cell BK297.out 3).trans rfl⟩ (fun hHeld => ?_); refine with_tabW spec_VersionText.tab3 spec_VersionText.bits3 (fun HT_ HW_ => ?_)
          generalize w25.drew = w26 at BK297 HB hHeld ⊢
          refine zw 0 (some 7) #[z9c, z9d, z9d, z9d, z9d, z9d, z9d, z9d, z9d, z9d, z9d, z9d, z9d, z9d, z9d] rfl rfl ?_
          refine zw 5 (some 12) #[z9c, z9d, z9d, z9d, z9d, z9c, z9d, z9d, z9d, z9d, z9d, z9d, z9d, z9d, z9d] rfl rfl ?_
          refine zw 10 (some 17) #[z9c, z9d, z9d, z9d, z9d, z9c, z9d, z9d, z9d, z9d, z9c, z9d, z9d, z9d, z9d] rfl rfl ?_
          refine zx 1 (some 8) #[z9c, z9c, z9d, z9d, z9d, z9c, z9d, z9d, z9d, z9d, z9c, z9d, z9d, z9d, z9d] rfl rfl (Or.inl ⟨z2b, z2i⟩) hHeld ?_
          refine zx 6 (some 13) #[z9c, z9c, z9d, z9d, z9d, z9c, z9c, z9d, z9d, z9d, z9c, z9d, z9d, z9d, z9d] rfl rfl (Or.inl ⟨z2b, z2i⟩) hHeld ?_
          refine zx 11 (some 18) #[z9c, z9c, z9d, z9d, z9d, z9c, z9c, z9d, z9d, z9d, z9c, z9c, z9d, z9d, z9d] rfl rfl (Or.inl ⟨z2b, z2i⟩) hHeld ?_
          refine one_ (i := 2) (N := some 9) #[z9c, z9c, z9c, z9d, z9d, z9c, z9c, z9d, z9d, z9d, z9c, z9c, z9d, z9d, z9d] rfl rfl (one_of HT_.out z1m) z1l (fun K hK => ?_)
          refine goes_ Tryz.func106 z1m rfl #[.int .i64 a0_0] z2b rfl rfl z2d ?_
          with_reducible refine (spec_l3Text.calls k a0_0 t299 _ A4.out).mono ?_
          rintro e w27 ⟨rfl, hb⟩
          refine ⟨_, rfl, ?_⟩
          have n_ := zo (blk_below (zu BK297.out) hb) (below_step z4c hb)
          clear BK297 HB
          obtain ⟨BK297, HB⟩ := n_
          (try clear hb)
          (try clear hb2)
          (try clear hk)
          (try clear hi)
          refine hK.out _ _ ⟨(blk_cell BK297.out 0).trans rfl, (blk_cell BK297.out 1).trans rfl, (blk_cell BK297.out 2).trans rfl, (blk_cell BK297.out 3).trans rfl⟩ (fun hHeld => ?_)
          clear hK K
          refine zy (some 9) rfl ?_
          refine zw 3 (some 10) #[z9c, z9c, z9c, z9c, z9d, z9c, z9c, z9d, z9d, z9d, z9c, z9c, z9d, z9d, z9d] rfl rfl ?_
          refine zw 4 (some 11) #[z9c, z9c, z9c, z9c, z9c, z9c, z9c, z9d, z9d, z9d, z9c, z9c, z9d, z9d, z9d] rfl rfl ?_
          refine one_ (i := 7) (N := some 14) #[z9c, z9c, z9c, z9c, z9c, z9c, z9c, z9c, z9d, z9d, z9c, z9c, z9d, z9d, z9d] rfl rfl (one_of HT_.out z1m) z1l (fun K hK => ?_)
          refine goes_ Tryz.func106 z1m rfl #[.int .i64 a0_1] z2b rfl rfl z2d ?_
          with_reducible refine (spec_l3Text.calls k a0_1 t300 _ A7.out).mono ?_
          rintro e w28 ⟨rfl, hb⟩
          refine ⟨_, rfl, ?_⟩
          have n_ := zo (blk_below (zu BK297.out) hb) (below_step z4c hb)
          clear BK297 HB
          obtain ⟨BK297, HB⟩ := n_
          (try clear hb)
          (try clear hb2)
          (try clear hk)
          (try clear hi)
          refine hK.out _ _ ⟨(blk_cell BK297.out 0).trans rfl, (blk_cell BK297.out 1).trans rfl, (blk_cell BK297.out 2).trans rfl, (blk_cell BK297.out 3).trans rfl⟩ (fun hHeld => ?_)
          clear hK K
          refine zy (some 14) rfl ?_
          refine zw 8 (some 15) #[z9c, z9c, z9c, z9c, z9c, z9c, z9c, z9c, z9c, z9d, z9c, z9c, z9d, z9d, z9d] rfl rfl ?_
          refine zw 9 (some 16) #[z9c, z9c, z9c, z9c, z9c, z9c, z9c, z9c, z9c, z9c, z9c, z9c, z9d, z9d, z9d] rfl rfl ?_
          refine one_ (i := 12) (N := some 19) #[z9c, z9c, z9c, z9c, z9c, z9c, z9c, z9c, z9c, z9c, z9c, z9c, z9c, z9d, z9d] rfl rfl (one_of HT_.out z1m) z1l (fun K hK => ?_)
          refine goes_ Tryz.func106 z1m rfl #[.int .i64 a0_2] z2b rfl rfl z2d ?_
          with_reducible refine (spec_l3Text.calls k a0_2 t301 _ A10.out).mono ?_
          rintro e w29 ⟨rfl, hb⟩
          refine ⟨_, rfl, ?_⟩
          have n_ := zo (blk_below (zu BK297.out) hb) (below_step z4c hb)
          clear BK297 HB
          obtain ⟨BK297, HB⟩ := n_
          (try clear hb)
          (try clear hb2)
          (try clear hk)
          (try clear hi)
          refine hK.out _ _ ⟨(blk_cell BK297.out 0).trans rfl, (blk_cell BK297.out 1).trans rfl, (blk_cell BK297.out 2).trans rfl, (blk_cell BK297.out 3).trans rfl⟩ (fun hHeld => ?_)
          clear hK K
          refine zy (some 19) rfl ?_
          refine zw 13 (some 20) #[z9c, z9c, z9c, z9c, z9c, z9c, z9c, z9c, z9c, z9c, z9c, z9c, z9c, z9c, z9d] rfl rfl ?_
          refine zw 14 (some 3) #[z9c, z9c, z9c, z9c, z9c, z9c, z9c, z9c, z9c, z9c, z9c, z9c, z9c, z9c, z9c] rfl rfl ?_
          refine done_ (done_of HT_.out z1m) ?_
          obtain ⟨hcz30_0, hcz30_1, hcz30_2, hcz30_3, hfz30_0, hfz30_1, hfz30_2, hfz30_3⟩ := zf BK297.out
          try go_wp2
          go_ret
          exact ⟨z1t, z4c⟩
         ·rw [if_neg c22] at H
          exact absurd H (by simp)
        ·rw [if_neg c21] at H
         exact absurd H (by simp)
      ·rw [if_neg c11] at H
       exact absurd H (by simp)
     ·rw [if_neg c9] at H
      exact absurd H (by simp)
    ·rw [if_neg c8] at H
     exact absurd H (by simp)
   ·rw [if_neg c6] at H
    exact absurd H (by simp)
  ·rw [if_neg c5] at H
   exact absurd H (by simp)
 ·replace c3 := Bool.eq_false_iff.mpr c3
  subst c3
  rw [if_neg zk] at H
  obtain rfl := Option.some.inj H
  go_enter Tryz.func86, Tryz.ntmps86
  go_wp2_with (first | ((with_reducible refine zr 1 rfl ?_); refine zt 25 #[.int .i64 a0_0, .int .i64 a0_1, .int .i64 a0_2, .string a0_3] ?_; intro gb297 hg w31 hbox hb; have n_ := zv (below_step z1r hb) hbox (z8j : w.heap.size ≤ gb297) (z8j : w.heap.size ≤ gb297); clear HB; obtain ⟨HB, BK297, GW297, GE297⟩ := n_; clear hb hbox hg; obtain ⟨hcz32_0, hcz32_1, hcz32_2, hcz32_3, hfz32_0, hfz32_1, hfz32_2, hfz32_3⟩ := zf BK297.out) | ((with_reducible refine zi 68 rfl ?_); refine zj (some 5) Tryz.func68 #[.agg #[.int .i64 a0_0, .int .i64 a0_1, .int .i64 a0_2, .string a0_3]] rfl ?_; (with_reducible refine (spec_VersionOk.calls k a0_0 a0_1 a0_2 a0_3 false _ A2.out).mono ?_); rintro e w33 ⟨rfl, hb⟩; refine ⟨_, rfl, ?_⟩; have n_ := zo (blk_below (zu BK297.out) hb) (below_step z4c hb); clear BK297 HB; obtain ⟨BK297, HB⟩ := n_; (try clear hb)))
  go_ret
  exact ⟨z1t, z4c⟩
def spec_ParseVersion.n3 (k : Nat) (s p : ByteArray) (x y z : Int) : Option (Int × Int × Int × ByteArray × Bool) := (spec_VersionOk.f k x y z p).bind fun b => (if b = true then ((spec_VersionText.f k x y z p).bind fun t => (if t.toList = s.toList then (some (x, y, z, p, true)) else (some (0, 0, 0, (⟨#[]⟩ : ByteArray), false)))) else (some (0, 0, 0, (⟨#[]⟩ : ByteArray), false)))
def spec_ParseVersion.n2 (k : Nat) (s t p : ByteArray) : Option (Int × Int × Int × ByteArray × Bool) := (spec_l3Split.f k t 46).bind fun l => (if l.length = 3 then ((spec_l3Number.f k (rdOf ByteArray.empty l 0)).bind fun x => ((spec_l3Number.f k (rdOf ByteArray.empty l 1)).bind fun y => ((spec_l3Number.f k (rdOf ByteArray.empty l 2)).bind fun z => (spec_ParseVersion.n3 k s p x y z)))) else (some (0, 0, 0, (⟨#[]⟩ : ByteArray), false)))
def spec_ParseVersion.l0 : Nat → ByteArray → ByteArray → Int → Option (Int × Int × Int × ByteArray × Bool)
 | 0, _, _, _ => none
 | k + 1, s, t, i => if i < (t.size : Int) then (if 0 ≤ i then (if (bt t i) = 45 then (if 0 ≤ (wrap64 (i + 1)) then (if (wrap64 (i + 1)) ≤ (t.size : Int) then (spec_ParseVersion.n2 k s (t.extract 0 i.toNat) (t.extract (wrap64 (i + 1)).toNat t.size)) else (none)) else (none)) else (spec_ParseVersion.l0 k s t (wrap64 (i + 1)))) else (none)) else (spec_ParseVersion.n2 k s t (⟨#[]⟩ : ByteArray))
def spec_ParseVersion.f (k : Nat) (s : ByteArray) : Option (Int × Int × Int × ByteArray × Bool) := if s.toList = ([] : List UInt8) then (some (0, 0, 0, (⟨#[]⟩ : ByteArray), false)) else (if 0 < (s.size : Int) then (if (bt s 0) = 118 then (if 1 ≤ (s.size : Int) then (spec_ParseVersion.l0 k s (s.extract 1 s.size) 0) else (none)) else (some (0, 0, 0, (⟨#[]⟩ : ByteArray), false))) else (none))
theorem spec_ParseVersion.four {w : World} {g : Nat} {T : TypeId} {x0 x1 x2 x3 : Value} (h : w.heap[g]? = some (.cells #[x0, x1, x2, x3] T (0, 0))) (y0 y1 y2 y3 : Value) :
  ((((w.setCell ⟨g, 0, none⟩ y0).setCell ⟨g, 1, none⟩ y1).setCell ⟨g, 2, none⟩ y2).setCell ⟨g, 3, none⟩ y3).heap[g]? = some (.cells #[y0, y1, y2, y3] T (0, 0)) := blk_put (blk_put (blk_put (blk_put h 0 _ rfl) 1 _ rfl) 2 _ rfl) 3 _ rfl
theorem spec_ParseVersion.fourB {B : Nat} {a w : World} {g : Nat} (h : Below B a w) (hg : B ≤ g) (y0 y1 y2 y3 : Value) :
  Below B a ((((w.setCell ⟨g, 0, none⟩ y0).setCell ⟨g, 1, none⟩ y1).setCell ⟨g, 2, none⟩ y2).setCell ⟨g, 3, none⟩ y3) := (((h.setCell (p := ⟨g, 0, none⟩) hg _).setCell (p := ⟨g, 1, none⟩) hg _).setCell (p := ⟨g, 2, none⟩) hg _).setCell (p := ⟨g, 3, none⟩) hg _
theorem spec_ParseVersion.fourF {w : World} {g g2 : Nat} {T : TypeId} {cs : Array Value} (h : w.heap[g]? = some (.cells cs T (0, 0))) (hne : g ≠ g2) (y0 y1 y2 y3 : Value) :
  ((((w.setCell ⟨g2, 0, none⟩ y0).setCell ⟨g2, 1, none⟩ y1).setCell ⟨g2, 2, none⟩ y2).setCell ⟨g2, 3, none⟩ y3).heap[g]? = some (.cells cs T (0, 0)) := blk_far (p := ⟨g2, 3, none⟩) (blk_far (p := ⟨g2, 2, none⟩) (blk_far (p := ⟨g2, 1, none⟩) (blk_far (p := ⟨g2, 0, none⟩) h hne _) hne _) hne _) hne _
set_option maxHeartbeats 8000000 in
set_option maxRecDepth 100000 in
theorem spec_ParseVersion.calls (k : Nat) (a0 : ByteArray) (r1 : Int) (r2 : Int) (r3 : Int) (r4 : ByteArray) (r5 : Bool) (w : World) (h : spec_ParseVersion.f k a0 = some (r1, r2, r3, r4, r5)) :
  Calls Tryz.prog 57 #[.string a0] w fun e w' => e = .returned (.tuple #[.agg #[.int .i64 r1, .int .i64 r2, .int .i64 r3, .string r4], .bool r5]) ∧ Below w.heap.size w w' := by
 have hu27 := Tryz.underlying25
 have HB := zn (Below.refl w.heap.size w)
 unfold spec_ParseVersion.f at h
 by_cases c1 : a0.toList = ([] : List UInt8)
 ·rw [if_pos c1] at h
  have c1b0 := beq_iff_eq.mpr c1
  have c1b1 := bne_eq_false_iff_eq.mpr c1
  clear c1
  simp only [Option.some.injEq, Prod.mk.injEq] at h
  obtain ⟨rfl, rfl, rfl, rfl, rfl⟩ := h
  go_enter Tryz.func57, Tryz.ntmps57
  go_wp2_with (first | ((with_reducible refine zr 2 rfl ?_); refine zt 25 #[.int .i64 0, .int .i64 0, .int .i64 0, .string ⟨#[]⟩] ?_; intro g2 hg w2 hbox hb; have n_ := z1c (below_step z1r hb) hbox (z8j : w.heap.size ≤ g2); clear HB; obtain ⟨HB, BK2, GE2⟩ := n_; clear hb hbox hg) | ((with_reducible refine zr 4 rfl ?_); refine zt 25 #[.int .i64 0, .int .i64 0, .int .i64 0, .string ⟨#[]⟩] ?_; intro g4 hg w4 hbox hb; have n_ := z1h (blk_below (zu BK2.out) hb) (z4d : g2 ≠ g4) (below_step z1r hb) hbox (z8j : w.heap.size ≤ g4); clear BK2 HB; obtain ⟨BK2, NE24, HB, BK4, GE4⟩ := n_; clear hb hbox hg; obtain ⟨i4_0, i4_1, i4_2, i4_3, j4_0, j4_1, j4_2, j4_3⟩ := zf BK4.out; have n_ := z1c (spec_ParseVersion.fourF BK2.out NE24.out (.int .i64 0) (.int .i64 0) (.int .i64 0) (.string ⟨#[]⟩)) (spec_ParseVersion.four BK4.out (.int .i64 0) (.int .i64 0) (.int .i64 0) (.string ⟨#[]⟩)) (spec_ParseVersion.fourB HB.out GE4.out (.int .i64 0) (.int .i64 0) (.int .i64 0) (.string ⟨#[]⟩)); clear BK2 BK4 HB; obtain ⟨BK2, BK4, HB⟩ := n_; obtain ⟨d0, d1, d2, d3, f0, f1, f2, f3⟩ := zf BK2.out; obtain ⟨m0, m1, m2, m3⟩ := zd BK4.out))
  refine bodyPost_ret (results_ct rfl _ _ g2 25 #[.int .i64 0, .int .i64 0, .int .i64 0, .string ⟨#[]⟩] (0, 0) _ rfl (spec_ParseVersion.four BK2.out _ _ _ _) hu27 rfl z1m) rfl ?_
  exact ⟨rfl, spec_ParseVersion.fourB z1r GE2.out _ _ _ _⟩
 ·rw [if_neg c1] at h
  have c1b0 := beq_eq_false_iff_ne.mpr c1
  have c1b1 := bne_iff_ne.mpr c1
  by_cases c2 : 0 < (a0.size : Int)
  ·rw [if_pos c2] at h
   have c2b0 := eq_true c2
   have q6 : 0 < a0.size := by omega
   have hx6 : ∀ h : 0 < a0.size, ((a0[0]'h).toNat : Int) = bt a0 0 := bt_at a0 0
   replace q6 := eq_true q6
   by_cases c3 : bt a0 0 = 118
   ·rw [if_pos c3] at h
    have c3b0 := beq_iff_eq.mpr c3
    have c3b1 := bne_eq_false_iff_eq.mpr c3
    by_cases c4 : 1 ≤ (a0.size : Int)
    ·rw [if_pos c4] at h
     have H' := zn h
     have c4b0 := eq_true c4
     clear h c1 c2 c3 c4
     go_enter Tryz.func57, Tryz.ntmps57
     go_upto_block 0 with (first | ((with_reducible refine zr 2 rfl ?_); refine zt 25 #[.int .i64 0, .int .i64 0, .int .i64 0, .string ⟨#[]⟩] ?_; intro g2 hg w2 hbox hb; have n_ := z1c (below_step z1r hb) hbox (z8j : w.heap.size ≤ g2); clear HB; obtain ⟨HB, BK2, GE2⟩ := n_; clear hb hbox hg) | ((with_reducible refine zr 4 rfl ?_); refine zt 25 #[.int .i64 0, .int .i64 0, .int .i64 0, .string ⟨#[]⟩] ?_; intro g4 hg w4 hbox hb; have n_ := z1h (blk_below (zu BK2.out) hb) (z4d : g2 ≠ g4) (below_step z1r hb) hbox (z8j : w.heap.size ≤ g4); clear BK2 HB; obtain ⟨BK2, NE24, HB, BK4, GE4⟩ := n_; clear hb hbox hg; obtain ⟨i4_0, i4_1, i4_2, i4_3, j4_0, j4_1, j4_2, j4_3⟩ := zf BK4.out; have n_ := z1c (spec_ParseVersion.fourF BK2.out NE24.out (.int .i64 0) (.int .i64 0) (.int .i64 0) (.string ⟨#[]⟩)) (spec_ParseVersion.four BK4.out (.int .i64 0) (.int .i64 0) (.int .i64 0) (.string ⟨#[]⟩)) (spec_ParseVersion.fourB HB.out GE4.out (.int .i64 0) (.int .i64 0) (.int .i64 0) (.string ⟨#[]⟩)); clear BK2 BK4 HB; obtain ⟨BK2, BK4, HB⟩ := n_; obtain ⟨d0, d1, d2, d3, f0, f1, f2, f3⟩ := zf BK2.out; obtain ⟨m0, m1, m2, m3⟩ := zd BK4.out) | ((with_reducible refine zr 6 rfl ?_); refine zt 25 #[.int .i64 0, .int .i64 0, .int .i64 0, .string ⟨#[]⟩] ?_; intro g6 hg w6 hbox hb; have n_ := z1b (blk_below (zu BK2.out) hb) (blk_below (zu BK4.out) hb) (z4d : g2 ≠ g6) ((by rw [hg]; exact (Nat.ne_of_lt (blk_lt (zu BK4.out))) : g4 ≠ g6)) (below_step z1r hb) hbox (z8j : w.heap.size ≤ g6); clear BK2 BK4 HB; obtain ⟨BK2, BK4, NE26, NE46, HB, BK6, GE6⟩ := n_; clear hb hbox hg; obtain ⟨i6_0, i6_1, i6_2, i6_3, j6_0, j6_1, j6_2, j6_3⟩ := zf BK6.out; have n_ := zv (spec_ParseVersion.fourF BK2.out NE26.out (.int .i64 0) (.int .i64 0) (.int .i64 0) (.string ⟨#[]⟩)) (spec_ParseVersion.fourF BK4.out NE46.out (.int .i64 0) (.int .i64 0) (.int .i64 0) (.string ⟨#[]⟩)) (spec_ParseVersion.four BK6.out (.int .i64 0) (.int .i64 0) (.int .i64 0) (.string ⟨#[]⟩)) (spec_ParseVersion.fourB HB.out GE6.out (.int .i64 0) (.int .i64 0) (.int .i64 0) (.string ⟨#[]⟩)); clear BK2 BK4 BK6 HB; obtain ⟨BK2, BK4, BK6, HB⟩ := n_))
     (try simp only [Act.put, z9e, z9f, z9g])
     go_cut [5] (fun v5 wc => ∃ (kj : Nat) (t p : ByteArray), v5 = .string t ∧ Aside0 (spec_ParseVersion.n2 kj a0 t p = some (r1, r2, r3, r4, r5)) ∧ Aside0 (wc.heap[g2]? = some (.cells #[.int .i64 0, .int .i64 0, .int .i64 0, .string ⟨#[]⟩] 25 (0, 0))) ∧ Aside0 (wc.heap[g4]? = some (.cells #[.int .i64 0, .int .i64 0, .int .i64 0, .string ⟨#[]⟩] 25 (0, 0))) ∧ Aside0 (wc.heap[g6]? = some (.cells #[.int .i64 0, .int .i64 0, .int .i64 0, .string p] 25 (0, 0))) ∧ Aside0 (Below w.heap.size w wc))
     case first =>
      go_wp2
      go_loopg [5, 7] k (fun kq v5 v7 wr => ∃ (t : ByteArray) (i : Int), v5 = .string t ∧ v7 = .int .i64 i ∧ Aside0 (spec_ParseVersion.l0 kq a0 t i = some (r1, r2, r3, r4, r5)) ∧ Aside0 (kq ≤ k) ∧ Aside0 (wr.heap[g2]? = some (.cells #[.int .i64 0, .int .i64 0, .int .i64 0, .string ⟨#[]⟩] 25 (0, 0))) ∧ Aside0 (wr.heap[g4]? = some (.cells #[.int .i64 0, .int .i64 0, .int .i64 0, .string ⟨#[]⟩] 25 (0, 0))) ∧ Aside0 (wr.heap[g6]? = some (.cells #[.int .i64 0, .int .i64 0, .int .i64 0, .string ⟨#[]⟩] 25 (0, 0))) ∧ Aside0 (Below w.heap.size w wr))
      case atStart => exact ⟨_, 0, z1n, (by first | rfl | (simp; done)), H', ⟨Nat.le_refl _⟩, ⟨BK2.out⟩, ⟨BK4.out⟩, ⟨BK6.out⟩, ⟨HB.out⟩⟩
      case round =>
      clear H' BK2 BK4 BK6 HB
      obtain ⟨t, i, rfl, rfl, HA, HK, BK2, BK4, BK6, HB⟩ := hrel
      cases gk with
      | zero => exact absurd HA.out (by simp [spec_ParseVersion.l0])
      | succ k2 =>
       have H := HA.out
       clear HA
       simp only [spec_ParseVersion.l0] at H
       by_cases c5 : i < (t.size : Int)
       ·rw [if_pos c5] at H
        have c5b0 := decide_eq_true c5
        (first | rw [c5b0] | (simp only [i64_w, i32_w]; rw [c5b0]) | skip)
        by_cases c6 : 0 ≤ i
        ·rw [if_pos c6] at H
         have c6b0 := decide_eq_true c6
         have p22 := eq_true (c6 : 0 ≤ (i : Int))
         have q22 := eq_true c5
         have q23 := eq_true (show i ≤ (t.size : Int) by omega)
         have hx22 := bt_at t i
         by_cases c7 : bt t i = 45
         ·rw [if_pos c7] at H
          have c7b0 := beq_iff_eq.mpr c7
          have c7b1 := bne_eq_false_iff_eq.mpr c7
          obtain ⟨ji, hji⟩ : ∃ j_ : Int, (wrap64 (i + 1)) = j_ := ⟨_, rfl⟩
          rw [hji] at H
          have hjiw : (IntKind.i64.wrap (i + 1)) = ji := (i64_w _).trans hji
          by_cases c8 : 0 ≤ ji
          ·rw [if_pos c8] at H
           have c8b0 := eq_true c8
           have c8b1 := decide_eq_true c8
           by_cases c9 : ji ≤ (t.size : Int)
           ·rw [if_pos c9] at H
            have c9b0 := eq_true c9
            have c9b1 := decide_eq_true c9
            clear c5 c6 c7 c8 c9
            have H' := zn H
            clear H
            obtain ⟨e0, e1, e2, e3, q0, q1, q2, q3⟩ := zf BK6.out
            go_wp2
            go_meet
            case rel => exact ⟨k2, t.extract 0 i.toNat, t.extract ji.toNat t.size, z1n, H', ⟨blk_far BK2.out NE26.out _⟩, ⟨blk_far BK4.out NE46.out _⟩, ⟨blk_put BK6.out 3 _ rfl⟩, ⟨below_set HB.out GE6.out⟩⟩
           ·rw [if_neg c9] at H
            cases H
          ·rw [if_neg c8] at H
           cases H
         ·rw [if_neg c7] at H
          have c7b0 := beq_eq_false_iff_ne.mpr c7
          have c7b1 := bne_iff_ne.mpr c7
          clear c5 c6 c7
          have H' := zn H
          clear H
          go_wp2
          go_roundg k2
          case measure => have := HK.out; omega
          case rel => exact ⟨t, wrap64 (i + 1), z1n, z1n, H', ⟨by have := HK.out; omega⟩, ⟨BK2.out⟩, ⟨BK4.out⟩, ⟨BK6.out⟩, ⟨HB.out⟩⟩
        ·rw [if_neg c6] at H
         cases H
       ·rw [if_neg c5] at H
        have c5b0 := decide_eq_false c5
        clear c5
        (first | rw [c5b0] | (simp only [i64_w, i32_w]; rw [c5b0]) | skip)
        have H' := zn H
        clear H
        go_wp2
        go_meet
        case rel => exact ⟨k2, t, (⟨#[]⟩ : ByteArray), z1n, H', ⟨BK2.out⟩, ⟨BK4.out⟩, ⟨BK6.out⟩, ⟨HB.out⟩⟩
     case rest =>
      try clear H' BK2 BK4 BK6 HB
      obtain ⟨kj, t, p, rfl, HA, BK2, BK4, BK6, HB⟩ := hcut
      have H := HA.out
      clear HA
      unfold spec_ParseVersion.n2 at H
      obtain ⟨l, AL0, H⟩ := Option.bind_eq_some_iff.mp H
      have AL := zn AL0
      clear AL0
      by_cases c5 : l.length = 3
      ·replace H : ((spec_l3Number.f kj (rdOf ByteArray.empty l 0)).bind fun x => ((spec_l3Number.f kj (rdOf ByteArray.empty l 1)).bind fun y => ((spec_l3Number.f kj (rdOf ByteArray.empty l 2)).bind fun z => (spec_ParseVersion.n3 kj a0 p x y z)))) = some (r1, r2, r3, r4, r5) := by rw [if_pos c5] at H; exact H
       have c5b0 : ((l.length : Int) != 3) = false := bne_eq_false_iff_eq.mpr z1k
       have c5b1 : ((l.length : Int) == 3) = true := beq_iff_eq.mpr z1k
       have pl0 := zn (show (0 : Int) < (l.length : Int) by omega)
       have pl1 := zn (show (1 : Int) < (l.length : Int) by omega)
       have pl2 := zn (show (2 : Int) < (l.length : Int) by omega)
       have pm0 : (0 < l.length) = True := eq_true z1k
       have pm1 : (1 < l.length) = True := eq_true z1k
       have pm2 : (2 < l.length) = True := eq_true z1k
       have pe0 := eq_true pl0.out
       have pe1 := eq_true pl1.out
       have pe2 := eq_true pl2.out
       clear c5
       obtain ⟨x, A0, H⟩ := Option.bind_eq_some_iff.mp H
       obtain ⟨y, A1, H⟩ := Option.bind_eq_some_iff.mp H
       obtain ⟨z, A2, H⟩ := Option.bind_eq_some_iff.mp H
       have AN0 := zn A0
       have AN1 := zn A1
       have AN2 := zn A2
       clear A0 A1 A2
       unfold spec_ParseVersion.n3 at H
       obtain ⟨b, A3, H⟩ := Option.bind_eq_some_iff.mp H
       have AB := zn A3
       clear A3
       cases b with
       | true =>
        try dsimp only at H
        obtain ⟨tx, A4, H⟩ := Option.bind_eq_some_iff.mp H
        have AT := zn A4
        clear A4
        by_cases c9 : tx.toList = a0.toList
        ·have c9b0 := beq_iff_eq.mpr c9
         have c9b1 := bne_eq_false_iff_eq.mpr c9
         rw [if_pos c9] at H
         simp only [Option.some.injEq, Prod.mk.injEq] at H
         obtain ⟨rfl, rfl, rfl, rfl, rfl⟩ := H
         clear c9
         go_wp2_with (first | ((with_reducible refine zi 56 rfl ?_); refine z1f (some 40) Tryz.func56 #[.string t, .int .u8 46] rfl ?_; (with_reducible refine (spec_l3Split.calls kj t 46 l _ AL.out).mono ?_); rintro e w3 ⟨v122, rfl, ho0, hb⟩; refine ⟨_, rfl, ?_⟩; have nh_ := zn (Kd.R_lower ho0 (below_size z1r)); have n_ := zv (below_step z1r hb) (blk_below (zu BK2.out) hb) (blk_below (zu BK4.out) hb) (blk_below (zu BK6.out) hb); clear HB BK2 BK4 BK6; obtain ⟨HB, BK2, BK4, BK6⟩ := n_; have HO := nh_; clear nh_; clear hb ho0; obtain ⟨Ao4, co4, eo4⟩ := Kd.R_slice HO.out; subst eo4; obtain ⟨ad, e, hx⟩ := Kd.at_string (Kd.R_reads' HO.out).2.2 (0 : Int) z1l pl0.out; cases e; replace hx : w3.cell? ad = some (.string (rdOf ByteArray.empty l 0)) := hx) | ((with_reducible refine zi 87 rfl ?_); refine z1f (some 48) Tryz.func87 #[.string (rdOf ByteArray.empty l 0)] rfl ?_; (with_reducible refine (spec_l3Number.calls kj (rdOf ByteArray.empty l 0) x _ AN0.out).mono ?_); rintro e w' ⟨rfl, ⟨nd0, rfl⟩⟩; refine ⟨_, rfl, ?_⟩; have s0 : (w3.drewN nd0).cell? ⟨g6, 0, none⟩ = some (.int .i64 0) := (blk_cell (show ((w3.drewN nd0)).heap[g6]? = some (.cells #[.int .i64 0, .int .i64 0, .int .i64 0, .string p] 25 (0, 0)) from BK6.out) 0).trans rfl; have u0 : (w3.drewN nd0).frozen? ⟨g6, 0, none⟩ = false := blk_frozen (show ((w3.drewN nd0)).heap[g6]? = some (.cells #[.int .i64 0, .int .i64 0, .int .i64 0, .string p] 25 (0, 0)) from BK6.out) 0; have n_ := z1h ((Kd.R_set (Kd.R_drewN HO.out nd0) (show ((w3.drewN nd0)).heap[g6]? = some (.cells #[.int .i64 0, .int .i64 0, .int .i64 0, .string p] 25 (0, 0)) from BK6.out) z1l 0 (.int .i64 x) : Kd.R Kd.string 9 ((w3.drewN nd0).setCell ⟨g6, 0, none⟩ (.int .i64 x)) w.heap.size (fun _ => True) (.slice (some ad) l.length co4) l)) ((blk_far (w := (w3.drewN nd0)) (g := g2) (p := ⟨g6, 0, none⟩) (show ((w3.drewN nd0)).heap[g2]? = some (.cells #[.int .i64 0, .int .i64 0, .int .i64 0, .string ⟨#[]⟩] 25 (0, 0)) from BK2.out) NE26.out (.int .i64 x) : ((w3.drewN nd0).setCell ⟨g6, 0, none⟩ (.int .i64 x)).heap[g2]? = some (.cells #[.int .i64 0, .int .i64 0, .int .i64 0, .string ⟨#[]⟩] 25 (0, 0)))) ((blk_far (w := (w3.drewN nd0)) (g := g4) (p := ⟨g6, 0, none⟩) (show ((w3.drewN nd0)).heap[g4]? = some (.cells #[.int .i64 0, .int .i64 0, .int .i64 0, .string ⟨#[]⟩] 25 (0, 0)) from BK4.out) NE46.out (.int .i64 x) : ((w3.drewN nd0).setCell ⟨g6, 0, none⟩ (.int .i64 x)).heap[g4]? = some (.cells #[.int .i64 0, .int .i64 0, .int .i64 0, .string ⟨#[]⟩] 25 (0, 0)))) ((blk_put (w := (w3.drewN nd0)) (g := g6) (show ((w3.drewN nd0)).heap[g6]? = some (.cells #[.int .i64 0, .int .i64 0, .int .i64 0, .string p] 25 (0, 0)) from BK6.out) 0 (.int .i64 x) rfl : ((w3.drewN nd0).setCell ⟨g6, 0, none⟩ (.int .i64 x)).heap[g6]? = some (.cells #[.int .i64 x, .int .i64 0, .int .i64 0, .string p] 25 (0, 0)))) ((below_set (pw_below_drewN HB.out nd0) GE6.out : Below w.heap.size w ((w3.drewN nd0).setCell ⟨g6, 0, none⟩ (.int .i64 x)))); clear HO BK2 BK4 BK6 HB; obtain ⟨HO, BK2, BK4, BK6, HB⟩ := n_; obtain ⟨ad, e, hx⟩ := Kd.at_string (Kd.R_reads' HO.out).2.2 (1 : Int) z1l pl1.out; cases e; replace hx : ((w3.drewN nd0).setCell ⟨g6, 0, none⟩ (.int .i64 x)).cell? (⟨ad.block, ad.off + 1, none⟩ : Addr) = some (.string (rdOf ByteArray.empty l 1)) := hx) | ((with_reducible refine zi 87 rfl ?_); refine z1f (some 53) Tryz.func87 #[.string (rdOf ByteArray.empty l 1)] rfl ?_; (with_reducible refine (spec_l3Number.calls kj (rdOf ByteArray.empty l 1) y _ AN1.out).mono ?_); rintro e w' ⟨rfl, ⟨nd1, rfl⟩⟩; refine ⟨_, rfl, ?_⟩; have s1 : (((w3.drewN nd0).setCell ⟨g6, 0, none⟩ (.int .i64 x)).drewN nd1).cell? ⟨g6, 1, none⟩ = some (.int .i64 0) := (blk_cell (show ((((w3.drewN nd0).setCell ⟨g6, 0, none⟩ (.int .i64 x)).drewN nd1)).heap[g6]? = some (.cells #[.int .i64 x, .int .i64 0, .int .i64 0, .string p] 25 (0, 0)) from BK6.out) 1).trans rfl; have u1 : (((w3.drewN nd0).setCell ⟨g6, 0, none⟩ (.int .i64 x)).drewN nd1).frozen? ⟨g6, 1, none⟩ = false := blk_frozen (show ((((w3.drewN nd0).setCell ⟨g6, 0, none⟩ (.int .i64 x)).drewN nd1)).heap[g6]? = some (.cells #[.int .i64 x, .int .i64 0, .int .i64 0, .string p] 25 (0, 0)) from BK6.out) 1; have n_ := z1h ((Kd.R_set (Kd.R_drewN HO.out nd1) (show ((((w3.drewN nd0).setCell ⟨g6, 0, none⟩ (.int .i64 x)).drewN nd1)).heap[g6]? = some (.cells #[.int .i64 x, .int .i64 0, .int .i64 0, .string p] 25 (0, 0)) from BK6.out) z1l 1 (.int .i64 y) : Kd.R Kd.string 9 ((((w3.drewN nd0).setCell ⟨g6, 0, none⟩ (.int .i64 x)).drewN nd1).setCell ⟨g6, 1, none⟩ (.int .i64 y)) w.heap.size (fun _ => True) (.slice (some ad) l.length co4) l)) ((blk_far (w := (((w3.drewN nd0).setCell ⟨g6, 0, none⟩ (.int .i64 x)).drewN nd1)) (g := g2) (p := ⟨g6, 1, none⟩) (show ((((w3.drewN nd0).setCell ⟨g6, 0, none⟩ (.int .i64 x)).drewN nd1)).heap[g2]? = some (.cells #[.int .i64 0, .int .i64 0, .int .i64 0, .string ⟨#[]⟩] 25 (0, 0)) from BK2.out) NE26.out (.int .i64 y) : ((((w3.drewN nd0).setCell ⟨g6, 0, none⟩ (.int .i64 x)).drewN nd1).setCell ⟨g6, 1, none⟩ (.int .i64 y)).heap[g2]? = some (.cells #[.int .i64 0, .int .i64 0, .int .i64 0, .string ⟨#[]⟩] 25 (0, 0)))) ((blk_far (w := (((w3.drewN nd0).setCell ⟨g6, 0, none⟩ (.int .i64 x)).drewN nd1)) (g := g4) (p := ⟨g6, 1, none⟩) (show ((((w3.drewN nd0).setCell ⟨g6, 0, none⟩ (.int .i64 x)).drewN nd1)).heap[g4]? = some (.cells #[.int .i64 0, .int .i64 0, .int .i64 0, .string ⟨#[]⟩] 25 (0, 0)) from BK4.out) NE46.out (.int .i64 y) : ((((w3.drewN nd0).setCell ⟨g6, 0, none⟩ (.int .i64 x)).drewN nd1).setCell ⟨g6, 1, none⟩ (.int .i64 y)).heap[g4]? = some (.cells #[.int .i64 0, .int .i64 0, .int .i64 0, .string ⟨#[]⟩] 25 (0, 0)))) ((blk_put (w := (((w3.drewN nd0).setCell ⟨g6, 0, none⟩ (.int .i64 x)).drewN nd1)) (g := g6) (show ((((w3.drewN nd0).setCell ⟨g6, 0, none⟩ (.int .i64 x)).drewN nd1)).heap[g6]? = some (.cells #[.int .i64 x, .int .i64 0, .int .i64 0, .string p] 25 (0, 0)) from BK6.out) 1 (.int .i64 y) rfl : ((((w3.drewN nd0).setCell ⟨g6, 0, none⟩ (.int .i64 x)).drewN nd1).setCell ⟨g6, 1, none⟩ (.int .i64 y)).heap[g6]? = some (.cells #[.int .i64 x, .int .i64 y, .int .i64 0, .string p] 25 (0, 0)))) ((below_set (pw_below_drewN HB.out nd1) GE6.out : Below w.heap.size w ((((w3.drewN nd0).setCell ⟨g6, 0, none⟩ (.int .i64 x)).drewN nd1).setCell ⟨g6, 1, none⟩ (.int .i64 y)))); clear HO BK2 BK4 BK6 HB; obtain ⟨HO, BK2, BK4, BK6, HB⟩ := n_; obtain ⟨ad, e, hx⟩ := Kd.at_string (Kd.R_reads' HO.out).2.2 (2 : Int) z1l pl2.out; cases e; replace hx : ((((w3.drewN nd0).setCell ⟨g6, 0, none⟩ (.int .i64 x)).drewN nd1).setCell ⟨g6, 1, none⟩ (.int .i64 y)).cell? (⟨ad.block, ad.off + 2, none⟩ : Addr) = some (.string (rdOf ByteArray.empty l 2)) := hx) | ((with_reducible refine zi 87 rfl ?_); refine z1f (some 58) Tryz.func87 #[.string (rdOf ByteArray.empty l 2)] rfl ?_; (with_reducible refine (spec_l3Number.calls kj (rdOf ByteArray.empty l 2) z _ AN2.out).mono ?_); rintro e w' ⟨rfl, ⟨nd2, rfl⟩⟩; refine ⟨_, rfl, ?_⟩; have s2 : (((((w3.drewN nd0).setCell ⟨g6, 0, none⟩ (.int .i64 x)).drewN nd1).setCell ⟨g6, 1, none⟩ (.int .i64 y)).drewN nd2).cell? ⟨g6, 2, none⟩ = some (.int .i64 0) := (blk_cell (show ((((((w3.drewN nd0).setCell ⟨g6, 0, none⟩ (.int .i64 x)).drewN nd1).setCell ⟨g6, 1, none⟩ (.int .i64 y)).drewN nd2)).heap[g6]? = some (.cells #[.int .i64 x, .int .i64 y, .int .i64 0, .string p] 25 (0, 0)) from BK6.out) 2).trans rfl; have u2 : (((((w3.drewN nd0).setCell ⟨g6, 0, none⟩ (.int .i64 x)).drewN nd1).setCell ⟨g6, 1, none⟩ (.int .i64 y)).drewN nd2).frozen? ⟨g6, 2, none⟩ = false := blk_frozen (show ((((((w3.drewN nd0).setCell ⟨g6, 0, none⟩ (.int .i64 x)).drewN nd1).setCell ⟨g6, 1, none⟩ (.int .i64 y)).drewN nd2)).heap[g6]? = some (.cells #[.int .i64 x, .int .i64 y, .int .i64 0, .string p] 25 (0, 0)) from BK6.out) 2; have n_ := z1h ((Kd.R_set (Kd.R_drewN HO.out nd2) (show ((((((w3.drewN nd0).setCell ⟨g6, 0, none⟩ (.int .i64 x)).drewN nd1).setCell ⟨g6, 1, none⟩ (.int .i64 y)).drewN nd2)).heap[g6]? = some (.cells #[.int .i64 x, .int .i64 y, .int .i64 0, .string p] 25 (0, 0)) from BK6.out) z1l 2 (.int .i64 z) : Kd.R Kd.string 9 ((((((w3.drewN nd0).setCell ⟨g6, 0, none⟩ (.int .i64 x)).drewN nd1).setCell ⟨g6, 1, none⟩ (.int .i64 y)).drewN nd2).setCell ⟨g6, 2, none⟩ (.int .i64 z)) w.heap.size (fun _ => True) (.slice (some ad) l.length co4) l)) ((blk_far (w := (((((w3.drewN nd0).setCell ⟨g6, 0, none⟩ (.int .i64 x)).drewN nd1).setCell ⟨g6, 1, none⟩ (.int .i64 y)).drewN nd2)) (g := g2) (p := ⟨g6, 2, none⟩) (show ((((((w3.drewN nd0).setCell ⟨g6, 0, none⟩ (.int .i64 x)).drewN nd1).setCell ⟨g6, 1, none⟩ (.int .i64 y)).drewN nd2)).heap[g2]? = some (.cells #[.int .i64 0, .int .i64 0, .int .i64 0, .string ⟨#[]⟩] 25 (0, 0)) from BK2.out) NE26.out (.int .i64 z) : ((((((w3.drewN nd0).setCell ⟨g6, 0, none⟩ (.int .i64 x)).drewN nd1).setCell ⟨g6, 1, none⟩ (.int .i64 y)).drewN nd2).setCell ⟨g6, 2, none⟩ (.int .i64 z)).heap[g2]? = some (.cells #[.int .i64 0, .int .i64 0, .int .i64 0, .string ⟨#[]⟩] 25 (0, 0)))) ((blk_far (w := (((((w3.drewN nd0).setCell ⟨g6, 0, none⟩ (.int .i64 x)).drewN nd1).setCell ⟨g6, 1, none⟩ (.int .i64 y)).drewN nd2)) (g := g4) (p := ⟨g6, 2, none⟩) (show ((((((w3.drewN nd0).setCell ⟨g6, 0, none⟩ (.int .i64 x)).drewN nd1).setCell ⟨g6, 1, none⟩ (.int .i64 y)).drewN nd2)).heap[g4]? = some (.cells #[.int .i64 0, .int .i64 0, .int .i64 0, .string ⟨#[]⟩] 25 (0, 0)) from BK4.out) NE46.out (.int .i64 z) : ((((((w3.drewN nd0).setCell ⟨g6, 0, none⟩ (.int .i64 x)).drewN nd1).setCell ⟨g6, 1, none⟩ (.int .i64 y)).drewN nd2).setCell ⟨g6, 2, none⟩ (.int .i64 z)).heap[g4]? = some (.cells #[.int .i64 0, .int .i64 0, .int .i64 0, .string ⟨#[]⟩] 25 (0, 0)))) ((blk_put (w := (((((w3.drewN nd0).setCell ⟨g6, 0, none⟩ (.int .i64 x)).drewN nd1).setCell ⟨g6, 1, none⟩ (.int .i64 y)).drewN nd2)) (g := g6) (show ((((((w3.drewN nd0).setCell ⟨g6, 0, none⟩ (.int .i64 x)).drewN nd1).setCell ⟨g6, 1, none⟩ (.int .i64 y)).drewN nd2)).heap[g6]? = some (.cells #[.int .i64 x, .int .i64 y, .int .i64 0, .string p] 25 (0, 0)) from BK6.out) 2 (.int .i64 z) rfl : ((((((w3.drewN nd0).setCell ⟨g6, 0, none⟩ (.int .i64 x)).drewN nd1).setCell ⟨g6, 1, none⟩ (.int .i64 y)).drewN nd2).setCell ⟨g6, 2, none⟩ (.int .i64 z)).heap[g6]? = some (.cells #[.int .i64 x, .int .i64 y, .int .i64 z, .string p] 25 (0, 0)))) ((below_set (pw_below_drewN HB.out nd2) GE6.out : Below w.heap.size w ((((((w3.drewN nd0).setCell ⟨g6, 0, none⟩ (.int .i64 x)).drewN nd1).setCell ⟨g6, 1, none⟩ (.int .i64 y)).drewN nd2).setCell ⟨g6, 2, none⟩ (.int .i64 z)))); clear HO BK2 BK4 BK6 HB; obtain ⟨HO, BK2, BK4, BK6, HB⟩ := n_; obtain ⟨e0, e1, e2, e3⟩ := zd BK6.out) | ((with_reducible refine zi 68 rfl ?_); refine z1f (some 61) Tryz.func68 #[.agg #[.int .i64 x, .int .i64 y, .int .i64 z, .string p]] rfl ?_; (with_reducible refine (spec_VersionOk.calls kj x y z p true _ AB.out).mono ?_); rintro e w8 ⟨rfl, hb⟩; refine ⟨_, rfl, ?_⟩; clear e0 e1 e2 e3; have n_ := zv (below_step z1r hb) (blk_below (zu BK2.out) hb) (blk_below (zu BK4.out) hb) (blk_below (zu BK6.out) hb); clear HB BK2 BK4 BK6; obtain ⟨HB, BK2, BK4, BK6⟩ := n_; clear hb; obtain ⟨e0, e1, e2, e3⟩ := zd BK6.out) | (go_at_call 86; (with_reducible refine (spec_VersionText.calls kj x y z p tx _ AT.out).mono ?_); rintro e w9 ⟨rfl, hb⟩; clear e0 e1 e2 e3; have n_ := zv (below_step z1r hb) (blk_below (zu BK2.out) hb) (blk_below (zu BK4.out) hb) (blk_below (zu BK6.out) hb); clear HB BK2 BK4 BK6; obtain ⟨HB, BK2, BK4, BK6⟩ := n_; clear hb; obtain ⟨d0, d1, d2, d3, f0, f1, f2, f3⟩ := zf BK2.out; obtain ⟨e0, e1, e2, e3⟩ := zd BK6.out))
         refine bodyPost_ret (results_ct rfl _ _ g2 25 #[.int .i64 x, .int .i64 y, .int .i64 z, .string p] (0, 0) _ rfl (spec_ParseVersion.four BK2.out _ _ _ _) hu27 rfl z1m) rfl ?_
         exact ⟨rfl, spec_ParseVersion.fourB z1r GE2.out _ _ _ _⟩
        ·have c9b0 := beq_eq_false_iff_ne.mpr c9
         have c9b1 := bne_iff_ne.mpr c9
         rw [if_neg c9] at H
         simp only [Option.some.injEq, Prod.mk.injEq] at H
         obtain ⟨rfl, rfl, rfl, rfl, rfl⟩ := H
         clear c9
         go_wp2_with (first | ((with_reducible refine zi 56 rfl ?_); refine z1f (some 40) Tryz.func56 #[.string t, .int .u8 46] rfl ?_; (with_reducible refine (spec_l3Split.calls kj t 46 l _ AL.out).mono ?_); rintro e w3 ⟨v122, rfl, ho0, hb⟩; refine ⟨_, rfl, ?_⟩; have nh_ := zn (Kd.R_lower ho0 (below_size z1r)); have n_ := zv (below_step z1r hb) (blk_below (zu BK2.out) hb) (blk_below (zu BK4.out) hb) (blk_below (zu BK6.out) hb); clear HB BK2 BK4 BK6; obtain ⟨HB, BK2, BK4, BK6⟩ := n_; have HO := nh_; clear nh_; clear hb ho0; obtain ⟨Ao4, co4, eo4⟩ := Kd.R_slice HO.out; subst eo4; obtain ⟨ad, e, hx⟩ := Kd.at_string (Kd.R_reads' HO.out).2.2 (0 : Int) z1l pl0.out; cases e; replace hx : w3.cell? ad = some (.string (rdOf ByteArray.empty l 0)) := hx) | ((with_reducible refine zi 87 rfl ?_); refine z1f (some 48) Tryz.func87 #[.string (rdOf ByteArray.empty l 0)] rfl ?_; (with_reducible refine (spec_l3Number.calls kj (rdOf ByteArray.empty l 0) x _ AN0.out).mono ?_); rintro e w' ⟨rfl, ⟨nd0, rfl⟩⟩; refine ⟨_, rfl, ?_⟩; have s0 : (w3.drewN nd0).cell? ⟨g6, 0, none⟩ = some (.int .i64 0) := (blk_cell (show ((w3.drewN nd0)).heap[g6]? = some (.cells #[.int .i64 0, .int .i64 0, .int .i64 0, .string p] 25 (0, 0)) from BK6.out) 0).trans rfl; have u0 : (w3.drewN nd0).frozen? ⟨g6, 0, none⟩ = false := blk_frozen (show ((w3.drewN nd0)).heap[g6]? = some (.cells #[.int .i64 0, .int .i64 0, .int .i64 0, .string p] 25 (0, 0)) from BK6.out) 0; have n_ := z1h ((Kd.R_set (Kd.R_drewN HO.out nd0) (show ((w3.drewN nd0)).heap[g6]? = some (.cells #[.int .i64 0, .int .i64 0, .int .i64 0, .string p] 25 (0, 0)) from BK6.out) z1l 0 (.int .i64 x) : Kd.R Kd.string 9 ((w3.drewN nd0).setCell ⟨g6, 0, none⟩ (.int .i64 x)) w.heap.size (fun _ => True) (.slice (some ad) l.length co4) l)) ((blk_far (w := (w3.drewN nd0)) (g := g2) (p := ⟨g6, 0, none⟩) (show ((w3.drewN nd0)).heap[g2]? = some (.cells #[.int .i64 0, .int .i64 0, .int .i64 0, .string ⟨#[]⟩] 25 (0, 0)) from BK2.out) NE26.out (.int .i64 x) : ((w3.drewN nd0).setCell ⟨g6, 0, none⟩ (.int .i64 x)).heap[g2]? = some (.cells #[.int .i64 0, .int .i64 0, .int .i64 0, .string ⟨#[]⟩] 25 (0, 0)))) ((blk_far (w := (w3.drewN nd0)) (g := g4) (p := ⟨g6, 0, none⟩) (show ((w3.drewN nd0)).heap[g4]? = some (.cells #[.int .i64 0, .int .i64 0, .int .i64 0, .string ⟨#[]⟩] 25 (0, 0)) from BK4.out) NE46.out (.int .i64 x) : ((w3.drewN nd0).setCell ⟨g6, 0, none⟩ (.int .i64 x)).heap[g4]? = some (.cells #[.int .i64 0, .int .i64 0, .int .i64 0, .string ⟨#[]⟩] 25 (0, 0)))) ((blk_put (w := (w3.drewN nd0)) (g := g6) (show ((w3.drewN nd0)).heap[g6]? = some (.cells #[.int .i64 0, .int .i64 0, .int .i64 0, .string p] 25 (0, 0)) from BK6.out) 0 (.int .i64 x) rfl : ((w3.drewN nd0).setCell ⟨g6, 0, none⟩ (.int .i64 x)).heap[g6]? = some (.cells #[.int .i64 x, .int .i64 0, .int .i64 0, .string p] 25 (0, 0)))) ((below_set (pw_below_drewN HB.out nd0) GE6.out : Below w.heap.size w ((w3.drewN nd0).setCell ⟨g6, 0, none⟩ (.int .i64 x)))); clear HO BK2 BK4 BK6 HB; obtain ⟨HO, BK2, BK4, BK6, HB⟩ := n_; obtain ⟨ad, e, hx⟩ := Kd.at_string (Kd.R_reads' HO.out).2.2 (1 : Int) z1l pl1.out; cases e; replace hx : ((w3.drewN nd0).setCell ⟨g6, 0, none⟩ (.int .i64 x)).cell? (⟨ad.block, ad.off + 1, none⟩ : Addr) = some (.string (rdOf ByteArray.empty l 1)) := hx) | ((with_reducible refine zi 87 rfl ?_); refine z1f (some 53) Tryz.func87 #[.string (rdOf ByteArray.empty l 1)] rfl ?_; (with_reducible refine (spec_l3Number.calls kj (rdOf ByteArray.empty l 1) y _ AN1.out).mono ?_); rintro e w' ⟨rfl, ⟨nd1, rfl⟩⟩; refine ⟨_, rfl, ?_⟩; have s1 : (((w3.drewN nd0).setCell ⟨g6, 0, none⟩ (.int .i64 x)).drewN nd1).cell? ⟨g6, 1, none⟩ = some (.int .i64 0) := (blk_cell (show ((((w3.drewN nd0).setCell ⟨g6, 0, none⟩ (.int .i64 x)).drewN nd1)).heap[g6]? = some (.cells #[.int .i64 x, .int .i64 0, .int .i64 0, .string p] 25 (0, 0)) from BK6.out) 1).trans rfl; have u1 : (((w3.drewN nd0).setCell ⟨g6, 0, none⟩ (.int .i64 x)).drewN nd1).frozen? ⟨g6, 1, none⟩ = false := blk_frozen (show ((((w3.drewN nd0).setCell ⟨g6, 0, none⟩ (.int .i64 x)).drewN nd1)).heap[g6]? = some (.cells #[.int .i64 x, .int .i64 0, .int .i64 0, .string p] 25 (0, 0)) from BK6.out) 1; have n_ := z1h ((Kd.R_set (Kd.R_drewN HO.out nd1) (show ((((w3.drewN nd0).setCell ⟨g6, 0, none⟩ (.int .i64 x)).drewN nd1)).heap[g6]? = some (.cells #[.int .i64 x, .int .i64 0, .int .i64 0, .string p] 25 (0, 0)) from BK6.out) z1l 1 (.int .i64 y) : Kd.R Kd.string 9 ((((w3.drewN nd0).setCell ⟨g6, 0, none⟩ (.int .i64 x)).drewN nd1).setCell ⟨g6, 1, none⟩ (.int .i64 y)) w.heap.size (fun _ => True) (.slice (some ad) l.length co4) l)) ((blk_far (w := (((w3.drewN nd0).setCell ⟨g6, 0, none⟩ (.int .i64 x)).drewN nd1)) (g := g2) (p := ⟨g6, 1, none⟩) (show ((((w3.drewN nd0).setCell ⟨g6, 0, none⟩ (.int .i64 x)).drewN nd1)).heap[g2]? = some (.cells #[.int .i64 0, .int .i64 0, .int .i64 0, .string ⟨#[]⟩] 25 (0, 0)) from BK2.out) NE26.out (.int .i64 y) : ((((w3.drewN nd0).setCell ⟨g6, 0, none⟩ (.int .i64 x)).drewN nd1).setCell ⟨g6, 1, none⟩ (.int .i64 y)).heap[g2]? = some (.cells #[.int .i64 0, .int .i64 0, .int .i64 0, .string ⟨#[]⟩] 25 (0, 0)))) ((blk_far (w := (((w3.drewN nd0).setCell ⟨g6, 0, none⟩ (.int .i64 x)).drewN nd1)) (g := g4) (p := ⟨g6, 1, none⟩) (show ((((w3.drewN nd0).setCell ⟨g6, 0, none⟩ (.int .i64 x)).drewN nd1)).heap[g4]? = some (.cells #[.int .i64 0, .int .i64 0, .int .i64 0, .string ⟨#[]⟩] 25 (0, 0)) from BK4.out) NE46.out (.int .i64 y) : ((((w3.drewN nd0).setCell ⟨g6, 0, none⟩ (.int .i64 x)).drewN nd1).setCell ⟨g6, 1, none⟩ (.int .i64 y)).heap[g4]? = some (.cells #[.int .i64 0, .int .i64 0, .int .i64 0, .string ⟨#[]⟩] 25 (0, 0)))) ((blk_put (w := (((w3.drewN nd0).setCell ⟨g6, 0, none⟩ (.int .i64 x)).drewN nd1)) (g := g6) (show ((((w3.drewN nd0).setCell ⟨g6, 0, none⟩ (.int .i64 x)).drewN nd1)).heap[g6]? = some (.cells #[.int .i64 x, .int .i64 0, .int .i64 0, .string p] 25 (0, 0)) from BK6.out) 1 (.int .i64 y) rfl : ((((w3.drewN nd0).setCell ⟨g6, 0, none⟩ (.int .i64 x)).drewN nd1).setCell ⟨g6, 1, none⟩ (.int .i64 y)).heap[g6]? = some (.cells #[.int .i64 x, .int .i64 y, .int .i64 0, .string p] 25 (0, 0)))) ((below_set (pw_below_drewN HB.out nd1) GE6.out : Below w.heap.size w ((((w3.drewN nd0).setCell ⟨g6, 0, none⟩ (.int .i64 x)).drewN nd1).setCell ⟨g6, 1, none⟩ (.int .i64 y)))); clear HO BK2 BK4 BK6 HB; obtain ⟨HO, BK2, BK4, BK6, HB⟩ := n_; obtain ⟨ad, e, hx⟩ := Kd.at_string (Kd.R_reads' HO.out).2.2 (2 : Int) z1l pl2.out; cases e; replace hx : ((((w3.drewN nd0).setCell ⟨g6, 0, none⟩ (.int .i64 x)).drewN nd1).setCell ⟨g6, 1, none⟩ (.int .i64 y)).cell? (⟨ad.block, ad.off + 2, none⟩ : Addr) = some (.string (rdOf ByteArray.empty l 2)) := hx) | ((with_reducible refine zi 87 rfl ?_); refine z1f (some 58) Tryz.func87 #[.string (rdOf ByteArray.empty l 2)] rfl ?_; (with_reducible refine (spec_l3Number.calls kj (rdOf ByteArray.empty l 2) z _ AN2.out).mono ?_); rintro e w' ⟨rfl, ⟨nd2, rfl⟩⟩; refine ⟨_, rfl, ?_⟩; have s2 : (((((w3.drewN nd0).setCell ⟨g6, 0, none⟩ (.int .i64 x)).drewN nd1).setCell ⟨g6, 1, none⟩ (.int .i64 y)).drewN nd2).cell? ⟨g6, 2, none⟩ = some (.int .i64 0) := (blk_cell (show ((((((w3.drewN nd0).setCell ⟨g6, 0, none⟩ (.int .i64 x)).drewN nd1).setCell ⟨g6, 1, none⟩ (.int .i64 y)).drewN nd2)).heap[g6]? = some (.cells #[.int .i64 x, .int .i64 y, .int .i64 0, .string p] 25 (0, 0)) from BK6.out) 2).trans rfl; have u2 : (((((w3.drewN nd0).setCell ⟨g6, 0, none⟩ (.int .i64 x)).drewN nd1).setCell ⟨g6, 1, none⟩ (.int .i64 y)).drewN nd2).frozen? ⟨g6, 2, none⟩ = false := blk_frozen (show ((((((w3.drewN nd0).setCell ⟨g6, 0, none⟩ (.int .i64 x)).drewN nd1).setCell ⟨g6, 1, none⟩ (.int .i64 y)).drewN nd2)).heap[g6]? = some (.cells #[.int .i64 x, .int .i64 y, .int .i64 0, .string p] 25 (0, 0)) from BK6.out) 2; have n_ := z1h ((Kd.R_set (Kd.R_drewN HO.out nd2) (show ((((((w3.drewN nd0).setCell ⟨g6, 0, none⟩ (.int .i64 x)).drewN nd1).setCell ⟨g6, 1, none⟩ (.int .i64 y)).drewN nd2)).heap[g6]? = some (.cells #[.int .i64 x, .int .i64 y, .int .i64 0, .string p] 25 (0, 0)) from BK6.out) z1l 2 (.int .i64 z) : Kd.R Kd.string 9 ((((((w3.drewN nd0).setCell ⟨g6, 0, none⟩ (.int .i64 x)).drewN nd1).setCell ⟨g6, 1, none⟩ (.int .i64 y)).drewN nd2).setCell ⟨g6, 2, none⟩ (.int .i64 z)) w.heap.size (fun _ => True) (.slice (some ad) l.length co4) l)) ((blk_far (w := (((((w3.drewN nd0).setCell ⟨g6, 0, none⟩ (.int .i64 x)).drewN nd1).setCell ⟨g6, 1, none⟩ (.int .i64 y)).drewN nd2)) (g := g2) (p := ⟨g6, 2, none⟩) (show ((((((w3.drewN nd0).setCell ⟨g6, 0, none⟩ (.int .i64 x)).drewN nd1).setCell ⟨g6, 1, none⟩ (.int .i64 y)).drewN nd2)).heap[g2]? = some (.cells #[.int .i64 0, .int .i64 0, .int .i64 0, .string ⟨#[]⟩] 25 (0, 0)) from BK2.out) NE26.out (.int .i64 z) : ((((((w3.drewN nd0).setCell ⟨g6, 0, none⟩ (.int .i64 x)).drewN nd1).setCell ⟨g6, 1, none⟩ (.int .i64 y)).drewN nd2).setCell ⟨g6, 2, none⟩ (.int .i64 z)).heap[g2]? = some (.cells #[.int .i64 0, .int .i64 0, .int .i64 0, .string ⟨#[]⟩] 25 (0, 0)))) ((blk_far (w := (((((w3.drewN nd0).setCell ⟨g6, 0, none⟩ (.int .i64 x)).drewN nd1).setCell ⟨g6, 1, none⟩ (.int .i64 y)).drewN nd2)) (g := g4) (p := ⟨g6, 2, none⟩) (show ((((((w3.drewN nd0).setCell ⟨g6, 0, none⟩ (.int .i64 x)).drewN nd1).setCell ⟨g6, 1, none⟩ (.int .i64 y)).drewN nd2)).heap[g4]? = some (.cells #[.int .i64 0, .int .i64 0, .int .i64 0, .string ⟨#[]⟩] 25 (0, 0)) from BK4.out) NE46.out (.int .i64 z) : ((((((w3.drewN nd0).setCell ⟨g6, 0, none⟩ (.int .i64 x)).drewN nd1).setCell ⟨g6, 1, none⟩ (.int .i64 y)).drewN nd2).setCell ⟨g6, 2, none⟩ (.int .i64 z)).heap[g4]? = some (.cells #[.int .i64 0, .int .i64 0, .int .i64 0, .string ⟨#[]⟩] 25 (0, 0)))) ((blk_put (w := (((((w3.drewN nd0).setCell ⟨g6, 0, none⟩ (.int .i64 x)).drewN nd1).setCell ⟨g6, 1, none⟩ (.int .i64 y)).drewN nd2)) (g := g6) (show ((((((w3.drewN nd0).setCell ⟨g6, 0, none⟩ (.int .i64 x)).drewN nd1).setCell ⟨g6, 1, none⟩ (.int .i64 y)).drewN nd2)).heap[g6]? = some (.cells #[.int .i64 x, .int .i64 y, .int .i64 0, .string p] 25 (0, 0)) from BK6.out) 2 (.int .i64 z) rfl : ((((((w3.drewN nd0).setCell ⟨g6, 0, none⟩ (.int .i64 x)).drewN nd1).setCell ⟨g6, 1, none⟩ (.int .i64 y)).drewN nd2).setCell ⟨g6, 2, none⟩ (.int .i64 z)).heap[g6]? = some (.cells #[.int .i64 x, .int .i64 y, .int .i64 z, .string p] 25 (0, 0)))) ((below_set (pw_below_drewN HB.out nd2) GE6.out : Below w.heap.size w ((((((w3.drewN nd0).setCell ⟨g6, 0, none⟩ (.int .i64 x)).drewN nd1).setCell ⟨g6, 1, none⟩ (.int .i64 y)).drewN nd2).setCell ⟨g6, 2, none⟩ (.int .i64 z)))); clear HO BK2 BK4 BK6 HB; obtain ⟨HO, BK2, BK4, BK6, HB⟩ := n_; obtain ⟨e0, e1, e2, e3⟩ := zd BK6.out) | ((with_reducible refine zi 68 rfl ?_); refine z1f (some 61) Tryz.func68 #[.agg #[.int .i64 x, .int .i64 y, .int .i64 z, .string p]] rfl ?_; (with_reducible refine (spec_VersionOk.calls kj x y z p true _ AB.out).mono ?_); rintro e w8 ⟨rfl, hb⟩; refine ⟨_, rfl, ?_⟩; clear e0 e1 e2 e3; have n_ := zv (below_step z1r hb) (blk_below (zu BK2.out) hb) (blk_below (zu BK4.out) hb) (blk_below (zu BK6.out) hb); clear HB BK2 BK4 BK6; obtain ⟨HB, BK2, BK4, BK6⟩ := n_; clear hb; obtain ⟨e0, e1, e2, e3⟩ := zd BK6.out) | (go_at_call 86; (with_reducible refine (spec_VersionText.calls kj x y z p tx _ AT.out).mono ?_); rintro e w9 ⟨rfl, hb⟩; clear e0 e1 e2 e3; have n_ := zv (below_step z1r hb) (blk_below (zu BK2.out) hb) (blk_below (zu BK4.out) hb) (blk_below (zu BK6.out) hb); clear HB BK2 BK4 BK6; obtain ⟨HB, BK2, BK4, BK6⟩ := n_; clear hb; obtain ⟨d0, d1, d2, d3, f0, f1, f2, f3⟩ := zf BK2.out; obtain ⟨m0, m1, m2, m3⟩ := zd BK4.out))
         refine bodyPost_ret (results_ct rfl _ _ g2 25 #[.int .i64 0, .int .i64 0, .int .i64 0, .string ⟨#[]⟩] (0, 0) _ rfl (spec_ParseVersion.four BK2.out _ _ _ _) hu27 rfl z1m) rfl ?_
         exact ⟨rfl, spec_ParseVersion.fourB z1r GE2.out _ _ _ _⟩
       | false =>
        replace H : some (0, 0, 0, (⟨#[]⟩ : ByteArray), false) = some (r1, r2, r3, r4, r5) := H
        simp only [Option.some.injEq, Prod.mk.injEq] at H
        obtain ⟨rfl, rfl, rfl, rfl, rfl⟩ := H
        go_wp2_with (first | ((with_reducible refine zi 56 rfl ?_); refine z1f (some 40) Tryz.func56 #[.string t, .int .u8 46] rfl ?_; (with_reducible refine (spec_l3Split.calls kj t 46 l _ AL.out).mono ?_); rintro e w3 ⟨v122, rfl, ho0, hb⟩; refine ⟨_, rfl, ?_⟩; have nh_ := zn (Kd.R_lower ho0 (below_size z1r)); have n_ := zv (below_step z1r hb) (blk_below (zu BK2.out) hb) (blk_below (zu BK4.out) hb) (blk_below (zu BK6.out) hb); clear HB BK2 BK4 BK6; obtain ⟨HB, BK2, BK4, BK6⟩ := n_; have HO := nh_; clear nh_; clear hb ho0; obtain ⟨Ao4, co4, eo4⟩ := Kd.R_slice HO.out; subst eo4; obtain ⟨ad, e, hx⟩ := Kd.at_string (Kd.R_reads' HO.out).2.2 (0 : Int) z1l pl0.out; cases e; replace hx : w3.cell? ad = some (.string (rdOf ByteArray.empty l 0)) := hx) | ((with_reducible refine zi 87 rfl ?_); refine z1f (some 48) Tryz.func87 #[.string (rdOf ByteArray.empty l 0)] rfl ?_; (with_reducible refine (spec_l3Number.calls kj (rdOf ByteArray.empty l 0) x _ AN0.out).mono ?_); rintro e w' ⟨rfl, ⟨nd0, rfl⟩⟩; refine ⟨_, rfl, ?_⟩; have s0 : (w3.drewN nd0).cell? ⟨g6, 0, none⟩ = some (.int .i64 0) := (blk_cell (show ((w3.drewN nd0)).heap[g6]? = some (.cells #[.int .i64 0, .int .i64 0, .int .i64 0, .string p] 25 (0, 0)) from BK6.out) 0).trans rfl; have u0 : (w3.drewN nd0).frozen? ⟨g6, 0, none⟩ = false := blk_frozen (show ((w3.drewN nd0)).heap[g6]? = some (.cells #[.int .i64 0, .int .i64 0, .int .i64 0, .string p] 25 (0, 0)) from BK6.out) 0; have n_ := z1h ((Kd.R_set (Kd.R_drewN HO.out nd0) (show ((w3.drewN nd0)).heap[g6]? = some (.cells #[.int .i64 0, .int .i64 0, .int .i64 0, .string p] 25 (0, 0)) from BK6.out) z1l 0 (.int .i64 x) : Kd.R Kd.string 9 ((w3.drewN nd0).setCell ⟨g6, 0, none⟩ (.int .i64 x)) w.heap.size (fun _ => True) (.slice (some ad) l.length co4) l)) ((blk_far (w := (w3.drewN nd0)) (g := g2) (p := ⟨g6, 0, none⟩) (show ((w3.drewN nd0)).heap[g2]? = some (.cells #[.int .i64 0, .int .i64 0, .int .i64 0, .string ⟨#[]⟩] 25 (0, 0)) from BK2.out) NE26.out (.int .i64 x) : ((w3.drewN nd0).setCell ⟨g6, 0, none⟩ (.int .i64 x)).heap[g2]? = some (.cells #[.int .i64 0, .int .i64 0, .int .i64 0, .string ⟨#[]⟩] 25 (0, 0)))) ((blk_far (w := (w3.drewN nd0)) (g := g4) (p := ⟨g6, 0, none⟩) (show ((w3.drewN nd0)).heap[g4]? = some (.cells #[.int .i64 0, .int .i64 0, .int .i64 0, .string ⟨#[]⟩] 25 (0, 0)) from BK4.out) NE46.out (.int .i64 x) : ((w3.drewN nd0).setCell ⟨g6, 0, none⟩ (.int .i64 x)).heap[g4]? = some (.cells #[.int .i64 0, .int .i64 0, .int .i64 0, .string ⟨#[]⟩] 25 (0, 0)))) ((blk_put (w := (w3.drewN nd0)) (g := g6) (show ((w3.drewN nd0)).heap[g6]? = some (.cells #[.int .i64 0, .int .i64 0, .int .i64 0, .string p] 25 (0, 0)) from BK6.out) 0 (.int .i64 x) rfl : ((w3.drewN nd0).setCell ⟨g6, 0, none⟩ (.int .i64 x)).heap[g6]? = some (.cells #[.int .i64 x, .int .i64 0, .int .i64 0, .string p] 25 (0, 0)))) ((below_set (pw_below_drewN HB.out nd0) GE6.out : Below w.heap.size w ((w3.drewN nd0).setCell ⟨g6, 0, none⟩ (.int .i64 x)))); clear HO BK2 BK4 BK6 HB; obtain ⟨HO, BK2, BK4, BK6, HB⟩ := n_; obtain ⟨ad, e, hx⟩ := Kd.at_string (Kd.R_reads' HO.out).2.2 (1 : Int) z1l pl1.out; cases e; replace hx : ((w3.drewN nd0).setCell ⟨g6, 0, none⟩ (.int .i64 x)).cell? (⟨ad.block, ad.off + 1, none⟩ : Addr) = some (.string (rdOf ByteArray.empty l 1)) := hx) | ((with_reducible refine zi 87 rfl ?_); refine z1f (some 53) Tryz.func87 #[.string (rdOf ByteArray.empty l 1)] rfl ?_; (with_reducible refine (spec_l3Number.calls kj (rdOf ByteArray.empty l 1) y _ AN1.out).mono ?_); rintro e w' ⟨rfl, ⟨nd1, rfl⟩⟩; refine ⟨_, rfl, ?_⟩; have s1 : (((w3.drewN nd0).setCell ⟨g6, 0, none⟩ (.int .i64 x)).drewN nd1).cell? ⟨g6, 1, none⟩ = some (.int .i64 0) := (blk_cell (show ((((w3.drewN nd0).setCell ⟨g6, 0, none⟩ (.int .i64 x)).drewN nd1)).heap[g6]? = some (.cells #[.int .i64 x, .int .i64 0, .int .i64 0, .string p] 25 (0, 0)) from BK6.out) 1).trans rfl; have u1 : (((w3.drewN nd0).setCell ⟨g6, 0, none⟩ (.int .i64 x)).drewN nd1).frozen? ⟨g6, 1, none⟩ = false := blk_frozen (show ((((w3.drewN nd0).setCell ⟨g6, 0, none⟩ (.int .i64 x)).drewN nd1)).heap[g6]? = some (.cells #[.int .i64 x, .int .i64 0, .int .i64 0, .string p] 25 (0, 0)) from BK6.out) 1; have n_ := z1h ((Kd.R_set (Kd.R_drewN HO.out nd1) (show ((((w3.drewN nd0).setCell ⟨g6, 0, none⟩ (.int .i64 x)).drewN nd1)).heap[g6]? = some (.cells #[.int .i64 x, .int .i64 0, .int .i64 0, .string p] 25 (0, 0)) from BK6.out) z1l 1 (.int .i64 y) : Kd.R Kd.string 9 ((((w3.drewN nd0).setCell ⟨g6, 0, none⟩ (.int .i64 x)).drewN nd1).setCell ⟨g6, 1, none⟩ (.int .i64 y)) w.heap.size (fun _ => True) (.slice (some ad) l.length co4) l)) ((blk_far (w := (((w3.drewN nd0).setCell ⟨g6, 0, none⟩ (.int .i64 x)).drewN nd1)) (g := g2) (p := ⟨g6, 1, none⟩) (show ((((w3.drewN nd0).setCell ⟨g6, 0, none⟩ (.int .i64 x)).drewN nd1)).heap[g2]? = some (.cells #[.int .i64 0, .int .i64 0, .int .i64 0, .string ⟨#[]⟩] 25 (0, 0)) from BK2.out) NE26.out (.int .i64 y) : ((((w3.drewN nd0).setCell ⟨g6, 0, none⟩ (.int .i64 x)).drewN nd1).setCell ⟨g6, 1, none⟩ (.int .i64 y)).heap[g2]? = some (.cells #[.int .i64 0, .int .i64 0, .int .i64 0, .string ⟨#[]⟩] 25 (0, 0)))) ((blk_far (w := (((w3.drewN nd0).setCell ⟨g6, 0, none⟩ (.int .i64 x)).drewN nd1)) (g := g4) (p := ⟨g6, 1, none⟩) (show ((((w3.drewN nd0).setCell ⟨g6, 0, none⟩ (.int .i64 x)).drewN nd1)).heap[g4]? = some (.cells #[.int .i64 0, .int .i64 0, .int .i64 0, .string ⟨#[]⟩] 25 (0, 0)) from BK4.out) NE46.out (.int .i64 y) : ((((w3.drewN nd0).setCell ⟨g6, 0, none⟩ (.int .i64 x)).drewN nd1).setCell ⟨g6, 1, none⟩ (.int .i64 y)).heap[g4]? = some (.cells #[.int .i64 0, .int .i64 0, .int .i64 0, .string ⟨#[]⟩] 25 (0, 0)))) ((blk_put (w := (((w3.drewN nd0).setCell ⟨g6, 0, none⟩ (.int .i64 x)).drewN nd1)) (g := g6) (show ((((w3.drewN nd0).setCell ⟨g6, 0, none⟩ (.int .i64 x)).drewN nd1)).heap[g6]? = some (.cells #[.int .i64 x, .int .i64 0, .int .i64 0, .string p] 25 (0, 0)) from BK6.out) 1 (.int .i64 y) rfl : ((((w3.drewN nd0).setCell ⟨g6, 0, none⟩ (.int .i64 x)).drewN nd1).setCell ⟨g6, 1, none⟩ (.int .i64 y)).heap[g6]? = some (.cells #[.int .i64 x, .int .i64 y, .int .i64 0, .string p] 25 (0, 0)))) ((below_set (pw_below_drewN HB.out nd1) GE6.out : Below w.heap.size w ((((w3.drewN nd0).setCell ⟨g6, 0, none⟩ (.int .i64 x)).drewN nd1).setCell ⟨g6, 1, none⟩ (.int .i64 y)))); clear HO BK2 BK4 BK6 HB; obtain ⟨HO, BK2, BK4, BK6, HB⟩ := n_; obtain ⟨ad, e, hx⟩ := Kd.at_string (Kd.R_reads' HO.out).2.2 (2 : Int) z1l pl2.out; cases e; replace hx : ((((w3.drewN nd0).setCell ⟨g6, 0, none⟩ (.int .i64 x)).drewN nd1).setCell ⟨g6, 1, none⟩ (.int .i64 y)).cell? (⟨ad.block, ad.off + 2, none⟩ : Addr) = some (.string (rdOf ByteArray.empty l 2)) := hx) | ((with_reducible refine zi 87 rfl ?_); refine z1f (some 58) Tryz.func87 #[.string (rdOf ByteArray.empty l 2)] rfl ?_; (with_reducible refine (spec_l3Number.calls kj (rdOf ByteArray.empty l 2) z _ AN2.out).mono ?_); rintro e w' ⟨rfl, ⟨nd2, rfl⟩⟩; refine ⟨_, rfl, ?_⟩; have s2 : (((((w3.drewN nd0).setCell ⟨g6, 0, none⟩ (.int .i64 x)).drewN nd1).setCell ⟨g6, 1, none⟩ (.int .i64 y)).drewN nd2).cell? ⟨g6, 2, none⟩ = some (.int .i64 0) := (blk_cell (show ((((((w3.drewN nd0).setCell ⟨g6, 0, none⟩ (.int .i64 x)).drewN nd1).setCell ⟨g6, 1, none⟩ (.int .i64 y)).drewN nd2)).heap[g6]? = some (.cells #[.int .i64 x, .int .i64 y, .int .i64 0, .string p] 25 (0, 0)) from BK6.out) 2).trans rfl; have u2 : (((((w3.drewN nd0).setCell ⟨g6, 0, none⟩ (.int .i64 x)).drewN nd1).setCell ⟨g6, 1, none⟩ (.int .i64 y)).drewN nd2).frozen? ⟨g6, 2, none⟩ = false := blk_frozen (show ((((((w3.drewN nd0).setCell ⟨g6, 0, none⟩ (.int .i64 x)).drewN nd1).setCell ⟨g6, 1, none⟩ (.int .i64 y)).drewN nd2)).heap[g6]? = some (.cells #[.int .i64 x, .int .i64 y, .int .i64 0, .string p] 25 (0, 0)) from BK6.out) 2; have n_ := z1h ((Kd.R_set (Kd.R_drewN HO.out nd2) (show ((((((w3.drewN nd0).setCell ⟨g6, 0, none⟩ (.int .i64 x)).drewN nd1).setCell ⟨g6, 1, none⟩ (.int .i64 y)).drewN nd2)).heap[g6]? = some (.cells #[.int .i64 x, .int .i64 y, .int .i64 0, .string p] 25 (0, 0)) from BK6.out) z1l 2 (.int .i64 z) : Kd.R Kd.string 9 ((((((w3.drewN nd0).setCell ⟨g6, 0, none⟩ (.int .i64 x)).drewN nd1).setCell ⟨g6, 1, none⟩ (.int .i64 y)).drewN nd2).setCell ⟨g6, 2, none⟩ (.int .i64 z)) w.heap.size (fun _ => True) (.slice (some ad) l.length co4) l)) ((blk_far (w := (((((w3.drewN nd0).setCell ⟨g6, 0, none⟩ (.int .i64 x)).drewN nd1).setCell ⟨g6, 1, none⟩ (.int .i64 y)).drewN nd2)) (g := g2) (p := ⟨g6, 2, none⟩) (show ((((((w3.drewN nd0).setCell ⟨g6, 0, none⟩ (.int .i64 x)).drewN nd1).setCell ⟨g6, 1, none⟩ (.int .i64 y)).drewN nd2)).heap[g2]? = some (.cells #[.int .i64 0, .int .i64 0, .int .i64 0, .string ⟨#[]⟩] 25 (0, 0)) from BK2.out) NE26.out (.int .i64 z) : ((((((w3.drewN nd0).setCell ⟨g6, 0, none⟩ (.int .i64 x)).drewN nd1).setCell ⟨g6, 1, none⟩ (.int .i64 y)).drewN nd2).setCell ⟨g6, 2, none⟩ (.int .i64 z)).heap[g2]? = some (.cells #[.int .i64 0, .int .i64 0, .int .i64 0, .string ⟨#[]⟩] 25 (0, 0)))) ((blk_far (w := (((((w3.drewN nd0).setCell ⟨g6, 0, none⟩ (.int .i64 x)).drewN nd1).setCell ⟨g6, 1, none⟩ (.int .i64 y)).drewN nd2)) (g := g4) (p := ⟨g6, 2, none⟩) (show ((((((w3.drewN nd0).setCell ⟨g6, 0, none⟩ (.int .i64 x)).drewN nd1).setCell ⟨g6, 1, none⟩ (.int .i64 y)).drewN nd2)).heap[g4]? = some (.cells #[.int .i64 0, .int .i64 0, .int .i64 0, .string ⟨#[]⟩] 25 (0, 0)) from BK4.out) NE46.out (.int .i64 z) : ((((((w3.drewN nd0).setCell ⟨g6, 0, none⟩ (.int .i64 x)).drewN nd1).setCell ⟨g6, 1, none⟩ (.int .i64 y)).drewN nd2).setCell ⟨g6, 2, none⟩ (.int .i64 z)).heap[g4]? = some (.cells #[.int .i64 0, .int .i64 0, .int .i64 0, .string ⟨#[]⟩] 25 (0, 0)))) ((blk_put (w := (((((w3.drewN nd0).setCell ⟨g6, 0, none⟩ (.int .i64 x)).drewN nd1).setCell ⟨g6, 1, none⟩ (.int .i64 y)).drewN nd2)) (g := g6) (show ((((((w3.drewN nd0).setCell ⟨g6, 0, none⟩ (.int .i64 x)).drewN nd1).setCell ⟨g6, 1, none⟩ (.int .i64 y)).drewN nd2)).heap[g6]? = some (.cells #[.int .i64 x, .int .i64 y, .int .i64 0, .string p] 25 (0, 0)) from BK6.out) 2 (.int .i64 z) rfl : ((((((w3.drewN nd0).setCell ⟨g6, 0, none⟩ (.int .i64 x)).drewN nd1).setCell ⟨g6, 1, none⟩ (.int .i64 y)).drewN nd2).setCell ⟨g6, 2, none⟩ (.int .i64 z)).heap[g6]? = some (.cells #[.int .i64 x, .int .i64 y, .int .i64 z, .string p] 25 (0, 0)))) ((below_set (pw_below_drewN HB.out nd2) GE6.out : Below w.heap.size w ((((((w3.drewN nd0).setCell ⟨g6, 0, none⟩ (.int .i64 x)).drewN nd1).setCell ⟨g6, 1, none⟩ (.int .i64 y)).drewN nd2).setCell ⟨g6, 2, none⟩ (.int .i64 z)))); clear HO BK2 BK4 BK6 HB; obtain ⟨HO, BK2, BK4, BK6, HB⟩ := n_; obtain ⟨e0, e1, e2, e3⟩ := zd BK6.out) | ((with_reducible refine zi 68 rfl ?_); refine z1f (some 61) Tryz.func68 #[.agg #[.int .i64 x, .int .i64 y, .int .i64 z, .string p]] rfl ?_; (with_reducible refine (spec_VersionOk.calls kj x y z p false _ AB.out).mono ?_); rintro e w8 ⟨rfl, hb⟩; refine ⟨_, rfl, ?_⟩; clear e0 e1 e2 e3; have n_ := zv (below_step z1r hb) (blk_below (zu BK2.out) hb) (blk_below (zu BK4.out) hb) (blk_below (zu BK6.out) hb); clear HB BK2 BK4 BK6; obtain ⟨HB, BK2, BK4, BK6⟩ := n_; clear hb; obtain ⟨d0, d1, d2, d3, f0, f1, f2, f3⟩ := zf BK2.out; obtain ⟨m0, m1, m2, m3⟩ := zd BK4.out))
        refine bodyPost_ret (results_ct rfl _ _ g2 25 #[.int .i64 0, .int .i64 0, .int .i64 0, .string ⟨#[]⟩] (0, 0) _ rfl (spec_ParseVersion.four BK2.out _ _ _ _) hu27 rfl z1m) rfl ?_
        exact ⟨rfl, spec_ParseVersion.fourB z1r GE2.out _ _ _ _⟩
      ·replace H : some (0, 0, 0, (⟨#[]⟩ : ByteArray), false) = some (r1, r2, r3, r4, r5) := by rw [if_neg c5] at H; exact H
       simp only [Option.some.injEq, Prod.mk.injEq] at H
       obtain ⟨rfl, rfl, rfl, rfl, rfl⟩ := H
       have c5b0 : ((l.length : Int) != 3) = true := bne_iff_ne.mpr z1k
       have c5b1 : ((l.length : Int) == 3) = false := beq_eq_false_iff_ne.mpr z1k
       clear c5
       go_wp2_with (first | ((with_reducible refine zi 56 rfl ?_); refine z1f (some 40) Tryz.func56 #[.string t, .int .u8 46] rfl ?_; (with_reducible refine (spec_l3Split.calls kj t 46 l _ AL.out).mono ?_); rintro e w3 ⟨v122, rfl, ho0, hb⟩; refine ⟨_, rfl, ?_⟩; have nh_ := zn (Kd.R_lower ho0 (below_size z1r)); have n_ := zv (below_step z1r hb) (blk_below (zu BK2.out) hb) (blk_below (zu BK4.out) hb) (blk_below (zu BK6.out) hb); clear HB BK2 BK4 BK6; obtain ⟨HB, BK2, BK4, BK6⟩ := n_; have HO := nh_; clear nh_; clear hb ho0; obtain ⟨Ao4, co4, eo4⟩ := Kd.R_slice HO.out; subst eo4; obtain ⟨d0, d1, d2, d3, f0, f1, f2, f3⟩ := zf BK2.out; obtain ⟨m0, m1, m2, m3⟩ := zd BK4.out))
       refine bodyPost_ret (results_ct rfl _ _ g2 25 #[.int .i64 0, .int .i64 0, .int .i64 0, .string ⟨#[]⟩] (0, 0) _ rfl (spec_ParseVersion.four BK2.out _ _ _ _) hu27 rfl z1m) rfl ?_
       exact ⟨rfl, spec_ParseVersion.fourB z1r GE2.out _ _ _ _⟩
    ·rw [if_neg c4] at h
     cases h
   ·rw [if_neg c3] at h
    have c3b0 := beq_eq_false_iff_ne.mpr c3
    have c3b1 := bne_iff_ne.mpr c3
    simp only [Option.some.injEq, Prod.mk.injEq] at h
    obtain ⟨rfl, rfl, rfl, rfl, rfl⟩ := h
    clear c1 c2 c3
    go_enter Tryz.func57, Tryz.ntmps57
    go_wp2_with (first | ((with_reducible refine zr 2 rfl ?_); refine zt 25 #[.int .i64 0, .int .i64 0, .int .i64 0, .string ⟨#[]⟩] ?_; intro g2 hg w2 hbox hb; have n_ := z1c (below_step z1r hb) hbox (z8j : w.heap.size ≤ g2); clear HB; obtain ⟨HB, BK2, GE2⟩ := n_; clear hb hbox hg) | ((with_reducible refine zr 4 rfl ?_); refine zt 25 #[.int .i64 0, .int .i64 0, .int .i64 0, .string ⟨#[]⟩] ?_; intro g4 hg w4 hbox hb; have n_ := z1h (blk_below (zu BK2.out) hb) (z4d : g2 ≠ g4) (below_step z1r hb) hbox (z8j : w.heap.size ≤ g4); clear BK2 HB; obtain ⟨BK2, NE24, HB, BK4, GE4⟩ := n_; clear hb hbox hg; obtain ⟨i4_0, i4_1, i4_2, i4_3, j4_0, j4_1, j4_2, j4_3⟩ := zf BK4.out; have n_ := z1c (spec_ParseVersion.fourF BK2.out NE24.out (.int .i64 0) (.int .i64 0) (.int .i64 0) (.string ⟨#[]⟩)) (spec_ParseVersion.four BK4.out (.int .i64 0) (.int .i64 0) (.int .i64 0) (.string ⟨#[]⟩)) (spec_ParseVersion.fourB HB.out GE4.out (.int .i64 0) (.int .i64 0) (.int .i64 0) (.string ⟨#[]⟩)); clear BK2 BK4 HB; obtain ⟨BK2, BK4, HB⟩ := n_; obtain ⟨d0, d1, d2, d3, f0, f1, f2, f3⟩ := zf BK2.out; obtain ⟨m0, m1, m2, m3⟩ := zd BK4.out))
    refine bodyPost_ret (results_ct rfl _ _ g2 25 #[.int .i64 0, .int .i64 0, .int .i64 0, .string ⟨#[]⟩] (0, 0) _ rfl (spec_ParseVersion.four BK2.out _ _ _ _) hu27 rfl z1m) rfl ?_
    exact ⟨rfl, spec_ParseVersion.fourB z1r GE2.out _ _ _ _⟩
  ·rw [if_neg c2] at h
   cases h
def spec_ParseName.f (k : Nat) (a0 : ByteArray) : Option (ByteArray × Int × Int × Int × ByteArray × Bool) := (spec_l3Split.f k a0 64).bind fun t473 => (if (t473.length : Int) = 2 then (if 1 < (t473.length : Int) then ((spec_ParseVersion.f k (rdOf ByteArray.empty t473 1)).bind fun bt477 => (if bt477.2.2.2.2 = true then (if 0 < (t473.length : Int) then ((spec_Fits.f k (rdOf ByteArray.empty t473 0) bt477.1 bt477.2.1 bt477.2.2.1 bt477.2.2.2.1).bind fun t484 => (if t484 = true then (some (rdOf ByteArray.empty t473 0, bt477.1, bt477.2.1, bt477.2.2.1, bt477.2.2.2.1, true)) else (some ((⟨#[]⟩ : ByteArray), 0, 0, 0, (⟨#[]⟩ : ByteArray), false)))) else (none)) else (some ((⟨#[]⟩ : ByteArray), 0, 0, 0, (⟨#[]⟩ : ByteArray), false)))) else (none)) else (some ((⟨#[]⟩ : ByteArray), 0, 0, 0, (⟨#[]⟩ : ByteArray), false)))
def spec_ParseName.T5 : Bool × List (List Nat × List Nat) := (true, [([], []), ([0], [0]), ([1], [1]), ([2], [2]), ([3, 2], [2, 3]), ([4, 2], [2, 4]), ([2], [2]), ([5, 6, 2, 2], [2, 5, 6]), ([7, 2], [2, 7]), ([2, 8], [2, 8])])
def spec_ParseName.B5 : List Nat := [0, 1, 3, 7, 15, 31, 7, 127, 255, 511]
theorem spec_ParseName.tab5 : rtab .any (opsOf Tryz.f24 5) = spec_ParseName.T5 := by kernel_rfl
theorem spec_ParseName.bits5 : waitsOk spec_ParseName.T5.2 spec_ParseName.B5 = true := by kernel_rfl
set_option maxHeartbeats 8000000 in
set_option maxRecDepth 100000 in
theorem spec_ParseName.calls (k : Nat) (a0 : ByteArray) (r1 : ByteArray) (r2 : Int) (r3 : Int) (r4 : Int) (r5 : ByteArray) (r6 : Bool) (w : World) (h : spec_ParseName.f k a0 = some (r1, r2, r3, r4, r5, r6)) :
  Calls Tryz.prog 24 #[.string a0] w fun e w' => e = .returned (.tuple #[.agg #[.string r1, .int .i64 r2, .int .i64 r3, .int .i64 r4, .string r5], .bool r6]) ∧ Below w.heap.size w w' := by
 have hu35 := Tryz.underlying35
 have hu25 := Tryz.underlying25
 have HB := zn (Below.refl w.heap.size w)
 have H := h
 unfold spec_ParseName.f at H
 clear h
 obtain ⟨t473, A2, H⟩ := zm H
 try dsimp only at H
 by_cases c3 : (t473.length : Int) = 2
 ·rw [if_pos c3] at H
  have c3b0 := beq_iff_eq.mpr c3
  have c3b1 := bne_eq_false_iff_eq.mpr c3
  clear c3
  by_cases c4 : 1 < (t473.length : Int)
  ·rw [if_pos c4] at H
   have c4b0 := decide_eq_true c4
   have c4b1 : decide (1 < t473.length) = true := decide_eq_true z1k
   clear c4
   obtain ⟨⟨t477, t478, t479, t480, t481⟩, A5, H⟩ := zm H
   try dsimp only at H
   by_cases c6 : t481 = true
   ·subst c6
    rw [if_pos rfl] at H
    by_cases c7 : 0 < (t473.length : Int)
    ·rw [if_pos c7] at H
     have c7b0 := decide_eq_true c7
     have c7b1 : decide (0 < t473.length) = true := decide_eq_true z1k
     clear c7
     obtain ⟨t484, A8, H⟩ := zm H
     try dsimp only at H
     by_cases c9 : t484 = true
     ·subst c9
      rw [if_pos rfl] at H
      simp only [Option.some.injEq, Prod.mk.injEq] at H
      obtain ⟨rfl, rfl, rfl, rfl, rfl, rfl⟩ := H
      go_enter Tryz.func24, Tryz.ntmps24
      try go_wp2_with (first | ((with_reducible refine zr 2 rfl ?_); refine zt 35 #[.string ⟨#[]⟩, .int .i64 0, .int .i64 0, .int .i64 0, .string ⟨#[]⟩] ?_; intro gb472 hg w10 hbox hb; have n_ := zv (below_step z1r hb) hbox (z8j : w.heap.size ≤ gb472) (z8j : w.heap.size ≤ gb472); clear HB; obtain ⟨HB, BK472, GW472, GE472⟩ := n_; clear hb hbox hg) | ((with_reducible refine zi 56 rfl ?_); refine zj (some 8) Tryz.func56 #[.string a0, .int .u8 64] rfl ?_; (with_reducible refine (spec_l3Split.calls k a0 64 t473 _ A2.out).mono ?_); rintro e w11 ⟨v474, rfl, ho0, hb⟩; refine ⟨_, rfl, ?_⟩; have n_ := z1c (Kd.R_lower ho0 (below_size z4e)) (blk_below (zu BK472.out) hb) (below_step z4e hb); clear BK472 HB; obtain ⟨HO475, BK472, HB⟩ := n_; (try clear hb); (try clear ho0); obtain ⟨Ao12, co12, eo12⟩ := Kd.R_slice HO475.out; subst eo12; have p476 : 0 ≤ (1 : Int) := z1k; have q476 : 1 < (t473.length : Int) := of_decide_eq_true z1p; obtain ⟨ad476, e476, hx476_0⟩ := Kd.at_string (Kd.R_reads' HO475.out).2.2 1 p476 q476; cases e476; (try simp only [show (1 : Int).toNat = 1 from rfl, Nat.reduceMul, Nat.reduceEqDiff, Go.Addr.add, ↓reduceIte] at hx476_0); have qi476 : (1 < t473.length) = True := eq_true z1k; (try rw [show ((1 : Int)).toNat = 1 from rfl] at hx476_0); replace p476 := eq_true p476; replace q476 := eq_true q476) | ((with_reducible refine zi 57 rfl ?_); refine zj (some 17) Tryz.func57 #[.string (rdOf ByteArray.empty t473 1)] rfl ?_; (with_reducible refine (spec_ParseVersion.calls k (rdOf ByteArray.empty t473 1) t477 t478 t479 t480 true _ A5.out).mono ?_); rintro e w13 ⟨rfl, hb⟩; refine ⟨_, rfl, ?_⟩; have n_ := z1c (Kd.R_below z4f hb) (blk_below (zu BK472.out) hb) (below_step z4e hb); clear HO475 BK472 HB; obtain ⟨HO475, BK472, HB⟩ := n_; (try clear hb)) | ((with_reducible refine zr 5 rfl ?_); refine zt 25 #[.int .i64 0, .int .i64 0, .int .i64 0, .string ⟨#[]⟩] ?_; intro gb482 hg w14 hbox hb; have n_ := z1e (Kd.R_below z4f hb) (blk_below (zu BK472.out) hb) (below_step z4e hb) hbox (z8p : w.heap.size ≤ gb482) (z8p : w.heap.size ≤ gb482) (z4g : gb472 ≠ gb482) (z4h : gb482 ≠ gb472); clear HO475 BK472 HB; obtain ⟨HO475, BK472, HB, BK482, GW482, GE482, NB472_482, NB482_472⟩ := n_; clear hb hbox hg; have hnb15 := NB482_472.out; have hnc15 := NB472_482.out; obtain ⟨hcz16_0, hcz16_1, hcz16_2, hcz16_3, hfz16_0, hfz16_1, hfz16_2, hfz16_3⟩ := zf BK482.out))
      have n0_ : Aside0 (Kd.R Kd.string 9 ((((w14.setCell ⟨gb482, 0, none⟩ (.int .i64 t477)).setCell ⟨gb482, 1, none⟩ (.int .i64 t478)).setCell ⟨gb482, 2, none⟩ (.int .i64 t479)).setCell ⟨gb482, 3, none⟩ (.string t480)) w.heap.size (fun _ => True) (.slice (some ad476) t473.length co12) t473) := ⟨z8q⟩
      have n1_ : Aside0 (((((w14.setCell ⟨gb482, 0, none⟩ (.int .i64 t477)).setCell ⟨gb482, 1, none⟩ (.int .i64 t478)).setCell ⟨gb482, 2, none⟩ (.int .i64 t479)).setCell ⟨gb482, 3, none⟩ (.string t480)).heap[gb472]? = some (.cells #[.string ⟨#[]⟩, .int .i64 0, .int .i64 0, .int .i64 0, .string ⟨#[]⟩] 35 (0, 0))) := ⟨z4i⟩
      have n2_ : Aside0 (((((w14.setCell ⟨gb482, 0, none⟩ (.int .i64 t477)).setCell ⟨gb482, 1, none⟩ (.int .i64 t478)).setCell ⟨gb482, 2, none⟩ (.int .i64 t479)).setCell ⟨gb482, 3, none⟩ (.string t480)).heap[gb482]? = some (.cells #[.int .i64 t477, .int .i64 t478, .int .i64 t479, .string t480] 25 (0, 0))) := ⟨z4j⟩
      have n3_ : Aside0 (Below w.heap.size w ((((w14.setCell ⟨gb482, 0, none⟩ (.int .i64 t477)).setCell ⟨gb482, 1, none⟩ (.int .i64 t478)).setCell ⟨gb482, 2, none⟩ (.int .i64 t479)).setCell ⟨gb482, 3, none⟩ (.string t480))) := ⟨z4k⟩
      (try clear HO475)
      (try clear BK472)
      (try clear BK482)
      (try clear HB)
      generalize ((((w14.setCell ⟨gb482, 0, none⟩ (.int .i64 t477)).setCell ⟨gb482, 1, none⟩ (.int .i64 t478)).setCell ⟨gb482, 2, none⟩ (.int .i64 t479)).setCell ⟨gb482, 3, none⟩ (.string t480)) = w17 at n0_ n1_ n2_ n3_ ⊢
      have HO475 := n0_
      have BK472 := n1_
      have BK482 := n2_
      have HB := n3_
      clear n0_ n1_ n2_ n3_
      have n_ := zv (Kd.R_drew HO475.out) (blk_drew BK472.out) (blk_drew BK482.out) (below_drew1 HB.out)
      clear HO475 BK472 BK482 HB
      obtain ⟨HO475, BK472, BK482, HB⟩ := n_
      have p483 : 0 ≤ (0 : Int) := z1k
      have q483 : 0 < (t473.length : Int) := of_decide_eq_true z1p
      obtain ⟨ad483, e483, hx483_0⟩ := Kd.at_string (Kd.R_reads' HO475.out).2.2 0 p483 q483
      obtain rfl : ad476 = ad483 := (by injection e483)
      have qi483 : (0 < t473.length) = True := eq_true z1k
      (try rw [show ((0 : Int)).toNat = 0 from rfl] at hx483_0)
      (try rw [Addr.add_zero'] at hx483_0)
      replace p483 := eq_true p483
      replace q483 := eq_true q483
      refine start_ (n := 10) (S := fun w' => w'.cell? ⟨gb482, 0, none⟩ = some (.int .i64 t477) ∧ w'.cell? ⟨gb482, 1, none⟩ = some (.int .i64 t478) ∧ w'.cell? ⟨gb482, 2, none⟩ = some (.int .i64 t479) ∧ w'.cell? ⟨gb482, 3, none⟩ = some (.string t480) ∧ w'.cell? ad476 = some (.string (rdOf ByteArray.empty t473 0))) (ds := []) #[z9d, z9d, z9d, z9d, z9d, z9d, z9d, z9d, z9d, z9d] z1m rfl rfl ⟨(blk_cell BK482.out 0).trans rfl, (blk_cell BK482.out 1).trans rfl, (blk_cell BK482.out 2).trans rfl, (blk_cell BK482.out 3).trans rfl, hx483_0⟩ (fun hHeld => ?_); refine with_tabW spec_ParseName.tab5 spec_ParseName.bits5 (fun HT_ HW_ => ?_)
      generalize w17.drew = w18 at HO475 BK472 BK482 HB hx483_0 hHeld ⊢
      refine zw 0 (some 20) #[z9c, z9d, z9d, z9d, z9d, z9d, z9d, z9d, z9d, z9d] rfl rfl ?_
      refine zw 1 (some 21) #[z9c, z9c, z9d, z9d, z9d, z9d, z9d, z9d, z9d, z9d] rfl rfl ?_
      refine zw 2 (some 22) #[z9c, z9c, z9c, z9d, z9d, z9d, z9d, z9d, z9d, z9d] rfl rfl ?_
      refine zw 3 (some 23) #[z9c, z9c, z9c, z9c, z9d, z9d, z9d, z9d, z9d, z9d] rfl rfl ?_
      refine zw 4 (some 24) #[z9c, z9c, z9c, z9c, z9c, z9d, z9d, z9d, z9d, z9d] rfl rfl ?_
      refine zx 5 (some 25) #[z9c, z9c, z9c, z9c, z9c, z9c, z9d, z9d, z9d, z9d] rfl rfl (Or.inl ⟨z2b, z2e⟩) hHeld ?_
      refine zx 6 (some 26) #[z9c, z9c, z9c, z9c, z9c, z9c, z9c, z9d, z9d, z9d] rfl rfl (Or.inl ⟨z2b, z2e⟩) hHeld ?_
      refine one_ (i := 7) (N := some 27) #[z9c, z9c, z9c, z9c, z9c, z9c, z9c, z9c, z9d, z9d] rfl rfl (one_of HT_.out z1m) z1l (fun K hK => ?_)
      refine goes_ Tryz.func33 z1m rfl #[.string (rdOf ByteArray.empty t473 0), .agg #[.int .i64 t477, .int .i64 t478, .int .i64 t479, .string t480]] z2b rfl rfl z2d ?_
      with_reducible refine (spec_Fits.calls k (rdOf ByteArray.empty t473 0) t477 t478 t479 t480 true _ A8.out).mono ?_
      rintro e w19 ⟨rfl, hb⟩
      have HS4_ := (hb.cell (World.block_lt_of_cell? _ _ (hHeld.2.2.2.2))).trans (hHeld.2.2.2.2)
      refine ⟨_, rfl, ?_⟩
      have n_ := zv (Kd.R_below z4f hb) (blk_below (zu BK472.out) hb) (blk_below (zu BK482.out) hb) (below_step z4k hb)
      clear HO475 BK472 BK482 HB
      obtain ⟨HO475, BK472, BK482, HB⟩ := n_
      (try clear hb)
      (try clear hb2)
      (try clear hk)
      (try clear hi)
      refine hK.out _ _ ⟨(blk_cell BK482.out 0).trans rfl, (blk_cell BK482.out 1).trans rfl, (blk_cell BK482.out 2).trans rfl, (blk_cell BK482.out 3).trans rfl, HS4_⟩ (fun hHeld => ?_)
      clear hK K
      refine zy (some 27) rfl ?_
      refine zw 8 (some 28) #[z9c, z9c, z9c, z9c, z9c, z9c, z9c, z9c, z9c, z9d] rfl rfl ?_
      refine zw 9 (some 29) #[z9c, z9c, z9c, z9c, z9c, z9c, z9c, z9c, z9c, z9c] rfl rfl ?_
      refine done_ (done_of HT_.out z1m) ?_
      try go_wp2
      have n_ := zv (Kd.R_drew HO475.out) (blk_drew BK472.out) (blk_drew BK482.out) (below_drew1 HB.out)
      clear HO475 BK472 BK482 HB
      obtain ⟨HO475, BK472, BK482, HB⟩ := n_
      have p485 : 0 ≤ (0 : Int) := z1k
      have q485 : 0 < (t473.length : Int) := of_decide_eq_true z1p
      obtain ⟨ad485, e485, hx485_0⟩ := Kd.at_string (Kd.R_reads' HO475.out).2.2 0 p485 q485
      obtain rfl : ad476 = ad485 := (by injection e485)
      have qi485 : (0 < t473.length) = True := eq_true z1k
      (try rw [show ((0 : Int)).toNat = 0 from rfl] at hx485_0)
      (try rw [Addr.add_zero'] at hx485_0)
      replace p485 := eq_true p485
      replace q485 := eq_true q485
      refine start_ (n := 7) (S := fun w' => w'.cell? ⟨gb482, 0, none⟩ = some (.int .i64 t477) ∧ w'.cell? ⟨gb482, 1, none⟩ = some (.int .i64 t478) ∧ w'.cell? ⟨gb482, 2, none⟩ = some (.int .i64 t479) ∧ w'.cell? ⟨gb482, 3, none⟩ = some (.string t480) ∧ w'.cell? ad476 = some (.string (rdOf ByteArray.empty t473 0))) (ds := []) #[z9d, z9d, z9d, z9d, z9d, z9d, z9d] z1m rfl rfl ⟨(blk_cell BK482.out 0).trans rfl, (blk_cell BK482.out 1).trans rfl, (blk_cell BK482.out 2).trans rfl, (blk_cell BK482.out 3).trans rfl, hx485_0⟩ (fun hHeld => ?_)
      generalize w19.drew = w20 at HO475 BK472 BK482 HB hx485_0 hHeld ⊢
      refine pure_ (i := 0) (N := some 31) (v := ?_) (a' := ?_) #[z9c, z9d, z9d, z9d, z9d, z9d, z9d] rfl rfl z1m (fun _ _ _ h => h) (Or.inl ⟨z2b, ?_⟩) ?_ ?_
      rotate_left
      ·intro w'
       go_simp
       with_reducible rfl
      rotate_left
      ·simp only [Act.put, z9e, z9f, z9g, i64_w, i32_w]
       rfl
      refine pure_ (i := 1) (N := some 32) (v := ?_) (a' := ?_) #[z9c, z9c, z9d, z9d, z9d, z9d, z9d] rfl rfl z1m (fun _ _ _ h => h) (Or.inl ⟨z2b, ?_⟩) ?_ ?_
      rotate_left
      ·intro w'
       go_simp
       with_reducible rfl
      rotate_left
      ·simp only [Act.put, z9e, z9f, z9g, i64_w, i32_w]
       rfl
      refine take_ (i := 2) (N := some 33) (v := ?_) (a' := ?_) #[z9c, z9c, z9c, z9d, z9d, z9d, z9d] rfl rfl z1m (fun _ _ _ h => h) (Or.inl ⟨z2b, ?_⟩) hHeld ?_ ?_
      rotate_left
      ·rintro w' ⟨s0, s1, s2, s3, s4⟩
       go_simp
       with_reducible rfl
      rotate_left
      ·simp only [Act.put, z9e, z9f, z9g, i64_w, i32_w]
       rfl
      refine take_ (i := 3) (N := some 34) (v := ?_) (a' := ?_) #[z9c, z9c, z9c, z9c, z9d, z9d, z9d] rfl rfl z1m (fun _ _ _ h => h) (Or.inl ⟨z2b, ?_⟩) hHeld ?_ ?_
      rotate_left
      ·rintro w' ⟨s0, s1, s2, s3, s4⟩
       go_simp
       with_reducible rfl
      rotate_left
      ·simp only [Act.put, z9e, z9f, z9g, i64_w, i32_w]
       rfl
      refine pure_ (i := 4) (N := some 35) (v := ?_) (a' := ?_) #[z9c, z9c, z9c, z9c, z9c, z9d, z9d] rfl rfl z1m (fun _ _ _ h => h) (Or.inl ⟨z2b, ?_⟩) ?_ ?_
      rotate_left
      ·intro w'
       go_simp
       with_reducible rfl
      rotate_left
      ·simp only [Act.put, z9e, z9f, z9g, i64_w, i32_w]
       rfl
      refine one_ (i := 5) (N := none) #[z9c, z9c, z9c, z9c, z9c, z9c, z9d] rfl rfl z1m z1l (fun K hK => ?_)
      have hs21 : w20.cell? ⟨gb472, 0, none⟩ = some (.string ⟨#[]⟩) := (blk_cell BK472.out 0).trans rfl
      have hfs21 := blk_frozen BK472.out 0
      have hns21_1 := NB482_472.out
      have hms21_1 := NB472_482.out
      have hs22 : w20.cell? ⟨gb472, 1, none⟩ = some (.int .i64 0) := (blk_cell BK472.out 1).trans rfl
      have hfs22 := blk_frozen BK472.out 1
      have hns22_1 := NB482_472.out
      have hms22_1 := NB472_482.out
      have hs23 : w20.cell? ⟨gb472, 2, none⟩ = some (.int .i64 0) := (blk_cell BK472.out 2).trans rfl
      have hfs23 := blk_frozen BK472.out 2
      have hns23_1 := NB482_472.out
      have hms23_1 := NB472_482.out
      have hs24 : w20.cell? ⟨gb472, 3, none⟩ = some (.int .i64 0) := (blk_cell BK472.out 3).trans rfl
      have hfs24 := blk_frozen BK472.out 3
      have hns24_1 := NB482_472.out
      have hms24_1 := NB472_482.out
      have hs25 : w20.cell? ⟨gb472, 4, none⟩ = some (.string ⟨#[]⟩) := (blk_cell BK472.out 4).trans rfl
      have hfs25 := blk_frozen BK472.out 4
      have hns25_1 := NB482_472.out
      have hms25_1 := NB472_482.out
      refine skip_ (w1 := ?_) z2b rfl ?_ ?_
      rotate_left
      ·go_simp
       rfl
      refine hK.out _ _ ⟨((cell_far (p := ⟨gb472, _, none⟩) NB482_472.out _).trans (((cell_far (p := ⟨gb472, _, none⟩) NB482_472.out _).trans (((cell_far (p := ⟨gb472, _, none⟩) NB482_472.out _).trans (((cell_far (p := ⟨gb472, _, none⟩) NB482_472.out _).trans (((cell_far (p := ⟨gb472, _, none⟩) NB482_472.out _).trans (hHeld.1)))))))))), ((cell_far (p := ⟨gb472, _, none⟩) NB482_472.out _).trans (((cell_far (p := ⟨gb472, _, none⟩) NB482_472.out _).trans (((cell_far (p := ⟨gb472, _, none⟩) NB482_472.out _).trans (((cell_far (p := ⟨gb472, _, none⟩) NB482_472.out _).trans (((cell_far (p := ⟨gb472, _, none⟩) NB482_472.out _).trans (hHeld.2.1)))))))))), ((cell_far (p := ⟨gb472, _, none⟩) NB482_472.out _).trans (((cell_far (p := ⟨gb472, _, none⟩) NB482_472.out _).trans (((cell_far (p := ⟨gb472, _, none⟩) NB482_472.out _).trans (((cell_far (p := ⟨gb472, _, none⟩) NB482_472.out _).trans (((cell_far (p := ⟨gb472, _, none⟩) NB482_472.out _).trans (hHeld.2.2.1)))))))))), ((cell_far (p := ⟨gb472, _, none⟩) NB482_472.out _).trans (((cell_far (p := ⟨gb472, _, none⟩) NB482_472.out _).trans (((cell_far (p := ⟨gb472, _, none⟩) NB482_472.out _).trans (((cell_far (p := ⟨gb472, _, none⟩) NB482_472.out _).trans (((cell_far (p := ⟨gb472, _, none⟩) NB482_472.out _).trans (hHeld.2.2.2.1)))))))))), ((cell_far (p := ⟨gb472, _, none⟩) z8r _).trans (((cell_far (p := ⟨gb472, _, none⟩) z8r _).trans (((cell_far (p := ⟨gb472, _, none⟩) z8r _).trans (((cell_far (p := ⟨gb472, _, none⟩) z8r _).trans (((cell_far (p := ⟨gb472, _, none⟩) z8r _).trans (hHeld.2.2.2.2))))))))))⟩ (fun hHeld => ?_)
      clear hK K
      refine pure_ (i := 6) (N := some 3) (v := ?_) (a' := ?_) #[z9c, z9c, z9c, z9c, z9c, z9c, z9c] rfl rfl z1m (fun _ _ _ h => h) (Or.inl ⟨z2b, ?_⟩) ?_ ?_
      rotate_left
      ·intro w'
       go_simp
       with_reducible rfl
      rotate_left
      ·simp only [Act.put, z9e, z9f, z9g, i64_w, i32_w]
       rfl
      refine done_ z1m ?_
      try go_wp2
      refine bodyPost_ret (results_ct rfl _ _ gb472 35 #[.string (rdOf ByteArray.empty t473 0), .int .i64 t477, .int .i64 t478, .int .i64 t479, .string t480] (0, 0) _ rfl (by (repeat refine z1a ?_); refine blk_put (cs := #[.string (rdOf ByteArray.empty t473 0), .int .i64 t477, .int .i64 t478, .int .i64 t479, .string ⟨#[]⟩]) ?_ 4 _ rfl; (repeat refine z1a ?_); refine blk_put (cs := #[.string (rdOf ByteArray.empty t473 0), .int .i64 t477, .int .i64 t478, .int .i64 0, .string ⟨#[]⟩]) ?_ 3 _ rfl; (repeat refine z1a ?_); refine blk_put (cs := #[.string (rdOf ByteArray.empty t473 0), .int .i64 t477, .int .i64 0, .int .i64 0, .string ⟨#[]⟩]) ?_ 2 _ rfl; (repeat refine z1a ?_); refine blk_put (cs := #[.string (rdOf ByteArray.empty t473 0), .int .i64 0, .int .i64 0, .int .i64 0, .string ⟨#[]⟩]) ?_ 1 _ rfl; (repeat refine z1a ?_); refine blk_put (cs := #[.string ⟨#[]⟩, .int .i64 0, .int .i64 0, .int .i64 0, .string ⟨#[]⟩]) ?_ 0 _ rfl; (repeat refine z1a ?_); exact BK472.out) Tryz.underlying35 rfl z1m) rfl ?_
      exact ⟨z1t, z4k⟩
     ·replace c9 := Bool.eq_false_iff.mpr c9
      subst c9
      rw [if_neg zk] at H
      simp only [Option.some.injEq, Prod.mk.injEq] at H
      obtain ⟨rfl, rfl, rfl, rfl, rfl, rfl⟩ := H
      go_enter Tryz.func24, Tryz.ntmps24
      try go_wp2_with (first | ((with_reducible refine zr 2 rfl ?_); refine zt 35 #[.string ⟨#[]⟩, .int .i64 0, .int .i64 0, .int .i64 0, .string ⟨#[]⟩] ?_; intro gb472 hg w26 hbox hb; have n_ := zv (below_step z1r hb) hbox (z8j : w.heap.size ≤ gb472) (z8j : w.heap.size ≤ gb472); clear HB; obtain ⟨HB, BK472, GW472, GE472⟩ := n_; clear hb hbox hg) | ((with_reducible refine zi 56 rfl ?_); refine zj (some 8) Tryz.func56 #[.string a0, .int .u8 64] rfl ?_; (with_reducible refine (spec_l3Split.calls k a0 64 t473 _ A2.out).mono ?_); rintro e w27 ⟨v474, rfl, ho0, hb⟩; refine ⟨_, rfl, ?_⟩; have n_ := z1c (Kd.R_lower ho0 (below_size z4e)) (blk_below (zu BK472.out) hb) (below_step z4e hb); clear BK472 HB; obtain ⟨HO475, BK472, HB⟩ := n_; (try clear hb); (try clear ho0); obtain ⟨Ao28, co28, eo28⟩ := Kd.R_slice HO475.out; subst eo28; have p476 : 0 ≤ (1 : Int) := z1k; have q476 : 1 < (t473.length : Int) := of_decide_eq_true z1p; obtain ⟨ad476, e476, hx476_0⟩ := Kd.at_string (Kd.R_reads' HO475.out).2.2 1 p476 q476; cases e476; (try simp only [show (1 : Int).toNat = 1 from rfl, Nat.reduceMul, Nat.reduceEqDiff, Go.Addr.add, ↓reduceIte] at hx476_0); have qi476 : (1 < t473.length) = True := eq_true z1k; (try rw [show ((1 : Int)).toNat = 1 from rfl] at hx476_0); replace p476 := eq_true p476; replace q476 := eq_true q476) | ((with_reducible refine zi 57 rfl ?_); refine zj (some 17) Tryz.func57 #[.string (rdOf ByteArray.empty t473 1)] rfl ?_; (with_reducible refine (spec_ParseVersion.calls k (rdOf ByteArray.empty t473 1) t477 t478 t479 t480 true _ A5.out).mono ?_); rintro e w29 ⟨rfl, hb⟩; refine ⟨_, rfl, ?_⟩; have n_ := z1c (Kd.R_below z4f hb) (blk_below (zu BK472.out) hb) (below_step z4e hb); clear HO475 BK472 HB; obtain ⟨HO475, BK472, HB⟩ := n_; (try clear hb)) | ((with_reducible refine zr 5 rfl ?_); refine zt 25 #[.int .i64 0, .int .i64 0, .int .i64 0, .string ⟨#[]⟩] ?_; intro gb482 hg w30 hbox hb; have n_ := z1e (Kd.R_below z4f hb) (blk_below (zu BK472.out) hb) (below_step z4e hb) hbox (z8p : w.heap.size ≤ gb482) (z8p : w.heap.size ≤ gb482) (z4g : gb472 ≠ gb482) (z4h : gb482 ≠ gb472); clear HO475 BK472 HB; obtain ⟨HO475, BK472, HB, BK482, GW482, GE482, NB472_482, NB482_472⟩ := n_; clear hb hbox hg; have hnb31 := NB482_472.out; have hnc31 := NB472_482.out; obtain ⟨hcz32_0, hcz32_1, hcz32_2, hcz32_3, hfz32_0, hfz32_1, hfz32_2, hfz32_3⟩ := zf BK482.out))
      have n0_ : Aside0 (Kd.R Kd.string 9 ((((w30.setCell ⟨gb482, 0, none⟩ (.int .i64 t477)).setCell ⟨gb482, 1, none⟩ (.int .i64 t478)).setCell ⟨gb482, 2, none⟩ (.int .i64 t479)).setCell ⟨gb482, 3, none⟩ (.string t480)) w.heap.size (fun _ => True) (.slice (some ad476) t473.length co28) t473) := ⟨z8q⟩
      have n1_ : Aside0 (((((w30.setCell ⟨gb482, 0, none⟩ (.int .i64 t477)).setCell ⟨gb482, 1, none⟩ (.int .i64 t478)).setCell ⟨gb482, 2, none⟩ (.int .i64 t479)).setCell ⟨gb482, 3, none⟩ (.string t480)).heap[gb472]? = some (.cells #[.string ⟨#[]⟩, .int .i64 0, .int .i64 0, .int .i64 0, .string ⟨#[]⟩] 35 (0, 0))) := ⟨z4i⟩
      have n2_ : Aside0 (((((w30.setCell ⟨gb482, 0, none⟩ (.int .i64 t477)).setCell ⟨gb482, 1, none⟩ (.int .i64 t478)).setCell ⟨gb482, 2, none⟩ (.int .i64 t479)).setCell ⟨gb482, 3, none⟩ (.string t480)).heap[gb482]? = some (.cells #[.int .i64 t477, .int .i64 t478, .int .i64 t479, .string t480] 25 (0, 0))) := ⟨z4j⟩
      have n3_ : Aside0 (Below w.heap.size w ((((w30.setCell ⟨gb482, 0, none⟩ (.int .i64 t477)).setCell ⟨gb482, 1, none⟩ (.int .i64 t478)).setCell ⟨gb482, 2, none⟩ (.int .i64 t479)).setCell ⟨gb482, 3, none⟩ (.string t480))) := ⟨z4k⟩
      (try clear HO475)
      (try clear BK472)
      (try clear BK482)
      (try clear HB)
      generalize ((((w30.setCell ⟨gb482, 0, none⟩ (.int .i64 t477)).setCell ⟨gb482, 1, none⟩ (.int .i64 t478)).setCell ⟨gb482, 2, none⟩ (.int .i64 t479)).setCell ⟨gb482, 3, none⟩ (.string t480)) = w33 at n0_ n1_ n2_ n3_ ⊢
      have HO475 := n0_
      have BK472 := n1_
      have BK482 := n2_
      have HB := n3_
      clear n0_ n1_ n2_ n3_
      have n_ := zv (Kd.R_drew HO475.out) (blk_drew BK472.out) (blk_drew BK482.out) (below_drew1 HB.out)
      clear HO475 BK472 BK482 HB
      obtain ⟨HO475, BK472, BK482, HB⟩ := n_
      have p483 : 0 ≤ (0 : Int) := z1k
      have q483 : 0 < (t473.length : Int) := of_decide_eq_true z1p
      obtain ⟨ad483, e483, hx483_0⟩ := Kd.at_string (Kd.R_reads' HO475.out).2.2 0 p483 q483
      obtain rfl : ad476 = ad483 := (by injection e483)
      have qi483 : (0 < t473.length) = True := eq_true z1k
      (try rw [show ((0 : Int)).toNat = 0 from rfl] at hx483_0)
      (try rw [Addr.add_zero'] at hx483_0)
      replace p483 := eq_true p483
      replace q483 := eq_true q483
      refine start_ (n := 10) (S := fun w' => w'.cell? ⟨gb482, 0, none⟩ = some (.int .i64 t477) ∧ w'.cell? ⟨gb482, 1, none⟩ = some (.int .i64 t478) ∧ w'.cell? ⟨gb482, 2, none⟩ = some (.int .i64 t479) ∧ w'.cell? ⟨gb482, 3, none⟩ = some (.string t480) ∧ w'.cell? ad476 = some (.string (rdOf ByteArray.empty t473 0))) (ds := []) #[z9d, z9d, z9d, z9d, z9d, z9d, z9d, z9d, z9d, z9d] z1m rfl rfl ⟨(blk_cell BK482.out 0).trans rfl, (blk_cell BK482.out 1).trans rfl, (blk_cell BK482.out 2).trans rfl, (blk_cell BK482.out 3).trans rfl, hx483_0⟩ (fun hHeld => ?_); refine with_tabW spec_ParseName.tab5 spec_ParseName.bits5 (fun HT_ HW_ => ?_)
      generalize w33.drew = w34 at HO475 BK472 BK482 HB hx483_0 hHeld ⊢
      refine zw 0 (some 20) #[z9c, z9d, z9d, z9d, z9d, z9d, z9d, z9d, z9d, z9d] rfl rfl ?_
      refine zw 1 (some 21) #[z9c, z9c, z9d, z9d, z9d, z9d, z9d, z9d, z9d, z9d] rfl rfl ?_
      refine zw 2 (some 22) #[z9c, z9c, z9c, z9d, z9d, z9d, z9d, z9d, z9d, z9d] rfl rfl ?_
      refine zw 3 (some 23) #[z9c, z9c, z9c, z9c, z9d, z9d, z9d, z9d, z9d, z9d] rfl rfl ?_
      refine zw 4 (some 24) #[z9c, z9c, z9c, z9c, z9c, z9d, z9d, z9d, z9d, z9d] rfl rfl ?_
      refine zx 5 (some 25) #[z9c, z9c, z9c, z9c, z9c, z9c, z9d, z9d, z9d, z9d] rfl rfl (Or.inl ⟨z2b, z2e⟩) hHeld ?_
      refine zx 6 (some 26) #[z9c, z9c, z9c, z9c, z9c, z9c, z9c, z9d, z9d, z9d] rfl rfl (Or.inl ⟨z2b, z2e⟩) hHeld ?_
      refine one_ (i := 7) (N := some 27) #[z9c, z9c, z9c, z9c, z9c, z9c, z9c, z9c, z9d, z9d] rfl rfl (one_of HT_.out z1m) z1l (fun K hK => ?_)
      refine goes_ Tryz.func33 z1m rfl #[.string (rdOf ByteArray.empty t473 0), .agg #[.int .i64 t477, .int .i64 t478, .int .i64 t479, .string t480]] z2b rfl rfl z2d ?_
      with_reducible refine (spec_Fits.calls k (rdOf ByteArray.empty t473 0) t477 t478 t479 t480 false _ A8.out).mono ?_
      rintro e w35 ⟨rfl, hb⟩
      have HS4_ := (hb.cell (World.block_lt_of_cell? _ _ (hHeld.2.2.2.2))).trans (hHeld.2.2.2.2)
      refine ⟨_, rfl, ?_⟩
      have n_ := zv (Kd.R_below z4f hb) (blk_below (zu BK472.out) hb) (blk_below (zu BK482.out) hb) (below_step z4k hb)
      clear HO475 BK472 BK482 HB
      obtain ⟨HO475, BK472, BK482, HB⟩ := n_
      (try clear hb)
      (try clear hb2)
      (try clear hk)
      (try clear hi)
      refine hK.out _ _ ⟨(blk_cell BK482.out 0).trans rfl, (blk_cell BK482.out 1).trans rfl, (blk_cell BK482.out 2).trans rfl, (blk_cell BK482.out 3).trans rfl, HS4_⟩ (fun hHeld => ?_)
      clear hK K
      refine zy (some 27) rfl ?_
      refine zw 8 (some 28) #[z9c, z9c, z9c, z9c, z9c, z9c, z9c, z9c, z9c, z9d] rfl rfl ?_
      refine zw 9 (some 29) #[z9c, z9c, z9c, z9c, z9c, z9c, z9c, z9c, z9c, z9c] rfl rfl ?_
      refine done_ (done_of HT_.out z1m) ?_
      obtain ⟨hcz36_0, hcz36_1, hcz36_2, hcz36_3, hcz36_4, hfz36_0, hfz36_1, hfz36_2, hfz36_3, hfz36_4⟩ := zg BK472.out
      try go_wp2
      refine bodyPost_ret (results_ct rfl _ _ gb472 35 #[.string ⟨#[]⟩, .int .i64 0, .int .i64 0, .int .i64 0, .string ⟨#[]⟩] (0, 0) _ rfl z4l Tryz.underlying35 rfl z1m) rfl ?_
      exact ⟨z1t, z4k⟩
    ·rw [if_neg c7] at H
     exact absurd H (by simp)
   ·replace c6 := Bool.eq_false_iff.mpr c6
    subst c6
    rw [if_neg zk] at H
    simp only [Option.some.injEq, Prod.mk.injEq] at H
    obtain ⟨rfl, rfl, rfl, rfl, rfl, rfl⟩ := H
    go_enter Tryz.func24, Tryz.ntmps24
    try go_wp2_with (first | ((with_reducible refine zr 2 rfl ?_); refine zt 35 #[.string ⟨#[]⟩, .int .i64 0, .int .i64 0, .int .i64 0, .string ⟨#[]⟩] ?_; intro gb472 hg w37 hbox hb; have n_ := zv (below_step z1r hb) hbox (z8j : w.heap.size ≤ gb472) (z8j : w.heap.size ≤ gb472); clear HB; obtain ⟨HB, BK472, GW472, GE472⟩ := n_; clear hb hbox hg) | ((with_reducible refine zi 56 rfl ?_); refine zj (some 8) Tryz.func56 #[.string a0, .int .u8 64] rfl ?_; (with_reducible refine (spec_l3Split.calls k a0 64 t473 _ A2.out).mono ?_); rintro e w38 ⟨v474, rfl, ho0, hb⟩; refine ⟨_, rfl, ?_⟩; have n_ := z1c (Kd.R_lower ho0 (below_size z4e)) (blk_below (zu BK472.out) hb) (below_step z4e hb); clear BK472 HB; obtain ⟨HO475, BK472, HB⟩ := n_; (try clear hb); (try clear ho0); obtain ⟨Ao39, co39, eo39⟩ := Kd.R_slice HO475.out; subst eo39; have p476 : 0 ≤ (1 : Int) := z1k; have q476 : 1 < (t473.length : Int) := of_decide_eq_true z1p; obtain ⟨ad476, e476, hx476_0⟩ := Kd.at_string (Kd.R_reads' HO475.out).2.2 1 p476 q476; cases e476; (try simp only [show (1 : Int).toNat = 1 from rfl, Nat.reduceMul, Nat.reduceEqDiff, Go.Addr.add, ↓reduceIte] at hx476_0); have qi476 : (1 < t473.length) = True := eq_true z1k; (try rw [show ((1 : Int)).toNat = 1 from rfl] at hx476_0); replace p476 := eq_true p476; replace q476 := eq_true q476) | ((with_reducible refine zi 57 rfl ?_); refine zj (some 17) Tryz.func57 #[.string (rdOf ByteArray.empty t473 1)] rfl ?_; (with_reducible refine (spec_ParseVersion.calls k (rdOf ByteArray.empty t473 1) t477 t478 t479 t480 false _ A5.out).mono ?_); rintro e w40 ⟨rfl, hb⟩; refine ⟨_, rfl, ?_⟩; have n_ := z1c (Kd.R_below z4f hb) (blk_below (zu BK472.out) hb) (below_step z4e hb); clear HO475 BK472 HB; obtain ⟨HO475, BK472, HB⟩ := n_; (try clear hb)) | ((with_reducible refine zr 5 rfl ?_); refine zt 25 #[.int .i64 0, .int .i64 0, .int .i64 0, .string ⟨#[]⟩] ?_; intro gb482 hg w41 hbox hb; have n_ := z1e (Kd.R_below z4f hb) (blk_below (zu BK472.out) hb) (below_step z4e hb) hbox (z8p : w.heap.size ≤ gb482) (z8p : w.heap.size ≤ gb482) (z4g : gb472 ≠ gb482) (z4h : gb482 ≠ gb472); clear HO475 BK472 HB; obtain ⟨HO475, BK472, HB, BK482, GW482, GE482, NB472_482, NB482_472⟩ := n_; clear hb hbox hg; have hnb42 := NB482_472.out; have hnc42 := NB472_482.out; obtain ⟨hcz43_0, hcz43_1, hcz43_2, hcz43_3, hfz43_0, hfz43_1, hfz43_2, hfz43_3⟩ := zf BK482.out))
    have n0_ : Aside0 (Kd.R Kd.string 9 ((((w41.setCell ⟨gb482, 0, none⟩ (.int .i64 t477)).setCell ⟨gb482, 1, none⟩ (.int .i64 t478)).setCell ⟨gb482, 2, none⟩ (.int .i64 t479)).setCell ⟨gb482, 3, none⟩ (.string t480)) w.heap.size (fun _ => True) (.slice (some ad476) t473.length co39) t473) := ⟨z8q⟩
    have n1_ : Aside0 (((((w41.setCell ⟨gb482, 0, none⟩ (.int .i64 t477)).setCell ⟨gb482, 1, none⟩ (.int .i64 t478)).setCell ⟨gb482, 2, none⟩ (.int .i64 t479)).setCell ⟨gb482, 3, none⟩ (.string t480)).heap[gb472]? = some (.cells #[.string ⟨#[]⟩, .int .i64 0, .int .i64 0, .int .i64 0, .string ⟨#[]⟩] 35 (0, 0))) := ⟨z4i⟩
    have n2_ : Aside0 (((((w41.setCell ⟨gb482, 0, none⟩ (.int .i64 t477)).setCell ⟨gb482, 1, none⟩ (.int .i64 t478)).setCell ⟨gb482, 2, none⟩ (.int .i64 t479)).setCell ⟨gb482, 3, none⟩ (.string t480)).heap[gb482]? = some (.cells #[.int .i64 t477, .int .i64 t478, .int .i64 t479, .string t480] 25 (0, 0))) := ⟨z4j⟩
    have n3_ : Aside0 (Below w.heap.size w ((((w41.setCell ⟨gb482, 0, none⟩ (.int .i64 t477)).setCell ⟨gb482, 1, none⟩ (.int .i64 t478)).setCell ⟨gb482, 2, none⟩ (.int .i64 t479)).setCell ⟨gb482, 3, none⟩ (.string t480))) := ⟨z4k⟩
    (try clear HO475)
    (try clear BK472)
    (try clear BK482)
    (try clear HB)
    generalize ((((w41.setCell ⟨gb482, 0, none⟩ (.int .i64 t477)).setCell ⟨gb482, 1, none⟩ (.int .i64 t478)).setCell ⟨gb482, 2, none⟩ (.int .i64 t479)).setCell ⟨gb482, 3, none⟩ (.string t480)) = w44 at n0_ n1_ n2_ n3_ ⊢
    have HO475 := n0_
    have BK472 := n1_
    have BK482 := n2_
    have HB := n3_
    clear n0_ n1_ n2_ n3_
    have n_ := zv (Kd.R_drew HO475.out) (blk_drew BK472.out) (blk_drew BK482.out) (below_drew1 HB.out)
    clear HO475 BK472 BK482 HB
    obtain ⟨HO475, BK472, BK482, HB⟩ := n_
    refine start_ (n := 10) (S := fun w' => True) (ds := []) #[z9d, z9d, z9d, z9d, z9d, z9d, z9d, z9d, z9d, z9d] z1m rfl rfl trivial (fun hHeld => ?_); refine with_tabW spec_ParseName.tab5 spec_ParseName.bits5 (fun HT_ HW_ => ?_)
    generalize w44.drew = w45 at HO475 BK472 BK482 HB hHeld ⊢
    refine zw 0 (some 20) #[z9c, z9d, z9d, z9d, z9d, z9d, z9d, z9d, z9d, z9d] rfl rfl ?_
    refine zw 1 (some 21) #[z9c, z9c, z9d, z9d, z9d, z9d, z9d, z9d, z9d, z9d] rfl rfl ?_
    refine zw 2 (some 22) #[z9c, z9c, z9c, z9d, z9d, z9d, z9d, z9d, z9d, z9d] rfl rfl ?_
    refine pure_ (i := 3) (N := some 23) (v := undef) (a' := ?_) #[z9c, z9c, z9c, z9c, z9d, z9d, z9d, z9d, z9d, z9d] rfl rfl (any_of HT_.out z1m) (fun _ _ _ h => h) (Or.inr ⟨z2b, rfl⟩) ?_ ?_
    rotate_left
    ·simp only [Act.put, z9e, z9f, z9g, i64_w, i32_w]
     rfl
    refine pure_ (i := 4) (N := some 24) (v := undef) (a' := ?_) #[z9c, z9c, z9c, z9c, z9c, z9d, z9d, z9d, z9d, z9d] rfl rfl (any_of HT_.out z1m) (fun _ _ _ h => h) (Or.inr ⟨z2b, rfl⟩) ?_ ?_
    rotate_left
    ·simp only [Act.put, z9e, z9f, z9g, i64_w, i32_w]
     rfl
    refine pure_ (i := 5) (N := some 25) (v := undef) (a' := ?_) #[z9c, z9c, z9c, z9c, z9c, z9c, z9d, z9d, z9d, z9d] rfl rfl (any_of HT_.out z1m) (fun _ _ _ h => h) (Or.inr ⟨z2b, rfl⟩) ?_ ?_
    rotate_left
    ·simp only [Act.put, z9e, z9f, z9g, i64_w, i32_w]
     rfl
    refine pure_ (i := 6) (N := some 26) (v := undef) (a' := ?_) #[z9c, z9c, z9c, z9c, z9c, z9c, z9c, z9d, z9d, z9d] rfl rfl (any_of HT_.out z1m) (fun _ _ _ h => h) (Or.inr ⟨z2b, rfl⟩) ?_ ?_
    rotate_left
    ·simp only [Act.put, z9e, z9f, z9g, i64_w, i32_w]
     rfl
    refine pure_ (i := 7) (N := some 27) (v := undef) (a' := ?_) #[z9c, z9c, z9c, z9c, z9c, z9c, z9c, z9c, z9d, z9d] rfl rfl (any_of HT_.out z1m) (fun _ _ _ h => h) (Or.inr ⟨z2b, rfl⟩) ?_ ?_
    rotate_left
    ·simp only [Act.put, z9e, z9f, z9g, i64_w, i32_w]
     rfl
    refine pure_ (i := 8) (N := some 28) (v := undef) (a' := ?_) #[z9c, z9c, z9c, z9c, z9c, z9c, z9c, z9c, z9c, z9d] rfl rfl (any_of HT_.out z1m) (fun _ _ _ h => h) (Or.inr ⟨z2b, rfl⟩) ?_ ?_
    rotate_left
    ·simp only [Act.put, z9e, z9f, z9g, i64_w, i32_w]
     rfl
    refine zw 9 (some 29) #[z9c, z9c, z9c, z9c, z9c, z9c, z9c, z9c, z9c, z9c] rfl rfl ?_
    refine done_ (done_of HT_.out z1m) ?_
    obtain ⟨hcz46_0, hcz46_1, hcz46_2, hcz46_3, hcz46_4, hfz46_0, hfz46_1, hfz46_2, hfz46_3, hfz46_4⟩ := zg BK472.out
    try go_wp2
    refine bodyPost_ret (results_ct rfl _ _ gb472 35 #[.string ⟨#[]⟩, .int .i64 0, .int .i64 0, .int .i64 0, .string ⟨#[]⟩] (0, 0) _ rfl z4l Tryz.underlying35 rfl z1m) rfl ?_
    exact ⟨z1t, z4k⟩
  ·rw [if_neg c4] at H
   exact absurd H (by simp)
 ·rw [if_neg c3] at H
  have c3b0 := beq_eq_false_iff_ne.mpr c3
  have c3b1 := bne_iff_ne.mpr c3
  simp only [Option.some.injEq, Prod.mk.injEq] at H
  obtain ⟨rfl, rfl, rfl, rfl, rfl, rfl⟩ := H
  go_enter Tryz.func24, Tryz.ntmps24
  go_wp2_with (first | ((with_reducible refine zr 2 rfl ?_); refine zt 35 #[.string ⟨#[]⟩, .int .i64 0, .int .i64 0, .int .i64 0, .string ⟨#[]⟩] ?_; intro gb472 hg w47 hbox hb; have n_ := zv (below_step z1r hb) hbox (z8j : w.heap.size ≤ gb472) (z8j : w.heap.size ≤ gb472); clear HB; obtain ⟨HB, BK472, GW472, GE472⟩ := n_; clear hb hbox hg) | ((with_reducible refine zi 56 rfl ?_); refine zj (some 8) Tryz.func56 #[.string a0, .int .u8 64] rfl ?_; (with_reducible refine (spec_l3Split.calls k a0 64 t473 _ A2.out).mono ?_); rintro e w48 ⟨v474, rfl, ho0, hb⟩; refine ⟨_, rfl, ?_⟩; have n_ := z1c (Kd.R_lower ho0 (below_size z4e)) (blk_below (zu BK472.out) hb) (below_step z4e hb); clear BK472 HB; obtain ⟨HO475, BK472, HB⟩ := n_; (try clear hb); (try clear ho0); obtain ⟨Ao49, co49, eo49⟩ := Kd.R_slice HO475.out; subst eo49; obtain ⟨hcz50_0, hcz50_1, hcz50_2, hcz50_3, hcz50_4, hfz50_0, hfz50_1, hfz50_2, hfz50_3, hfz50_4⟩ := zg BK472.out))
  refine bodyPost_ret (results_ct rfl _ _ gb472 35 #[.string ⟨#[]⟩, .int .i64 0, .int .i64 0, .int .i64 0, .string ⟨#[]⟩] (0, 0) _ rfl z4l Tryz.underlying35 rfl z1m) rfl ?_
  exact ⟨z1t, z4e⟩
def spec_NeedOk.f (k : Nat) (a0_0 : ByteArray) (a0_1 : Int) (a0_2 : Int) (a0_3 : Int) (a0_4 : ByteArray) : Option (Bool) := (spec_Fits.f k a0_0 a0_1 a0_2 a0_3 a0_4).bind fun t281 => (some t281)
set_option maxHeartbeats 8000000 in
set_option maxRecDepth 100000 in
theorem spec_NeedOk.calls (k : Nat) (a0_0 : ByteArray) (a0_1 : Int) (a0_2 : Int) (a0_3 : Int) (a0_4 : ByteArray) (r : Bool) (w : World) (h : spec_NeedOk.f k a0_0 a0_1 a0_2 a0_3 a0_4 = some r) :
  Calls Tryz.prog 69 #[.agg #[.string a0_0, .int .i64 a0_1, .int .i64 a0_2, .int .i64 a0_3, .string a0_4]] w fun e w' => e = .returned (.bool r) ∧ Below w.heap.size w w' := by
 have hu35 := Tryz.underlying35
 have hu25 := Tryz.underlying25
 have HB := zn (Below.refl w.heap.size w)
 have H := h
 unfold spec_NeedOk.f at H
 clear h
 obtain ⟨t281, A2, H⟩ := zm H
 try dsimp only at H
 obtain rfl := Option.some.inj H
 go_enter Tryz.func69, Tryz.ntmps69
 go_wp2_with (first | ((with_reducible refine zr 1 rfl ?_); refine zt 35 #[.string a0_0, .int .i64 a0_1, .int .i64 a0_2, .int .i64 a0_3, .string a0_4] ?_; intro gb280 hg w3 hbox hb; have n_ := zv (below_step z1r hb) hbox (z8j : w.heap.size ≤ gb280) (z8j : w.heap.size ≤ gb280); clear HB; obtain ⟨HB, BK280, GW280, GE280⟩ := n_; clear hb hbox hg; obtain ⟨hcz4_0, hcz4_1, hcz4_2, hcz4_3, hcz4_4, hfz4_0, hfz4_1, hfz4_2, hfz4_3, hfz4_4⟩ := zg BK280.out) | ((with_reducible refine zi 33 rfl ?_); refine zj (some 7) Tryz.func33 #[.string a0_0, .agg #[.int .i64 a0_1, .int .i64 a0_2, .int .i64 a0_3, .string a0_4]] rfl ?_; (with_reducible refine (spec_Fits.calls k a0_0 a0_1 a0_2 a0_3 a0_4 t281 _ A2.out).mono ?_); rintro e w5 ⟨rfl, hb⟩; refine ⟨_, rfl, ?_⟩; have n_ := zo (blk_below (zu BK280.out) hb) (below_step (by repeat (first | (with_reducible first | exact HB.out | apply below_alloc | apply pw_below_drewN | apply below_drew1 | refine below_set ?_ GE280.out) | exact HB.out)) hb); clear BK280 HB; obtain ⟨BK280, HB⟩ := n_; (try clear hb)))
 go_ret
 exact ⟨z1t, by repeat (first | (with_reducible first | exact HB.out | apply below_alloc | apply pw_below_drewN | apply below_drew1 | refine below_set ?_ GE280.out) | exact HB.out)⟩
end Go.Proofs.YtgdknepphkhnlaaGreatDoor.X
