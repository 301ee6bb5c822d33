/- The law FnRead, as a plain statement: what is read of a drawn text as an entry is right, and has that text; what is read as a name has that name. Conditions: those of the row's reading alone. -/
/- Part 9 of 13 of this claim's texts. -/
import Derived.Test.YtgdknepphkhnlaaGreatDoorCFnRead1
import Derived.Test.YtgdknepphkhnlaaGreatDoorCFnRead3
import Derived.Test.YtgdknepphkhnlaaGreatDoorCFnRead7
namespace Go.Proofs.YtgdknepphkhnlaaGreatDoor.X
open Go.RowKit Go.Proofs.YtgdknepphkhnlaaGreatDoorW.PrintWords Go.Proofs.YtgdknepphkhnlaaGreatDoorW.PrintLast Go.Proofs.YtgdknepphkhnlaaGreatDoorW.PrintMore
attribute [local go_sem] max2_int min2_int max_two min_two max_three min_three max_four min_four
set_option linter.unusedVariables false
set_option linter.unusedSimpArgs false
mutual
def spec_l5Put.l0 : Nat → List (S35) → List (S35) → Bool → Int → ByteArray → Int → Int → Int → ByteArray → Option ((List (S35)))
 | 0, _, _, _, _, _, _, _, _, _ => none
 | k + 1, x0, x5, x6, x7, x668000, x668001, x668002, x668003, x668004 => if x7 < (x0.length : Int) then (if x6 = true then (spec_l5Put.j1 k x0 x5 x6 x7 false x668000 x668001 x668002 x668003 x668004) else (if 0 ≤ x7 then (spec_l5Put.j1 k x0 x5 x6 x7 (!(Op.bytesLess (((rd_T35 x0 x7).f0).toList) x668000.toList)) x668000 x668001 x668002 x668003 x668004) else (none))) else (if x6 = true then (some x5) else (if x5.length < 2513169434916 then (some (x5 ++ [(⟨x668000, (⟨x668001, x668002, x668003, x668004⟩ : S25)⟩ : S35)])) else (none)))
def spec_l5Put.j1 : Nat → List (S35) → List (S35) → Bool → Int → Bool → ByteArray → Int → Int → Int → ByteArray → Option ((List (S35)))
 | 0, _, _, _, _, _, _, _, _, _, _ => none
 | k + 1, x0, x5, x6, x7, x26, x668000, x668001, x668002, x668003, x668004 => if x26 = true then (if x5.length < 2513169434916 then ((some (x5 ++ [(⟨x668000, (⟨x668001, x668002, x668003, x668004⟩ : S25)⟩ : S35)] : List (S35))).bind fun y675 => (if 0 ≤ x7 then (if x7 < (x0.length : Int) then (if ((rd_T35 x0 x7).f0).toList = x668000.toList then (spec_l5Put.l0 k x0 y675 true (wrap64 (x7 + 1)) x668000 x668001 x668002 x668003 x668004) else (if y675.length < 2513169434916 then (spec_l5Put.l0 k x0 (y675 ++ [(⟨(rd_T35 x0 x7).f0, (⟨(rd_T35 x0 x7).f1.f0, (rd_T35 x0 x7).f1.f1, (rd_T35 x0 x7).f1.f2, (rd_T35 x0 x7).f1.f3⟩ : S25)⟩ : S35)]) true (wrap64 (x7 + 1)) x668000 x668001 x668002 x668003 x668004) else (none))) else (none)) else (none))) else (none)) else (if 0 ≤ x7 then (if x7 < (x0.length : Int) then (if ((rd_T35 x0 x7).f0).toList = x668000.toList then (spec_l5Put.l0 k x0 x5 x6 (wrap64 (x7 + 1)) x668000 x668001 x668002 x668003 x668004) else (if x5.length < 2513169434916 then (spec_l5Put.l0 k x0 (x5 ++ [(⟨(rd_T35 x0 x7).f0, (⟨(rd_T35 x0 x7).f1.f0, (rd_T35 x0 x7).f1.f1, (rd_T35 x0 x7).f1.f2, (rd_T35 x0 x7).f1.f3⟩ : S25)⟩ : S35)]) x6 (wrap64 (x7 + 1)) x668000 x668001 x668002 x668003 x668004) else (none))) else (none)) else (none))
end
def spec_l5Put.f (k : Nat) (l0 : List (S35)) (a1_0 : ByteArray) (a1_1 : Int) (a1_2 : Int) (a1_3 : Int) (a1_4 : ByteArray) : Option ((List (S35))) := spec_l5Put.l0 k l0 (([] : List (S35))) false 0 a1_0 a1_1 a1_2 a1_3 a1_4
set_option maxHeartbeats 8000000 in
set_option maxRecDepth 100000 in
theorem spec_l5Put.calls (k : Nat) (A0 : Option Addr) (c0 : Nat) (l0 : List (S35)) (a1_0 : ByteArray) (a1_1 : Int) (a1_2 : Int) (a1_3 : Int) (a1_4 : ByteArray) (r : List (S35)) (w : World) (hr0 : Kd.C k35 w A0 l0.length l0) (hc0 : l0.length ≤ c0) (h : spec_l5Put.f k l0 a1_0 a1_1 a1_2 a1_3 a1_4 = some r) :
  Calls Tryz.prog 82 #[.slice A0 l0.length c0, .agg #[.string a1_0, .int .i64 a1_1, .int .i64 a1_2, .int .i64 a1_3, .string a1_4]] w fun e w' => ∃ v0_ : Value, e = .returned (v0_) ∧ Kd.R k35 35 w' w.heap.size (fun _ => True) v0_ r ∧ Below w.heap.size w w' := by
 have hu35 := Tryz.underlying35
 have HR0 := zn hr0
 have HC0 := zn hc0
 clear hr0 hc0
 have HB := zn (Below.refl w.heap.size w)
 have H := h
 unfold spec_l5Put.f at H
 clear h
 obtain ⟨y668, hy668⟩ : ∃ y_ : List (S35), y_ = (([] : List (S35))) := ⟨_, rfl⟩
 replace H : (spec_l5Put.l0 k l0 y668 false 0 a1_0 a1_1 a1_2 a1_3 a1_4) = some r := by first | (rw [hy668]; with_reducible exact H) | (have H2_ := (Option.bind_some _ _).symm.trans H; rw [hy668]; with_reducible exact H2_) | (have H2_ := (Option.bind_some _ _).symm.trans H; with_reducible exact H2_) | with_reducible exact H | (rw [hy668]; exact H) | exact H
 have Ny668 := zn hy668
 clear hy668
 have H' := zn H
 clear H
 go_enter Tryz.func82, Tryz.ntmps82
 go_wp2_with (first | ((with_reducible refine zr 3 rfl ?_); refine zt 35 #[.string a1_0, .int .i64 a1_1, .int .i64 a1_2, .int .i64 a1_3, .string a1_4] ?_; intro gb667 hg w3 hbox hb; have n_ := zv (below_step z1r hb) hbox (z8j : w.heap.size ≤ gb667) (z8j : w.heap.size ≤ gb667); clear HB; obtain ⟨HB, BK667, GW667, GE667⟩ := n_; clear hb hbox hg) | ((with_reducible refine zr 8 rfl ?_); refine Kd.R_lit k35 _ 35 ?hg (N := 8) ?hd (xs := ([] : List (S35))) (inner := []) (ok := fun _ => True) (okp := fun _ => True) ?hr ?hp (fun _ hk => hk) trivial (Below.refl _ _) (Nat.le_refl _) (by simp) ?_; (case hd => exact z2b); (case hg => exact z2b); (case hr => exact z3t); (case hp => exact (Reps.none _ _)); intro v669 w4 ho5 hb hg_ hnew_; clear hg_ hnew_; (first | rw [← Ny668.out] at ho5 | (simp only [Int.reduceToNat] at ho5; rw [← Ny668.out] at ho5)); have n_ := z1c (Kd.R_lower (Kd.R_newB ho5 (zu BK667.out)) (below_size z6g)) (blk_below (zu BK667.out) hb) (below_step z6g hb); clear BK667 HB; obtain ⟨HO670, BK667, HB⟩ := n_; clear hb ho5))
 repeat (go_quiet (first | ((with_reducible refine zr 3 rfl ?_); refine zt 35 #[.string a1_0, .int .i64 a1_1, .int .i64 a1_2, .int .i64 a1_3, .string a1_4] ?_; intro gb667 hg w3 hbox hb; have n_ := zv (below_step z1r hb) hbox (z8j : w.heap.size ≤ gb667) (z8j : w.heap.size ≤ gb667); clear HB; obtain ⟨HB, BK667, GW667, GE667⟩ := n_; clear hb hbox hg) | ((with_reducible refine zr 8 rfl ?_); refine Kd.R_lit k35 _ 35 ?hg (N := 8) ?hd (xs := ([] : List (S35))) (inner := []) (ok := fun _ => True) (okp := fun _ => True) ?hr ?hp (fun _ hk => hk) trivial (Below.refl _ _) (Nat.le_refl _) (by simp) ?_; (case hd => exact z2b); (case hg => exact z2b); (case hr => exact z3t); (case hp => exact (Reps.none _ _)); intro v669 w4 ho5 hb hg_ hnew_; clear hg_ hnew_; (first | rw [← Ny668.out] at ho5 | (simp only [Int.reduceToNat] at ho5; rw [← Ny668.out] at ho5)); have n_ := z1c (Kd.R_lower (Kd.R_newB ho5 (zu BK667.out)) (below_size z6g)) (blk_below (zu BK667.out) hb) (below_step z6g hb); clear BK667 HB; obtain ⟨HO670, BK667, HB⟩ := n_; clear hb ho5)); try go_wp2_with (first | ((with_reducible refine zr 3 rfl ?_); refine zt 35 #[.string a1_0, .int .i64 a1_1, .int .i64 a1_2, .int .i64 a1_3, .string a1_4] ?_; intro gb667 hg w3 hbox hb; have n_ := zv (below_step z1r hb) hbox (z8j : w.heap.size ≤ gb667) (z8j : w.heap.size ≤ gb667); clear HB; obtain ⟨HB, BK667, GW667, GE667⟩ := n_; clear hb hbox hg) | ((with_reducible refine zr 8 rfl ?_); refine Kd.R_lit k35 _ 35 ?hg (N := 8) ?hd (xs := ([] : List (S35))) (inner := []) (ok := fun _ => True) (okp := fun _ => True) ?hr ?hp (fun _ hk => hk) trivial (Below.refl _ _) (Nat.le_refl _) (by simp) ?_; (case hd => exact z2b); (case hg => exact z2b); (case hr => exact z3t); (case hp => exact (Reps.none _ _)); intro v669 w4 ho5 hb hg_ hnew_; clear hg_ hnew_; (first | rw [← Ny668.out] at ho5 | (simp only [Int.reduceToNat] at ho5; rw [← Ny668.out] at ho5)); have n_ := z1c (Kd.R_lower (Kd.R_newB ho5 (zu BK667.out)) (below_size z6g)) (blk_below (zu BK667.out) hb) (below_step z6g hb); clear BK667 HB; obtain ⟨HO670, BK667, HB⟩ := n_; clear hb ho5)))
 go_loopg [5, 6, 7] k (fun kq v5 v6 v7 w' => ∃ (x5_1 : List (S35)) (x6_1 : Bool) (x7_1 : Int), v6 = .bool x6_1 ∧ v7 = .int .i64 x7_1 ∧ Aside0 (spec_l5Put.l0 kq l0 x5_1 x6_1 x7_1 a1_0 a1_1 a1_2 a1_3 a1_4 = some r) ∧ Aside0 (kq ≤ k) ∧ Aside0 (Kd.R k35 35 w' w.heap.size (fun k_ => k_ ≠ gb667) v5 x5_1) ∧ Aside0 (w'.heap[gb667]? = some (.cells #[.string a1_0, .int .i64 a1_1, .int .i64 a1_2, .int .i64 a1_3, .string a1_4] 35 (0, 0))) ∧ Aside0 (Below w.heap.size w w'))
 case atStart => exact ⟨(y668), (false), (0), z1n, z1n, H', ⟨Nat.le_refl _⟩, ⟨by (with_reducible repeat (first | apply Kd.R_alloc | apply Kd.R_drewN | apply Kd.R_drew)); exact Kd.R_mono HO670.out (fun _ hk => hk.2)⟩, ⟨z6h⟩, ⟨z6g⟩⟩
 case round =>
  clear H'
  try clear p2
  obtain ⟨x5_1, x6_1, x7_1, rfl, rfl, HA, HK1, HO_5, BK667, HB⟩ := hrel
  cases gk with
  | zero => exact absurd HA.out (by simp [spec_l5Put.l0])
  | succ k1 =>
   have H := HA.out
   clear HA
   simp only [spec_l5Put.l0] at H
   by_cases c6 : x7_1 < (l0.length : Int)
   ·rw [if_pos c6] at H
    have c6b0 := decide_eq_true c6
    clear c6
    have HC7 := zn H
    clear H
    go_upto_region 6 with (fail)
    repeat (go_quiet (fail); go_upto_region 6 with (fail))
    go_cut [26] (fun v26 wc => ∃ (kq : Nat) (x26_6 : Bool), v26 = .bool x26_6 ∧ Aside0 (spec_l5Put.j1 kq l0 x5_1 x6_1 x7_1 x26_6 a1_0 a1_1 a1_2 a1_3 a1_4 = some r) ∧ Aside0 (kq ≤ k1) ∧ Aside0 (Kd.R k35 35 wc w.heap.size (fun k_ => k_ ≠ gb667) u5 x5_1) ∧ Aside0 (wc.heap[gb667]? = some (.cells #[.string a1_0, .int .i64 a1_1, .int .i64 a1_2, .int .i64 a1_3, .string a1_4] 35 (0, 0))) ∧ Aside0 (Below w.heap.size w wc))
    case first =>
     have H := HC7.out
     clear HC7
     by_cases c8 : x6_1 = true
     ·subst c8
      rw [if_pos rfl] at H
      have H' := zn H
      clear H
      go_wp2
      repeat (go_quiet (fail); try go_wp2)
      go_meet
      case rel => exact ⟨_, (false), z1n, H', ⟨z3b⟩, ⟨z3v⟩, ⟨z6h⟩, ⟨z6g⟩⟩
     ·replace c8 := Bool.eq_false_iff.mpr c8
      subst c8
      rw [if_neg zk] at H
      by_cases c9 : 0 ≤ x7_1
      ·rw [if_pos c9] at H
       have c9b0 := decide_eq_true c9
       clear c9
       (first | rw [c9b0] | (simp only [i64_w, i32_w]; rw [c9b0]) | skip)
       have H' := zn H
       clear H
       have p674 : 0 ≤ (x7_1 : Int) := of_decide_eq_true z1p
       have q674 : x7_1 < (l0.length : Int) := of_decide_eq_true z1p
       obtain ⟨ad674, e674, hx674_0, hx674_1, hx674_2, hx674_3, hx674_4⟩ := at_T35 HR0.out x7_1 p674 q674
       cases e674
       replace hx674_0 := zz HB.out hx674_0
       replace hx674_1 := zz HB.out hx674_1
       replace hx674_2 := zz HB.out hx674_2
       replace hx674_3 := zz HB.out hx674_3
       replace hx674_4 := zz HB.out hx674_4
       replace p674 := eq_true p674
       replace q674 := eq_true q674
       obtain ⟨hcz10_0, hcz10_1, hcz10_2, hcz10_3, hcz10_4, hfz10_0, hfz10_1, hfz10_2, hfz10_3, hfz10_4⟩ := zg BK667.out
       go_wp2
       repeat (go_quiet (fail); try go_wp2)
       go_meet
       case rel => exact ⟨_, (!(Op.bytesLess (((rd_T35 l0 x7_1).f0).toList) a1_0.toList)), z1n, H', ⟨z3b⟩, ⟨z3v⟩, ⟨z6h⟩, ⟨z6g⟩⟩
      ·rw [if_neg c9] at H
       exact absurd H (by simp)
    case rest =>
     clear HC7
     try clear p2
     try clear c6
     try clear c6b0
     try clear p6
     try clear q6
     try clear hx6
     try clear c8
     try clear c9
     try clear c9b0
     try clear hcz10_0
     try clear hcz10_1
     try clear hcz10_2
     try clear hcz10_3
     try clear hcz10_4
     try clear hfz10_0
     try clear hfz10_1
     try clear hfz10_2
     try clear hfz10_3
     try clear hfz10_4
     try clear hx674_0
     try clear hx674_1
     try clear hx674_2
     try clear hx674_3
     try clear hx674_4
     try clear p2
     try clear p674
     try clear q674
     obtain ⟨kq, x26_6, rfl, HA, HJ6, HO_5, BK667, HB⟩ := hcut
     cases kq with
     | zero => exact absurd HA.out (by simp [spec_l5Put.j1])
     | succ kj6 =>
      have H := HA.out
      clear HA
      simp only [spec_l5Put.j1] at H
      by_cases c11 : x26_6 = true
      ·subst c11
       rw [if_pos rfl] at H
       by_cases c12 : x5_1.length < 2513169434916
       ·rw [if_pos c12] at H
        have LMc12 := zn c12
        clear c12
        obtain ⟨y675, hy675⟩ : ∃ y_ : List (S35), y_ = (x5_1 ++ [(⟨a1_0, (⟨a1_1, a1_2, a1_3, a1_4⟩ : S25)⟩ : S35)]) := ⟨_, rfl⟩
        replace H : (if 0 ≤ x7_1 then (if x7_1 < (l0.length : Int) then (if ((rd_T35 l0 x7_1).f0).toList = a1_0.toList then (spec_l5Put.l0 kj6 l0 y675 true (wrap64 (x7_1 + 1)) a1_0 a1_1 a1_2 a1_3 a1_4) else (if y675.length < 2513169434916 then (spec_l5Put.l0 kj6 l0 (y675 ++ [(⟨(rd_T35 l0 x7_1).f0, (⟨(rd_T35 l0 x7_1).f1.f0, (rd_T35 l0 x7_1).f1.f1, (rd_T35 l0 x7_1).f1.f2, (rd_T35 l0 x7_1).f1.f3⟩ : S25)⟩ : S35)]) true (wrap64 (x7_1 + 1)) a1_0 a1_1 a1_2 a1_3 a1_4) else (none))) else (none)) else (none)) = some r := by first | (rw [hy675]; with_reducible exact H) | (have H2_ := (Option.bind_some _ _).symm.trans H; rw [hy675]; with_reducible exact H2_) | (have H2_ := (Option.bind_some _ _).symm.trans H; with_reducible exact H2_) | with_reducible exact H | (rw [hy675]; exact H) | exact H
        have Ny675 := zn hy675
        clear hy675
        by_cases c13 : 0 ≤ x7_1
        ·rw [if_pos c13] at H
         have c13b0 := decide_eq_true c13
         clear c13
         by_cases c14 : x7_1 < (l0.length : Int)
         ·rw [if_pos c14] at H
          have c14b0 := decide_eq_true c14
          clear c14
          by_cases c15 : ((rd_T35 l0 x7_1).f0).toList = a1_0.toList
          ·rw [if_pos c15] at H
           have c15b0 := beq_iff_eq.mpr c15
           have c15b1 := bne_eq_false_iff_eq.mpr c15
           clear c15
           have H' := zn H
           clear H
           obtain ⟨hcz16_0, hcz16_1, hcz16_2, hcz16_3, hcz16_4, hfz16_0, hfz16_1, hfz16_2, hfz16_3, hfz16_4⟩ := zg BK667.out
           go_wp2_with (first | ((with_reducible refine gate_builtin (b := .append) (xs := #[.tmp 27, .tmp 29]) rfl ?_); at_builtin; refine Kd.R_append k35 (w0 := w) w.heap.size rfl (.tmp 27) (.tmp 29) 26 35 (.agg #[(.string ⟨#[]⟩), (.int .i64 0), (.int .i64 0), (.int .i64 0), (.string ⟨#[]⟩)]) 56 rfl Tryz.underlying26 info35 rfl z1l z1k u5 x5_1 (⟨a1_0, (⟨a1_1, a1_2, a1_3, a1_4⟩ : S25)⟩ : S35) [.string a1_0, .int .i64 a1_1, .int .i64 a1_2, .int .i64 a1_3, .string a1_4] (fun k_ => k_ ≠ gb667) (fun _ => False) rfl rfl ?aP (fun _ hk => hk.elim) ?aF ?aO ?aB ?aS ?aL ?_; (case aP => exact k35_mkM _ _ _ (⟨a1_0, (⟨a1_1, a1_2, a1_3, a1_4⟩ : S25)⟩ : S35)); (case aB => exact z6g); (case aF => exact (fun k_ hk => Kd.freshB (zu BK667.out) k_ hk)); (case aO => exact z3v); (case aS => exact (below_size z6g)); (case aL => exact z2s); intro v676 w17 ho hb hg hat; rw [← Ny675.out] at ho; have n_ := z1c (blk_grown (zu BK667.out) hg (Kd.R_away HO_5.out (fun _ hk => hk))) hb ho; clear BK667 HB HO_5; obtain ⟨BK667, HB, HO677⟩ := n_; clear ho hb hg hat; have p678 : 0 ≤ (x7_1 : Int) := of_decide_eq_true z1p; have q678 : x7_1 < (l0.length : Int) := of_decide_eq_true z1p; obtain ⟨ad678, e678, hx678_0, hx678_1, hx678_2, hx678_3, hx678_4⟩ := at_T35 HR0.out x7_1 p678 q678; cases e678; replace hx678_0 := zz HB.out hx678_0; replace hx678_1 := zz HB.out hx678_1; replace hx678_2 := zz HB.out hx678_2; replace hx678_3 := zz HB.out hx678_3; replace hx678_4 := zz HB.out hx678_4; replace p678 := eq_true p678; replace q678 := eq_true q678; obtain ⟨hcz18_0, hcz18_1, hcz18_2, hcz18_3, hcz18_4, hfz18_0, hfz18_1, hfz18_2, hfz18_3, hfz18_4⟩ := zg BK667.out))
           repeat (go_quiet (first | ((with_reducible refine gate_builtin (b := .append) (xs := #[.tmp 27, .tmp 29]) rfl ?_); at_builtin; refine Kd.R_append k35 (w0 := w) w.heap.size rfl (.tmp 27) (.tmp 29) 26 35 (.agg #[(.string ⟨#[]⟩), (.int .i64 0), (.int .i64 0), (.int .i64 0), (.string ⟨#[]⟩)]) 56 rfl Tryz.underlying26 info35 rfl z1l z1k u5 x5_1 (⟨a1_0, (⟨a1_1, a1_2, a1_3, a1_4⟩ : S25)⟩ : S35) [.string a1_0, .int .i64 a1_1, .int .i64 a1_2, .int .i64 a1_3, .string a1_4] (fun k_ => k_ ≠ gb667) (fun _ => False) rfl rfl ?aP (fun _ hk => hk.elim) ?aF ?aO ?aB ?aS ?aL ?_; (case aP => exact k35_mkM _ _ _ (⟨a1_0, (⟨a1_1, a1_2, a1_3, a1_4⟩ : S25)⟩ : S35)); (case aB => exact z6g); (case aF => exact (fun k_ hk => Kd.freshB (zu BK667.out) k_ hk)); (case aO => exact z3v); (case aS => exact (below_size z6g)); (case aL => exact z2s); intro v676 w17 ho hb hg hat; rw [← Ny675.out] at ho; have n_ := z1c (blk_grown (zu BK667.out) hg (Kd.R_away HO_5.out (fun _ hk => hk))) hb ho; clear BK667 HB HO_5; obtain ⟨BK667, HB, HO677⟩ := n_; clear ho hb hg hat; have p678 : 0 ≤ (x7_1 : Int) := of_decide_eq_true z1p; have q678 : x7_1 < (l0.length : Int) := of_decide_eq_true z1p; obtain ⟨ad678, e678, hx678_0, hx678_1, hx678_2, hx678_3, hx678_4⟩ := at_T35 HR0.out x7_1 p678 q678; cases e678; replace hx678_0 := zz HB.out hx678_0; replace hx678_1 := zz HB.out hx678_1; replace hx678_2 := zz HB.out hx678_2; replace hx678_3 := zz HB.out hx678_3; replace hx678_4 := zz HB.out hx678_4; replace p678 := eq_true p678; replace q678 := eq_true q678; obtain ⟨hcz18_0, hcz18_1, hcz18_2, hcz18_3, hcz18_4, hfz18_0, hfz18_1, hfz18_2, hfz18_3, hfz18_4⟩ := zg BK667.out)); try go_wp2_with (first | ((with_reducible refine gate_builtin (b := .append) (xs := #[.tmp 27, .tmp 29]) rfl ?_); at_builtin; refine Kd.R_append k35 (w0 := w) w.heap.size rfl (.tmp 27) (.tmp 29) 26 35 (.agg #[(.string ⟨#[]⟩), (.int .i64 0), (.int .i64 0), (.int .i64 0), (.string ⟨#[]⟩)]) 56 rfl Tryz.underlying26 info35 rfl z1l z1k u5 x5_1 (⟨a1_0, (⟨a1_1, a1_2, a1_3, a1_4⟩ : S25)⟩ : S35) [.string a1_0, .int .i64 a1_1, .int .i64 a1_2, .int .i64 a1_3, .string a1_4] (fun k_ => k_ ≠ gb667) (fun _ => False) rfl rfl ?aP (fun _ hk => hk.elim) ?aF ?aO ?aB ?aS ?aL ?_; (case aP => exact k35_mkM _ _ _ (⟨a1_0, (⟨a1_1, a1_2, a1_3, a1_4⟩ : S25)⟩ : S35)); (case aB => exact z6g); (case aF => exact (fun k_ hk => Kd.freshB (zu BK667.out) k_ hk)); (case aO => exact z3v); (case aS => exact (below_size z6g)); (case aL => exact z2s); intro v676 w17 ho hb hg hat; rw [← Ny675.out] at ho; have n_ := z1c (blk_grown (zu BK667.out) hg (Kd.R_away HO_5.out (fun _ hk => hk))) hb ho; clear BK667 HB HO_5; obtain ⟨BK667, HB, HO677⟩ := n_; clear ho hb hg hat; have p678 : 0 ≤ (x7_1 : Int) := of_decide_eq_true z1p; have q678 : x7_1 < (l0.length : Int) := of_decide_eq_true z1p; obtain ⟨ad678, e678, hx678_0, hx678_1, hx678_2, hx678_3, hx678_4⟩ := at_T35 HR0.out x7_1 p678 q678; cases e678; replace hx678_0 := zz HB.out hx678_0; replace hx678_1 := zz HB.out hx678_1; replace hx678_2 := zz HB.out hx678_2; replace hx678_3 := zz HB.out hx678_3; replace hx678_4 := zz HB.out hx678_4; replace p678 := eq_true p678; replace q678 := eq_true q678; obtain ⟨hcz18_0, hcz18_1, hcz18_2, hcz18_3, hcz18_4, hfz18_0, hfz18_1, hfz18_2, hfz18_3, hfz18_4⟩ := zg BK667.out)))
           go_roundg kj6
           case measure => have := HK1.out; have := HJ6.out; omega
           case rel => exact ⟨(y675), (true), (wrap64 (x7_1 + 1)), z1n, z1n, H', ⟨z6i⟩, ⟨z6j⟩, ⟨z6h⟩, ⟨z6g⟩⟩
          ·rw [if_neg c15] at H
           have c15b0 := beq_eq_false_iff_ne.mpr c15
           have c15b1 := bne_iff_ne.mpr c15
           by_cases c19 : y675.length < 2513169434916
           ·rw [if_pos c19] at H
            have LMc19 := zn c19
            clear c19
            obtain ⟨y680, hy680⟩ : ∃ y_ : List (S35), y_ = (y675 ++ [(⟨(rd_T35 l0 x7_1).f0, (⟨(rd_T35 l0 x7_1).f1.f0, (rd_T35 l0 x7_1).f1.f1, (rd_T35 l0 x7_1).f1.f2, (rd_T35 l0 x7_1).f1.f3⟩ : S25)⟩ : S35)]) := ⟨_, rfl⟩
            replace H : (spec_l5Put.l0 kj6 l0 y680 true (wrap64 (x7_1 + 1)) a1_0 a1_1 a1_2 a1_3 a1_4) = some r := by first | (rw [hy680]; with_reducible exact H) | (have H2_ := (Option.bind_some _ _).symm.trans H; rw [hy680]; with_reducible exact H2_) | (have H2_ := (Option.bind_some _ _).symm.trans H; with_reducible exact H2_) | with_reducible exact H | (rw [hy680]; exact H) | exact H
            have Ny680 := zn hy680
            clear hy680
            have H' := zn H
            clear H
            obtain ⟨hcz20_0, hcz20_1, hcz20_2, hcz20_3, hcz20_4, hfz20_0, hfz20_1, hfz20_2, hfz20_3, hfz20_4⟩ := zg BK667.out
            go_wp2_with (first | ((with_reducible refine gate_builtin (b := .append) (xs := #[.tmp 27, .tmp 29]) rfl ?_); at_builtin; refine Kd.R_append k35 (w0 := w) w.heap.size rfl (.tmp 27) (.tmp 29) 26 35 (.agg #[(.string ⟨#[]⟩), (.int .i64 0), (.int .i64 0), (.int .i64 0), (.string ⟨#[]⟩)]) 56 rfl Tryz.underlying26 info35 rfl z1l z1k u5 x5_1 (⟨a1_0, (⟨a1_1, a1_2, a1_3, a1_4⟩ : S25)⟩ : S35) [.string a1_0, .int .i64 a1_1, .int .i64 a1_2, .int .i64 a1_3, .string a1_4] (fun k_ => k_ ≠ gb667) (fun _ => False) rfl rfl ?aP (fun _ hk => hk.elim) ?aF ?aO ?aB ?aS ?aL ?_; (case aP => exact k35_mkM _ _ _ (⟨a1_0, (⟨a1_1, a1_2, a1_3, a1_4⟩ : S25)⟩ : S35)); (case aB => exact z6g); (case aF => exact (fun k_ hk => Kd.freshB (zu BK667.out) k_ hk)); (case aO => exact z3v); (case aS => exact (below_size z6g)); (case aL => exact z2s); intro v676 w21 ho hb hg hat; rw [← Ny675.out] at ho; have n_ := z1c (blk_grown (zu BK667.out) hg (Kd.R_away HO_5.out (fun _ hk => hk))) hb ho; clear BK667 HB HO_5; obtain ⟨BK667, HB, HO677⟩ := n_; clear ho hb hg hat; have p678 : 0 ≤ (x7_1 : Int) := of_decide_eq_true z1p; have q678 : x7_1 < (l0.length : Int) := of_decide_eq_true z1p; obtain ⟨ad678, e678, hx678_0, hx678_1, hx678_2, hx678_3, hx678_4⟩ := at_T35 HR0.out x7_1 p678 q678; cases e678; replace hx678_0 := zz HB.out hx678_0; replace hx678_1 := zz HB.out hx678_1; replace hx678_2 := zz HB.out hx678_2; replace hx678_3 := zz HB.out hx678_3; replace hx678_4 := zz HB.out hx678_4; replace p678 := eq_true p678; replace q678 := eq_true q678; obtain ⟨hcz22_0, hcz22_1, hcz22_2, hcz22_3, hcz22_4, hfz22_0, hfz22_1, hfz22_2, hfz22_3, hfz22_4⟩ := zg BK667.out; have p679 : 0 ≤ (x7_1 : Int) := of_decide_eq_true z1p; have q679 : x7_1 < (l0.length : Int) := of_decide_eq_true z1p; obtain ⟨ad679, e679, hx679_0, hx679_1, hx679_2, hx679_3, hx679_4⟩ := at_T35 HR0.out x7_1 p679 q679; obtain rfl : ad678 = ad679 := (by injection e679); replace hx679_0 := zz HB.out hx679_0; replace hx679_1 := zz HB.out hx679_1; replace hx679_2 := zz HB.out hx679_2; replace hx679_3 := zz HB.out hx679_3; replace hx679_4 := zz HB.out hx679_4; replace p679 := eq_true p679; replace q679 := eq_true q679) | ((with_reducible refine gate_builtin (b := .append) (xs := #[.tmp 39, .tmp 44]) rfl ?_); at_builtin; refine Kd.R_append k35 (w0 := w) w.heap.size rfl (.tmp 39) (.tmp 44) 26 35 (.agg #[(.string ⟨#[]⟩), (.int .i64 0), (.int .i64 0), (.int .i64 0), (.string ⟨#[]⟩)]) 56 rfl Tryz.underlying26 info35 rfl z1l z1k v676 y675 (⟨(rd_T35 l0 x7_1).f0, (⟨(rd_T35 l0 x7_1).f1.f0, (rd_T35 l0 x7_1).f1.f1, (rd_T35 l0 x7_1).f1.f2, (rd_T35 l0 x7_1).f1.f3⟩ : S25)⟩ : S35) [.string ((rd_T35 l0 x7_1).f0), .int .i64 ((rd_T35 l0 x7_1).f1.f0), .int .i64 ((rd_T35 l0 x7_1).f1.f1), .int .i64 ((rd_T35 l0 x7_1).f1.f2), .string ((rd_T35 l0 x7_1).f1.f3)] (fun k_ => k_ ≠ gb667) (fun _ => False) rfl rfl ?aP (fun _ hk => hk.elim) ?aF ?aO ?aB ?aS ?aL ?_; (case aP => exact k35_mkM _ _ _ (⟨(rd_T35 l0 x7_1).f0, (⟨(rd_T35 l0 x7_1).f1.f0, (rd_T35 l0 x7_1).f1.f1, (rd_T35 l0 x7_1).f1.f2, (rd_T35 l0 x7_1).f1.f3⟩ : S25)⟩ : S35)); (case aB => exact z6g); (case aF => exact (fun k_ hk => Kd.freshB (zu BK667.out) k_ hk)); (case aO => exact z6j); (case aS => exact (below_size z6g)); (case aL => exact z3w); intro v681 w23 ho hb hg hat; rw [← Ny680.out] at ho; have n_ := z1c (blk_grown (zu BK667.out) hg (Kd.R_away HO677.out (fun _ hk => hk))) hb ho; clear BK667 HB HO677; obtain ⟨BK667, HB, HO682⟩ := n_; clear ho hb hg hat))
            repeat (go_quiet (first | ((with_reducible refine gate_builtin (b := .append) (xs := #[.tmp 27, .tmp 29]) rfl ?_); at_builtin; refine Kd.R_append k35 (w0 := w) w.heap.size rfl (.tmp 27) (.tmp 29) 26 35 (.agg #[(.string ⟨#[]⟩), (.int .i64 0), (.int .i64 0), (.int .i64 0), (.string ⟨#[]⟩)]) 56 rfl Tryz.underlying26 info35 rfl z1l z1k u5 x5_1 (⟨a1_0, (⟨a1_1, a1_2, a1_3, a1_4⟩ : S25)⟩ : S35) [.string a1_0, .int .i64 a1_1, .int .i64 a1_2, .int .i64 a1_3, .string a1_4] (fun k_ => k_ ≠ gb667) (fun _ => False) rfl rfl ?aP (fun _ hk => hk.elim) ?aF ?aO ?aB ?aS ?aL ?_; (case aP => exact k35_mkM _ _ _ (⟨a1_0, (⟨a1_1, a1_2, a1_3, a1_4⟩ : S25)⟩ : S35)); (case aB => exact z6g); (case aF => exact (fun k_ hk => Kd.freshB (zu BK667.out) k_ hk)); (case aO => exact z3v); (case aS => exact (below_size z6g)); (case aL => exact z2s); intro v676 w21 ho hb hg hat; rw [← Ny675.out] at ho; have n_ := z1c (blk_grown (zu BK667.out) hg (Kd.R_away HO_5.out (fun _ hk => hk))) hb ho; clear BK667 HB HO_5; obtain ⟨BK667, HB, HO677⟩ := n_; clear ho hb hg hat; have p678 : 0 ≤ (x7_1 : Int) := of_decide_eq_true z1p; have q678 : x7_1 < (l0.length : Int) := of_decide_eq_true z1p; obtain ⟨ad678, e678, hx678_0, hx678_1, hx678_2, hx678_3, hx678_4⟩ := at_T35 HR0.out x7_1 p678 q678; cases e678; replace hx678_0 := zz HB.out hx678_0; replace hx678_1 := zz HB.out hx678_1; replace hx678_2 := zz HB.out hx678_2; replace hx678_3 := zz HB.out hx678_3; replace hx678_4 := zz HB.out hx678_4; replace p678 := eq_true p678; replace q678 := eq_true q678; obtain ⟨hcz22_0, hcz22_1, hcz22_2, hcz22_3, hcz22_4, hfz22_0, hfz22_1, hfz22_2, hfz22_3, hfz22_4⟩ := zg BK667.out; have p679 : 0 ≤ (x7_1 : Int) := of_decide_eq_true z1p; have q679 : x7_1 < (l0.length : Int) := of_decide_eq_true z1p; obtain ⟨ad679, e679, hx679_0, hx679_1, hx679_2, hx679_3, hx679_4⟩ := at_T35 HR0.out x7_1 p679 q679; obtain rfl : ad678 = ad679 := (by injection e679); replace hx679_0 := zz HB.out hx679_0; replace hx679_1 := zz HB.out hx679_1; replace hx679_2 := zz HB.out hx679_2; replace hx679_3 := zz HB.out hx679_3; replace hx679_4 := zz HB.out hx679_4; replace p679 := eq_true p679; replace q679 := eq_true q679) | ((with_reducible refine gate_builtin (b := .append) (xs := #[.tmp 39, .tmp 44]) rfl ?_); at_builtin; refine Kd.R_append k35 (w0 := w) w.heap.size rfl (.tmp 39) (.tmp 44) 26 35 (.agg #[(.string ⟨#[]⟩), (.int .i64 0), (.int .i64 0), (.int .i64 0), (.string ⟨#[]⟩)]) 56 rfl Tryz.underlying26 info35 rfl z1l z1k v676 y675 (⟨(rd_T35 l0 x7_1).f0, (⟨(rd_T35 l0 x7_1).f1.f0, (rd_T35 l0 x7_1).f1.f1, (rd_T35 l0 x7_1).f1.f2, (rd_T35 l0 x7_1).f1.f3⟩ : S25)⟩ : S35) [.string ((rd_T35 l0 x7_1).f0), .int .i64 ((rd_T35 l0 x7_1).f1.f0), .int .i64 ((rd_T35 l0 x7_1).f1.f1), .int .i64 ((rd_T35 l0 x7_1).f1.f2), .string ((rd_T35 l0 x7_1).f1.f3)] (fun k_ => k_ ≠ gb667) (fun _ => False) rfl rfl ?aP (fun _ hk => hk.elim) ?aF ?aO ?aB ?aS ?aL ?_; (case aP => exact k35_mkM _ _ _ (⟨(rd_T35 l0 x7_1).f0, (⟨(rd_T35 l0 x7_1).f1.f0, (rd_T35 l0 x7_1).f1.f1, (rd_T35 l0 x7_1).f1.f2, (rd_T35 l0 x7_1).f1.f3⟩ : S25)⟩ : S35)); (case aB => exact z6g); (case aF => exact (fun k_ hk => Kd.freshB (zu BK667.out) k_ hk)); (case aO => exact z6j); (case aS => exact (below_size z6g)); (case aL => exact z3w); intro v681 w23 ho hb hg hat; rw [← Ny680.out] at ho; have n_ := z1c (blk_grown (zu BK667.out) hg (Kd.R_away HO677.out (fun _ hk => hk))) hb ho; clear BK667 HB HO677; obtain ⟨BK667, HB, HO682⟩ := n_; clear ho hb hg hat)); try go_wp2_with (first | ((with_reducible refine gate_builtin (b := .append) (xs := #[.tmp 27, .tmp 29]) rfl ?_); at_builtin; refine Kd.R_append k35 (w0 := w) w.heap.size rfl (.tmp 27) (.tmp 29) 26 35 (.agg #[(.string ⟨#[]⟩), (.int .i64 0), (.int .i64 0), (.int .i64 0), (.string ⟨#[]⟩)]) 56 rfl Tryz.underlying26 info35 rfl z1l z1k u5 x5_1 (⟨a1_0, (⟨a1_1, a1_2, a1_3, a1_4⟩ : S25)⟩ : S35) [.string a1_0, .int .i64 a1_1, .int .i64 a1_2, .int .i64 a1_3, .string a1_4] (fun k_ => k_ ≠ gb667) (fun _ => False) rfl rfl ?aP (fun _ hk => hk.elim) ?aF ?aO ?aB ?aS ?aL ?_; (case aP => exact k35_mkM _ _ _ (⟨a1_0, (⟨a1_1, a1_2, a1_3, a1_4⟩ : S25)⟩ : S35)); (case aB => exact z6g); (case aF => exact (fun k_ hk => Kd.freshB (zu BK667.out) k_ hk)); (case aO => exact z3v); (case aS => exact (below_size z6g)); (case aL => exact z2s); intro v676 w21 ho hb hg hat; rw [← Ny675.out] at ho; have n_ := z1c (blk_grown (zu BK667.out) hg (Kd.R_away HO_5.out (fun _ hk => hk))) hb ho; clear BK667 HB HO_5; obtain ⟨BK667, HB, HO677⟩ := n_; clear ho hb hg hat; have p678 : 0 ≤ (x7_1 : Int) := of_decide_eq_true z1p; have q678 : x7_1 < (l0.length : Int) := of_decide_eq_true z1p; obtain ⟨ad678, e678, hx678_0, hx678_1, hx678_2, hx678_3, hx678_4⟩ := at_T35 HR0.out x7_1 p678 q678; cases e678; replace hx678_0 := zz HB.out hx678_0; replace hx678_1 := zz HB.out hx678_1; replace hx678_2 := zz HB.out hx678_2; replace hx678_3 := zz HB.out hx678_3; replace hx678_4 := zz HB.out hx678_4; replace p678 := eq_true p678; replace q678 := eq_true q678; obtain ⟨hcz22_0, hcz22_1, hcz22_2, hcz22_3, hcz22_4, hfz22_0, hfz22_1, hfz22_2, hfz22_3, hfz22_4⟩ := zg BK667.out; have p679 : 0 ≤ (x7_1 : Int) := of_decide_eq_true z1p; have q679 : x7_1 < (l0.length : Int) := of_decide_eq_true z1p; obtain ⟨ad679, e679, hx679_0, hx679_1, hx679_2, hx679_3, hx679_4⟩ := at_T35 HR0.out x7_1 p679 q679; obtain rfl : ad678 = ad679 := (by injection e679); replace hx679_0 := zz HB.out hx679_0; replace hx679_1 := zz HB.out hx679_1; replace hx679_2 := zz HB.out hx679_2; replace hx679_3 := zz HB.out hx679_3; replace hx679_4 := zz HB.out hx679_4; replace p679 := eq_true p679; replace q679 := eq_true q679) | ((with_reducible refine gate_builtin (b := .append) (xs := #[.tmp 39, .tmp 44]) rfl ?_); at_builtin; refine Kd.R_append k35 (w0 := w) w.heap.size rfl (.tmp 39) (.tmp 44) 26 35 (.agg #[(.string ⟨#[]⟩), (.int .i64 0), (.int .i64 0), (.int .i64 0), (.string ⟨#[]⟩)]) 56 rfl Tryz.underlying26 info35 rfl z1l z1k v676 y675 (⟨(rd_T35 l0 x7_1).f0, (⟨(rd_T35 l0 x7_1).f1.f0, (rd_T35 l0 x7_1).f1.f1, (rd_T35 l0 x7_1).f1.f2, (rd_T35 l0 x7_1).f1.f3⟩ : S25)⟩ : S35) [.string ((rd_T35 l0 x7_1).f0), .int .i64 ((rd_T35 l0 x7_1).f1.f0), .int .i64 ((rd_T35 l0 x7_1).f1.f1), .int .i64 ((rd_T35 l0 x7_1).f1.f2), .string ((rd_T35 l0 x7_1).f1.f3)] (fun k_ => k_ ≠ gb667) (fun _ => False) rfl rfl ?aP (fun _ hk => hk.elim) ?aF ?aO ?aB ?aS ?aL ?_; (case aP => exact k35_mkM _ _ _ (⟨(rd_T35 l0 x7_1).f0, (⟨(rd_T35 l0 x7_1).f1.f0, (rd_T35 l0 x7_1).f1.f1, (rd_T35 l0 x7_1).f1.f2, (rd_T35 l0 x7_1).f1.f3⟩ : S25)⟩ : S35)); (case aB => exact z6g); (case aF => exact (fun k_ hk => Kd.freshB (zu BK667.out) k_ hk)); (case aO => exact z6j); (case aS => exact (below_size z6g)); (case aL => exact z3w); intro v681 w23 ho hb hg hat; rw [← Ny680.out] at ho; have n_ := z1c (blk_grown (zu BK667.out) hg (Kd.R_away HO677.out (fun _ hk => hk))) hb ho; clear BK667 HB HO677; obtain ⟨BK667, HB, HO682⟩ := n_; clear ho hb hg hat)))
            go_roundg kj6
            case measure => have := HK1.out; have := HJ6.out; omega
            case rel => exact ⟨(y680), (true), (wrap64 (x7_1 + 1)), z1n, z1n, H', ⟨z6i⟩, ⟨by (with_reducible repeat (first | apply Kd.R_alloc | apply Kd.R_drewN | apply Kd.R_drew)); exact HO682.out⟩, ⟨z6h⟩, ⟨z6g⟩⟩
           ·rw [if_neg c19] at H
            exact absurd H (by simp)
         ·rw [if_neg c14] at H
          exact absurd H (by simp)
        ·rw [if_neg c13] at H
         exact absurd H (by simp)
       ·rw [if_neg c12] at H
        exact absurd H (by simp)
      ·replace c11 := Bool.eq_false_iff.mpr c11
       subst c11
       rw [if_neg zk] at H
       by_cases c24 : 0 ≤ x7_1
       ·rw [if_pos c24] at H
        have c24b0 := decide_eq_true c24
        clear c24
        by_cases c25 : x7_1 < (l0.length : Int)
        ·rw [if_pos c25] at H
         have c25b0 := decide_eq_true c25
         clear c25
         by_cases c26 : ((rd_T35 l0 x7_1).f0).toList = a1_0.toList
         ·rw [if_pos c26] at H
          have c26b0 := beq_iff_eq.mpr c26
          have c26b1 := bne_eq_false_iff_eq.mpr c26
          clear c26
          have H' := zn H
          clear H
          have p683 : 0 ≤ (x7_1 : Int) := of_decide_eq_true z1p
          have q683 : x7_1 < (l0.length : Int) := of_decide_eq_true z1p
          obtain ⟨ad683, e683, hx683_0, hx683_1, hx683_2, hx683_3, hx683_4⟩ := at_T35 HR0.out x7_1 p683 q683
          cases e683
          replace hx683_0 := zz HB.out hx683_0
          replace hx683_1 := zz HB.out hx683_1
          replace hx683_2 := zz HB.out hx683_2
          replace hx683_3 := zz HB.out hx683_3
          replace hx683_4 := zz HB.out hx683_4
          replace p683 := eq_true p683
          replace q683 := eq_true q683
          obtain ⟨hcz27_0, hcz27_1, hcz27_2, hcz27_3, hcz27_4, hfz27_0, hfz27_1, hfz27_2, hfz27_3, hfz27_4⟩ := zg BK667.out
          go_wp2
          repeat (go_quiet (fail); try go_wp2)
          go_roundg kj6
          case measure => have := HK1.out; have := HJ6.out; omega
          case rel => exact ⟨(x5_1), (x6_1), (wrap64 (x7_1 + 1)), z1n, z1n, H', ⟨z6i⟩, ⟨z3v⟩, ⟨z6h⟩, ⟨z6g⟩⟩
         ·rw [if_neg c26] at H
          have c26b0 := beq_eq_false_iff_ne.mpr c26
          have c26b1 := bne_iff_ne.mpr c26
          by_cases c28 : x5_1.length < 2513169434916
          ·rw [if_pos c28] at H
           have LMc28 := zn c28
           clear c28
           obtain ⟨y685, hy685⟩ : ∃ y_ : List (S35), y_ = (x5_1 ++ [(⟨(rd_T35 l0 x7_1).f0, (⟨(rd_T35 l0 x7_1).f1.f0, (rd_T35 l0 x7_1).f1.f1, (rd_T35 l0 x7_1).f1.f2, (rd_T35 l0 x7_1).f1.f3⟩ : S25)⟩ : S35)]) := ⟨_, rfl⟩
           replace H : (spec_l5Put.l0 kj6 l0 y685 x6_1 (wrap64 (x7_1 + 1)) a1_0 a1_1 a1_2 a1_3 a1_4) = some r := by first | (rw [hy685]; with_reducible exact H) | (have H2_ := (Option.bind_some _ _).symm.trans H; rw [hy685]; with_reducible exact H2_) | (have H2_ := (Option.bind_some _ _).symm.trans H; with_reducible exact H2_) | with_reducible exact H | (rw [hy685]; exact H) | exact H
           have Ny685 := zn hy685
           clear hy685
           have H' := zn H
           clear H
           have p683 : 0 ≤ (x7_1 : Int) := of_decide_eq_true z1p
           have q683 : x7_1 < (l0.length : Int) := of_decide_eq_true z1p
           obtain ⟨ad683, e683, hx683_0, hx683_1, hx683_2, hx683_3, hx683_4⟩ := at_T35 HR0.out x7_1 p683 q683
           cases e683
           replace hx683_0 := zz HB.out hx683_0
           replace hx683_1 := zz HB.out hx683_1
           replace hx683_2 := zz HB.out hx683_2
           replace hx683_3 := zz HB.out hx683_3
           replace hx683_4 := zz HB.out hx683_4
           replace p683 := eq_true p683
           replace q683 := eq_true q683
           obtain ⟨hcz29_0, hcz29_1, hcz29_2, hcz29_3, hcz29_4, hfz29_0, hfz29_1, hfz29_2, hfz29_3, hfz29_4⟩ := zg BK667.out
           have p684 : 0 ≤ (x7_1 : Int) := of_decide_eq_true z1p
           have q684 : x7_1 < (l0.length : Int) := of_decide_eq_true z1p
           obtain ⟨ad684, e684, hx684_0, hx684_1, hx684_2, hx684_3, hx684_4⟩ := at_T35 HR0.out x7_1 p684 q684
           obtain rfl : ad683 = ad684 := (by injection e684)
           replace hx684_0 := zz HB.out hx684_0
           replace hx684_1 := zz HB.out hx684_1
           replace hx684_2 := zz HB.out hx684_2
           replace hx684_3 := zz HB.out hx684_3
           replace hx684_4 := zz HB.out hx684_4
           replace p684 := eq_true p684
           replace q684 := eq_true q684
           go_wp2_with (first | ((with_reducible refine gate_builtin (b := .append) (xs := #[.tmp 39, .tmp 44]) rfl ?_); at_builtin; refine Kd.R_append k35 (w0 := w) w.heap.size rfl (.tmp 39) (.tmp 44) 26 35 (.agg #[(.string ⟨#[]⟩), (.int .i64 0), (.int .i64 0), (.int .i64 0), (.string ⟨#[]⟩)]) 56 rfl Tryz.underlying26 info35 rfl z1l z1k u5 x5_1 (⟨(rd_T35 l0 x7_1).f0, (⟨(rd_T35 l0 x7_1).f1.f0, (rd_T35 l0 x7_1).f1.f1, (rd_T35 l0 x7_1).f1.f2, (rd_T35 l0 x7_1).f1.f3⟩ : S25)⟩ : S35) [.string ((rd_T35 l0 x7_1).f0), .int .i64 ((rd_T35 l0 x7_1).f1.f0), .int .i64 ((rd_T35 l0 x7_1).f1.f1), .int .i64 ((rd_T35 l0 x7_1).f1.f2), .string ((rd_T35 l0 x7_1).f1.f3)] (fun k_ => k_ ≠ gb667) (fun _ => False) rfl rfl ?aP (fun _ hk => hk.elim) ?aF ?aO ?aB ?aS ?aL ?_; (case aP => exact k35_mkM _ _ _ (⟨(rd_T35 l0 x7_1).f0, (⟨(rd_T35 l0 x7_1).f1.f0, (rd_T35 l0 x7_1).f1.f1, (rd_T35 l0 x7_1).f1.f2, (rd_T35 l0 x7_1).f1.f3⟩ : S25)⟩ : S35)); (case aB => exact z6g); (case aF => exact (fun k_ hk => Kd.freshB (zu BK667.out) k_ hk)); (case aO => exact z3v); (case aS => exact (below_size z6g)); (case aL => have := LMc28.out; omega); intro v686 w30 ho hb hg hat; rw [← Ny685.out] at ho; have n_ := z1c (blk_grown (zu BK667.out) hg (Kd.R_away HO_5.out (fun _ hk => hk))) hb ho; clear BK667 HB HO_5; obtain ⟨BK667, HB, HO687⟩ := n_; clear ho hb hg hat))
           repeat (go_quiet (first | ((with_reducible refine gate_builtin (b := .append) (xs := #[.tmp 39, .tmp 44]) rfl ?_); at_builtin; refine Kd.R_append k35 (w0 := w) w.heap.size rfl (.tmp 39) (.tmp 44) 26 35 (.agg #[(.string ⟨#[]⟩), (.int .i64 0), (.int .i64 0), (.int .i64 0), (.string ⟨#[]⟩)]) 56 rfl Tryz.underlying26 info35 rfl z1l z1k u5 x5_1 (⟨(rd_T35 l0 x7_1).f0, (⟨(rd_T35 l0 x7_1).f1.f0, (rd_T35 l0 x7_1).f1.f1, (rd_T35 l0 x7_1).f1.f2, (rd_T35 l0 x7_1).f1.f3⟩ : S25)⟩ : S35) [.string ((rd_T35 l0 x7_1).f0), .int .i64 ((rd_T35 l0 x7_1).f1.f0), .int .i64 ((rd_T35 l0 x7_1).f1.f1), .int .i64 ((rd_T35 l0 x7_1).f1.f2), .string ((rd_T35 l0 x7_1).f1.f3)] (fun k_ => k_ ≠ gb667) (fun _ => False) rfl rfl ?aP (fun _ hk => hk.elim) ?aF ?aO ?aB ?aS ?aL ?_; (case aP => exact k35_mkM _ _ _ (⟨(rd_T35 l0 x7_1).f0, (⟨(rd_T35 l0 x7_1).f1.f0, (rd_T35 l0 x7_1).f1.f1, (rd_T35 l0 x7_1).f1.f2, (rd_T35 l0 x7_1).f1.f3⟩ : S25)⟩ : S35)); (case aB => exact z6g); (case aF => exact (fun k_ hk => Kd.freshB (zu BK667.out) k_ hk)); (case aO => exact z3v); (case aS => exact (below_size z6g)); (case aL => have := LMc28.out; omega); intro v686 w30 ho hb hg hat; rw [← Ny685.out] at ho; have n_ := z1c (blk_grown (zu BK667.out) hg (Kd.R_away HO_5.out (fun _ hk => hk))) hb ho; clear BK667 HB HO_5; obtain ⟨BK667, HB, HO687⟩ := n_; clear ho hb hg hat)); try go_wp2_with (first | ((with_reducible refine gate_builtin (b := .append) (xs := #[.tmp 39, .tmp 44]) rfl ?_); at_builtin; refine Kd.R_append k35 (w0 := w) w.heap.size rfl (.tmp 39) (.tmp 44) 26 35 (.agg #[(.string ⟨#[]⟩), (.int .i64 0), (.int .i64 0), (.int .i64 0), (.string ⟨#[]⟩)]) 56 rfl Tryz.underlying26 info35 rfl z1l z1k u5 x5_1 (⟨(rd_T35 l0 x7_1).f0, (⟨(rd_T35 l0 x7_1).f1.f0, (rd_T35 l0 x7_1).f1.f1, (rd_T35 l0 x7_1).f1.f2, (rd_T35 l0 x7_1).f1.f3⟩ : S25)⟩ : S35) [.string ((rd_T35 l0 x7_1).f0), .int .i64 ((rd_T35 l0 x7_1).f1.f0), .int .i64 ((rd_T35 l0 x7_1).f1.f1), .int .i64 ((rd_T35 l0 x7_1).f1.f2), .string ((rd_T35 l0 x7_1).f1.f3)] (fun k_ => k_ ≠ gb667) (fun _ => False) rfl rfl ?aP (fun _ hk => hk.elim) ?aF ?aO ?aB ?aS ?aL ?_; (case aP => exact k35_mkM _ _ _ (⟨(rd_T35 l0 x7_1).f0, (⟨(rd_T35 l0 x7_1).f1.f0, (rd_T35 l0 x7_1).f1.f1, (rd_T35 l0 x7_1).f1.f2, (rd_T35 l0 x7_1).f1.f3⟩ : S25)⟩ : S35)); (case aB => exact z6g); (case aF => exact (fun k_ hk => Kd.freshB (zu BK667.out) k_ hk)); (case aO => exact z3v); (case aS => exact (below_size z6g)); (case aL => have := LMc28.out; omega); intro v686 w30 ho hb hg hat; rw [← Ny685.out] at ho; have n_ := z1c (blk_grown (zu BK667.out) hg (Kd.R_away HO_5.out (fun _ hk => hk))) hb ho; clear BK667 HB HO_5; obtain ⟨BK667, HB, HO687⟩ := n_; clear ho hb hg hat)))
           go_roundg kj6
           case measure => have := HK1.out; have := HJ6.out; omega
           case rel => exact ⟨(y685), (x6_1), (wrap64 (x7_1 + 1)), z1n, z1n, H', ⟨z6i⟩, ⟨by (with_reducible repeat (first | apply Kd.R_alloc | apply Kd.R_drewN | apply Kd.R_drew)); exact HO687.out⟩, ⟨z6h⟩, ⟨z6g⟩⟩
          ·rw [if_neg c28] at H
           exact absurd H (by simp)
        ·rw [if_neg c25] at H
         exact absurd H (by simp)
       ·rw [if_neg c24] at H
        exact absurd H (by simp)
   ·rw [if_neg c6] at H
    have c6b0 := decide_eq_false c6
    clear c6
    by_cases c31 : x6_1 = true
    ·subst c31
     rw [if_pos rfl] at H
     obtain rfl := Option.some.inj H
     go_wp2
     repeat (go_quiet (fail); try go_wp2)
     go_ret
     exact ⟨_, z1t, by (with_reducible repeat (first | apply Kd.R_alloc | apply Kd.R_drewN | apply Kd.R_drew)); exact Kd.R_mono HO_5.out (fun _ hk => trivial), z6g⟩
    ·replace c31 := Bool.eq_false_iff.mpr c31
     subst c31
     rw [if_neg zk] at H
     by_cases c32 : x5_1.length < 2513169434916
     ·rw [if_pos c32] at H
      have LMc32 := zn c32
      clear c32
      obtain ⟨y671, hy671⟩ : ∃ y_ : List (S35), y_ = (x5_1 ++ [(⟨a1_0, (⟨a1_1, a1_2, a1_3, a1_4⟩ : S25)⟩ : S35)]) := ⟨_, rfl⟩
      replace H : (some y671) = some r := by first | (rw [hy671]; with_reducible exact H) | (have H2_ := (Option.bind_some _ _).symm.trans H; rw [hy671]; with_reducible exact H2_) | (have H2_ := (Option.bind_some _ _).symm.trans H; with_reducible exact H2_) | with_reducible exact H | (rw [hy671]; exact H) | exact H
      have Ny671 := zn hy671
      clear hy671
      obtain rfl := Option.some.inj H
      obtain ⟨hcz33_0, hcz33_1, hcz33_2, hcz33_3, hcz33_4, hfz33_0, hfz33_1, hfz33_2, hfz33_3, hfz33_4⟩ := zg BK667.out
      go_wp2_with (first | ((with_reducible refine gate_builtin (b := .append) (xs := #[.tmp 48, .tmp 50]) rfl ?_); at_builtin; refine Kd.R_append k35 (w0 := w) w.heap.size rfl (.tmp 48) (.tmp 50) 26 35 (.agg #[(.string ⟨#[]⟩), (.int .i64 0), (.int .i64 0), (.int .i64 0), (.string ⟨#[]⟩)]) 56 rfl Tryz.underlying26 info35 rfl z1l z1k u5 x5_1 (⟨a1_0, (⟨a1_1, a1_2, a1_3, a1_4⟩ : S25)⟩ : S35) [.string a1_0, .int .i64 a1_1, .int .i64 a1_2, .int .i64 a1_3, .string a1_4] (fun k_ => k_ ≠ gb667) (fun _ => False) rfl rfl ?aP (fun _ hk => hk.elim) ?aF ?aO ?aB ?aS ?aL ?_; (case aP => exact k35_mkM _ _ _ (⟨a1_0, (⟨a1_1, a1_2, a1_3, a1_4⟩ : S25)⟩ : S35)); (case aB => exact z6g); (case aF => exact (fun k_ hk => Kd.freshB (zu BK667.out) k_ hk)); (case aO => exact z3v); (case aS => exact (below_size z6g)); (case aL => have := LMc32.out; omega); intro v672 w34 ho hb hg hat; rw [← Ny671.out] at ho; have n_ := z1c (blk_grown (zu BK667.out) hg (Kd.R_away HO_5.out (fun _ hk => hk))) hb ho; clear BK667 HB HO_5; obtain ⟨BK667, HB, HO673⟩ := n_; clear ho hb hg hat))
      repeat (go_quiet (first | ((with_reducible refine gate_builtin (b := .append) (xs := #[.tmp 48, .tmp 50]) rfl ?_); at_builtin; refine Kd.R_append k35 (w0 := w) w.heap.size rfl (.tmp 48) (.tmp 50) 26 35 (.agg #[(.string ⟨#[]⟩), (.int .i64 0), (.int .i64 0), (.int .i64 0), (.string ⟨#[]⟩)]) 56 rfl Tryz.underlying26 info35 rfl z1l z1k u5 x5_1 (⟨a1_0, (⟨a1_1, a1_2, a1_3, a1_4⟩ : S25)⟩ : S35) [.string a1_0, .int .i64 a1_1, .int .i64 a1_2, .int .i64 a1_3, .string a1_4] (fun k_ => k_ ≠ gb667) (fun _ => False) rfl rfl ?aP (fun _ hk => hk.elim) ?aF ?aO ?aB ?aS ?aL ?_; (case aP => exact k35_mkM _ _ _ (⟨a1_0, (⟨a1_1, a1_2, a1_3, a1_4⟩ : S25)⟩ : S35)); (case aB => exact z6g); (case aF => exact (fun k_ hk => Kd.freshB (zu BK667.out) k_ hk)); (case aO => exact z3v); (case aS => exact (below_size z6g)); (case aL => have := LMc32.out; omega); intro v672 w34 ho hb hg hat; rw [← Ny671.out] at ho; have n_ := z1c (blk_grown (zu BK667.out) hg (Kd.R_away HO_5.out (fun _ hk => hk))) hb ho; clear BK667 HB HO_5; obtain ⟨BK667, HB, HO673⟩ := n_; clear ho hb hg hat)); try go_wp2_with (first | ((with_reducible refine gate_builtin (b := .append) (xs := #[.tmp 48, .tmp 50]) rfl ?_); at_builtin; refine Kd.R_append k35 (w0 := w) w.heap.size rfl (.tmp 48) (.tmp 50) 26 35 (.agg #[(.string ⟨#[]⟩), (.int .i64 0), (.int .i64 0), (.int .i64 0), (.string ⟨#[]⟩)]) 56 rfl Tryz.underlying26 info35 rfl z1l z1k u5 x5_1 (⟨a1_0, (⟨a1_1, a1_2, a1_3, a1_4⟩ : S25)⟩ : S35) [.string a1_0, .int .i64 a1_1, .int .i64 a1_2, .int .i64 a1_3, .string a1_4] (fun k_ => k_ ≠ gb667) (fun _ => False) rfl rfl ?aP (fun _ hk => hk.elim) ?aF ?aO ?aB ?aS ?aL ?_; (case aP => exact k35_mkM _ _ _ (⟨a1_0, (⟨a1_1, a1_2, a1_3, a1_4⟩ : S25)⟩ : S35)); (case aB => exact z6g); (case aF => exact (fun k_ hk => Kd.freshB (zu BK667.out) k_ hk)); (case aO => exact z3v); (case aS => exact (below_size z6g)); (case aL => have := LMc32.out; omega); intro v672 w34 ho hb hg hat; rw [← Ny671.out] at ho; have n_ := z1c (blk_grown (zu BK667.out) hg (Kd.R_away HO_5.out (fun _ hk => hk))) hb ho; clear BK667 HB HO_5; obtain ⟨BK667, HB, HO673⟩ := n_; clear ho hb hg hat)))
      go_ret
      exact ⟨_, z1t, by (with_reducible repeat (first | apply Kd.R_alloc | apply Kd.R_drewN | apply Kd.R_drew)); exact Kd.R_mono HO673.out (fun _ hk => trivial), z6g⟩
     ·rw [if_neg c32] at H
      exact absurd H (by simp)
def spec_l5Entry.l0 : Nat → Int → List Int → Int → Int → ByteArray → Int → Int → Int → ByteArray → List (S35) → Option (ByteArray × Int × Int × Int × ByteArray × (List (S35)) × Int × Int)
 | 0, _, _, _, _, _, _, _, _, _, _ => none
 | k + 1, x5, x1000, x1001, x1002, x698000, x698001, x698002, x698003, x698004, x698005 => if x5 > 0 then ((spec_l5Need.f k x1000 x1001 x1002).bind fun bt701 => (if bt701.1.toList = x698000.toList then (spec_l5Entry.l0 k (wrap64 (x5 - 1)) x1000 bt701.2.2.2.2.2.1 bt701.2.2.2.2.2.2 x698000 x698001 x698002 x698003 x698004 x698005) else ((spec_l5Put.f k x698005 bt701.1 bt701.2.1 bt701.2.2.1 bt701.2.2.2.1 bt701.2.2.2.2.1).bind fun t709 => (spec_l5Entry.l0 k (wrap64 (x5 - 1)) x1000 bt701.2.2.2.2.2.1 bt701.2.2.2.2.2.2 x698000 x698001 x698002 x698003 x698004 t709)))) else (some (x698000, x698001, x698002, x698003, x698004, x698005, x1001, x1002))
def spec_l5Entry.f (k : Nat) (s0_0 : List Int) (s0_1 : Int) (s0_2 : Int) : Option (ByteArray × Int × Int × Int × ByteArray × (List (S35)) × Int × Int) := (spec_l5Need.f k s0_0 s0_1 s0_2).bind fun bt689 => ((spec_l1Below.f s0_0 bt689.2.2.2.2.2.1 bt689.2.2.2.2.2.2 4).bind fun bt698 => (spec_l5Entry.l0 k bt698.1 s0_0 bt698.2.1 bt698.2.2 bt689.1 bt689.2.1 bt689.2.2.1 bt689.2.2.2.1 bt689.2.2.2.2.1 ([] : List (S35))))
set_option maxHeartbeats 8000000 in
set_option maxRecDepth 100000 in
theorem spec_l5Entry.calls (k : Nat) (g : Nat) (s0_0 : List Int) (s0_1 : Int) (s0_2 : Int) (r1 : ByteArray) (r2 : Int) (r3 : Int) (r4 : Int) (r5 : ByteArray) (r6 : List (S35)) (r7 : Int) (r8 : Int) (w0 w : World) (hI : IsS89 w0 w g s0_0 s0_1 s0_2) (hB : Below w0.heap.size w0 w) (h : spec_l5Entry.f k s0_0 s0_1 s0_2 = some (r1, r2, r3, r4, r5, r6, r7, r8)) :
  Calls Tryz.prog 49 #[.pointer (some ⟨g, 0, none⟩)] w fun e w' => ∃ v5_ : Value, e = .returned (.agg #[.string r1, .int .i64 r2, .int .i64 r3, .int .i64 r4, .string r5, v5_]) ∧ Kd.R k35 35 w' w.heap.size (fun _ => True) v5_ r6 ∧ IsS89 w0 w' g s0_0 r7 r8 ∧ Below w0.heap.size w0 w' ∧ KeepBut w w' g none := by
 have hu28 := Tryz.underlying28
 have hu35 := Tryz.underlying35
 have hu25 := Tryz.underlying25
 have HI0 := zn hI
 have HK := zn (KeepBut.refl w g none)
 have HL := zn hB.size
 clear hI
 have HW0 := zn hB.size
 have HB := zn hB
 clear hB
 have H := h
 unfold spec_l5Entry.f at H
 clear h
 obtain ⟨⟨t689, t690, t691, t692, t693, t694, t695⟩, A2, H⟩ := zm H
 try dsimp only at H
 obtain ⟨⟨t698, t699, t700⟩, A3, H⟩ := zm H
 try dsimp only at H
 have H' := zn H
 clear H
 go_enter Tryz.func49, Tryz.ntmps49
 go_wp2_with (first | ((with_reducible refine zr 2 rfl ?_); refine zt 28 #[.string ⟨#[]⟩, .int .i64 0, .int .i64 0, .int .i64 0, .string ⟨#[]⟩, .slice none 0 0] ?_; intro gb688 hg w4 hbox hb; have n_ := z1e (IsS89.below z5l hb) (KeepBut.trans z5n (KeepBut.of_below hb g none) (.inl rfl)) (below_step z5m hb) hbox (z8v : w.heap.size ≤ gb688) ((Nat.le_trans HW0.out (z8v : w.heap.size ≤ gb688) : w0.heap.size ≤ gb688)) (z5o : g ≠ gb688) (z5p : gb688 ≠ g); clear HI0 HK HB; obtain ⟨HI0, HK, HB, BK688, GW688, GE688, NB0_688, NB688_0⟩ := n_; clear hb hbox hg) | ((with_reducible refine zi 52 rfl ?_); refine zj (some 8) Tryz.func52 #[.pointer (some ⟨g, 0, none⟩)] rfl ?_; (with_reducible refine (spec_l5Need.calls k g s0_0 s0_1 s0_2 t689 t690 t691 t692 t693 t694 t695 w0 _ ?side1 ?side2 A2.out).mono ?_); (case side1 => repeat (first | (with_reducible first | exact HI0.out | apply IsS89.alloc | apply IsS89.drewN | apply IsS89.drew | apply IsS89.set_1 | apply IsS89.set_2 | refine IsS89.far ?_ NB0_688.out _) | exact HI0.out)); (case side2 => repeat (first | (with_reducible first | exact HB.out | apply below_alloc | apply pw_below_drewN | apply below_drew1 | refine below_set ?_ (IsS89.ge HI0.out) | refine below_set ?_ GE688.out) | exact HB.out)); rintro e w5 ⟨rfl, hi, hb, hk⟩; refine ⟨_, rfl, ?_⟩; have n_ := zv (KeepBut.blk hk (zu BK688.out) NB688_0.out (by simp)) (KeepBut.trans z6k hk (.inl rfl)) hb hi; clear BK688 HK HB HI0; obtain ⟨BK688, HK, HB, HI0⟩ := n_; (try clear hb); (try clear hk); (try clear hi)) | ((with_reducible refine zr 3 rfl ?_); refine zt 35 #[.string ⟨#[]⟩, .int .i64 0, .int .i64 0, .int .i64 0, .string ⟨#[]⟩] ?_; intro gb696 hg w6 hbox hb; have n_ := z1g (IsS89.below (by repeat (first | (with_reducible first | exact HI0.out | apply IsS89.alloc | apply IsS89.drewN | apply IsS89.drew | apply IsS89.set_1 | apply IsS89.set_2 | refine IsS89.far ?_ NB0_688.out _) | exact HI0.out)) hb) (z1g (blk_below (zu BK688.out) hb) (z1g (KeepBut.trans z6k (KeepBut.of_below hb g none) (.inl rfl)) (z1e (below_step (by repeat (first | (with_reducible first | exact HB.out | apply below_alloc | apply pw_below_drewN | apply below_drew1 | refine below_set ?_ (IsS89.ge HI0.out) | refine below_set ?_ GE688.out) | exact HB.out)) hb) hbox ((by rw [hg]; exact (keep_size (w := w) (g := g) (row := none) z6k) : w.heap.size ≤ gb696)) ((Nat.le_trans HW0.out (by rw [hg]; exact (keep_size (w := w) (g := g) (row := none) z6k) : w.heap.size ≤ gb696) : w0.heap.size ≤ gb696)) (z6l : gb688 ≠ gb696) (z6m : gb696 ≠ gb688) ((by rw [hg]; exact Nat.ne_of_lt (IsS89.lt (show IsS89 w0 _ g s0_0 t694 t695 from by repeat (first | (with_reducible first | exact HI0.out | apply IsS89.alloc | apply IsS89.drewN | apply IsS89.drew | apply IsS89.set_1 | apply IsS89.set_2 | refine IsS89.far ?_ NB0_688.out _) | exact HI0.out))) : g ≠ gb696)) ((by rw [hg]; exact Nat.ne_of_gt (IsS89.lt (show IsS89 w0 _ g s0_0 t694 t695 from by repeat (first | (with_reducible first | exact HI0.out | apply IsS89.alloc | apply IsS89.drewN | apply IsS89.drew | apply IsS89.set_1 | apply IsS89.set_2 | refine IsS89.far ?_ NB0_688.out _) | exact HI0.out))) : gb696 ≠ g))))); clear HI0 BK688 HK HB; obtain ⟨HI0, BK688, HK, HB, BK696, GW696, GE696, NB688_696, NB696_688, NB0_696, NB696_0⟩ := n_; clear hb hbox hg; have hnb7 := NB696_688.out; have hnc7 := NB688_696.out; have hnb8 := NB696_0.out; have hnc8 := NB0_696.out; obtain ⟨hcz9_0, hcz9_1, hcz9_2, hcz9_3, hcz9_4, hfz9_0, hfz9_1, hfz9_2, hfz9_3, hfz9_4⟩ := zg BK696.out) | ((with_reducible refine zr 4 rfl ?_); refine zt 28 #[.string ⟨#[]⟩, .int .i64 0, .int .i64 0, .int .i64 0, .string ⟨#[]⟩, .slice none 0 0] ?_; intro gb697 hg w10 hbox hb; have n_ := z1g (IsS89.below (show IsS89 w0 (((((w6.setCell ⟨gb696, 0, none⟩ (.string t689)).setCell ⟨gb696, 1, none⟩ (.int .i64 t690)).setCell ⟨gb696, 2, none⟩ (.int .i64 t691)).setCell ⟨gb696, 3, none⟩ (.int .i64 t692)).setCell ⟨gb696, 4, none⟩ (.string t693)) g s0_0 t694 t695 from by repeat (first | (with_reducible first | exact HI0.out | apply IsS89.alloc | apply IsS89.drewN | apply IsS89.drew | apply IsS89.set_1 | apply IsS89.set_2 | refine IsS89.far ?_ NB0_688.out _ | refine IsS89.far ?_ NB0_696.out _) | exact HI0.out)) hb) (z1g (blk_below (g := gb688) (o := .cells #[.string ⟨#[]⟩, .int .i64 0, .int .i64 0, .int .i64 0, .string ⟨#[]⟩, .slice none 0 0] 28 (0, 0)) z6n hb) (z1g (blk_below (g := gb696) (o := .cells #[.string t689, .int .i64 t690, .int .i64 t691, .int .i64 t692, .string t693] 35 (0, 0)) z6o hb) (z1g (KeepBut.trans z6p (KeepBut.of_below hb g none) (.inl rfl)) (z1g (below_step (by repeat (first | (with_reducible first | exact HB.out | apply below_alloc | apply pw_below_drewN | apply below_drew1 | refine below_set ?_ (IsS89.ge HI0.out) | refine below_set ?_ GE688.out | refine below_set ?_ GE696.out) | exact HB.out)) hb) (z1g hbox (z1e ((by rw [hg]; exact (keep_size (w := w) (g := g) (row := none) z6p) : w.heap.size ≤ gb697)) ((Nat.le_trans HW0.out (by rw [hg]; exact (keep_size (w := w) (g := g) (row := none) z6p) : w.heap.size ≤ gb697) : w0.heap.size ≤ gb697)) ((by rw [hg]; exact Nat.ne_of_lt (blk_lt (g := gb688) (o := .cells #[.string ⟨#[]⟩, .int .i64 0, .int .i64 0, .int .i64 0, .string ⟨#[]⟩, .slice none 0 0] 28 (0, 0)) z6n) : gb688 ≠ gb697)) ((by rw [hg]; exact Nat.ne_of_gt (blk_lt (g := gb688) (o := .cells #[.string ⟨#[]⟩, .int .i64 0, .int .i64 0, .int .i64 0, .string ⟨#[]⟩, .slice none 0 0] 28 (0, 0)) z6n) : gb697 ≠ gb688)) ((by rw [hg]; exact Nat.ne_of_lt (blk_lt (g := gb696) (o := .cells #[.string t689, .int .i64 t690, .int .i64 t691, .int .i64 t692, .string t693] 35 (0, 0)) z6o) : gb696 ≠ gb697)) ((by rw [hg]; exact Nat.ne_of_gt (blk_lt (g := gb696) (o := .cells #[.string t689, .int .i64 t690, .int .i64 t691, .int .i64 t692, .string t693] 35 (0, 0)) z6o) : gb697 ≠ gb696)) ((by rw [hg]; exact Nat.ne_of_lt (IsS89.lt (show IsS89 w0 _ g s0_0 t694 t695 from by repeat (first | (with_reducible first | exact HI0.out | apply IsS89.alloc | apply IsS89.drewN | apply IsS89.drew | apply IsS89.set_1 | apply IsS89.set_2 | refine IsS89.far ?_ NB0_688.out _ | refine IsS89.far ?_ NB0_696.out _) | exact HI0.out))) : g ≠ gb697)) ((by rw [hg]; exact Nat.ne_of_gt (IsS89.lt (show IsS89 w0 _ g s0_0 t694 t695 from by repeat (first | (with_reducible first | exact HI0.out | apply IsS89.alloc | apply IsS89.drewN | apply IsS89.drew | apply IsS89.set_1 | apply IsS89.set_2 | refine IsS89.far ?_ NB0_688.out _ | refine IsS89.far ?_ NB0_696.out _) | exact HI0.out))) : gb697 ≠ g)))))))); clear HI0 BK688 BK696 HK HB; obtain ⟨HI0, BK688, BK696, HK, HB, BK697, GW697, GE697, NB688_697, NB697_688, NB696_697, NB697_696, NB0_697, NB697_0⟩ := n_; clear hb hbox hg; have hnb11 := NB697_688.out; have hnc11 := NB688_697.out; have hnb12 := NB697_696.out; have hnc12 := NB696_697.out; have hnb13 := NB697_0.out; have hnc13 := NB0_697.out; obtain ⟨hcz14_0, hcz14_1, hcz14_2, hcz14_3, hcz14_4, hcz14_5, hfz14_0, hfz14_1, hfz14_2, hfz14_3, hfz14_4, hfz14_5⟩ := zh BK697.out) | ((with_reducible refine zi 50 rfl ?_); refine zj (some 15) Tryz.func50 #[.pointer (some ⟨g, 0, none⟩), .int .i64 4] rfl ?_; (with_reducible refine (spec_l1Below.calls g s0_0 t694 t695 4 t698 t699 t700 w0 _ ?side1 ?side2 A3.out).mono ?_); (case side1 => exact z6r); (case side2 => exact z6s); rintro e w15 ⟨rfl, hi, hb, hk⟩; refine ⟨_, rfl, ?_⟩; have n_ := z1i (KeepBut.blk hk (g' := gb688) (o := .cells #[.string ⟨#[]⟩, .int .i64 0, .int .i64 0, .int .i64 0, .string ⟨#[]⟩, .slice none 0 0] 28 (0, 0)) (by (repeat (first | refine z1a ?_ | refine blk_far ?_ NB688_697.out _)); exact BK688.out) NB688_0.out (by simp)) (KeepBut.blk hk (g' := gb696) (o := .cells #[.string t689, .int .i64 t690, .int .i64 t691, .int .i64 t692, .string t693] 35 (0, 0)) (by (repeat (first | refine z1a ?_ | refine blk_far ?_ NB696_697.out _)); exact BK696.out) NB696_0.out (by simp)) (KeepBut.blk hk (g' := gb697) (o := .cells #[.string t689, .int .i64 t690, .int .i64 t691, .int .i64 t692, .string t693, .slice none 0 0] 28 (0, 0)) (by (repeat refine z1a ?_); refine blk_put (cs := #[.string t689, .int .i64 t690, .int .i64 t691, .int .i64 t692, .string t693, .slice none 0 0]) ?_ 5 _ rfl; (repeat refine z1a ?_); refine blk_put (cs := #[.string t689, .int .i64 t690, .int .i64 t691, .int .i64 t692, .string ⟨#[]⟩, .slice none 0 0]) ?_ 4 _ rfl; (repeat refine z1a ?_); refine blk_put (cs := #[.string t689, .int .i64 t690, .int .i64 t691, .int .i64 0, .string ⟨#[]⟩, .slice none 0 0]) ?_ 3 _ rfl; (repeat refine z1a ?_); refine blk_put (cs := #[.string t689, .int .i64 t690, .int .i64 0, .int .i64 0, .string ⟨#[]⟩, .slice none 0 0]) ?_ 2 _ rfl; (repeat refine z1a ?_); refine blk_put (cs := #[.string t689, .int .i64 0, .int .i64 0, .int .i64 0, .string ⟨#[]⟩, .slice none 0 0]) ?_ 1 _ rfl; (repeat refine z1a ?_); refine blk_put (cs := #[.string ⟨#[]⟩, .int .i64 0, .int .i64 0, .int .i64 0, .string ⟨#[]⟩, .slice none 0 0]) ?_ 0 _ rfl; (repeat refine z1a ?_); exact BK697.out) NB697_0.out (by simp)) (KeepBut.trans z6q hk (.inl rfl)) hb hi; clear BK688 BK696 BK697 HK HB HI0; obtain ⟨BK688, BK696, BK697, HK, HB, HI0⟩ := n_; (try clear hb); (try clear hk); (try clear hi)))
 go_loopg [5] k (fun kq v5 w' => ∃ (x5_1 : Int) (x1001_1 : Int) (x1002_1 : Int) (x698005_1 : List (S35)) (u698005 : Value), v5 = .int .i64 x5_1 ∧ Aside0 (spec_l5Entry.l0 kq x5_1 s0_0 x1001_1 x1002_1 t689 t690 t691 t692 t693 x698005_1 = some (r1, r2, r3, r4, r5, r6, r7, r8)) ∧ Aside0 (kq ≤ k) ∧ Aside0 (Kd.R k35 35 w' w.heap.size (fun k_ => k_ ≠ gb696) u698005 x698005_1) ∧ Aside0 (w'.heap[gb688]? = some (.cells #[.string ⟨#[]⟩, .int .i64 0, .int .i64 0, .int .i64 0, .string ⟨#[]⟩, (.slice none 0 0)] 28 (0, 0))) ∧ Aside0 (w'.heap[gb696]? = some (.cells #[.string t689, .int .i64 t690, .int .i64 t691, .int .i64 t692, .string t693] 35 (0, 0))) ∧ Aside0 (w'.heap[gb697]? = some (.cells #[.string t689, .int .i64 t690, .int .i64 t691, .int .i64 t692, .string t693, u698005] 28 (0, 0))) ∧ Aside0 (IsS89 w0 w' g s0_0 x1001_1 x1002_1) ∧ Aside0 (KeepBut w w' g none) ∧ Aside0 (Below w0.heap.size w0 w'))
 case atStart => exact ⟨(t698), (t699), (t700), (([] : List (S35))), (.slice none 0 0), z1n, H', ⟨Nat.le_refl _⟩, ⟨z2p⟩, ⟨by (repeat refine z1a ?_); exact BK688.out⟩, ⟨by (repeat refine z1a ?_); exact BK696.out⟩, ⟨by (repeat refine z1a ?_); exact BK697.out⟩, ⟨z6r⟩, ⟨z6q⟩, ⟨z6s⟩⟩
 case round =>
  clear H'
  try clear c1
  try clear p2
  try clear c4
  try clear c5
  try clear c7
  try clear c8
  try clear c11
  try clear c12
  try clear c13
  try clear hcz14_0
  try clear hcz14_1
  try clear hcz14_2
  try clear hcz14_3
  try clear hcz14_4
  try clear hcz14_5
  try clear hcz9_0
  try clear hcz9_1
  try clear hcz9_2
  try clear hcz9_3
  try clear hcz9_4
  try clear hfz14_0
  try clear hfz14_1
  try clear hfz14_2
  try clear hfz14_3
  try clear hfz14_4
  try clear hfz14_5
  try clear hfz9_0
  try clear hfz9_1
  try clear hfz9_2
  try clear hfz9_3
  try clear hfz9_4
  obtain ⟨x5_1, x1001_1, x1002_1, x698005_1, u698005, rfl, HA, HK1, HO_698005, BK688, BK696, BK697, HI0, HK, HB⟩ := hrel
  cases gk with
  | zero => exact absurd HA.out (by simp [spec_l5Entry.l0])
  | succ k1 =>
   have H := HA.out
   clear HA
   simp only [spec_l5Entry.l0] at H
   by_cases c16 : x5_1 > 0
   ·rw [if_pos c16] at H
    have c16b0 := decide_eq_true c16
    clear c16
    obtain ⟨⟨t701, t702, t703, t704, t705, t706, t707⟩, A17, H⟩ := zm H
    try dsimp only at H
    by_cases c18 : t701.toList = t689.toList
    ·rw [if_pos c18] at H
     have c18b0 := beq_iff_eq.mpr c18
     have c18b1 := bne_eq_false_iff_eq.mpr c18
     clear c18
     have H' := zn H
     clear H
     go_wp2_with (first | ((with_reducible refine zi 52 rfl ?_); refine zj (some 21) Tryz.func52 #[.pointer (some ⟨g, 0, none⟩)] rfl ?_; (with_reducible refine (spec_l5Need.calls k1 g s0_0 x1001_1 x1002_1 t701 t702 t703 t704 t705 t706 t707 w0 _ ?side1 ?side2 A17.out).mono ?_); (case side1 => exact z6r); (case side2 => exact z6s); rintro e w19 ⟨rfl, hi, hb, hk⟩; refine ⟨_, rfl, ?_⟩; have n_ := z1b (Kd.R_mono (Kd.R_keep (IsS89.apart (show IsS89 w0 _ g s0_0 x1001_1 x1002_1 from by repeat (first | (with_reducible first | exact HI0.out | apply IsS89.alloc | apply IsS89.drewN | apply IsS89.drew | apply IsS89.set_1 | apply IsS89.set_2 | refine IsS89.far ?_ NB0_688.out _ | refine IsS89.far ?_ NB0_696.out _ | refine IsS89.far ?_ NB0_697.out _) | exact HI0.out)) z6t z1l) hk (fun _ h => h.2)) (fun _ h => h.1)) (KeepBut.blk hk (zu BK688.out) NB688_0.out (by simp)) (KeepBut.blk hk (zu BK696.out) NB696_0.out (by simp)) (KeepBut.blk hk (zu BK697.out) NB697_0.out (by simp)) (KeepBut.trans z6q hk (.inl rfl)) hb hi; clear HO_698005 BK688 BK696 BK697 HK HB HI0; obtain ⟨HO_698005, BK688, BK696, BK697, HK, HB, HI0⟩ := n_; (try clear hb); (try clear hk); (try clear hi)) | ((with_reducible refine zr 6 rfl ?_); refine zt 35 #[.string ⟨#[]⟩, .int .i64 0, .int .i64 0, .int .i64 0, .string ⟨#[]⟩] ?_; intro gb708 hg w20 hbox hb; have n_ := z1g (Kd.R_below (Kd.R_elderB z6t gb708 (Nat.le_of_eq hg.symm)) hb) (z1g (blk_below (zu BK688.out) hb) (z1g (blk_below (zu BK696.out) hb) (z1g (blk_below (zu BK697.out) hb) (z1g (IsS89.below z6r hb) (z1g (KeepBut.trans z6q (KeepBut.of_below hb g none) (.inl rfl)) (z1g (below_step z6s hb) (z1g hbox (z1g (z8x : w.heap.size ≤ gb708) (z1g ((Nat.le_trans HW0.out (z8x : w.heap.size ≤ gb708) : w0.heap.size ≤ gb708)) (z1e (z6l : gb688 ≠ gb708) (z6m : gb708 ≠ gb688) ((by rw [hg]; exact Nat.ne_of_lt (blk_lt (zu BK696.out)) : gb696 ≠ gb708)) ((by rw [hg]; exact Nat.ne_of_gt (blk_lt (zu BK696.out)) : gb708 ≠ gb696)) ((by rw [hg]; exact Nat.ne_of_lt (blk_lt (zu BK697.out)) : gb697 ≠ gb708)) ((by rw [hg]; exact Nat.ne_of_gt (blk_lt (zu BK697.out)) : gb708 ≠ gb697)) ((by rw [hg]; exact Nat.ne_of_lt (IsS89.lt (show IsS89 w0 _ g s0_0 t706 t707 from by repeat (first | (with_reducible first | exact HI0.out | apply IsS89.alloc | apply IsS89.drewN | apply IsS89.drew | apply IsS89.set_1 | apply IsS89.set_2 | refine IsS89.far ?_ NB0_688.out _ | refine IsS89.far ?_ NB0_696.out _ | refine IsS89.far ?_ NB0_697.out _) | exact HI0.out))) : g ≠ gb708)) ((by rw [hg]; exact Nat.ne_of_gt (IsS89.lt (show IsS89 w0 _ g s0_0 t706 t707 from by repeat (first | (with_reducible first | exact HI0.out | apply IsS89.alloc | apply IsS89.drewN | apply IsS89.drew | apply IsS89.set_1 | apply IsS89.set_2 | refine IsS89.far ?_ NB0_688.out _ | refine IsS89.far ?_ NB0_696.out _ | refine IsS89.far ?_ NB0_697.out _) | exact HI0.out))) : gb708 ≠ g)))))))))))); clear HO_698005 BK688 BK696 BK697 HI0 HK HB; obtain ⟨HO_698005, BK688, BK696, BK697, HI0, HK, HB, BK708, GW708, GE708, NB688_708, NB708_688, NB696_708, NB708_696, NB697_708, NB708_697, NB0_708, NB708_0⟩ := n_; clear hb hbox hg; have hnb21 := NB708_688.out; have hnc21 := NB688_708.out; have hnb22 := NB708_696.out; have hnc22 := NB696_708.out; have hnb23 := NB708_697.out; have hnc23 := NB697_708.out; have hnb24 := NB708_0.out; have hnc24 := NB0_708.out; obtain ⟨hcz25_0, hcz25_1, hcz25_2, hcz25_3, hcz25_4, hfz25_0, hfz25_1, hfz25_2, hfz25_3, hfz25_4⟩ := zg BK708.out; have hnb26 := NB697_688.out; have hnc26 := NB688_697.out; have hnb27 := NB697_696.out; have hnc27 := NB696_697.out; have hnb28 := NB697_0.out; have hnc28 := NB0_697.out; obtain ⟨hcz29_0, hcz29_1, hcz29_2, hcz29_3, hcz29_4, hcz29_5, hfz29_0, hfz29_1, hfz29_2, hfz29_3, hfz29_4, hfz29_5⟩ := zh BK697.out))
     go_roundg k1
     case measure => have := HK1.out; omega
     case rel => exact ⟨(wrap64 (x5_1 - 1)), (t706), (t707), (x698005_1), (u698005), z1n, H', ⟨z1q⟩, ⟨by (with_reducible repeat (first | apply Kd.R_alloc | apply Kd.R_drewN | apply Kd.R_drew)); exact Kd.R_mono (z1d gb708 4 (z1d gb708 3 (z1d gb708 2 (z1d gb708 1 (z1d gb708 0 (Kd.R_mono HO_698005.out (fun k_ hk => (⟨hk, hk.2⟩ : _ ∧ k_ ≠ gb708))) (.string t701)) (.int .i64 t702)) (.int .i64 t703)) (.int .i64 t704)) (.string t705)) (fun _ hk => hk.1.1)⟩, ⟨by (repeat (first | refine z1a ?_ | refine blk_far ?_ NB688_708.out _)); exact BK688.out⟩, ⟨z6u⟩, ⟨by (repeat (first | refine z1a ?_ | refine blk_far ?_ NB697_708.out _)); exact BK697.out⟩, ⟨by repeat (first | (with_reducible first | exact HI0.out | apply IsS89.alloc | apply IsS89.drewN | apply IsS89.drew | apply IsS89.set_1 | apply IsS89.set_2 | refine IsS89.far ?_ NB0_688.out _ | refine IsS89.far ?_ NB0_696.out _ | refine IsS89.far ?_ NB0_697.out _ | refine IsS89.far ?_ NB0_708.out _) | exact HI0.out)⟩, ⟨z6v⟩, ⟨z6w⟩⟩
    ·rw [if_neg c18] at H
     have c18b0 := beq_eq_false_iff_ne.mpr c18
     have c18b1 := bne_iff_ne.mpr c18
     obtain ⟨t709, A30, H⟩ := zm H
     try dsimp only at H
     have H' := zn H
     clear H
     go_wp2_with (first | ((with_reducible refine zi 52 rfl ?_); refine zj (some 21) Tryz.func52 #[.pointer (some ⟨g, 0, none⟩)] rfl ?_; (with_reducible refine (spec_l5Need.calls k1 g s0_0 x1001_1 x1002_1 t701 t702 t703 t704 t705 t706 t707 w0 _ ?side1 ?side2 A17.out).mono ?_); (case side1 => exact z6r); (case side2 => exact z6s); rintro e w31 ⟨rfl, hi, hb, hk⟩; refine ⟨_, rfl, ?_⟩; have n_ := z1b (Kd.R_mono (Kd.R_keep (IsS89.apart (show IsS89 w0 _ g s0_0 x1001_1 x1002_1 from by repeat (first | (with_reducible first | exact HI0.out | apply IsS89.alloc | apply IsS89.drewN | apply IsS89.drew | apply IsS89.set_1 | apply IsS89.set_2 | refine IsS89.far ?_ NB0_688.out _ | refine IsS89.far ?_ NB0_696.out _ | refine IsS89.far ?_ NB0_697.out _) | exact HI0.out)) z6t z1l) hk (fun _ h => h.2)) (fun _ h => h.1)) (KeepBut.blk hk (zu BK688.out) NB688_0.out (by simp)) (KeepBut.blk hk (zu BK696.out) NB696_0.out (by simp)) (KeepBut.blk hk (zu BK697.out) NB697_0.out (by simp)) (KeepBut.trans z6q hk (.inl rfl)) hb hi; clear HO_698005 BK688 BK696 BK697 HK HB HI0; obtain ⟨HO_698005, BK688, BK696, BK697, HK, HB, HI0⟩ := n_; (try clear hb); (try clear hk); (try clear hi)) | ((with_reducible refine zr 6 rfl ?_); refine zt 35 #[.string ⟨#[]⟩, .int .i64 0, .int .i64 0, .int .i64 0, .string ⟨#[]⟩] ?_; intro gb708 hg w32 hbox hb; have n_ := z1g (Kd.R_below (Kd.R_elderB z6t gb708 (Nat.le_of_eq hg.symm)) hb) (z1g (blk_below (zu BK688.out) hb) (z1g (blk_below (zu BK696.out) hb) (z1g (blk_below (zu BK697.out) hb) (z1g (IsS89.below z6r hb) (z1g (KeepBut.trans z6q (KeepBut.of_below hb g none) (.inl rfl)) (z1g (below_step z6s hb) (z1g hbox (z1g (z8x : w.heap.size ≤ gb708) (z1g ((Nat.le_trans HW0.out (z8x : w.heap.size ≤ gb708) : w0.heap.size ≤ gb708)) (z1e (z6l : gb688 ≠ gb708) (z6m : gb708 ≠ gb688) ((by rw [hg]; exact Nat.ne_of_lt (blk_lt (zu BK696.out)) : gb696 ≠ gb708)) ((by rw [hg]; exact Nat.ne_of_gt (blk_lt (zu BK696.out)) : gb708 ≠ gb696)) ((by rw [hg]; exact Nat.ne_of_lt (blk_lt (zu BK697.out)) : gb697 ≠ gb708)) ((by rw [hg]; exact Nat.ne_of_gt (blk_lt (zu BK697.out)) : gb708 ≠ gb697)) ((by rw [hg]; exact Nat.ne_of_lt (IsS89.lt (show IsS89 w0 _ g s0_0 t706 t707 from by repeat (first | (with_reducible first | exact HI0.out | apply IsS89.alloc | apply IsS89.drewN | apply IsS89.drew | apply IsS89.set_1 | apply IsS89.set_2 | refine IsS89.far ?_ NB0_688.out _ | refine IsS89.far ?_ NB0_696.out _ | refine IsS89.far ?_ NB0_697.out _) | exact HI0.out))) : g ≠ gb708)) ((by rw [hg]; exact Nat.ne_of_gt (IsS89.lt (show IsS89 w0 _ g s0_0 t706 t707 from by repeat (first | (with_reducible first | exact HI0.out | apply IsS89.alloc | apply IsS89.drewN | apply IsS89.drew | apply IsS89.set_1 | apply IsS89.set_2 | refine IsS89.far ?_ NB0_688.out _ | refine IsS89.far ?_ NB0_696.out _ | refine IsS89.far ?_ NB0_697.out _) | exact HI0.out))) : gb708 ≠ g)))))))))))); clear HO_698005 BK688 BK696 BK697 HI0 HK HB; obtain ⟨HO_698005, BK688, BK696, BK697, HI0, HK, HB, BK708, GW708, GE708, NB688_708, NB708_688, NB696_708, NB708_696, NB697_708, NB708_697, NB0_708, NB708_0⟩ := n_; clear hb hbox hg; have hnb33 := NB708_688.out; have hnc33 := NB688_708.out; have hnb34 := NB708_696.out; have hnc34 := NB696_708.out; have hnb35 := NB708_697.out; have hnc35 := NB697_708.out; have hnb36 := NB708_0.out; have hnc36 := NB0_708.out; obtain ⟨hcz37_0, hcz37_1, hcz37_2, hcz37_3, hcz37_4, hfz37_0, hfz37_1, hfz37_2, hfz37_3, hfz37_4⟩ := zg BK708.out; have hnb38 := NB697_688.out; have hnc38 := NB688_697.out; have hnb39 := NB697_696.out; have hnc39 := NB696_697.out; have hnb40 := NB697_0.out; have hnc40 := NB0_697.out; obtain ⟨hcz41_0, hcz41_1, hcz41_2, hcz41_3, hcz41_4, hcz41_5, hfz41_0, hfz41_1, hfz41_2, hfz41_3, hfz41_4, hfz41_5⟩ := zh BK697.out; obtain ⟨Ao42, co42, eo42⟩ := Kd.R_slice HO_698005.out; subst eo42) | ((with_reducible refine zi 82 rfl ?_); refine zj (some 30) Tryz.func82 #[.slice Ao42 x698005_1.length co42, .agg #[.string t701, .int .i64 t702, .int .i64 t703, .int .i64 t704, .string t705]] rfl ?_; (with_reducible refine (spec_l5Put.calls k1 _ _ x698005_1 t701 t702 t703 t704 t705 t709 _ ?side1 ?side2 A30.out).mono ?_); (case side1 => refine (Kd.R_reads' (e := 35) (base := w.heap.size) (ok := fun k_ => (k_ ≠ gb696 ∧ k_ ≠ gb708)) (n := x698005_1.length) (c := co42) ?_).2.2; exact z6x); (case side2 => exact (Kd.R_reads' HO_698005.out).2.1); rintro e w43 ⟨v710, rfl, ho0, hb⟩; refine ⟨_, rfl, ?_⟩; have n_ := z1g (Kd.R_elder' z6x (Kd.R_base ho0) hb) (z1e (Kd.R_lower (Kd.R_newB (Kd.R_newB (Kd.R_new' ho0 (Kd.R_lt z6x)) (g := gb696) (o := .cells #[.string t689, .int .i64 t690, .int .i64 t691, .int .i64 t692, .string t693] 35 (0, 0)) z6u) (g := gb708) (o := .cells #[.string t701, .int .i64 t702, .int .i64 t703, .int .i64 t704, .string t705] 35 (0, 0)) (by (repeat refine z1a ?_); refine blk_put (cs := #[.string t701, .int .i64 t702, .int .i64 t703, .int .i64 t704, .string ⟨#[]⟩]) ?_ 4 _ rfl; (repeat refine z1a ?_); refine blk_put (cs := #[.string t701, .int .i64 t702, .int .i64 t703, .int .i64 0, .string ⟨#[]⟩]) ?_ 3 _ rfl; (repeat refine z1a ?_); refine blk_put (cs := #[.string t701, .int .i64 t702, .int .i64 0, .int .i64 0, .string ⟨#[]⟩]) ?_ 2 _ rfl; (repeat refine z1a ?_); refine blk_put (cs := #[.string t701, .int .i64 0, .int .i64 0, .int .i64 0, .string ⟨#[]⟩]) ?_ 1 _ rfl; (repeat refine z1a ?_); refine blk_put (cs := #[.string ⟨#[]⟩, .int .i64 0, .int .i64 0, .int .i64 0, .string ⟨#[]⟩]) ?_ 0 _ rfl; (repeat refine z1a ?_); exact BK708.out)) (keep_size (w := w) (g := g) (row := none) z6v)) (blk_below (g := gb688) (o := .cells #[.string ⟨#[]⟩, .int .i64 0, .int .i64 0, .int .i64 0, .string ⟨#[]⟩, .slice none 0 0] 28 (0, 0)) (by (repeat (first | refine z1a ?_ | refine blk_far ?_ NB688_708.out _)); exact BK688.out) hb) (blk_below (g := gb696) (o := .cells #[.string t689, .int .i64 t690, .int .i64 t691, .int .i64 t692, .string t693] 35 (0, 0)) z6u hb) (blk_below (g := gb697) (o := .cells #[.string t689, .int .i64 t690, .int .i64 t691, .int .i64 t692, .string t693, .slice Ao42 x698005_1.length co42] 28 (0, 0)) (by (repeat (first | refine z1a ?_ | refine blk_far ?_ NB697_708.out _)); exact BK697.out) hb) (IsS89.below (show IsS89 w0 (((((w32.setCell ⟨gb708, 0, none⟩ (.string t701)).setCell ⟨gb708, 1, none⟩ (.int .i64 t702)).setCell ⟨gb708, 2, none⟩ (.int .i64 t703)).setCell ⟨gb708, 3, none⟩ (.int .i64 t704)).setCell ⟨gb708, 4, none⟩ (.string t705)) g s0_0 t706 t707 from by repeat (first | (with_reducible first | exact HI0.out | apply IsS89.alloc | apply IsS89.drewN | apply IsS89.drew | apply IsS89.set_1 | apply IsS89.set_2 | refine IsS89.far ?_ NB0_688.out _ | refine IsS89.far ?_ NB0_696.out _ | refine IsS89.far ?_ NB0_697.out _ | refine IsS89.far ?_ NB0_708.out _) | exact HI0.out)) hb) (blk_below (g := gb708) (o := .cells #[.string t701, .int .i64 t702, .int .i64 t703, .int .i64 t704, .string t705] 35 (0, 0)) (by (repeat refine z1a ?_); refine blk_put (cs := #[.string t701, .int .i64 t702, .int .i64 t703, .int .i64 t704, .string ⟨#[]⟩]) ?_ 4 _ rfl; (repeat refine z1a ?_); refine blk_put (cs := #[.string t701, .int .i64 t702, .int .i64 t703, .int .i64 0, .string ⟨#[]⟩]) ?_ 3 _ rfl; (repeat refine z1a ?_); refine blk_put (cs := #[.string t701, .int .i64 t702, .int .i64 0, .int .i64 0, .string ⟨#[]⟩]) ?_ 2 _ rfl; (repeat refine z1a ?_); refine blk_put (cs := #[.string t701, .int .i64 0, .int .i64 0, .int .i64 0, .string ⟨#[]⟩]) ?_ 1 _ rfl; (repeat refine z1a ?_); refine blk_put (cs := #[.string ⟨#[]⟩, .int .i64 0, .int .i64 0, .int .i64 0, .string ⟨#[]⟩]) ?_ 0 _ rfl; (repeat refine z1a ?_); exact BK708.out) hb) (KeepBut.trans z6v (KeepBut.of_below hb g none) (.inl rfl)) (below_step z6w hb)); clear HO_698005 BK688 BK696 BK697 HI0 BK708 HK HB; obtain ⟨HO_698005, HO711, BK688, BK696, BK697, HI0, BK708, HK, HB⟩ := n_; (try clear hb); (try clear ho0); obtain ⟨Ao44, co44, eo44⟩ := Kd.R_slice HO711.out; subst eo44; obtain ⟨hcz45_0, hcz45_1, hcz45_2, hcz45_3, hcz45_4, hcz45_5, hfz45_0, hfz45_1, hfz45_2, hfz45_3, hfz45_4, hfz45_5⟩ := zh BK697.out))
     go_roundg k1
     case measure => have := HK1.out; omega
     case rel => exact ⟨(wrap64 (x5_1 - 1)), (t706), (t707), (t709), (.slice Ao44 t709.length co44), z1n, H', ⟨z1q⟩, ⟨by (with_reducible repeat (first | apply Kd.R_alloc | apply Kd.R_drewN | apply Kd.R_drew)); exact Kd.R_mono (z1d gb697 5 (Kd.R_types HO711.out BK697.out z1l) (.slice Ao44 t709.length co44)) (fun _ hk => hk.1.1.2)⟩, ⟨by (repeat refine z1a ?_); refine blk_far ?_ NB688_697.out _; (repeat refine z1a ?_); exact BK688.out⟩, ⟨by (repeat refine z1a ?_); refine blk_far ?_ NB696_697.out _; (repeat refine z1a ?_); exact BK696.out⟩, ⟨by (repeat refine z1a ?_); refine blk_put (cs := #[.string t689, .int .i64 t690, .int .i64 t691, .int .i64 t692, .string t693, .slice Ao42 x698005_1.length co42]) ?_ 5 _ rfl; (repeat refine z1a ?_); exact BK697.out⟩, ⟨by repeat (first | (with_reducible first | exact HI0.out | apply IsS89.alloc | apply IsS89.drewN | apply IsS89.drew | apply IsS89.set_1 | apply IsS89.set_2 | refine IsS89.far ?_ NB0_688.out _ | refine IsS89.far ?_ NB0_696.out _ | refine IsS89.far ?_ NB0_697.out _ | refine IsS89.far ?_ NB0_708.out _) | exact HI0.out)⟩, ⟨z6v⟩, ⟨z6w⟩⟩
   ·rw [if_neg c16] at H
    have c16b0 := decide_eq_false c16
    clear c16
    simp only [Option.some.injEq, Prod.mk.injEq] at H
    obtain ⟨rfl, rfl, rfl, rfl, rfl, rfl, rfl, rfl⟩ := H
    have hnb46 := NB697_688.out
    have hnc46 := NB688_697.out
    have hnb47 := NB697_696.out
    have hnc47 := NB696_697.out
    have hnb48 := NB697_0.out
    have hnc48 := NB0_697.out
    obtain ⟨hcz49_0, hcz49_1, hcz49_2, hcz49_3, hcz49_4, hcz49_5, hfz49_0, hfz49_1, hfz49_2, hfz49_3, hfz49_4, hfz49_5⟩ := zh BK697.out
    have hnb50 := NB688_696.out
    have hnc50 := NB696_688.out
    have hnb51 := NB688_0.out
    have hnc51 := NB0_688.out
    obtain ⟨hcz52_0, hcz52_1, hcz52_2, hcz52_3, hcz52_4, hcz52_5, hfz52_0, hfz52_1, hfz52_2, hfz52_3, hfz52_4, hfz52_5⟩ := zh BK688.out
    obtain ⟨Ao53, co53, eo53⟩ := Kd.R_slice HO_698005.out
    subst eo53
    go_wp2
    refine bodyPost_ret (results_cell_row rfl _ _ gb688 28 #[.string t689, .int .i64 t690, .int .i64 t691, .int .i64 t692, .string t693, .slice Ao53 x698005_1.length co53] (0, 0) _ rfl (by (repeat refine z1a ?_); refine blk_put (cs := #[.string t689, .int .i64 t690, .int .i64 t691, .int .i64 t692, .string t693, .slice none 0 0]) ?_ 5 _ rfl; (repeat refine z1a ?_); refine blk_put (cs := #[.string t689, .int .i64 t690, .int .i64 t691, .int .i64 t692, .string ⟨#[]⟩, .slice none 0 0]) ?_ 4 _ rfl; (repeat refine z1a ?_); refine blk_put (cs := #[.string t689, .int .i64 t690, .int .i64 t691, .int .i64 0, .string ⟨#[]⟩, .slice none 0 0]) ?_ 3 _ rfl; (repeat refine z1a ?_); refine blk_put (cs := #[.string t689, .int .i64 t690, .int .i64 0, .int .i64 0, .string ⟨#[]⟩, .slice none 0 0]) ?_ 2 _ rfl; (repeat refine z1a ?_); refine blk_put (cs := #[.string t689, .int .i64 0, .int .i64 0, .int .i64 0, .string ⟨#[]⟩, .slice none 0 0]) ?_ 1 _ rfl; (repeat refine z1a ?_); refine blk_put (cs := #[.string ⟨#[]⟩, .int .i64 0, .int .i64 0, .int .i64 0, .string ⟨#[]⟩, .slice none 0 0]) ?_ 0 _ rfl; (repeat refine z1a ?_); exact BK688.out) Tryz.underlying28 rfl z1m) rfl ?_
    exact ⟨_, z1t, by (with_reducible repeat (first | apply Kd.R_alloc | apply Kd.R_drewN | apply Kd.R_drew)); exact Kd.R_mono (z1d gb688 5 (z1d gb688 4 (z1d gb688 3 (z1d gb688 2 (z1d gb688 1 (z1d gb688 0 (Kd.R_types HO_698005.out BK688.out z1l) (.string t689)) (.int .i64 t690)) (.int .i64 t691)) (.int .i64 t692)) (.string t693)) (.slice Ao53 x698005_1.length co53)) (fun _ hk => trivial), z6r, z6s, z6q⟩
end Go.Proofs.YtgdknepphkhnlaaGreatDoor.X

/- A row of bytes made of a string ('[]byte(s)') that is written and cut afterwards: where it lies, what it holds; it stays so over what leaves its block alone. No conditions beyond what each lemma names. -/
set_option linter.unusedVariables false
set_option linter.unusedSimpArgs false
namespace Go.Proofs.YtgdknepphkhnlaaGreatDoor.Y
open Go.RowKit Go.Proofs.YtgdknepphkhnlaaGreatDoorW.PrintWords
def RB (w : World) (base : Nat) (v : Value) (xs : List Int) : Prop := ∃ g c cur a b, v = .slice (some ⟨g, 0, none⟩) xs.length c ∧ base ≤ g ∧ w.heap[g]? = some (.cells cur 5 (a, b)) ∧ xs.length ≤ a ∧ xs.length ≤ c ∧ xs.length ≤ 9223372036854775807 ∧ ∀ j, j < xs.length → cur[j]? = some (.int .u8 (xs.getD j 0))
variable {w w' : World} {base base' : Nat} {v : Value} {xs : List Int}
theorem RB.lower (h : RB w base v xs) (hb : base' ≤ base) : RB w base' v xs := by
 obtain ⟨g, c, cur, a, b, h1, h2, h3⟩ := h
 exact ⟨g, c, cur, a, b, h1, Nat.le_trans hb h2, h3⟩
theorem RB.move (h : RB w base v xs) (hm : ∀ (g : Nat) (cur : Array Value) (a b : Nat), w.heap[g]? = some (Obj.cells cur 5 (a, b)) → w'.heap[g]? = w.heap[g]?) : RB w' base v xs := by
 obtain ⟨g, c, cur, a, b, h1, h2, h3, h4⟩ := h
 exact ⟨g, c, cur, a, b, h1, h2, (hm g cur a b h3).trans h3, h4⟩
theorem RB.below (h : RB w base v xs) (hb : Below w.heap.size w w') : RB w' base v xs := h.move (fun g cur a b hg => hb.block g (blk_lt hg))
theorem RB.keep {g0 : Nat} (h : RB w base v xs) (hk : KeepBut w w' g0 none) (hne : ∀ (g : Nat) (cur : Array Value) (a b : Nat), w.heap[g]? = some (Obj.cells cur 5 (a, b)) → g ≠ g0) : RB w' base v xs := h.move (fun g cur a b hg => hk.2 g (blk_lt hg) (hne g cur a b hg) (by simp))
theorem RB.slice (h : RB w base v xs) : ∃ A c, v = .slice A xs.length c := by
 obtain ⟨g, c, cur, a, b, h1, _⟩ := h
 exact ⟨_, c, h1⟩
theorem RB.reads {A : Option Addr} {n c : Nat} (h : RB w base (.slice A n c) xs) : n = xs.length ∧ n ≤ c ∧ (Kd.int .u8).C w A xs.length xs := by
 obtain ⟨g, c', cur, a, b, h1, h2, h3, h4, h5, h6, h7⟩ := h
 injection h1 with e1 e2 e3
 subst e1; subst e2; subst e3
 refine ⟨rfl, h5, Kd.C_of_reads (d := (0 : Int)) (h1 := fun _ => rfl) ⟨rfl, h6, fun hn => ⟨_, rfl, fun j hj => ?_⟩⟩⟩
 rw [add_plain]
 unfold World.cell?
 rw [h3]
 exact h7 j hj
theorem RB.form (h : RB w base v xs) : ∃ g c, v = .slice (some ⟨g, 0, none⟩) xs.length c ∧ base ≤ g := by
 obtain ⟨g, c, cur, a, b, h1, h2, _⟩ := h
 exact ⟨g, c, h1, h2⟩
theorem RB.cell {g n c : Nat} (h : RB w base (.slice (some ⟨g, 0, none⟩) n c) xs) (i : Int) (h0 : 0 ≤ i) (h1 : i < xs.length) : w.cell? ⟨g, i.toNat, none⟩ = some (.int .u8 (rd xs i)) ∧ w.frozen? ⟨g, i.toNat, none⟩ = false := by
 obtain ⟨g', c', cur, a, b, e, h2, h3, h4, h5, h6, h7⟩ := h
 injection e with e1 e2 e3
 injection e1 with e1
 injection e1 with e1
 subst e1
 have hj : i.toNat < xs.length := by omega
 constructor
 ·unfold World.cell?
  rw [h3]
  exact h7 _ hj
 ·unfold World.frozen?
  rw [h3]
  simp
  omega
theorem RB.put {g n c : Nat} (h : RB w base (.slice (some ⟨g, 0, none⟩) n c) xs) (i : Int) (h0 : 0 ≤ i) (x : Int) : RB (w.setCell ⟨g, i.toNat, none⟩ (.int .u8 x)) base (.slice (some ⟨g, 0, none⟩) n c) (xs.set i.toNat x) := by
 obtain ⟨g', c', cur, a, b, e, h2, h3, h4, h5, h6, h7⟩ := h
 injection e with e1 e2 e3
 injection e1 with e1
 injection e1 with e1
 subst e1; subst e2; subst e3
 refine ⟨g, c, cur.setIfInBounds i.toNat (.int .u8 x), a, b, by rw [List.length_set], h2, ?_, by rw [List.length_set]; exact h4, by rw [List.length_set]; exact h5, by rw [List.length_set]; exact h6, fun j hj => ?_⟩
 ·simp [World.setCell, Array.getElem?_modify, h3]
 ·rw [List.length_set] at hj
  rw [Array.getElem?_setIfInBounds]
  by_cases hij : i.toNat = j
  ·subst hij
   have hc := h7 _ hj
   have hlt : i.toNat < cur.size := (Array.getElem?_eq_some_iff.1 hc).1
   simp [hlt, List.getD_eq_getElem?_getD, List.getElem?_set_self hj]
  ·rw [if_neg hij, h7 j hj]
   simp [List.getD_eq_getElem?_getD, List.getElem?_set_ne hij]
theorem RB.take {A : Option Addr} {n c m : Nat} (h : RB w base (.slice A n c) xs) (hm : m ≤ xs.length) : RB w base (.slice A m c) (xs.take m) := by
 obtain ⟨g', c', cur, a, b, e, h2, h3, h4, h5, h6, h7⟩ := h
 injection e with e1 e2 e3
 subst e1; subst e2; subst e3
 have hl : (xs.take m).length = m := by rw [List.length_take]; omega
 refine ⟨g', c, cur, a, b, by rw [hl], h2, h3, z1k, z1k, z1k, fun j hj => ?_⟩
 rw [hl] at hj
 rw [h7 j z1k]
 simp [List.getD_eq_getElem?_getD, hj]
theorem RB.string {P : Program} {src dst : TypeId} {A : Option Addr} {n c : Nat} (hs : P.underlying src = some (.slice 5)) (he : P.underlying 5 = some (.int .u8)) (hd : P.underlying dst = some .string) (h : RB w base (.slice A n c) xs) : (convert src dst (.slice A n c)).run P w = .ok (.string (strOfNums xs)) w := by
 obtain ⟨h1, h2, h3⟩ := h.reads
 subst h1
 exact Kd.C_string hs he hd h3
theorem RB.conv (w : World) (s : ByteArray) (h : s.size ≤ 9223372036854775807) : RB (Lib.bytesWorld w 5 s) w.heap.size (.slice (some ⟨w.heap.size, 0, none⟩) (bytesOf s).length (grownCap w s.size 0 5)) (bytesOf s) := by
 refine ⟨w.heap.size, _, _, _, _, rfl, Nat.le_refl _, Lib.bytesWorld_at_new w 5 s, ?_, ?_, by rw [bytesOf_length]; exact h, fun j hj => ?_⟩
 ·rw [bytesOf_length]
  have := grownCap_ge w s.size 0 5
  simp [Lib.bytesCells]
  try omega
 ·rw [bytesOf_length]
  exact grownCap_ge w s.size 0 5
 ·rw [bytesOf_length] at hj
  rw [← bytes_get s j hj]
  have hj' : j < s.data.size := hj
  simp [Lib.bytesCells, Array.getElem?_append, hj', List.getD_eq_getElem?_getD, hj, Array.getElem?_eq_getElem]
section
variable {P : Program} {ops : Array Oper} {rest : List Oper} {o : Oper} {a : Act} {Q : Exit → Act → World → Prop}
theorem conv_own {W : World} (hgd : o.guard = none) {N : Tmp} (hd : o.dst = some N) (src dst : TypeId) (x : Operand) (ho : o.op = .convert src dst x) (s : ByteArray) (hx : a.eval x = .string s)
  (hs : P.underlying src = some .string) (ht : P.underlying dst = some (.slice 5)) (he : P.underlying 5 = some (.int .u8)) (y : List Int) (hy : y = bytesOf s) (hm : s.size ≤ 9223372036854775807)
  (h : ∀ v w1, RB w1 W.heap.size v y → Below W.heap.size W w1 → wpList P ops Q rest (a.put o.dst v) w1) : wpList P ops Q (o :: rest) a W := by
 subst hy
 refine Kd.event_run hgd (w1 := Lib.bytesWorld W 5 s) (v := .slice (some ⟨W.heap.size, 0, none⟩) (bytesOf s).length (grownCap W s.size 0 5)) ?_ (h _ _ (RB.conv W s hm) (conv_below W 5 s))
 have hr := Lib.run_convert_string_bytes (P := P) W src dst 5 s hs ht he
 rw [bytesOf_length]
 simp [execOp, ho, hx, hr]
end
end Go.Proofs.YtgdknepphkhnlaaGreatDoor.Y

namespace Go.Proofs.YtgdknepphkhnlaaGreatDoor.X
open Go.RowKit Go.Proofs.YtgdknepphkhnlaaGreatDoorW.PrintWords Go.Proofs.YtgdknepphkhnlaaGreatDoorW.PrintLast Go.Proofs.YtgdknepphkhnlaaGreatDoorW.PrintMore
attribute [local go_sem] max2_int min2_int max_two min_two max_three min_three max_four min_four
set_option linter.unusedVariables false
set_option linter.unusedSimpArgs false
def spec_DrawGetEntry.f (k : Nat) (l0 : List Int) : Option (ByteArray) := (spec_l1New.f k l0).bind fun bt574 => ((spec_l5Entry.f k bt574.1 bt574.2.1 bt574.2.2).bind fun bt578 => ((spec_PutEntry.f k bt578.1 bt578.2.1 bt578.2.2.1 bt578.2.2.2.1 bt578.2.2.2.2.1 bt578.2.2.2.2.2.1).bind fun t588 => (if t588.size ≤ 9223372036854775807 then ((some (bytesOf t588 : List Int)).bind fun y589 => ((spec_l1Below.f bt574.1 bt578.2.2.2.2.2.2.1 bt578.2.2.2.2.2.2.2 5).bind fun bt592 => (if bt592.1 = 0 then ((spec_l1Below.f bt574.1 bt592.2.1 bt592.2.2 (y589.length : Int)).bind fun bt595 => ((spec_l1Int.f bt574.1 bt595.2.1 bt595.2.2 (([0, 1, 2, 97, 64, 128] : List Int))).bind fun bt601 => (if 0 ≤ bt595.1 then (if bt595.1 < (y589.length : Int) then (some (strOfNums (y589.set (bt595.1 : Int).toNat ((bt601.1) % 256)))) else (none)) else (none)))) else (if bt592.1 = 1 then ((spec_l1Below.f bt574.1 bt592.2.1 bt592.2.2 (y589.length : Int)).bind fun bt605 => (if 0 ≤ bt605.1 then (if bt605.1 ≤ (y589.length : Int) then (some (strOfNums (y589.take (bt605.1 : Int).toNat))) else (none)) else (none))) else (some (strOfNums y589)))))) else (none))))
set_option maxHeartbeats 8000000 in
set_option maxRecDepth 100000 in
theorem spec_DrawGetEntry.calls (k : Nat) (A0 : Option Addr) (c0 : Nat) (l0 : List Int) (r : ByteArray) (w : World) (hr0 : Kd.C (Kd.int .u8) w A0 l0.length l0) (hc0 : l0.length ≤ c0) (h : spec_DrawGetEntry.f k l0 = some r) :
  Calls Tryz.prog 22 #[.slice A0 l0.length c0] w fun e w' => e = .returned (.string r) ∧ Below w.heap.size w w' := by
 have HR0 := zn hr0
 have HC0 := zn hc0
 clear hr0 hc0
 have HB := zn (Below.refl w.heap.size w)
 have H := h
 unfold spec_DrawGetEntry.f at H
 clear h
 obtain ⟨⟨t574, t575, t576⟩, A2, H⟩ := zm H
 try dsimp only at H
 obtain ⟨⟨t578, t579, t580, t581, t582, t583, t586, t587⟩, A3, H⟩ := zm H
 try dsimp only at H
 obtain ⟨t588, A4, H⟩ := zm H
 try dsimp only at H
 by_cases c5 : t588.size ≤ 9223372036854775807
 ·rw [if_pos c5] at H
  have c5b0 := eq_true c5
  have c5b1 := decide_eq_true c5
  try have c5b2 : (9223372036854775807 < t588.size) = False := eq_false (Nat.not_lt.2 c5)
  clear c5
  obtain ⟨y589, hy589⟩ : ∃ y_ : List Int, y_ = (bytesOf t588) := ⟨_, rfl⟩
  replace H : ((spec_l1Below.f t574 t586 t587 5).bind fun bt592 => (if bt592.1 = 0 then ((spec_l1Below.f t574 bt592.2.1 bt592.2.2 (y589.length : Int)).bind fun bt595 => ((spec_l1Int.f t574 bt595.2.1 bt595.2.2 (([0, 1, 2, 97, 64, 128] : List Int))).bind fun bt601 => (if 0 ≤ bt595.1 then (if bt595.1 < (y589.length : Int) then (some (strOfNums (y589.set (bt595.1 : Int).toNat ((bt601.1) % 256)))) else (none)) else (none)))) else (if bt592.1 = 1 then ((spec_l1Below.f t574 bt592.2.1 bt592.2.2 (y589.length : Int)).bind fun bt605 => (if 0 ≤ bt605.1 then (if bt605.1 ≤ (y589.length : Int) then (some (strOfNums (y589.take (bt605.1 : Int).toNat))) else (none)) else (none))) else (some (strOfNums y589))))) = some r := by first | (rw [hy589]; with_reducible exact H) | (have H2_ := (Option.bind_some _ _).symm.trans H; rw [hy589]; with_reducible exact H2_) | (have H2_ := (Option.bind_some _ _).symm.trans H; with_reducible exact H2_) | with_reducible exact H | (rw [hy589]; exact H) | exact H
  have Ny589 := zn hy589
  clear hy589
  obtain ⟨⟨t592, t593, t594⟩, A6, H⟩ := zm H
  try dsimp only at H
  by_cases c7 : t592 = 0
  ·rw [if_pos c7] at H
   have c7b0 := beq_iff_eq.mpr c7
   have c7b1 := bne_eq_false_iff_eq.mpr c7
   clear c7
   obtain ⟨⟨t595, t596, t597⟩, A8, H⟩ := zm H
   try dsimp only at H
   obtain ⟨y598, hy598⟩ : ∃ y_ : List Int, y_ = (([0, 1, 2, 97, 64, 128] : List Int)) := ⟨_, rfl⟩
   replace H : ((spec_l1Int.f t574 t596 t597 y598).bind fun bt601 => (if 0 ≤ t595 then (if t595 < (y589.length : Int) then (some (strOfNums (y589.set (t595 : Int).toNat ((bt601.1) % 256)))) else (none)) else (none))) = some r := by first | (rw [hy598]; with_reducible exact H) | (have H2_ := (Option.bind_some _ _).symm.trans H; rw [hy598]; with_reducible exact H2_) | (have H2_ := (Option.bind_some _ _).symm.trans H; with_reducible exact H2_) | with_reducible exact H | (rw [hy598]; exact H) | exact H
   have Ny598 := zn hy598
   clear hy598
   obtain ⟨⟨t601, t602, t603⟩, A9, H⟩ := zm H
   try dsimp only at H
   by_cases c10 : 0 ≤ t595
   ·rw [if_pos c10] at H
    have c10b0 := decide_eq_true c10
    clear c10
    by_cases c11 : t595 < (y589.length : Int)
    ·rw [if_pos c11] at H
     have c11b0 := decide_eq_true c11
     clear c11
     obtain ⟨y604, hy604⟩ : ∃ y_ : List Int, y_ = (y589.set (t595 : Int).toNat ((t601) % 256)) := ⟨_, rfl⟩
     replace H : (some (strOfNums y604)) = some r := by first | (rw [hy604]; with_reducible exact H) | (have H2_ := (Option.bind_some _ _).symm.trans H; rw [hy604]; with_reducible exact H2_) | (have H2_ := (Option.bind_some _ _).symm.trans H; with_reducible exact H2_) | with_reducible exact H | (rw [hy604]; exact H) | exact H
     have Ny604 := zn hy604
     clear hy604
     obtain rfl := Option.some.inj H
     go_enter Tryz.func22, Tryz.ntmps22
     go_wp2_with (first | ((with_reducible refine zi 28 rfl ?_); refine zj (some 6) Tryz.func28 #[.slice A0 l0.length c0] rfl ?_; (with_reducible refine (spec_l1New.calls k _ _ l0 t574 t575 t576 w _ ?side1 ?side2 ?side3 A2.out).mono ?_); (case side1 => exact z1r); (case side2 => exact HR0.out); (case side3 => exact HC0.out); rintro e w13 ⟨g577, rfl, hi, hb, hb2⟩; refine ⟨_, rfl, ?_⟩; have n_ := zo hb hi; clear HB; obtain ⟨HB, HI577⟩ := n_; (try clear hb); (try clear hb2); (try clear hi)) | ((with_reducible refine zi 49 rfl ?_); refine zj (some 8) Tryz.func49 #[.pointer (some ⟨g577, 0, none⟩)] rfl ?_; (with_reducible refine (spec_l5Entry.calls k g577 t574 t575 t576 t578 t579 t580 t581 t582 t583 t586 t587 w _ ?side1 ?side2 A3.out).mono ?_); (case side1 => exact z7a); (case side2 => exact z6y); rintro e w14 ⟨v584, rfl, ho0, hi, hb, hk⟩; refine ⟨_, rfl, ?_⟩; have n_ := z1c (Kd.R_lower ho0 (below_size z6y)) hb hi; clear HB HI577; obtain ⟨HO585, HB, HI577⟩ := n_; (try clear hb); (try clear hk); (try clear hi); (try clear ho0); obtain ⟨Ao15, co15, eo15⟩ := Kd.R_slice HO585.out; subst eo15) | ((with_reducible refine zi 26 rfl ?_); refine zj (some 9) Tryz.func26 #[.agg #[.string t578, .int .i64 t579, .int .i64 t580, .int .i64 t581, .string t582, .slice Ao15 t583.length co15]] rfl ?_; (with_reducible refine (spec_PutEntry.calls k t578 t579 t580 t581 t582 _ _ t583 t588 _ ?side1 ?side2 A4.out).mono ?_); (case side1 => exact z7b); (case side2 => exact (Kd.R_reads' HO585.out).2.1); rintro e w16 ⟨rfl, hb⟩; refine ⟨_, rfl, ?_⟩; have n_ := z1c (Kd.R_below z6z hb) (IsS89.below z7a hb) (below_step z6y hb); clear HO585 HI577 HB; obtain ⟨HO585, HI577, HB⟩ := n_; (try clear hb)) | ((with_reducible refine zr 10 rfl ?_); refine Y.conv_own ?hg (N := 10) ?hd 9 22 (.tmp 9) ?ho t588 ?hx Tryz.underlying9 Tryz.underlying22 Tryz.underlying5 y589 Ny589.out (of_decide_eq_true z1p) ?_; (case hd => exact z2b); (case hg => exact z2b); (case ho => exact z2b); (case hx => exact z2b); intro v590 w17 ho9 hb; have n_ := zv (Kd.R_below z6z hb) (Y.RB.lower ho9 (below_size z6y)) (IsS89.below z7a hb) (below_step z6y hb); clear HO585 HI577 HB; obtain ⟨HO585, HO591, HI577, HB⟩ := n_) | ((with_reducible refine zi 50 rfl ?_); refine zj (some 12) Tryz.func50 #[.pointer (some ⟨g577, 0, none⟩), .int .i64 5] rfl ?_; (with_reducible refine (spec_l1Below.calls g577 t574 t586 t587 5 t592 t593 t594 w _ ?side1 ?side2 A6.out).mono ?_); (case side1 => exact z7a); (case side2 => exact z6y); rintro e w18 ⟨rfl, hi, hb, hk⟩; refine ⟨_, rfl, ?_⟩; have n_ := zv (Kd.R_mono (Kd.R_keep (IsS89.apart (show IsS89 w _ g577 t574 t586 t587 from by repeat (first | (with_reducible first | exact HI577.out | apply IsS89.alloc | apply IsS89.drewN | apply IsS89.drew | apply IsS89.set_1 | apply IsS89.set_2) | exact HI577.out)) z6z z1l) hk (fun _ h => h.2)) (fun _ h => h.1)) (Y.RB.keep HO591.out hk (fun g_ cur_ a_ b_ hg_ => Ne.symm (IsS89.ne_blk (show IsS89 w _ g577 t574 t586 t587 from by repeat (first | (with_reducible first | exact HI577.out | apply IsS89.alloc | apply IsS89.drewN | apply IsS89.drew | apply IsS89.set_1 | apply IsS89.set_2) | exact HI577.out)) hg_ z1l))) hb hi; clear HO585 HO591 HB HI577; obtain ⟨HO585, HO591, HB, HI577⟩ := n_; (try clear hb); (try clear hk); (try clear hi); obtain ⟨Ao19, co19, eo19⟩ := Y.RB.slice HO591.out; subst eo19) | ((with_reducible refine zi 50 rfl ?_); refine zj (some 19) Tryz.func50 #[.pointer (some ⟨g577, 0, none⟩), .int .i64 (y589.length : Int)] rfl ?_; (with_reducible refine (spec_l1Below.calls g577 t574 t593 t594 (y589.length : Int) t595 t596 t597 w _ ?side1 ?side2 A8.out).mono ?_); (case side1 => exact z7a); (case side2 => exact z6y); rintro e w20 ⟨rfl, hi, hb, hk⟩; refine ⟨_, rfl, ?_⟩; have n_ := zv (Kd.R_mono (Kd.R_keep (IsS89.apart (show IsS89 w _ g577 t574 t593 t594 from by repeat (first | (with_reducible first | exact HI577.out | apply IsS89.alloc | apply IsS89.drewN | apply IsS89.drew | apply IsS89.set_1 | apply IsS89.set_2) | exact HI577.out)) z6z z1l) hk (fun _ h => h.2)) (fun _ h => h.1)) (Y.RB.keep HO591.out hk (fun g_ cur_ a_ b_ hg_ => Ne.symm (IsS89.ne_blk (show IsS89 w _ g577 t574 t593 t594 from by repeat (first | (with_reducible first | exact HI577.out | apply IsS89.alloc | apply IsS89.drewN | apply IsS89.drew | apply IsS89.set_1 | apply IsS89.set_2) | exact HI577.out)) hg_ z1l))) hb hi; clear HO585 HO591 HB HI577; obtain ⟨HO585, HO591, HB, HI577⟩ := n_; (try clear hb); (try clear hk); (try clear hi)) | ((with_reducible refine zr 21 rfl ?_); refine Kd.R_lit (Kd.int .i64) _ 3 ?hg (N := 21) ?hd (xs := ([0, 1, 2, 97, 64, 128] : List Int)) (inner := [.int .i64 0, .int .i64 1, .int .i64 2, .int .i64 97, .int .i64 64, .int .i64 128]) (ok := fun _ => True) (okp := fun _ => True) ?hr ?hp (fun _ hk => hk) trivial (Below.refl _ _) (Nat.le_refl _) (by simp) ?_; (case hd => exact z2b); (case hg => exact z2b); (case hr => exact z3t); (case hp => exact (Reps.one (show Kd.M (Kd.int .i64) _ _ _ 0 [.int .i64 0] from rfl) (Reps.one (show Kd.M (Kd.int .i64) _ _ _ 1 [.int .i64 1] from rfl) (Reps.one (show Kd.M (Kd.int .i64) _ _ _ 2 [.int .i64 2] from rfl) (Reps.one (show Kd.M (Kd.int .i64) _ _ _ 97 [.int .i64 97] from rfl) (Reps.one (show Kd.M (Kd.int .i64) _ _ _ 64 [.int .i64 64] from rfl) (Reps.one (show Kd.M (Kd.int .i64) _ _ _ 128 [.int .i64 128] from rfl) (Reps.none _ _)))))))); intro v599 w21 ho22 hb hg_ hnew_; clear hg_ hnew_; (first | rw [← Ny598.out] at ho22 | (simp only [Int.reduceToNat] at ho22; rw [← Ny598.out] at ho22)); have n_ := z1h (Kd.R_below z6z hb) (Y.RB.below HO591.out hb) (Kd.R_lower ho22 (below_size z6y)) (IsS89.below z7a hb) (below_step z6y hb); clear HO585 HO591 HI577 HB; obtain ⟨HO585, HO591, HO600, HI577, HB⟩ := n_; clear hb ho22; obtain ⟨Ao23, co23, eo23⟩ := Kd.R_slice HO600.out; subst eo23) | ((with_reducible refine zi 51 rfl ?_); refine zj (some 22) Tryz.func51 #[.pointer (some ⟨g577, 0, none⟩), .slice Ao23 y598.length co23] rfl ?_; (with_reducible refine (spec_l1Int.calls g577 t574 t596 t597 _ _ y598 t601 t602 t603 w _ ?side1 ?side2 ?side3 ?side4 ?side5 A9.out).mono ?_); (case side1 => exact z7a); (case side2 => exact z6y); (case side3 => repeat (first | exact (Kd.R_reads' HO600.out).2.2 | (with_reducible refine Kd.C_alloc ?_ _) | (with_reducible refine Kd.C_drewN ?_ _) | (with_reducible refine Kd.C_drew ?_))); (case side4 => exact (Kd.R_reads' HO600.out).2.1); (case side5 => exact far_slice (IsS89.own_ne HI577.out HO600.out z1l)); rintro e w24 ⟨rfl, hi, hb, hk⟩; refine ⟨_, rfl, ?_⟩; have n_ := z1h (Kd.R_mono (Kd.R_keep (IsS89.apart (show IsS89 w _ g577 t574 t596 t597 from by repeat (first | (with_reducible first | exact HI577.out | apply IsS89.alloc | apply IsS89.drewN | apply IsS89.drew | apply IsS89.set_1 | apply IsS89.set_2) | exact HI577.out)) z6z z1l) hk (fun _ h => h.2)) (fun _ h => h.1)) (Y.RB.keep HO591.out hk (fun g_ cur_ a_ b_ hg_ => Ne.symm (IsS89.ne_blk (show IsS89 w _ g577 t574 t596 t597 from by repeat (first | (with_reducible first | exact HI577.out | apply IsS89.alloc | apply IsS89.drewN | apply IsS89.drew | apply IsS89.set_1 | apply IsS89.set_2) | exact HI577.out)) hg_ z1l))) (Kd.R_mono (Kd.R_keep (IsS89.apart (show IsS89 w _ g577 t574 t596 t597 from by repeat (first | (with_reducible first | exact HI577.out | apply IsS89.alloc | apply IsS89.drewN | apply IsS89.drew | apply IsS89.set_1 | apply IsS89.set_2) | exact HI577.out)) (by (with_reducible repeat (first | apply Kd.R_alloc | apply Kd.R_drewN | apply Kd.R_drew)); exact HO600.out) z1l) hk (fun _ h => h.2)) (fun _ h => h.1)) hb hi; clear HO585 HO591 HO600 HB HI577; obtain ⟨HO585, HO591, HO600, HB, HI577⟩ := n_; (try clear hb); (try clear hk); (try clear hi); have p12 : 0 ≤ (t595 : Int) := of_decide_eq_true z1p; have q12 : (t595 : Int) < ((y589.length : Int) : Int) := of_decide_eq_true z1p; obtain ⟨go12, co12, eo12, gb12⟩ := Y.RB.form HO591.out; (injection eo12 with ea_ en_ ec_; subst ea_; subst ec_; clear en_); have GB12 := zn gb12; clear gb12; obtain ⟨hx12_0, hf12_0⟩ := Y.RB.cell HO591.out (t595 : Int) p12 q12; have HP25 := zn (Y.RB.put HO591.out (t595 : Int) p12 ((t601) % 256)); replace p12 := eq_true p12; replace q12 := eq_true q12) | ((with_reducible refine gate_store (t := 5) (p := 24) rfl ?_); refine store_event (t := 5) (p := 24) (v := ?vo_w26) (w1 := (w24.setCell ⟨go12, (t595 : Int).toNat, none⟩ (.int .u8 ((t601) % 256)))) ?hg ?ho ?hn ?hr ?_; (case ho => exact z2b); (case hg => exact z2b); (case hn => exact z2b); (case hr => exact z3t); intro w26 hw; have n_ := zo ((by rw [hw, Ny604.out]; exact HP25.out) : Y.RB w26 w.heap.size (.slice (some ⟨go12, 0, none⟩) y589.length co19) y604) ((by rw [hw]; exact below_set (HB.out) GB12.out : Below w.heap.size w w26)); clear HO591 HB; obtain ⟨HO591, HB⟩ := n_; clear hw; clear HP25 HI577 HO585 HO600; have hcv27 := Y.RB.string (P := Tryz.prog) Tryz.underlying22 Tryz.underlying5 Tryz.underlying9 HO591.out))
     go_ret
     exact ⟨z1t, z6y⟩
    ·rw [if_neg c11] at H
     exact absurd H (by simp)
   ·rw [if_neg c10] at H
    exact absurd H (by simp)
  ·rw [if_neg c7] at H
   have c7b0 := beq_eq_false_iff_ne.mpr c7
   have c7b1 := bne_iff_ne.mpr c7
   by_cases c28 : t592 = 1
   ·rw [if_pos c28] at H
    have c28b0 := beq_iff_eq.mpr c28
    have c28b1 := bne_eq_false_iff_eq.mpr c28
    clear c28
    obtain ⟨⟨t605, t606, t607⟩, A29, H⟩ := zm H
    try dsimp only at H
    by_cases c30 : 0 ≤ t605
    ·rw [if_pos c30] at H
     have c30b0 := eq_true c30
     have c30b1 := decide_eq_true c30
     clear c30
     by_cases c31 : t605 ≤ (y589.length : Int)
     ·rw [if_pos c31] at H
      have c31b0 := eq_true c31
      have c31b1 := decide_eq_true c31
      clear c31
      obtain ⟨y608, hy608⟩ : ∃ y_ : List Int, y_ = (y589.take (t605 : Int).toNat) := ⟨_, rfl⟩
      replace H : (some (strOfNums y608)) = some r := by first | (rw [hy608]; with_reducible exact H) | (have H2_ := (Option.bind_some _ _).symm.trans H; rw [hy608]; with_reducible exact H2_) | (have H2_ := (Option.bind_some _ _).symm.trans H; with_reducible exact H2_) | with_reducible exact H | (rw [hy608]; exact H) | exact H
      have Ny608 := zn hy608
      clear hy608
      obtain rfl := Option.some.inj H
      go_enter Tryz.func22, Tryz.ntmps22
      go_wp2_with (first | ((with_reducible refine zi 28 rfl ?_); refine zj (some 6) Tryz.func28 #[.slice A0 l0.length c0] rfl ?_; (with_reducible refine (spec_l1New.calls k _ _ l0 t574 t575 t576 w _ ?side1 ?side2 ?side3 A2.out).mono ?_); (case side1 => exact z1r); (case side2 => exact HR0.out); (case side3 => exact HC0.out); rintro e w32 ⟨g577, rfl, hi, hb, hb2⟩; refine ⟨_, rfl, ?_⟩; have n_ := zo hb hi; clear HB; obtain ⟨HB, HI577⟩ := n_; (try clear hb); (try clear hb2); (try clear hi)) | ((with_reducible refine zi 49 rfl ?_); refine zj (some 8) Tryz.func49 #[.pointer (some ⟨g577, 0, none⟩)] rfl ?_; (with_reducible refine (spec_l5Entry.calls k g577 t574 t575 t576 t578 t579 t580 t581 t582 t583 t586 t587 w _ ?side1 ?side2 A3.out).mono ?_); (case side1 => exact z7a); (case side2 => exact z6y); rintro e w33 ⟨v584, rfl, ho0, hi, hb, hk⟩; refine ⟨_, rfl, ?_⟩; have n_ := z1c (Kd.R_lower ho0 (below_size z6y)) hb hi; clear HB HI577; obtain ⟨HO585, HB, HI577⟩ := n_; (try clear hb); (try clear hk); (try clear hi); (try clear ho0); obtain ⟨Ao34, co34, eo34⟩ := Kd.R_slice HO585.out; subst eo34) | ((with_reducible refine zi 26 rfl ?_); refine zj (some 9) Tryz.func26 #[.agg #[.string t578, .int .i64 t579, .int .i64 t580, .int .i64 t581, .string t582, .slice Ao34 t583.length co34]] rfl ?_; (with_reducible refine (spec_PutEntry.calls k t578 t579 t580 t581 t582 _ _ t583 t588 _ ?side1 ?side2 A4.out).mono ?_); (case side1 => exact z7b); (case side2 => exact (Kd.R_reads' HO585.out).2.1); rintro e w35 ⟨rfl, hb⟩; refine ⟨_, rfl, ?_⟩; have n_ := z1c (Kd.R_below z6z hb) (IsS89.below z7a hb) (below_step z6y hb); clear HO585 HI577 HB; obtain ⟨HO585, HI577, HB⟩ := n_; (try clear hb)) | ((with_reducible refine zr 10 rfl ?_); refine Y.conv_own ?hg (N := 10) ?hd 9 22 (.tmp 9) ?ho t588 ?hx Tryz.underlying9 Tryz.underlying22 Tryz.underlying5 y589 Ny589.out (of_decide_eq_true z1p) ?_; (case hd => exact z2b); (case hg => exact z2b); (case ho => exact z2b); (case hx => exact z2b); intro v590 w36 ho9 hb; have n_ := zv (Kd.R_below z6z hb) (Y.RB.lower ho9 (below_size z6y)) (IsS89.below z7a hb) (below_step z6y hb); clear HO585 HI577 HB; obtain ⟨HO585, HO591, HI577, HB⟩ := n_) | ((with_reducible refine zi 50 rfl ?_); refine zj (some 12) Tryz.func50 #[.pointer (some ⟨g577, 0, none⟩), .int .i64 5] rfl ?_; (with_reducible refine (spec_l1Below.calls g577 t574 t586 t587 5 t592 t593 t594 w _ ?side1 ?side2 A6.out).mono ?_); (case side1 => exact z7a); (case side2 => exact z6y); rintro e w37 ⟨rfl, hi, hb, hk⟩; refine ⟨_, rfl, ?_⟩; have n_ := zv (Kd.R_mono (Kd.R_keep (IsS89.apart (show IsS89 w _ g577 t574 t586 t587 from by repeat (first | (with_reducible first | exact HI577.out | apply IsS89.alloc | apply IsS89.drewN | apply IsS89.drew | apply IsS89.set_1 | apply IsS89.set_2) | exact HI577.out)) z6z z1l) hk (fun _ h => h.2)) (fun _ h => h.1)) (Y.RB.keep HO591.out hk (fun g_ cur_ a_ b_ hg_ => Ne.symm (IsS89.ne_blk (show IsS89 w _ g577 t574 t586 t587 from by repeat (first | (with_reducible first | exact HI577.out | apply IsS89.alloc | apply IsS89.drewN | apply IsS89.drew | apply IsS89.set_1 | apply IsS89.set_2) | exact HI577.out)) hg_ z1l))) hb hi; clear HO585 HO591 HB HI577; obtain ⟨HO585, HO591, HB, HI577⟩ := n_; (try clear hb); (try clear hk); (try clear hi); obtain ⟨Ao38, co38, eo38⟩ := Y.RB.slice HO591.out; subst eo38) | ((with_reducible refine zi 50 rfl ?_); refine zj (some 31) Tryz.func50 #[.pointer (some ⟨g577, 0, none⟩), .int .i64 (y589.length : Int)] rfl ?_; (with_reducible refine (spec_l1Below.calls g577 t574 t593 t594 (y589.length : Int) t605 t606 t607 w _ ?side1 ?side2 A29.out).mono ?_); (case side1 => exact z7a); (case side2 => exact z6y); rintro e w39 ⟨rfl, hi, hb, hk⟩; refine ⟨_, rfl, ?_⟩; have n_ := zv (Kd.R_mono (Kd.R_keep (IsS89.apart (show IsS89 w _ g577 t574 t593 t594 from by repeat (first | (with_reducible first | exact HI577.out | apply IsS89.alloc | apply IsS89.drewN | apply IsS89.drew | apply IsS89.set_1 | apply IsS89.set_2) | exact HI577.out)) z6z z1l) hk (fun _ h => h.2)) (fun _ h => h.1)) (Y.RB.keep HO591.out hk (fun g_ cur_ a_ b_ hg_ => Ne.symm (IsS89.ne_blk (show IsS89 w _ g577 t574 t593 t594 from by repeat (first | (with_reducible first | exact HI577.out | apply IsS89.alloc | apply IsS89.drewN | apply IsS89.drew | apply IsS89.set_1 | apply IsS89.set_2) | exact HI577.out)) hg_ z1l))) hb hi; clear HO585 HO591 HB HI577; obtain ⟨HO585, HO591, HB, HI577⟩ := n_; (try clear hb); (try clear hk); (try clear hi); have q40 : (t605 : Int) ≤ ((y589.length : Int) : Int) := of_decide_eq_true z1p; obtain ⟨i040, hi040, _, hsz40, _⟩ := info_parts info5; have hcut40 := cut_to (P := Tryz.prog) 22 5 .i64 Tryz.underlying22 hi040 Ao38 y589.length co38 t605 (of_decide_eq_true z1p) q40 (Y.RB.reads HO591.out).2.1; have hr40 := Y.RB.take (m := (t605 : Int).toNat) HO591.out z1k; have hy40 : y608.length = (t605 : Int).toNat := (by rw [Ny608.out, List.length_take]; omega); rw [← Ny608.out] at hr40; rw [← hy40] at hr40 hcut40; clear hy40 hi040 hsz40 HO591; have HO610 := zn hr40; clear hr40; replace q40 := eq_true q40; have hcv41 := Y.RB.string (P := Tryz.prog) Tryz.underlying22 Tryz.underlying5 Tryz.underlying9 HO610.out))
      go_ret
      exact ⟨z1t, z6y⟩
     ·rw [if_neg c31] at H
      exact absurd H (by simp)
    ·rw [if_neg c30] at H
     exact absurd H (by simp)
   ·rw [if_neg c28] at H
    have c28b0 := beq_eq_false_iff_ne.mpr c28
    have c28b1 := bne_iff_ne.mpr c28
    obtain rfl := Option.some.inj H
    go_enter Tryz.func22, Tryz.ntmps22
    go_wp2_with (first | ((with_reducible refine zi 28 rfl ?_); refine zj (some 6) Tryz.func28 #[.slice A0 l0.length c0] rfl ?_; (with_reducible refine (spec_l1New.calls k _ _ l0 t574 t575 t576 w _ ?side1 ?side2 ?side3 A2.out).mono ?_); (case side1 => exact z1r); (case side2 => exact HR0.out); (case side3 => exact HC0.out); rintro e w42 ⟨g577, rfl, hi, hb, hb2⟩; refine ⟨_, rfl, ?_⟩; have n_ := zo hb hi; clear HB; obtain ⟨HB, HI577⟩ := n_; (try clear hb); (try clear hb2); (try clear hi)) | ((with_reducible refine zi 49 rfl ?_); refine zj (some 8) Tryz.func49 #[.pointer (some ⟨g577, 0, none⟩)] rfl ?_; (with_reducible refine (spec_l5Entry.calls k g577 t574 t575 t576 t578 t579 t580 t581 t582 t583 t586 t587 w _ ?side1 ?side2 A3.out).mono ?_); (case side1 => exact z7a); (case side2 => exact z6y); rintro e w43 ⟨v584, rfl, ho0, hi, hb, hk⟩; refine ⟨_, rfl, ?_⟩; have n_ := z1c (Kd.R_lower ho0 (below_size z6y)) hb hi; clear HB HI577; obtain ⟨HO585, HB, HI577⟩ := n_; (try clear hb); (try clear hk); (try clear hi); (try clear ho0); obtain ⟨Ao44, co44, eo44⟩ := Kd.R_slice HO585.out; subst eo44) | ((with_reducible refine zi 26 rfl ?_); refine zj (some 9) Tryz.func26 #[.agg #[.string t578, .int .i64 t579, .int .i64 t580, .int .i64 t581, .string t582, .slice Ao44 t583.length co44]] rfl ?_; (with_reducible refine (spec_PutEntry.calls k t578 t579 t580 t581 t582 _ _ t583 t588 _ ?side1 ?side2 A4.out).mono ?_); (case side1 => exact z7b); (case side2 => exact (Kd.R_reads' HO585.out).2.1); rintro e w45 ⟨rfl, hb⟩; refine ⟨_, rfl, ?_⟩; have n_ := z1c (Kd.R_below z6z hb) (IsS89.below z7a hb) (below_step z6y hb); clear HO585 HI577 HB; obtain ⟨HO585, HI577, HB⟩ := n_; (try clear hb)) | ((with_reducible refine zr 10 rfl ?_); refine Y.conv_own ?hg (N := 10) ?hd 9 22 (.tmp 9) ?ho t588 ?hx Tryz.underlying9 Tryz.underlying22 Tryz.underlying5 y589 Ny589.out (of_decide_eq_true z1p) ?_; (case hd => exact z2b); (case hg => exact z2b); (case ho => exact z2b); (case hx => exact z2b); intro v590 w46 ho9 hb; have n_ := zv (Kd.R_below z6z hb) (Y.RB.lower ho9 (below_size z6y)) (IsS89.below z7a hb) (below_step z6y hb); clear HO585 HI577 HB; obtain ⟨HO585, HO591, HI577, HB⟩ := n_) | ((with_reducible refine zi 50 rfl ?_); refine zj (some 12) Tryz.func50 #[.pointer (some ⟨g577, 0, none⟩), .int .i64 5] rfl ?_; (with_reducible refine (spec_l1Below.calls g577 t574 t586 t587 5 t592 t593 t594 w _ ?side1 ?side2 A6.out).mono ?_); (case side1 => exact z7a); (case side2 => exact z6y); rintro e w47 ⟨rfl, hi, hb, hk⟩; refine ⟨_, rfl, ?_⟩; have n_ := zv (Kd.R_mono (Kd.R_keep (IsS89.apart (show IsS89 w _ g577 t574 t586 t587 from by repeat (first | (with_reducible first | exact HI577.out | apply IsS89.alloc | apply IsS89.drewN | apply IsS89.drew | apply IsS89.set_1 | apply IsS89.set_2) | exact HI577.out)) z6z z1l) hk (fun _ h => h.2)) (fun _ h => h.1)) (Y.RB.keep HO591.out hk (fun g_ cur_ a_ b_ hg_ => Ne.symm (IsS89.ne_blk (show IsS89 w _ g577 t574 t586 t587 from by repeat (first | (with_reducible first | exact HI577.out | apply IsS89.alloc | apply IsS89.drewN | apply IsS89.drew | apply IsS89.set_1 | apply IsS89.set_2) | exact HI577.out)) hg_ z1l))) hb hi; clear HO585 HO591 HB HI577; obtain ⟨HO585, HO591, HB, HI577⟩ := n_; (try clear hb); (try clear hk); (try clear hi); obtain ⟨Aoz, coz, eoz⟩ := Y.RB.slice HO591.out; subst eoz; have hcv48 := Y.RB.string (P := Tryz.prog) Tryz.underlying22 Tryz.underlying5 Tryz.underlying9 HO591.out))
    go_ret
    exact ⟨z1t, z6y⟩
 ·rw [if_neg c5] at H
  exact absurd H (by simp)
def spec_DrawParseName.f (k : Nat) (l0 : List Int) : Option (ByteArray) := (spec_l1New.f k l0).bind fun bt842 => ((spec_l5Need.f k bt842.1 bt842.2.1 bt842.2.2).bind fun bt846 => ((spec_l1Once.f bt842.1 bt846.2.2.2.2.2.1 bt846.2.2.2.2.2.2 3).bind fun bt854 => (if bt854.1 = true then ((spec_l1Str.f bt842.1 bt854.2.1 bt854.2.2 (([(⟨#[]⟩ : ByteArray), (⟨#[64]⟩ : ByteArray), (⟨#[97]⟩ : ByteArray), (⟨#[97, 64, 118, 49, 46, 48, 46, 48, 64]⟩ : ByteArray), (⟨#[97, 64, 118, 50, 46, 48, 46, 48]⟩ : ByteArray), (⟨#[97, 47, 118, 50, 64, 118, 50, 46, 48, 46, 48]⟩ : ByteArray), (⟨#[97, 64, 49, 46, 48, 46, 48]⟩ : ByteArray), (⟨#[64, 118, 49, 46, 48, 46, 48]⟩ : ByteArray), (⟨#[65, 64, 118, 49, 46, 48, 46, 48]⟩ : ByteArray)] : List ByteArray))).bind fun bt860 => (some bt860.1)) else ((spec_EntryName.f k bt846.1 bt846.2.1 bt846.2.2.1 bt846.2.2.2.1 bt846.2.2.2.2.1).bind fun t863 => (some t863)))))
set_option maxHeartbeats 8000000 in
set_option maxRecDepth 100000 in
theorem spec_DrawParseName.calls (k : Nat) (A0 : Option Addr) (c0 : Nat) (l0 : List Int) (r : ByteArray) (w : World) (hr0 : Kd.C (Kd.int .u8) w A0 l0.length l0) (hc0 : l0.length ≤ c0) (h : spec_DrawParseName.f k l0 = some r) :
  Calls Tryz.prog 23 #[.slice A0 l0.length c0] w fun e w' => e = .returned (.string r) ∧ Below w.heap.size w w' := by
 have hu35 := Tryz.underlying35
 have hu25 := Tryz.underlying25
 have HR0 := zn hr0
 have HC0 := zn hc0
 clear hr0 hc0
 have HB := zn (Below.refl w.heap.size w)
 have H := h
 unfold spec_DrawParseName.f at H
 clear h
 obtain ⟨⟨t842, t843, t844⟩, A2, H⟩ := zm H
 try dsimp only at H
 obtain ⟨⟨t846, t847, t848, t849, t850, t851, t852⟩, A3, H⟩ := zm H
 try dsimp only at H
 obtain ⟨⟨t854, t855, t856⟩, A4, H⟩ := zm H
 try dsimp only at H
 by_cases c5 : t854 = true
 ·subst c5
  rw [if_pos rfl] at H
  obtain ⟨y857, hy857⟩ : ∃ y_ : List ByteArray, y_ = (([(⟨#[]⟩ : ByteArray), (⟨#[64]⟩ : ByteArray), (⟨#[97]⟩ : ByteArray), (⟨#[97, 64, 118, 49, 46, 48, 46, 48, 64]⟩ : ByteArray), (⟨#[97, 64, 118, 50, 46, 48, 46, 48]⟩ : ByteArray), (⟨#[97, 47, 118, 50, 64, 118, 50, 46, 48, 46, 48]⟩ : ByteArray), (⟨#[97, 64, 49, 46, 48, 46, 48]⟩ : ByteArray), (⟨#[64, 118, 49, 46, 48, 46, 48]⟩ : ByteArray), (⟨#[65, 64, 118, 49, 46, 48, 46, 48]⟩ : ByteArray)] : List ByteArray)) := ⟨_, rfl⟩
  replace H : ((spec_l1Str.f t842 t855 t856 y857).bind fun bt860 => (some bt860.1)) = some r := by first | (rw [hy857]; with_reducible exact H) | (have H2_ := (Option.bind_some _ _).symm.trans H; rw [hy857]; with_reducible exact H2_) | (have H2_ := (Option.bind_some _ _).symm.trans H; with_reducible exact H2_) | with_reducible exact H | (rw [hy857]; exact H) | exact H
  have Ny857 := zn hy857
  clear hy857
  obtain ⟨⟨t860, t861, t862⟩, A6, H⟩ := zm H
  try dsimp only at H
  obtain rfl := Option.some.inj H
  go_enter Tryz.func23, Tryz.ntmps23
  go_wp2_with (first | ((with_reducible refine zi 28 rfl ?_); refine zj (some 6) Tryz.func28 #[.slice A0 l0.length c0] rfl ?_; (with_reducible refine (spec_l1New.calls k _ _ l0 t842 t843 t844 w _ ?side1 ?side2 ?side3 A2.out).mono ?_); (case side1 => exact z1r); (case side2 => exact HR0.out); (case side3 => exact HC0.out); rintro e w7 ⟨g845, rfl, hi, hb, hb2⟩; refine ⟨_, rfl, ?_⟩; have n_ := zo hb hi; clear HB; obtain ⟨HB, HI845⟩ := n_; (try clear hb); (try clear hb2); (try clear hi)) | ((with_reducible refine zi 52 rfl ?_); refine zj (some 8) Tryz.func52 #[.pointer (some ⟨g845, 0, none⟩)] rfl ?_; (with_reducible refine (spec_l5Need.calls k g845 t842 t843 t844 t846 t847 t848 t849 t850 t851 t852 w _ ?side1 ?side2 A3.out).mono ?_); (case side1 => exact z7c); (case side2 => exact z7d); rintro e w8 ⟨rfl, hi, hb, hk⟩; refine ⟨_, rfl, ?_⟩; have n_ := zo hb hi; clear HB HI845; obtain ⟨HB, HI845⟩ := n_; (try clear hb); (try clear hk); (try clear hi)) | ((with_reducible refine zr 4 rfl ?_); refine zt 35 #[.string ⟨#[]⟩, .int .i64 0, .int .i64 0, .int .i64 0, .string ⟨#[]⟩] ?_; intro gb853 hg w9 hbox hb; have n_ := z1b (IsS89.below z7c hb) (below_step z7d hb) hbox (z8y : w.heap.size ≤ gb853) (z8y : w.heap.size ≤ gb853) ((by rw [hg]; exact Nat.ne_of_lt (IsS89.lt (show IsS89 w _ g845 t842 t851 t852 from by repeat (first | (with_reducible first | exact HI845.out | apply IsS89.alloc | apply IsS89.drewN | apply IsS89.drew | apply IsS89.set_1 | apply IsS89.set_2) | exact HI845.out))) : g845 ≠ gb853)) ((by rw [hg]; exact Nat.ne_of_gt (IsS89.lt (show IsS89 w _ g845 t842 t851 t852 from by repeat (first | (with_reducible first | exact HI845.out | apply IsS89.alloc | apply IsS89.drewN | apply IsS89.drew | apply IsS89.set_1 | apply IsS89.set_2) | exact HI845.out))) : gb853 ≠ g845)); clear HI845 HB; obtain ⟨HI845, HB, BK853, GW853, GE853, NB845_853, NB853_845⟩ := n_; clear hb hbox hg; have hnb10 := NB853_845.out; have hnc10 := NB845_853.out; obtain ⟨hcz11_0, hcz11_1, hcz11_2, hcz11_3, hcz11_4, hfz11_0, hfz11_1, hfz11_2, hfz11_3, hfz11_4⟩ := zg BK853.out) | ((with_reducible refine zi 53 rfl ?_); refine zj (some 10) Tryz.func53 #[.pointer (some ⟨g845, 0, none⟩), .int .i64 3] rfl ?_; (with_reducible refine (spec_l1Once.calls g845 t842 t851 t852 3 true t855 t856 w _ ?side1 ?side2 A4.out).mono ?_); (case side1 => exact z7f); (case side2 => exact z7e); rintro e w12 ⟨rfl, hi, hb, hk⟩; refine ⟨_, rfl, ?_⟩; have n_ := z1c (KeepBut.blk hk (g' := gb853) (o := .cells #[.string t846, .int .i64 t847, .int .i64 t848, .int .i64 t849, .string t850] 35 (0, 0)) (by (repeat refine z1a ?_); refine blk_put (cs := #[.string t846, .int .i64 t847, .int .i64 t848, .int .i64 t849, .string ⟨#[]⟩]) ?_ 4 _ rfl; (repeat refine z1a ?_); refine blk_put (cs := #[.string t846, .int .i64 t847, .int .i64 t848, .int .i64 0, .string ⟨#[]⟩]) ?_ 3 _ rfl; (repeat refine z1a ?_); refine blk_put (cs := #[.string t846, .int .i64 t847, .int .i64 0, .int .i64 0, .string ⟨#[]⟩]) ?_ 2 _ rfl; (repeat refine z1a ?_); refine blk_put (cs := #[.string t846, .int .i64 0, .int .i64 0, .int .i64 0, .string ⟨#[]⟩]) ?_ 1 _ rfl; (repeat refine z1a ?_); refine blk_put (cs := #[.string ⟨#[]⟩, .int .i64 0, .int .i64 0, .int .i64 0, .string ⟨#[]⟩]) ?_ 0 _ rfl; (repeat refine z1a ?_); exact BK853.out) NB853_845.out (by simp)) hb hi; clear BK853 HB HI845; obtain ⟨BK853, HB, HI845⟩ := n_; (try clear hb); (try clear hk); (try clear hi)) | ((with_reducible refine zr 12 rfl ?_); refine Kd.R_lit Kd.string _ 9 ?hg (N := 12) ?hd (xs := ([(⟨#[]⟩ : ByteArray), (⟨#[64]⟩ : ByteArray), (⟨#[97]⟩ : ByteArray), (⟨#[97, 64, 118, 49, 46, 48, 46, 48, 64]⟩ : ByteArray), (⟨#[97, 64, 118, 50, 46, 48, 46, 48]⟩ : ByteArray), (⟨#[97, 47, 118, 50, 64, 118, 50, 46, 48, 46, 48]⟩ : ByteArray), (⟨#[97, 64, 49, 46, 48, 46, 48]⟩ : ByteArray), (⟨#[64, 118, 49, 46, 48, 46, 48]⟩ : ByteArray), (⟨#[65, 64, 118, 49, 46, 48, 46, 48]⟩ : ByteArray)] : List ByteArray)) (inner := [.string ⟨#[]⟩, .string ⟨#[64]⟩, .string ⟨#[97]⟩, .string ⟨#[97, 64, 118, 49, 46, 48, 46, 48, 64]⟩, .string ⟨#[97, 64, 118, 50, 46, 48, 46, 48]⟩, .string ⟨#[97, 47, 118, 50, 64, 118, 50, 46, 48, 46, 48]⟩, .string ⟨#[97, 64, 49, 46, 48, 46, 48]⟩, .string ⟨#[64, 118, 49, 46, 48, 46, 48]⟩, .string ⟨#[65, 64, 118, 49, 46, 48, 46, 48]⟩]) (ok := fun _ => True) (okp := fun _ => True) ?hr ?hp (fun _ hk => hk) trivial (Below.refl _ _) (Nat.le_refl _) (by simp) ?_; (case hd => exact z2b); (case hg => exact z2b); (case hr => exact z3t); (case hp => exact (Reps.one (show Kd.M Kd.string _ _ _ (⟨#[]⟩ : ByteArray) [.string ⟨#[]⟩] from rfl) (Reps.one (show Kd.M Kd.string _ _ _ (⟨#[64]⟩ : ByteArray) [.string ⟨#[64]⟩] from rfl) (Reps.one (show Kd.M Kd.string _ _ _ (⟨#[97]⟩ : ByteArray) [.string ⟨#[97]⟩] from rfl) (Reps.one (show Kd.M Kd.string _ _ _ (⟨#[97, 64, 118, 49, 46, 48, 46, 48, 64]⟩ : ByteArray) [.string ⟨#[97, 64, 118, 49, 46, 48, 46, 48, 64]⟩] from rfl) (Reps.one (show Kd.M Kd.string _ _ _ (⟨#[97, 64, 118, 50, 46, 48, 46, 48]⟩ : ByteArray) [.string ⟨#[97, 64, 118, 50, 46, 48, 46, 48]⟩] from rfl) (Reps.one (show Kd.M Kd.string _ _ _ (⟨#[97, 47, 118, 50, 64, 118, 50, 46, 48, 46, 48]⟩ : ByteArray) [.string ⟨#[97, 47, 118, 50, 64, 118, 50, 46, 48, 46, 48]⟩] from rfl) (Reps.one (show Kd.M Kd.string _ _ _ (⟨#[97, 64, 49, 46, 48, 46, 48]⟩ : ByteArray) [.string ⟨#[97, 64, 49, 46, 48, 46, 48]⟩] from rfl) (Reps.one (show Kd.M Kd.string _ _ _ (⟨#[64, 118, 49, 46, 48, 46, 48]⟩ : ByteArray) [.string ⟨#[64, 118, 49, 46, 48, 46, 48]⟩] from rfl) (Reps.one (show Kd.M Kd.string _ _ _ (⟨#[65, 64, 118, 49, 46, 48, 46, 48]⟩ : ByteArray) [.string ⟨#[65, 64, 118, 49, 46, 48, 46, 48]⟩] from rfl) (Reps.none _ _))))))))))); intro v858 w13 ho14 hb hg_ hnew_; clear hg_ hnew_; (first | rw [← Ny857.out] at ho14 | (simp only [Int.reduceToNat] at ho14; rw [← Ny857.out] at ho14)); have n_ := zv (Kd.R_lower ho14 (below_size z7e)) (IsS89.below z7f hb) (blk_below (zu BK853.out) hb) (below_step z7e hb); clear HI845 BK853 HB; obtain ⟨HO859, HI845, BK853, HB⟩ := n_; clear hb ho14; obtain ⟨Ao15, co15, eo15⟩ := Kd.R_slice HO859.out; subst eo15) | ((with_reducible refine zi 54 rfl ?_); refine zj (some 13) Tryz.func54 #[.pointer (some ⟨g845, 0, none⟩), .slice Ao15 y857.length co15] rfl ?_; (with_reducible refine (spec_l1Str.calls g845 t842 t855 t856 _ _ y857 t860 t861 t862 w _ ?side1 ?side2 ?side3 ?side4 ?side5 A6.out).mono ?_); (case side1 => exact z7f); (case side2 => exact z7e); (case side3 => repeat (first | exact (Kd.R_reads' HO859.out).2.2 | (with_reducible refine Kd.C_alloc ?_ _) | (with_reducible refine Kd.C_drewN ?_ _) | (with_reducible refine Kd.C_drew ?_))); (case side4 => exact (Kd.R_reads' HO859.out).2.1); (case side5 => exact far_slice (IsS89.own_ne HI845.out HO859.out z1l)); rintro e w16 ⟨rfl, hi, hb, hk⟩; refine ⟨_, rfl, ?_⟩; have n_ := zv (KeepBut.blk hk (zu BK853.out) NB853_845.out (by simp)) (Kd.R_mono (Kd.R_keep (IsS89.apart (show IsS89 w _ g845 t842 t855 t856 from by repeat (first | (with_reducible first | exact HI845.out | apply IsS89.alloc | apply IsS89.drewN | apply IsS89.drew | apply IsS89.set_1 | apply IsS89.set_2 | refine IsS89.far ?_ NB845_853.out _) | exact HI845.out)) (by (with_reducible repeat (first | apply Kd.R_alloc | apply Kd.R_drewN | apply Kd.R_drew)); exact HO859.out) z1l) hk (fun _ h => h.2)) (fun _ h => h.1)) hb hi; clear BK853 HO859 HB HI845; obtain ⟨BK853, HO859, HB, HI845⟩ := n_; (try clear hb); (try clear hk); (try clear hi)))
  go_ret
  exact ⟨z1t, z7e⟩
 ·replace c5 := Bool.eq_false_iff.mpr c5
  subst c5
  rw [if_neg zk] at H
  obtain ⟨t863, A17, H⟩ := zm H
  try dsimp only at H
  obtain rfl := Option.some.inj H
  go_enter Tryz.func23, Tryz.ntmps23
  go_wp2_with (first | ((with_reducible refine zi 28 rfl ?_); refine zj (some 6) Tryz.func28 #[.slice A0 l0.length c0] rfl ?_; (with_reducible refine (spec_l1New.calls k _ _ l0 t842 t843 t844 w _ ?side1 ?side2 ?side3 A2.out).mono ?_); (case side1 => exact z1r); (case side2 => exact HR0.out); (case side3 => exact HC0.out); rintro e w18 ⟨g845, rfl, hi, hb, hb2⟩; refine ⟨_, rfl, ?_⟩; have n_ := zo hb hi; clear HB; obtain ⟨HB, HI845⟩ := n_; (try clear hb); (try clear hb2); (try clear hi)) | ((with_reducible refine zi 52 rfl ?_); refine zj (some 8) Tryz.func52 #[.pointer (some ⟨g845, 0, none⟩)] rfl ?_; (with_reducible refine (spec_l5Need.calls k g845 t842 t843 t844 t846 t847 t848 t849 t850 t851 t852 w _ ?side1 ?side2 A3.out).mono ?_); (case side1 => exact z7c); (case side2 => exact z7d); rintro e w19 ⟨rfl, hi, hb, hk⟩; refine ⟨_, rfl, ?_⟩; have n_ := zo hb hi; clear HB HI845; obtain ⟨HB, HI845⟩ := n_; (try clear hb); (try clear hk); (try clear hi)) | ((with_reducible refine zr 4 rfl ?_); refine zt 35 #[.string ⟨#[]⟩, .int .i64 0, .int .i64 0, .int .i64 0, .string ⟨#[]⟩] ?_; intro gb853 hg w20 hbox hb; have n_ := z1b (IsS89.below z7c hb) (below_step z7d hb) hbox (z8y : w.heap.size ≤ gb853) (z8y : w.heap.size ≤ gb853) ((by rw [hg]; exact Nat.ne_of_lt (IsS89.lt (show IsS89 w _ g845 t842 t851 t852 from by repeat (first | (with_reducible first | exact HI845.out | apply IsS89.alloc | apply IsS89.drewN | apply IsS89.drew | apply IsS89.set_1 | apply IsS89.set_2) | exact HI845.out))) : g845 ≠ gb853)) ((by rw [hg]; exact Nat.ne_of_gt (IsS89.lt (show IsS89 w _ g845 t842 t851 t852 from by repeat (first | (with_reducible first | exact HI845.out | apply IsS89.alloc | apply IsS89.drewN | apply IsS89.drew | apply IsS89.set_1 | apply IsS89.set_2) | exact HI845.out))) : gb853 ≠ g845)); clear HI845 HB; obtain ⟨HI845, HB, BK853, GW853, GE853, NB845_853, NB853_845⟩ := n_; clear hb hbox hg; have hnb21 := NB853_845.out; have hnc21 := NB845_853.out; obtain ⟨hcz22_0, hcz22_1, hcz22_2, hcz22_3, hcz22_4, hfz22_0, hfz22_1, hfz22_2, hfz22_3, hfz22_4⟩ := zg BK853.out) | ((with_reducible refine zi 53 rfl ?_); refine zj (some 10) Tryz.func53 #[.pointer (some ⟨g845, 0, none⟩), .int .i64 3] rfl ?_; (with_reducible refine (spec_l1Once.calls g845 t842 t851 t852 3 false t855 t856 w _ ?side1 ?side2 A4.out).mono ?_); (case side1 => exact z7f); (case side2 => exact z7e); rintro e w23 ⟨rfl, hi, hb, hk⟩; refine ⟨_, rfl, ?_⟩; have n_ := z1c (KeepBut.blk hk (g' := gb853) (o := .cells #[.string t846, .int .i64 t847, .int .i64 t848, .int .i64 t849, .string t850] 35 (0, 0)) (by (repeat refine z1a ?_); refine blk_put (cs := #[.string t846, .int .i64 t847, .int .i64 t848, .int .i64 t849, .string ⟨#[]⟩]) ?_ 4 _ rfl; (repeat refine z1a ?_); refine blk_put (cs := #[.string t846, .int .i64 t847, .int .i64 t848, .int .i64 0, .string ⟨#[]⟩]) ?_ 3 _ rfl; (repeat refine z1a ?_); refine blk_put (cs := #[.string t846, .int .i64 t847, .int .i64 0, .int .i64 0, .string ⟨#[]⟩]) ?_ 2 _ rfl; (repeat refine z1a ?_); refine blk_put (cs := #[.string t846, .int .i64 0, .int .i64 0, .int .i64 0, .string ⟨#[]⟩]) ?_ 1 _ rfl; (repeat refine z1a ?_); refine blk_put (cs := #[.string ⟨#[]⟩, .int .i64 0, .int .i64 0, .int .i64 0, .string ⟨#[]⟩]) ?_ 0 _ rfl; (repeat refine z1a ?_); exact BK853.out) NB853_845.out (by simp)) hb hi; clear BK853 HB HI845; obtain ⟨BK853, HB, HI845⟩ := n_; (try clear hb); (try clear hk); (try clear hi); obtain ⟨hcz24_0, hcz24_1, hcz24_2, hcz24_3, hcz24_4, hfz24_0, hfz24_1, hfz24_2, hfz24_3, hfz24_4⟩ := zg BK853.out) | ((with_reducible refine zi 55 rfl ?_); refine zj (some 18) Tryz.func55 #[.string t846, .agg #[.int .i64 t847, .int .i64 t848, .int .i64 t849, .string t850]] rfl ?_; (with_reducible refine (spec_EntryName.calls k t846 t847 t848 t849 t850 t863 _ A17.out).mono ?_); rintro e w25 ⟨rfl, hb⟩; refine ⟨_, rfl, ?_⟩; have n_ := z1c (IsS89.below z7f hb) (blk_below (zu BK853.out) hb) (below_step z7e hb); clear HI845 BK853 HB; obtain ⟨HI845, BK853, HB⟩ := n_; (try clear hb)))
  go_ret
  exact ⟨z1t, z7e⟩
end Go.Proofs.YtgdknepphkhnlaaGreatDoor.X
