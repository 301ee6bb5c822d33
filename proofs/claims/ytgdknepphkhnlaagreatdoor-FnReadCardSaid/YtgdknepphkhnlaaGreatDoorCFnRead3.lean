/- The law FnRead, as a plain statement: what is read of a drawn text as an entry is right, and has that text; what is read as a name has that name. Conditions: those of the row's reading alone. -/
/- Part 4 of 13 of this claim's texts. -/
import Derived.Shelf.Strings.Cut
import Derived.Lib.ConvBytes
import Derived.Laws.Append
import Derived.Deep.RegionHeld3
import Derived.Test.YtgdknepphkhnlaaGreatDoorCFnRead0
import Derived.Test.YtgdknepphkhnlaaGreatDoorCFnRead1
import Derived.Test.YtgdknepphkhnlaaGreatDoorCFnRead2
namespace Go.Proofs.YtgdknepphkhnlaaGreatDoor.X
open Go.RowKit Go.Proofs.YtgdknepphkhnlaaGreatDoorW.PrintWords Go.Proofs.YtgdknepphkhnlaaGreatDoorW.PrintLast Go.Proofs.YtgdknepphkhnlaaGreatDoorW.PrintMore
attribute [local go_sem] max2_int min2_int max_two min_two max_three min_three max_four min_four
set_option linter.unusedVariables false
set_option linter.unusedSimpArgs false
def impl_putTexts.l0 : Nat → List Int → List ByteArray → Int → Int → Option (List Int)
 | 0, _, _, _, _ => none
 | k + 1, x0, x11, x12, x13 => if x13 < x12 then (if 0 ≤ x13 then (if x13 < (x11.length : Int) then ((impl_putText.f k x0 (rdOf ByteArray.empty x11 x13)).bind fun t196 => (impl_putTexts.l0 k t196 x11 x12 (wrap64 (x13 + 1)))) else (none)) else (none)) else (some x0)
def impl_putTexts.f (k : Nat) (l0 : List Int) (l1 : List ByteArray) : Option (List Int) := (impl_putNum.f k l0 (l1.length : Int)).bind fun t192 => (impl_putTexts.l0 k t192 l1 (l1.length : Int) 0)
set_option maxHeartbeats 8000000 in
set_option maxRecDepth 100000 in
theorem impl_putTexts.calls (k : Nat) (P0_ : Nat → Prop) (u9000_ : Value) (l0 : List Int) (A1 : Option Addr) (c1 : Nat) (l1 : List ByteArray) (r : List Int) (w0 w : World) (hB : Below w0.heap.size w0 w) (ho0 : Kd.R (Kd.int .u8) 5 w w0.heap.size P0_ u9000_ l0) (hr1 : ∀ W_, Kept w W_ (fun k_ => P0_ k_) → Kd.C Kd.string W_ A1 l1.length l1) (hc1 : l1.length ≤ c1) (h : impl_putTexts.f k l0 l1 = some r) :
  Calls Tryz.prog 31 #[u9000_, .slice A1 l1.length c1] w fun e w' => ∃ v0_ : Value, e = .returned (v0_) ∧ Kd.R (Kd.int .u8) 5 w' w0.heap.size (fun k_ => (P0_ k_ ∨ w.heap.size ≤ k_)) v0_ r ∧ Below w0.heap.size w0 w' ∧ Kept w w' (fun k_ => P0_ k_) := by
 have HO0 := zn (show Kd.R (Kd.int .u8) 5 w w0.heap.size (fun k_ => (P0_ k_ ∨ w.heap.size ≤ k_)) u9000_ l0 from Kd.R_mono ho0 (fun k_ hk => (.inl hk)))
 have HR1 := zn hr1
 have HC1 := zn hc1
 clear hr1 hc1
 have HK := zn (Kept.refl w (fun k_ => P0_ k_))
 have HW0 := zn hB.size
 have HB := zn hB
 clear hB
 have H := h
 unfold impl_putTexts.f at H
 clear h
 obtain ⟨t192, A3, H⟩ := zm H
 try dsimp only at H
 have H' := zn H
 clear H
 obtain ⟨Ao4, co4, eo4⟩ := Kd.R_slice HO0.out
 subst eo4
 go_enter Tryz.func31, Tryz.ntmps31
 go_wp2_with (first | ((with_reducible refine zi 66 rfl ?_); refine zj (some 10) Tryz.func66 #[.slice Ao4 l0.length co4, .int .i64 (l1.length : Int)] rfl ?_; (with_reducible refine (impl_putNum.calls k (fun k_ => some k_ = (.slice Ao4 l0.length co4 : Value).ownBlock) (.slice Ao4 l0.length co4) l0 (l1.length : Int) t192 w0 _ ?side1 ?side2 A3.out).mono ?_); (case side1 => exact z1r); (case side2 => exact Kd.R_tight rfl HO0.out); rintro e w5 ⟨v193, rfl, ho0, hb, hkp⟩; refine ⟨_, rfl, ?_⟩; have n_ := z1c (Kd.R_mono (ok' := fun k_ => (P0_ k_ ∨ w.heap.size ≤ k_)) ho0 (fun k_ hk_ => Or.elim hk_ (fun hs_ => (HO0.out.1 k_ (hs_).symm)) (fun hn_ => (.inr (Nat.le_trans z2m hn_))))) (Kept.then_ (S := (fun k_ => P0_ k_)) z2l hkp (fun k_ hs_ => (fun e_ => (HO0.out.1 k_ e_.symm)) hs_)) hb; clear HK HB HO0; obtain ⟨HO194, HK, HB⟩ := n_; (try clear hb); (try clear hkp); (try clear ho0)))
 go_loopg [0, 13] k (fun kq v0 v13 w' => ∃ (x0_1 : List Int) (x13_1 : Int), v13 = .int .i64 x13_1 ∧ Aside0 (impl_putTexts.l0 kq x0_1 l1 (l1.length : Int) x13_1 = some r) ∧ Aside0 (kq ≤ k) ∧ Aside0 (Kd.R (Kd.int .u8) 5 w' w0.heap.size (fun k_ => (P0_ k_ ∨ w.heap.size ≤ k_)) v0 x0_1) ∧ Aside0 (Kept w w' (fun k_ => P0_ k_)) ∧ Aside0 (Below w0.heap.size w0 w'))
 case atStart => exact ⟨(t192), (0), z1n, H', ⟨Nat.le_refl _⟩, ⟨by (with_reducible repeat (first | apply Kd.R_alloc | apply Kd.R_drewN | apply Kd.R_drew)); exact HO194.out⟩, ⟨z2l⟩, ⟨z1r⟩⟩
 case round =>
  clear H'
  try clear c1
  try clear p2
  try clear c3
  obtain ⟨x0_1, x13_1, rfl, HA, HK1, HO_0, HK, HB⟩ := hrel
  cases gk with
  | zero => exact absurd HA.out (by simp [impl_putTexts.l0])
  | succ k1 =>
   have H := HA.out
   clear HA
   simp only [impl_putTexts.l0] at H
   by_cases c6 : x13_1 < (l1.length : Int)
   ·rw [if_pos c6] at H
    have c6b0 := decide_eq_true c6
    clear c6
    by_cases c7 : 0 ≤ x13_1
    ·rw [if_pos c7] at H
     have c7b0 := decide_eq_true c7
     clear c7
     by_cases c8 : x13_1 < (l1.length : Int)
     ·rw [if_pos c8] at H
      have c8b0 := decide_eq_true c8
      clear c8
      obtain ⟨t196, A9, H⟩ := zm H
      try dsimp only at H
      have H' := zn H
      clear H
      have p195 : 0 ≤ (x13_1 : Int) := of_decide_eq_true z1p
      have q195 : x13_1 < (l1.length : Int) := of_decide_eq_true z1p
      obtain ⟨ad195, e195, hx195_0⟩ := Kd.at_string (Kd.C_kept_now HR1.out HK.out) x13_1 p195 q195
      cases e195
      replace p195 := eq_true p195
      replace q195 := eq_true q195
      obtain ⟨Ao10, co10, eo10⟩ := Kd.R_slice HO_0.out
      subst eo10
      go_wp2_with (first | ((with_reducible refine zi 32 rfl ?_); refine zj (some 19) Tryz.func32 #[.slice Ao10 x0_1.length co10, .string (rdOf ByteArray.empty l1 x13_1)] rfl ?_; (with_reducible refine (impl_putText.calls k1 (fun k_ => some k_ = (.slice Ao10 x0_1.length co10 : Value).ownBlock) (.slice Ao10 x0_1.length co10) x0_1 (rdOf ByteArray.empty l1 x13_1) t196 w0 _ ?side1 ?side2 A9.out).mono ?_); (case side1 => exact z1r); (case side2 => exact Kd.R_tight rfl HO_0.out); rintro e w11 ⟨v197, rfl, ho0, hb, hkp⟩; refine ⟨_, rfl, ?_⟩; have n_ := z1c (Kd.R_mono (ok' := fun k_ => (P0_ k_ ∨ w.heap.size ≤ k_)) ho0 (fun k_ hk_ => Or.elim hk_ (fun hs_ => (HO_0.out.1 k_ (hs_).symm)) (fun hn_ => (.inr (Nat.le_trans z2m hn_))))) (Kept.then_ (S := (fun k_ => P0_ k_)) z2l hkp (fun k_ hs_ => (fun e_ => (HO_0.out.1 k_ e_.symm)) hs_)) hb; clear HK HB HO_0; obtain ⟨HO198, HK, HB⟩ := n_; (try clear hb); (try clear hkp); (try clear ho0)))
      go_roundg k1
      case measure => have := HK1.out; omega
      case rel => exact ⟨(t196), (wrap64 (x13_1 + 1)), z1n, H', ⟨z1q⟩, ⟨by (with_reducible repeat (first | apply Kd.R_alloc | apply Kd.R_drewN | apply Kd.R_drew)); exact HO198.out⟩, ⟨z2l⟩, ⟨z1r⟩⟩
     ·rw [if_neg c8] at H
      exact absurd H (by simp)
    ·rw [if_neg c7] at H
     exact absurd H (by simp)
   ·rw [if_neg c6] at H
    have c6b0 := decide_eq_false c6
    clear c6
    obtain rfl := Option.some.inj H
    go_wp2
    go_ret
    exact ⟨_, z1t, z2n, z1r, z2l⟩
def impl_PutEntry.l0 : Nat → List ByteArray → List (S35) → Int → Int → ByteArray → Int → Int → Int → ByteArray → List (S35) → Option (ByteArray)
 | 0, _, _, _, _, _, _, _, _, _, _ => none
 | k + 1, x3, x10, x11, x12, x200000, x200001, x200002, x200003, x200004, x200005 => if x12 < x11 then (if 0 ≤ x12 then (if x12 < (x10.length : Int) then ((impl_nameOf.f k ((rd_T35 x10 x12).f0) ((rd_T35 x10 x12).f1.f0) ((rd_T35 x10 x12).f1.f1) ((rd_T35 x10 x12).f1.f2) ((rd_T35 x10 x12).f1.f3)).bind fun t203 => (if x3.length < 8796093022208 then (impl_PutEntry.l0 k (x3 ++ [t203]) x10 x11 (wrap64 (x12 + 1)) x200000 x200001 x200002 x200003 x200004 x200005) else (none))) else (none)) else (none)) else ((impl_EntryName.f k x200000 x200001 x200002 x200003 x200004).bind fun t207 => ((impl_putText.f k ([] : List Int) t207).bind fun t208 => ((impl_putTexts.f k t208 x3).bind fun t211 => (some (strOfNums t211)))))
def impl_PutEntry.f (k : Nat) (a0_0 : ByteArray) (a0_1 : Int) (a0_2 : Int) (a0_3 : Int) (a0_4 : ByteArray) (l0_5 : List (S35)) : Option (ByteArray) := (impl_EntryOk.f k a0_0 a0_1 a0_2 a0_3 a0_4 l0_5).bind fun t200 => (if t200 = true then (impl_PutEntry.l0 k ([] : List ByteArray) l0_5 (l0_5.length : Int) 0 a0_0 a0_1 a0_2 a0_3 a0_4 l0_5) else (some (⟨#[]⟩ : ByteArray)))
set_option maxHeartbeats 8000000 in
set_option maxRecDepth 100000 in
theorem impl_PutEntry.calls (k : Nat) (a0_0 : ByteArray) (a0_1 : Int) (a0_2 : Int) (a0_3 : Int) (a0_4 : ByteArray) (A0_5 : Option Addr) (c0_5 : Nat) (l0_5 : List (S35)) (r : ByteArray) (w : World) (hG_ : GlobI w) (hr0_5 : Kd.C k35 w A0_5 l0_5.length l0_5) (hc0_5 : l0_5.length ≤ c0_5) (h : impl_PutEntry.f k a0_0 a0_1 a0_2 a0_3 a0_4 l0_5 = some r) :
  Calls Tryz.prog 9 #[.agg #[.string a0_0, .int .i64 a0_1, .int .i64 a0_2, .int .i64 a0_3, .string a0_4, .slice A0_5 l0_5.length c0_5]] w fun e w' => e = .returned (.string r) ∧ Below w.heap.size w w' := by
 have HG_ := zn hG_
 clear hG_
 have hu28 := Tryz.underlying28
 have hu35 := Tryz.underlying35
 have hu25 := Tryz.underlying25
 have HR0_5 := zn hr0_5
 have HC0_5 := zn hc0_5
 clear hr0_5 hc0_5
 have HB := zn (Below.refl w.heap.size w)
 have H := h
 unfold impl_PutEntry.f at H
 clear h
 obtain ⟨t200, A2, H⟩ := zm H
 try dsimp only at H
 by_cases c3 : t200 = true
 ·subst c3
  rw [if_pos rfl] at H
  have H' := zn H
  clear H
  go_enter Tryz.func9, Tryz.ntmps9
  go_wp2_with (first | ((with_reducible refine zr 1 rfl ?_); refine zt 28 #[.string a0_0, .int .i64 a0_1, .int .i64 a0_2, .int .i64 a0_3, .string a0_4, .slice A0_5 l0_5.length c0_5] ?_; intro gb199 hg w4 hbox hb; have n_ := zv (below_step z1r hb) hbox (z8j : w.heap.size ≤ gb199) (z8j : w.heap.size ≤ gb199); clear HB; obtain ⟨HB, BK199, GW199, GE199⟩ := n_; clear hb hbox hg; obtain ⟨hcz5_0, hcz5_1, hcz5_2, hcz5_3, hcz5_4, hcz5_5, hfz5_0, hfz5_1, hfz5_2, hfz5_3, hfz5_4, hfz5_5⟩ := zh BK199.out) | ((with_reducible refine zi 11 rfl ?_); refine zj (some 7) Tryz.func11 #[.agg #[.string a0_0, .int .i64 a0_1, .int .i64 a0_2, .int .i64 a0_3, .string a0_4, .slice A0_5 l0_5.length c0_5]] rfl ?_; (with_reducible refine (impl_EntryOk.calls k a0_0 a0_1 a0_2 a0_3 a0_4 _ _ l0_5 true _ ?side1 ?side2 A2.out).mono ?_); (case side1 => exact z2g); (case side2 => exact HC0_5.out); rintro e w6 ⟨rfl, hb⟩; refine ⟨_, rfl, ?_⟩; have n_ := zo (blk_below (zu BK199.out) hb) (below_step z2o hb); clear BK199 HB; obtain ⟨BK199, HB⟩ := n_; (try clear hb); obtain ⟨hcz7_0, hcz7_1, hcz7_2, hcz7_3, hcz7_4, hcz7_5, hfz7_0, hfz7_1, hfz7_2, hfz7_3, hfz7_4, hfz7_5⟩ := zh BK199.out))
  go_loopg [3, 12] k (fun kq v3 v12 w' => ∃ (x3_1 : List ByteArray) (x12_1 : Int), v12 = .int .i64 x12_1 ∧ Aside0 (impl_PutEntry.l0 kq x3_1 l0_5 (l0_5.length : Int) x12_1 a0_0 a0_1 a0_2 a0_3 a0_4 l0_5 = some r) ∧ Aside0 (kq ≤ k) ∧ Aside0 (Kd.R Kd.string 9 w' w.heap.size (fun _ => True) v3 x3_1) ∧ Aside0 (w'.heap[gb199]? = some (.cells #[.string a0_0, .int .i64 a0_1, .int .i64 a0_2, .int .i64 a0_3, .string a0_4, (.slice A0_5 l0_5.length c0_5)] 28 (0, 0))) ∧ Aside0 (Below w.heap.size w w'))
  case atStart => exact ⟨(([] : List ByteArray)), (0), z1n, H', ⟨Nat.le_refl _⟩, ⟨z2p⟩, ⟨z2q⟩, ⟨z2o⟩⟩
  case round =>
   clear H'
   try clear c1
   try clear p2
   try clear c3
   try clear hcz5_0
   try clear hcz5_1
   try clear hcz5_2
   try clear hcz5_3
   try clear hcz5_4
   try clear hcz5_5
   try clear hcz7_0
   try clear hcz7_1
   try clear hcz7_2
   try clear hcz7_3
   try clear hcz7_4
   try clear hcz7_5
   try clear hfz5_0
   try clear hfz5_1
   try clear hfz5_2
   try clear hfz5_3
   try clear hfz5_4
   try clear hfz5_5
   try clear hfz7_0
   try clear hfz7_1
   try clear hfz7_2
   try clear hfz7_3
   try clear hfz7_4
   try clear hfz7_5
   obtain ⟨x3_1, x12_1, rfl, HA, HK1, HO_3, BK199, HB⟩ := hrel
   cases gk with
   | zero => exact absurd HA.out (by simp [impl_PutEntry.l0])
   | succ k1 =>
    have H := HA.out
    clear HA
    simp only [impl_PutEntry.l0] at H
    by_cases c8 : x12_1 < (l0_5.length : Int)
    ·rw [if_pos c8] at H
     have c8b0 := decide_eq_true c8
     clear c8
     by_cases c9 : 0 ≤ x12_1
     ·rw [if_pos c9] at H
      have c9b0 := decide_eq_true c9
      clear c9
      by_cases c10 : x12_1 < (l0_5.length : Int)
      ·rw [if_pos c10] at H
       have c10b0 := decide_eq_true c10
       clear c10
       obtain ⟨t203, A11, H⟩ := zm H
       try dsimp only at H
       by_cases c12 : x3_1.length < 8796093022208
       ·rw [if_pos c12] at H
        have LMc12 := zn c12
        clear c12
        obtain ⟨y204, hy204⟩ : ∃ y_ : List ByteArray, y_ = (x3_1 ++ [t203]) := ⟨_, rfl⟩
        replace H : (impl_PutEntry.l0 k1 y204 l0_5 (l0_5.length : Int) (wrap64 (x12_1 + 1)) a0_0 a0_1 a0_2 a0_3 a0_4 l0_5) = some r := by first | (rw [hy204]; with_reducible exact H) | (have H2_ := (Option.bind_some _ _).symm.trans H; rw [hy204]; with_reducible exact H2_) | (have H2_ := (Option.bind_some _ _).symm.trans H; with_reducible exact H2_) | with_reducible exact H | (rw [hy204]; exact H) | exact H
        have Ny204 := zn hy204
        clear hy204
        have H' := zn H
        clear H
        have p201 : 0 ≤ (x12_1 : Int) := of_decide_eq_true z1p
        have q201 : x12_1 < (l0_5.length : Int) := of_decide_eq_true z1p
        obtain ⟨ad201, e201, hx201_0, hx201_1, hx201_2, hx201_3, hx201_4⟩ := at_T35 HR0_5.out x12_1 p201 q201
        cases e201
        replace hx201_0 := zz HB.out hx201_0
        replace hx201_1 := zz HB.out hx201_1
        replace hx201_2 := zz HB.out hx201_2
        replace hx201_3 := zz HB.out hx201_3
        replace hx201_4 := zz HB.out hx201_4
        replace p201 := eq_true p201
        replace q201 := eq_true q201
        go_wp2_with (first | ((with_reducible refine zr 5 rfl ?_); refine zt 35 #[.string ⟨#[]⟩, .int .i64 0, .int .i64 0, .int .i64 0, .string ⟨#[]⟩] ?_; intro gb202 hg w13 hbox hb; have n_ := z1e (Kd.R_below z1s hb) (blk_below (zu BK199.out) hb) (below_step z2o hb) hbox ((by rw [hg]; exact (below_size z2o) : w.heap.size ≤ gb202)) ((by rw [hg]; exact (below_size z2o) : w.heap.size ≤ gb202)) ((by rw [hg]; exact Nat.ne_of_lt (blk_lt (zu BK199.out)) : gb199 ≠ gb202)) ((by rw [hg]; exact Nat.ne_of_gt (blk_lt (zu BK199.out)) : gb202 ≠ gb199)); clear HO_3 BK199 HB; obtain ⟨HO_3, BK199, HB, BK202, GW202, GE202, NB199_202, NB202_199⟩ := n_; clear hb hbox hg; have hnb14 := NB202_199.out; have hnc14 := NB199_202.out; obtain ⟨hcz15_0, hcz15_1, hcz15_2, hcz15_3, hcz15_4, hfz15_0, hfz15_1, hfz15_2, hfz15_3, hfz15_4⟩ := zg BK202.out) | ((with_reducible refine zi 30 rfl ?_); refine zj (some 18) Tryz.func30 #[.agg #[.string ((rd_T35 l0_5 x12_1).f0), .int .i64 ((rd_T35 l0_5 x12_1).f1.f0), .int .i64 ((rd_T35 l0_5 x12_1).f1.f1), .int .i64 ((rd_T35 l0_5 x12_1).f1.f2), .string ((rd_T35 l0_5 x12_1).f1.f3)]] rfl ?_; (with_reducible refine (impl_nameOf.calls (hG_ := globI_on HG_.out z2j) k1 ((rd_T35 l0_5 x12_1).f0) ((rd_T35 l0_5 x12_1).f1.f0) ((rd_T35 l0_5 x12_1).f1.f1) ((rd_T35 l0_5 x12_1).f1.f2) ((rd_T35 l0_5 x12_1).f1.f3) t203 _ A11.out).mono ?_); rintro e w16 ⟨rfl, hb⟩; refine ⟨_, rfl, ?_⟩; have n_ := zv (Kd.R_below (by (with_reducible repeat (first | apply Kd.R_alloc | apply Kd.R_drewN | apply Kd.R_drew)); exact (Kd.R_mono (z1d gb202 4 (z1d gb202 3 (z1d gb202 2 (z1d gb202 1 (z1d gb202 0 (Kd.R_types HO_3.out BK202.out z1l) (.string ((rd_T35 l0_5 x12_1).f0))) (.int .i64 ((rd_T35 l0_5 x12_1).f1.f0))) (.int .i64 ((rd_T35 l0_5 x12_1).f1.f1))) (.int .i64 ((rd_T35 l0_5 x12_1).f1.f2))) (.string ((rd_T35 l0_5 x12_1).f1.f3))) (fun _ h_ => h_.1))) hb) (blk_below (g := gb199) (o := .cells #[.string a0_0, .int .i64 a0_1, .int .i64 a0_2, .int .i64 a0_3, .string a0_4, .slice (some ad201) l0_5.length c0_5] 28 (0, 0)) (by (repeat (first | refine z1a ?_ | refine blk_far ?_ NB199_202.out _)); exact BK199.out) hb) (blk_below (g := gb202) (o := .cells #[.string ((rd_T35 l0_5 x12_1).f0), .int .i64 ((rd_T35 l0_5 x12_1).f1.f0), .int .i64 ((rd_T35 l0_5 x12_1).f1.f1), .int .i64 ((rd_T35 l0_5 x12_1).f1.f2), .string ((rd_T35 l0_5 x12_1).f1.f3)] 35 (0, 0)) (by (repeat refine z1a ?_); refine blk_put (cs := #[.string ((rd_T35 l0_5 x12_1).f0), .int .i64 ((rd_T35 l0_5 x12_1).f1.f0), .int .i64 ((rd_T35 l0_5 x12_1).f1.f1), .int .i64 ((rd_T35 l0_5 x12_1).f1.f2), .string ⟨#[]⟩]) ?_ 4 _ rfl; (repeat refine z1a ?_); refine blk_put (cs := #[.string ((rd_T35 l0_5 x12_1).f0), .int .i64 ((rd_T35 l0_5 x12_1).f1.f0), .int .i64 ((rd_T35 l0_5 x12_1).f1.f1), .int .i64 0, .string ⟨#[]⟩]) ?_ 3 _ rfl; (repeat refine z1a ?_); refine blk_put (cs := #[.string ((rd_T35 l0_5 x12_1).f0), .int .i64 ((rd_T35 l0_5 x12_1).f1.f0), .int .i64 0, .int .i64 0, .string ⟨#[]⟩]) ?_ 2 _ rfl; (repeat refine z1a ?_); refine blk_put (cs := #[.string ((rd_T35 l0_5 x12_1).f0), .int .i64 0, .int .i64 0, .int .i64 0, .string ⟨#[]⟩]) ?_ 1 _ rfl; (repeat refine z1a ?_); refine blk_put (cs := #[.string ⟨#[]⟩, .int .i64 0, .int .i64 0, .int .i64 0, .string ⟨#[]⟩]) ?_ 0 _ rfl; (repeat refine z1a ?_); exact BK202.out) hb) (below_step z2r hb); clear HO_3 BK199 BK202 HB; obtain ⟨HO_3, BK199, BK202, HB⟩ := n_; (try clear hb)) | ((with_reducible refine gate_builtin (b := .append) (xs := #[.tmp 16, .tmp 19]) rfl ?_); at_builtin; refine Kd.R_append Kd.string (w0 := w) w.heap.size rfl (.tmp 16) (.tmp 19) 55 9 (.string ⟨#[]⟩) 16 rfl Tryz.underlying55 info9 rfl z1l z1k u3 x3_1 t203 [.string t203] (fun _ => True) (fun _ => False) rfl rfl ?aP (fun _ hk => hk.elim) ?aF ?aO ?aB ?aS ?aL ?_; (case aP => exact rfl); (case aB => exact z2r); (case aF => exact (fun _ _ => trivial)); (case aO => exact z1s); (case aS => exact (below_size z2r)); (case aL => exact z2s); intro v205 w17 ho hb hg hat; rw [← Ny204.out] at ho; have n_ := zv (blk_grown (zu BK199.out) hg (Kd.R_ne HO_3.out BK199.out z1l)) (blk_grown (zu BK202.out) hg (Kd.R_ne HO_3.out BK202.out z1l)) hb ho; clear BK199 BK202 HB HO_3; obtain ⟨BK199, BK202, HB, HO206⟩ := n_; clear ho hb hg hat))
        go_roundg k1
        case measure => have := HK1.out; omega
        case rel => exact ⟨(y204), (wrap64 (x12_1 + 1)), z1n, H', ⟨z1q⟩, ⟨by (with_reducible repeat (first | apply Kd.R_alloc | apply Kd.R_drewN | apply Kd.R_drew)); exact HO206.out⟩, ⟨z2q⟩, ⟨z2r⟩⟩
       ·rw [if_neg c12] at H
        exact absurd H (by simp)
      ·rw [if_neg c10] at H
       exact absurd H (by simp)
     ·rw [if_neg c9] at H
      exact absurd H (by simp)
    ·rw [if_neg c8] at H
     have c8b0 := decide_eq_false c8
     clear c8
     obtain ⟨t207, A18, H⟩ := zm H
     try dsimp only at H
     obtain ⟨t208, A19, H⟩ := zm H
     try dsimp only at H
     obtain ⟨t211, A20, H⟩ := zm H
     try dsimp only at H
     obtain rfl := Option.some.inj H
     obtain ⟨hcz21_0, hcz21_1, hcz21_2, hcz21_3, hcz21_4, hcz21_5, hfz21_0, hfz21_1, hfz21_2, hfz21_3, hfz21_4, hfz21_5⟩ := zh BK199.out
     go_wp2_with (first | ((with_reducible refine zi 14 rfl ?_); refine zj (some 26) Tryz.func14 #[.string a0_0, .agg #[.int .i64 a0_1, .int .i64 a0_2, .int .i64 a0_3, .string a0_4]] rfl ?_; (with_reducible refine (impl_EntryName.calls (hG_ := globI_on HG_.out z2j) k1 a0_0 a0_1 a0_2 a0_3 a0_4 t207 _ A18.out).mono ?_); rintro e w22 ⟨rfl, hb⟩; refine ⟨_, rfl, ?_⟩; have n_ := z1c (Kd.R_below z1s hb) (blk_below (zu BK199.out) hb) (below_step z2o hb); clear HO_3 BK199 HB; obtain ⟨HO_3, BK199, HB⟩ := n_; (try clear hb)) | ((with_reducible refine zi 32 rfl ?_); refine zj (some 27) Tryz.func32 #[.slice none 0 0, .string t207] rfl ?_; (refine (impl_putText.calls k1 (fun k_ => some k_ = (.slice none 0 0 : Value).ownBlock) (.slice none 0 0) ([] : List Int) t207 t208 w _ ?side1 ?side2 A19.out).mono ?_); (case side1 => exact z2o); (case side2 => exact Kd.R_nil _ _ _ _ _); rintro e w23 ⟨v209, rfl, ho0, hb, hkp⟩; refine ⟨_, rfl, ?_⟩; have n_ := zv (Kd.R_mono (ok' := fun k_ => True) (Kd.R_keptB (HO_3.out) hkp (fun k_ hk_ hs_ => (fun e_ => by simp [Value.ownBlock] at e_) hs_)) (fun k_ hk_ => trivial)) (blk_kept z2q hkp (fun hs_ => (fun e_ => by simp [Value.ownBlock] at e_) hs_)) (Kd.R_mono (ok' := fun k_ => True) ho0 (fun k_ hk_ => trivial)) hb; clear HO_3 BK199 HB; obtain ⟨HO_3, BK199, HO210, HB⟩ := n_; (try clear hb); (try clear hkp); (try clear ho0); obtain ⟨Ao24, co24, eo24⟩ := Kd.R_slice HO210.out; subst eo24; obtain ⟨Ao25, co25, eo25⟩ := Kd.R_slice HO_3.out; subst eo25) | ((with_reducible refine zi 31 rfl ?_); refine zj (some 29) Tryz.func31 #[.slice Ao24 t208.length co24, .slice Ao25 x3_1.length co25] rfl ?_; (with_reducible refine (impl_putTexts.calls k1 (fun k_ => some k_ = (.slice Ao24 t208.length co24 : Value).ownBlock) (.slice Ao24 t208.length co24) t208 _ _ x3_1 t211 w _ ?side1 ?side2 ?side3 ?side4 A20.out).mono ?_); (case side1 => exact z2o); (case side2 => exact Kd.R_tight rfl HO210.out); (case side3 => exact Kd.C_kept_own ((Kd.R_apart' HO_3.out (Kd.R_typed HO210.out) z1l)) (fun k_ hk_ hs_ => (hk_.2) hs_)); (case side4 => exact (Kd.R_reads' HO_3.out).2.1); rintro e w26 ⟨v212, rfl, ho0, hb, hkp⟩; refine ⟨_, rfl, ?_⟩; have n_ := zv (Kd.R_mono (ok' := fun k_ => True) (Kd.R_keptB ((Kd.R_apart' HO_3.out (Kd.R_typed HO210.out) z1l)) hkp (fun k_ hk_ hs_ => (hk_.2) hs_)) (fun k_ hk_ => trivial)) (blk_kept z2q hkp (fun hs_ => (fun e_ => (Kd.R_ne HO210.out BK199.out z1l) e_) hs_)) (Kd.R_mono (ok' := fun k_ => True) ho0 (fun k_ hk_ => trivial)) hb; clear HO_3 BK199 HB HO210; obtain ⟨HO_3, BK199, HO213, HB⟩ := n_; (try clear hb); (try clear hkp); (try clear ho0); have hcv27 := own_string (P := Tryz.prog) Tryz.underlying22 Tryz.underlying5 Tryz.underlying9 (Kd.own_of_R HO213.out)))
     go_ret
     exact ⟨z1t, z2o⟩
 ·replace c3 := Bool.eq_false_iff.mpr c3
  subst c3
  rw [if_neg zk] at H
  obtain rfl := Option.some.inj H
  go_enter Tryz.func9, Tryz.ntmps9
  go_wp2_with (first | ((with_reducible refine zr 1 rfl ?_); refine zt 28 #[.string a0_0, .int .i64 a0_1, .int .i64 a0_2, .int .i64 a0_3, .string a0_4, .slice A0_5 l0_5.length c0_5] ?_; intro gb199 hg w28 hbox hb; have n_ := zv (below_step z1r hb) hbox (z8j : w.heap.size ≤ gb199) (z8j : w.heap.size ≤ gb199); clear HB; obtain ⟨HB, BK199, GW199, GE199⟩ := n_; clear hb hbox hg; obtain ⟨hcz29_0, hcz29_1, hcz29_2, hcz29_3, hcz29_4, hcz29_5, hfz29_0, hfz29_1, hfz29_2, hfz29_3, hfz29_4, hfz29_5⟩ := zh BK199.out) | ((with_reducible refine zi 11 rfl ?_); refine zj (some 7) Tryz.func11 #[.agg #[.string a0_0, .int .i64 a0_1, .int .i64 a0_2, .int .i64 a0_3, .string a0_4, .slice A0_5 l0_5.length c0_5]] rfl ?_; (with_reducible refine (impl_EntryOk.calls k a0_0 a0_1 a0_2 a0_3 a0_4 _ _ l0_5 false _ ?side1 ?side2 A2.out).mono ?_); (case side1 => exact z2g); (case side2 => exact HC0_5.out); rintro e w30 ⟨rfl, hb⟩; refine ⟨_, rfl, ?_⟩; have n_ := zo (blk_below (zu BK199.out) hb) (below_step z2o hb); clear BK199 HB; obtain ⟨BK199, HB⟩ := n_; (try clear hb)))
  go_ret
  exact ⟨z1t, z2o⟩
end Go.Proofs.YtgdknepphkhnlaaGreatDoor.X

/- strings.Cut at a separator of one byte: no variable of the library is read there. By the shelf's contracts and walk, turned. Conditions: the text has fewer than 4294967281 bytes. -/
namespace Go.Proofs.YtgdknepphkhnlaaGreatDoor.Sp
open Go.Shelf Go.RowKit Go.Lib Go.Proofs Go.Proofs.YtgdknepphkhnlaaGreatDoorW.PrintWords
set_option linter.unusedVariables false
set_option maxHeartbeats 2000000 in
set_option maxRecDepth 100000 in
theorem cut_lite_one {P : Program} {ρ : Ren} (L : Lays.n220 P ρ) (s : ByteArray) (c : UInt8) (w : World) (hs : s.size < 4294967281) :
  Calls P (ρ.f 220) #[.string s, .string ⟨#[c]⟩] w fun e w' => e = .returned (.tuple #[.string ⟨(Lib.cut s.data.toList [c]).1.toArray⟩, .string ⟨(Lib.cut s.data.toList [c]).2.1.toArray⟩, .bool (Lib.cut s.data.toList [c]).2.2]) ∧ ∃ n, w' = w.drewN n := by
 obtain ⟨sep, hsep⟩ : ∃ sep : ByteArray, sep = ⟨#[c]⟩ := ⟨_, rfl⟩
 have hd : [c] = sep.data.toList := by rw [hsep]
 have hI : ∀ W, Calls P (ρ.f 219) #[.string s, .string sep] W fun e w' => e = .returned (.int .i64 (Lib.indexB s sep)) ∧ w' = W := by
  intro W
  rw [hsep]
  refine (Any.stringslite_Index_one { L with } s c W).mono ?_
  rintro e w' ⟨he, hw⟩
  refine ⟨?_, hw⟩
  rw [he]
  show _ = Ending.returned (Value.int .i64 (Lib.index s.data.toList [c]))
  rw [Lib.index_one]
 rw [← hsep, hd]
 clear hd hsep
 rcases Lib.indexB_cases s sep with hix | ⟨i, hix, hroom⟩
 ·obtain ⟨e1, e2, e3⟩ := Lib.cutB_miss s sep hix
  rw [e1, e2, e3]
  have t3 := L.t3; have t4 := L.t4; have t9 := L.t9
  have a3 : ∀ w, (isAgg (ρ.t 3)).run P w = .ok false w := run_isAgg_plain L.t3 rfl; have a4 : ∀ w, (isAgg (ρ.t 4)).run P w = .ok false w := run_isAgg_plain L.t4 rfl; have a9 : ∀ w, (isAgg (ρ.t 9)).run P w = .ok false w := run_isAgg_plain L.t9 rfl
  have e219 : ∀ args w, (callFunc (ρ.f 219) args).run P w = .ok (.enter (ρ.f 219) args) w := enters_of L.f219 z1m rfl
  have mixed := L.mixed; have z3 := L.z3; have v3 := L.v3; have z4 := L.z4; have v4 := L.v4; have z9 := L.z9; have v9 := L.v9
  have HI := zn hI
  clear hI
  go_enter L.f220, Body.n220_ntmps ρ
  go_wp2_with (go_at_fn (ρ.f 219); refine (HI.out _).mono ?_; rintro e w' ⟨rfl, rfl⟩; rw [hix])
  go_ret3
  exact ⟨rfl, 0, rfl⟩
 ·obtain ⟨e1, e2, e3⟩ := Lib.cutB_hit s sep i hix
  rw [e1, e2, e3]
  have c1 : (0 : Int) ≤ ↑i := by omega
  have c2 : (↑i : Int) ≤ ↑s.size := by omega
  have c3 : (0 : Int) ≤ ↑i + ↑sep.size := by omega
  have c4 : (↑i + ↑sep.size : Int) ≤ ↑s.size := by omega
  have t3 := L.t3; have t4 := L.t4; have t9 := L.t9
  have a3 : ∀ w, (isAgg (ρ.t 3)).run P w = .ok false w := run_isAgg_plain L.t3 rfl; have a4 : ∀ w, (isAgg (ρ.t 4)).run P w = .ok false w := run_isAgg_plain L.t4 rfl; have a9 : ∀ w, (isAgg (ρ.t 9)).run P w = .ok false w := run_isAgg_plain L.t9 rfl
  have e219 : ∀ args w, (callFunc (ρ.f 219) args).run P w = .ok (.enter (ρ.f 219) args) w := enters_of L.f219 z1m rfl
  have mixed := L.mixed; have z3 := L.z3; have v3 := L.v3; have z4 := L.z4; have v4 := L.v4; have z9 := L.z9; have v9 := L.v9
  have HI := zn hI
  clear hI
  go_enter L.f220, Body.n220_ntmps ρ
  go_wp2_with (go_at_fn (ρ.f 219); refine (HI.out _).mono ?_; rintro e w' ⟨rfl, rfl⟩; rw [hix])
  go_region_o
  go_wp2
  go_ret3
  exact ⟨rfl, 1, rfl⟩
set_option maxHeartbeats 1000000 in
theorem cut_one {P : Program} {ρ : Ren} (L : Lays.n145 P ρ) (s : ByteArray) (c : UInt8) (w : World) (hs : s.size < 4294967281) :
  Calls P (ρ.f 145) #[.string s, .string ⟨#[c]⟩] w fun e w' => e = .returned (.tuple #[.string ⟨(Lib.cut s.data.toList [c]).1.toArray⟩, .string ⟨(Lib.cut s.data.toList [c]).2.1.toArray⟩, .bool (Lib.cut s.data.toList [c]).2.2]) ∧ ∃ n, w' = w.drewN n := by
 have t4 := L.t4; have t9 := L.t9; have t59 := L.t59
 have a4 : ∀ w, (isAgg (ρ.t 4)).run P w = .ok false w := run_isAgg_plain L.t4 rfl; have a9 : ∀ w, (isAgg (ρ.t 9)).run P w = .ok false w := run_isAgg_plain L.t9 rfl; have a59 : ∀ w, (isAgg (ρ.t 59)).run P w = .ok false w := run_isAgg_plain L.t59 rfl
 have e220 : ∀ args w, (callFunc (ρ.f 220) args).run P w = .ok (.enter (ρ.f 220) args) w := enters_of L.f220 z1m rfl
 have mixed := L.mixed; have z4 := L.z4; have v4 := L.v4; have z9 := L.z9; have v9 := L.v9; have z59 := L.z59; have v59 := L.v59
 obtain ⟨sep, hsep⟩ : ∃ sep : ByteArray, sep = ⟨#[c]⟩ := ⟨_, rfl⟩
 have hc := fun W => cut_lite_one { L with } s c W hs
 rw [← hsep] at hc ⊢
 have HC := zn hc
 clear hc hsep
 obtain ⟨x1, hx1⟩ : ∃ x, x = (⟨(Lib.cut s.data.toList [c]).1.toArray⟩ : ByteArray) := ⟨_, rfl⟩
 obtain ⟨x2, hx2⟩ : ∃ x, x = (⟨(Lib.cut s.data.toList [c]).2.1.toArray⟩ : ByteArray) := ⟨_, rfl⟩
 obtain ⟨x3, hx3⟩ : ∃ x, x = (Lib.cut s.data.toList [c]).2.2 := ⟨_, rfl⟩
 rw [← hx1, ← hx2, ← hx3] at HC ⊢
 clear hx1 hx2 hx3
 go_enter L.f145, Body.n145_ntmps ρ
 go_wp2_with (go_at_fn (ρ.f 220); refine (HC.out _).mono ?_; rintro e w' ⟨rfl, n, rfl⟩)
 go_ret3
 exact ⟨rfl, n, rfl⟩
end Go.Proofs.YtgdknepphkhnlaaGreatDoor.Sp

namespace Go.Proofs.YtgdknepphkhnlaaGreatDoor.X
open Go.RowKit Go.Proofs.YtgdknepphkhnlaaGreatDoorW.PrintWords Go.Proofs.YtgdknepphkhnlaaGreatDoorW.PrintLast Go.Proofs.YtgdknepphkhnlaaGreatDoorW.PrintMore
attribute [local go_sem] max2_int min2_int max_two min_two max_three min_three max_four min_four
set_option linter.unusedVariables false
set_option linter.unusedSimpArgs false
def cutB_ (c : UInt8) (s : ByteArray) : ByteArray × ByteArray × Bool := (⟨(Lib.cut s.data.toList [c]).1.toArray⟩, ⟨(Lib.cut s.data.toList [c]).2.1.toArray⟩, (Lib.cut s.data.toList [c]).2.2)
def strings_Cut.f (l0 l1 : ByteArray) : Option (ByteArray × ByteArray × Bool) := if l0.size < 4294967281 ∧ l1.size = 1 then some (cutB_ (l1.data.toList.headD 0) l0) else none
theorem strings_Cut.calls (l0 l1 : ByteArray) (r1 r2 : ByteArray) (r3 : Bool) (w : World) (h : strings_Cut.f l0 l1 = some (r1, r2, r3)) :
  Calls Tryz.prog 39 #[.string l0, .string l1] w fun e w' => e = .returned (.tuple #[.string r1, .string r2, .bool r3]) ∧ Drawn0 w w' := by
 unfold strings_Cut.f at h
 split at h
 ·rename_i hc
  obtain ⟨h0, h1⟩ := hc
  have h2 := Option.some.inj h
  obtain ⟨c, rfl⟩ := Lib.one_byte l1 h1
  have h3 : cutB_ c l0 = (r1, r2, r3) := h2
  unfold cutB_ at h3
  simp only [Prod.mk.injEq] at h3
  obtain ⟨rfl, rfl, rfl⟩ := h3
  refine (Go.Proofs.YtgdknepphkhnlaaGreatDoor.Sp.cut_one Tryz.lays145 l0 c w h0).mono ?_
  rintro e w' ⟨rfl, n, rfl⟩
  exact ⟨rfl, (Drawn0.refl w).step n⟩
 ·cases h
def stringslite_HasPrefix.f (a0 : ByteArray) (a1 : ByteArray) : Option (Bool) := if (a0.size : Int) ≥ (a1.size : Int) then (if 0 ≤ (a1.size : Int) then (if (a1.size : Int) ≤ (a0.size : Int) then (some ((a0.extract 0 ((a1.size : Int) : Int).toNat).toList == a1.toList)) else (none)) else (none)) else (some false)
set_option maxHeartbeats 8000000 in
set_option maxRecDepth 100000 in
theorem stringslite_HasPrefix.calls (a0 : ByteArray) (a1 : ByteArray) (r : Bool) (w : World) (h : stringslite_HasPrefix.f a0 a1 = some r) :
  Calls Tryz.prog 118 #[.string a0, .string a1] w fun e w' => e = .returned (.bool r) ∧ Drawn0 w w' := by
 have H := h
 unfold stringslite_HasPrefix.f at H
 clear h
 by_cases c3 : (a0.size : Int) ≥ (a1.size : Int)
 ·rw [if_pos c3] at H
  have c3b0 := decide_eq_true c3
  have c3b1 : decide (a1.size ≤ a0.size) = true := decide_eq_true (Int.ofNat_le.mp c3)
  clear c3
  by_cases c4 : 0 ≤ (a1.size : Int)
  ·rw [if_pos c4] at H
   have c4b0 := eq_true c4
   have c4b1 := decide_eq_true c4
   clear c4
   by_cases c5 : (a1.size : Int) ≤ (a0.size : Int)
   ·rw [if_pos c5] at H
    have c5b0 := eq_true c5
    have c5b1 := decide_eq_true c5
    clear c5
    obtain rfl := Option.some.inj H
    go_enter Tryz.func118, Tryz.ntmps118
    go_wp2
    go_ret
    exact ⟨z1n, z1o⟩
   ·rw [if_neg c5] at H
    exact absurd H (by simp)
  ·rw [if_neg c4] at H
   exact absurd H (by simp)
 ·rw [if_neg c3] at H
  have c3b0 := decide_eq_false c3
  have c3b1 : decide (a1.size ≤ a0.size) = false := decide_eq_false (fun h => c3 (Int.ofNat_le.mpr h))
  clear c3
  obtain rfl := Option.some.inj H
  go_enter Tryz.func118, Tryz.ntmps118
  go_wp2
  go_ret
  exact ⟨z1n, z1o⟩
def stringslite_TrimPrefix.f (a0 : ByteArray) (a1 : ByteArray) : Option (ByteArray) := (stringslite_HasPrefix.f a0 a1).bind fun t411 => (if t411 = true then (if 0 ≤ (a1.size : Int) then (if (a1.size : Int) ≤ (a0.size : Int) then (some (a0.extract ((a1.size : Int) : Int).toNat a0.size)) else (none)) else (none)) else (some a0))
set_option maxHeartbeats 8000000 in
set_option maxRecDepth 100000 in
theorem stringslite_TrimPrefix.calls (a0 : ByteArray) (a1 : ByteArray) (r : ByteArray) (w : World) (h : stringslite_TrimPrefix.f a0 a1 = some r) :
  Calls Tryz.prog 101 #[.string a0, .string a1] w fun e w' => e = .returned (.string r) ∧ Drawn0 w w' := by
 have H := h
 unfold stringslite_TrimPrefix.f at H
 clear h
 obtain ⟨t411, A3, H⟩ := zm H
 try dsimp only at H
 by_cases c4 : t411 = true
 ·subst c4
  rw [if_pos rfl] at H
  by_cases c5 : 0 ≤ (a1.size : Int)
  ·rw [if_pos c5] at H
   have c5b0 := eq_true c5
   have c5b1 := decide_eq_true c5
   clear c5
   by_cases c6 : (a1.size : Int) ≤ (a0.size : Int)
   ·rw [if_pos c6] at H
    have c6b0 := eq_true c6
    have c6b1 := decide_eq_true c6
    clear c6
    obtain rfl := Option.some.inj H
    go_enter Tryz.func101, Tryz.ntmps101
    go_wp2_with (first | ((with_reducible refine zi 118 rfl ?_); refine zj (some 7) Tryz.func118 #[.string a0, .string a1] rfl ?_; (with_reducible refine (stringslite_HasPrefix.calls a0 a1 true _ A3.out).mono ?_); rintro e w' ⟨rfl, ⟨nd, rfl⟩⟩; refine ⟨_, rfl, ?_⟩))
    go_ret
    exact ⟨z1n, z1o⟩
   ·rw [if_neg c6] at H
    exact absurd H (by simp)
  ·rw [if_neg c5] at H
   exact absurd H (by simp)
 ·replace c4 := Bool.eq_false_iff.mpr c4
  subst c4
  rw [if_neg zk] at H
  obtain rfl := Option.some.inj H
  go_enter Tryz.func101, Tryz.ntmps101
  go_wp2_with (first | ((with_reducible refine zi 118 rfl ?_); refine zj (some 7) Tryz.func118 #[.string a0, .string a1] rfl ?_; (with_reducible refine (stringslite_HasPrefix.calls a0 a1 false _ A3.out).mono ?_); rintro e w' ⟨rfl, ⟨nd, rfl⟩⟩; refine ⟨_, rfl, ?_⟩))
  go_ret
  exact ⟨z1n, z1o⟩
def strings_TrimPrefix.f (a0 : ByteArray) (a1 : ByteArray) : Option (ByteArray) := (stringslite_TrimPrefix.f a0 a1).bind fun t412 => (some t412)
set_option maxHeartbeats 8000000 in
set_option maxRecDepth 100000 in
theorem strings_TrimPrefix.calls (a0 : ByteArray) (a1 : ByteArray) (r : ByteArray) (w : World) (h : strings_TrimPrefix.f a0 a1 = some r) :
  Calls Tryz.prog 75 #[.string a0, .string a1] w fun e w' => e = .returned (.string r) ∧ Drawn0 w w' := by
 have H := h
 unfold strings_TrimPrefix.f at H
 clear h
 obtain ⟨t412, A3, H⟩ := zm H
 try dsimp only at H
 obtain rfl := Option.some.inj H
 go_enter Tryz.func75, Tryz.ntmps75
 go_wp2_with (first | ((with_reducible refine zi 101 rfl ?_); refine zj (some 7) Tryz.func101 #[.string a0, .string a1] rfl ?_; (with_reducible refine (stringslite_TrimPrefix.calls a0 a1 t412 _ A3.out).mono ?_); rintro e w' ⟨rfl, ⟨nd, rfl⟩⟩; refine ⟨_, rfl, ?_⟩))
 go_ret
 exact ⟨z1n, z1o⟩
def impl_ParseVersion.n3 (k : Nat) (s p : ByteArray) (a b c : Int) : Option (Int × Int × Int × ByteArray × Bool) := (impl_VersionText.f k a b c p).bind fun t => (if t.toList = s.toList then (some (a, b, c, p, true)) else (some (0, 0, 0, (⟨#[]⟩ : ByteArray), false)))
def impl_ParseVersion.n2 (k : Nat) (s p z : ByteArray) (a b : Int) : Option (Int × Int × Int × ByteArray × Bool) := (impl_numberOf.f k z 7).bind fun q => (if q.2 = true then (impl_ParseVersion.n3 k s p a b q.1) else (some (0, 0, 0, (⟨#[]⟩ : ByteArray), false)))
def impl_ParseVersion.n1 (k : Nat) (s p y z : ByteArray) (a : Int) : Option (Int × Int × Int × ByteArray × Bool) := (impl_numberOf.f k y 7).bind fun q => (if q.2 = true then (impl_ParseVersion.n2 k s p z a q.1) else (some (0, 0, 0, (⟨#[]⟩ : ByteArray), false)))
def impl_ParseVersion.n0 (k : Nat) (s p x y z : ByteArray) : Option (Int × Int × Int × ByteArray × Bool) := (impl_numberOf.f k x 7).bind fun q => (if q.2 = true then (impl_ParseVersion.n1 k s p y z q.1) else (some (0, 0, 0, (⟨#[]⟩ : ByteArray), false)))
def impl_ParseVersion.f (k : Nat) (s : ByteArray) : Option (Int × Int × Int × ByteArray × Bool) := (strings_TrimPrefix.f s (⟨#[118]⟩ : ByteArray)).bind fun t => (strings_Cut.f t (⟨#[45]⟩ : ByteArray)).bind fun c => (strings_Split.f c.1 (⟨#[46]⟩ : ByteArray)).bind fun l => (if l.length = 3 then (impl_ParseVersion.n0 k s c.2.1 (rdOf ByteArray.empty l 0) (rdOf ByteArray.empty l 1) (rdOf ByteArray.empty l 2)) else (some (0, 0, 0, (⟨#[]⟩ : ByteArray), false)))
theorem impl_ParseVersion.four {w : World} {g : Nat} {T : TypeId} {x0 x1 x2 x3 : Value} (h : w.heap[g]? = some (.cells #[x0, x1, x2, x3] T (0, 0))) (y0 y1 y2 y3 : Value) :
  ((((w.setCell ⟨g, 0, none⟩ y0).setCell ⟨g, 1, none⟩ y1).setCell ⟨g, 2, none⟩ y2).setCell ⟨g, 3, none⟩ y3).heap[g]? = some (.cells #[y0, y1, y2, y3] T (0, 0)) := blk_put (blk_put (blk_put (blk_put h 0 _ rfl) 1 _ rfl) 2 _ rfl) 3 _ rfl
theorem impl_ParseVersion.fourB {B : Nat} {a w : World} {g : Nat} (h : Below B a w) (hg : B ≤ g) (y0 y1 y2 y3 : Value) :
  Below B a ((((w.setCell ⟨g, 0, none⟩ y0).setCell ⟨g, 1, none⟩ y1).setCell ⟨g, 2, none⟩ y2).setCell ⟨g, 3, none⟩ y3) := (((h.setCell (p := ⟨g, 0, none⟩) hg _).setCell (p := ⟨g, 1, none⟩) hg _).setCell (p := ⟨g, 2, none⟩) hg _).setCell (p := ⟨g, 3, none⟩) hg _
theorem impl_ParseVersion.fourF {w : World} {g g2 : Nat} {T : TypeId} {cs : Array Value} (h : w.heap[g]? = some (.cells cs T (0, 0))) (hne : g ≠ g2) (y0 y1 y2 y3 : Value) :
  ((((w.setCell ⟨g2, 0, none⟩ y0).setCell ⟨g2, 1, none⟩ y1).setCell ⟨g2, 2, none⟩ y2).setCell ⟨g2, 3, none⟩ y3).heap[g]? = some (.cells cs T (0, 0)) := blk_far (p := ⟨g2, 3, none⟩) (blk_far (p := ⟨g2, 2, none⟩) (blk_far (p := ⟨g2, 1, none⟩) (blk_far (p := ⟨g2, 0, none⟩) h hne _) hne _) hne _) hne _
theorem impl_ParseVersion.fourO {w : World} {g base : Nat} {v : Value} {l : List ByteArray} {x0 x1 x2 x3 : Value} (h : Kd.R Kd.string 9 w base (fun _ => True) v l) (hb : w.heap[g]? = some (.cells #[x0, x1, x2, x3] 25 (0, 0))) (y0 y1 y2 y3 : Value) :
  Kd.R Kd.string 9 ((((w.setCell ⟨g, 0, none⟩ y0).setCell ⟨g, 1, none⟩ y1).setCell ⟨g, 2, none⟩ y2).setCell ⟨g, 3, none⟩ y3) base (fun _ => True) v l :=
 Kd.R_set (Kd.R_set (Kd.R_set (Kd.R_set h hb z1l 0 y0) (blk_put hb 0 _ rfl) z1l 1 y1) (blk_put (blk_put hb 0 _ rfl) 1 _ rfl) z1l 2 y2) (blk_put (blk_put (blk_put hb 0 _ rfl) 1 _ rfl) 2 _ rfl) z1l 3 y3
set_option maxHeartbeats 8000000 in
set_option maxRecDepth 100000 in
theorem impl_ParseVersion.calls (k : Nat) (a0 : ByteArray) (r1 : Int) (r2 : Int) (r3 : Int) (r4 : ByteArray) (r5 : Bool) (w : World) (hG_ : GlobI w) (h : impl_ParseVersion.f k a0 = some (r1, r2, r3, r4, r5)) :
  Calls Tryz.prog 40 #[.string a0] w fun e w' => e = .returned (.tuple #[.agg #[.int .i64 r1, .int .i64 r2, .int .i64 r3, .string r4], .bool r5]) ∧ Below w.heap.size w w' := by
 have hu27 := Tryz.underlying25
 have HG_ := zn hG_
 clear hG_
 have HB := zn (Below.refl w.heap.size w)
 obtain ⟨t, A10, h2⟩ := Option.bind_eq_some_iff.mp h
 obtain ⟨⟨c1, c2, c3⟩, A20, h3⟩ := Option.bind_eq_some_iff.mp h2
 obtain ⟨l, A30, h4⟩ := Option.bind_eq_some_iff.mp h3
 have A1 := zn A10
 have A2 := zn A20
 have A3 := zn (show strings_Split.f c1 (⟨#[46]⟩ : ByteArray) = some l from A30)
 have H0 : (if l.length = 3 then (impl_ParseVersion.n0 k a0 c2 (rdOf ByteArray.empty l 0) (rdOf ByteArray.empty l 1) (rdOf ByteArray.empty l 2)) else (some (0, 0, 0, (⟨#[]⟩ : ByteArray), false))) = some (r1, r2, r3, r4, r5) := h4
 clear h h2 h3 h4 A10 A20 A30
 by_cases c5 : l.length = 3
 ·rw [if_pos c5] at H0
  have H := zn H0
  clear H0
  have c5b : ((l.length : Int) != 3) = false := bne_eq_false_iff_eq.mpr z1k
  go_enter Tryz.func40, Tryz.ntmps40
  go_wp2_with (first | ((with_reducible refine zr 2 rfl ?_); refine zt 25 #[.int .i64 0, .int .i64 0, .int .i64 0, .string ⟨#[]⟩] ?_; intro g2 hg w4 hbox hb; have n_ := z1c (below_step z1r hb) hbox (z8j : w.heap.size ≤ g2); clear HB; obtain ⟨HB, BK2, GE2⟩ := n_; clear hb hbox hg) | ((with_reducible refine zi 75 rfl ?_); refine z1f (some 15) Tryz.func75 #[.string a0, .string ⟨#[118]⟩] rfl ?_; (with_reducible refine (strings_TrimPrefix.calls a0 (⟨#[118]⟩ : ByteArray) t _ A1.out).mono ?_); rintro e w' ⟨rfl, ⟨nd, rfl⟩⟩; refine ⟨_, rfl, ?_⟩) | ((with_reducible refine zi 39 rfl ?_); refine z1f (some 16) Tryz.func39 #[.string t, .string ⟨#[45]⟩] rfl ?_; (with_reducible refine (strings_Cut.calls t (⟨#[45]⟩ : ByteArray) c1 c2 c3 _ A2.out).mono ?_); rintro e w' ⟨rfl, ⟨nd, rfl⟩⟩; refine ⟨_, rfl, ?_⟩) | ((with_reducible refine zi 76 rfl ?_); refine z1f (some 21) Tryz.func76 #[.string c1, .string ⟨#[46]⟩] rfl ?_; (with_reducible refine (strings_Split.calls c1 (⟨#[46]⟩ : ByteArray) l _ A3.out).mono ?_); rintro e w3 ⟨v122, rfl, ho0, hb⟩; refine ⟨_, rfl, ?_⟩; have n0_ := zn (Kd.R_lower ho0 (below_size z2t)); have n2_ := zn (blk_below (zu BK2.out) hb); have n1_ := zn (below_step z2t hb); clear HB BK2; have HO := n0_; have HB := n1_; have BK2 := n2_; clear n0_ n1_ n2_; (try clear hb); (try clear ho0); obtain ⟨Ao4, co4, eo4⟩ := Kd.R_slice HO.out; subst eo4; obtain ⟨d0, d1, d2, d3, f0, f1, f2, f3⟩ := zf BK2.out) | ((with_reducible refine zr 8 rfl ?_); refine zt 25 #[.int .i64 0, .int .i64 0, .int .i64 0, .string ⟨#[]⟩] ?_; intro g8 hg w4 hbox hb; have n5_ := zn ((by rw [hg]; exact (Nat.ne_of_lt (blk_lt (w := _) (zu BK2.out)))) : g2 ≠ g8); have n4_ := zn (Kd.R_below z1x hb); have n3_ := zn (blk_below (zu BK2.out) hb); have n0_ := zn (below_step z2t hb); have n1_ := zn hbox; have n2_ := zn ((by rw [hg]; exact (below_size z2t)) : w.heap.size ≤ g8); clear HB BK2 HO; have HB := n0_; have BK2 := n3_; have BK8 := n1_; have GE8 := n2_; have HO := n4_; have NE28 := n5_; clear n0_ n1_ n2_ n3_ n4_ n5_; clear hb hbox hg; obtain ⟨e0, e1, e2, e3, q0, q1, q2, q3⟩ := zf BK8.out))
  have ix0 : ∀ W, (Instr.index 99 (.agg #[.pointer (some ⟨g8, 0, none⟩), .pointer (some ⟨g8, 1, none⟩), .pointer (some ⟨g8, 2, none⟩)]) (.int .i64 0)).run Tryz.prog W = .ok (.pointer (some ⟨g8, 0, none⟩)) W := fun W => by simp [Instr.index, run_underlying Tryz.underlying99, asIntOf, go_sem]
  have ix1 : ∀ W, (Instr.index 99 (.agg #[.pointer (some ⟨g8, 0, none⟩), .pointer (some ⟨g8, 1, none⟩), .pointer (some ⟨g8, 2, none⟩)]) (.int .i64 1)).run Tryz.prog W = .ok (.pointer (some ⟨g8, 1, none⟩)) W := fun W => by simp [Instr.index, run_underlying Tryz.underlying99, asIntOf, go_sem]
  have ix2 : ∀ W, (Instr.index 99 (.agg #[.pointer (some ⟨g8, 0, none⟩), .pointer (some ⟨g8, 1, none⟩), .pointer (some ⟨g8, 2, none⟩)]) (.int .i64 2)).run Tryz.prog W = .ok (.pointer (some ⟨g8, 2, none⟩)) W := fun W => by simp [Instr.index, run_underlying Tryz.underlying99, asIntOf, go_sem]
  clear d0 d1 d2 d3 f0 f1 f2 f3 e0 e1 e2 e3 q0 q1 q2 q3 A1 A2 A3
  go_loopw [32] (fun v32 wr => ∃ (i : Nat) (x y z : Int), v32 = .int .i64 (i : Int) ∧ i ≤ 3 ∧ Aside0 (wr.heap[g8]? = some (.cells #[.int .i64 x, .int .i64 y, .int .i64 z, .string c2] 25 (0, 0))) ∧ Aside0 (wr.heap[g2]? = some (.cells #[.int .i64 0, .int .i64 0, .int .i64 0, .string ⟨#[]⟩] 25 (0, 0))) ∧ Aside0 (Kd.R Kd.string 9 wr w.heap.size (fun _ => True) (.slice Ao4 l.length co4) l) ∧ Aside0 (Below w.heap.size w wr) ∧ Aside0 (i = 0 ∧ impl_ParseVersion.n0 k a0 c2 (rdOf ByteArray.empty l 0) (rdOf ByteArray.empty l 1) (rdOf ByteArray.empty l 2) = some (r1, r2, r3, r4, r5) ∨ i = 1 ∧ impl_ParseVersion.n1 k a0 c2 (rdOf ByteArray.empty l 1) (rdOf ByteArray.empty l 2) x = some (r1, r2, r3, r4, r5) ∨ i = 2 ∧ impl_ParseVersion.n2 k a0 c2 (rdOf ByteArray.empty l 2) x y = some (r1, r2, r3, r4, r5) ∨ i = 3 ∧ impl_ParseVersion.n3 k a0 c2 x y z = some (r1, r2, r3, r4, r5)))
   (fun v32 _ => 3 - (intOf v32).toNat)
  case atStart => exact ⟨0, 0, 0, 0, rfl, z1k, ⟨impl_ParseVersion.four BK8.out _ _ _ _⟩, ⟨impl_ParseVersion.fourF BK2.out NE28.out _ _ _ _⟩, ⟨impl_ParseVersion.fourO HO.out BK8.out _ _ _ _⟩, ⟨impl_ParseVersion.fourB HB.out GE8.out _ _ _ _⟩, ⟨.inl ⟨rfl, H.out⟩⟩⟩
  case round =>
  clear H BK2 BK8 HO HB
  obtain ⟨i, x, y, z, rfl, hi, BK8, BK2, HO, HB, HA⟩ := hrel
  rcases HA.out with ⟨rfl, h⟩ | ⟨rfl, h⟩ | ⟨rfl, h⟩ | ⟨rfl, h⟩
  ·obtain ⟨⟨n, OK⟩, A0, h2⟩ := Option.bind_eq_some_iff.mp h
   have AN := zn A0
   clear A0 HA h
   have p1 : (0 : Int) < (l.length : Int) := by omega
   obtain ⟨ad, e, hx⟩ := Kd.at_string (Kd.R_reads' HO.out).2.2 (0 : Int) z1l p1
   replace hx : wr.cell? ad = some (.string (rdOf ByteArray.empty l 0)) := hx
   cases e
   replace p1 := eq_true p1
   have hu27 := Tryz.underlying25
   cases OK with
   | true =>
    have HT := zn (show impl_ParseVersion.n1 k a0 c2 (rdOf ByteArray.empty l 1) (rdOf ByteArray.empty l 2) n = some (r1, r2, r3, r4, r5) from h2)
    clear h2
    go_wp2_with (first | ((with_reducible refine zi 77 rfl ?_); refine z1f (some 41) Tryz.func77 #[.string (rdOf ByteArray.empty l 0), .int .i64 7] rfl ?_; (with_reducible refine (impl_numberOf.calls k (rdOf ByteArray.empty l 0) 7 n true _ AN.out).mono ?_); rintro e w5 ⟨rfl, hb⟩; refine ⟨_, rfl, ?_⟩; have n_ := zv (below_step z1r hb) (blk_below (zu BK2.out) hb) (blk_below (zu BK8.out) hb) (Kd.R_below z1x hb); clear HB BK2 BK8 HO hb; obtain ⟨HB, BK2, BK8, HO⟩ := n_; obtain ⟨e0, e1, e2, e3, q0, q1, q2, q3⟩ := zf BK8.out))
    exact ⟨⟨1, n, y, z, rfl, z1k, ⟨blk_put BK8.out 0 _ rfl⟩, ⟨blk_far BK2.out NE28.out _⟩, ⟨Kd.R_set HO.out BK8.out z1l _ _⟩, ⟨below_set HB.out GE8.out⟩, ⟨.inr (.inl ⟨rfl, HT.out⟩)⟩⟩, z1l⟩
   | false =>
    have h3 : some (0, 0, 0, (⟨#[]⟩ : ByteArray), false) = some (r1, r2, r3, r4, r5) := h2
    simp only [Option.some.injEq, Prod.mk.injEq] at h3
    obtain ⟨rfl, rfl, rfl, rfl, rfl⟩ := h3
    clear h2
    go_wp2_with (first | ((with_reducible refine zi 77 rfl ?_); refine z1f (some 41) Tryz.func77 #[.string (rdOf ByteArray.empty l 0), .int .i64 7] rfl ?_; (with_reducible refine (impl_numberOf.calls k (rdOf ByteArray.empty l 0) 7 n false _ AN.out).mono ?_); rintro e w5 ⟨rfl, hb⟩; refine ⟨_, rfl, ?_⟩; have n_ := zv (below_step z1r hb) (blk_below (zu BK2.out) hb) (blk_below (zu BK8.out) hb) (Kd.R_below z1x hb); clear HB BK2 BK8 HO hb; obtain ⟨HB, BK2, BK8, HO⟩ := n_; obtain ⟨d0, d1, d2, d3, f0, f1, f2, f3⟩ := zf BK2.out))
    refine bodyPost_ret (results_ct rfl _ _ g2 25 #[.int .i64 0, .int .i64 0, .int .i64 0, .string ⟨#[]⟩] (0, 0) _ rfl (impl_ParseVersion.four BK2.out _ _ _ _) hu27 rfl z1m) rfl ?_
    exact ⟨rfl, impl_ParseVersion.fourB z1r GE2.out _ _ _ _⟩
  ·obtain ⟨⟨n, OK⟩, A0, h2⟩ := Option.bind_eq_some_iff.mp h
   have AN := zn A0
   clear A0 HA h
   have p1 : (1 : Int) < (l.length : Int) := by omega
   obtain ⟨ad, e, hx⟩ := Kd.at_string (Kd.R_reads' HO.out).2.2 (1 : Int) z1l p1
   replace hx : wr.cell? (⟨ad.block, ad.off + 1, none⟩ : Addr) = some (.string (rdOf ByteArray.empty l 1)) := hx
   cases e
   replace p1 := eq_true p1
   have hu27 := Tryz.underlying25
   cases OK with
   | true =>
    have HT := zn (show impl_ParseVersion.n2 k a0 c2 (rdOf ByteArray.empty l 2) x n = some (r1, r2, r3, r4, r5) from h2)
    clear h2
    go_wp2_with (first | ((with_reducible refine zi 77 rfl ?_); refine z1f (some 41) Tryz.func77 #[.string (rdOf ByteArray.empty l 1), .int .i64 7] rfl ?_; (with_reducible refine (impl_numberOf.calls k (rdOf ByteArray.empty l 1) 7 n true _ AN.out).mono ?_); rintro e w5 ⟨rfl, hb⟩; refine ⟨_, rfl, ?_⟩; have n_ := zv (below_step z1r hb) (blk_below (zu BK2.out) hb) (blk_below (zu BK8.out) hb) (Kd.R_below z1x hb); clear HB BK2 BK8 HO hb; obtain ⟨HB, BK2, BK8, HO⟩ := n_; obtain ⟨e0, e1, e2, e3, q0, q1, q2, q3⟩ := zf BK8.out))
    exact ⟨⟨2, x, n, z, rfl, z1k, ⟨blk_put BK8.out 1 _ rfl⟩, ⟨blk_far BK2.out NE28.out _⟩, ⟨Kd.R_set HO.out BK8.out z1l _ _⟩, ⟨below_set HB.out GE8.out⟩, ⟨.inr (.inr (.inl ⟨rfl, HT.out⟩))⟩⟩, z1l⟩
   | false =>
    have h3 : some (0, 0, 0, (⟨#[]⟩ : ByteArray), false) = some (r1, r2, r3, r4, r5) := h2
    simp only [Option.some.injEq, Prod.mk.injEq] at h3
    obtain ⟨rfl, rfl, rfl, rfl, rfl⟩ := h3
    clear h2
    go_wp2_with (first | ((with_reducible refine zi 77 rfl ?_); refine z1f (some 41) Tryz.func77 #[.string (rdOf ByteArray.empty l 1), .int .i64 7] rfl ?_; (with_reducible refine (impl_numberOf.calls k (rdOf ByteArray.empty l 1) 7 n false _ AN.out).mono ?_); rintro e w5 ⟨rfl, hb⟩; refine ⟨_, rfl, ?_⟩; have n_ := zv (below_step z1r hb) (blk_below (zu BK2.out) hb) (blk_below (zu BK8.out) hb) (Kd.R_below z1x hb); clear HB BK2 BK8 HO hb; obtain ⟨HB, BK2, BK8, HO⟩ := n_; obtain ⟨d0, d1, d2, d3, f0, f1, f2, f3⟩ := zf BK2.out))
    refine bodyPost_ret (results_ct rfl _ _ g2 25 #[.int .i64 0, .int .i64 0, .int .i64 0, .string ⟨#[]⟩] (0, 0) _ rfl (impl_ParseVersion.four BK2.out _ _ _ _) hu27 rfl z1m) rfl ?_
    exact ⟨rfl, impl_ParseVersion.fourB z1r GE2.out _ _ _ _⟩
  ·obtain ⟨⟨n, OK⟩, A0, h2⟩ := Option.bind_eq_some_iff.mp h
   have AN := zn A0
   clear A0 HA h
   have p1 : (2 : Int) < (l.length : Int) := by omega
   obtain ⟨ad, e, hx⟩ := Kd.at_string (Kd.R_reads' HO.out).2.2 (2 : Int) z1l p1
   replace hx : wr.cell? (⟨ad.block, ad.off + 2, none⟩ : Addr) = some (.string (rdOf ByteArray.empty l 2)) := hx
   cases e
   replace p1 := eq_true p1
   have hu27 := Tryz.underlying25
   cases OK with
   | true =>
    have HT := zn (show impl_ParseVersion.n3 k a0 c2 x y n = some (r1, r2, r3, r4, r5) from h2)
    clear h2
    go_wp2_with (first | ((with_reducible refine zi 77 rfl ?_); refine z1f (some 41) Tryz.func77 #[.string (rdOf ByteArray.empty l 2), .int .i64 7] rfl ?_; (with_reducible refine (impl_numberOf.calls k (rdOf ByteArray.empty l 2) 7 n true _ AN.out).mono ?_); rintro e w5 ⟨rfl, hb⟩; refine ⟨_, rfl, ?_⟩; have n_ := zv (below_step z1r hb) (blk_below (zu BK2.out) hb) (blk_below (zu BK8.out) hb) (Kd.R_below z1x hb); clear HB BK2 BK8 HO hb; obtain ⟨HB, BK2, BK8, HO⟩ := n_; obtain ⟨e0, e1, e2, e3, q0, q1, q2, q3⟩ := zf BK8.out))
    exact ⟨⟨3, x, y, n, rfl, z1k, ⟨blk_put BK8.out 2 _ rfl⟩, ⟨blk_far BK2.out NE28.out _⟩, ⟨Kd.R_set HO.out BK8.out z1l _ _⟩, ⟨below_set HB.out GE8.out⟩, ⟨.inr (.inr (.inr ⟨rfl, HT.out⟩))⟩⟩, z1l⟩
   | false =>
    have h3 : some (0, 0, 0, (⟨#[]⟩ : ByteArray), false) = some (r1, r2, r3, r4, r5) := h2
    simp only [Option.some.injEq, Prod.mk.injEq] at h3
    obtain ⟨rfl, rfl, rfl, rfl, rfl⟩ := h3
    clear h2
    go_wp2_with (first | ((with_reducible refine zi 77 rfl ?_); refine z1f (some 41) Tryz.func77 #[.string (rdOf ByteArray.empty l 2), .int .i64 7] rfl ?_; (with_reducible refine (impl_numberOf.calls k (rdOf ByteArray.empty l 2) 7 n false _ AN.out).mono ?_); rintro e w5 ⟨rfl, hb⟩; refine ⟨_, rfl, ?_⟩; have n_ := zv (below_step z1r hb) (blk_below (zu BK2.out) hb) (blk_below (zu BK8.out) hb) (Kd.R_below z1x hb); clear HB BK2 BK8 HO hb; obtain ⟨HB, BK2, BK8, HO⟩ := n_; obtain ⟨d0, d1, d2, d3, f0, f1, f2, f3⟩ := zf BK2.out))
    refine bodyPost_ret (results_ct rfl _ _ g2 25 #[.int .i64 0, .int .i64 0, .int .i64 0, .string ⟨#[]⟩] (0, 0) _ rfl (impl_ParseVersion.four BK2.out _ _ _ _) hu27 rfl z1m) rfl ?_
    exact ⟨rfl, impl_ParseVersion.fourB z1r GE2.out _ _ _ _⟩
  ·obtain ⟨tx, A0, h2⟩ := Option.bind_eq_some_iff.mp h
   have AT := zn A0
   clear A0 HA h ix0 ix1 ix2
   have hu27 := Tryz.underlying25
   obtain ⟨e0, e1, e2, e3, q0, q1, q2, q3⟩ := zf BK8.out
   by_cases c9 : tx.toList = a0.toList
   ·have c9b0 := beq_iff_eq.mpr c9
    have c9b1 := bne_eq_false_iff_eq.mpr c9
    have h3 : some (x, y, z, c2, true) = some (r1, r2, r3, r4, r5) := by have h4 : (if tx.toList = a0.toList then (some (x, y, z, c2, true)) else (some (0, 0, 0, (⟨#[]⟩ : ByteArray), false))) = some (r1, r2, r3, r4, r5) := h2; rw [if_pos c9] at h4; exact h4
    simp only [Option.some.injEq, Prod.mk.injEq] at h3
    obtain ⟨rfl, rfl, rfl, rfl, rfl⟩ := h3
    clear h2 c9
    go_wp2_with (first | ((with_reducible refine zi 41 rfl ?_); refine z1f (some 52) Tryz.func41 #[.agg #[.int .i64 x, .int .i64 y, .int .i64 z, .string c2]] rfl ?_; (with_reducible refine (impl_VersionText.calls k x y z c2 tx _ (globI_on HG_.out z1r) AT.out).mono ?_); rintro e w5 ⟨rfl, hb⟩; refine ⟨_, rfl, ?_⟩; have n_ := z1c (below_step z1r hb) (blk_below (zu BK2.out) hb) (blk_below (zu BK8.out) hb); clear HB BK2 BK8 hb e0 e1 e2 e3 q0 q1 q2 q3; obtain ⟨HB, BK2, BK8⟩ := n_; obtain ⟨d0, d1, d2, d3, f0, f1, f2, f3⟩ := zf BK2.out; obtain ⟨e0, e1, e2, e3, q0, q1, q2, q3⟩ := zf BK8.out))
    refine bodyPost_ret (results_ct rfl _ _ g2 25 #[.int .i64 x, .int .i64 y, .int .i64 z, .string c2] (0, 0) _ rfl (impl_ParseVersion.four BK2.out _ _ _ _) hu27 rfl z1m) rfl ?_
    exact ⟨rfl, impl_ParseVersion.fourB z1r GE2.out _ _ _ _⟩
   ·have c9b0 := beq_eq_false_iff_ne.mpr c9
    have c9b1 := bne_iff_ne.mpr c9
    have h3 : some (0, 0, 0, (⟨#[]⟩ : ByteArray), false) = some (r1, r2, r3, r4, r5) := by have h4 : (if tx.toList = a0.toList then (some (x, y, z, c2, true)) else (some (0, 0, 0, (⟨#[]⟩ : ByteArray), false))) = some (r1, r2, r3, r4, r5) := h2; rw [if_neg c9] at h4; exact h4
    simp only [Option.some.injEq, Prod.mk.injEq] at h3
    obtain ⟨rfl, rfl, rfl, rfl, rfl⟩ := h3
    clear h2 c9
    go_wp2_with (first | ((with_reducible refine zi 41 rfl ?_); refine z1f (some 52) Tryz.func41 #[.agg #[.int .i64 x, .int .i64 y, .int .i64 z, .string c2]] rfl ?_; (with_reducible refine (impl_VersionText.calls k x y z c2 tx _ (globI_on HG_.out z1r) AT.out).mono ?_); rintro e w5 ⟨rfl, hb⟩; refine ⟨_, rfl, ?_⟩; have n_ := z1c (below_step z1r hb) (blk_below (zu BK2.out) hb) (blk_below (zu BK8.out) hb); clear HB BK2 BK8 hb e0 e1 e2 e3 q0 q1 q2 q3; obtain ⟨HB, BK2, BK8⟩ := n_; obtain ⟨d0, d1, d2, d3, f0, f1, f2, f3⟩ := zf BK2.out; obtain ⟨e0, e1, e2, e3, q0, q1, q2, q3⟩ := zf BK8.out))
    refine bodyPost_ret (results_ct rfl _ _ g2 25 #[.int .i64 0, .int .i64 0, .int .i64 0, .string ⟨#[]⟩] (0, 0) _ rfl (impl_ParseVersion.four BK2.out _ _ _ _) hu27 rfl z1m) rfl ?_
    exact ⟨rfl, impl_ParseVersion.fourB z1r GE2.out _ _ _ _⟩
 ·rw [if_neg c5] at H0
  simp only [Option.some.injEq, Prod.mk.injEq] at H0
  obtain ⟨rfl, rfl, rfl, rfl, rfl⟩ := H0
  have c5b : ((l.length : Int) != 3) = true := bne_iff_ne.mpr z1k
  clear c5
  go_enter Tryz.func40, Tryz.ntmps40
  go_wp2_with (first | ((with_reducible refine zr 2 rfl ?_); refine zt 25 #[.int .i64 0, .int .i64 0, .int .i64 0, .string ⟨#[]⟩] ?_; intro g2 hg w4 hbox hb; have n_ := z1c (below_step z1r hb) hbox (z8j : w.heap.size ≤ g2); clear HB; obtain ⟨HB, BK2, GE2⟩ := n_; clear hb hbox hg) | ((with_reducible refine zi 75 rfl ?_); refine z1f (some 15) Tryz.func75 #[.string a0, .string ⟨#[118]⟩] rfl ?_; (with_reducible refine (strings_TrimPrefix.calls a0 (⟨#[118]⟩ : ByteArray) t _ A1.out).mono ?_); rintro e w' ⟨rfl, ⟨nd, rfl⟩⟩; refine ⟨_, rfl, ?_⟩) | ((with_reducible refine zi 39 rfl ?_); refine z1f (some 16) Tryz.func39 #[.string t, .string ⟨#[45]⟩] rfl ?_; (with_reducible refine (strings_Cut.calls t (⟨#[45]⟩ : ByteArray) c1 c2 c3 _ A2.out).mono ?_); rintro e w' ⟨rfl, ⟨nd, rfl⟩⟩; refine ⟨_, rfl, ?_⟩) | ((with_reducible refine zi 76 rfl ?_); refine z1f (some 21) Tryz.func76 #[.string c1, .string ⟨#[46]⟩] rfl ?_; (with_reducible refine (strings_Split.calls c1 (⟨#[46]⟩ : ByteArray) l _ A3.out).mono ?_); rintro e w3 ⟨v122, rfl, ho0, hb⟩; refine ⟨_, rfl, ?_⟩; have n0_ := zn (Kd.R_lower ho0 (below_size z2t)); have n2_ := zn (blk_below (zu BK2.out) hb); have n1_ := zn (below_step z2t hb); clear HB BK2; have HO := n0_; have HB := n1_; have BK2 := n2_; clear n0_ n1_ n2_; (try clear hb); (try clear ho0); obtain ⟨Ao4, co4, eo4⟩ := Kd.R_slice HO.out; subst eo4; obtain ⟨d0, d1, d2, d3, f0, f1, f2, f3⟩ := zf BK2.out))
  refine bodyPost_ret (results_ct rfl _ _ g2 25 #[.int .i64 0, .int .i64 0, .int .i64 0, .string ⟨#[]⟩] (0, 0) _ rfl (impl_ParseVersion.four BK2.out _ _ _ _) hu27 rfl z1m) rfl ?_
  exact ⟨rfl, impl_ParseVersion.fourB z2t GE2.out _ _ _ _⟩
def impl_ParseName.f (k : Nat) (a0 : ByteArray) : Option (ByteArray × Int × Int × Int × ByteArray × Bool) := (strings_Cut.f a0 (⟨#[64]⟩ : ByteArray)).bind fun bt414 => ((impl_ParseVersion.f k bt414.2.1).bind fun bt417 => (if bt417.2.2.2.2 = true then ((impl_EntryName.f k bt414.1 bt417.1 bt417.2.1 bt417.2.2.1 bt417.2.2.2.1).bind fun t423 => (if t423.toList = a0.toList then (if a0.toList = ([] : List UInt8) then (some ((⟨#[]⟩ : ByteArray), 0, 0, 0, (⟨#[]⟩ : ByteArray), false)) else (some (bt414.1, bt417.1, bt417.2.1, bt417.2.2.1, bt417.2.2.2.1, true))) else (some ((⟨#[]⟩ : ByteArray), 0, 0, 0, (⟨#[]⟩ : ByteArray), false)))) else (some ((⟨#[]⟩ : ByteArray), 0, 0, 0, (⟨#[]⟩ : ByteArray), false))))
set_option maxHeartbeats 8000000 in
set_option maxRecDepth 100000 in
theorem impl_ParseName.calls (k : Nat) (a0 : ByteArray) (r1 : ByteArray) (r2 : Int) (r3 : Int) (r4 : Int) (r5 : ByteArray) (r6 : Bool) (w : World) (hG_ : GlobI w) (h : impl_ParseName.f k a0 = some (r1, r2, r3, r4, r5, r6)) :
  Calls Tryz.prog 13 #[.string a0] w fun e w' => e = .returned (.tuple #[.agg #[.string r1, .int .i64 r2, .int .i64 r3, .int .i64 r4, .string r5], .bool r6]) ∧ Below w.heap.size w w' := by
 have HG_ := zn hG_
 clear hG_
 have hu35 := Tryz.underlying35
 have hu25 := Tryz.underlying25
 have HB := zn (Below.refl w.heap.size w)
 have H := h
 unfold impl_ParseName.f at H
 clear h
 obtain ⟨⟨t414, t415, t416⟩, A2, H⟩ := zm H
 try dsimp only at H
 obtain ⟨⟨t417, t418, t419, t420, t421⟩, A3, H⟩ := zm H
 try dsimp only at H
 by_cases c4 : t421 = true
 ·subst c4
  rw [if_pos rfl] at H
  obtain ⟨t423, A5, H⟩ := zm H
  try dsimp only at H
  by_cases c6 : t423.toList = a0.toList
  ·rw [if_pos c6] at H
   have c6b0 := beq_iff_eq.mpr c6
   have c6b1 := bne_eq_false_iff_eq.mpr c6
   clear c6
   by_cases c7 : a0.toList = ([] : List UInt8)
   ·rw [if_pos c7] at H
    have c7b0 := beq_iff_eq.mpr c7
    have c7b1 := bne_eq_false_iff_eq.mpr c7
    clear c7
    simp only [Option.some.injEq, Prod.mk.injEq] at H
    obtain ⟨rfl, rfl, rfl, rfl, rfl, rfl⟩ := H
    go_enter Tryz.func13, Tryz.ntmps13
    go_wp2_with (first | ((with_reducible refine zr 2 rfl ?_); refine zt 35 #[.string ⟨#[]⟩, .int .i64 0, .int .i64 0, .int .i64 0, .string ⟨#[]⟩] ?_; intro gb413 hg w8 hbox hb; have n_ := zv (below_step z1r hb) hbox (z8j : w.heap.size ≤ gb413) (z8j : w.heap.size ≤ gb413); clear HB; obtain ⟨HB, BK413, GW413, GE413⟩ := n_; clear hb hbox hg) | ((with_reducible refine zi 39 rfl ?_); refine zj (some 11) Tryz.func39 #[.string a0, .string ⟨#[64]⟩] rfl ?_; (with_reducible refine (strings_Cut.calls a0 (⟨#[64]⟩ : ByteArray) t414 t415 t416 _ A2.out).mono ?_); rintro e w' ⟨rfl, ⟨nd, rfl⟩⟩; refine ⟨_, rfl, ?_⟩; (try (rw [drewN_self w8]; generalize hq_ : World.drewN w8 _ = w8; have n0_ : Aside0 (w8.heap[gb413]? = some (.cells #[.string ⟨#[]⟩, .int .i64 0, .int .i64 0, .int .i64 0, .string ⟨#[]⟩] 35 (0, 0))) := ⟨z8m⟩; have n1_ : Aside0 (Below w.heap.size w w8) := ⟨z8n⟩; clear BK413 HB hq_; have BK413 := n0_; have HB := n1_; clear n0_ n1_))) | ((with_reducible refine zi 40 rfl ?_); refine zj (some 17) Tryz.func40 #[.string t415] rfl ?_; (with_reducible refine (impl_ParseVersion.calls (hG_ := globI_on HG_.out z2j) k t415 t417 t418 t419 t420 true _ A3.out).mono ?_); rintro e w9 ⟨rfl, hb⟩; refine ⟨_, rfl, ?_⟩; have n_ := zo (blk_below (zu BK413.out) hb) (below_step z2v hb); clear BK413 HB; obtain ⟨BK413, HB⟩ := n_; (try clear hb)) | ((with_reducible refine zr 7 rfl ?_); refine zt 25 #[.int .i64 0, .int .i64 0, .int .i64 0, .string ⟨#[]⟩] ?_; intro gb422 hg w10 hbox hb; have n_ := z1b (blk_below (zu BK413.out) hb) (below_step z2v hb) hbox (z8l : w.heap.size ≤ gb422) (z8l : w.heap.size ≤ gb422) (z2w : gb413 ≠ gb422) (z2x : gb422 ≠ gb413); clear BK413 HB; obtain ⟨BK413, HB, BK422, GW422, GE422, NB413_422, NB422_413⟩ := n_; clear hb hbox hg; have hnb11 := NB422_413.out; have hnc11 := NB413_422.out; obtain ⟨hcz12_0, hcz12_1, hcz12_2, hcz12_3, hfz12_0, hfz12_1, hfz12_2, hfz12_3⟩ := zf BK422.out) | (go_at_call 14; (with_reducible refine (impl_EntryName.calls (hG_ := globI_on HG_.out z2j) k t414 t417 t418 t419 t420 t423 _ A5.out).mono ?_); rintro e w13 ⟨rfl, hb⟩; have n_ := z1c (blk_below (g := gb413) (o := .cells #[.string ⟨#[]⟩, .int .i64 0, .int .i64 0, .int .i64 0, .string ⟨#[]⟩] 35 (0, 0)) z2y hb) (blk_below (g := gb422) (o := .cells #[.int .i64 t417, .int .i64 t418, .int .i64 t419, .string t420] 25 (0, 0)) z2z hb) (below_step z3a hb); clear BK413 BK422 HB; obtain ⟨BK413, BK422, HB⟩ := n_; (try clear hb); obtain ⟨hcz14_0, hcz14_1, hcz14_2, hcz14_3, hcz14_4, hfz14_0, hfz14_1, hfz14_2, hfz14_3, hfz14_4⟩ := zg BK413.out))
    refine bodyPost_ret (results_ct rfl _ _ gb413 35 #[.string ⟨#[]⟩, .int .i64 0, .int .i64 0, .int .i64 0, .string ⟨#[]⟩] (0, 0) _ rfl (by (repeat refine z1a ?_); refine blk_put (cs := #[.string ⟨#[]⟩, .int .i64 0, .int .i64 0, .int .i64 0, .string ⟨#[]⟩]) ?_ 4 _ rfl; (repeat refine z1a ?_); refine blk_put (cs := #[.string ⟨#[]⟩, .int .i64 0, .int .i64 0, .int .i64 0, .string ⟨#[]⟩]) ?_ 3 _ rfl; (repeat refine z1a ?_); refine blk_put (cs := #[.string ⟨#[]⟩, .int .i64 0, .int .i64 0, .int .i64 0, .string ⟨#[]⟩]) ?_ 2 _ rfl; (repeat refine z1a ?_); refine blk_put (cs := #[.string ⟨#[]⟩, .int .i64 0, .int .i64 0, .int .i64 0, .string ⟨#[]⟩]) ?_ 1 _ rfl; (repeat refine z1a ?_); refine blk_put (cs := #[.string ⟨#[]⟩, .int .i64 0, .int .i64 0, .int .i64 0, .string ⟨#[]⟩]) ?_ 0 _ rfl; (repeat refine z1a ?_); exact BK413.out) Tryz.underlying35 rfl z1m) rfl ?_
    exact ⟨z1t, z3a⟩
   ·rw [if_neg c7] at H
    have c7b0 := beq_eq_false_iff_ne.mpr c7
    have c7b1 := bne_iff_ne.mpr c7
    simp only [Option.some.injEq, Prod.mk.injEq] at H
    obtain ⟨rfl, rfl, rfl, rfl, rfl, rfl⟩ := H
    go_enter Tryz.func13, Tryz.ntmps13
    go_wp2_with (first | ((with_reducible refine zr 2 rfl ?_); refine zt 35 #[.string ⟨#[]⟩, .int .i64 0, .int .i64 0, .int .i64 0, .string ⟨#[]⟩] ?_; intro gb413 hg w15 hbox hb; have n_ := zv (below_step z1r hb) hbox (z8j : w.heap.size ≤ gb413) (z8j : w.heap.size ≤ gb413); clear HB; obtain ⟨HB, BK413, GW413, GE413⟩ := n_; clear hb hbox hg) | ((with_reducible refine zi 39 rfl ?_); refine zj (some 11) Tryz.func39 #[.string a0, .string ⟨#[64]⟩] rfl ?_; (with_reducible refine (strings_Cut.calls a0 (⟨#[64]⟩ : ByteArray) t414 t415 t416 _ A2.out).mono ?_); rintro e w' ⟨rfl, ⟨nd, rfl⟩⟩; refine ⟨_, rfl, ?_⟩; (try (rw [drewN_self w15]; generalize hq_ : World.drewN w15 _ = w15; have n0_ : Aside0 (w15.heap[gb413]? = some (.cells #[.string ⟨#[]⟩, .int .i64 0, .int .i64 0, .int .i64 0, .string ⟨#[]⟩] 35 (0, 0))) := ⟨z8m⟩; have n1_ : Aside0 (Below w.heap.size w w15) := ⟨z8n⟩; clear BK413 HB hq_; have BK413 := n0_; have HB := n1_; clear n0_ n1_))) | ((with_reducible refine zi 40 rfl ?_); refine zj (some 17) Tryz.func40 #[.string t415] rfl ?_; (with_reducible refine (impl_ParseVersion.calls (hG_ := globI_on HG_.out z2j) k t415 t417 t418 t419 t420 true _ A3.out).mono ?_); rintro e w16 ⟨rfl, hb⟩; refine ⟨_, rfl, ?_⟩; have n_ := zo (blk_below (zu BK413.out) hb) (below_step z2v hb); clear BK413 HB; obtain ⟨BK413, HB⟩ := n_; (try clear hb)) | ((with_reducible refine zr 7 rfl ?_); refine zt 25 #[.int .i64 0, .int .i64 0, .int .i64 0, .string ⟨#[]⟩] ?_; intro gb422 hg w17 hbox hb; have n_ := z1b (blk_below (zu BK413.out) hb) (below_step z2v hb) hbox (z8l : w.heap.size ≤ gb422) (z8l : w.heap.size ≤ gb422) (z2w : gb413 ≠ gb422) (z2x : gb422 ≠ gb413); clear BK413 HB; obtain ⟨BK413, HB, BK422, GW422, GE422, NB413_422, NB422_413⟩ := n_; clear hb hbox hg; have hnb18 := NB422_413.out; have hnc18 := NB413_422.out; obtain ⟨hcz19_0, hcz19_1, hcz19_2, hcz19_3, hfz19_0, hfz19_1, hfz19_2, hfz19_3⟩ := zf BK422.out) | (go_at_call 14; (with_reducible refine (impl_EntryName.calls (hG_ := globI_on HG_.out z2j) k t414 t417 t418 t419 t420 t423 _ A5.out).mono ?_); rintro e w20 ⟨rfl, hb⟩; have n_ := z1c (blk_below (g := gb413) (o := .cells #[.string ⟨#[]⟩, .int .i64 0, .int .i64 0, .int .i64 0, .string ⟨#[]⟩] 35 (0, 0)) z2y hb) (blk_below (g := gb422) (o := .cells #[.int .i64 t417, .int .i64 t418, .int .i64 t419, .string t420] 25 (0, 0)) z2z hb) (below_step z3a hb); clear BK413 BK422 HB; obtain ⟨BK413, BK422, HB⟩ := n_; (try clear hb); obtain ⟨hcz21_0, hcz21_1, hcz21_2, hcz21_3, hfz21_0, hfz21_1, hfz21_2, hfz21_3⟩ := zf BK422.out; obtain ⟨hcz22_0, hcz22_1, hcz22_2, hcz22_3, hcz22_4, hfz22_0, hfz22_1, hfz22_2, hfz22_3, hfz22_4⟩ := zg BK413.out))
    refine bodyPost_ret (results_ct rfl _ _ gb413 35 #[.string t414, .int .i64 t417, .int .i64 t418, .int .i64 t419, .string t420] (0, 0) _ rfl (by (repeat refine z1a ?_); refine blk_put (cs := #[.string t414, .int .i64 t417, .int .i64 t418, .int .i64 t419, .string ⟨#[]⟩]) ?_ 4 _ rfl; (repeat refine z1a ?_); refine blk_put (cs := #[.string t414, .int .i64 t417, .int .i64 t418, .int .i64 0, .string ⟨#[]⟩]) ?_ 3 _ rfl; (repeat refine z1a ?_); refine blk_put (cs := #[.string t414, .int .i64 t417, .int .i64 0, .int .i64 0, .string ⟨#[]⟩]) ?_ 2 _ rfl; (repeat refine z1a ?_); refine blk_put (cs := #[.string t414, .int .i64 0, .int .i64 0, .int .i64 0, .string ⟨#[]⟩]) ?_ 1 _ rfl; (repeat refine z1a ?_); refine blk_put (cs := #[.string ⟨#[]⟩, .int .i64 0, .int .i64 0, .int .i64 0, .string ⟨#[]⟩]) ?_ 0 _ rfl; (repeat refine z1a ?_); exact BK413.out) Tryz.underlying35 rfl z1m) rfl ?_
    exact ⟨z1t, z3a⟩
  ·rw [if_neg c6] at H
   have c6b0 := beq_eq_false_iff_ne.mpr c6
   have c6b1 := bne_iff_ne.mpr c6
   simp only [Option.some.injEq, Prod.mk.injEq] at H
   obtain ⟨rfl, rfl, rfl, rfl, rfl, rfl⟩ := H
   go_enter Tryz.func13, Tryz.ntmps13
   go_wp2_with (first | ((with_reducible refine zr 2 rfl ?_); refine zt 35 #[.string ⟨#[]⟩, .int .i64 0, .int .i64 0, .int .i64 0, .string ⟨#[]⟩] ?_; intro gb413 hg w23 hbox hb; have n_ := zv (below_step z1r hb) hbox (z8j : w.heap.size ≤ gb413) (z8j : w.heap.size ≤ gb413); clear HB; obtain ⟨HB, BK413, GW413, GE413⟩ := n_; clear hb hbox hg) | ((with_reducible refine zi 39 rfl ?_); refine zj (some 11) Tryz.func39 #[.string a0, .string ⟨#[64]⟩] rfl ?_; (with_reducible refine (strings_Cut.calls a0 (⟨#[64]⟩ : ByteArray) t414 t415 t416 _ A2.out).mono ?_); rintro e w' ⟨rfl, ⟨nd, rfl⟩⟩; refine ⟨_, rfl, ?_⟩; (try (rw [drewN_self w23]; generalize hq_ : World.drewN w23 _ = w23; have n0_ : Aside0 (w23.heap[gb413]? = some (.cells #[.string ⟨#[]⟩, .int .i64 0, .int .i64 0, .int .i64 0, .string ⟨#[]⟩] 35 (0, 0))) := ⟨z8m⟩; have n1_ : Aside0 (Below w.heap.size w w23) := ⟨z8n⟩; clear BK413 HB hq_; have BK413 := n0_; have HB := n1_; clear n0_ n1_))) | ((with_reducible refine zi 40 rfl ?_); refine zj (some 17) Tryz.func40 #[.string t415] rfl ?_; (with_reducible refine (impl_ParseVersion.calls (hG_ := globI_on HG_.out z2j) k t415 t417 t418 t419 t420 true _ A3.out).mono ?_); rintro e w24 ⟨rfl, hb⟩; refine ⟨_, rfl, ?_⟩; have n_ := zo (blk_below (zu BK413.out) hb) (below_step z2v hb); clear BK413 HB; obtain ⟨BK413, HB⟩ := n_; (try clear hb)) | ((with_reducible refine zr 7 rfl ?_); refine zt 25 #[.int .i64 0, .int .i64 0, .int .i64 0, .string ⟨#[]⟩] ?_; intro gb422 hg w25 hbox hb; have n_ := z1b (blk_below (zu BK413.out) hb) (below_step z2v hb) hbox (z8l : w.heap.size ≤ gb422) (z8l : w.heap.size ≤ gb422) (z2w : gb413 ≠ gb422) (z2x : gb422 ≠ gb413); clear BK413 HB; obtain ⟨BK413, HB, BK422, GW422, GE422, NB413_422, NB422_413⟩ := n_; clear hb hbox hg; have hnb26 := NB422_413.out; have hnc26 := NB413_422.out; obtain ⟨hcz27_0, hcz27_1, hcz27_2, hcz27_3, hfz27_0, hfz27_1, hfz27_2, hfz27_3⟩ := zf BK422.out) | (go_at_call 14; (with_reducible refine (impl_EntryName.calls (hG_ := globI_on HG_.out z2j) k t414 t417 t418 t419 t420 t423 _ A5.out).mono ?_); rintro e w28 ⟨rfl, hb⟩; have n_ := z1c (blk_below (g := gb413) (o := .cells #[.string ⟨#[]⟩, .int .i64 0, .int .i64 0, .int .i64 0, .string ⟨#[]⟩] 35 (0, 0)) z2y hb) (blk_below (g := gb422) (o := .cells #[.int .i64 t417, .int .i64 t418, .int .i64 t419, .string t420] 25 (0, 0)) z2z hb) (below_step z3a hb); clear BK413 BK422 HB; obtain ⟨BK413, BK422, HB⟩ := n_; (try clear hb); obtain ⟨hcz29_0, hcz29_1, hcz29_2, hcz29_3, hcz29_4, hfz29_0, hfz29_1, hfz29_2, hfz29_3, hfz29_4⟩ := zg BK413.out))
   refine bodyPost_ret (results_ct rfl _ _ gb413 35 #[.string ⟨#[]⟩, .int .i64 0, .int .i64 0, .int .i64 0, .string ⟨#[]⟩] (0, 0) _ rfl (by (repeat refine z1a ?_); refine blk_put (cs := #[.string ⟨#[]⟩, .int .i64 0, .int .i64 0, .int .i64 0, .string ⟨#[]⟩]) ?_ 4 _ rfl; (repeat refine z1a ?_); refine blk_put (cs := #[.string ⟨#[]⟩, .int .i64 0, .int .i64 0, .int .i64 0, .string ⟨#[]⟩]) ?_ 3 _ rfl; (repeat refine z1a ?_); refine blk_put (cs := #[.string ⟨#[]⟩, .int .i64 0, .int .i64 0, .int .i64 0, .string ⟨#[]⟩]) ?_ 2 _ rfl; (repeat refine z1a ?_); refine blk_put (cs := #[.string ⟨#[]⟩, .int .i64 0, .int .i64 0, .int .i64 0, .string ⟨#[]⟩]) ?_ 1 _ rfl; (repeat refine z1a ?_); refine blk_put (cs := #[.string ⟨#[]⟩, .int .i64 0, .int .i64 0, .int .i64 0, .string ⟨#[]⟩]) ?_ 0 _ rfl; (repeat refine z1a ?_); exact BK413.out) Tryz.underlying35 rfl z1m) rfl ?_
   exact ⟨z1t, z3a⟩
 ·replace c4 := Bool.eq_false_iff.mpr c4
  subst c4
  rw [if_neg zk] at H
  simp only [Option.some.injEq, Prod.mk.injEq] at H
  obtain ⟨rfl, rfl, rfl, rfl, rfl, rfl⟩ := H
  go_enter Tryz.func13, Tryz.ntmps13
  go_wp2_with (first | ((with_reducible refine zr 2 rfl ?_); refine zt 35 #[.string ⟨#[]⟩, .int .i64 0, .int .i64 0, .int .i64 0, .string ⟨#[]⟩] ?_; intro gb413 hg w30 hbox hb; have n_ := zv (below_step z1r hb) hbox (z8j : w.heap.size ≤ gb413) (z8j : w.heap.size ≤ gb413); clear HB; obtain ⟨HB, BK413, GW413, GE413⟩ := n_; clear hb hbox hg) | ((with_reducible refine zi 39 rfl ?_); refine zj (some 11) Tryz.func39 #[.string a0, .string ⟨#[64]⟩] rfl ?_; (with_reducible refine (strings_Cut.calls a0 (⟨#[64]⟩ : ByteArray) t414 t415 t416 _ A2.out).mono ?_); rintro e w' ⟨rfl, ⟨nd, rfl⟩⟩; refine ⟨_, rfl, ?_⟩; (try (rw [drewN_self w30]; generalize hq_ : World.drewN w30 _ = w30; have n0_ : Aside0 (w30.heap[gb413]? = some (.cells #[.string ⟨#[]⟩, .int .i64 0, .int .i64 0, .int .i64 0, .string ⟨#[]⟩] 35 (0, 0))) := ⟨z8m⟩; have n1_ : Aside0 (Below w.heap.size w w30) := ⟨z8n⟩; clear BK413 HB hq_; have BK413 := n0_; have HB := n1_; clear n0_ n1_))) | ((with_reducible refine zi 40 rfl ?_); refine zj (some 17) Tryz.func40 #[.string t415] rfl ?_; (with_reducible refine (impl_ParseVersion.calls (hG_ := globI_on HG_.out z2j) k t415 t417 t418 t419 t420 false _ A3.out).mono ?_); rintro e w31 ⟨rfl, hb⟩; refine ⟨_, rfl, ?_⟩; have n_ := zo (blk_below (zu BK413.out) hb) (below_step z2v hb); clear BK413 HB; obtain ⟨BK413, HB⟩ := n_; (try clear hb)) | ((with_reducible refine zr 7 rfl ?_); refine zt 25 #[.int .i64 0, .int .i64 0, .int .i64 0, .string ⟨#[]⟩] ?_; intro gb422 hg w32 hbox hb; have n_ := z1b (blk_below (zu BK413.out) hb) (below_step z2v hb) hbox (z8l : w.heap.size ≤ gb422) (z8l : w.heap.size ≤ gb422) (z2w : gb413 ≠ gb422) (z2x : gb422 ≠ gb413); clear BK413 HB; obtain ⟨BK413, HB, BK422, GW422, GE422, NB413_422, NB422_413⟩ := n_; clear hb hbox hg; have hnb33 := NB422_413.out; have hnc33 := NB413_422.out; obtain ⟨hcz34_0, hcz34_1, hcz34_2, hcz34_3, hfz34_0, hfz34_1, hfz34_2, hfz34_3⟩ := zf BK422.out; obtain ⟨hcz35_0, hcz35_1, hcz35_2, hcz35_3, hcz35_4, hfz35_0, hfz35_1, hfz35_2, hfz35_3, hfz35_4⟩ := zg BK413.out))
  refine bodyPost_ret (results_ct rfl _ _ gb413 35 #[.string ⟨#[]⟩, .int .i64 0, .int .i64 0, .int .i64 0, .string ⟨#[]⟩] (0, 0) _ rfl (by (repeat refine z1a ?_); refine blk_put (cs := #[.string ⟨#[]⟩, .int .i64 0, .int .i64 0, .int .i64 0, .string ⟨#[]⟩]) ?_ 4 _ rfl; (repeat refine z1a ?_); refine blk_put (cs := #[.string ⟨#[]⟩, .int .i64 0, .int .i64 0, .int .i64 0, .string ⟨#[]⟩]) ?_ 3 _ rfl; (repeat refine z1a ?_); refine blk_put (cs := #[.string ⟨#[]⟩, .int .i64 0, .int .i64 0, .int .i64 0, .string ⟨#[]⟩]) ?_ 2 _ rfl; (repeat refine z1a ?_); refine blk_put (cs := #[.string ⟨#[]⟩, .int .i64 0, .int .i64 0, .int .i64 0, .string ⟨#[]⟩]) ?_ 1 _ rfl; (repeat refine z1a ?_); refine blk_put (cs := #[.string ⟨#[]⟩, .int .i64 0, .int .i64 0, .int .i64 0, .string ⟨#[]⟩]) ?_ 0 _ rfl; (repeat (first | refine z1a ?_ | refine blk_far ?_ NB413_422.out _)); exact BK413.out) Tryz.underlying35 rfl z1m) rfl ?_
  exact ⟨z1t, z3a⟩
mutual
def impl_GetNum.l0 : Nat → List Int → Int → Int → Int → Option (Int × Int × Bool)
 | 0, _, _, _, _ => none
 | k + 1, x0, x1, x7, x8 => if x8 < 5 then (impl_GetNum.j1 k x0 x1 x7 x8 (decide (x1 < (x0.length : Int)))) else (impl_GetNum.j1 k x0 x1 x7 x8 false)
def impl_GetNum.j1 : Nat → List Int → Int → Int → Int → Bool → Option (Int × Int × Bool)
 | 0, _, _, _, _, _ => none
 | k + 1, x0, x1, x7, x8, x23 => if x23 = true then (if 0 ≤ x1 then (if x1 < (x0.length : Int) then (if 0 ≤ (IntKind.u64.wrap (wrap64 (7 * x8))) then (if (wrap64 (rd x0 x1)) < 128 then (if (wrap64 (rd x0 x1)) = 0 then (if x8 > 0 then (some (0, 0, false)) else (if (Go.bits .or .i64 x7 (shl .i64 (Go.bits .and .i64 (wrap64 (rd x0 x1)) 127) (IntKind.u64.wrap (wrap64 (7 * x8))))) > 1000000000 then (some (0, 0, false)) else (some (Go.bits .or .i64 x7 (shl .i64 (Go.bits .and .i64 (wrap64 (rd x0 x1)) 127) (IntKind.u64.wrap (wrap64 (7 * x8)))), wrap64 (x1 + 1), true)))) else (if (Go.bits .or .i64 x7 (shl .i64 (Go.bits .and .i64 (wrap64 (rd x0 x1)) 127) (IntKind.u64.wrap (wrap64 (7 * x8))))) > 1000000000 then (some (0, 0, false)) else (some (Go.bits .or .i64 x7 (shl .i64 (Go.bits .and .i64 (wrap64 (rd x0 x1)) 127) (IntKind.u64.wrap (wrap64 (7 * x8)))), wrap64 (x1 + 1), true)))) else (impl_GetNum.l0 k x0 (wrap64 (x1 + 1)) (Go.bits .or .i64 x7 (shl .i64 (Go.bits .and .i64 (wrap64 (rd x0 x1)) 127) (IntKind.u64.wrap (wrap64 (7 * x8))))) (wrap64 (x8 + 1)))) else (none)) else (none)) else (none)) else (some (0, 0, false))
end
def impl_GetNum.f (k : Nat) (l0 : List Int) (a1 : Int) : Option (Int × Int × Bool) := (impl_inRange.f a1 0 (wrap64 ((l0.length : Int) - 1))).bind fun t424 => (if t424 = true then (impl_GetNum.l0 k l0 a1 0 0) else (some (0, 0, false)))
set_option maxHeartbeats 8000000 in
set_option maxRecDepth 100000 in
theorem impl_GetNum.calls (k : Nat) (A0 : Option Addr) (c0 : Nat) (l0 : List Int) (a1 : Int) (r1 : Int) (r2 : Int) (r3 : Bool) (w : World) (hr0 : Kd.C (Kd.int .u8) w A0 l0.length l0) (hc0 : l0.length ≤ c0) (h : impl_GetNum.f k l0 a1 = some (r1, r2, r3)) :
  Calls Tryz.prog 99 #[.slice A0 l0.length c0, .int .i64 a1] w fun e w' => e = .returned (.tuple #[.int .i64 r1, .int .i64 r2, .bool r3]) ∧ Drawn0 w w' := by
 have HR0 := zn hr0
 have HC0 := zn hc0
 clear hr0 hc0
 have H := h
 unfold impl_GetNum.f at H
 clear h
 obtain ⟨t424, A3, H⟩ := zm H
 try dsimp only at H
 by_cases c4 : t424 = true
 ·subst c4
  rw [if_pos rfl] at H
  have H' := zn H
  clear H
  go_enter Tryz.func99, Tryz.ntmps99
  go_wp2_with (first | ((with_reducible refine zi 97 rfl ?_); refine zj (some 14) Tryz.func97 #[.int .i64 a1, .int .i64 0, .int .i64 (wrap64 ((l0.length : Int) - 1))] rfl ?_; (with_reducible refine (impl_inRange.calls a1 0 (wrap64 ((l0.length : Int) - 1)) true _ A3.out).mono ?_); rintro e w' ⟨rfl, ⟨nd, rfl⟩⟩; refine ⟨_, rfl, ?_⟩))
  go_loopg [1, 7, 8] k (fun kq v1 v7 v8 w' => ∃ (x1_1 : Int) (x7_1 : Int) (x8_1 : Int), v1 = .int .i64 x1_1 ∧ v7 = .int .i64 x7_1 ∧ v8 = .int .i64 x8_1 ∧ Aside0 (impl_GetNum.l0 kq l0 x1_1 x7_1 x8_1 = some (r1, r2, r3)) ∧ Aside0 (kq ≤ k) ∧ Drawn0 w w')
  case atStart => exact ⟨(a1), (0), (0), z1n, z1n, z1n, H', ⟨Nat.le_refl _⟩, z1o⟩
  case round =>
   clear H'
   try clear p2
   try clear c4
   obtain ⟨x1_1, x7_1, x8_1, rfl, rfl, rfl, HA, HK1, ⟨m1, rfl⟩⟩ := hrel
   cases gk with
   | zero => exact absurd HA.out (by simp [impl_GetNum.l0])
   | succ k1 =>
    have H := HA.out
    clear HA
    simp only [impl_GetNum.l0] at H
    have HC5 := zn H
    clear H
    go_upto_region 5 with (fail)
    go_cut [23] (fun v23 wc => ∃ (kq : Nat) (x23_4 : Bool), v23 = .bool x23_4 ∧ Aside0 (impl_GetNum.j1 kq l0 x1_1 x7_1 x8_1 x23_4 = some (r1, r2, r3)) ∧ Aside0 (kq ≤ k1) ∧ Drawn0 w wc)
    case first =>
     have H := HC5.out
     clear HC5
     by_cases c6 : x8_1 < 5
     ·rw [if_pos c6] at H
      have c6b0 := decide_eq_true c6
      clear c6
      (first | rw [c6b0] | (simp only [i64_w, i32_w]; rw [c6b0]) | skip)
      have H' := zn H
      clear H
      go_wp2
      go_meet
      case rel => exact ⟨_, (decide (x1_1 < (l0.length : Int))), z1n, H', ⟨z3b⟩, z1o⟩
     ·rw [if_neg c6] at H
      have c6b0 := decide_eq_false c6
      clear c6
      (first | rw [c6b0] | (simp only [i64_w, i32_w]; rw [c6b0]) | skip)
      have H' := zn H
      clear H
      go_wp2
      go_meet
      case rel => exact ⟨_, (false), z1n, H', ⟨z3b⟩, z1o⟩
    case rest =>
     clear HC5
     try clear p2
     try clear c4
     try clear c6
     try clear c6b0
     try clear p6
     try clear p2
     obtain ⟨kq, x23_4, rfl, HA, HJ4, ⟨mc4, rfl⟩⟩ := hcut
     cases kq with
     | zero => exact absurd HA.out (by simp [impl_GetNum.j1])
     | succ kj4 =>
      have H := HA.out
      clear HA
      simp only [impl_GetNum.j1] at H
      by_cases c7 : x23_4 = true
      ·subst c7
       rw [if_pos rfl] at H
       by_cases c8 : 0 ≤ x1_1
       ·rw [if_pos c8] at H
        have c8b0 := decide_eq_true c8
        clear c8
        by_cases c9 : x1_1 < (l0.length : Int)
        ·rw [if_pos c9] at H
         have c9b0 := decide_eq_true c9
         clear c9
         obtain ⟨ji10, hji10⟩ : ∃ j_ : Int, (IntKind.u64.wrap (wrap64 (7 * x8_1))) = j_ := ⟨_, rfl⟩
         replace H : (if 0 ≤ (ji10) then (if (wrap64 (rd l0 x1_1)) < 128 then (if (wrap64 (rd l0 x1_1)) = 0 then (if x8_1 > 0 then (some (0, 0, false)) else (if (Go.bits .or .i64 x7_1 (shl .i64 (Go.bits .and .i64 (wrap64 (rd l0 x1_1)) 127) (ji10))) > 1000000000 then (some (0, 0, false)) else (some (Go.bits .or .i64 x7_1 (shl .i64 (Go.bits .and .i64 (wrap64 (rd l0 x1_1)) 127) (ji10)), wrap64 (x1_1 + 1), true)))) else (if (Go.bits .or .i64 x7_1 (shl .i64 (Go.bits .and .i64 (wrap64 (rd l0 x1_1)) 127) (ji10))) > 1000000000 then (some (0, 0, false)) else (some (Go.bits .or .i64 x7_1 (shl .i64 (Go.bits .and .i64 (wrap64 (rd l0 x1_1)) 127) (ji10)), wrap64 (x1_1 + 1), true)))) else (impl_GetNum.l0 kj4 l0 (wrap64 (x1_1 + 1)) (Go.bits .or .i64 x7_1 (shl .i64 (Go.bits .and .i64 (wrap64 (rd l0 x1_1)) 127) (ji10))) (wrap64 (x8_1 + 1)))) else (none)) = some (r1, r2, r3) := by first | (rw [hji10] at H; exact H) | (simp only [hji10] at H ⊢; exact H)
         by_cases c11 : 0 ≤ (ji10)
         ·rw [if_pos c11] at H
          have c11b0 := eq_true c11
          have c11b1 := decide_eq_true c11
          clear c11
          obtain ⟨ji12, hji12⟩ : ∃ j_ : Int, (shl .i64 (Go.bits .and .i64 (wrap64 (rd l0 x1_1)) 127) (ji10)) = j_ := ⟨_, rfl⟩
          replace H : (if (wrap64 (rd l0 x1_1)) < 128 then (if (wrap64 (rd l0 x1_1)) = 0 then (if x8_1 > 0 then (some (0, 0, false)) else (if (Go.bits .or .i64 x7_1 (ji12)) > 1000000000 then (some (0, 0, false)) else (some (Go.bits .or .i64 x7_1 (ji12), wrap64 (x1_1 + 1), true)))) else (if (Go.bits .or .i64 x7_1 (ji12)) > 1000000000 then (some (0, 0, false)) else (some (Go.bits .or .i64 x7_1 (ji12), wrap64 (x1_1 + 1), true)))) else (impl_GetNum.l0 kj4 l0 (wrap64 (x1_1 + 1)) (Go.bits .or .i64 x7_1 (ji12)) (wrap64 (x8_1 + 1)))) = some (r1, r2, r3) := by first | (rw [hji12] at H; exact H) | (simp only [hji12] at H ⊢; exact H)
          have hji12_ : (IntKind.i64.wrap ((Go.bits .and .i64 (wrap64 (rd l0 x1_1)) 127) * 2 ^ min (ji10).toNat 64)) = ji12 := hji12
          have hji12z : (ji10) ≤ 64 → (IntKind.i64.wrap ((Go.bits .and .i64 (wrap64 (rd l0 x1_1)) 127) * 2 ^ (ji10).toNat)) = ji12 := shl_small hji12
          have hji12y : (wrap64 ((Go.bits .and .i64 (wrap64 (rd l0 x1_1)) 127) * 2 ^ min (ji10).toNat 64)) = ji12 := (i64_w _).symm.trans hji12_
          have hji12x : (ji10) ≤ 64 → (wrap64 ((Go.bits .and .i64 (wrap64 (rd l0 x1_1)) 127) * 2 ^ (ji10).toNat)) = ji12 := fun h_ => (i64_w _).symm.trans (hji12z h_)
          by_cases c13 : (wrap64 (rd l0 x1_1)) < 128
          ·rw [if_pos c13] at H
           have c13b0 := decide_eq_true c13
           clear c13
           by_cases c14 : (wrap64 (rd l0 x1_1)) = 0
           ·rw [if_pos c14] at H
            have c14b0 := beq_iff_eq.mpr c14
            have c14b1 := bne_eq_false_iff_eq.mpr c14
            clear c14
            by_cases c15 : x8_1 > 0
            ·rw [if_pos c15] at H
             have c15b0 := decide_eq_true c15
             clear c15
             simp only [Option.some.injEq, Prod.mk.injEq] at H
             obtain ⟨rfl, rfl, rfl⟩ := H
             have p425 : 0 ≤ (x1_1 : Int) := of_decide_eq_true z1p
             have q425 : x1_1 < (l0.length : Int) := of_decide_eq_true z1p
             obtain ⟨ad425, e425, hx425_0⟩ := Kd.at_int HR0.out x1_1 p425 q425
             cases e425
             replace p425 := eq_true p425
             replace q425 := eq_true q425
             go_wp2
             go_ret3
             exact ⟨z3c, z1o⟩
            ·rw [if_neg c15] at H
             have c15b0 := decide_eq_false c15
             clear c15
             by_cases c16 : (Go.bits .or .i64 x7_1 (ji12)) > 1000000000
             ·rw [if_pos c16] at H
              have c16b0 := decide_eq_true c16
              clear c16
              simp only [Option.some.injEq, Prod.mk.injEq] at H
              obtain ⟨rfl, rfl, rfl⟩ := H
              have p425 : 0 ≤ (x1_1 : Int) := of_decide_eq_true z1p
              have q425 : x1_1 < (l0.length : Int) := of_decide_eq_true z1p
              obtain ⟨ad425, e425, hx425_0⟩ := Kd.at_int HR0.out x1_1 p425 q425
              cases e425
              replace p425 := eq_true p425
              replace q425 := eq_true q425
              go_wp2
              go_ret3
              exact ⟨z3c, z1o⟩
             ·rw [if_neg c16] at H
              have c16b0 := decide_eq_false c16
              clear c16
              simp only [Option.some.injEq, Prod.mk.injEq] at H
              obtain ⟨rfl, rfl, rfl⟩ := H
              have p425 : 0 ≤ (x1_1 : Int) := of_decide_eq_true z1p
              have q425 : x1_1 < (l0.length : Int) := of_decide_eq_true z1p
              obtain ⟨ad425, e425, hx425_0⟩ := Kd.at_int HR0.out x1_1 p425 q425
              cases e425
              replace p425 := eq_true p425
              replace q425 := eq_true q425
              go_wp2
              go_ret3
              exact ⟨z3c, z1o⟩
           ·rw [if_neg c14] at H
            have c14b0 := beq_eq_false_iff_ne.mpr c14
            have c14b1 := bne_iff_ne.mpr c14
            by_cases c17 : (Go.bits .or .i64 x7_1 (ji12)) > 1000000000
            ·rw [if_pos c17] at H
             have c17b0 := decide_eq_true c17
             clear c17
             simp only [Option.some.injEq, Prod.mk.injEq] at H
             obtain ⟨rfl, rfl, rfl⟩ := H
             have p425 : 0 ≤ (x1_1 : Int) := of_decide_eq_true z1p
             have q425 : x1_1 < (l0.length : Int) := of_decide_eq_true z1p
             obtain ⟨ad425, e425, hx425_0⟩ := Kd.at_int HR0.out x1_1 p425 q425
             cases e425
             replace p425 := eq_true p425
             replace q425 := eq_true q425
             go_wp2
             go_ret3
             exact ⟨z3c, z1o⟩
            ·rw [if_neg c17] at H
             have c17b0 := decide_eq_false c17
             clear c17
             simp only [Option.some.injEq, Prod.mk.injEq] at H
             obtain ⟨rfl, rfl, rfl⟩ := H
             have p425 : 0 ≤ (x1_1 : Int) := of_decide_eq_true z1p
             have q425 : x1_1 < (l0.length : Int) := of_decide_eq_true z1p
             obtain ⟨ad425, e425, hx425_0⟩ := Kd.at_int HR0.out x1_1 p425 q425
             cases e425
             replace p425 := eq_true p425
             replace q425 := eq_true q425
             go_wp2
             go_ret3
             exact ⟨z3c, z1o⟩
          ·rw [if_neg c13] at H
           have c13b0 := decide_eq_false c13
           clear c13
           have H' := zn H
           clear H
           have p425 : 0 ≤ (x1_1 : Int) := of_decide_eq_true z1p
           have q425 : x1_1 < (l0.length : Int) := of_decide_eq_true z1p
           obtain ⟨ad425, e425, hx425_0⟩ := Kd.at_int HR0.out x1_1 p425 q425
           cases e425
           replace p425 := eq_true p425
           replace q425 := eq_true q425
           go_wp2
           go_roundg kj4
           case measure => have := HK1.out; have := HJ4.out; omega
           case rel => exact ⟨(wrap64 (x1_1 + 1)), (Go.bits .or .i64 x7_1 (ji12)), (wrap64 (x8_1 + 1)), z1n, (by first | rfl | (simp; done) | (simp only [← hji12] <;> (first | rfl | simp)) | (simp [*]; done)), z1n, H', ⟨by have := HK1.out; have := HJ4.out; omega⟩, z1o⟩
         ·rw [if_neg c11] at H
          exact absurd H (by simp)
        ·rw [if_neg c9] at H
         exact absurd H (by simp)
       ·rw [if_neg c8] at H
        exact absurd H (by simp)
      ·replace c7 := Bool.eq_false_iff.mpr c7
       subst c7
       rw [if_neg zk] at H
       simp only [Option.some.injEq, Prod.mk.injEq] at H
       obtain ⟨rfl, rfl, rfl⟩ := H
       go_wp2
       go_ret3
       exact ⟨z1n, z1o⟩
 ·replace c4 := Bool.eq_false_iff.mpr c4
  subst c4
  rw [if_neg zk] at H
  simp only [Option.some.injEq, Prod.mk.injEq] at H
  obtain ⟨rfl, rfl, rfl⟩ := H
  go_enter Tryz.func99, Tryz.ntmps99
  go_wp2_with (first | ((with_reducible refine zi 97 rfl ?_); refine zj (some 14) Tryz.func97 #[.int .i64 a1, .int .i64 0, .int .i64 (wrap64 ((l0.length : Int) - 1))] rfl ?_; (with_reducible refine (impl_inRange.calls a1 0 (wrap64 ((l0.length : Int) - 1)) false _ A3.out).mono ?_); rintro e w' ⟨rfl, ⟨nd, rfl⟩⟩; refine ⟨_, rfl, ?_⟩))
  go_ret3
  exact ⟨z1n, z1o⟩
def impl_GetText.f (k : Nat) (l0 : List Int) (a1 : Int) : Option (ByteArray × Int × Bool) := (impl_GetNum.f k l0 a1).bind fun bt426 => (if bt426.2.2 = true then (if bt426.1 > (wrap64 ((l0.length : Int) - bt426.2.1)) then (some ((⟨#[]⟩ : ByteArray), 0, false)) else (if 0 ≤ bt426.2.1 then (if bt426.2.1 ≤ (wrap64 (bt426.2.1 + bt426.1)) then (if (wrap64 (bt426.2.1 + bt426.1)) ≤ (l0.length : Int) then (some (strOfNums ((l0.take ((wrap64 (bt426.2.1 + bt426.1)) : Int).toNat).drop (bt426.2.1 : Int).toNat), wrap64 (bt426.2.1 + bt426.1), true)) else (none)) else (none)) else (none))) else (some ((⟨#[]⟩ : ByteArray), 0, false)))
set_option maxHeartbeats 8000000 in
set_option maxRecDepth 100000 in
theorem impl_GetText.calls (k : Nat) (A0 : Option Addr) (c0 : Nat) (l0 : List Int) (a1 : Int) (r1 : ByteArray) (r2 : Int) (r3 : Bool) (w : World) (hr0 : Kd.C (Kd.int .u8) w A0 l0.length l0) (hc0 : l0.length ≤ c0) (h : impl_GetText.f k l0 a1 = some (r1, r2, r3)) :
  Calls Tryz.prog 72 #[.slice A0 l0.length c0, .int .i64 a1] w fun e w' => e = .returned (.tuple #[.string r1, .int .i64 r2, .bool r3]) ∧ Drawn0 w w' := by
 have HR0 := zn hr0
 have HC0 := zn hc0
 clear hr0 hc0
 have H := h
 unfold impl_GetText.f at H
 clear h
 obtain ⟨⟨t426, t427, t428⟩, A3, H⟩ := zm H
 try dsimp only at H
 by_cases c4 : t428 = true
 ·subst c4
  rw [if_pos rfl] at H
  by_cases c5 : t426 > (wrap64 ((l0.length : Int) - t427))
  ·rw [if_pos c5] at H
   have c5b0 := decide_eq_true c5
   clear c5
   simp only [Option.some.injEq, Prod.mk.injEq] at H
   obtain ⟨rfl, rfl, rfl⟩ := H
   go_enter Tryz.func72, Tryz.ntmps72
   go_wp2_with (first | ((with_reducible refine zi 99 rfl ?_); refine zj (some 13) Tryz.func99 #[.slice A0 l0.length c0, .int .i64 a1] rfl ?_; (with_reducible refine (impl_GetNum.calls k _ _ l0 a1 t426 t427 true _ ?side1 ?side2 A3.out).mono ?_); (case side1 => exact z3d); (case side2 => exact HC0.out); rintro e w' ⟨rfl, ⟨nd, rfl⟩⟩; refine ⟨_, rfl, ?_⟩))
   go_ret3
   exact ⟨z1n, z1o⟩
  ·rw [if_neg c5] at H
   have c5b0 := decide_eq_false c5
   clear c5
   by_cases c6 : 0 ≤ t427
   ·rw [if_pos c6] at H
    have c6b0 := eq_true c6
    have c6b1 := decide_eq_true c6
    clear c6
    by_cases c7 : t427 ≤ (wrap64 (t427 + t426))
    ·rw [if_pos c7] at H
     have c7b0 := eq_true c7
     have c7b1 := decide_eq_true c7
     by_cases c8 : (wrap64 (t427 + t426)) ≤ (l0.length : Int)
     ·rw [if_pos c8] at H
      have c8b0 := eq_true c8
      have c8b1 := decide_eq_true c8
      simp only [Option.some.injEq, Prod.mk.injEq] at H
      obtain ⟨rfl, rfl, rfl⟩ := H
      go_enter Tryz.func72, Tryz.ntmps72
      go_wp2_with (first | ((with_reducible refine zi 99 rfl ?_); refine zj (some 13) Tryz.func99 #[.slice A0 l0.length c0, .int .i64 a1] rfl ?_; (with_reducible refine (impl_GetNum.calls k _ _ l0 a1 t426 t427 true _ ?side1 ?side2 A3.out).mono ?_); (case side1 => exact z3d); (case side2 => exact HC0.out); rintro e w' ⟨rfl, ⟨nd, rfl⟩⟩; refine ⟨_, rfl, ?_⟩; obtain ⟨i09, hi09, _, hsz9, _⟩ := info_parts info5; obtain ⟨A9, hcut9, hA9, hC9⟩ := print_mid_of (P := Tryz.prog) (Value.int .u8) 0 22 5 .i64 .i64 Tryz.underlying22 hi09 hsz9 A0 c0 l0 t427 (wrap64 (t427 + t426)) (of_decide_eq_true z1p) (by first | omega | exact of_decide_eq_true z1p) (of_decide_eq_true z1p) HC0.out; have HR429 := zn (Kd.C_of_reads (h1 := fun _ => rfl) (hA9 _ (Kd.reads_of_C HR0.out))); have HC429 := zn hC9; clear hA9 hC9 hi09 hsz9; have hcv10 := Kd.C_string (P := Tryz.prog) (A := A9) (c := (c0 - t427.toNat)) Tryz.underlying22 Tryz.underlying5 Tryz.underlying9 HR429.out; have hcv11 : ∀ (n_ : Nat), n_ = ((l0.take ((wrap64 (t427 + t426)) : Int).toNat).drop (t427 : Int).toNat).length → ∀ m_, (convert 22 9 (.slice A9 n_ (c0 - t427.toNat))).run Tryz.prog (w.drewN m_) = .ok (.string (strOfNums ((l0.take ((wrap64 (t427 + t426)) : Int).toNat).drop (t427 : Int).toNat))) (w.drewN m_) := fun n_ hn_ m_ => hn_ ▸ Kd.C_string (P := Tryz.prog) (A := A9) (c := (c0 - t427.toNat)) Tryz.underlying22 Tryz.underlying5 Tryz.underlying9 (Kd.C_drewN HR429.out m_)))
      go_ret3
      exact ⟨z1n, z1o⟩
     ·rw [if_neg c8] at H
      exact absurd H (by simp)
    ·rw [if_neg c7] at H
     exact absurd H (by simp)
   ·rw [if_neg c6] at H
    exact absurd H (by simp)
 ·replace c4 := Bool.eq_false_iff.mpr c4
  subst c4
  rw [if_neg zk] at H
  simp only [Option.some.injEq, Prod.mk.injEq] at H
  obtain ⟨rfl, rfl, rfl⟩ := H
  go_enter Tryz.func72, Tryz.ntmps72
  go_wp2_with (first | ((with_reducible refine zi 99 rfl ?_); refine zj (some 13) Tryz.func99 #[.slice A0 l0.length c0, .int .i64 a1] rfl ?_; (with_reducible refine (impl_GetNum.calls k _ _ l0 a1 t426 t427 false _ ?side1 ?side2 A3.out).mono ?_); (case side1 => exact z3d); (case side2 => exact HC0.out); rintro e w' ⟨rfl, ⟨nd, rfl⟩⟩; refine ⟨_, rfl, ?_⟩))
  go_ret3
  exact ⟨z1n, z1o⟩
end Go.Proofs.YtgdknepphkhnlaaGreatDoor.X

/- A string made a row of bytes of its own ('[]byte(s)'), as an event of a walk: the row is read from then on; its block is new. No conditions beyond what each lemma names. -/
set_option linter.unusedVariables false
namespace Go.Proofs.YtgdknepphkhnlaaGreatDoor.Y
open Go.RowKit Go.Proofs.YtgdknepphkhnlaaGreatDoorW.PrintWords
theorem bytes_get (s : ByteArray) (j : Nat) (hj : j < s.size) : (Value.int .u8 ((s.data.toList.getD j 0).toNat : Nat)) = Value.int .u8 ((bytesOf s).getD j 0) := by
 have h : j < s.data.toList.length := by rw [Array.length_toList]; exact hj
 simp [bytesOf, List.getD_eq_getElem?_getD, List.getElem?_eq_getElem h]
theorem conv_reads (w : World) (e : TypeId) (s : ByteArray) (h : s.size ≤ 9223372036854775807) : (Kd.int .u8).C (Lib.bytesWorld w e s) (some ⟨w.heap.size, 0, none⟩) (bytesOf s).length (bytesOf s) := by
 refine Kd.C_of_reads (d := (0 : Int)) (h1 := fun _ => rfl) ⟨rfl, by rw [bytesOf_length]; exact h, fun _ => ⟨_, rfl, fun j hj => ?_⟩⟩
 rw [bytesOf_length] at hj
 rw [add_plain, Lib.bytesWorld_cell w e s j hj, bytes_get s j hj]
theorem conv_below (w : World) (e : TypeId) (s : ByteArray) : Below w.heap.size w (Lib.bytesWorld w e s) :=
 ⟨rfl, rfl, rfl, by rw [Lib.bytesWorld_size]; omega, fun k hk => Lib.bytesWorld_at_old w e s k hk⟩
theorem conv_far {w : World} {A : Option Addr} {n : Nat} {xs : List Int} (h : (Kd.int .u8).C w A n xs) : ∀ ad, A = some ad → 0 < n → ad.block < w.heap.size := by
 intro ad ha hn
 obtain ⟨ad', e, hc⟩ := (Kd.reads_of_C (d := (0 : Int)) (h1 := fun _ => rfl) h).2.2 hn
 have e2 : ad = ad' := Option.some.inj (ha.symm.trans e)
 subst e2
 have := World.block_lt_of_cell? w _ (hc 0 hn)
 rwa [add_block] at this
section
variable {P : Program} {ops : Array Oper} {rest : List Oper} {o : Oper} {a : Act} {Q : Exit → Act → World → Prop}
theorem conv_event {W : World} (hgd : o.guard = none) {N : Tmp} (hd : o.dst = some N) (src dst e : TypeId) (x : Operand) (ho : o.op = .convert src dst x) (s : ByteArray) (hx : a.eval x = .string s)
  (hs : P.underlying src = some .string) (ht : P.underlying dst = some (.slice e)) (he : P.underlying e = some (.int .u8)) (y : List Int) (hy : y = bytesOf s) (hm : s.size ≤ 9223372036854775807)
  (h : ∀ A c w1, (Kd.int .u8).C w1 A y.length y → y.length ≤ c → Below W.heap.size W w1 → wpList P ops Q rest (a.put o.dst (.slice A y.length c)) w1) : wpList P ops Q (o :: rest) a W := by
 subst hy
 refine Kd.event_run hgd (w1 := Lib.bytesWorld W e s) (v := .slice (some ⟨W.heap.size, 0, none⟩) (bytesOf s).length (grownCap W s.size 0 e)) ?_ (h _ _ _ (conv_reads W e s hm) ?_ (conv_below W e s))
 ·have hr := Lib.run_convert_string_bytes (P := P) W src dst e s hs ht he
  rw [bytesOf_length]
  simp [execOp, ho, hx, hr]
 ·rw [bytesOf_length]
  exact grownCap_ge W s.size 0 e
end
end Go.Proofs.YtgdknepphkhnlaaGreatDoor.Y

/- Small lemmas for a struct of three cells whose methods change nothing below its block. No conditions beyond what each names. -/
set_option linter.unusedVariables false
namespace Go.Proofs.YtgdknepphkhnlaaGreatDoor.Gt
open Go.RowKit Go.Proofs.YtgdknepphkhnlaaGreatDoorW.PrintWords
theorem three {w : World} {g : Nat} {T : TypeId} {x0 x1 x2 : Value} (h : w.heap[g]? = some (.cells #[x0, x1, x2] T (0, 0))) :
  w.cell? ⟨g, 0, none⟩ = some x0 ∧ w.cell? ⟨g, 1, none⟩ = some x1 ∧ w.cell? ⟨g, 2, none⟩ = some x2 ∧ w.frozen? ⟨g, 1, none⟩ = false ∧ w.frozen? ⟨g, 2, none⟩ = false := ⟨(blk_cell h 0).trans rfl, (blk_cell h 1).trans rfl, (blk_cell h 2).trans rfl, blk_frozen h 1, blk_frozen h 2⟩
theorem C_far {w W : World} {A : Option Addr} {n : Nat} {xs : List Int} (h : (Kd.int .u8).C w A n xs) (hb : ∀ ad, A = some ad → 0 < n → W.heap[ad.block]? = w.heap[ad.block]?) : (Kd.int .u8).C W A n xs := by
 have hr := Kd.reads_of_C (d := (0 : Int)) (h1 := fun _ => rfl) h
 refine Kd.C_of_reads (d := (0 : Int)) (h1 := fun _ => rfl) ⟨hr.1, hr.2.1, fun hn => ?_⟩
 obtain ⟨ad, e, hc⟩ := hr.2.2 hn
 refine ⟨ad, e, fun j hj => (World.cell?_of_block ?_).trans (hc j hj)⟩
 rw [add_block]
 exact hb ad e hn
theorem C_set {w : World} {A : Option Addr} {n : Nat} {xs : List Int} {g j : Nat} {u : Value} (h : (Kd.int .u8).C w A n xs) (hf : ∀ ad, A = some ad → 0 < n → ad.block < g) : (Kd.int .u8).C (w.setCell ⟨g, j, none⟩ u) A n xs :=
 C_far h (fun ad e hn => Below.heap_setCell w ⟨g, j, none⟩ u ad.block (Nat.ne_of_lt (hf ad e hn)))
theorem C_low {G : Nat} {W w2 : World} {A : Option Addr} {n : Nat} {xs : List Int} (h : (Kd.int .u8).C W A n xs) (hf : ∀ ad, A = some ad → 0 < n → ad.block < G) (k : Below G W w2) : (Kd.int .u8).C w2 A n xs :=
 C_far h (fun ad e hn => k.block _ (hf ad e hn))
theorem blk_low {G a : Nat} {W w2 : World} {o : Obj} (k : Below G W w2) (h : W.heap[a]? = some o) (hlt : a < G) : w2.heap[a]? = some o := (k.block a hlt).trans h
theorem below_low {B G : Nat} {w W w2 : World} (h : Below B w W) (hG : B ≤ G) (k : Below G W w2) : Below B w w2 := h.trans ⟨k.os, k.tape, k.output, k.size, fun i hi => k.block i (Nat.lt_of_lt_of_le hi hG)⟩
end Go.Proofs.YtgdknepphkhnlaaGreatDoor.Gt

namespace Go.Proofs.YtgdknepphkhnlaaGreatDoor.X
open Go.RowKit Go.Proofs.YtgdknepphkhnlaaGreatDoorW.PrintWords Go.Proofs.YtgdknepphkhnlaaGreatDoorW.PrintLast Go.Proofs.YtgdknepphkhnlaaGreatDoorW.PrintMore
attribute [local go_sem] max2_int min2_int max_two min_two max_three min_three max_four min_four
set_option linter.unusedVariables false
set_option linter.unusedSimpArgs false
def impl_getter_text.f (k : Nat) (b : List Int) (i : Int) (bad : Bool) : Option (ByteArray × Int × Bool) := (impl_GetText.f k b i).bind fun t => (if bad = true then (some ((⟨#[]⟩ : ByteArray), i, true)) else (if t.2.2 = true then (some (t.1, t.2.1, false)) else (some ((⟨#[]⟩ : ByteArray), i, true))))
set_option maxHeartbeats 2000000 in
set_option maxRecDepth 100000 in
theorem impl_getter_text.calls (k G : Nat) (A : Option Addr) (c : Nat) (b : List Int) (i : Int) (bad : Bool) (s : ByteArray) (i' : Int) (bad' : Bool) (w : World) (hG : w.heap[G]? = some (.cells #[.slice A b.length c, .int .i64 i, .bool bad] 62 (0, 0)))
  (hC : Kd.C (Kd.int .u8) w A b.length b) (hc : b.length ≤ c) (h : impl_getter_text.f k b i bad = some (s, i', bad')) :
  Calls Tryz.prog 37 #[.pointer (some ⟨G, 0, none⟩)] w fun e w' => e = .returned (.string s) ∧ w'.heap[G]? = some (.cells #[.slice A b.length c, .int .i64 i', .bool bad'] 62 (0, 0)) ∧ Below G w w' := by
 have HG := zn hG
 have HC := zn hC
 have HR := zn hc
 have HB := zn (Below.refl G w)
 obtain ⟨z0, z1, z2, f1, f2⟩ := Gt.three hG
 clear hG hC hc
 obtain ⟨⟨t1, t2, t3⟩, a1, h⟩ := Option.bind_eq_some_iff.mp h
 have A1 := zn a1
 clear a1
 cases bad with
 | true =>
  simp only [if_true, Option.some.injEq, Prod.mk.injEq] at h
  obtain ⟨rfl, rfl, rfl⟩ := h
  go_enter Tryz.func37, Tryz.ntmps37
  go_wp2_with (first | (go_at_call 72; (with_reducible refine (impl_GetText.calls k A c b i t1 t2 t3 _ ?side1 ?side2 A1.out).mono ?_); (case side1 => exact z3e); (case side2 => exact HR.out); rintro e w' ⟨rfl, ⟨nd, rfl⟩⟩; (try first | exact ⟨rfl, _, World.drewN_drewN _ _ _⟩ | exact ⟨rfl, _, Eq.trans (World.drewN_drewN _ _ _) (congrArg (World.drewN _) (Nat.add_assoc _ _ _))⟩)))
  repeat (go_quiet (first | (go_at_call 72; (with_reducible refine (impl_GetText.calls k A c b i t1 t2 t3 _ ?side1 ?side2 A1.out).mono ?_); (case side1 => exact z3e); (case side2 => exact HR.out); rintro e w' ⟨rfl, ⟨nd, rfl⟩⟩; (try first | exact ⟨rfl, _, World.drewN_drewN _ _ _⟩ | exact ⟨rfl, _, Eq.trans (World.drewN_drewN _ _ _) (congrArg (World.drewN _) (Nat.add_assoc _ _ _))⟩))); try go_wp2_with (first | (go_at_call 72; (with_reducible refine (impl_GetText.calls k A c b i t1 t2 t3 _ ?side1 ?side2 A1.out).mono ?_); (case side1 => exact z3e); (case side2 => exact HR.out); rintro e w' ⟨rfl, ⟨nd, rfl⟩⟩; (try first | exact ⟨rfl, _, World.drewN_drewN _ _ _⟩ | exact ⟨rfl, _, Eq.trans (World.drewN_drewN _ _ _) (congrArg (World.drewN _) (Nat.add_assoc _ _ _))⟩))))
  go_ret
  exact ⟨rfl, blk_put (by exact HG.out) 2 _ rfl, (pw_below_drewN HB.out _).setCell (p := ⟨G, 2, none⟩) (Nat.le_refl _) _⟩
 | false =>
  simp only [Bool.false_eq_true, if_false] at h
  by_cases c3 : t3 = true
  ·subst c3
   simp only [if_true, Option.some.injEq, Prod.mk.injEq] at h
   obtain ⟨rfl, rfl, rfl⟩ := h
   go_enter Tryz.func37, Tryz.ntmps37
   go_wp2_with (first | (go_at_call 72; (with_reducible refine (impl_GetText.calls k A c b i t1 t2 true _ ?side1 ?side2 A1.out).mono ?_); (case side1 => exact z3e); (case side2 => exact HR.out); rintro e w' ⟨rfl, ⟨nd, rfl⟩⟩; (try first | exact ⟨rfl, _, World.drewN_drewN _ _ _⟩ | exact ⟨rfl, _, Eq.trans (World.drewN_drewN _ _ _) (congrArg (World.drewN _) (Nat.add_assoc _ _ _))⟩)))
   repeat (go_quiet (first | (go_at_call 72; (with_reducible refine (impl_GetText.calls k A c b i t1 t2 true _ ?side1 ?side2 A1.out).mono ?_); (case side1 => exact z3e); (case side2 => exact HR.out); rintro e w' ⟨rfl, ⟨nd, rfl⟩⟩; (try first | exact ⟨rfl, _, World.drewN_drewN _ _ _⟩ | exact ⟨rfl, _, Eq.trans (World.drewN_drewN _ _ _) (congrArg (World.drewN _) (Nat.add_assoc _ _ _))⟩))); try go_wp2_with (first | (go_at_call 72; (with_reducible refine (impl_GetText.calls k A c b i t1 t2 true _ ?side1 ?side2 A1.out).mono ?_); (case side1 => exact z3e); (case side2 => exact HR.out); rintro e w' ⟨rfl, ⟨nd, rfl⟩⟩; (try first | exact ⟨rfl, _, World.drewN_drewN _ _ _⟩ | exact ⟨rfl, _, Eq.trans (World.drewN_drewN _ _ _) (congrArg (World.drewN _) (Nat.add_assoc _ _ _))⟩))))
   go_ret
   exact ⟨rfl, blk_put (by exact HG.out) 1 _ rfl, (pw_below_drewN HB.out _).setCell (p := ⟨G, 1, none⟩) (Nat.le_refl _) _⟩
  ·have e3 : t3 = false := by simpa using c3
   subst e3
   simp only [Bool.false_eq_true, if_false, Option.some.injEq, Prod.mk.injEq] at h
   obtain ⟨rfl, rfl, rfl⟩ := h
   go_enter Tryz.func37, Tryz.ntmps37
   go_wp2_with (first | (go_at_call 72; (with_reducible refine (impl_GetText.calls k A c b i t1 t2 false _ ?side1 ?side2 A1.out).mono ?_); (case side1 => exact z3e); (case side2 => exact HR.out); rintro e w' ⟨rfl, ⟨nd, rfl⟩⟩; (try first | exact ⟨rfl, _, World.drewN_drewN _ _ _⟩ | exact ⟨rfl, _, Eq.trans (World.drewN_drewN _ _ _) (congrArg (World.drewN _) (Nat.add_assoc _ _ _))⟩)))
   repeat (go_quiet (first | (go_at_call 72; (with_reducible refine (impl_GetText.calls k A c b i t1 t2 false _ ?side1 ?side2 A1.out).mono ?_); (case side1 => exact z3e); (case side2 => exact HR.out); rintro e w' ⟨rfl, ⟨nd, rfl⟩⟩; (try first | exact ⟨rfl, _, World.drewN_drewN _ _ _⟩ | exact ⟨rfl, _, Eq.trans (World.drewN_drewN _ _ _) (congrArg (World.drewN _) (Nat.add_assoc _ _ _))⟩))); try go_wp2_with (first | (go_at_call 72; (with_reducible refine (impl_GetText.calls k A c b i t1 t2 false _ ?side1 ?side2 A1.out).mono ?_); (case side1 => exact z3e); (case side2 => exact HR.out); rintro e w' ⟨rfl, ⟨nd, rfl⟩⟩; (try first | exact ⟨rfl, _, World.drewN_drewN _ _ _⟩ | exact ⟨rfl, _, Eq.trans (World.drewN_drewN _ _ _) (congrArg (World.drewN _) (Nat.add_assoc _ _ _))⟩))))
   go_ret
   exact ⟨rfl, blk_put (by exact HG.out) 2 _ rfl, (pw_below_drewN HB.out _).setCell (p := ⟨G, 2, none⟩) (Nat.le_refl _) _⟩
mutual
def impl_GetTexts.j0 : Nat → List Int → Int → Int → Bool → Option (List ByteArray × Int × Bool)
 | 0, _, _, _, _ => none
 | k + 1, x0, x7, x8, x26 => if x26 = true then (some (([] : List ByteArray), 0, false)) else (impl_GetTexts.l0 k x0 x8 ([] : List ByteArray) x7 0)
def impl_GetTexts.l0 : Nat → List Int → Int → List ByteArray → Int → Int → Option (List ByteArray × Int × Bool)
 | 0, _, _, _, _, _ => none
 | k + 1, x0, x8, x10, x27, x28 => if x28 < x27 then ((impl_GetText.f k x0 x8).bind fun bt433 => (if bt433.2.2 = true then (if x10.length < 8796093022208 then (impl_GetTexts.l0 k x0 bt433.2.1 (x10 ++ [bt433.1]) x27 (wrap64 (x28 + 1))) else (none)) else (some (([] : List ByteArray), 0, false)))) else (some (x10, x8, true))
end
def impl_GetTexts.f (k : Nat) (l0 : List Int) (a1 : Int) : Option (List ByteArray × Int × Bool) := (impl_GetNum.f k l0 a1).bind fun bt430 => (if bt430.2.2 = true then (impl_GetTexts.j0 k l0 bt430.1 bt430.2.1 (decide (bt430.1 > 200))) else (impl_GetTexts.j0 k l0 bt430.1 bt430.2.1 true))
set_option maxHeartbeats 8000000 in
set_option maxRecDepth 100000 in
theorem impl_GetTexts.calls (k : Nat) (A0 : Option Addr) (c0 : Nat) (l0 : List Int) (a1 : Int) (r1 : List ByteArray) (r2 : Int) (r3 : Bool) (w : World) (hr0 : Kd.C (Kd.int .u8) w A0 l0.length l0) (hc0 : l0.length ≤ c0) (h : impl_GetTexts.f k l0 a1 = some (r1, r2, r3)) :
  Calls Tryz.prog 73 #[.slice A0 l0.length c0, .int .i64 a1] w fun e w' => ∃ v0_ : Value, e = .returned (.tuple #[v0_, .int .i64 r2, .bool r3]) ∧ Kd.R Kd.string 9 w' w.heap.size (fun _ => True) v0_ r1 ∧ Below w.heap.size w w' := by
 have HR0 := zn hr0
 have HC0 := zn hc0
 clear hr0 hc0
 have HB := zn (Below.refl w.heap.size w)
 have H := h
 unfold impl_GetTexts.f at H
 clear h
 obtain ⟨⟨t430, t431, t432⟩, A3, H⟩ := zm H
 try dsimp only at H
 have HC4 := zn H
 clear H
 go_enter Tryz.func73, Tryz.ntmps73
 go_upto_region 2 with (first | ((with_reducible refine zi 99 rfl ?_); refine zj (some 17) Tryz.func99 #[.slice A0 l0.length c0, .int .i64 a1] rfl ?_; (with_reducible refine (impl_GetNum.calls k _ _ l0 a1 t430 t431 t432 _ ?side1 ?side2 A3.out).mono ?_); (case side1 => exact z3d); (case side2 => exact HC0.out); rintro e w' ⟨rfl, ⟨nd, rfl⟩⟩; refine ⟨_, rfl, ?_⟩))
 (try simp only [Act.put, z9e, z9f, z9g])
 go_cut [26] (fun v26 wc => ∃ (kq : Nat) (x26_3 : Bool), v26 = .bool x26_3 ∧ Aside0 (impl_GetTexts.j0 kq l0 t430 t431 x26_3 = some (r1, r2, r3)) ∧ Aside0 (kq ≤ k) ∧ Aside0 (Below w.heap.size w wc))
 case first =>
  have H := HC4.out
  clear HC4
  by_cases c5 : t432 = true
  ·subst c5
   rw [if_pos rfl] at H
   have H' := zn H
   clear H
   go_wp2
   go_meet
   case rel => exact ⟨_, (decide (t430 > 200)), z1n, H', ⟨z1v⟩, ⟨z1r⟩⟩
  ·replace c5 := Bool.eq_false_iff.mpr c5
   subst c5
   rw [if_neg zk] at H
   have H' := zn H
   clear H
   go_wp2
   go_meet
   case rel => exact ⟨_, (true), z1n, H', ⟨z1v⟩, ⟨z1r⟩⟩
 case rest =>
  clear HC4
  try clear p2
  try clear c5
  obtain ⟨kq, x26_3, rfl, HA, HJ3, HB⟩ := hcut
  cases kq with
  | zero => exact absurd HA.out (by simp [impl_GetTexts.j0])
  | succ kj3 =>
   have H := HA.out
   clear HA
   simp only [impl_GetTexts.j0] at H
   by_cases c6 : x26_3 = true
   ·subst c6
    rw [if_pos rfl] at H
    simp only [Option.some.injEq, Prod.mk.injEq] at H
    obtain ⟨rfl, rfl, rfl⟩ := H
    go_wp2
    go_ret3
    exact ⟨_, z1t, z2p, z1r⟩
   ·replace c6 := Bool.eq_false_iff.mpr c6
    subst c6
    rw [if_neg zk] at H
    have H' := zn H
    clear H
    go_wp2
    go_loopg [8, 10, 28] kj3 (fun kq v8 v10 v28 w' => ∃ (x8_2 : Int) (x10_2 : List ByteArray) (x28_2 : Int), v8 = .int .i64 x8_2 ∧ v28 = .int .i64 x28_2 ∧ Aside0 (impl_GetTexts.l0 kq l0 x8_2 x10_2 t430 x28_2 = some (r1, r2, r3)) ∧ Aside0 (kq ≤ kj3) ∧ Aside0 (Kd.R Kd.string 9 w' w.heap.size (fun _ => True) v10 x10_2) ∧ Aside0 (Below w.heap.size w w'))
    case atStart => exact ⟨(t431), (([] : List ByteArray)), (0), z1n, z1n, H', ⟨Nat.le_refl _⟩, ⟨z2p⟩, ⟨z1r⟩⟩
    case round =>
     clear H'
     try clear p2
     try clear c5
     try clear c6
     try clear p2
     obtain ⟨x8_2, x10_2, x28_2, rfl, rfl, HA, HK2, HO_10, HB⟩ := hrel
     cases gk with
     | zero => exact absurd HA.out (by simp [impl_GetTexts.l0])
     | succ k2 =>
      have H := HA.out
      clear HA
      simp only [impl_GetTexts.l0] at H
      by_cases c7 : x28_2 < t430
      ·rw [if_pos c7] at H
       have c7b0 := decide_eq_true c7
       clear c7
       obtain ⟨⟨t433, t434, t435⟩, A8, H⟩ := zm H
       try dsimp only at H
       by_cases c9 : t435 = true
       ·subst c9
        rw [if_pos rfl] at H
        by_cases c10 : x10_2.length < 8796093022208
        ·rw [if_pos c10] at H
         have LMc10 := zn c10
         clear c10
         obtain ⟨y436, hy436⟩ : ∃ y_ : List ByteArray, y_ = (x10_2 ++ [t433]) := ⟨_, rfl⟩
         replace H : (impl_GetTexts.l0 k2 l0 t434 y436 t430 (wrap64 (x28_2 + 1))) = some (r1, r2, r3) := by first | (rw [hy436]; with_reducible exact H) | (have H2_ := (Option.bind_some _ _).symm.trans H; rw [hy436]; with_reducible exact H2_) | (have H2_ := (Option.bind_some _ _).symm.trans H; with_reducible exact H2_) | with_reducible exact H | (rw [hy436]; exact H) | exact H
         have Ny436 := zn hy436
         clear hy436
         have H' := zn H
         clear H
         go_wp2_with (first | ((with_reducible refine zi 72 rfl ?_); refine zj (some 33) Tryz.func72 #[.slice A0 l0.length c0, .int .i64 x8_2] rfl ?_; (with_reducible refine (impl_GetText.calls k2 _ _ l0 x8_2 t433 t434 true _ ?side1 ?side2 A8.out).mono ?_); (case side1 => exact z3g); (case side2 => exact HC0.out); rintro e w' ⟨rfl, ⟨nd, rfl⟩⟩; refine ⟨_, rfl, ?_⟩) | ((with_reducible refine gate_builtin (b := .append) (xs := #[.tmp 39, .tmp 41]) rfl ?_); at_builtin; refine Kd.R_append Kd.string (w0 := w) w.heap.size rfl (.tmp 39) (.tmp 41) 55 9 (.string ⟨#[]⟩) 16 rfl Tryz.underlying55 info9 rfl z1l z1k u10 x10_2 t433 [.string t433] (fun _ => True) (fun _ => False) rfl rfl ?aP (fun _ hk => hk.elim) ?aF ?aO ?aB ?aS ?aL ?_; (case aP => exact rfl); (case aB => exact z1r); (case aF => exact (fun _ _ => trivial)); (case aO => exact z3f); (case aS => exact (below_size z1r)); (case aL => have := LMc10.out; omega); intro v437 w11 ho hb hg hat; rw [← Ny436.out] at ho; have n_ := zo hb ho; clear HB HO_10; obtain ⟨HB, HO438⟩ := n_; clear ho hb hg hat))
         go_roundg k2
         case measure => have := HJ3.out; have := HK2.out; omega
         case rel => exact ⟨(t434), (y436), (wrap64 (x28_2 + 1)), z1n, z1n, H', ⟨by have := HJ3.out; have := HK2.out; omega⟩, ⟨by (with_reducible repeat (first | apply Kd.R_alloc | apply Kd.R_drewN | apply Kd.R_drew)); exact HO438.out⟩, ⟨z1r⟩⟩
        ·rw [if_neg c10] at H
         exact absurd H (by simp)
       ·replace c9 := Bool.eq_false_iff.mpr c9
        subst c9
        rw [if_neg zk] at H
        simp only [Option.some.injEq, Prod.mk.injEq] at H
        obtain ⟨rfl, rfl, rfl⟩ := H
        go_wp2_with (first | ((with_reducible refine zi 72 rfl ?_); refine zj (some 33) Tryz.func72 #[.slice A0 l0.length c0, .int .i64 x8_2] rfl ?_; (with_reducible refine (impl_GetText.calls k2 _ _ l0 x8_2 t433 t434 false _ ?side1 ?side2 A8.out).mono ?_); (case side1 => exact z3g); (case side2 => exact HC0.out); rintro e w' ⟨rfl, ⟨nd, rfl⟩⟩; refine ⟨_, rfl, ?_⟩))
        go_ret3
        exact ⟨_, z1t, z2p, z1r⟩
      ·rw [if_neg c7] at H
       have c7b0 := decide_eq_false c7
       clear c7
       simp only [Option.some.injEq, Prod.mk.injEq] at H
       obtain ⟨rfl, rfl, rfl⟩ := H
       go_wp2
       go_ret3
       exact ⟨_, z1t, z3f, z1r⟩
def impl_getter_texts.f (k : Nat) (b : List Int) (i : Int) (bad : Bool) : Option (List ByteArray × Int × Bool) := (impl_GetTexts.f k b i).bind fun t => (if bad = true then (some (([] : List ByteArray), i, true)) else (if t.2.2 = true then (some (t.1, t.2.1, false)) else (some (([] : List ByteArray), i, true))))
set_option maxHeartbeats 2000000 in
set_option maxRecDepth 100000 in
theorem impl_getter_texts.calls (k G : Nat) (A : Option Addr) (c : Nat) (b : List Int) (i : Int) (bad : Bool) (s : List ByteArray) (i' : Int) (bad' : Bool) (w : World) (hG : w.heap[G]? = some (.cells #[.slice A b.length c, .int .i64 i, .bool bad] 62 (0, 0)))
  (hC : Kd.C (Kd.int .u8) w A b.length b) (hc : b.length ≤ c) (h : impl_getter_texts.f k b i bad = some (s, i', bad')) :
  Calls Tryz.prog 38 #[.pointer (some ⟨G, 0, none⟩)] w fun e w' => ∃ v : Value, e = .returned v ∧ Kd.R Kd.string 9 w' w.heap.size (fun _ => True) v s ∧ w'.heap[G]? = some (.cells #[.slice A b.length c, .int .i64 i', .bool bad'] 62 (0, 0)) ∧ Below G w w' := by
 have HG := zn hG
 have HC := zn hC
 have HR := zn hc
 have HB := zn (Below.refl G w)
 have HLt := zn (blk_lt hG)
 have HL := zn (Nat.le_of_lt (blk_lt hG))
 obtain ⟨z0, z1, z2, f1, f2⟩ := Gt.three hG
 clear hG hC hc
 obtain ⟨⟨t1, t2, t3⟩, a1, h⟩ := Option.bind_eq_some_iff.mp h
 have A1 := zn a1
 clear a1
 cases bad with
 | true =>
  simp only [if_true, Option.some.injEq, Prod.mk.injEq] at h
  obtain ⟨rfl, rfl, rfl⟩ := h
  go_enter Tryz.func38, Tryz.ntmps38
  try go_wp2
  go_region_held3 (fun w' => w'.cell? ⟨G, 0, none⟩ = some (.slice A b.length c) ∧ w'.cell? ⟨G, 1, none⟩ = some (.int .i64 i))
   (first | exact ⟨z0, z1⟩ | exact ⟨y0, y1⟩)
   ((go_at_call 73; (with_reducible refine (impl_GetTexts.calls k A c b i t1 t2 t3 _ ?side1 ?side2 A1.out).mono ?_); (case side1 => exact Kd.C_drew HC.out); (case side2 => exact HR.out); rintro e w1 ⟨v, rfl, ho, hb⟩; have HG1 := zn (blk_below (g := G) (blk_drew HG.out) hb); have HB1 := zn (below_then (B := G) (w := w) (w1 := w.drew) (w2 := w1) (below_drew HB.out) HL.out hb); have HO := zn ho; obtain ⟨y0, y1, y2, f3, f4⟩ := Gt.three HG1.out; clear hb ho))
  go_wp2
  go_ret
  exact ⟨_, rfl, Kd.R_nil _ _ _ _ _, blk_put (by exact HG1.out) 2 _ rfl, HB1.out.setCell (p := ⟨G, 2, none⟩) (Nat.le_refl _) _⟩
 | false =>
  simp only [Bool.false_eq_true, if_false] at h
  by_cases c3 : t3 = true
  ·subst c3
   simp only [if_true, Option.some.injEq, Prod.mk.injEq] at h
   obtain ⟨rfl, rfl, rfl⟩ := h
   go_enter Tryz.func38, Tryz.ntmps38
   try go_wp2
   go_region_held3 (fun w' => w'.cell? ⟨G, 0, none⟩ = some (.slice A b.length c) ∧ w'.cell? ⟨G, 1, none⟩ = some (.int .i64 i))
    (first | exact ⟨z0, z1⟩ | exact ⟨y0, y1⟩)
    ((go_at_call 73; (with_reducible refine (impl_GetTexts.calls k A c b i t1 t2 true _ ?side1 ?side2 A1.out).mono ?_); (case side1 => exact Kd.C_drew HC.out); (case side2 => exact HR.out); rintro e w1 ⟨v, rfl, ho, hb⟩; have HG1 := zn (blk_below (g := G) (blk_drew HG.out) hb); have HB1 := zn (below_then (B := G) (w := w) (w1 := w.drew) (w2 := w1) (below_drew HB.out) HL.out hb); have HO := zn ho; obtain ⟨y0, y1, y2, f3, f4⟩ := Gt.three HG1.out; clear hb ho))
   go_wp2
   go_ret
   exact ⟨_, rfl, Kd.R_mono (Kd.R_far (p := ⟨G, 1, none⟩) (Kd.R_bound HO.out) (fun k hk => Nat.ne_of_gt (Nat.lt_of_lt_of_le HLt.out hk.2.1)) _) (fun _ _ => trivial), blk_put (by exact HG1.out) 1 _ rfl, HB1.out.setCell (p := ⟨G, 1, none⟩) (Nat.le_refl _) _⟩
  ·have e3 : t3 = false := by simpa using c3
   subst e3
   simp only [Bool.false_eq_true, if_false, Option.some.injEq, Prod.mk.injEq] at h
   obtain ⟨rfl, rfl, rfl⟩ := h
   go_enter Tryz.func38, Tryz.ntmps38
   try go_wp2
   go_region_held3 (fun w' => w'.cell? ⟨G, 0, none⟩ = some (.slice A b.length c) ∧ w'.cell? ⟨G, 1, none⟩ = some (.int .i64 i))
    (first | exact ⟨z0, z1⟩ | exact ⟨y0, y1⟩)
    ((go_at_call 73; (with_reducible refine (impl_GetTexts.calls k A c b i t1 t2 false _ ?side1 ?side2 A1.out).mono ?_); (case side1 => exact Kd.C_drew HC.out); (case side2 => exact HR.out); rintro e w1 ⟨v, rfl, ho, hb⟩; have HG1 := zn (blk_below (g := G) (blk_drew HG.out) hb); have HB1 := zn (below_then (B := G) (w := w) (w1 := w.drew) (w2 := w1) (below_drew HB.out) HL.out hb); have HO := zn ho; obtain ⟨y0, y1, y2, f3, f4⟩ := Gt.three HG1.out; clear hb ho))
   go_wp2
   go_ret
   exact ⟨_, rfl, Kd.R_nil _ _ _ _ _, blk_put (by exact HG1.out) 2 _ rfl, HB1.out.setCell (p := ⟨G, 2, none⟩) (Nat.le_refl _) _⟩
end Go.Proofs.YtgdknepphkhnlaaGreatDoor.X
