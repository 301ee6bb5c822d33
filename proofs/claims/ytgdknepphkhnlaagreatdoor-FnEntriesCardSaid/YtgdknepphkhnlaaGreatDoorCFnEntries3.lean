/- The law FnEntries, as a plain statement: a drawn entry that is right comes back of its text; a name does, too. Conditions: those of the row's reading alone. -/
/- Part 4 of 12 of this claim's texts. -/
import Derived.Test.YtgdknepphkhnlaaGreatDoorCFnEntries1
import Derived.Test.YtgdknepphkhnlaaGreatDoorCFnEntries2
namespace Go.Proofs.YtgdknepphkhnlaaGreatDoor.X
open Go.RowKit Go.Proofs.YtgdknepphkhnlaaGreatDoorW.PrintWords Go.Proofs.YtgdknepphkhnlaaGreatDoorW.PrintLast Go.Proofs.YtgdknepphkhnlaaGreatDoorW.PrintMore
attribute [local go_sem] max2_int min2_int max_two min_two max_three min_three max_four min_four
set_option linter.unusedVariables false
set_option linter.unusedSimpArgs false
def impl_putNum.l0 : Nat → List Int → Int → Option (List Int)
 | 0, _, _ => none
 | k + 1, x0, x1 => if x1 > 127 then (if x0.length < 140737488355328 then (impl_putNum.l0 k (x0 ++ [(Go.bits .or .i64 128 (Go.bits .and .i64 x1 127)) % 256]) (x1 / 128)) else (none)) else (if x0.length < 140737488355328 then (some (x0 ++ [(x1) % 256])) else (none))
def impl_putNum.f (k : Nat) (l0 : List Int) (a1 : Int) : Option (List Int) := impl_putNum.l0 k l0 (mx 0 (mn a1 1000000000))
set_option maxHeartbeats 8000000 in
set_option maxRecDepth 100000 in
theorem impl_putNum.calls (k : Nat) (P0_ : Nat → Prop) (u9000_ : Value) (l0 : List Int) (a1 : Int) (r : List Int) (w0 w : World) (hB : Below w0.heap.size w0 w) (ho0 : Kd.R (Kd.int .u8) 5 w w0.heap.size P0_ u9000_ l0) (h : impl_putNum.f k l0 a1 = some r) :
  Calls Tryz.prog 66 #[u9000_, .int .i64 a1] w fun e w' => ∃ v0_ : Value, e = .returned (v0_) ∧ Kd.R (Kd.int .u8) 5 w' w0.heap.size (fun k_ => (P0_ k_ ∨ w.heap.size ≤ k_)) v0_ r ∧ Below w0.heap.size w0 w' ∧ Kept w w' (fun k_ => P0_ k_) := by
 have HO0 := zi (show Kd.R (Kd.int .u8) 5 w w0.heap.size (fun k_ => (P0_ k_ ∨ w.heap.size ≤ k_)) u9000_ l0 from Kd.R_mono ho0 (fun k_ hk => (.inl hk)))
 have HK := zi (Kept.refl w (fun k_ => P0_ k_))
 have HW0 := zi hB.size
 have HB := zi hB
 clear hB
 have H := h
 unfold impl_putNum.f at H
 clear h
 obtain ⟨ji3, hji3⟩ : ∃ j_ : Int, (mn a1 1000000000) = j_ := ⟨_, rfl⟩
 replace H : (impl_putNum.l0 k l0 (mx 0 (ji3))) = some r := by first | (rw [hji3] at H; exact H) | (simp only [hji3] at H ⊢; exact H)
 (try (have hji3h : ji3 ≤ 1000000000 := by (rw [← hji3]; unfold mn; (repeat' split) <;> omega)))
 (try (have hji3g : ji3 ≤ 64 := by omega))
 have hji3_ : (if 1000000000 < a1 then 1000000000 else a1) = ji3 := hji3
 obtain ⟨ji4, hji4⟩ : ∃ j_ : Int, (mx 0 (ji3)) = j_ := ⟨_, rfl⟩
 replace H : (impl_putNum.l0 k l0 ji4) = some r := by first | (rw [hji4] at H; exact H) | (simp only [hji4] at H ⊢; exact H)
 have hji4_ : (if 0 < (ji3) then (ji3) else 0) = ji4 := hji4
 have H' := zi H
 clear H
 go_enter Tryz.func66, Tryz.ntmps66
 go_wp2
 go_loopg [0, 1] k (fun kq v0 v1 w' => ∃ (x0_1 : List Int) (x1_1 : Int), v1 = .int .i64 x1_1 ∧ Aside0 (impl_putNum.l0 kq x0_1 x1_1 = some r) ∧ Aside0 (kq ≤ k) ∧ Aside0 (Kd.R (Kd.int .u8) 5 w' w0.heap.size (fun k_ => (P0_ k_ ∨ w.heap.size ≤ k_)) v0 x0_1) ∧ Aside0 (Kept w w' (fun k_ => P0_ k_)) ∧ Aside0 (Below w0.heap.size w0 w'))
 case atStart => exact ⟨(l0), (ji4), (by first | rfl | (simp; done) | (simp only [← hji4] <;> (first | rfl | simp)) | (simp [*]; done)), H', ⟨Nat.le_refl _⟩, ⟨by (with_reducible repeat (first | apply Kd.R_alloc | apply Kd.R_drewN | apply Kd.R_drew)); exact HO0.out⟩, ⟨z1y⟩, ⟨zz⟩⟩
 case round =>
  clear H'
  try clear p2
  obtain ⟨x0_1, x1_1, rfl, HA, HK1, HO_0, HK, HB⟩ := hrel
  cases gk with
  | zero => exact absurd HA.out (by simp [impl_putNum.l0])
  | succ k1 =>
   have H := HA.out
   clear HA
   simp only [impl_putNum.l0] at H
   by_cases c5 : x1_1 > 127
   ·rw [if_pos c5] at H
    have c5b0 := decide_eq_true c5
    clear c5
    by_cases c6 : x0_1.length < 140737488355328
    ·rw [if_pos c6] at H
     have LMc6 := zi c6
     clear c6
     obtain ⟨y180, hy180⟩ : ∃ y_ : List Int, y_ = (x0_1 ++ [(Go.bits .or .i64 128 (Go.bits .and .i64 x1_1 127)) % 256]) := ⟨_, rfl⟩
     replace H : (impl_putNum.l0 k1 y180 (x1_1 / 128)) = some r := by first | (rw [hy180]; with_reducible exact H) | (have H2_ := (Option.bind_some _ _).symm.trans H; rw [hy180]; with_reducible exact H2_) | (have H2_ := (Option.bind_some _ _).symm.trans H; with_reducible exact H2_) | with_reducible exact H | (rw [hy180]; exact H) | exact H
     have Ny180 := zi hy180
     clear hy180
     have H' := zi H
     clear H
     go_wp2_with (first | ((with_reducible refine gate_builtin (b := .append) (xs := #[.tmp 10, .tmp 15]) rfl ?_); at_builtin; refine Kd.R_append (Kd.int .u8) (w0 := w0) w0.heap.size rfl (.tmp 10) (.tmp 15) 22 5 (.int .u8 0) 1 rfl Tryz.underlying22 info5 rfl zt zp u0 x0_1 ((Go.bits .or .i64 128 (Go.bits .and .i64 x1_1 127)) % 256) [.int .u8 ((Go.bits .or .i64 128 (Go.bits .and .i64 x1_1 127)) % 256)] (fun k_ => (P0_ k_ ∨ w.heap.size ≤ k_)) (fun _ => False) rfl rfl ?aP (fun _ hk => hk.elim) ?aF ?aO ?aB ?aS ?aL ?_; (case aP => exact rfl); (case aB => exact zz); (case aF => exact (fun k_ hk => (.inr (Nat.le_trans z1z hk)))); (case aO => exact z2a); (case aS => exact (below_size zz)); (case aL => have := LMc6.out; omega); intro v181 w7 ho hb hg hat; rw [← Ny180.out] at ho; have n0_ := zi hb; have n1_ := zi (Kept.of_grown (S := (fun k_ => P0_ k_)) hg z1y (fun k_ e_ => (HO_0.out.1 k_ e_))); have n2_ := zi ho; clear HB; clear HK; clear HO_0; have HB := n0_; have HK := n1_; have HO182 := n2_; clear n0_ n1_ n2_; clear ho hb hg hat))
     go_roundg k1
     case measure => have := HK1.out; omega
     case rel => exact ⟨(y180), (x1_1 / 128), zu, H', ⟨zx⟩, ⟨by (with_reducible repeat (first | apply Kd.R_alloc | apply Kd.R_drewN | apply Kd.R_drew)); exact HO182.out⟩, ⟨z1y⟩, ⟨zz⟩⟩
    ·rw [if_neg c6] at H
     exact absurd H (by simp)
   ·rw [if_neg c5] at H
    have c5b0 := decide_eq_false c5
    clear c5
    by_cases c8 : x0_1.length < 140737488355328
    ·rw [if_pos c8] at H
     have LMc8 := zi c8
     clear c8
     obtain ⟨y183, hy183⟩ : ∃ y_ : List Int, y_ = (x0_1 ++ [(x1_1) % 256]) := ⟨_, rfl⟩
     replace H : (some y183) = some r := by first | (rw [hy183]; with_reducible exact H) | (have H2_ := (Option.bind_some _ _).symm.trans H; rw [hy183]; with_reducible exact H2_) | (have H2_ := (Option.bind_some _ _).symm.trans H; with_reducible exact H2_) | with_reducible exact H | (rw [hy183]; exact H) | exact H
     have Ny183 := zi hy183
     clear hy183
     obtain rfl := Option.some.inj H
     go_wp2_with (first | ((with_reducible refine gate_builtin (b := .append) (xs := #[.tmp 19, .tmp 22]) rfl ?_); at_builtin; refine Kd.R_append (Kd.int .u8) (w0 := w0) w0.heap.size rfl (.tmp 19) (.tmp 22) 22 5 (.int .u8 0) 1 rfl Tryz.underlying22 info5 rfl zt zp u0 x0_1 ((x1_1) % 256) [.int .u8 ((x1_1) % 256)] (fun k_ => (P0_ k_ ∨ w.heap.size ≤ k_)) (fun _ => False) rfl rfl ?aP (fun _ hk => hk.elim) ?aF ?aO ?aB ?aS ?aL ?_; (case aP => exact rfl); (case aB => exact zz); (case aF => exact (fun k_ hk => (.inr (Nat.le_trans z1z hk)))); (case aO => exact z2a); (case aS => exact (below_size zz)); (case aL => have := LMc8.out; omega); intro v184 w9 ho hb hg hat; rw [← Ny183.out] at ho; have n0_ := zi hb; have n1_ := zi (Kept.of_grown (S := (fun k_ => P0_ k_)) hg z1y (fun k_ e_ => (HO_0.out.1 k_ e_))); have n2_ := zi ho; clear HB; clear HK; clear HO_0; have HB := n0_; have HK := n1_; have HO185 := n2_; clear n0_ n1_ n2_; clear ho hb hg hat))
     go_ret
     exact ⟨_, by first | rfl | (simp [errW_none, errW_some] <;> rfl) | (simp only [← hji3, ← hji4]; first | rfl | (simp [errW_none, errW_some] <;> rfl)) | (simp [*, errW_none, errW_some] <;> rfl), by (with_reducible repeat (first | apply Kd.R_alloc | apply Kd.R_drewN | apply Kd.R_drew)); exact HO185.out, zz, z1y⟩
    ·rw [if_neg c8] at H
     exact absurd H (by simp)
def impl_putText.f (k : Nat) (l0 : List Int) (a1 : ByteArray) : Option (List Int) := (impl_putNum.f k l0 (a1.size : Int)).bind fun t186 => (if t186.length + a1.size < 140737488355328 then (some (t186 ++ bytesOf a1)) else (none))
set_option maxHeartbeats 8000000 in
set_option maxRecDepth 100000 in
theorem impl_putText.calls (k : Nat) (P0_ : Nat → Prop) (u9000_ : Value) (l0 : List Int) (a1 : ByteArray) (r : List Int) (w0 w : World) (hB : Below w0.heap.size w0 w) (ho0 : Kd.R (Kd.int .u8) 5 w w0.heap.size P0_ u9000_ l0) (h : impl_putText.f k l0 a1 = some r) :
  Calls Tryz.prog 32 #[u9000_, .string a1] w fun e w' => ∃ v0_ : Value, e = .returned (v0_) ∧ Kd.R (Kd.int .u8) 5 w' w0.heap.size (fun k_ => (P0_ k_ ∨ w.heap.size ≤ k_)) v0_ r ∧ Below w0.heap.size w0 w' ∧ Kept w w' (fun k_ => P0_ k_) := by
 have HO0 := zi (show Kd.R (Kd.int .u8) 5 w w0.heap.size (fun k_ => (P0_ k_ ∨ w.heap.size ≤ k_)) u9000_ l0 from Kd.R_mono ho0 (fun k_ hk => (.inl hk)))
 have HK := zi (Kept.refl w (fun k_ => P0_ k_))
 have HW0 := zi hB.size
 have HB := zi hB
 clear hB
 have H := h
 unfold impl_putText.f at H
 clear h
 replace H := Option.bind_eq_some_iff.mp H
 obtain ⟨t186, A30, H⟩ := H
 try dsimp only at H
 have A3 := zi A30
 clear A30
 by_cases c4 : t186.length + a1.size < 140737488355328
 ·rw [if_pos c4] at H
  have LMc4 := zi c4
  clear c4
  obtain ⟨y189, hy189⟩ : ∃ y_ : List Int, y_ = (t186 ++ bytesOf a1) := ⟨_, rfl⟩
  replace H : (some y189) = some r := by first | (rw [hy189]; with_reducible exact H) | (have H2_ := (Option.bind_some _ _).symm.trans H; rw [hy189]; with_reducible exact H2_) | (have H2_ := (Option.bind_some _ _).symm.trans H; with_reducible exact H2_) | with_reducible exact H | (rw [hy189]; exact H) | exact H
  have Ny189 := zi hy189
  clear hy189
  obtain rfl := Option.some.inj H
  obtain ⟨Ao5, co5, eo5⟩ := Kd.R_slice HO0.out
  subst eo5
  go_enter Tryz.func32, Tryz.ntmps32
  go_wp2_with (first | ((with_reducible refine gate_callee (f := 66) rfl ?_); refine goesL_ (some 8) rfl rfl Tryz.func66 zq rfl #[.slice Ao5 l0.length co5, .int .i64 (a1.size : Int)] rfl zy ?_; (with_reducible refine (impl_putNum.calls k (fun k_ => some k_ = (.slice Ao5 l0.length co5 : Value).ownBlock) (.slice Ao5 l0.length co5) l0 (a1.size : Int) t186 w0 _ ?side1 ?side2 A3.out).mono ?_); (case side1 => exact zz); (case side2 => exact Kd.R_tight rfl HO0.out); rintro e w6 ⟨v187, rfl, ho0, hb, hkp⟩; refine ⟨_, rfl, ?_⟩; have n0_ := zi (Kd.R_mono (ok' := fun k_ => (P0_ k_ ∨ w.heap.size ≤ k_)) ho0 (fun k_ hk_ => Or.elim hk_ (fun hs_ => (HO0.out.1 k_ (hs_).symm)) (fun hn_ => (.inr (Nat.le_trans z1z hn_))))); have n1_ := zi (Kept.then_ (S := (fun k_ => P0_ k_)) z1y hkp (fun k_ hs_ => (fun e_ => (HO0.out.1 k_ e_.symm)) hs_)); have n2_ := zi hb; clear HK; clear HB; clear HO0; have HO188 := n0_; have HK := n1_; have HB := n2_; clear n0_ n1_ n2_; (try clear hb); (try clear hkp); (try clear ho0)) | (at_builtin; refine Y.R_append_str (w0 := w0) w0.heap.size rfl (.tmp 8) _ 22 9 5 rfl Tryz.underlying22 Tryz.underlying9 info5 v187 t186 a1 (fun k_ => (P0_ k_ ∨ w.heap.size ≤ k_)) rfl rfl ?aF ?aO ?aB ?aS ?aL ?_; (case aB => exact zz); (case aF => exact (fun k_ hk => (.inr (Nat.le_trans z1z hk)))); (case aO => exact (by (with_reducible repeat (first | apply Kd.R_alloc | apply Kd.R_drewN | apply Kd.R_drew)); exact HO188.out)); (case aS => exact (below_size zz)); (case aL => have := LMc4.out; omega); intro v190 w7 ho hb hg hat; rw [← Ny189.out] at ho; have n0_ := zi hb; have n1_ := zi (Kept.of_grown (S := (fun k_ => P0_ k_)) hg z1y (fun k_ e_ => (HO188.out.1 k_ e_))); have n2_ := zi ho; clear HB; clear HK; clear HO188; have HB := n0_; have HK := n1_; have HO191 := n2_; clear n0_ n1_ n2_; clear ho hb hg hat))
  go_ret
  exact ⟨_, z1b, by (with_reducible repeat (first | apply Kd.R_alloc | apply Kd.R_drewN | apply Kd.R_drew)); exact HO191.out, zz, z1y⟩
 ·rw [if_neg c4] at H
  exact absurd H (by simp)
def impl_putTexts.l0 : Nat → List Int → List ByteArray → Int → Int → Option (List Int)
 | 0, _, _, _, _ => none
 | k + 1, x0, x11, x12, x13 => if x13 < x12 then (if 0 ≤ x13 then (if x13 < (x11.length : Int) then ((impl_putText.f k x0 (rdOf ByteArray.empty x11 x13)).bind fun t196 => (impl_putTexts.l0 k t196 x11 x12 (wrap64 (x13 + 1)))) else (none)) else (none)) else (some x0)
def impl_putTexts.f (k : Nat) (l0 : List Int) (l1 : List ByteArray) : Option (List Int) := (impl_putNum.f k l0 (l1.length : Int)).bind fun t192 => (impl_putTexts.l0 k t192 l1 (l1.length : Int) 0)
set_option maxHeartbeats 8000000 in
set_option maxRecDepth 100000 in
theorem impl_putTexts.calls (k : Nat) (P0_ : Nat → Prop) (u9000_ : Value) (l0 : List Int) (A1 : Option Addr) (c1 : Nat) (l1 : List ByteArray) (r : List Int) (w0 w : World) (hB : Below w0.heap.size w0 w) (ho0 : Kd.R (Kd.int .u8) 5 w w0.heap.size P0_ u9000_ l0) (hr1 : ∀ W_, Kept w W_ (fun k_ => P0_ k_) → Kd.C Kd.string W_ A1 l1.length l1) (hc1 : l1.length ≤ c1) (h : impl_putTexts.f k l0 l1 = some r) :
  Calls Tryz.prog 31 #[u9000_, .slice A1 l1.length c1] w fun e w' => ∃ v0_ : Value, e = .returned (v0_) ∧ Kd.R (Kd.int .u8) 5 w' w0.heap.size (fun k_ => (P0_ k_ ∨ w.heap.size ≤ k_)) v0_ r ∧ Below w0.heap.size w0 w' ∧ Kept w w' (fun k_ => P0_ k_) := by
 have HO0 := zi (show Kd.R (Kd.int .u8) 5 w w0.heap.size (fun k_ => (P0_ k_ ∨ w.heap.size ≤ k_)) u9000_ l0 from Kd.R_mono ho0 (fun k_ hk => (.inl hk)))
 have HR1 := zi hr1
 have HC1 := zi hc1
 clear hr1 hc1
 have HK := zi (Kept.refl w (fun k_ => P0_ k_))
 have HW0 := zi hB.size
 have HB := zi hB
 clear hB
 have H := h
 unfold impl_putTexts.f at H
 clear h
 replace H := Option.bind_eq_some_iff.mp H
 obtain ⟨t192, A30, H⟩ := H
 try dsimp only at H
 have A3 := zi A30
 clear A30
 have H' := zi H
 clear H
 obtain ⟨Ao4, co4, eo4⟩ := Kd.R_slice HO0.out
 subst eo4
 go_enter Tryz.func31, Tryz.ntmps31
 go_wp2_with (first | ((with_reducible refine gate_callee (f := 66) rfl ?_); refine goesL_ (some 10) rfl rfl Tryz.func66 zq rfl #[.slice Ao4 l0.length co4, .int .i64 (l1.length : Int)] rfl zy ?_; (with_reducible refine (impl_putNum.calls k (fun k_ => some k_ = (.slice Ao4 l0.length co4 : Value).ownBlock) (.slice Ao4 l0.length co4) l0 (l1.length : Int) t192 w0 _ ?side1 ?side2 A3.out).mono ?_); (case side1 => exact zz); (case side2 => exact Kd.R_tight rfl HO0.out); rintro e w5 ⟨v193, rfl, ho0, hb, hkp⟩; refine ⟨_, rfl, ?_⟩; have n0_ := zi (Kd.R_mono (ok' := fun k_ => (P0_ k_ ∨ w.heap.size ≤ k_)) ho0 (fun k_ hk_ => Or.elim hk_ (fun hs_ => (HO0.out.1 k_ (hs_).symm)) (fun hn_ => (.inr (Nat.le_trans z1z hn_))))); have n1_ := zi (Kept.then_ (S := (fun k_ => P0_ k_)) z1y hkp (fun k_ hs_ => (fun e_ => (HO0.out.1 k_ e_.symm)) hs_)); have n2_ := zi hb; clear HK; clear HB; clear HO0; have HO194 := n0_; have HK := n1_; have HB := n2_; clear n0_ n1_ n2_; (try clear hb); (try clear hkp); (try clear ho0)))
 go_loopg [0, 13] k (fun kq v0 v13 w' => ∃ (x0_1 : List Int) (x13_1 : Int), v13 = .int .i64 x13_1 ∧ Aside0 (impl_putTexts.l0 kq x0_1 l1 (l1.length : Int) x13_1 = some r) ∧ Aside0 (kq ≤ k) ∧ Aside0 (Kd.R (Kd.int .u8) 5 w' w0.heap.size (fun k_ => (P0_ k_ ∨ w.heap.size ≤ k_)) v0 x0_1) ∧ Aside0 (Kept w w' (fun k_ => P0_ k_)) ∧ Aside0 (Below w0.heap.size w0 w'))
 case atStart => exact ⟨(t192), (0), zu, H', ⟨Nat.le_refl _⟩, ⟨by (with_reducible repeat (first | apply Kd.R_alloc | apply Kd.R_drewN | apply Kd.R_drew)); exact HO194.out⟩, ⟨z1y⟩, ⟨zz⟩⟩
 case round =>
  clear H'
  try clear c1
  try clear p2
  try clear c3
  obtain ⟨x0_1, x13_1, rfl, HA, HK1, HO_0, HK, HB⟩ := hrel
  cases gk with
  | zero => exact absurd HA.out (by simp [impl_putTexts.l0])
  | succ k1 =>
   have H := HA.out
   clear HA
   simp only [impl_putTexts.l0] at H
   by_cases c6 : x13_1 < (l1.length : Int)
   ·rw [if_pos c6] at H
    have c6b0 := decide_eq_true c6
    clear c6
    by_cases c7 : 0 ≤ x13_1
    ·rw [if_pos c7] at H
     have c7b0 := decide_eq_true c7
     clear c7
     by_cases c8 : x13_1 < (l1.length : Int)
     ·rw [if_pos c8] at H
      have c8b0 := decide_eq_true c8
      clear c8
      replace H := Option.bind_eq_some_iff.mp H
      obtain ⟨t196, A90, H⟩ := H
      try dsimp only at H
      have A9 := zi A90
      clear A90
      have H' := zi H
      clear H
      have p195 : 0 ≤ (x13_1 : Int) := of_decide_eq_true zw
      have q195 : x13_1 < (l1.length : Int) := of_decide_eq_true zw
      obtain ⟨ad195, e195, hx195_0⟩ := Kd.at_string (Kd.C_kept_now HR1.out HK.out) x13_1 p195 q195
      cases e195
      replace p195 := eq_true p195
      replace q195 := eq_true q195
      obtain ⟨Ao10, co10, eo10⟩ := Kd.R_slice HO_0.out
      subst eo10
      go_wp2_with (first | ((with_reducible refine gate_callee (f := 32) rfl ?_); refine goesL_ (some 19) rfl rfl Tryz.func32 zq rfl #[.slice Ao10 x0_1.length co10, .string (rdOf ByteArray.empty l1 x13_1)] rfl zy ?_; (with_reducible refine (impl_putText.calls k1 (fun k_ => some k_ = (.slice Ao10 x0_1.length co10 : Value).ownBlock) (.slice Ao10 x0_1.length co10) x0_1 (rdOf ByteArray.empty l1 x13_1) t196 w0 _ ?side1 ?side2 A9.out).mono ?_); (case side1 => exact zz); (case side2 => exact Kd.R_tight rfl HO_0.out); rintro e w11 ⟨v197, rfl, ho0, hb, hkp⟩; refine ⟨_, rfl, ?_⟩; have n0_ := zi (Kd.R_mono (ok' := fun k_ => (P0_ k_ ∨ w.heap.size ≤ k_)) ho0 (fun k_ hk_ => Or.elim hk_ (fun hs_ => (HO_0.out.1 k_ (hs_).symm)) (fun hn_ => (.inr (Nat.le_trans z1z hn_))))); have n1_ := zi (Kept.then_ (S := (fun k_ => P0_ k_)) z1y hkp (fun k_ hs_ => (fun e_ => (HO_0.out.1 k_ e_.symm)) hs_)); have n2_ := zi hb; clear HK; clear HB; clear HO_0; have HO198 := n0_; have HK := n1_; have HB := n2_; clear n0_ n1_ n2_; (try clear hb); (try clear hkp); (try clear ho0)))
      go_roundg k1
      case measure => have := HK1.out; omega
      case rel => exact ⟨(t196), (wrap64 (x13_1 + 1)), zu, H', ⟨zx⟩, ⟨by (with_reducible repeat (first | apply Kd.R_alloc | apply Kd.R_drewN | apply Kd.R_drew)); exact HO198.out⟩, ⟨z1y⟩, ⟨zz⟩⟩
     ·rw [if_neg c8] at H
      exact absurd H (by simp)
    ·rw [if_neg c7] at H
     exact absurd H (by simp)
   ·rw [if_neg c6] at H
    have c6b0 := decide_eq_false c6
    clear c6
    obtain rfl := Option.some.inj H
    go_wp2
    go_ret
    exact ⟨_, z1b, z2a, zz, z1y⟩
def impl_PutEntry.l0 : Nat → List ByteArray → List (S35) → Int → Int → ByteArray → Int → Int → Int → ByteArray → List (S35) → Option (ByteArray)
 | 0, _, _, _, _, _, _, _, _, _, _ => none
 | k + 1, x3, x10, x11, x12, x200000, x200001, x200002, x200003, x200004, x200005 => if x12 < x11 then (if 0 ≤ x12 then (if x12 < (x10.length : Int) then ((impl_nameOf.f k ((rd_T35 x10 x12).f0) ((rd_T35 x10 x12).f1.f0) ((rd_T35 x10 x12).f1.f1) ((rd_T35 x10 x12).f1.f2) ((rd_T35 x10 x12).f1.f3)).bind fun t203 => (if x3.length < 8796093022208 then (impl_PutEntry.l0 k (x3 ++ [t203]) x10 x11 (wrap64 (x12 + 1)) x200000 x200001 x200002 x200003 x200004 x200005) else (none))) else (none)) else (none)) else ((impl_EntryName.f k x200000 x200001 x200002 x200003 x200004).bind fun t207 => ((impl_putText.f k ([] : List Int) t207).bind fun t208 => ((impl_putTexts.f k t208 x3).bind fun t211 => (some (strOfNums t211)))))
def impl_PutEntry.f (k : Nat) (a0_0 : ByteArray) (a0_1 : Int) (a0_2 : Int) (a0_3 : Int) (a0_4 : ByteArray) (l0_5 : List (S35)) : Option (ByteArray) := (impl_EntryOk.f k a0_0 a0_1 a0_2 a0_3 a0_4 l0_5).bind fun t200 => (if t200 = true then (impl_PutEntry.l0 k ([] : List ByteArray) l0_5 (l0_5.length : Int) 0 a0_0 a0_1 a0_2 a0_3 a0_4 l0_5) else (some (⟨#[]⟩ : ByteArray)))
set_option maxHeartbeats 8000000 in
set_option maxRecDepth 100000 in
theorem impl_PutEntry.calls (k : Nat) (a0_0 : ByteArray) (a0_1 : Int) (a0_2 : Int) (a0_3 : Int) (a0_4 : ByteArray) (A0_5 : Option Addr) (c0_5 : Nat) (l0_5 : List (S35)) (r : ByteArray) (w : World) (hG_ : GlobI w) (hr0_5 : Kd.C k35 w A0_5 l0_5.length l0_5) (hc0_5 : l0_5.length ≤ c0_5) (h : impl_PutEntry.f k a0_0 a0_1 a0_2 a0_3 a0_4 l0_5 = some r) :
  Calls Tryz.prog 9 #[.agg #[.string a0_0, .int .i64 a0_1, .int .i64 a0_2, .int .i64 a0_3, .string a0_4, .slice A0_5 l0_5.length c0_5]] w fun e w' => e = .returned (.string r) ∧ Below w.heap.size w w' := by
 have HG_ := zi hG_
 clear hG_
 have hu28 := Tryz.underlying28
 have hu35 := Tryz.underlying35
 have hu25 := Tryz.underlying25
 have HR0_5 := zi hr0_5
 have HC0_5 := zi hc0_5
 clear hr0_5 hc0_5
 have HB := zi (Below.refl w.heap.size w)
 have H := h
 unfold impl_PutEntry.f at H
 clear h
 replace H := Option.bind_eq_some_iff.mp H
 obtain ⟨t200, A20, H⟩ := H
 try dsimp only at H
 have A2 := zi A20
 clear A20
 by_cases c3 : t200 = true
 ·subst c3
  rw [if_pos rfl] at H
  have H' := zi H
  clear H
  go_enter Tryz.func9, Tryz.ntmps9
  go_wp2_with (first | ((with_reducible refine gate_dst (N := 1) rfl ?_); refine box_event zr (N := 1) zr (cs := #[.string a0_0, .int .i64 a0_1, .int .i64 a0_2, .int .i64 a0_3, .string a0_4, .slice A0_5 l0_5.length c0_5]) (t := 28) z1h ?_; intro gb199 hg w4 hbox hb; have n0_ := zi (below_step zz hb); have n1_ := zi hbox; have n2_ := zi ((z6t : w.heap.size ≤ gb199)); have n3_ := zi ((z6t : w.heap.size ≤ gb199)); clear HB; have HB := n0_; have BK199 := n1_; have GW199 := n2_; have GE199 := n3_; clear n0_ n1_ n2_ n3_; clear hb hbox hg; obtain ⟨hcz5_0, hcz5_1, hcz5_2, hcz5_3, hcz5_4, hcz5_5, hfz5_0, hfz5_1, hfz5_2, hfz5_3, hfz5_4, hfz5_5⟩ := zg BK199.out) | ((with_reducible refine gate_callee (f := 11) rfl ?_); refine goesL_ (some 7) rfl rfl Tryz.func11 zq rfl #[.agg #[.string a0_0, .int .i64 a0_1, .int .i64 a0_2, .int .i64 a0_3, .string a0_4, .slice A0_5 l0_5.length c0_5]] rfl zy ?_; (with_reducible refine (impl_EntryOk.calls k a0_0 a0_1 a0_2 a0_3 a0_4 _ _ l0_5 true _ ?side1 ?side2 A2.out).mono ?_); (case side1 => exact z1r); (case side2 => exact HC0_5.out); rintro e w6 ⟨rfl, hb⟩; refine ⟨_, rfl, ?_⟩; have n0_ := zi (blk_below (g := gb199) (o := .cells #[.string a0_0, .int .i64 a0_1, .int .i64 a0_2, .int .i64 a0_3, .string a0_4, .slice A0_5 l0_5.length c0_5] 28 (0, 0)) z2b hb); have n1_ := zi (below_step z2c hb); clear BK199; clear HB; have BK199 := n0_; have HB := n1_; clear n0_ n1_; (try clear hb); (try clear hb2); (try clear hk); (try clear hi); obtain ⟨hcz7_0, hcz7_1, hcz7_2, hcz7_3, hcz7_4, hcz7_5, hfz7_0, hfz7_1, hfz7_2, hfz7_3, hfz7_4, hfz7_5⟩ := zg BK199.out))
  go_loopg [3, 12] k (fun kq v3 v12 w' => ∃ (x3_1 : List ByteArray) (x12_1 : Int), v12 = .int .i64 x12_1 ∧ Aside0 (impl_PutEntry.l0 kq x3_1 l0_5 (l0_5.length : Int) x12_1 a0_0 a0_1 a0_2 a0_3 a0_4 l0_5 = some r) ∧ Aside0 (kq ≤ k) ∧ Aside0 (Kd.R Kd.string 9 w' w.heap.size (fun _ => True) v3 x3_1) ∧ Aside0 (w'.heap[gb199]? = some (.cells #[.string a0_0, .int .i64 a0_1, .int .i64 a0_2, .int .i64 a0_3, .string a0_4, (.slice A0_5 l0_5.length c0_5)] 28 (0, 0))) ∧ Aside0 (Below w.heap.size w w'))
  case atStart => exact ⟨(([] : List ByteArray)), (0), zu, H', ⟨Nat.le_refl _⟩, ⟨z2d⟩, ⟨z2b⟩, ⟨z2c⟩⟩
  case round =>
   clear H'
   try clear c1
   try clear p2
   try clear c3
   try clear hcz5_0
   try clear hcz5_1
   try clear hcz5_2
   try clear hcz5_3
   try clear hcz5_4
   try clear hcz5_5
   try clear hcz7_0
   try clear hcz7_1
   try clear hcz7_2
   try clear hcz7_3
   try clear hcz7_4
   try clear hcz7_5
   try clear hfz5_0
   try clear hfz5_1
   try clear hfz5_2
   try clear hfz5_3
   try clear hfz5_4
   try clear hfz5_5
   try clear hfz7_0
   try clear hfz7_1
   try clear hfz7_2
   try clear hfz7_3
   try clear hfz7_4
   try clear hfz7_5
   obtain ⟨x3_1, x12_1, rfl, HA, HK1, HO_3, BK199, HB⟩ := hrel
   cases gk with
   | zero => exact absurd HA.out (by simp [impl_PutEntry.l0])
   | succ k1 =>
    have H := HA.out
    clear HA
    simp only [impl_PutEntry.l0] at H
    by_cases c8 : x12_1 < (l0_5.length : Int)
    ·rw [if_pos c8] at H
     have c8b0 := decide_eq_true c8
     clear c8
     by_cases c9 : 0 ≤ x12_1
     ·rw [if_pos c9] at H
      have c9b0 := decide_eq_true c9
      clear c9
      by_cases c10 : x12_1 < (l0_5.length : Int)
      ·rw [if_pos c10] at H
       have c10b0 := decide_eq_true c10
       clear c10
       replace H := Option.bind_eq_some_iff.mp H
       obtain ⟨t203, A110, H⟩ := H
       try dsimp only at H
       have A11 := zi A110
       clear A110
       by_cases c12 : x3_1.length < 8796093022208
       ·rw [if_pos c12] at H
        have LMc12 := zi c12
        clear c12
        obtain ⟨y204, hy204⟩ : ∃ y_ : List ByteArray, y_ = (x3_1 ++ [t203]) := ⟨_, rfl⟩
        replace H : (impl_PutEntry.l0 k1 y204 l0_5 (l0_5.length : Int) (wrap64 (x12_1 + 1)) a0_0 a0_1 a0_2 a0_3 a0_4 l0_5) = some r := by first | (rw [hy204]; with_reducible exact H) | (have H2_ := (Option.bind_some _ _).symm.trans H; rw [hy204]; with_reducible exact H2_) | (have H2_ := (Option.bind_some _ _).symm.trans H; with_reducible exact H2_) | with_reducible exact H | (rw [hy204]; exact H) | exact H
        have Ny204 := zi hy204
        clear hy204
        have H' := zi H
        clear H
        have p201 : 0 ≤ (x12_1 : Int) := of_decide_eq_true zw
        have q201 : x12_1 < (l0_5.length : Int) := of_decide_eq_true zw
        obtain ⟨ad201, e201, hx201_0, hx201_1, hx201_2, hx201_3, hx201_4⟩ := at_T35 HR0_5.out x12_1 p201 q201
        cases e201
        replace hx201_0 := zo HB.out hx201_0
        replace hx201_1 := zo HB.out hx201_1
        replace hx201_2 := zo HB.out hx201_2
        replace hx201_3 := zo HB.out hx201_3
        replace hx201_4 := zo HB.out hx201_4
        replace p201 := eq_true p201
        replace q201 := eq_true q201
        go_wp2_with (first | ((with_reducible refine gate_dst (N := 5) rfl ?_); refine box_event zr (N := 5) zr (cs := #[.string (⟨#[]⟩ : ByteArray), .int .i64 0, .int .i64 0, .int .i64 0, .string (⟨#[]⟩ : ByteArray)]) (t := 35) z1h ?_; intro gb202 hg w13 hbox hb; have n0_ := zi (Kd.R_below z1a hb); have n1_ := zi (blk_below (g := gb199) (o := .cells #[.string a0_0, .int .i64 a0_1, .int .i64 a0_2, .int .i64 a0_3, .string a0_4, .slice (some ad201) l0_5.length c0_5] 28 (0, 0)) z2b hb); have n2_ := zi (below_step z2c hb); have n3_ := zi hbox; have n4_ := zi ((by rw [hg]; exact (below_size z2c) : w.heap.size ≤ gb202)); have n5_ := zi ((by rw [hg]; exact (below_size z2c) : w.heap.size ≤ gb202)); have n6_ := zi ((by rw [hg]; exact Nat.ne_of_lt (blk_lt (g := gb199) (o := .cells #[.string a0_0, .int .i64 a0_1, .int .i64 a0_2, .int .i64 a0_3, .string a0_4, .slice (some ad201) l0_5.length c0_5] 28 (0, 0)) z2b) : gb199 ≠ gb202)); have n7_ := zi ((by rw [hg]; exact Nat.ne_of_gt (blk_lt (g := gb199) (o := .cells #[.string a0_0, .int .i64 a0_1, .int .i64 a0_2, .int .i64 a0_3, .string a0_4, .slice (some ad201) l0_5.length c0_5] 28 (0, 0)) z2b) : gb202 ≠ gb199)); clear HO_3; clear BK199; clear HB; have HO_3 := n0_; have BK199 := n1_; have HB := n2_; have BK202 := n3_; have GW202 := n4_; have GE202 := n5_; have NB199_202 := n6_; have NB202_199 := n7_; clear n0_ n1_ n2_ n3_ n4_ n5_ n6_ n7_; clear hb hbox hg; have hnb14 := NB202_199.out; have hnc14 := NB199_202.out; obtain ⟨hcz15_0, hcz15_1, hcz15_2, hcz15_3, hcz15_4, hfz15_0, hfz15_1, hfz15_2, hfz15_3, hfz15_4⟩ := zf BK202.out) | ((with_reducible refine gate_callee (f := 30) rfl ?_); refine goesL_ (some 18) rfl rfl Tryz.func30 zq rfl #[.agg #[.string ((rd_T35 l0_5 x12_1).f0), .int .i64 ((rd_T35 l0_5 x12_1).f1.f0), .int .i64 ((rd_T35 l0_5 x12_1).f1.f1), .int .i64 ((rd_T35 l0_5 x12_1).f1.f2), .string ((rd_T35 l0_5 x12_1).f1.f3)]] rfl zy ?_; (with_reducible refine (impl_nameOf.calls (hG_ := globI_on HG_.out z1v) k1 ((rd_T35 l0_5 x12_1).f0) ((rd_T35 l0_5 x12_1).f1.f0) ((rd_T35 l0_5 x12_1).f1.f1) ((rd_T35 l0_5 x12_1).f1.f2) ((rd_T35 l0_5 x12_1).f1.f3) t203 _ A11.out).mono ?_); rintro e w16 ⟨rfl, hb⟩; refine ⟨_, rfl, ?_⟩; have n0_ := zi (Kd.R_below (by (with_reducible repeat (first | apply Kd.R_alloc | apply Kd.R_drewN | apply Kd.R_drew)); exact (Kd.R_mono (Kd.R_far (p := ⟨gb202, 4, none⟩) (Kd.R_far (p := ⟨gb202, 3, none⟩) (Kd.R_far (p := ⟨gb202, 2, none⟩) (Kd.R_far (p := ⟨gb202, 1, none⟩) (Kd.R_far (p := ⟨gb202, 0, none⟩) (Kd.R_types HO_3.out BK202.out zt) (fun _ hk => hk.2) (.string ((rd_T35 l0_5 x12_1).f0))) (fun _ hk => hk.2) (.int .i64 ((rd_T35 l0_5 x12_1).f1.f0))) (fun _ hk => hk.2) (.int .i64 ((rd_T35 l0_5 x12_1).f1.f1))) (fun _ hk => hk.2) (.int .i64 ((rd_T35 l0_5 x12_1).f1.f2))) (fun _ hk => hk.2) (.string ((rd_T35 l0_5 x12_1).f1.f3))) (fun _ h_ => h_.1))) hb); have n1_ := zi (blk_below (g := gb199) (o := .cells #[.string a0_0, .int .i64 a0_1, .int .i64 a0_2, .int .i64 a0_3, .string a0_4, .slice (some ad201) l0_5.length c0_5] 28 (0, 0)) (by (repeat refine zj ?_); refine blk_far ?_ NB199_202.out _; (repeat refine zj ?_); refine blk_far ?_ NB199_202.out _; (repeat refine zj ?_); refine blk_far ?_ NB199_202.out _; (repeat refine zj ?_); refine blk_far ?_ NB199_202.out _; (repeat refine zj ?_); refine blk_far ?_ NB199_202.out _; (repeat refine zj ?_); exact BK199.out) hb); have n2_ := zi (blk_below (g := gb202) (o := .cells #[.string ((rd_T35 l0_5 x12_1).f0), .int .i64 ((rd_T35 l0_5 x12_1).f1.f0), .int .i64 ((rd_T35 l0_5 x12_1).f1.f1), .int .i64 ((rd_T35 l0_5 x12_1).f1.f2), .string ((rd_T35 l0_5 x12_1).f1.f3)] 35 (0, 0)) (by (repeat refine zj ?_); refine blk_put (cs := #[.string ((rd_T35 l0_5 x12_1).f0), .int .i64 ((rd_T35 l0_5 x12_1).f1.f0), .int .i64 ((rd_T35 l0_5 x12_1).f1.f1), .int .i64 ((rd_T35 l0_5 x12_1).f1.f2), .string (⟨#[]⟩ : ByteArray)]) ?_ 4 _ rfl; (repeat refine zj ?_); refine blk_put (cs := #[.string ((rd_T35 l0_5 x12_1).f0), .int .i64 ((rd_T35 l0_5 x12_1).f1.f0), .int .i64 ((rd_T35 l0_5 x12_1).f1.f1), .int .i64 0, .string (⟨#[]⟩ : ByteArray)]) ?_ 3 _ rfl; (repeat refine zj ?_); refine blk_put (cs := #[.string ((rd_T35 l0_5 x12_1).f0), .int .i64 ((rd_T35 l0_5 x12_1).f1.f0), .int .i64 0, .int .i64 0, .string (⟨#[]⟩ : ByteArray)]) ?_ 2 _ rfl; (repeat refine zj ?_); refine blk_put (cs := #[.string ((rd_T35 l0_5 x12_1).f0), .int .i64 0, .int .i64 0, .int .i64 0, .string (⟨#[]⟩ : ByteArray)]) ?_ 1 _ rfl; (repeat refine zj ?_); refine blk_put (cs := #[.string (⟨#[]⟩ : ByteArray), .int .i64 0, .int .i64 0, .int .i64 0, .string (⟨#[]⟩ : ByteArray)]) ?_ 0 _ rfl; (repeat refine zj ?_); exact BK202.out) hb); have n3_ := zi (below_step z2e hb); clear HO_3; clear BK199; clear BK202; clear HB; have HO_3 := n0_; have BK199 := n1_; have BK202 := n2_; have HB := n3_; clear n0_ n1_ n2_ n3_; (try clear hb); (try clear hb2); (try clear hk); (try clear hi)) | ((with_reducible refine gate_builtin (b := .append) (xs := #[.tmp 16, .tmp 19]) rfl ?_); at_builtin; refine Kd.R_append Kd.string (w0 := w) w.heap.size rfl (.tmp 16) (.tmp 19) 55 9 (.string ⟨#[]⟩) 16 rfl Tryz.underlying55 info9 rfl zt zp u3 x3_1 t203 [.string t203] (fun _ => True) (fun _ => False) rfl rfl ?aP (fun _ hk => hk.elim) ?aF ?aO ?aB ?aS ?aL ?_; (case aP => exact rfl); (case aB => exact z2e); (case aF => exact (fun _ _ => trivial)); (case aO => exact z1a); (case aS => exact (below_size z2e)); (case aL => exact z2f); intro v205 w17 ho hb hg hat; rw [← Ny204.out] at ho; have n0_ := zi (blk_grown (g := gb199) (o := .cells #[.string a0_0, .int .i64 a0_1, .int .i64 a0_2, .int .i64 a0_3, .string a0_4, .slice (some ad201) l0_5.length c0_5] 28 (0, 0)) z2b hg (Kd.R_ne HO_3.out BK199.out zt)); have n1_ := zi (blk_grown (g := gb202) (o := .cells #[.string ((rd_T35 l0_5 x12_1).f0), .int .i64 ((rd_T35 l0_5 x12_1).f1.f0), .int .i64 ((rd_T35 l0_5 x12_1).f1.f1), .int .i64 ((rd_T35 l0_5 x12_1).f1.f2), .string ((rd_T35 l0_5 x12_1).f1.f3)] 35 (0, 0)) (by (repeat refine zj ?_); exact BK202.out) hg (Kd.R_ne HO_3.out BK202.out zt)); have n2_ := zi hb; have n3_ := zi ho; clear BK199; clear BK202; clear HB; clear HO_3; have BK199 := n0_; have BK202 := n1_; have HB := n2_; have HO206 := n3_; clear n0_ n1_ n2_ n3_; clear ho hb hg hat))
        go_roundg k1
        case measure => have := HK1.out; omega
        case rel => exact ⟨(y204), (wrap64 (x12_1 + 1)), zu, H', ⟨zx⟩, ⟨by (with_reducible repeat (first | apply Kd.R_alloc | apply Kd.R_drewN | apply Kd.R_drew)); exact HO206.out⟩, ⟨z2b⟩, ⟨z2e⟩⟩
       ·rw [if_neg c12] at H
        exact absurd H (by simp)
      ·rw [if_neg c10] at H
       exact absurd H (by simp)
     ·rw [if_neg c9] at H
      exact absurd H (by simp)
    ·rw [if_neg c8] at H
     have c8b0 := decide_eq_false c8
     clear c8
     replace H := Option.bind_eq_some_iff.mp H
     obtain ⟨t207, A180, H⟩ := H
     try dsimp only at H
     have A18 := zi A180
     clear A180
     replace H := Option.bind_eq_some_iff.mp H
     obtain ⟨t208, A190, H⟩ := H
     try dsimp only at H
     have A19 := zi A190
     clear A190
     replace H := Option.bind_eq_some_iff.mp H
     obtain ⟨t211, A200, H⟩ := H
     try dsimp only at H
     have A20 := zi A200
     clear A200
     obtain rfl := Option.some.inj H
     obtain ⟨hcz21_0, hcz21_1, hcz21_2, hcz21_3, hcz21_4, hcz21_5, hfz21_0, hfz21_1, hfz21_2, hfz21_3, hfz21_4, hfz21_5⟩ := zg BK199.out
     go_wp2_with (first | ((with_reducible refine gate_callee (f := 14) rfl ?_); refine goesL_ (some 26) rfl rfl Tryz.func14 zq rfl #[.string a0_0, .agg #[.int .i64 a0_1, .int .i64 a0_2, .int .i64 a0_3, .string a0_4]] rfl zy ?_; (with_reducible refine (impl_EntryName.calls (hG_ := globI_on HG_.out z1v) k1 a0_0 a0_1 a0_2 a0_3 a0_4 t207 _ A18.out).mono ?_); rintro e w22 ⟨rfl, hb⟩; refine ⟨_, rfl, ?_⟩; have n0_ := zi (Kd.R_below z1a hb); have n1_ := zi (blk_below (g := gb199) (o := .cells #[.string a0_0, .int .i64 a0_1, .int .i64 a0_2, .int .i64 a0_3, .string a0_4, .slice A0_5 l0_5.length c0_5] 28 (0, 0)) z2b hb); have n2_ := zi (below_step z2c hb); clear HO_3; clear BK199; clear HB; have HO_3 := n0_; have BK199 := n1_; have HB := n2_; clear n0_ n1_ n2_; (try clear hb); (try clear hb2); (try clear hk); (try clear hi)) | ((with_reducible refine gate_callee (f := 32) rfl ?_); refine goesL_ (some 27) rfl rfl Tryz.func32 zq rfl #[.slice none 0 0, .string t207] rfl zy ?_; (refine (impl_putText.calls k1 (fun k_ => some k_ = (.slice none 0 0 : Value).ownBlock) (.slice none 0 0) ([] : List Int) t207 t208 w _ ?side1 ?side2 A19.out).mono ?_); (case side1 => exact z2c); (case side2 => exact Kd.R_nil _ _ _ _ _); rintro e w23 ⟨v209, rfl, ho0, hb, hkp⟩; refine ⟨_, rfl, ?_⟩; have n0_ := zi (Kd.R_mono (ok' := fun k_ => True) (Kd.R_keptB (HO_3.out) hkp (fun k_ hk_ hs_ => (fun e_ => by simp [Value.ownBlock] at e_) hs_)) (fun k_ hk_ => trivial)); have n1_ := zi (blk_kept z2b hkp (fun hs_ => (fun e_ => by simp [Value.ownBlock] at e_) hs_)); have n2_ := zi (Kd.R_mono (ok' := fun k_ => True) ho0 (fun k_ hk_ => trivial)); have n3_ := zi hb; clear HO_3; clear BK199; clear HB; have HO_3 := n0_; have BK199 := n1_; have HO210 := n2_; have HB := n3_; clear n0_ n1_ n2_ n3_; (try clear hb); (try clear hkp); (try clear ho0); obtain ⟨Ao24, co24, eo24⟩ := Kd.R_slice HO210.out; subst eo24; obtain ⟨Ao25, co25, eo25⟩ := Kd.R_slice HO_3.out; subst eo25) | ((with_reducible refine gate_callee (f := 31) rfl ?_); refine goesL_ (some 29) rfl rfl Tryz.func31 zq rfl #[.slice Ao24 t208.length co24, .slice Ao25 x3_1.length co25] rfl zy ?_; (with_reducible refine (impl_putTexts.calls k1 (fun k_ => some k_ = (.slice Ao24 t208.length co24 : Value).ownBlock) (.slice Ao24 t208.length co24) t208 _ _ x3_1 t211 w _ ?side1 ?side2 ?side3 ?side4 A20.out).mono ?_); (case side1 => exact z2c); (case side2 => exact Kd.R_tight rfl HO210.out); (case side3 => exact Kd.C_kept_own ((Kd.R_apart' HO_3.out (Kd.R_typed HO210.out) zt)) (fun k_ hk_ hs_ => (hk_.2) hs_)); (case side4 => exact (Kd.R_reads' HO_3.out).2.1); rintro e w26 ⟨v212, rfl, ho0, hb, hkp⟩; refine ⟨_, rfl, ?_⟩; have n0_ := zi (Kd.R_mono (ok' := fun k_ => True) (Kd.R_keptB ((Kd.R_apart' HO_3.out (Kd.R_typed HO210.out) zt)) hkp (fun k_ hk_ hs_ => (hk_.2) hs_)) (fun k_ hk_ => trivial)); have n1_ := zi (blk_kept z2b hkp (fun hs_ => (fun e_ => (Kd.R_ne HO210.out BK199.out zt) e_) hs_)); have n2_ := zi (Kd.R_mono (ok' := fun k_ => True) ho0 (fun k_ hk_ => trivial)); have n3_ := zi hb; clear HO_3; clear BK199; clear HB; clear HO210; have HO_3 := n0_; have BK199 := n1_; have HO213 := n2_; have HB := n3_; clear n0_ n1_ n2_ n3_; (try clear hb); (try clear hkp); (try clear ho0); have hcv27 := own_string (P := Tryz.prog) Tryz.underlying22 Tryz.underlying5 Tryz.underlying9 (Kd.own_of_R HO213.out)))
     go_ret
     exact ⟨z1b, z2c⟩
 ·replace c3 := Bool.eq_false_iff.mpr c3
  subst c3
  rw [if_neg zh] at H
  obtain rfl := Option.some.inj H
  go_enter Tryz.func9, Tryz.ntmps9
  go_wp2_with (first | ((with_reducible refine gate_dst (N := 1) rfl ?_); refine box_event zr (N := 1) zr (cs := #[.string a0_0, .int .i64 a0_1, .int .i64 a0_2, .int .i64 a0_3, .string a0_4, .slice A0_5 l0_5.length c0_5]) (t := 28) z1h ?_; intro gb199 hg w28 hbox hb; have n0_ := zi (below_step zz hb); have n1_ := zi hbox; have n2_ := zi ((z6t : w.heap.size ≤ gb199)); have n3_ := zi ((z6t : w.heap.size ≤ gb199)); clear HB; have HB := n0_; have BK199 := n1_; have GW199 := n2_; have GE199 := n3_; clear n0_ n1_ n2_ n3_; clear hb hbox hg; obtain ⟨hcz29_0, hcz29_1, hcz29_2, hcz29_3, hcz29_4, hcz29_5, hfz29_0, hfz29_1, hfz29_2, hfz29_3, hfz29_4, hfz29_5⟩ := zg BK199.out) | ((with_reducible refine gate_callee (f := 11) rfl ?_); refine goesL_ (some 7) rfl rfl Tryz.func11 zq rfl #[.agg #[.string a0_0, .int .i64 a0_1, .int .i64 a0_2, .int .i64 a0_3, .string a0_4, .slice A0_5 l0_5.length c0_5]] rfl zy ?_; (with_reducible refine (impl_EntryOk.calls k a0_0 a0_1 a0_2 a0_3 a0_4 _ _ l0_5 false _ ?side1 ?side2 A2.out).mono ?_); (case side1 => exact z1r); (case side2 => exact HC0_5.out); rintro e w30 ⟨rfl, hb⟩; refine ⟨_, rfl, ?_⟩; have n0_ := zi (blk_below (g := gb199) (o := .cells #[.string a0_0, .int .i64 a0_1, .int .i64 a0_2, .int .i64 a0_3, .string a0_4, .slice A0_5 l0_5.length c0_5] 28 (0, 0)) z2b hb); have n1_ := zi (below_step z2c hb); clear BK199; clear HB; have BK199 := n0_; have HB := n1_; clear n0_ n1_; (try clear hb); (try clear hb2); (try clear hk); (try clear hi)))
  go_ret
  exact ⟨z1b, z2c⟩
def spec_l3Split.l0 : Nat → ByteArray → Int → List ByteArray → Int → Int → Option (List ByteArray)
 | 0, _, _, _, _, _ => none
 | k + 1, x0, x1, x5, x6, x7 => if x7 ≤ (x0.size : Int) then (if x7 = (x0.size : Int) then (if 0 ≤ x6 then (if x6 ≤ x7 then (if x5.length < 8796093022208 then (spec_l3Split.l0 k x0 x1 (x5 ++ [x0.extract (x6 : Int).toNat (x7 : Int).toNat]) (wrap64 (x7 + 1)) (wrap64 (x7 + 1))) else (none)) else (none)) else (none)) else (if 0 ≤ x7 then (if x7 < (x0.size : Int) then (if (bt x0 x7) = x1 then (if 0 ≤ x6 then (if x6 ≤ x7 then (if x5.length < 8796093022208 then (spec_l3Split.l0 k x0 x1 (x5 ++ [x0.extract (x6 : Int).toNat (x7 : Int).toNat]) (wrap64 (x7 + 1)) (wrap64 (x7 + 1))) else (none)) else (none)) else (none)) else (spec_l3Split.l0 k x0 x1 x5 x6 (wrap64 (x7 + 1)))) else (none)) else (none))) else (some x5)
def spec_l3Split.f (k : Nat) (a0 : ByteArray) (a1 : Int) : Option (List ByteArray) := spec_l3Split.l0 k a0 a1 (([] : List ByteArray)) 0 0
theorem spec_l3Split.mono_l : ∀ k, (∀ y0 y1 y2 y3 y4, LeO (spec_l3Split.l0 k y0 y1 y2 y3 y4) (spec_l3Split.l0 (k + 1) y0 y1 y2 y3 y4))
 | 0 => fun _ _ _ _ _ r h => by simp [spec_l3Split.l0] at h
 | k + 1 => by
  have ih0 := spec_l3Split.mono_l k
  ·intro y0 y1 y2 y3 y4
   unfold spec_l3Split.l0
   repeat' first
   | (with_reducible exact ih0 _ _ _ _ _)
   | (with_reducible exact LeO.refl _)
   | (with_reducible exact LeO.none _)
   | (with_reducible refine LeO.ite ?_ ?_)
   | (with_reducible refine LeO.bind ?_ (fun _ => ?_))
theorem spec_l3Split.mono : ∀ a0 a1 k, LeO (spec_l3Split.f k a0 a1) (spec_l3Split.f (k + 1) a0 a1) := by
 intro a0 a1 k
 have ih0 := spec_l3Split.mono_l k
 unfold spec_l3Split.f
 repeat' first
   | (with_reducible exact ih0 _ _ _ _ _)
   | (with_reducible exact LeO.refl _)
   | (with_reducible exact LeO.none _)
   | (with_reducible refine LeO.ite ?_ ?_)
   | (with_reducible refine LeO.bind ?_ (fun _ => ?_))
set_option maxHeartbeats 8000000 in
set_option maxRecDepth 100000 in
theorem spec_l3Split.calls (k : Nat) (a0 : ByteArray) (a1 : Int) (r : List ByteArray) (w : World) (h : spec_l3Split.f k a0 a1 = some r) :
  Calls Tryz.prog 56 #[.string a0, .int .u8 a1] w fun e w' => ∃ v0_ : Value, e = .returned (v0_) ∧ Kd.R Kd.string 9 w' w.heap.size (fun _ => True) v0_ r ∧ Below w.heap.size w w' := by
 have HB := zi (Below.refl w.heap.size w)
 have H := h
 unfold spec_l3Split.f at H
 clear h
 obtain ⟨y234, hy234⟩ : ∃ y_ : List ByteArray, y_ = (([] : List ByteArray)) := ⟨_, rfl⟩
 replace H : (spec_l3Split.l0 k a0 a1 y234 0 0) = some r := by first | (rw [hy234]; with_reducible exact H) | (have H2_ := (Option.bind_some _ _).symm.trans H; rw [hy234]; with_reducible exact H2_) | (have H2_ := (Option.bind_some _ _).symm.trans H; with_reducible exact H2_) | with_reducible exact H | (rw [hy234]; exact H) | exact H
 have Ny234 := zi hy234
 clear hy234
 have H' := zi H
 clear H
 go_enter Tryz.func56, Tryz.ntmps56
 go_wp2_with (first | ((with_reducible refine gate_dst (N := 8) rfl ?_); refine Kd.R_lit Kd.string _ 9 ?hg (N := 8) ?hd (xs := ([] : List ByteArray)) (inner := []) (ok := fun _ => True) (okp := fun _ => True) ?hr ?hp (fun _ hk => hk) trivial (Below.refl _ _) (Nat.le_refl _) (by simp) ?_; (case hd => exact zr); (case hg => exact zr); (case hr => exact z1h); (case hp => exact (Reps.none _ _)); intro v235 w3 ho4 hb hg_ hnew_; clear hg_ hnew_; (first | rw [← Ny234.out] at ho4 | (simp only [Int.reduceToNat] at ho4; rw [← Ny234.out] at ho4)); have n0_ := zi (Kd.R_lower ho4 (below_size zz)); have n1_ := zi (below_step zz hb); clear HB; have HO236 := n0_; have HB := n1_; clear n0_ n1_; clear hb ho4))
 go_loopg [5, 6, 7] k (fun kq v5 v6 v7 w' => ∃ (x5_1 : List ByteArray) (x6_1 : Int) (x7_1 : Int), v6 = .int .i64 x6_1 ∧ v7 = .int .i64 x7_1 ∧ Aside0 (spec_l3Split.l0 kq a0 a1 x5_1 x6_1 x7_1 = some r) ∧ Aside0 (kq ≤ k) ∧ Aside0 (Kd.R Kd.string 9 w' w.heap.size (fun _ => True) v5 x5_1) ∧ Aside0 (Below w.heap.size w w'))
 case atStart => exact ⟨(y234), (0), (0), zu, zu, H', ⟨Nat.le_refl _⟩, ⟨by (with_reducible repeat (first | apply Kd.R_alloc | apply Kd.R_drewN | apply Kd.R_drew)); exact HO236.out⟩, ⟨zz⟩⟩
 case round =>
  clear H'
  try clear p2
  obtain ⟨x5_1, x6_1, x7_1, rfl, rfl, HA, HK1, HO_5, HB⟩ := hrel
  cases gk with
  | zero => exact absurd HA.out (by simp [spec_l3Split.l0])
  | succ k1 =>
   have H := HA.out
   clear HA
   simp only [spec_l3Split.l0] at H
   by_cases c5 : x7_1 ≤ (a0.size : Int)
   ·rw [if_pos c5] at H
    have c5b0 := decide_eq_true c5
    clear c5
    by_cases c6 : x7_1 = (a0.size : Int)
    ·rw [if_pos c6] at H
     have c6b0 : (x7_1 == (a0.size : Int)) = true := beq_iff_eq.mpr c6
     have c6b1 : (x7_1 != (a0.size : Int)) = false := bne_eq_false_iff_eq.mpr c6
     clear c6
     by_cases c7 : 0 ≤ x6_1
     ·rw [if_pos c7] at H
      have c7b0 := eq_true c7
      have c7b1 := decide_eq_true c7
      clear c7
      by_cases c8 : x6_1 ≤ x7_1
      ·rw [if_pos c8] at H
       have c8b0 := eq_true c8
       have c8b1 := decide_eq_true c8
       clear c8
       have c9b0 := eq_true (of_decide_eq_true zw : x7_1 ≤ (a0.size : Int))
       by_cases c10 : x5_1.length < 8796093022208
       ·rw [if_pos c10] at H
        have LMc10 := zi c10
        clear c10
        obtain ⟨y237, hy237⟩ : ∃ y_ : List ByteArray, y_ = (x5_1 ++ [a0.extract (x6_1 : Int).toNat (x7_1 : Int).toNat]) := ⟨_, rfl⟩
        replace H : (spec_l3Split.l0 k1 a0 a1 y237 (wrap64 (x7_1 + 1)) (wrap64 (x7_1 + 1))) = some r := by first | (rw [hy237]; with_reducible exact H) | (have H2_ := (Option.bind_some _ _).symm.trans H; rw [hy237]; with_reducible exact H2_) | (have H2_ := (Option.bind_some _ _).symm.trans H; with_reducible exact H2_) | with_reducible exact H | (rw [hy237]; exact H) | exact H
        have Ny237 := zi hy237
        clear hy237
        have H' := zi H
        clear H
        go_wp2_with (first | ((with_reducible refine gate_builtin (b := .append) (xs := #[.tmp 26, .tmp 31]) rfl ?_); at_builtin; refine Kd.R_append Kd.string (w0 := w) w.heap.size rfl (.tmp 26) (.tmp 31) 55 9 (.string ⟨#[]⟩) 16 rfl Tryz.underlying55 info9 rfl zt zp u5 x5_1 (a0.extract (x6_1 : Int).toNat (x7_1 : Int).toNat) [.string (a0.extract (x6_1 : Int).toNat (x7_1 : Int).toNat)] (fun _ => True) (fun _ => False) rfl rfl ?aP (fun _ hk => hk.elim) ?aF ?aO ?aB ?aS ?aL ?_; (case aP => exact rfl); (case aB => exact zz); (case aF => exact (fun _ _ => trivial)); (case aO => exact z2g); (case aS => exact (below_size zz)); (case aL => have := LMc10.out; omega); intro v238 w11 ho hb hg hat; rw [← Ny237.out] at ho; have n0_ := zi hb; have n1_ := zi ho; clear HB; clear HO_5; have HB := n0_; have HO239 := n1_; clear n0_ n1_; clear ho hb hg hat))
        go_roundg k1
        case measure => have := HK1.out; omega
        case rel => exact ⟨(y237), (wrap64 (x7_1 + 1)), (wrap64 (x7_1 + 1)), zu, zu, H', ⟨zx⟩, ⟨by (with_reducible repeat (first | apply Kd.R_alloc | apply Kd.R_drewN | apply Kd.R_drew)); exact HO239.out⟩, ⟨zz⟩⟩
       ·rw [if_neg c10] at H
        exact absurd H (by simp)
      ·rw [if_neg c8] at H
       exact absurd H (by simp)
     ·rw [if_neg c7] at H
      exact absurd H (by simp)
    ·rw [if_neg c6] at H
     have c6b0 : (x7_1 == (a0.size : Int)) = false := beq_eq_false_iff_ne.mpr c6
     have c6b1 : (x7_1 != (a0.size : Int)) = true := bne_iff_ne.mpr c6
     by_cases c12 : 0 ≤ x7_1
     ·rw [if_pos c12] at H
      have c12b0 := decide_eq_true c12
      clear c12
      by_cases c13 : x7_1 < (a0.size : Int)
      ·rw [if_pos c13] at H
       have c13b0 := decide_eq_true c13
       clear c13
       by_cases c15 : (bt a0 x7_1) = a1
       ·rw [if_pos c15] at H
        have c15b0 : ((bt a0 x7_1) == a1) = true := beq_iff_eq.mpr c15
        have c15b1 : ((bt a0 x7_1) != a1) = false := bne_eq_false_iff_eq.mpr c15
        clear c15
        by_cases c16 : 0 ≤ x6_1
        ·rw [if_pos c16] at H
         have c16b0 := eq_true c16
         have c16b1 := decide_eq_true c16
         clear c16
         by_cases c17 : x6_1 ≤ x7_1
         ·rw [if_pos c17] at H
          have c17b0 := eq_true c17
          have c17b1 := decide_eq_true c17
          clear c17
          have c18b0 := eq_true (of_decide_eq_true zw : x7_1 ≤ (a0.size : Int))
          by_cases c19 : x5_1.length < 8796093022208
          ·rw [if_pos c19] at H
           have LMc19 := zi c19
           clear c19
           obtain ⟨y240, hy240⟩ : ∃ y_ : List ByteArray, y_ = (x5_1 ++ [a0.extract (x6_1 : Int).toNat (x7_1 : Int).toNat]) := ⟨_, rfl⟩
           replace H : (spec_l3Split.l0 k1 a0 a1 y240 (wrap64 (x7_1 + 1)) (wrap64 (x7_1 + 1))) = some r := by first | (rw [hy240]; with_reducible exact H) | (have H2_ := (Option.bind_some _ _).symm.trans H; rw [hy240]; with_reducible exact H2_) | (have H2_ := (Option.bind_some _ _).symm.trans H; with_reducible exact H2_) | with_reducible exact H | (rw [hy240]; exact H) | exact H
           have Ny240 := zi hy240
           clear hy240
           have H' := zi H
           clear H
           have p14 : 0 ≤ (x7_1 : Int) := of_decide_eq_true zw
           have q14 : x7_1 < (a0.size : Int) := of_decide_eq_true zw
           have hx14 := bt_at a0 x7_1
           replace p14 := eq_true p14
           replace q14 := eq_true q14
           go_wp2_with (first | ((with_reducible refine gate_builtin (b := .append) (xs := #[.tmp 26, .tmp 31]) rfl ?_); at_builtin; refine Kd.R_append Kd.string (w0 := w) w.heap.size rfl (.tmp 26) (.tmp 31) 55 9 (.string ⟨#[]⟩) 16 rfl Tryz.underlying55 info9 rfl zt zp u5 x5_1 (a0.extract (x6_1 : Int).toNat (x7_1 : Int).toNat) [.string (a0.extract (x6_1 : Int).toNat (x7_1 : Int).toNat)] (fun _ => True) (fun _ => False) rfl rfl ?aP (fun _ hk => hk.elim) ?aF ?aO ?aB ?aS ?aL ?_; (case aP => exact rfl); (case aB => exact zz); (case aF => exact (fun _ _ => trivial)); (case aO => exact z2g); (case aS => exact (below_size zz)); (case aL => exact z2h); intro v241 w20 ho hb hg hat; rw [← Ny240.out] at ho; have n0_ := zi hb; have n1_ := zi ho; clear HB; clear HO_5; have HB := n0_; have HO242 := n1_; clear n0_ n1_; clear ho hb hg hat))
           go_roundg k1
           case measure => have := HK1.out; omega
           case rel => exact ⟨(y240), (wrap64 (x7_1 + 1)), (wrap64 (x7_1 + 1)), zu, zu, H', ⟨zx⟩, ⟨by (with_reducible repeat (first | apply Kd.R_alloc | apply Kd.R_drewN | apply Kd.R_drew)); exact HO242.out⟩, ⟨zz⟩⟩
          ·rw [if_neg c19] at H
           exact absurd H (by simp)
         ·rw [if_neg c17] at H
          exact absurd H (by simp)
        ·rw [if_neg c16] at H
         exact absurd H (by simp)
       ·rw [if_neg c15] at H
        have c15b0 : ((bt a0 x7_1) == a1) = false := beq_eq_false_iff_ne.mpr c15
        have c15b1 : ((bt a0 x7_1) != a1) = true := bne_iff_ne.mpr c15
        have H' := zi H
        clear H
        have p14 : 0 ≤ (x7_1 : Int) := of_decide_eq_true zw
        have q14 : x7_1 < (a0.size : Int) := of_decide_eq_true zw
        have hx14 := bt_at a0 x7_1
        replace p14 := eq_true p14
        replace q14 := eq_true q14
        go_wp2
        go_roundg k1
        case measure => have := HK1.out; omega
        case rel => exact ⟨(x5_1), (x6_1), (wrap64 (x7_1 + 1)), zu, zu, H', ⟨zx⟩, ⟨z2g⟩, ⟨zz⟩⟩
      ·rw [if_neg c13] at H
       exact absurd H (by simp)
     ·rw [if_neg c12] at H
      exact absurd H (by simp)
   ·rw [if_neg c5] at H
    have c5b0 := decide_eq_false c5
    clear c5
    obtain rfl := Option.some.inj H
    go_wp2
    go_ret
    exact ⟨_, z1b, z2g, zz⟩
def spec_l1In.f (a0 : Int) (a1 : Int) (a2 : Int) : Option (Bool) := if a0 ≥ a1 then (some (decide (a0 ≤ a2))) else (some false)
set_option maxHeartbeats 8000000 in
set_option maxRecDepth 100000 in
theorem spec_l1In.calls (a0 : Int) (a1 : Int) (a2 : Int) (r : Bool) (w : World) (h : spec_l1In.f a0 a1 a2 = some r) :
  Calls Tryz.prog 93 #[.int .i64 a0, .int .i64 a1, .int .i64 a2] w fun e w' => e = .returned (.bool r) ∧ Drawn0 w w' := by
 have H := h
 unfold spec_l1In.f at H
 clear h
 by_cases c4 : a0 ≥ a1
 ·rw [if_pos c4] at H
  have c4b0 := decide_eq_true c4
  clear c4
  obtain rfl := Option.some.inj H
  go_enter Tryz.func93, Tryz.ntmps93
  go_wp2
  go_ret
  exact ⟨zu, zv⟩
 ·rw [if_neg c4] at H
  have c4b0 := decide_eq_false c4
  clear c4
  obtain rfl := Option.some.inj H
  go_enter Tryz.func93, Tryz.ntmps93
  go_wp2
  go_ret
  exact ⟨zu, zv⟩
def spec_l4Part.l0 : Nat → ByteArray → Int → Option (Bool)
 | 0, _, _ => none
 | k + 1, x0, x3 => if x3 < (x0.size : Int) then (if 0 ≤ x3 then ((spec_l1In.f (wrap64 (bt x0 x3)) 97 122).bind fun t244 => (if t244 = true then (spec_l4Part.l0 k x0 (wrap64 (x3 + 1))) else ((spec_l1In.f (wrap64 (bt x0 x3)) 48 57).bind fun t245 => (if t245 = true then (spec_l4Part.l0 k x0 (wrap64 (x3 + 1))) else (if x3 = 0 then (some false) else (if (wrap64 (bt x0 x3)) = 45 then (spec_l4Part.l0 k x0 (wrap64 (x3 + 1))) else (if (wrap64 (bt x0 x3)) = 46 then (spec_l4Part.l0 k x0 (wrap64 (x3 + 1))) else (if (wrap64 (bt x0 x3)) = 95 then (spec_l4Part.l0 k x0 (wrap64 (x3 + 1))) else (some false))))))))) else (none)) else ((spec_l1In.f (x0.size : Int) 1 20).bind fun t243 => (some t243))
def spec_l4Part.f (k : Nat) (a0 : ByteArray) : Option (Bool) := spec_l4Part.l0 k a0 0
theorem spec_l4Part.mono_l : ∀ k, (∀ y0 y1, LeO (spec_l4Part.l0 k y0 y1) (spec_l4Part.l0 (k + 1) y0 y1))
 | 0 => fun _ _ r h => by simp [spec_l4Part.l0] at h
 | k + 1 => by
  have ih0 := spec_l4Part.mono_l k
  ·intro y0 y1
   unfold spec_l4Part.l0
   repeat' first
   | (with_reducible exact ih0 _ _)
   | (with_reducible exact LeO.refl _)
   | (with_reducible exact LeO.none _)
   | (with_reducible refine LeO.ite ?_ ?_)
   | (with_reducible refine LeO.bind ?_ (fun _ => ?_))
theorem spec_l4Part.mono : ∀ a0 k, LeO (spec_l4Part.f k a0) (spec_l4Part.f (k + 1) a0) := by
 intro a0 k
 have ih0 := spec_l4Part.mono_l k
 unfold spec_l4Part.f
 repeat' first
   | (with_reducible exact ih0 _ _)
   | (with_reducible exact LeO.refl _)
   | (with_reducible exact LeO.none _)
   | (with_reducible refine LeO.ite ?_ ?_)
   | (with_reducible refine LeO.bind ?_ (fun _ => ?_))
set_option maxHeartbeats 8000000 in
set_option maxRecDepth 100000 in
theorem spec_l4Part.calls (k : Nat) (a0 : ByteArray) (r : Bool) (w : World) (h : spec_l4Part.f k a0 = some r) :
  Calls Tryz.prog 108 #[.string a0] w fun e w' => e = .returned (.bool r) ∧ Drawn0 w w' := by
 have H := h
 unfold spec_l4Part.f at H
 clear h
 have H' := zi H
 clear H
 go_enter Tryz.func108, Tryz.ntmps108
 go_wp2
 go_loopg [3] k (fun kq v3 w' => ∃ (x3_1 : Int), v3 = .int .i64 x3_1 ∧ Aside0 (spec_l4Part.l0 kq a0 x3_1 = some r) ∧ Aside0 (kq ≤ k) ∧ Drawn0 w w')
 case atStart => exact ⟨(0), zu, H', ⟨Nat.le_refl _⟩, zv⟩
 case round =>
  clear H'
  try clear c1
  obtain ⟨x3_1, rfl, HA, HK1, ⟨m1, rfl⟩⟩ := hrel
  cases gk with
  | zero => exact absurd HA.out (by simp [spec_l4Part.l0])
  | succ k1 =>
   have H := HA.out
   clear HA
   simp only [spec_l4Part.l0] at H
   by_cases c2 : x3_1 < (a0.size : Int)
   ·rw [if_pos c2] at H
    have c2b0 := decide_eq_true c2
    clear c2
    by_cases c3 : 0 ≤ x3_1
    ·rw [if_pos c3] at H
     have c3b0 := decide_eq_true c3
     clear c3
     replace H := Option.bind_eq_some_iff.mp H
     obtain ⟨t244, A50, H⟩ := H
     try dsimp only at H
     have A5 := zi A50
     clear A50
     by_cases c6 : t244 = true
     ·subst c6
      rw [if_pos rfl] at H
      have H' := zi H
      clear H
      have p4 : 0 ≤ (x3_1 : Int) := of_decide_eq_true zw
      have q4 : x3_1 < (a0.size : Int) := of_decide_eq_true zw
      have hx4 := bt_at a0 x3_1
      replace p4 := eq_true p4
      replace q4 := eq_true q4
      go_wp2_with (first | ((with_reducible refine gate_callee (f := 93) rfl ?_); refine goesL_ (some 17) rfl rfl Tryz.func93 zq rfl #[.int .i64 (wrap64 (bt a0 x3_1)), .int .i64 97, .int .i64 122] rfl zy ?_; (with_reducible refine (spec_l1In.calls (wrap64 (bt a0 x3_1)) 97 122 true _ A5.out).mono ?_); rintro e w' ⟨rfl, ⟨nd, rfl⟩⟩; refine ⟨_, rfl, ?_⟩))
      go_roundg k1
      case measure => have := HK1.out; omega
      case rel => exact ⟨(wrap64 (x3_1 + 1)), zu, H', ⟨zx⟩, zv⟩
     ·replace c6 := Bool.eq_false_iff.mpr c6
      subst c6
      rw [if_neg zh] at H
      replace H := Option.bind_eq_some_iff.mp H
      obtain ⟨t245, A70, H⟩ := H
      try dsimp only at H
      have A7 := zi A70
      clear A70
      by_cases c8 : t245 = true
      ·subst c8
       rw [if_pos rfl] at H
       have H' := zi H
       clear H
       have p4 : 0 ≤ (x3_1 : Int) := of_decide_eq_true zw
       have q4 : x3_1 < (a0.size : Int) := of_decide_eq_true zw
       have hx4 := bt_at a0 x3_1
       replace p4 := eq_true p4
       replace q4 := eq_true q4
       go_wp2_with (first | ((with_reducible refine gate_callee (f := 93) rfl ?_); refine goesL_ (some 17) rfl rfl Tryz.func93 zq rfl #[.int .i64 (wrap64 (bt a0 x3_1)), .int .i64 97, .int .i64 122] rfl zy ?_; (with_reducible refine (spec_l1In.calls (wrap64 (bt a0 x3_1)) 97 122 false _ A5.out).mono ?_); rintro e w' ⟨rfl, ⟨nd, rfl⟩⟩; refine ⟨_, rfl, ?_⟩) | (go_at_call 93; (with_reducible refine (spec_l1In.calls (wrap64 (bt a0 x3_1)) 48 57 true _ A7.out).mono ?_); rintro e w' ⟨rfl, ⟨nd, rfl⟩⟩))
       go_roundg k1
       case measure => have := HK1.out; omega
       case rel => exact ⟨(wrap64 (x3_1 + 1)), zu, H', ⟨zx⟩, zv⟩
      ·replace c8 := Bool.eq_false_iff.mpr c8
       subst c8
       rw [if_neg zh] at H
       by_cases c9 : x3_1 = 0
       ·rw [if_pos c9] at H
        have c9b0 : (x3_1 == 0) = true := beq_iff_eq.mpr c9
        have c9b1 : (x3_1 != 0) = false := bne_eq_false_iff_eq.mpr c9
        clear c9
        obtain rfl := Option.some.inj H
        have p4 : 0 ≤ (x3_1 : Int) := of_decide_eq_true zw
        have q4 : x3_1 < (a0.size : Int) := of_decide_eq_true zw
        have hx4 := bt_at a0 x3_1
        replace p4 := eq_true p4
        replace q4 := eq_true q4
        go_wp2_with (first | ((with_reducible refine gate_callee (f := 93) rfl ?_); refine goesL_ (some 17) rfl rfl Tryz.func93 zq rfl #[.int .i64 (wrap64 (bt a0 x3_1)), .int .i64 97, .int .i64 122] rfl zy ?_; (with_reducible refine (spec_l1In.calls (wrap64 (bt a0 x3_1)) 97 122 false _ A5.out).mono ?_); rintro e w' ⟨rfl, ⟨nd, rfl⟩⟩; refine ⟨_, rfl, ?_⟩) | (go_at_call 93; (with_reducible refine (spec_l1In.calls (wrap64 (bt a0 x3_1)) 48 57 false _ A7.out).mono ?_); rintro e w' ⟨rfl, ⟨nd, rfl⟩⟩))
        go_ret
        exact ⟨zu, zv⟩
       ·rw [if_neg c9] at H
        have c9b0 : (x3_1 == 0) = false := beq_eq_false_iff_ne.mpr c9
        have c9b1 : (x3_1 != 0) = true := bne_iff_ne.mpr c9
        by_cases c10 : (wrap64 (bt a0 x3_1)) = 45
        ·rw [if_pos c10] at H
         have c10b0 : ((wrap64 (bt a0 x3_1)) == 45) = true := beq_iff_eq.mpr c10
         have c10b1 : ((wrap64 (bt a0 x3_1)) != 45) = false := bne_eq_false_iff_eq.mpr c10
         clear c10
         have H' := zi H
         clear H
         have p4 : 0 ≤ (x3_1 : Int) := of_decide_eq_true zw
         have q4 : x3_1 < (a0.size : Int) := of_decide_eq_true zw
         have hx4 := bt_at a0 x3_1
         replace p4 := eq_true p4
         replace q4 := eq_true q4
         go_wp2_with (first | ((with_reducible refine gate_callee (f := 93) rfl ?_); refine goesL_ (some 17) rfl rfl Tryz.func93 zq rfl #[.int .i64 (wrap64 (bt a0 x3_1)), .int .i64 97, .int .i64 122] rfl zy ?_; (with_reducible refine (spec_l1In.calls (wrap64 (bt a0 x3_1)) 97 122 false _ A5.out).mono ?_); rintro e w' ⟨rfl, ⟨nd, rfl⟩⟩; refine ⟨_, rfl, ?_⟩) | (go_at_call 93; (with_reducible refine (spec_l1In.calls (wrap64 (bt a0 x3_1)) 48 57 false _ A7.out).mono ?_); rintro e w' ⟨rfl, ⟨nd, rfl⟩⟩))
         go_roundg k1
         case measure => have := HK1.out; omega
         case rel => exact ⟨(wrap64 (x3_1 + 1)), zu, H', ⟨zx⟩, zv⟩
        ·rw [if_neg c10] at H
         have c10b0 : ((wrap64 (bt a0 x3_1)) == 45) = false := beq_eq_false_iff_ne.mpr c10
         have c10b1 : ((wrap64 (bt a0 x3_1)) != 45) = true := bne_iff_ne.mpr c10
         by_cases c11 : (wrap64 (bt a0 x3_1)) = 46
         ·rw [if_pos c11] at H
          have c11b0 : ((wrap64 (bt a0 x3_1)) == 46) = true := beq_iff_eq.mpr c11
          have c11b1 : ((wrap64 (bt a0 x3_1)) != 46) = false := bne_eq_false_iff_eq.mpr c11
          clear c11
          have H' := zi H
          clear H
          have p4 : 0 ≤ (x3_1 : Int) := of_decide_eq_true zw
          have q4 : x3_1 < (a0.size : Int) := of_decide_eq_true zw
          have hx4 := bt_at a0 x3_1
          replace p4 := eq_true p4
          replace q4 := eq_true q4
          go_wp2_with (first | ((with_reducible refine gate_callee (f := 93) rfl ?_); refine goesL_ (some 17) rfl rfl Tryz.func93 zq rfl #[.int .i64 (wrap64 (bt a0 x3_1)), .int .i64 97, .int .i64 122] rfl zy ?_; (with_reducible refine (spec_l1In.calls (wrap64 (bt a0 x3_1)) 97 122 false _ A5.out).mono ?_); rintro e w' ⟨rfl, ⟨nd, rfl⟩⟩; refine ⟨_, rfl, ?_⟩) | (go_at_call 93; (with_reducible refine (spec_l1In.calls (wrap64 (bt a0 x3_1)) 48 57 false _ A7.out).mono ?_); rintro e w' ⟨rfl, ⟨nd, rfl⟩⟩))
          go_roundg k1
          case measure => have := HK1.out; omega
          case rel => exact ⟨(wrap64 (x3_1 + 1)), zu, H', ⟨zx⟩, zv⟩
         ·rw [if_neg c11] at H
          have c11b0 : ((wrap64 (bt a0 x3_1)) == 46) = false := beq_eq_false_iff_ne.mpr c11
          have c11b1 : ((wrap64 (bt a0 x3_1)) != 46) = true := bne_iff_ne.mpr c11
          by_cases c12 : (wrap64 (bt a0 x3_1)) = 95
          ·rw [if_pos c12] at H
           have c12b0 : ((wrap64 (bt a0 x3_1)) == 95) = true := beq_iff_eq.mpr c12
           have c12b1 : ((wrap64 (bt a0 x3_1)) != 95) = false := bne_eq_false_iff_eq.mpr c12
           clear c12
           have H' := zi H
           clear H
           have p4 : 0 ≤ (x3_1 : Int) := of_decide_eq_true zw
           have q4 : x3_1 < (a0.size : Int) := of_decide_eq_true zw
           have hx4 := bt_at a0 x3_1
           replace p4 := eq_true p4
           replace q4 := eq_true q4
           go_wp2_with (first | ((with_reducible refine gate_callee (f := 93) rfl ?_); refine goesL_ (some 17) rfl rfl Tryz.func93 zq rfl #[.int .i64 (wrap64 (bt a0 x3_1)), .int .i64 97, .int .i64 122] rfl zy ?_; (with_reducible refine (spec_l1In.calls (wrap64 (bt a0 x3_1)) 97 122 false _ A5.out).mono ?_); rintro e w' ⟨rfl, ⟨nd, rfl⟩⟩; refine ⟨_, rfl, ?_⟩) | (go_at_call 93; (with_reducible refine (spec_l1In.calls (wrap64 (bt a0 x3_1)) 48 57 false _ A7.out).mono ?_); rintro e w' ⟨rfl, ⟨nd, rfl⟩⟩))
           go_roundg k1
           case measure => have := HK1.out; omega
           case rel => exact ⟨(wrap64 (x3_1 + 1)), zu, H', ⟨zx⟩, zv⟩
          ·rw [if_neg c12] at H
           have c12b0 : ((wrap64 (bt a0 x3_1)) == 95) = false := beq_eq_false_iff_ne.mpr c12
           have c12b1 : ((wrap64 (bt a0 x3_1)) != 95) = true := bne_iff_ne.mpr c12
           obtain rfl := Option.some.inj H
           have p4 : 0 ≤ (x3_1 : Int) := of_decide_eq_true zw
           have q4 : x3_1 < (a0.size : Int) := of_decide_eq_true zw
           have hx4 := bt_at a0 x3_1
           replace p4 := eq_true p4
           replace q4 := eq_true q4
           go_wp2_with (first | ((with_reducible refine gate_callee (f := 93) rfl ?_); refine goesL_ (some 17) rfl rfl Tryz.func93 zq rfl #[.int .i64 (wrap64 (bt a0 x3_1)), .int .i64 97, .int .i64 122] rfl zy ?_; (with_reducible refine (spec_l1In.calls (wrap64 (bt a0 x3_1)) 97 122 false _ A5.out).mono ?_); rintro e w' ⟨rfl, ⟨nd, rfl⟩⟩; refine ⟨_, rfl, ?_⟩) | (go_at_call 93; (with_reducible refine (spec_l1In.calls (wrap64 (bt a0 x3_1)) 48 57 false _ A7.out).mono ?_); rintro e w' ⟨rfl, ⟨nd, rfl⟩⟩))
           go_ret
           exact ⟨zu, zv⟩
    ·rw [if_neg c3] at H
     exact absurd H (by simp)
   ·rw [if_neg c2] at H
    have c2b0 := decide_eq_false c2
    clear c2
    replace H := Option.bind_eq_some_iff.mp H
    obtain ⟨t243, A130, H⟩ := H
    try dsimp only at H
    have A13 := zi A130
    clear A130
    obtain rfl := Option.some.inj H
    go_wp2_with (first | ((with_reducible refine gate_callee (f := 93) rfl ?_); refine goesL_ (some 42) rfl rfl Tryz.func93 zq rfl #[.int .i64 (a0.size : Int), .int .i64 1, .int .i64 20] rfl zy ?_; (with_reducible refine (spec_l1In.calls (a0.size : Int) 1 20 t243 _ A13.out).mono ?_); rintro e w' ⟨rfl, ⟨nd, rfl⟩⟩; refine ⟨_, rfl, ?_⟩))
    go_ret
    exact ⟨zu, zv⟩
def spec_PathOk.l0 : Nat → ByteArray → List ByteArray → Int → Option (Bool)
 | 0, _, _, _ => none
 | k + 1, x0, x3, x4 => if x4 < (x3.length : Int) then (if 0 ≤ x4 then ((spec_l4Part.f k (rdOf ByteArray.empty x3 x4)).bind fun t250 => (if t250 = true then (spec_PathOk.l0 k x0 x3 (wrap64 (x4 + 1))) else (some false))) else (none)) else (if (x3.length : Int) ≤ 6 then (some (decide ((x0.size : Int) ≤ 60))) else (some false))
def spec_PathOk.f (k : Nat) (a0 : ByteArray) : Option (Bool) := (spec_l3Split.f k a0 47).bind fun t246 => (spec_PathOk.l0 k a0 t246 0)
theorem spec_PathOk.mono_l : ∀ k, (∀ y0 y1 y2, LeO (spec_PathOk.l0 k y0 y1 y2) (spec_PathOk.l0 (k + 1) y0 y1 y2))
 | 0 => fun _ _ _ r h => by simp [spec_PathOk.l0] at h
 | k + 1 => by
  have ih0 := spec_PathOk.mono_l k
  ·intro y0 y1 y2
   unfold spec_PathOk.l0
   repeat' first
   | (with_reducible exact ih0 _ _ _)
   | (with_reducible exact spec_l3Split.mono _ _ _)
   | (with_reducible exact spec_l4Part.mono _ _)
   | (with_reducible exact LeO.refl _)
   | (with_reducible exact LeO.none _)
   | (with_reducible refine LeO.ite ?_ ?_)
   | (with_reducible refine LeO.bind ?_ (fun _ => ?_))
theorem spec_PathOk.mono : ∀ a0 k, LeO (spec_PathOk.f k a0) (spec_PathOk.f (k + 1) a0) := by
 intro a0 k
 have ih0 := spec_PathOk.mono_l k
 unfold spec_PathOk.f
 repeat' first
   | (with_reducible exact ih0 _ _ _)
   | (with_reducible exact spec_l3Split.mono _ _ _)
   | (with_reducible exact spec_l4Part.mono _ _)
   | (with_reducible exact LeO.refl _)
   | (with_reducible exact LeO.none _)
   | (with_reducible refine LeO.ite ?_ ?_)
   | (with_reducible refine LeO.bind ?_ (fun _ => ?_))
set_option maxHeartbeats 8000000 in
set_option maxRecDepth 100000 in
theorem spec_PathOk.calls (k : Nat) (a0 : ByteArray) (r : Bool) (w : World) (h : spec_PathOk.f k a0 = some r) :
  Calls Tryz.prog 91 #[.string a0] w fun e w' => e = .returned (.bool r) ∧ Below w.heap.size w w' := by
 have HB := zi (Below.refl w.heap.size w)
 have H := h
 unfold spec_PathOk.f at H
 clear h
 replace H := Option.bind_eq_some_iff.mp H
 obtain ⟨t246, A20, H⟩ := H
 try dsimp only at H
 have A2 := zi A20
 clear A20
 have H' := zi H
 clear H
 go_enter Tryz.func91, Tryz.ntmps91
 go_wp2_with (first | ((with_reducible refine gate_callee (f := 56) rfl ?_); refine goesL_ (some 6) rfl rfl Tryz.func56 zq rfl #[.string a0, .int .u8 47] rfl zy ?_; (with_reducible refine (spec_l3Split.calls k a0 47 t246 _ A2.out).mono ?_); rintro e w3 ⟨v247, rfl, ho0, hb⟩; refine ⟨_, rfl, ?_⟩; have n0_ := zi (Kd.R_lower ho0 (below_size zz)); have n1_ := zi (below_step zz hb); clear HB; have HO248 := n0_; have HB := n1_; clear n0_ n1_; (try clear hb); (try clear hb2); (try clear hk); (try clear hi); (try clear ho0)))
 go_loopg [4] k (fun kq v4 w' => ∃ (x4_1 : Int), v4 = .int .i64 x4_1 ∧ Aside0 (spec_PathOk.l0 kq a0 t246 x4_1 = some r) ∧ Aside0 (kq ≤ k) ∧ Aside0 (Kd.R Kd.string 9 w' w.heap.size (fun _ => True) v247 t246) ∧ Aside0 (Below w.heap.size w w'))
 case atStart => exact ⟨(0), zu, H', ⟨Nat.le_refl _⟩, ⟨by (with_reducible repeat (first | apply Kd.R_alloc | apply Kd.R_drewN | apply Kd.R_drew)); exact HO248.out⟩, ⟨zz⟩⟩
 case round =>
  clear H'
  try clear p2
  obtain ⟨x4_1, rfl, HA, HK1, HO_3, HB⟩ := hrel
  cases gk with
  | zero => exact absurd HA.out (by simp [spec_PathOk.l0])
  | succ k1 =>
   have H := HA.out
   clear HA
   simp only [spec_PathOk.l0] at H
   by_cases c4 : x4_1 < (t246.length : Int)
   ·rw [if_pos c4] at H
    have c4b0 := decide_eq_true c4
    clear c4
    by_cases c5 : 0 ≤ x4_1
    ·rw [if_pos c5] at H
     have c5b0 := decide_eq_true c5
     clear c5
     replace H := Option.bind_eq_some_iff.mp H
     obtain ⟨t250, A60, H⟩ := H
     try dsimp only at H
     have A6 := zi A60
     clear A60
     by_cases c7 : t250 = true
     ·subst c7
      rw [if_pos rfl] at H
      have H' := zi H
      clear H
      obtain ⟨Ao8, co8, eo8⟩ := Kd.R_slice HO_3.out
      subst eo8
      have p249 : 0 ≤ (x4_1 : Int) := of_decide_eq_true zw
      have q249 : x4_1 < (t246.length : Int) := of_decide_eq_true zw
      obtain ⟨ad249, e249, hx249_0⟩ := Kd.at_string (Kd.R_reads' HO_3.out).2.2 x4_1 p249 q249
      cases e249
      replace p249 := eq_true p249
      replace q249 := eq_true q249
      go_wp2_with (first | ((with_reducible refine gate_callee (f := 108) rfl ?_); refine goesL_ (some 17) rfl rfl Tryz.func108 zq rfl #[.string (rdOf ByteArray.empty t246 x4_1)] rfl zy ?_; (with_reducible refine (spec_l4Part.calls k1 (rdOf ByteArray.empty t246 x4_1) true _ A6.out).mono ?_); rintro e w' ⟨rfl, ⟨nd, rfl⟩⟩; refine ⟨_, rfl, ?_⟩))
      go_roundg k1
      case measure => have := HK1.out; omega
      case rel => exact ⟨(wrap64 (x4_1 + 1)), zu, H', ⟨zx⟩, ⟨z1a⟩, ⟨zz⟩⟩
     ·replace c7 := Bool.eq_false_iff.mpr c7
      subst c7
      rw [if_neg zh] at H
      obtain rfl := Option.some.inj H
      obtain ⟨Ao9, co9, eo9⟩ := Kd.R_slice HO_3.out
      subst eo9
      have p249 : 0 ≤ (x4_1 : Int) := of_decide_eq_true zw
      have q249 : x4_1 < (t246.length : Int) := of_decide_eq_true zw
      obtain ⟨ad249, e249, hx249_0⟩ := Kd.at_string (Kd.R_reads' HO_3.out).2.2 x4_1 p249 q249
      cases e249
      replace p249 := eq_true p249
      replace q249 := eq_true q249
      go_wp2_with (first | ((with_reducible refine gate_callee (f := 108) rfl ?_); refine goesL_ (some 17) rfl rfl Tryz.func108 zq rfl #[.string (rdOf ByteArray.empty t246 x4_1)] rfl zy ?_; (with_reducible refine (spec_l4Part.calls k1 (rdOf ByteArray.empty t246 x4_1) false _ A6.out).mono ?_); rintro e w' ⟨rfl, ⟨nd, rfl⟩⟩; refine ⟨_, rfl, ?_⟩))
      go_ret
      exact ⟨z1b, zz⟩
    ·rw [if_neg c5] at H
     exact absurd H (by simp)
   ·rw [if_neg c4] at H
    have c4b0 := decide_eq_false c4
    clear c4
    by_cases c10 : (t246.length : Int) ≤ 6
    ·rw [if_pos c10] at H
     have c10b0 := decide_eq_true c10
     have c10b1 : decide (t246.length ≤ 6) = true := decide_eq_true zp
     clear c10
     obtain rfl := Option.some.inj H
     obtain ⟨Ao11, co11, eo11⟩ := Kd.R_slice HO_3.out
     subst eo11
     go_wp2
     go_ret
     exact ⟨z1b, zz⟩
    ·rw [if_neg c10] at H
     have c10b0 := decide_eq_false c10
     have c10b1 : decide (t246.length ≤ 6) = false := decide_eq_false zp
     clear c10
     obtain rfl := Option.some.inj H
     obtain ⟨Ao12, co12, eo12⟩ := Kd.R_slice HO_3.out
     subst eo12
     go_wp2
     go_ret
     exact ⟨z1b, zz⟩
def spec_l3Digits.l0 : Nat → ByteArray → Int → Option (Bool)
 | 0, _, _ => none
 | k + 1, x0, x3 => if x3 < (x0.size : Int) then (if 0 ≤ x3 then ((spec_l1In.f (wrap64 (bt x0 x3)) 48 57).bind fun t251 => (if t251 = true then (spec_l3Digits.l0 k x0 (wrap64 (x3 + 1))) else (some false))) else (none)) else (some (x0.toList != ([] : List UInt8)))
def spec_l3Digits.f (k : Nat) (a0 : ByteArray) : Option (Bool) := spec_l3Digits.l0 k a0 0
theorem spec_l3Digits.mono_l : ∀ k, (∀ y0 y1, LeO (spec_l3Digits.l0 k y0 y1) (spec_l3Digits.l0 (k + 1) y0 y1))
 | 0 => fun _ _ r h => by simp [spec_l3Digits.l0] at h
 | k + 1 => by
  have ih0 := spec_l3Digits.mono_l k
  ·intro y0 y1
   unfold spec_l3Digits.l0
   repeat' first
   | (with_reducible exact ih0 _ _)
   | (with_reducible exact LeO.refl _)
   | (with_reducible exact LeO.none _)
   | (with_reducible refine LeO.ite ?_ ?_)
   | (with_reducible refine LeO.bind ?_ (fun _ => ?_))
theorem spec_l3Digits.mono : ∀ a0 k, LeO (spec_l3Digits.f k a0) (spec_l3Digits.f (k + 1) a0) := by
 intro a0 k
 have ih0 := spec_l3Digits.mono_l k
 unfold spec_l3Digits.f
 repeat' first
   | (with_reducible exact ih0 _ _)
   | (with_reducible exact LeO.refl _)
   | (with_reducible exact LeO.none _)
   | (with_reducible refine LeO.ite ?_ ?_)
   | (with_reducible refine LeO.bind ?_ (fun _ => ?_))
set_option maxHeartbeats 8000000 in
set_option maxRecDepth 100000 in
theorem spec_l3Digits.calls (k : Nat) (a0 : ByteArray) (r : Bool) (w : World) (h : spec_l3Digits.f k a0 = some r) :
  Calls Tryz.prog 107 #[.string a0] w fun e w' => e = .returned (.bool r) ∧ Drawn0 w w' := by
 have H := h
 unfold spec_l3Digits.f at H
 clear h
 have H' := zi H
 clear H
 go_enter Tryz.func107, Tryz.ntmps107
 go_wp2
 go_loopg [3] k (fun kq v3 w' => ∃ (x3_1 : Int), v3 = .int .i64 x3_1 ∧ Aside0 (spec_l3Digits.l0 kq a0 x3_1 = some r) ∧ Aside0 (kq ≤ k) ∧ Drawn0 w w')
 case atStart => exact ⟨(0), zu, H', ⟨Nat.le_refl _⟩, zv⟩
 case round =>
  clear H'
  try clear c1
  obtain ⟨x3_1, rfl, HA, HK1, ⟨m1, rfl⟩⟩ := hrel
  cases gk with
  | zero => exact absurd HA.out (by simp [spec_l3Digits.l0])
  | succ k1 =>
   have H := HA.out
   clear HA
   simp only [spec_l3Digits.l0] at H
   by_cases c2 : x3_1 < (a0.size : Int)
   ·rw [if_pos c2] at H
    have c2b0 := decide_eq_true c2
    clear c2
    by_cases c3 : 0 ≤ x3_1
    ·rw [if_pos c3] at H
     have c3b0 := decide_eq_true c3
     clear c3
     replace H := Option.bind_eq_some_iff.mp H
     obtain ⟨t251, A50, H⟩ := H
     try dsimp only at H
     have A5 := zi A50
     clear A50
     by_cases c6 : t251 = true
     ·subst c6
      rw [if_pos rfl] at H
      have H' := zi H
      clear H
      have p4 : 0 ≤ (x3_1 : Int) := of_decide_eq_true zw
      have q4 : x3_1 < (a0.size : Int) := of_decide_eq_true zw
      have hx4 := bt_at a0 x3_1
      replace p4 := eq_true p4
      replace q4 := eq_true q4
      go_wp2_with (first | ((with_reducible refine gate_callee (f := 93) rfl ?_); refine goesL_ (some 14) rfl rfl Tryz.func93 zq rfl #[.int .i64 (wrap64 (bt a0 x3_1)), .int .i64 48, .int .i64 57] rfl zy ?_; (with_reducible refine (spec_l1In.calls (wrap64 (bt a0 x3_1)) 48 57 true _ A5.out).mono ?_); rintro e w' ⟨rfl, ⟨nd, rfl⟩⟩; refine ⟨_, rfl, ?_⟩))
      go_roundg k1
      case measure => have := HK1.out; omega
      case rel => exact ⟨(wrap64 (x3_1 + 1)), zu, H', ⟨zx⟩, zv⟩
     ·replace c6 := Bool.eq_false_iff.mpr c6
      subst c6
      rw [if_neg zh] at H
      obtain rfl := Option.some.inj H
      have p4 : 0 ≤ (x3_1 : Int) := of_decide_eq_true zw
      have q4 : x3_1 < (a0.size : Int) := of_decide_eq_true zw
      have hx4 := bt_at a0 x3_1
      replace p4 := eq_true p4
      replace q4 := eq_true q4
      go_wp2_with (first | ((with_reducible refine gate_callee (f := 93) rfl ?_); refine goesL_ (some 14) rfl rfl Tryz.func93 zq rfl #[.int .i64 (wrap64 (bt a0 x3_1)), .int .i64 48, .int .i64 57] rfl zy ?_; (with_reducible refine (spec_l1In.calls (wrap64 (bt a0 x3_1)) 48 57 false _ A5.out).mono ?_); rintro e w' ⟨rfl, ⟨nd, rfl⟩⟩; refine ⟨_, rfl, ?_⟩))
      go_ret
      exact ⟨z1c, zv⟩
    ·rw [if_neg c3] at H
     exact absurd H (by simp)
   ·rw [if_neg c2] at H
    have c2b0 := decide_eq_false c2
    clear c2
    obtain rfl := Option.some.inj H
    go_wp2
    go_ret
    exact ⟨z1c, zv⟩
mutual
def spec_l3Number.j0 : Nat → ByteArray → Bool → Option (Int)
 | 0, _, _ => none
 | k + 1, x0, x22 => if x22 = true then (some (-1)) else (spec_l3Number.l0 k x0 0 0)
def spec_l3Number.l0 : Nat → ByteArray → Int → Int → Option (Int)
 | 0, _, _, _ => none
 | k + 1, x0, x3, x4 => if x4 < (x0.size : Int) then (if 0 ≤ x4 then (spec_l3Number.l0 k x0 (wrap64 ((wrap64 (x3 * 10)) + (((bt x0 x4) - 48) % 256))) (wrap64 (x4 + 1))) else (none)) else (some x3)
end
def spec_l3Number.f (k : Nat) (a0 : ByteArray) : Option (Int) := (spec_l3Digits.f k a0).bind fun t252 => (if t252 = true then (if (a0.size : Int) > 8 then (spec_l3Number.j0 k a0 true) else (if (a0.size : Int) > 1 then (if 0 < (a0.size : Int) then (spec_l3Number.j0 k a0 ((bt a0 0) == 48)) else (none)) else (spec_l3Number.j0 k a0 false))) else (spec_l3Number.j0 k a0 true))
theorem spec_l3Number.mono_l : ∀ k, (∀ y0 y1, LeO (spec_l3Number.j0 k y0 y1) (spec_l3Number.j0 (k + 1) y0 y1)) ∧ (∀ y0 y1 y2, LeO (spec_l3Number.l0 k y0 y1 y2) (spec_l3Number.l0 (k + 1) y0 y1 y2))
 | 0 => ⟨fun _ _ r h => by simp [spec_l3Number.j0] at h, fun _ _ _ r h => by simp [spec_l3Number.l0] at h⟩
 | k + 1 => by
  obtain ⟨ih0, ih1⟩ := spec_l3Number.mono_l k
  refine ⟨?_, ?_⟩
  ·intro y0 y1
   unfold spec_l3Number.j0
   repeat' first
   | (with_reducible exact ih0 _ _)
   | (with_reducible exact ih1 _ _ _)
   | (with_reducible exact spec_l3Digits.mono _ _)
   | (with_reducible exact LeO.refl _)
   | (with_reducible exact LeO.none _)
   | (with_reducible refine LeO.ite ?_ ?_)
   | (with_reducible refine LeO.bind ?_ (fun _ => ?_))
  ·intro y0 y1 y2
   unfold spec_l3Number.l0
   repeat' first
   | (with_reducible exact ih0 _ _)
   | (with_reducible exact ih1 _ _ _)
   | (with_reducible exact spec_l3Digits.mono _ _)
   | (with_reducible exact LeO.refl _)
   | (with_reducible exact LeO.none _)
   | (with_reducible refine LeO.ite ?_ ?_)
   | (with_reducible refine LeO.bind ?_ (fun _ => ?_))
theorem spec_l3Number.mono : ∀ a0 k, LeO (spec_l3Number.f k a0) (spec_l3Number.f (k + 1) a0) := by
 intro a0 k
 obtain ⟨ih0, ih1⟩ := spec_l3Number.mono_l k
 unfold spec_l3Number.f
 repeat' first
   | (with_reducible exact ih0 _ _)
   | (with_reducible exact ih1 _ _ _)
   | (with_reducible exact spec_l3Digits.mono _ _)
   | (with_reducible exact LeO.refl _)
   | (with_reducible exact LeO.none _)
   | (with_reducible refine LeO.ite ?_ ?_)
   | (with_reducible refine LeO.bind ?_ (fun _ => ?_))
set_option maxHeartbeats 8000000 in
set_option maxRecDepth 100000 in
theorem spec_l3Number.calls (k : Nat) (a0 : ByteArray) (r : Int) (w : World) (h : spec_l3Number.f k a0 = some r) :
  Calls Tryz.prog 87 #[.string a0] w fun e w' => e = .returned (.int .i64 r) ∧ Drawn0 w w' := by
 have H := h
 unfold spec_l3Number.f at H
 clear h
 have HC2 := zi H
 clear H
 go_enter Tryz.func87, Tryz.ntmps87
 go_upto_region 1 with (fail)
 go_cut [22] (fun v22 wc => ∃ (kq : Nat) (x22_1 : Bool), v22 = .bool x22_1 ∧ Aside0 (spec_l3Number.j0 kq a0 x22_1 = some r) ∧ Aside0 (kq ≤ k) ∧ Drawn0 w wc)
 case first =>
  have H := HC2.out
  clear HC2
  replace H := Option.bind_eq_some_iff.mp H
  obtain ⟨t252, A30, H⟩ := H
  try dsimp only at H
  have A3 := zi A30
  clear A30
  by_cases c4 : t252 = true
  ·subst c4
   rw [if_pos rfl] at H
   by_cases c5 : (a0.size : Int) > 8
   ·rw [if_pos c5] at H
    have c5b0 := decide_eq_true c5
    have c5b1 : decide (8 < a0.size) = true := decide_eq_true zp
    clear c5
    (first | rw [c5b0] | (simp only [i64_w, i32_w]; rw [c5b0]) | skip)
    have H' := zi H
    clear H
    go_wp2_with (first | ((with_reducible refine gate_callee (f := 107) rfl ?_); refine goesL_ (some 6) rfl rfl Tryz.func107 zq rfl #[.string a0] rfl zy ?_; (with_reducible refine (spec_l3Digits.calls k a0 true _ A3.out).mono ?_); rintro e w' ⟨rfl, ⟨nd, rfl⟩⟩; refine ⟨_, rfl, ?_⟩))
    go_meet
    case rel => exact ⟨_, (true), zu, H', ⟨z1d⟩, zv⟩
   ·rw [if_neg c5] at H
    have c5b0 := decide_eq_false c5
    have c5b1 : decide (8 < a0.size) = false := decide_eq_false zp
    clear c5
    (first | rw [c5b0] | (simp only [i64_w, i32_w]; rw [c5b0]) | skip)
    by_cases c6 : (a0.size : Int) > 1
    ·rw [if_pos c6] at H
     have c6b0 := decide_eq_true c6
     have c6b1 : decide (1 < a0.size) = true := decide_eq_true zp
     clear c6
     by_cases c7 : 0 < (a0.size : Int)
     ·rw [if_pos c7] at H
      have c7b0 := decide_eq_true c7
      have c7b1 : decide (0 < a0.size) = true := decide_eq_true zp
      clear c7
      have H' := zi H
      clear H
      go_wp2_with (first | ((with_reducible refine gate_callee (f := 107) rfl ?_); refine goesL_ (some 6) rfl rfl Tryz.func107 zq rfl #[.string a0] rfl zy ?_; (with_reducible refine (spec_l3Digits.calls k a0 true _ A3.out).mono ?_); rintro e w' ⟨rfl, ⟨nd, rfl⟩⟩; refine ⟨_, rfl, ?_⟩; have p8 : 0 ≤ (0 : Int) := zp; have q8 : 0 < a0.size := (by have : (0 : Int) < (a0.size : Int) := of_decide_eq_true zw; omega); have hx8 : ∀ h : 0 < a0.size, ((a0[0]'h).toNat : Int) = bt a0 0 := bt_at a0 0; clear p8; have qi8 : (0 < (a0.size : Int)) = True := eq_true (of_decide_eq_true zw); replace q8 := eq_true q8))
      go_meet
      case rel => exact ⟨_, (((bt a0 0) == 48)), zu, H', ⟨z1d⟩, zv⟩
     ·rw [if_neg c7] at H
      exact absurd H (by simp)
    ·rw [if_neg c6] at H
     have c6b0 := decide_eq_false c6
     have c6b1 : decide (1 < a0.size) = false := decide_eq_false zp
     clear c6
     have H' := zi H
     clear H
     go_wp2_with (first | ((with_reducible refine gate_callee (f := 107) rfl ?_); refine goesL_ (some 6) rfl rfl Tryz.func107 zq rfl #[.string a0] rfl zy ?_; (with_reducible refine (spec_l3Digits.calls k a0 true _ A3.out).mono ?_); rintro e w' ⟨rfl, ⟨nd, rfl⟩⟩; refine ⟨_, rfl, ?_⟩))
     go_meet
     case rel => exact ⟨_, (false), zu, H', ⟨z1d⟩, zv⟩
  ·replace c4 := Bool.eq_false_iff.mpr c4
   subst c4
   rw [if_neg zh] at H
   have H' := zi H
   clear H
   go_wp2_with (first | ((with_reducible refine gate_callee (f := 107) rfl ?_); refine goesL_ (some 6) rfl rfl Tryz.func107 zq rfl #[.string a0] rfl zy ?_; (with_reducible refine (spec_l3Digits.calls k a0 false _ A3.out).mono ?_); rintro e w' ⟨rfl, ⟨nd, rfl⟩⟩; refine ⟨_, rfl, ?_⟩))
   go_meet
   case rel => exact ⟨_, (true), zu, H', ⟨z1d⟩, zv⟩
 case rest =>
  clear HC2
  try clear c1
  try clear p2
  try clear c4
  try clear c5
  try clear c5b0
  try clear c5b1
  try clear c6
  try clear c6b0
  try clear c6b1
  try clear c7
  try clear c7b0
  try clear c7b1
  try clear c8
  try clear p8
  try clear q8
  try clear hx8
  try clear qi8
  try clear p8
  try clear q8
  obtain ⟨kq, x22_1, rfl, HA, HJ1, ⟨mc1, rfl⟩⟩ := hcut
  cases kq with
  | zero => exact absurd HA.out (by simp [spec_l3Number.j0])
  | succ kj1 =>
   have H := HA.out
   clear HA
   simp only [spec_l3Number.j0] at H
   by_cases c9 : x22_1 = true
   ·subst c9
    rw [if_pos rfl] at H
    obtain rfl := Option.some.inj H
    go_wp2
    go_ret
    exact ⟨zu, zv⟩
   ·replace c9 := Bool.eq_false_iff.mpr c9
    subst c9
    rw [if_neg zh] at H
    have H' := zi H
    clear H
    go_wp2
    go_loopg [3, 4] kj1 (fun kq v3 v4 w' => ∃ (x3_2 : Int) (x4_2 : Int), v3 = .int .i64 x3_2 ∧ v4 = .int .i64 x4_2 ∧ Aside0 (spec_l3Number.l0 kq a0 x3_2 x4_2 = some r) ∧ Aside0 (kq ≤ kj1) ∧ Drawn0 w w')
    case atStart => exact ⟨(0), (0), zu, zu, H', ⟨Nat.le_refl _⟩, zv⟩
    case round =>
     clear H'
     try clear c1
     try clear p2
     try clear c4
     try clear c5
     try clear c5b0
     try clear c5b1
     try clear c6
     try clear c6b0
     try clear c6b1
     try clear c7
     try clear c7b0
     try clear c7b1
     try clear c8
     try clear p8
     try clear q8
     try clear hx8
     try clear qi8
     try clear c9
     try clear p2
     try clear p8
     try clear q8
     obtain ⟨x3_2, x4_2, rfl, rfl, HA, HK2, ⟨m2, rfl⟩⟩ := hrel
     cases gk with
     | zero => exact absurd HA.out (by simp [spec_l3Number.l0])
     | succ k2 =>
      have H := HA.out
      clear HA
      simp only [spec_l3Number.l0] at H
      by_cases c10 : x4_2 < (a0.size : Int)
      ·rw [if_pos c10] at H
       have c10b0 := decide_eq_true c10
       clear c10
       by_cases c11 : 0 ≤ x4_2
       ·rw [if_pos c11] at H
        have c11b0 := decide_eq_true c11
        clear c11
        have H' := zi H
        clear H
        have p12 : 0 ≤ (x4_2 : Int) := of_decide_eq_true zw
        have q12 : x4_2 < (a0.size : Int) := of_decide_eq_true zw
        have hx12 := bt_at a0 x4_2
        replace p12 := eq_true p12
        replace q12 := eq_true q12
        go_wp2
        go_roundg k2
        case measure => have := HJ1.out; have := HK2.out; omega
        case rel => exact ⟨(wrap64 ((wrap64 (x3_2 * 10)) + (((bt a0 x4_2) - 48) % 256))), (wrap64 (x4_2 + 1)), zu, zu, H', ⟨by have := HJ1.out; have := HK2.out; omega⟩, zv⟩
       ·rw [if_neg c11] at H
        exact absurd H (by simp)
      ·rw [if_neg c10] at H
       have c10b0 := decide_eq_false c10
       clear c10
       obtain rfl := Option.some.inj H
       go_wp2
       go_ret
       exact ⟨zu, zv⟩
def spec_l4Major.j0 : Nat → ByteArray → Bool → Option (Int)
 | 0, _, _ => none
 | k + 1, x4, x25 => if x25 = true then (some 0) else (if 1 ≤ (x4.size : Int) then ((spec_l3Number.f k (x4.extract 1 x4.size)).bind fun t257 => ((spec_l1In.f t257 2 1000).bind fun t258 => (if t258 = true then (some t257) else (some 0)))) else (none))
def spec_l4Major.f (k : Nat) (a0 : ByteArray) : Option (Int) := (spec_l3Split.f k a0 47).bind fun t253 => (if 0 ≤ (wrap64 ((t253.length : Int) - 1)) then (if (wrap64 ((t253.length : Int) - 1)) < (t253.length : Int) then (if (t253.length : Int) < 2 then (spec_l4Major.j0 k (rdOf ByteArray.empty t253 (wrap64 ((t253.length : Int) - 1))) true) else (if (rdOf ByteArray.empty t253 (wrap64 ((t253.length : Int) - 1))).toList = ([] : List UInt8) then (spec_l4Major.j0 k (rdOf ByteArray.empty t253 (wrap64 ((t253.length : Int) - 1))) true) else (if 0 < ((rdOf ByteArray.empty t253 (wrap64 ((t253.length : Int) - 1))).size : Int) then (spec_l4Major.j0 k (rdOf ByteArray.empty t253 (wrap64 ((t253.length : Int) - 1))) ((bt (rdOf ByteArray.empty t253 (wrap64 ((t253.length : Int) - 1))) 0) != 118)) else (none)))) else (none)) else (none))
theorem spec_l4Major.mono_l : ∀ k, (∀ y0 y1, LeO (spec_l4Major.j0 k y0 y1) (spec_l4Major.j0 (k + 1) y0 y1))
 | 0 => fun _ _ r h => by simp [spec_l4Major.j0] at h
 | k + 1 => by
  have ih0 := spec_l4Major.mono_l k
  ·intro y0 y1
   unfold spec_l4Major.j0
   repeat' first
   | (with_reducible exact ih0 _ _)
   | (with_reducible exact spec_l3Number.mono _ _)
   | (with_reducible exact spec_l3Split.mono _ _ _)
   | (with_reducible exact LeO.refl _)
   | (with_reducible exact LeO.none _)
   | (with_reducible refine LeO.ite ?_ ?_)
   | (with_reducible refine LeO.bind ?_ (fun _ => ?_))
theorem spec_l4Major.mono : ∀ a0 k, LeO (spec_l4Major.f k a0) (spec_l4Major.f (k + 1) a0) := by
 intro a0 k
 have ih0 := spec_l4Major.mono_l k
 unfold spec_l4Major.f
 repeat' first
   | (with_reducible exact ih0 _ _)
   | (with_reducible exact spec_l3Number.mono _ _)
   | (with_reducible exact spec_l3Split.mono _ _ _)
   | (with_reducible exact LeO.refl _)
   | (with_reducible exact LeO.none _)
   | (with_reducible refine LeO.ite ?_ ?_)
   | (with_reducible refine LeO.bind ?_ (fun _ => ?_))
set_option maxHeartbeats 8000000 in
set_option maxRecDepth 100000 in
theorem spec_l4Major.calls (k : Nat) (a0 : ByteArray) (r : Int) (w : World) (h : spec_l4Major.f k a0 = some r) :
  Calls Tryz.prog 92 #[.string a0] w fun e w' => e = .returned (.int .i64 r) ∧ Below w.heap.size w w' := by
 have HB := zi (Below.refl w.heap.size w)
 have H := h
 unfold spec_l4Major.f at H
 clear h
 replace H := Option.bind_eq_some_iff.mp H
 obtain ⟨t253, A20, H⟩ := H
 try dsimp only at H
 have A2 := zi A20
 clear A20
 obtain ⟨ji3, hji3⟩ : ∃ j_ : Int, (wrap64 ((t253.length : Int) - 1)) = j_ := ⟨_, rfl⟩
 replace H : (if 0 ≤ (ji3) then (if (ji3) < (t253.length : Int) then (if (t253.length : Int) < 2 then (spec_l4Major.j0 k (rdOf ByteArray.empty t253 (ji3)) true) else (if (rdOf ByteArray.empty t253 (ji3)).toList = ([] : List UInt8) then (spec_l4Major.j0 k (rdOf ByteArray.empty t253 (ji3)) true) else (if 0 < ((rdOf ByteArray.empty t253 (ji3)).size : Int) then (spec_l4Major.j0 k (rdOf ByteArray.empty t253 (ji3)) ((bt (rdOf ByteArray.empty t253 (ji3)) 0) != 118)) else (none)))) else (none)) else (none)) = some r := by first | (rw [hji3] at H; exact H) | (simp only [hji3] at H ⊢; exact H)
 (try rw [hji3] at A2)
 have hji3w : (IntKind.i64.wrap ((t253.length : Int) - 1)) = ji3 := (i64_w _).trans hji3
 by_cases c4 : 0 ≤ (ji3)
 ·rw [if_pos c4] at H
  have c4b0 := decide_eq_true c4
  clear c4
  by_cases c5 : (ji3) < (t253.length : Int)
  ·rw [if_pos c5] at H
   have c5b0 := decide_eq_true c5
   clear c5
   have HC6 := zi H
   clear H
   go_enter Tryz.func92, Tryz.ntmps92
   go_upto_region 3 with (first | ((with_reducible refine gate_callee (f := 56) rfl ?_); refine goesL_ (some 7) rfl rfl Tryz.func56 zq rfl #[.string a0, .int .u8 47] rfl zy ?_; (with_reducible refine (spec_l3Split.calls k a0 47 t253 _ A2.out).mono ?_); rintro e w7 ⟨v254, rfl, ho0, hb⟩; refine ⟨_, rfl, ?_⟩; have n0_ := zi (Kd.R_lower ho0 (below_size zz)); have n1_ := zi (below_step zz hb); clear HB; have HO255 := n0_; have HB := n1_; clear n0_ n1_; (try clear hb); (try clear hb2); (try clear hk); (try clear hi); (try clear ho0); obtain ⟨Ao8, co8, eo8⟩ := Kd.R_slice HO255.out; subst eo8; have p256 : 0 ≤ ((ji3) : Int) := of_decide_eq_true zw; have q256 : (ji3) < (t253.length : Int) := of_decide_eq_true zw; obtain ⟨ad256, e256, hx256_0⟩ := Kd.at_string (Kd.R_reads' HO255.out).2.2 (ji3) p256 q256; cases e256; replace p256 := eq_true p256; replace q256 := eq_true q256))
   (try simp only [Act.put, z7w, z7x, z7y])
   go_cut [25] (fun v25 wc => ∃ (kq : Nat) (x25_5 : Bool), v25 = .bool x25_5 ∧ Aside0 (spec_l4Major.j0 kq (rdOf ByteArray.empty t253 (ji3)) x25_5 = some r) ∧ Aside0 (kq ≤ k) ∧ Aside0 (Below w.heap.size w wc))
   case first =>
    have H := HC6.out
    clear HC6
    by_cases c9 : (t253.length : Int) < 2
    ·rw [if_pos c9] at H
     have c9b0 := decide_eq_true c9
     have c9b1 : decide (t253.length < 2) = true := decide_eq_true zp
     clear c9
     (first | rw [c9b0] | (simp only [i64_w, i32_w]; rw [c9b0]) | skip)
     have H' := zi H
     clear H
     go_wp2
     go_meet
     case rel => exact ⟨_, (true), zu, H', ⟨z1d⟩, ⟨zz⟩⟩
    ·rw [if_neg c9] at H
     have c9b0 := decide_eq_false c9
     have c9b1 : decide (t253.length < 2) = false := decide_eq_false zp
     clear c9
     (first | rw [c9b0] | (simp only [i64_w, i32_w]; rw [c9b0]) | skip)
     by_cases c10 : (rdOf ByteArray.empty t253 (ji3)).toList = ([] : List UInt8)
     ·rw [if_pos c10] at H
      have c10b0 : ((rdOf ByteArray.empty t253 (ji3)).toList == ([] : List UInt8)) = true := beq_iff_eq.mpr c10
      have c10b1 : ((rdOf ByteArray.empty t253 (ji3)).toList != ([] : List UInt8)) = false := bne_eq_false_iff_eq.mpr c10
      clear c10
      have H' := zi H
      clear H
      go_wp2
      go_meet
      case rel => exact ⟨_, (true), zu, H', ⟨z1d⟩, ⟨zz⟩⟩
     ·rw [if_neg c10] at H
      have c10b0 : ((rdOf ByteArray.empty t253 (ji3)).toList == ([] : List UInt8)) = false := beq_eq_false_iff_ne.mpr c10
      have c10b1 : ((rdOf ByteArray.empty t253 (ji3)).toList != ([] : List UInt8)) = true := bne_iff_ne.mpr c10
      by_cases c11 : 0 < ((rdOf ByteArray.empty t253 (ji3)).size : Int)
      ·rw [if_pos c11] at H
       have c11b0 := decide_eq_true c11
       have c11b1 : decide (0 < (rdOf ByteArray.empty t253 (ji3)).size) = true := decide_eq_true zp
       clear c11
       have H' := zi H
       clear H
       have p12 : 0 ≤ (0 : Int) := zp
       have q12 : 0 < (rdOf ByteArray.empty t253 (ji3)).size := (by have : (0 : Int) < ((rdOf ByteArray.empty t253 (ji3)).size : Int) := of_decide_eq_true zw; omega)
       have hx12 : ∀ h : 0 < (rdOf ByteArray.empty t253 (ji3)).size, (((rdOf ByteArray.empty t253 (ji3))[0]'h).toNat : Int) = bt (rdOf ByteArray.empty t253 (ji3)) 0 := bt_at (rdOf ByteArray.empty t253 (ji3)) 0
       clear p12
       have qi12 : (0 < ((rdOf ByteArray.empty t253 (ji3)).size : Int)) = True := eq_true (of_decide_eq_true zw)
       replace q12 := eq_true q12
       go_wp2
       go_meet
       case rel => exact ⟨_, (((bt (rdOf ByteArray.empty t253 (ji3)) 0) != 118)), (by first | rfl | (simp; done) | (simp only [← hji3] <;> (first | rfl | simp)) | (simp [*]; done)), H', ⟨z1d⟩, ⟨zz⟩⟩
      ·rw [if_neg c11] at H
       exact absurd H (by simp)
   case rest =>
    clear HC6
    try clear c1
    try clear p1
    try clear q1
    try clear hx1
    try clear qi1
    try clear p2
    try clear q2
    try clear hx2
    try clear c4
    try clear c4b0
    try clear c5
    try clear c5b0
    try clear p6
    try clear c9
    try clear c9b0
    try clear c9b1
    try clear c10
    try clear c10b0
    try clear c10b1
    try clear c11
    try clear c11b0
    try clear c11b1
    try clear p12
    try clear q12
    try clear hx12
    try clear qi12
    try clear hx256_0
    try clear p12
    try clear p256
    try clear q12
    try clear q256
    obtain ⟨kq, x25_5, rfl, HA, HJ5, HB⟩ := hcut
    cases kq with
    | zero => exact absurd HA.out (by simp [spec_l4Major.j0])
    | succ kj5 =>
     have H := HA.out
     clear HA
     simp only [spec_l4Major.j0] at H
     by_cases c13 : x25_5 = true
     ·subst c13
      rw [if_pos rfl] at H
      obtain rfl := Option.some.inj H
      go_wp2
      go_ret
      exact ⟨z2i, zz⟩
     ·replace c13 := Bool.eq_false_iff.mpr c13
      subst c13
      rw [if_neg zh] at H
      by_cases c14 : 1 ≤ ((rdOf ByteArray.empty t253 (ji3)).size : Int)
      ·rw [if_pos c14] at H
       have c14b0 := eq_true c14
       have c14b1 := decide_eq_true c14
       clear c14
       replace H := Option.bind_eq_some_iff.mp H
       obtain ⟨t257, A150, H⟩ := H
       try dsimp only at H
       have A15 := zi A150
       clear A150
       replace H := Option.bind_eq_some_iff.mp H
       obtain ⟨t258, A160, H⟩ := H
       try dsimp only at H
       have A16 := zi A160
       clear A160
       by_cases c17 : t258 = true
       ·subst c17
        rw [if_pos rfl] at H
        obtain rfl := Option.some.inj H
        go_wp2_with (first | ((with_reducible refine gate_callee (f := 87) rfl ?_); refine goesL_ (some 28) rfl rfl Tryz.func87 zq rfl #[.string ((rdOf ByteArray.empty t253 (ji3)).extract 1 (rdOf ByteArray.empty t253 (ji3)).size)] rfl (by (try simp only [List.map_toArray, List.map_cons, List.map_nil]); first | done | (simp only [hji3]; rfl) | rfl | (simp only [List.length_drop, List.length_take]; rfl)) ?_; (with_reducible refine (spec_l3Number.calls kj5 ((rdOf ByteArray.empty t253 (ji3)).extract 1 (rdOf ByteArray.empty t253 (ji3)).size) t257 _ A15.out).mono ?_); rintro e w' ⟨rfl, ⟨nd, rfl⟩⟩; refine ⟨_, rfl, ?_⟩) | ((with_reducible refine gate_callee (f := 93) rfl ?_); refine goesL_ (some 30) rfl rfl Tryz.func93 zq rfl #[.int .i64 t257, .int .i64 2, .int .i64 1000] rfl zy ?_; (with_reducible refine (spec_l1In.calls t257 2 1000 true _ A16.out).mono ?_); rintro e w' ⟨rfl, ⟨nd, rfl⟩⟩; refine ⟨_, rfl, ?_⟩))
        go_ret
        exact ⟨z2i, zz⟩
       ·replace c17 := Bool.eq_false_iff.mpr c17
        subst c17
        rw [if_neg zh] at H
        obtain rfl := Option.some.inj H
        go_wp2_with (first | ((with_reducible refine gate_callee (f := 87) rfl ?_); refine goesL_ (some 28) rfl rfl Tryz.func87 zq rfl #[.string ((rdOf ByteArray.empty t253 (ji3)).extract 1 (rdOf ByteArray.empty t253 (ji3)).size)] rfl (by (try simp only [List.map_toArray, List.map_cons, List.map_nil]); first | done | (simp only [hji3]; rfl) | rfl | (simp only [List.length_drop, List.length_take]; rfl)) ?_; (with_reducible refine (spec_l3Number.calls kj5 ((rdOf ByteArray.empty t253 (ji3)).extract 1 (rdOf ByteArray.empty t253 (ji3)).size) t257 _ A15.out).mono ?_); rintro e w' ⟨rfl, ⟨nd, rfl⟩⟩; refine ⟨_, rfl, ?_⟩) | ((with_reducible refine gate_callee (f := 93) rfl ?_); refine goesL_ (some 30) rfl rfl Tryz.func93 zq rfl #[.int .i64 t257, .int .i64 2, .int .i64 1000] rfl zy ?_; (with_reducible refine (spec_l1In.calls t257 2 1000 false _ A16.out).mono ?_); rintro e w' ⟨rfl, ⟨nd, rfl⟩⟩; refine ⟨_, rfl, ?_⟩))
        go_ret
        exact ⟨z2i, zz⟩
      ·rw [if_neg c14] at H
       exact absurd H (by simp)
  ·rw [if_neg c5] at H
   exact absurd H (by simp)
 ·rw [if_neg c4] at H
  exact absurd H (by simp)
def spec_MajorOf.f (k : Nat) (a0 : ByteArray) : Option (Int) := (spec_PathOk.f k a0).bind fun t259 => (if t259 = true then ((spec_l4Major.f k a0).bind fun t260 => (if t260 = 0 then (some 1) else (some t260))) else (some 0))
theorem spec_MajorOf.mono : ∀ a0 k, LeO (spec_MajorOf.f k a0) (spec_MajorOf.f (k + 1) a0) := by
 intro a0 k
 unfold spec_MajorOf.f
 repeat' first
   | (with_reducible exact spec_PathOk.mono _ _)
   | (with_reducible exact spec_l4Major.mono _ _)
   | (with_reducible exact LeO.refl _)
   | (with_reducible exact LeO.none _)
   | (with_reducible refine LeO.ite ?_ ?_)
   | (with_reducible refine LeO.bind ?_ (fun _ => ?_))
set_option maxHeartbeats 8000000 in
set_option maxRecDepth 100000 in
theorem spec_MajorOf.calls (k : Nat) (a0 : ByteArray) (r : Int) (w : World) (h : spec_MajorOf.f k a0 = some r) :
  Calls Tryz.prog 67 #[.string a0] w fun e w' => e = .returned (.int .i64 r) ∧ Below w.heap.size w w' := by
 have HB := zi (Below.refl w.heap.size w)
 have H := h
 unfold spec_MajorOf.f at H
 clear h
 replace H := Option.bind_eq_some_iff.mp H
 obtain ⟨t259, A20, H⟩ := H
 try dsimp only at H
 have A2 := zi A20
 clear A20
 by_cases c3 : t259 = true
 ·subst c3
  rw [if_pos rfl] at H
  replace H := Option.bind_eq_some_iff.mp H
  obtain ⟨t260, A40, H⟩ := H
  try dsimp only at H
  have A4 := zi A40
  clear A40
  by_cases c5 : t260 = 0
  ·rw [if_pos c5] at H
   have c5b0 : (t260 == 0) = true := beq_iff_eq.mpr c5
   have c5b1 : (t260 != 0) = false := bne_eq_false_iff_eq.mpr c5
   clear c5
   obtain rfl := Option.some.inj H
   go_enter Tryz.func67, Tryz.ntmps67
   go_wp2_with (first | ((with_reducible refine gate_callee (f := 91) rfl ?_); refine goesL_ (some 5) rfl rfl Tryz.func91 zq rfl #[.string a0] rfl zy ?_; (with_reducible refine (spec_PathOk.calls k a0 true _ A2.out).mono ?_); rintro e w6 ⟨rfl, hb⟩; refine ⟨_, rfl, ?_⟩; have n0_ := zi (below_step zz hb); clear HB; have HB := n0_; clear n0_; (try clear hb); (try clear hb2); (try clear hk); (try clear hi)) | ((with_reducible refine gate_callee (f := 92) rfl ?_); refine goesL_ (some 8) rfl rfl Tryz.func92 zq rfl #[.string a0] rfl zy ?_; (with_reducible refine (spec_l4Major.calls k a0 t260 _ A4.out).mono ?_); rintro e w7 ⟨rfl, hb⟩; refine ⟨_, rfl, ?_⟩; have n0_ := zi (below_step zz hb); clear HB; have HB := n0_; clear n0_; (try clear hb); (try clear hb2); (try clear hk); (try clear hi)))
   go_ret
   exact ⟨z1b, zz⟩
  ·rw [if_neg c5] at H
   have c5b0 : (t260 == 0) = false := beq_eq_false_iff_ne.mpr c5
   have c5b1 : (t260 != 0) = true := bne_iff_ne.mpr c5
   obtain rfl := Option.some.inj H
   go_enter Tryz.func67, Tryz.ntmps67
   go_wp2_with (first | ((with_reducible refine gate_callee (f := 91) rfl ?_); refine goesL_ (some 5) rfl rfl Tryz.func91 zq rfl #[.string a0] rfl zy ?_; (with_reducible refine (spec_PathOk.calls k a0 true _ A2.out).mono ?_); rintro e w8 ⟨rfl, hb⟩; refine ⟨_, rfl, ?_⟩; have n0_ := zi (below_step zz hb); clear HB; have HB := n0_; clear n0_; (try clear hb); (try clear hb2); (try clear hk); (try clear hi)) | ((with_reducible refine gate_callee (f := 92) rfl ?_); refine goesL_ (some 8) rfl rfl Tryz.func92 zq rfl #[.string a0] rfl zy ?_; (with_reducible refine (spec_l4Major.calls k a0 t260 _ A4.out).mono ?_); rintro e w9 ⟨rfl, hb⟩; refine ⟨_, rfl, ?_⟩; have n0_ := zi (below_step zz hb); clear HB; have HB := n0_; clear n0_; (try clear hb); (try clear hb2); (try clear hk); (try clear hi)))
   go_ret
   exact ⟨z1b, zz⟩
 ·replace c3 := Bool.eq_false_iff.mpr c3
  subst c3
  rw [if_neg zh] at H
  obtain rfl := Option.some.inj H
  go_enter Tryz.func67, Tryz.ntmps67
  go_wp2_with (first | ((with_reducible refine gate_callee (f := 91) rfl ?_); refine goesL_ (some 5) rfl rfl Tryz.func91 zq rfl #[.string a0] rfl zy ?_; (with_reducible refine (spec_PathOk.calls k a0 false _ A2.out).mono ?_); rintro e w10 ⟨rfl, hb⟩; refine ⟨_, rfl, ?_⟩; have n0_ := zi (below_step zz hb); clear HB; have HB := n0_; clear n0_; (try clear hb); (try clear hb2); (try clear hk); (try clear hi)))
  go_ret
  exact ⟨z1b, zz⟩
def spec_l3Part.l0 : Nat → ByteArray → Int → Option (Bool)
 | 0, _, _ => none
 | k + 1, x0, x3 => if x3 < (x0.size : Int) then (if 0 ≤ x3 then ((spec_l1In.f (wrap64 (bt x0 x3)) 97 122).bind fun t264 => (if t264 = true then (spec_l3Part.l0 k x0 (wrap64 (x3 + 1))) else ((spec_l1In.f (wrap64 (bt x0 x3)) 65 90).bind fun t265 => (if t265 = true then (spec_l3Part.l0 k x0 (wrap64 (x3 + 1))) else ((spec_l1In.f (wrap64 (bt x0 x3)) 48 57).bind fun t266 => (if t266 = true then (spec_l3Part.l0 k x0 (wrap64 (x3 + 1))) else (if (wrap64 (bt x0 x3)) = 45 then (spec_l3Part.l0 k x0 (wrap64 (x3 + 1))) else (some false)))))))) else (none)) else ((spec_l1In.f (x0.size : Int) 1 8).bind fun t261 => (if t261 = true then ((spec_l3Digits.f k x0).bind fun t262 => (if t262 = true then ((spec_l3Number.f k x0).bind fun t263 => (some (decide (t263 ≥ 0)))) else (some true))) else (some false)))
def spec_l3Part.f (k : Nat) (a0 : ByteArray) : Option (Bool) := spec_l3Part.l0 k a0 0
set_option maxHeartbeats 8000000 in
set_option maxRecDepth 100000 in
theorem spec_l3Part.calls (k : Nat) (a0 : ByteArray) (r : Bool) (w : World) (h : spec_l3Part.f k a0 = some r) :
  Calls Tryz.prog 109 #[.string a0] w fun e w' => e = .returned (.bool r) ∧ Drawn0 w w' := by
 have H := h
 unfold spec_l3Part.f at H
 clear h
 have H' := zi H
 clear H
 go_enter Tryz.func109, Tryz.ntmps109
 go_wp2
 go_loopg [3] k (fun kq v3 w' => ∃ (x3_1 : Int), v3 = .int .i64 x3_1 ∧ Aside0 (spec_l3Part.l0 kq a0 x3_1 = some r) ∧ Aside0 (kq ≤ k) ∧ Drawn0 w w')
 case atStart => exact ⟨(0), zu, H', ⟨Nat.le_refl _⟩, zv⟩
 case round =>
  clear H'
  try clear c1
  obtain ⟨x3_1, rfl, HA, HK1, ⟨m1, rfl⟩⟩ := hrel
  cases gk with
  | zero => exact absurd HA.out (by simp [spec_l3Part.l0])
  | succ k1 =>
   have H := HA.out
   clear HA
   simp only [spec_l3Part.l0] at H
   by_cases c2 : x3_1 < (a0.size : Int)
   ·rw [if_pos c2] at H
    have c2b0 := decide_eq_true c2
    clear c2
    by_cases c3 : 0 ≤ x3_1
    ·rw [if_pos c3] at H
     have c3b0 := decide_eq_true c3
     clear c3
     replace H := Option.bind_eq_some_iff.mp H
     obtain ⟨t264, A50, H⟩ := H
     try dsimp only at H
     have A5 := zi A50
     clear A50
     by_cases c6 : t264 = true
     ·subst c6
      rw [if_pos rfl] at H
      have H' := zi H
      clear H
      have p4 : 0 ≤ (x3_1 : Int) := of_decide_eq_true zw
      have q4 : x3_1 < (a0.size : Int) := of_decide_eq_true zw
      have hx4 := bt_at a0 x3_1
      replace p4 := eq_true p4
      replace q4 := eq_true q4
      go_wp2_with (first | ((with_reducible refine gate_callee (f := 93) rfl ?_); refine goesL_ (some 16) rfl rfl Tryz.func93 zq rfl #[.int .i64 (wrap64 (bt a0 x3_1)), .int .i64 97, .int .i64 122] rfl zy ?_; (with_reducible refine (spec_l1In.calls (wrap64 (bt a0 x3_1)) 97 122 true _ A5.out).mono ?_); rintro e w' ⟨rfl, ⟨nd, rfl⟩⟩; refine ⟨_, rfl, ?_⟩))
      go_roundg k1
      case measure => have := HK1.out; omega
      case rel => exact ⟨(wrap64 (x3_1 + 1)), zu, H', ⟨zx⟩, zv⟩
     ·replace c6 := Bool.eq_false_iff.mpr c6
      subst c6
      rw [if_neg zh] at H
      replace H := Option.bind_eq_some_iff.mp H
      obtain ⟨t265, A70, H⟩ := H
      try dsimp only at H
      have A7 := zi A70
      clear A70
      by_cases c8 : t265 = true
      ·subst c8
       rw [if_pos rfl] at H
       have H' := zi H
       clear H
       have p4 : 0 ≤ (x3_1 : Int) := of_decide_eq_true zw
       have q4 : x3_1 < (a0.size : Int) := of_decide_eq_true zw
       have hx4 := bt_at a0 x3_1
       replace p4 := eq_true p4
       replace q4 := eq_true q4
       go_wp2_with (first | ((with_reducible refine gate_callee (f := 93) rfl ?_); refine goesL_ (some 16) rfl rfl Tryz.func93 zq rfl #[.int .i64 (wrap64 (bt a0 x3_1)), .int .i64 97, .int .i64 122] rfl zy ?_; (with_reducible refine (spec_l1In.calls (wrap64 (bt a0 x3_1)) 97 122 false _ A5.out).mono ?_); rintro e w' ⟨rfl, ⟨nd, rfl⟩⟩; refine ⟨_, rfl, ?_⟩) | (go_at_call 93; (with_reducible refine (spec_l1In.calls (wrap64 (bt a0 x3_1)) 65 90 true _ A7.out).mono ?_); rintro e w' ⟨rfl, ⟨nd, rfl⟩⟩))
       go_roundg k1
       case measure => have := HK1.out; omega
       case rel => exact ⟨(wrap64 (x3_1 + 1)), zu, H', ⟨zx⟩, zv⟩
      ·replace c8 := Bool.eq_false_iff.mpr c8
       subst c8
       rw [if_neg zh] at H
       replace H := Option.bind_eq_some_iff.mp H
       obtain ⟨t266, A90, H⟩ := H
       try dsimp only at H
       have A9 := zi A90
       clear A90
       by_cases c10 : t266 = true
       ·subst c10
        rw [if_pos rfl] at H
        have H' := zi H
        clear H
        have p4 : 0 ≤ (x3_1 : Int) := of_decide_eq_true zw
        have q4 : x3_1 < (a0.size : Int) := of_decide_eq_true zw
        have hx4 := bt_at a0 x3_1
        replace p4 := eq_true p4
        replace q4 := eq_true q4
        go_wp2_with (first | ((with_reducible refine gate_callee (f := 93) rfl ?_); refine goesL_ (some 16) rfl rfl Tryz.func93 zq rfl #[.int .i64 (wrap64 (bt a0 x3_1)), .int .i64 97, .int .i64 122] rfl zy ?_; (with_reducible refine (spec_l1In.calls (wrap64 (bt a0 x3_1)) 97 122 false _ A5.out).mono ?_); rintro e w' ⟨rfl, ⟨nd, rfl⟩⟩; refine ⟨_, rfl, ?_⟩) | (go_at_call 93; (with_reducible refine (spec_l1In.calls (wrap64 (bt a0 x3_1)) 65 90 false _ A7.out).mono ?_); rintro e w' ⟨rfl, ⟨nd, rfl⟩⟩) | (go_at_call 93; (with_reducible refine (spec_l1In.calls (wrap64 (bt a0 x3_1)) 48 57 true _ A9.out).mono ?_); rintro e w' ⟨rfl, ⟨nd, rfl⟩⟩))
        go_roundg k1
        case measure => have := HK1.out; omega
        case rel => exact ⟨(wrap64 (x3_1 + 1)), zu, H', ⟨zx⟩, zv⟩
       ·replace c10 := Bool.eq_false_iff.mpr c10
        subst c10
        rw [if_neg zh] at H
        by_cases c11 : (wrap64 (bt a0 x3_1)) = 45
        ·rw [if_pos c11] at H
         have c11b0 : ((wrap64 (bt a0 x3_1)) == 45) = true := beq_iff_eq.mpr c11
         have c11b1 : ((wrap64 (bt a0 x3_1)) != 45) = false := bne_eq_false_iff_eq.mpr c11
         clear c11
         have H' := zi H
         clear H
         have p4 : 0 ≤ (x3_1 : Int) := of_decide_eq_true zw
         have q4 : x3_1 < (a0.size : Int) := of_decide_eq_true zw
         have hx4 := bt_at a0 x3_1
         replace p4 := eq_true p4
         replace q4 := eq_true q4
         go_wp2_with (first | ((with_reducible refine gate_callee (f := 93) rfl ?_); refine goesL_ (some 16) rfl rfl Tryz.func93 zq rfl #[.int .i64 (wrap64 (bt a0 x3_1)), .int .i64 97, .int .i64 122] rfl zy ?_; (with_reducible refine (spec_l1In.calls (wrap64 (bt a0 x3_1)) 97 122 false _ A5.out).mono ?_); rintro e w' ⟨rfl, ⟨nd, rfl⟩⟩; refine ⟨_, rfl, ?_⟩) | (go_at_call 93; (with_reducible refine (spec_l1In.calls (wrap64 (bt a0 x3_1)) 65 90 false _ A7.out).mono ?_); rintro e w' ⟨rfl, ⟨nd, rfl⟩⟩) | (go_at_call 93; (with_reducible refine (spec_l1In.calls (wrap64 (bt a0 x3_1)) 48 57 false _ A9.out).mono ?_); rintro e w' ⟨rfl, ⟨nd, rfl⟩⟩))
         go_roundg k1
         case measure => have := HK1.out; omega
         case rel => exact ⟨(wrap64 (x3_1 + 1)), zu, H', ⟨zx⟩, zv⟩
        ·rw [if_neg c11] at H
         have c11b0 : ((wrap64 (bt a0 x3_1)) == 45) = false := beq_eq_false_iff_ne.mpr c11
         have c11b1 : ((wrap64 (bt a0 x3_1)) != 45) = true := bne_iff_ne.mpr c11
         obtain rfl := Option.some.inj H
         have p4 : 0 ≤ (x3_1 : Int) := of_decide_eq_true zw
         have q4 : x3_1 < (a0.size : Int) := of_decide_eq_true zw
         have hx4 := bt_at a0 x3_1
         replace p4 := eq_true p4
         replace q4 := eq_true q4
         go_wp2_with (first | ((with_reducible refine gate_callee (f := 93) rfl ?_); refine goesL_ (some 16) rfl rfl Tryz.func93 zq rfl #[.int .i64 (wrap64 (bt a0 x3_1)), .int .i64 97, .int .i64 122] rfl zy ?_; (with_reducible refine (spec_l1In.calls (wrap64 (bt a0 x3_1)) 97 122 false _ A5.out).mono ?_); rintro e w' ⟨rfl, ⟨nd, rfl⟩⟩; refine ⟨_, rfl, ?_⟩) | (go_at_call 93; (with_reducible refine (spec_l1In.calls (wrap64 (bt a0 x3_1)) 65 90 false _ A7.out).mono ?_); rintro e w' ⟨rfl, ⟨nd, rfl⟩⟩) | (go_at_call 93; (with_reducible refine (spec_l1In.calls (wrap64 (bt a0 x3_1)) 48 57 false _ A9.out).mono ?_); rintro e w' ⟨rfl, ⟨nd, rfl⟩⟩))
         go_ret
         exact ⟨zu, zv⟩
    ·rw [if_neg c3] at H
     exact absurd H (by simp)
   ·rw [if_neg c2] at H
    have c2b0 := decide_eq_false c2
    clear c2
    replace H := Option.bind_eq_some_iff.mp H
    obtain ⟨t261, A120, H⟩ := H
    try dsimp only at H
    have A12 := zi A120
    clear A120
    by_cases c13 : t261 = true
    ·subst c13
     rw [if_pos rfl] at H
     replace H := Option.bind_eq_some_iff.mp H
     obtain ⟨t262, A140, H⟩ := H
     try dsimp only at H
     have A14 := zi A140
     clear A140
     by_cases c15 : t262 = true
     ·subst c15
      rw [if_pos rfl] at H
      replace H := Option.bind_eq_some_iff.mp H
      obtain ⟨t263, A160, H⟩ := H
      try dsimp only at H
      have A16 := zi A160
      clear A160
      obtain rfl := Option.some.inj H
      go_wp2_with (first | ((with_reducible refine gate_callee (f := 93) rfl ?_); refine goesL_ (some 34) rfl rfl Tryz.func93 zq rfl #[.int .i64 (a0.size : Int), .int .i64 1, .int .i64 8] rfl zy ?_; (with_reducible refine (spec_l1In.calls (a0.size : Int) 1 8 true _ A12.out).mono ?_); rintro e w' ⟨rfl, ⟨nd, rfl⟩⟩; refine ⟨_, rfl, ?_⟩) | (go_at_call 107; (with_reducible refine (spec_l3Digits.calls k1 a0 true _ A14.out).mono ?_); rintro e w' ⟨rfl, ⟨nd, rfl⟩⟩) | (go_at_call 87; (with_reducible refine (spec_l3Number.calls k1 a0 t263 _ A16.out).mono ?_); rintro e w' ⟨rfl, ⟨nd, rfl⟩⟩))
      go_ret
      exact ⟨zu, zv⟩
     ·replace c15 := Bool.eq_false_iff.mpr c15
      subst c15
      rw [if_neg zh] at H
      obtain rfl := Option.some.inj H
      go_wp2_with (first | ((with_reducible refine gate_callee (f := 93) rfl ?_); refine goesL_ (some 34) rfl rfl Tryz.func93 zq rfl #[.int .i64 (a0.size : Int), .int .i64 1, .int .i64 8] rfl zy ?_; (with_reducible refine (spec_l1In.calls (a0.size : Int) 1 8 true _ A12.out).mono ?_); rintro e w' ⟨rfl, ⟨nd, rfl⟩⟩; refine ⟨_, rfl, ?_⟩) | (go_at_call 107; (with_reducible refine (spec_l3Digits.calls k1 a0 false _ A14.out).mono ?_); rintro e w' ⟨rfl, ⟨nd, rfl⟩⟩))
      go_ret
      exact ⟨zu, zv⟩
    ·replace c13 := Bool.eq_false_iff.mpr c13
     subst c13
     rw [if_neg zh] at H
     obtain rfl := Option.some.inj H
     go_wp2_with (first | ((with_reducible refine gate_callee (f := 93) rfl ?_); refine goesL_ (some 34) rfl rfl Tryz.func93 zq rfl #[.int .i64 (a0.size : Int), .int .i64 1, .int .i64 8] rfl zy ?_; (with_reducible refine (spec_l1In.calls (a0.size : Int) 1 8 false _ A12.out).mono ?_); rintro e w' ⟨rfl, ⟨nd, rfl⟩⟩; refine ⟨_, rfl, ?_⟩))
     go_ret
     exact ⟨zu, zv⟩
def spec_l3Pre.l0 : Nat → List ByteArray → Int → Option (Bool)
 | 0, _, _ => none
 | k + 1, x3, x4 => if x4 < (x3.length : Int) then (if 0 ≤ x4 then ((spec_l3Part.f k (rdOf ByteArray.empty x3 x4)).bind fun t271 => (if t271 = true then (spec_l3Pre.l0 k x3 (wrap64 (x4 + 1))) else (some false))) else (none)) else (some (decide ((x3.length : Int) ≤ 4)))
def spec_l3Pre.f (k : Nat) (a0 : ByteArray) : Option (Bool) := (spec_l3Split.f k a0 46).bind fun t267 => (spec_l3Pre.l0 k t267 0)
set_option maxHeartbeats 8000000 in
set_option maxRecDepth 100000 in
theorem spec_l3Pre.calls (k : Nat) (a0 : ByteArray) (r : Bool) (w : World) (h : spec_l3Pre.f k a0 = some r) :
  Calls Tryz.prog 94 #[.string a0] w fun e w' => e = .returned (.bool r) ∧ Below w.heap.size w w' := by
 have HB := zi (Below.refl w.heap.size w)
 have H := h
 unfold spec_l3Pre.f at H
 clear h
 replace H := Option.bind_eq_some_iff.mp H
 obtain ⟨t267, A20, H⟩ := H
 try dsimp only at H
 have A2 := zi A20
 clear A20
 have H' := zi H
 clear H
 go_enter Tryz.func94, Tryz.ntmps94
 go_wp2_with (first | ((with_reducible refine gate_callee (f := 56) rfl ?_); refine goesL_ (some 6) rfl rfl Tryz.func56 zq rfl #[.string a0, .int .u8 46] rfl zy ?_; (with_reducible refine (spec_l3Split.calls k a0 46 t267 _ A2.out).mono ?_); rintro e w3 ⟨v268, rfl, ho0, hb⟩; refine ⟨_, rfl, ?_⟩; have n0_ := zi (Kd.R_lower ho0 (below_size zz)); have n1_ := zi (below_step zz hb); clear HB; have HO269 := n0_; have HB := n1_; clear n0_ n1_; (try clear hb); (try clear hb2); (try clear hk); (try clear hi); (try clear ho0)))
 go_loopg [4] k (fun kq v4 w' => ∃ (x4_1 : Int), v4 = .int .i64 x4_1 ∧ Aside0 (spec_l3Pre.l0 kq t267 x4_1 = some r) ∧ Aside0 (kq ≤ k) ∧ Aside0 (Kd.R Kd.string 9 w' w.heap.size (fun _ => True) v268 t267) ∧ Aside0 (Below w.heap.size w w'))
 case atStart => exact ⟨(0), zu, H', ⟨Nat.le_refl _⟩, ⟨by (with_reducible repeat (first | apply Kd.R_alloc | apply Kd.R_drewN | apply Kd.R_drew)); exact HO269.out⟩, ⟨zz⟩⟩
 case round =>
  clear H'
  try clear p2
  obtain ⟨x4_1, rfl, HA, HK1, HO_3, HB⟩ := hrel
  cases gk with
  | zero => exact absurd HA.out (by simp [spec_l3Pre.l0])
  | succ k1 =>
   have H := HA.out
   clear HA
   simp only [spec_l3Pre.l0] at H
   by_cases c4 : x4_1 < (t267.length : Int)
   ·rw [if_pos c4] at H
    have c4b0 := decide_eq_true c4
    clear c4
    by_cases c5 : 0 ≤ x4_1
    ·rw [if_pos c5] at H
     have c5b0 := decide_eq_true c5
     clear c5
     replace H := Option.bind_eq_some_iff.mp H
     obtain ⟨t271, A60, H⟩ := H
     try dsimp only at H
     have A6 := zi A60
     clear A60
     by_cases c7 : t271 = true
     ·subst c7
      rw [if_pos rfl] at H
      have H' := zi H
      clear H
      obtain ⟨Ao8, co8, eo8⟩ := Kd.R_slice HO_3.out
      subst eo8
      have p270 : 0 ≤ (x4_1 : Int) := of_decide_eq_true zw
      have q270 : x4_1 < (t267.length : Int) := of_decide_eq_true zw
      obtain ⟨ad270, e270, hx270_0⟩ := Kd.at_string (Kd.R_reads' HO_3.out).2.2 x4_1 p270 q270
      cases e270
      replace p270 := eq_true p270
      replace q270 := eq_true q270
      go_wp2_with (first | ((with_reducible refine gate_callee (f := 109) rfl ?_); refine goesL_ (some 17) rfl rfl Tryz.func109 zq rfl #[.string (rdOf ByteArray.empty t267 x4_1)] rfl zy ?_; (with_reducible refine (spec_l3Part.calls k1 (rdOf ByteArray.empty t267 x4_1) true _ A6.out).mono ?_); rintro e w' ⟨rfl, ⟨nd, rfl⟩⟩; refine ⟨_, rfl, ?_⟩))
      go_roundg k1
      case measure => have := HK1.out; omega
      case rel => exact ⟨(wrap64 (x4_1 + 1)), zu, H', ⟨zx⟩, ⟨z1a⟩, ⟨zz⟩⟩
     ·replace c7 := Bool.eq_false_iff.mpr c7
      subst c7
      rw [if_neg zh] at H
      obtain rfl := Option.some.inj H
      obtain ⟨Ao9, co9, eo9⟩ := Kd.R_slice HO_3.out
      subst eo9
      have p270 : 0 ≤ (x4_1 : Int) := of_decide_eq_true zw
      have q270 : x4_1 < (t267.length : Int) := of_decide_eq_true zw
      obtain ⟨ad270, e270, hx270_0⟩ := Kd.at_string (Kd.R_reads' HO_3.out).2.2 x4_1 p270 q270
      cases e270
      replace p270 := eq_true p270
      replace q270 := eq_true q270
      go_wp2_with (first | ((with_reducible refine gate_callee (f := 109) rfl ?_); refine goesL_ (some 17) rfl rfl Tryz.func109 zq rfl #[.string (rdOf ByteArray.empty t267 x4_1)] rfl zy ?_; (with_reducible refine (spec_l3Part.calls k1 (rdOf ByteArray.empty t267 x4_1) false _ A6.out).mono ?_); rintro e w' ⟨rfl, ⟨nd, rfl⟩⟩; refine ⟨_, rfl, ?_⟩))
      go_ret
      exact ⟨z1b, zz⟩
    ·rw [if_neg c5] at H
     exact absurd H (by simp)
   ·rw [if_neg c4] at H
    have c4b0 := decide_eq_false c4
    clear c4
    obtain rfl := Option.some.inj H
    obtain ⟨Ao10, co10, eo10⟩ := Kd.R_slice HO_3.out
    subst eo10
    go_wp2
    go_ret
    exact ⟨z1b, zz⟩
def spec_VersionOk.f (k : Nat) (a0_0 : Int) (a0_1 : Int) (a0_2 : Int) (a0_3 : ByteArray) : Option (Bool) := (spec_l1In.f a0_0 0 1000000).bind fun t273 => (if t273 = true then ((spec_l1In.f a0_1 0 1000000).bind fun t274 => (if t274 = true then ((spec_l1In.f a0_2 0 1000000).bind fun t275 => (if t275 = true then (if a0_3.toList = ([] : List UInt8) then (some true) else ((spec_l3Pre.f k a0_3).bind fun t276 => (some t276))) else (some false))) else (some false))) else (some false))
set_option maxHeartbeats 8000000 in
set_option maxRecDepth 100000 in
theorem spec_VersionOk.calls (k : Nat) (a0_0 : Int) (a0_1 : Int) (a0_2 : Int) (a0_3 : ByteArray) (r : Bool) (w : World) (h : spec_VersionOk.f k a0_0 a0_1 a0_2 a0_3 = some r) :
  Calls Tryz.prog 68 #[.agg #[.int .i64 a0_0, .int .i64 a0_1, .int .i64 a0_2, .string a0_3]] w fun e w' => e = .returned (.bool r) ∧ Below w.heap.size w w' := by
 have hu25 := Tryz.underlying25
 have HB := zi (Below.refl w.heap.size w)
 have H := h
 unfold spec_VersionOk.f at H
 clear h
 replace H := Option.bind_eq_some_iff.mp H
 obtain ⟨t273, A20, H⟩ := H
 try dsimp only at H
 have A2 := zi A20
 clear A20
 by_cases c3 : t273 = true
 ·subst c3
  rw [if_pos rfl] at H
  replace H := Option.bind_eq_some_iff.mp H
  obtain ⟨t274, A40, H⟩ := H
  try dsimp only at H
  have A4 := zi A40
  clear A40
  by_cases c5 : t274 = true
  ·subst c5
   rw [if_pos rfl] at H
   replace H := Option.bind_eq_some_iff.mp H
   obtain ⟨t275, A60, H⟩ := H
   try dsimp only at H
   have A6 := zi A60
   clear A60
   by_cases c7 : t275 = true
   ·subst c7
    rw [if_pos rfl] at H
    by_cases c8 : a0_3.toList = ([] : List UInt8)
    ·rw [if_pos c8] at H
     have c8b0 : (a0_3.toList == ([] : List UInt8)) = true := beq_iff_eq.mpr c8
     have c8b1 : (a0_3.toList != ([] : List UInt8)) = false := bne_eq_false_iff_eq.mpr c8
     clear c8
     obtain rfl := Option.some.inj H
     go_enter Tryz.func68, Tryz.ntmps68
     go_wp2_with (first | ((with_reducible refine gate_dst (N := 1) rfl ?_); refine box_event zr (N := 1) zr (cs := #[.int .i64 a0_0, .int .i64 a0_1, .int .i64 a0_2, .string a0_3]) (t := 25) z1h ?_; intro gb272 hg w9 hbox hb; have n0_ := zi (below_step zz hb); have n1_ := zi hbox; have n2_ := zi ((z6t : w.heap.size ≤ gb272)); have n3_ := zi ((z6t : w.heap.size ≤ gb272)); clear HB; have HB := n0_; have BK272 := n1_; have GW272 := n2_; have GE272 := n3_; clear n0_ n1_ n2_ n3_; clear hb hbox hg; obtain ⟨hcz10_0, hcz10_1, hcz10_2, hcz10_3, hfz10_0, hfz10_1, hfz10_2, hfz10_3⟩ := ze BK272.out) | ((with_reducible refine gate_callee (f := 93) rfl ?_); refine goesL_ (some 5) rfl rfl Tryz.func93 zq rfl #[.int .i64 a0_0, .int .i64 0, .int .i64 1000000] rfl zy ?_; (with_reducible refine (spec_l1In.calls a0_0 0 1000000 true _ A2.out).mono ?_); rintro e w' ⟨rfl, ⟨nd, rfl⟩⟩; refine ⟨_, rfl, ?_⟩) | (go_at_call 93; (with_reducible refine (spec_l1In.calls a0_1 0 1000000 true _ A4.out).mono ?_); rintro e w' ⟨rfl, ⟨nd, rfl⟩⟩) | (go_at_call 93; (with_reducible refine (spec_l1In.calls a0_2 0 1000000 true _ A6.out).mono ?_); rintro e w' ⟨rfl, ⟨nd, rfl⟩⟩))
     go_ret
     exact ⟨z1b, z2j⟩
    ·rw [if_neg c8] at H
     have c8b0 : (a0_3.toList == ([] : List UInt8)) = false := beq_eq_false_iff_ne.mpr c8
     have c8b1 : (a0_3.toList != ([] : List UInt8)) = true := bne_iff_ne.mpr c8
     replace H := Option.bind_eq_some_iff.mp H
     obtain ⟨t276, A110, H⟩ := H
     try dsimp only at H
     have A11 := zi A110
     clear A110
     obtain rfl := Option.some.inj H
     go_enter Tryz.func68, Tryz.ntmps68
     go_wp2_with (first | ((with_reducible refine gate_dst (N := 1) rfl ?_); refine box_event zr (N := 1) zr (cs := #[.int .i64 a0_0, .int .i64 a0_1, .int .i64 a0_2, .string a0_3]) (t := 25) z1h ?_; intro gb272 hg w12 hbox hb; have n0_ := zi (below_step zz hb); have n1_ := zi hbox; have n2_ := zi ((z6t : w.heap.size ≤ gb272)); have n3_ := zi ((z6t : w.heap.size ≤ gb272)); clear HB; have HB := n0_; have BK272 := n1_; have GW272 := n2_; have GE272 := n3_; clear n0_ n1_ n2_ n3_; clear hb hbox hg; obtain ⟨hcz13_0, hcz13_1, hcz13_2, hcz13_3, hfz13_0, hfz13_1, hfz13_2, hfz13_3⟩ := ze BK272.out) | ((with_reducible refine gate_callee (f := 93) rfl ?_); refine goesL_ (some 5) rfl rfl Tryz.func93 zq rfl #[.int .i64 a0_0, .int .i64 0, .int .i64 1000000] rfl zy ?_; (with_reducible refine (spec_l1In.calls a0_0 0 1000000 true _ A2.out).mono ?_); rintro e w' ⟨rfl, ⟨nd, rfl⟩⟩; refine ⟨_, rfl, ?_⟩) | (go_at_call 93; (with_reducible refine (spec_l1In.calls a0_1 0 1000000 true _ A4.out).mono ?_); rintro e w' ⟨rfl, ⟨nd, rfl⟩⟩) | (go_at_call 93; (with_reducible refine (spec_l1In.calls a0_2 0 1000000 true _ A6.out).mono ?_); rintro e w' ⟨rfl, ⟨nd, rfl⟩⟩) | (go_at_call 94; (with_reducible refine (spec_l3Pre.calls k a0_3 t276 _ A11.out).mono ?_); rintro e w14 ⟨rfl, hb⟩; have n0_ := zi (blk_below (g := gb272) (o := .cells #[.int .i64 a0_0, .int .i64 a0_1, .int .i64 a0_2, .string a0_3] 25 (0, 0)) (by (repeat refine zj ?_); exact BK272.out) hb); have n1_ := zi (below_step z2j hb); clear BK272; clear HB; have BK272 := n0_; have HB := n1_; clear n0_ n1_; (try clear hb); (try clear hb2); (try clear hk); (try clear hi)))
     go_ret
     exact ⟨z1b, z2j⟩
   ·replace c7 := Bool.eq_false_iff.mpr c7
    subst c7
    rw [if_neg zh] at H
    obtain rfl := Option.some.inj H
    go_enter Tryz.func68, Tryz.ntmps68
    go_wp2_with (first | ((with_reducible refine gate_dst (N := 1) rfl ?_); refine box_event zr (N := 1) zr (cs := #[.int .i64 a0_0, .int .i64 a0_1, .int .i64 a0_2, .string a0_3]) (t := 25) z1h ?_; intro gb272 hg w15 hbox hb; have n0_ := zi (below_step zz hb); have n1_ := zi hbox; have n2_ := zi ((z6t : w.heap.size ≤ gb272)); have n3_ := zi ((z6t : w.heap.size ≤ gb272)); clear HB; have HB := n0_; have BK272 := n1_; have GW272 := n2_; have GE272 := n3_; clear n0_ n1_ n2_ n3_; clear hb hbox hg; obtain ⟨hcz16_0, hcz16_1, hcz16_2, hcz16_3, hfz16_0, hfz16_1, hfz16_2, hfz16_3⟩ := ze BK272.out) | ((with_reducible refine gate_callee (f := 93) rfl ?_); refine goesL_ (some 5) rfl rfl Tryz.func93 zq rfl #[.int .i64 a0_0, .int .i64 0, .int .i64 1000000] rfl zy ?_; (with_reducible refine (spec_l1In.calls a0_0 0 1000000 true _ A2.out).mono ?_); rintro e w' ⟨rfl, ⟨nd, rfl⟩⟩; refine ⟨_, rfl, ?_⟩) | (go_at_call 93; (with_reducible refine (spec_l1In.calls a0_1 0 1000000 true _ A4.out).mono ?_); rintro e w' ⟨rfl, ⟨nd, rfl⟩⟩) | (go_at_call 93; (with_reducible refine (spec_l1In.calls a0_2 0 1000000 false _ A6.out).mono ?_); rintro e w' ⟨rfl, ⟨nd, rfl⟩⟩))
    go_ret
    exact ⟨z1b, z2j⟩
  ·replace c5 := Bool.eq_false_iff.mpr c5
   subst c5
   rw [if_neg zh] at H
   obtain rfl := Option.some.inj H
   go_enter Tryz.func68, Tryz.ntmps68
   go_wp2_with (first | ((with_reducible refine gate_dst (N := 1) rfl ?_); refine box_event zr (N := 1) zr (cs := #[.int .i64 a0_0, .int .i64 a0_1, .int .i64 a0_2, .string a0_3]) (t := 25) z1h ?_; intro gb272 hg w17 hbox hb; have n0_ := zi (below_step zz hb); have n1_ := zi hbox; have n2_ := zi ((z6t : w.heap.size ≤ gb272)); have n3_ := zi ((z6t : w.heap.size ≤ gb272)); clear HB; have HB := n0_; have BK272 := n1_; have GW272 := n2_; have GE272 := n3_; clear n0_ n1_ n2_ n3_; clear hb hbox hg; obtain ⟨hcz18_0, hcz18_1, hcz18_2, hcz18_3, hfz18_0, hfz18_1, hfz18_2, hfz18_3⟩ := ze BK272.out) | ((with_reducible refine gate_callee (f := 93) rfl ?_); refine goesL_ (some 5) rfl rfl Tryz.func93 zq rfl #[.int .i64 a0_0, .int .i64 0, .int .i64 1000000] rfl zy ?_; (with_reducible refine (spec_l1In.calls a0_0 0 1000000 true _ A2.out).mono ?_); rintro e w' ⟨rfl, ⟨nd, rfl⟩⟩; refine ⟨_, rfl, ?_⟩) | (go_at_call 93; (with_reducible refine (spec_l1In.calls a0_1 0 1000000 false _ A4.out).mono ?_); rintro e w' ⟨rfl, ⟨nd, rfl⟩⟩))
   go_ret
   exact ⟨z1b, z2j⟩
 ·replace c3 := Bool.eq_false_iff.mpr c3
  subst c3
  rw [if_neg zh] at H
  obtain rfl := Option.some.inj H
  go_enter Tryz.func68, Tryz.ntmps68
  go_wp2_with (first | ((with_reducible refine gate_dst (N := 1) rfl ?_); refine box_event zr (N := 1) zr (cs := #[.int .i64 a0_0, .int .i64 a0_1, .int .i64 a0_2, .string a0_3]) (t := 25) z1h ?_; intro gb272 hg w19 hbox hb; have n0_ := zi (below_step zz hb); have n1_ := zi hbox; have n2_ := zi ((z6t : w.heap.size ≤ gb272)); have n3_ := zi ((z6t : w.heap.size ≤ gb272)); clear HB; have HB := n0_; have BK272 := n1_; have GW272 := n2_; have GE272 := n3_; clear n0_ n1_ n2_ n3_; clear hb hbox hg; obtain ⟨hcz20_0, hcz20_1, hcz20_2, hcz20_3, hfz20_0, hfz20_1, hfz20_2, hfz20_3⟩ := ze BK272.out) | ((with_reducible refine gate_callee (f := 93) rfl ?_); refine goesL_ (some 5) rfl rfl Tryz.func93 zq rfl #[.int .i64 a0_0, .int .i64 0, .int .i64 1000000] rfl zy ?_; (with_reducible refine (spec_l1In.calls a0_0 0 1000000 false _ A2.out).mono ?_); rintro e w' ⟨rfl, ⟨nd, rfl⟩⟩; refine ⟨_, rfl, ?_⟩))
  go_ret
  exact ⟨z1b, z2j⟩
end Go.Proofs.YtgdknepphkhnlaaGreatDoor.X
