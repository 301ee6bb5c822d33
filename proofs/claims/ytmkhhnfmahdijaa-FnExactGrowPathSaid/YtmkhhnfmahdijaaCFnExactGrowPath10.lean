/- The law FnExactGrowPath, as a plain statement: the program's GrowPath answers as the reference's, leaves its argument alone and shares no memory. Conditions: those of the row's reading alone. -/
/- Part 11 of 12 of this claim's texts. -/
import Derived.Test.YtmkhhnfmahdijaaWWords
import Derived.Deep.Slices
import Derived.ChangeArms
import Derived.WideShapes
import Derived.DataReads
import Derived.Test.YtmkhhnfmahdijaaRows
import Derived.WalkKit
import Derived.ProofKit
import Derived.Test.YtmkhhnfmahdijaaCBase0
import Derived.Test.YtmkhhnfmahdijaaCBase2
import Derived.Test.YtmkhhnfmahdijaaCFnExactGrowPath3
import Derived.Test.YtmkhhnfmahdijaaCFnExactGrowPath4
import Derived.Test.YtmkhhnfmahdijaaCFnExactGrowPath5
import Derived.Test.YtmkhhnfmahdijaaCFnExactGrowPath6
import Derived.Test.YtmkhhnfmahdijaaCFnExactGrowPath7
import Derived.Test.YtmkhhnfmahdijaaCFnExactGrowPath8
import Derived.Test.YtmkhhnfmahdijaaCFnExactGrowPath9
namespace Go.Proofs.Ytmkhhnfmahdijaa.X
open Go.RowKit Go.Proofs.YtmkhhnfmahdijaaW.PrintWords Go.Proofs.YtmkhhnfmahdijaaW.PrintLast Go.Proofs.YtmkhhnfmahdijaaW.PrintMore
attribute [local go_sem] max2_int min2_int max_two min_two max_three min_three max_four min_four   -- for this text's walks alone
set_option linter.unusedVariables false
set_option linter.unusedSimpArgs false

/-! ### laws_markByteS: function 38 -/
def laws_markByteS.l0 : Nat → List Int → Int → Int → Option (Int × List Int)
  | 0, _, _, _ => none
  | k + 1, x0, x1, x5 => if x5 < (x0.length : Int) then (if 0 ≤ x5 then (laws_markByteS.l0 k (x0.set (x5 : Int).toNat ((x1) % 256)) (wrap64 (x1 + 1)) (wrap64 (x5 + 1))) else (none)) else (some (x1, x0))
def laws_markByteS.f (k : Nat) (l0 : List Int) (a1 : Int) : Option (Int × List Int) := laws_markByteS.l0 k l0 a1 0
theorem laws_markByteS.mono_l : ∀ k, (∀ y0 y1 y2, LeO (laws_markByteS.l0 k y0 y1 y2) (laws_markByteS.l0 (k + 1) y0 y1 y2))
  | 0 => fun _ _ _ r h => by simp [laws_markByteS.l0] at h
  | k + 1 => by
    have ih0 := laws_markByteS.mono_l k
    · intro y0 y1 y2
      unfold laws_markByteS.l0
      repeat' first
      | (with_reducible exact ih0 _ _ _)
      | (with_reducible exact LeO.refl _)
      | (with_reducible exact LeO.none _)
      | (with_reducible refine LeO.ite ?_ ?_)
      | (with_reducible refine LeO.bind ?_ (fun _ => ?_))
      | exact ih0 _ _ _
      | exact LeO.none _
      | refine LeO.ite ?_ ?_
      | refine LeO.bind ?_ (fun _ => ?_)
theorem laws_markByteS.mono : ∀ a0 a1 k, LeO (laws_markByteS.f k a0 a1) (laws_markByteS.f (k + 1) a0 a1) := by
  intro a0 a1 k
  have ih0 := laws_markByteS.mono_l k
  unfold laws_markByteS.f
  repeat' first
      | (with_reducible exact ih0 _ _ _)
      | (with_reducible exact LeO.refl _)
      | (with_reducible exact LeO.none _)
      | (with_reducible refine LeO.ite ?_ ?_)
      | (with_reducible refine LeO.bind ?_ (fun _ => ?_))
      | exact ih0 _ _ _
      | exact LeO.none _
      | refine LeO.ite ?_ ?_
      | refine LeO.bind ?_ (fun _ => ?_)
set_option maxHeartbeats 8000000 in
set_option maxRecDepth 100000 in
theorem laws_markByteS.calls (k : Nat) (P0_ : Nat → Prop) (u9000_ : Value) (l0 : List Int) (a1 : Int) (r1 : Int) (r2 : List Int) (w0 w : World) (hB : Below w0.heap.size w0 w) (ho0 : Kd.R (Kd.int .u8) 5 w w0.heap.size P0_ u9000_ l0) (h : laws_markByteS.f k l0 a1 = some (r1, r2)) :
    Calls Try.prog 38 #[u9000_, .int .i64 a1] w fun e w' => e = .returned (.int .i64 r1) ∧ Kd.R (Kd.int .u8) 5 w' w0.heap.size (fun k_ => (P0_ k_ ∨ w.heap.size ≤ k_)) u9000_ r2 ∧ Below w0.heap.size w0 w' ∧ Kept w w' (fun k_ => P0_ k_) := by
  have HO0 := Aside0.mk (show Kd.R (Kd.int .u8) 5 w w0.heap.size (fun k_ => (P0_ k_ ∨ w.heap.size ≤ k_)) u9000_ l0 from Kd.R_mono ho0 (fun k_ hk => (.inl hk)))
  have HK := Aside0.mk (Kept.refl w (fun k_ => P0_ k_))
  have HW0 := Aside0.mk hB.size
  have HB := Aside0.mk hB
  clear hB
  have H : (laws_markByteS.l0 k l0 a1 0) = some (r1, r2) := h
  clear h
  have H' := Aside0.mk H
  clear H
  go_enter Try.func38, Try.ntmps38
  go_wp2
  go_loopg [1, 5] k (fun kq v1 v5 w' => ∃ (x0_1 : List Int) (x1_1 : Int) (x5_1 : Int), v1 = .int .i64 x1_1 ∧ v5 = .int .i64 x5_1 ∧ Aside0 (laws_markByteS.l0 kq x0_1 x1_1 x5_1 = some (r1, r2)) ∧ Aside0 (kq ≤ k) ∧ Aside0 (Kd.R (Kd.int .u8) 5 w' w0.heap.size (fun k_ => (P0_ k_ ∨ w.heap.size ≤ k_)) u9000_ x0_1) ∧ Aside0 (Kept w w' (fun k_ => P0_ k_)) ∧ Aside0 (Below w0.heap.size w0 w'))
  case atStart => exact ⟨(l0), (a1), (0), (by first | rfl | (simp; done) | (simp [*]; done)), (by first | rfl | (simp; done) | (simp [*]; done)), H', ⟨Nat.le_refl _⟩, ⟨by (with_reducible repeat (first | apply Kd.R_alloc | apply Kd.R_drewN | apply Kd.R_drew)); exact HO0.out⟩, ⟨by repeat (first | (with_reducible first | exact HK.out | apply Kept.alloc | apply Kept.drewN | apply Kept.drew) | exact HK.out)⟩, ⟨by repeat (first | (with_reducible first | exact HB.out | apply below_alloc | apply pw_below_drewN | apply below_drew1) | exact HB.out)⟩⟩
  case round =>
    clear H'
    try clear p2
    obtain ⟨x0_1, x1_1, x5_1, rfl, rfl, HA, HK1, HO_0, HK, HB⟩ := hrel
    cases gk with
    | zero => exact absurd HA.out (by simp [laws_markByteS.l0])
    | succ k1 =>
      have H := HA.out
      clear HA
      simp only [laws_markByteS.l0] at H
      by_cases c3 : x5_1 < (x0_1.length : Int)
      · rw [if_pos c3] at H
        have c3b0 : decide (x5_1 < (x0_1.length : Int)) = true := decide_eq_true c3
        clear c3
        by_cases c4 : 0 ≤ x5_1
        · rw [if_pos c4] at H
          have c4b0 : decide (0 ≤ x5_1) = true := decide_eq_true c4
          clear c4
          obtain ⟨y183, hy183⟩ : ∃ y_ : List Int, y_ = (x0_1.set (x5_1 : Int).toNat ((x1_1) % 256)) := ⟨_, rfl⟩
          replace H : (laws_markByteS.l0 k1 y183 (wrap64 (x1_1 + 1)) (wrap64 (x5_1 + 1))) = some (r1, r2) := by first | (rw [hy183]; with_reducible exact H) | (have H2_ := (Option.bind_some _ _).symm.trans H; rw [hy183]; with_reducible exact H2_) | (have H2_ := (Option.bind_some _ _).symm.trans H; with_reducible exact H2_) | with_reducible exact H | (rw [hy183]; exact H) | exact H
          have Ny183 := Aside0.mk hy183
          clear hy183
          have H' := Aside0.mk H
          clear H
          obtain ⟨Ao6, co6, eo6⟩ := Kd.R_slice HO_0.out
          subst eo6
          have p5 : 0 ≤ (x5_1 : Int) := of_decide_eq_true (by first | (with_reducible assumption) | assumption)
          have q5 : (x5_1 : Int) < ((x0_1.length : Int) : Int) := of_decide_eq_true (by first | (with_reducible assumption) | assumption)
          obtain ⟨go5, co5, eo5, gb5, gl5, cl5, HG5⟩ := Kd.R_form HO_0.out (by omega)
          (first | cases eo5 | (injection eo5 with ea_ en_ ec_; (first | subst ea_ | (injection ea_ with ea_; subst ea_)); subst ec_; clear en_))
          have GB5 := Aside0.mk gb5
          have GG5 := Aside0.mk HG5
          clear gb5 gl5 HG5
          have HMgo5 := Aside0.mk (show (P0_ go5 ∨ w.heap.size ≤ go5) from (HO_0.out.1 _ rfl))
          obtain ⟨hx5_0, hf5_0⟩ := Kd.R_celln 0 HO_0.out (x5_1 : Int) p5 q5
          replace p5 := eq_true p5
          replace q5 := eq_true q5
          have HP7 := Kd.R_putg HO_0.out (x5_1 : Int) ((x1_1) % 256)
          go_wp2_with (first | ((with_reducible refine gate_store (t := 5) (p := 16) rfl ?_); refine store_event (t := 5) (p := 16) (v := ?vo_w8) (w1 := (wr.setCell ⟨go5, (x5_1 : Int).toNat, none⟩ (.int .u8 ((x1_1) % 256)))) ?hg ?ho ?hn ?hr ?_; (case ho => rfl); (case hg => rfl); (case hn => rfl); (case hr => first | (go_simp; done) | (go_simp; rfl)); intro w8 hw; have hg : wr.grownBy w8 (some go5) := (by rw [hw]; exact HP7.2); have hp_ : Kd.R (Kd.int .u8) 5 w8 w0.heap.size (fun k_ => (P0_ k_ ∨ w.heap.size ≤ k_)) (.slice (some ⟨go5, 0, none⟩) x0_1.length co6) y183 := (by rw [hw, Ny183.out]; exact HP7.1); clear HP7; have n0_ := Aside0.mk (hp_); have n1_ := Aside0.mk ((by rw [hw]; exact below_set (HB.out) GB5.out : Below w0.heap.size w0 w8)); have n2_ := Aside0.mk (Kept.of_grown (S := (fun k_ => P0_ k_)) hg (by repeat (first | (with_reducible first | exact HK.out | apply Kept.alloc | apply Kept.drewN | apply Kept.drew) | exact HK.out)) (fun k_ e_ => (HO_0.out.1 k_ e_))); clear HO_0; clear HB; clear HK; have HO_0 := n0_; have HB := n1_; have HK := n2_; clear n0_ n1_ n2_; clear hg hw hp_))
          go_roundg k1
          case measure => have := HK1.out; omega
          case rel => exact ⟨(y183), (wrap64 (x1_1 + 1)), (wrap64 (x5_1 + 1)), (by first | rfl | (simp; done) | (simp [*]; done)), (by first | rfl | (simp; done) | (simp [*]; done)), H', ⟨by have := HK1.out; omega⟩, ⟨by (with_reducible repeat (first | apply Kd.R_alloc | apply Kd.R_drewN | apply Kd.R_drew)); exact HO_0.out⟩, ⟨by repeat (first | (with_reducible first | exact HK.out | apply Kept.alloc | apply Kept.drewN | apply Kept.drew) | exact HK.out)⟩, ⟨by repeat (first | (with_reducible first | exact HB.out | apply below_alloc | apply pw_below_drewN | apply below_drew1) | exact HB.out)⟩⟩
        · rw [if_neg c4] at H
          exact absurd H (by simp)
      · rw [if_neg c3] at H
        have c3b0 : decide (x5_1 < (x0_1.length : Int)) = false := decide_eq_false c3
        clear c3
        simp only [Option.some.injEq, Prod.mk.injEq] at H
        obtain ⟨rfl, rfl⟩ := H
        obtain ⟨Ao9, co9, eo9⟩ := Kd.R_slice HO_0.out
        subst eo9
        go_wp2
        go_ret
        exact ⟨by first | rfl | (simp [errW_none, errW_some] <;> rfl) | (simp [*, errW_none, errW_some] <;> rfl), by (with_reducible repeat (first | apply Kd.R_alloc | apply Kd.R_drewN | apply Kd.R_drew)); exact HO_0.out, by repeat (first | (with_reducible first | exact HB.out | apply below_alloc | apply pw_below_drewN | apply below_drew1) | exact HB.out), by repeat (first | (with_reducible first | exact HK.out | apply Kept.alloc | apply Kept.drewN | apply Kept.drew) | exact HK.out)⟩

end Go.Proofs.Ytmkhhnfmahdijaa.X

namespace Go.Proofs.Ytmkhhnfmahdijaa.X
open Go.RowKit Go.Proofs.YtmkhhnfmahdijaaW.PrintWords Go.Proofs.YtmkhhnfmahdijaaW.PrintLast Go.Proofs.YtmkhhnfmahdijaaW.PrintMore
attribute [local go_sem] max2_int min2_int max_two min_two max_three min_three max_four min_four   -- for this text's walks alone
set_option linter.unusedVariables false
set_option linter.unusedSimpArgs false

/-! ### laws_heldByteS: function 39 -/
def laws_heldByteS.l0 : Nat → List Int → Int → Int → Option (Int)
  | 0, _, _, _ => none
  | k + 1, x0, x1, x5 => if x5 < (x0.length : Int) then (if 0 ≤ x5 then (if (rd x0 x5) = ((x1) % 256) then (laws_heldByteS.l0 k x0 (wrap64 (x1 + 1)) (wrap64 (x5 + 1))) else (some (-1))) else (none)) else (some x1)
def laws_heldByteS.f (k : Nat) (l0 : List Int) (a1 : Int) : Option (Int) := laws_heldByteS.l0 k l0 a1 0
theorem laws_heldByteS.mono_l : ∀ k, (∀ y0 y1 y2, LeO (laws_heldByteS.l0 k y0 y1 y2) (laws_heldByteS.l0 (k + 1) y0 y1 y2))
  | 0 => fun _ _ _ r h => by simp [laws_heldByteS.l0] at h
  | k + 1 => by
    have ih0 := laws_heldByteS.mono_l k
    · intro y0 y1 y2
      unfold laws_heldByteS.l0
      repeat' first
      | (with_reducible exact ih0 _ _ _)
      | (with_reducible exact LeO.refl _)
      | (with_reducible exact LeO.none _)
      | (with_reducible refine LeO.ite ?_ ?_)
      | (with_reducible refine LeO.bind ?_ (fun _ => ?_))
      | exact ih0 _ _ _
      | exact LeO.none _
      | refine LeO.ite ?_ ?_
      | refine LeO.bind ?_ (fun _ => ?_)
theorem laws_heldByteS.mono : ∀ a0 a1 k, LeO (laws_heldByteS.f k a0 a1) (laws_heldByteS.f (k + 1) a0 a1) := by
  intro a0 a1 k
  have ih0 := laws_heldByteS.mono_l k
  unfold laws_heldByteS.f
  repeat' first
      | (with_reducible exact ih0 _ _ _)
      | (with_reducible exact LeO.refl _)
      | (with_reducible exact LeO.none _)
      | (with_reducible refine LeO.ite ?_ ?_)
      | (with_reducible refine LeO.bind ?_ (fun _ => ?_))
      | exact ih0 _ _ _
      | exact LeO.none _
      | refine LeO.ite ?_ ?_
      | refine LeO.bind ?_ (fun _ => ?_)
set_option maxHeartbeats 8000000 in
set_option maxRecDepth 100000 in
theorem laws_heldByteS.calls (k : Nat) (A0 : Option Addr) (c0 : Nat) (l0 : List Int) (a1 : Int) (r : Int) (w : World) (hr0 : Kd.C (Kd.int .u8) w A0 l0.length l0) (hc0 : l0.length ≤ c0) (h : laws_heldByteS.f k l0 a1 = some r) :
    Calls Try.prog 39 #[.slice A0 l0.length c0, .int .i64 a1] w fun e w' => e = .returned (.int .i64 r) ∧ Drawn0 w w' := by
  have HR0 := Aside0.mk hr0
  have HC0 := Aside0.mk hc0
  clear hr0 hc0
  have H : (laws_heldByteS.l0 k l0 a1 0) = some r := h
  clear h
  have H' := Aside0.mk H
  clear H
  go_enter Try.func39, Try.ntmps39
  go_wp2
  go_loopg [1, 5] k (fun kq v1 v5 w' => ∃ (x1_1 : Int) (x5_1 : Int), v1 = .int .i64 x1_1 ∧ v5 = .int .i64 x5_1 ∧ Aside0 (laws_heldByteS.l0 kq l0 x1_1 x5_1 = some r) ∧ Aside0 (kq ≤ k) ∧ Drawn0 w w')
  case atStart => exact ⟨(a1), (0), (by first | rfl | (simp; done) | (simp [*]; done)), (by first | rfl | (simp; done) | (simp [*]; done)), H', ⟨Nat.le_refl _⟩, by repeat (first | exact Drawn0.refl _ | apply Drawn0.step)⟩
  case round =>
    clear H'
    try clear p2
    obtain ⟨x1_1, x5_1, rfl, rfl, HA, HK1, ⟨m1, rfl⟩⟩ := hrel
    cases gk with
    | zero => exact absurd HA.out (by simp [laws_heldByteS.l0])
    | succ k1 =>
      have H := HA.out
      clear HA
      simp only [laws_heldByteS.l0] at H
      by_cases c3 : x5_1 < (l0.length : Int)
      · rw [if_pos c3] at H
        have c3b0 : decide (x5_1 < (l0.length : Int)) = true := decide_eq_true c3
        clear c3
        by_cases c4 : 0 ≤ x5_1
        · rw [if_pos c4] at H
          have c4b0 : decide (0 ≤ x5_1) = true := decide_eq_true c4
          clear c4
          by_cases c5 : (rd l0 x5_1) = ((x1_1) % 256)
          · rw [if_pos c5] at H
            have c5b0 : ((rd l0 x5_1) == ((x1_1) % 256)) = true := beq_iff_eq.mpr c5
            have c5b1 : ((rd l0 x5_1) != ((x1_1) % 256)) = false := bne_eq_false_iff_eq.mpr c5
            clear c5
            have H' := Aside0.mk H
            clear H
            have p184 : 0 ≤ (x5_1 : Int) := of_decide_eq_true (by first | (with_reducible assumption) | assumption)
            have q184 : x5_1 < (l0.length : Int) := of_decide_eq_true (by first | (with_reducible assumption) | assumption)
            obtain ⟨ad184, e184, hx184_0⟩ := Kd.at_int HR0.out x5_1 p184 q184
            cases e184
            replace p184 := eq_true p184
            replace q184 := eq_true q184
            go_wp2
            go_roundg k1
            case measure => have := HK1.out; omega
            case rel => exact ⟨(wrap64 (x1_1 + 1)), (wrap64 (x5_1 + 1)), (by first | rfl | (simp; done) | (simp [*]; done)), (by first | rfl | (simp; done) | (simp [*]; done)), H', ⟨by have := HK1.out; omega⟩, by repeat (first | exact Drawn0.refl _ | apply Drawn0.step)⟩
          · rw [if_neg c5] at H
            have c5b0 : ((rd l0 x5_1) == ((x1_1) % 256)) = false := beq_eq_false_iff_ne.mpr c5
            have c5b1 : ((rd l0 x5_1) != ((x1_1) % 256)) = true := bne_iff_ne.mpr c5
            obtain rfl := Option.some.inj H
            have p184 : 0 ≤ (x5_1 : Int) := of_decide_eq_true (by first | (with_reducible assumption) | assumption)
            have q184 : x5_1 < (l0.length : Int) := of_decide_eq_true (by first | (with_reducible assumption) | assumption)
            obtain ⟨ad184, e184, hx184_0⟩ := Kd.at_int HR0.out x5_1 p184 q184
            cases e184
            replace p184 := eq_true p184
            replace q184 := eq_true q184
            go_wp2
            go_ret
            exact ⟨by first | rfl | (simp; done) | (simp [*]; done), by repeat (first | exact Drawn0.refl _ | apply Drawn0.step)⟩
        · rw [if_neg c4] at H
          exact absurd H (by simp)
      · rw [if_neg c3] at H
        have c3b0 : decide (x5_1 < (l0.length : Int)) = false := decide_eq_false c3
        clear c3
        obtain rfl := Option.some.inj H
        go_wp2
        go_ret
        exact ⟨by first | rfl | (simp; done) | (simp [*]; done), by repeat (first | exact Drawn0.refl _ | apply Drawn0.step)⟩

end Go.Proofs.Ytmkhhnfmahdijaa.X

/- What the laws' own helpers compute: copies, comparisons, marks. No Go, no memory. -/
set_option linter.unusedVariables false
namespace Go.Proofs.Ytmkhhnfmahdijaa.Z
open Go.RowKit Go.Proofs.YtmkhhnfmahdijaaW.PrintWords Go.Proofs.YtmkhhnfmahdijaaW.PrintMore Go.Proofs.Ytmkhhnfmahdijaa.X

/-! Strings as lists of bytes -/
theorem tl_loop (a : ByteArray) (d : Nat) : ∀ i r, a.size = i + d → ByteArray.toList.loop a i r = r.reverse ++ a.data.toList.drop i := by
  have h2 := data_length a
  induction d with
  | zero =>
    intro i r h
    unfold ByteArray.toList.loop
    rw [if_neg (by omega), List.drop_eq_nil_of_le (by omega), List.append_nil]
  | succ d ih =>
    intro i r h
    unfold ByteArray.toList.loop
    rw [if_pos (by omega), ih (i + 1) _ (by omega)]
    have hi : i < a.data.size := by
      have : a.data.size = a.size := rfl
      omega
    rw [List.drop_eq_getElem_cons (i := i) (by simpa using hi)]
    simp [ByteArray.get!]
    exact getElem!_pos a.data i hi
theorem tl (a : ByteArray) : a.toList = a.data.toList := by
  unfold ByteArray.toList
  rw [tl_loop a a.size 0 [] (by omega)]
  simp
theorem tl_inj {a b : ByteArray} : a.toList = b.toList ↔ a = b := by
  constructor
  · intro h
    rw [tl, tl] at h
    have h1 : a.data = b.data := Array.toList_inj.1 h
    cases a
    cases b
    simp_all
  · rintro rfl
    rfl

/-! toByteS -/
theorem toByteS_l0 (l : List Int) (hn : l.length ≤ 4611686018427387904) (d : Nat) : ∀ (i : Nat) (m : List Int), i + d = l.length → m.length = l.length → (∀ j, j < i → m[j]? = l[j]?) → Ev (fun k => laws_toByteS.l0 k l m (i : Int)) l := by
  induction d with
  | zero =>
    intro i m hi hm h
    refine evS (fun k => by rw [laws_toByteS.l0]) (evF (by omega) (evR ?_))
    exact ext_get hm (fun j hj => h j (by omega))
  | succ d ih =>
    intro i m hi hm h
    refine evS (fun k => by rw [laws_toByteS.l0]) (evT (by omega) (evT (by omega) (evT (by omega) ?_)))
    rw [w64s (show i < l.length by omega) (by omega)]
    exact ih (i + 1) _ (by omega) (by simpa using hm) (by simpa using set_next hm (by omega) (rd_get (by omega)) h)
theorem toByteS_ev (l : List Int) (hn : l.length ≤ 281474976710656) : Ev (fun k => laws_toByteS.f k l) l := by
  unfold laws_toByteS.f
  exact evT (by omega) (evT (by omega) (toByteS_l0 l (by omega) l.length 0 _ (by omega) (by simp) (by intro j hj; omega)))

/-! eqByteS -/
theorem eqByteS_l0 (a b : List Int) (hn : a.length ≤ 4611686018427387904) (hl : a.length = b.length) (d : Nat) : ∀ (i : Nat), i + d = a.length → (∀ j, j < i → a[j]? = b[j]?) → Ev (fun k => laws_eqByteS.l0 k a b (i : Int)) (decide (a = b)) := by
  induction d with
  | zero =>
    intro i hi h
    refine evS (fun k => by rw [laws_eqByteS.l0]) (evF (by omega) (evR ?_))
    exact (decide_eq_true (ext_get hl (fun j hj => h j (by omega)))).symm
  | succ d ih =>
    intro i hi h
    refine evS (fun k => by rw [laws_eqByteS.l0]) (evT (by omega) (evT (by omega) (evT (by omega) (evI ?_ ?_))))
    · intro he
      rw [w64s (show i < a.length by omega) (by omega)]
      refine ih (i + 1) (by omega) (fun j hj => ?_)
      rcases Nat.lt_or_ge j i with h1 | h1
      · exact h j h1
      · obtain rfl : i = j := by omega
        rw [rd_get (by omega), rd_get (by omega), he]
    · intro he
      refine evR (decide_eq_false (fun e => he ?_)).symm
      rw [e]
theorem eqByteS_ev (a b : List Int) (hn : a.length ≤ 4611686018427387904) : Ev (fun k => laws_eqByteS.f k a b) (decide (a = b)) := by
  unfold laws_eqByteS.f
  refine evI (fun h => ?_) (fun h => ?_)
  · exact eqByteS_l0 a b hn (by omega) a.length 0 (by omega) (by intro j hj; omega)
  · refine evR (decide_eq_false (fun e => h ?_)).symm
    rw [e]
theorem eqByteS_same (a : List Int) (hn : a.length ≤ 4611686018427387904) : Ev (fun k => laws_eqByteS.f k a a) true := by
  have := eqByteS_ev a a hn
  rwa [decide_eq_true rfl] at this

/-! marks -/
def mkB (n : Nat) (k : Int) : List Int := (List.range n).map fun (i : Nat) => (k + (i : Int)) % 256
theorem mkB_length (n : Nat) (k : Int) : (mkB n k).length = n := by simp [mkB]
theorem mkB_get {n : Nat} (k : Int) {i : Nat} (h : i < n) : (mkB n k)[i]? = some ((k + (i : Int)) % 256) := by simp [mkB, h]
theorem markByteS_l0 (n : Nat) (a : Int) (ha : 0 ≤ a) (hn : a + n ≤ 4611686018427387904) (d : Nat) : ∀ (i : Nat) (m : List Int), i + d = n → m.length = n → (∀ j, j < i → m[j]? = (mkB n a)[j]?) → Ev (fun k => laws_markByteS.l0 k m (a + (i : Int)) (i : Int)) (a + (n : Int), mkB n a) := by
  induction d with
  | zero =>
    intro i m hi hm h
    refine evS (fun k => by rw [laws_markByteS.l0]) (evF (by omega) (evR ?_))
    rw [ext_get (m := mkB n a) (by rw [mkB_length]; exact hm) (fun j hj => h j (by rw [mkB_length] at hj; omega)), show i = n by omega]
  | succ d ih =>
    intro i m hi hm h
    refine evS (fun k => by rw [laws_markByteS.l0]) (evT (by omega) (evT (by omega) ?_))
    rw [w64s (show i < n by omega) (by omega), w64 (x := a + (i : Int) + 1) (by omega), show a + (i : Int) + 1 = a + ((i + 1 : Nat) : Int) by omega]
    exact ih (i + 1) _ (by omega) (by simpa using hm) (by simpa using set_next (m := mkB n a) (by rw [mkB_length]; exact hm) (by rw [mkB_length]; omega) (mkB_get a (by omega)) h)
theorem markByteS_ev (l : List Int) (a : Int) (ha : 0 ≤ a) (hn : a + l.length ≤ 4611686018427387904) : Ev (fun k => laws_markByteS.f k l a) (a + (l.length : Int), mkB l.length a) := by
  have h := markByteS_l0 l.length a ha hn l.length 0 l (by omega) rfl (by intro j hj; omega)
  rw [show a + ((0 : Nat) : Int) = a by omega] at h
  exact h
theorem heldByteS_l0 (n : Nat) (a : Int) (ha : 0 ≤ a) (hn : a + n ≤ 4611686018427387904) (d : Nat) : ∀ (i : Nat), i + d = n → Ev (fun k => laws_heldByteS.l0 k (mkB n a) (a + (i : Int)) (i : Int)) (a + (n : Int)) := by
  induction d with
  | zero =>
    intro i hi
    refine evS (fun k => by rw [laws_heldByteS.l0]) (evF (by rw [mkB_length]; omega) (evR ?_))
    rw [show i = n by omega]
  | succ d ih =>
    intro i hi
    refine evS (fun k => by rw [laws_heldByteS.l0]) (evT (by rw [mkB_length]; omega) (evT (by omega) (evT ?_ ?_)))
    · have h1 := rd_get (l := mkB n a) (i := i) (by rw [mkB_length]; omega)
      rw [mkB_get a (by omega)] at h1
      exact (Option.some.inj h1).symm
    · rw [w64s (show i < n by omega) (by omega), w64 (x := a + (i : Int) + 1) (by omega), show a + (i : Int) + 1 = a + ((i + 1 : Nat) : Int) by omega]
      exact ih (i + 1) (by omega)
theorem heldByteS_ev (n : Nat) (a : Int) (ha : 0 ≤ a) (hn : a + n ≤ 4611686018427387904) : Ev (fun k => laws_heldByteS.f k (mkB n a) a) (a + (n : Int)) := by
  have h := heldByteS_l0 n a ha hn n 0 (by omega)
  rw [show a + ((0 : Nat) : Int) = a by omega] at h
  exact h

/-- Marks that are held, behind one another. -/
theorem evHeld {α : Type} {g f f' : Nat → Option α} {r : α} {n : Nat} {m : Int} (hm : m = 1 + (n : Int)) (H : Ev g r) : Ev (fun k => if m < 0 then f k else if m = 1 + (n : Int) then g k else f' k) r :=
  evF (by omega) (evT hm H)
theorem evNeg {α : Type} {g f : Nat → Option α} {r : α} {n : Nat} (H : Ev g r) : Ev (fun k => if (1 + (n : Int)) < 0 then f k else g k) r := evF (by omega) H

/-! strings' slices -/
theorem toStringS_l0 (l : List ByteArray) (hn : l.length ≤ 4611686018427387904) (d : Nat) : ∀ (i : Nat) (m : List ByteArray), i + d = l.length → m.length = l.length → (∀ j, j < i → m[j]? = l[j]?) → Ev (fun k => laws_toStringS.l0 k l m (i : Int)) l := by
  induction d with
  | zero =>
    intro i m hi hm h
    refine evS (fun k => by rw [laws_toStringS.l0]) (evF (by omega) (evR ?_))
    exact ext_get hm (fun j hj => h j (by omega))
  | succ d ih =>
    intro i m hi hm h
    refine evS (fun k => by rw [laws_toStringS.l0]) (evT (by omega) (evT (by omega) (evT (by omega) ?_)))
    rw [w64s (show i < l.length by omega) (by omega)]
    exact ih (i + 1) _ (by omega) (by simpa using hm) (by simpa using set_next hm (by omega) (rdOf_get (by omega)) h)
theorem toStringS_ev (l : List ByteArray) (hn : l.length ≤ 1048576) : Ev (fun k => laws_toStringS.f k l) l := by
  unfold laws_toStringS.f
  exact evT (by omega) (evT (by omega) (toStringS_l0 l (by omega) l.length 0 _ (by omega) (by simp) (by intro j hj; omega)))
theorem eqStringS_l0 (a b : List ByteArray) (hn : a.length ≤ 4611686018427387904) (hl : a.length = b.length) (d : Nat) : ∀ (i : Nat), i + d = a.length → (∀ j, j < i → a[j]? = b[j]?) → Ev (fun k => laws_eqStringS.l0 k a b (i : Int)) (decide (a = b)) := by
  induction d with
  | zero =>
    intro i hi h
    refine evS (fun k => by rw [laws_eqStringS.l0]) (evF (by omega) (evR ?_))
    exact (decide_eq_true (ext_get hl (fun j hj => h j (by omega)))).symm
  | succ d ih =>
    intro i hi h
    refine evS (fun k => by rw [laws_eqStringS.l0]) (evT (by omega) (evT (by omega) (evT (by omega) (evI ?_ ?_))))
    · intro he
      rw [w64s (show i < a.length by omega) (by omega)]
      refine ih (i + 1) (by omega) (fun j hj => ?_)
      rcases Nat.lt_or_ge j i with h1 | h1
      · exact h j h1
      · obtain rfl : i = j := by omega
        rw [rdOf_get (d := ByteArray.empty) (by omega), rdOf_get (d := ByteArray.empty) (by omega), tl_inj.1 he]
    · intro he
      refine evR (decide_eq_false (fun e => he ?_)).symm
      rw [e]
theorem eqStringS_ev (a b : List ByteArray) (hn : a.length ≤ 4611686018427387904) : Ev (fun k => laws_eqStringS.f k a b) (decide (a = b)) := by
  unfold laws_eqStringS.f
  refine evI (fun h => ?_) (fun h => ?_)
  · exact eqStringS_l0 a b hn (by omega) a.length 0 (by omega) (by intro j hj; omega)
  · refine evR (decide_eq_false (fun e => h ?_)).symm
    rw [e]
theorem eqStringS_same (a : List ByteArray) (hn : a.length ≤ 4611686018427387904) : Ev (fun k => laws_eqStringS.f k a a) true := by
  have := eqStringS_ev a a hn
  rwa [decide_eq_true rfl] at this

/-- How many bytes and texts there are. -/
def total (l : List ByteArray) : Nat := (l.map fun s => s.size).sum
theorem total_nil : total [] = 0 := rfl
theorem total_cons (s : ByteArray) (l : List ByteArray) : total (s :: l) = s.size + total l := by simp [total]
theorem total_drop (l : List ByteArray) (i : Nat) (h : i < l.length) : total (l.drop i) = (rdOf ByteArray.empty l (i : Int)).size + total (l.drop (i + 1)) := by
  rw [List.drop_eq_getElem_cons h, total_cons]
  have := rdOf_get (d := ByteArray.empty) h
  rw [List.getElem?_eq_getElem h] at this
  rw [Option.some.inj this]
theorem szStringS_l0 (l : List ByteArray) (hn : l.length ≤ 4611686018427387904) (hs : ∀ y, y ∈ l → y.size ≤ maxLen) (d : Nat) : ∀ (i : Nat) (left : Int), i + d = l.length → 0 ≤ left → left ≤ 1048576 → ∃ r : Int, Ev (fun k => laws_szStringS.l0 k l left (i : Int)) r ∧ (r < 0 ∨ 0 ≤ r ∧ (total (l.drop i) : Int) + r = left) := by
  induction d with
  | zero =>
    intro i left hi h0 h1
    refine ⟨left, evS (fun k => by rw [laws_szStringS.l0]) (evF (by omega) (evR rfl)), .inr ⟨h0, ?_⟩⟩
    rw [List.drop_eq_nil_of_le (by omega), total_nil]
    omega
  | succ d ih =>
    intro i left hi h0 h1
    have hm : (rdOf ByteArray.empty l (i : Int)).size ≤ maxLen := by
      refine hs _ ?_
      have := rdOf_get (d := ByteArray.empty) (l := l) (i := i) (by omega)
      exact List.mem_of_getElem? this
    unfold maxLen at hm
    have hw : wrap64 (left - ((rdOf ByteArray.empty l (i : Int)).size : Int)) = left - ((rdOf ByteArray.empty l (i : Int)).size : Int) := w64 (by omega)
    have ht := total_drop l i (by omega)
    by_cases hlt : left - ((rdOf ByteArray.empty l (i : Int)).size : Int) < 0
    · refine ⟨-1, evS (fun k => by rw [laws_szStringS.l0]) (evT (by omega) (evT (by omega) ?_)), .inl (by omega)⟩
      rw [hw]
      exact evT hlt (evR rfl)
    · obtain ⟨r, hr, hr2⟩ := ih (i + 1) (left - ((rdOf ByteArray.empty l (i : Int)).size : Int)) (by omega) (by omega) (by omega)
      refine ⟨r, evS (fun k => by rw [laws_szStringS.l0]) (evT (by omega) (evT (by omega) ?_)), ?_⟩
      · rw [hw, w64s (show i < l.length by omega) (by omega)]
        exact evF hlt hr
      · rcases hr2 with h | ⟨h, h'⟩
        · exact .inl h
        · exact .inr ⟨h, by omega⟩
theorem szStringS_ev (l : List ByteArray) (hn : l.length ≤ maxLen) (hs : ∀ y, y ∈ l → y.size ≤ maxLen) (left : Int) (h0 : 0 ≤ left) (h1 : left ≤ 1048576) :
    ∃ r : Int, Ev (fun k => laws_szStringS.f k l left) r ∧ (r < 0 ∨ 0 ≤ r ∧ (l.length : Int) + (total l : Int) + r = left) := by
  unfold maxLen at hn
  have hw : wrap64 (left - (l.length : Int)) = left - (l.length : Int) := w64 (by omega)
  by_cases hlt : left - (l.length : Int) < 0
  · refine ⟨-1, ?_, .inl (by omega)⟩
    unfold laws_szStringS.f
    rw [hw]
    exact evT hlt (evR rfl)
  · obtain ⟨r, hr, hr2⟩ := szStringS_l0 l (by omega) hs l.length 0 (left - (l.length : Int)) (by omega) (by omega) (by omega)
    refine ⟨r, ?_, ?_⟩
    · unfold laws_szStringS.f
      rw [hw]
      exact evF hlt hr
    · rcases hr2 with h | ⟨h, h'⟩
      · exact .inl h
      · exact .inr ⟨h, by rw [List.drop_zero] at h'; omega⟩
theorem total_mem {l : List ByteArray} {y : ByteArray} (h : y ∈ l) : y.size ≤ total l := by
  induction l with
  | nil => cases h
  | cons a l ih =>
    rw [total_cons]
    rcases List.mem_cons.1 h with rfl | h
    · omega
    · have := ih h
      omega
end Go.Proofs.Ytmkhhnfmahdijaa.Z

/- Marks over strings' slices: the text of a mark, and that marks are held. No Go, no memory. -/
set_option linter.unusedVariables false
namespace Go.Proofs.Ytmkhhnfmahdijaa.Z
open Go.RowKit Go.Proofs.YtmkhhnfmahdijaaW.PrintWords Go.Proofs.YtmkhhnfmahdijaaW.PrintMore Go.Proofs.Ytmkhhnfmahdijaa.X

theorem strOf_size (l : List Int) : (strOfNums l).size = l.length := by simp [strOfNums, ByteArray.size]
theorem app_size (a b : ByteArray) : (a ++ b).size = a.size + b.size := ByteArray.size_append
theorem markText_l0 (d : Nat) : ∀ (x : Int) (s : ByteArray), x < 10 ^ d → x ≤ 9223372036854775807 → s.size + d ≤ 1000 → ∃ r, Ev (fun k => laws_markText.l0 k x s) r := by
  induction d with
  | zero =>
    intro x s hx hb h
    exact ⟨_, evS (fun k => by rw [laws_markText.l0]) (evF (by simp at hx; omega) (evT (by omega) (evR rfl)))⟩
  | succ d ih =>
    intro x s hx hb h
    by_cases h0 : x > 0
    · have hq : wrap64 (Int.tdiv x 10) = x / 10 := by
        rw [Int.tdiv_eq_ediv_of_nonneg (by omega), w64 (by omega)]
      have hlt : x / 10 < 10 ^ d := by
        rw [Int.ediv_lt_iff_lt_mul (by omega)]
        rw [Int.pow_succ] at hx
        exact hx
      obtain ⟨r, hr⟩ := ih (x / 10) (strOfNums [(wrap64 (48 + (Int.tmod x 10))) % 256] ++ s) hlt (by omega) (by rw [app_size, strOf_size]; simp; omega)
      refine ⟨r, evS (fun k => by rw [laws_markText.l0]) ?_⟩
      refine evT h0 ?_
      refine evC rfl ?_
      refine evT (by rw [strOf_size]; simp; omega) ?_
      rw [hq]
      exact hr
    · exact ⟨_, evS (fun k => by rw [laws_markText.l0]) (evF h0 (evT (by omega) (evR rfl)))⟩
theorem markText_some (x : Int) (hb : x ≤ 9223372036854775807) : ∃ r, Ev (fun k => laws_markText.f k x) r := by
  unfold laws_markText.f
  by_cases h0 : x ≤ 0
  · exact ⟨_, evT h0 (evR rfl)⟩
  · obtain ⟨r, hr⟩ := markText_l0 20 x (⟨#[]⟩ : ByteArray) (by omega) hb (by decide)
    exact ⟨r, evF h0 hr⟩
/-- The text of mark x. -/
noncomputable def mT (x : Int) : ByteArray := if hb : x ≤ 9223372036854775807 then Classical.choose (markText_some x hb) else ⟨#[]⟩
theorem mT_ev {x : Int} (hb : x ≤ 9223372036854775807) : Ev (fun k => laws_markText.f k x) (mT x) := by
  unfold mT
  rw [dif_pos hb]
  exact Classical.choose_spec (markText_some x hb)

noncomputable def mkS (n : Nat) (k : Int) : List ByteArray := (List.range n).map fun (i : Nat) => mT (k + (i : Int))
theorem mkS_length (n : Nat) (k : Int) : (mkS n k).length = n := by simp [mkS]
theorem mkS_get {n : Nat} (k : Int) {i : Nat} (h : i < n) : (mkS n k)[i]? = some (mT (k + (i : Int))) := by simp [mkS, h]
theorem markStringS_l0 (n : Nat) (a : Int) (ha : 0 ≤ a) (hn : a + n ≤ 4611686018427387904) (d : Nat) : ∀ (i : Nat) (m : List ByteArray), i + d = n → m.length = n → (∀ j, j < i → m[j]? = (mkS n a)[j]?) → Ev (fun k => laws_markStringS.l0 k m (a + (i : Int)) (i : Int)) (a + (n : Int), mkS n a) := by
  induction d with
  | zero =>
    intro i m hi hm h
    refine evS (fun k => by rw [laws_markStringS.l0]) (evF (by omega) (evR ?_))
    rw [ext_get (m := mkS n a) (by rw [mkS_length]; exact hm) (fun j hj => h j (by rw [mkS_length] at hj; omega)), show i = n by omega]
  | succ d ih =>
    intro i m hi hm h
    refine evS (fun k => by rw [laws_markStringS.l0]) (evT (by omega) ?_)
    refine evB (mT_ev (by omega)) ?_
    refine evT (by omega) ?_
    rw [w64s (show i < n by omega) (by omega), w64 (x := a + (i : Int) + 1) (by omega), show a + (i : Int) + 1 = a + ((i + 1 : Nat) : Int) by omega]
    exact ih (i + 1) _ (by omega) (by simpa using hm) (by simpa using set_next (m := mkS n a) (by rw [mkS_length]; exact hm) (by rw [mkS_length]; omega) (mkS_get a (by omega)) h)
theorem markStringS_ev (l : List ByteArray) (a : Int) (ha : 0 ≤ a) (hn : a + l.length ≤ 4611686018427387904) : Ev (fun k => laws_markStringS.f k l a) (a + (l.length : Int), mkS l.length a) := by
  have h := markStringS_l0 l.length a ha hn l.length 0 l (by omega) rfl (by intro j hj; omega)
  rw [show a + ((0 : Nat) : Int) = a by omega] at h
  exact h
theorem heldStringS_l0 (n : Nat) (a : Int) (ha : 0 ≤ a) (hn : a + n ≤ 4611686018427387904) (d : Nat) : ∀ (i : Nat), i + d = n → Ev (fun k => laws_heldStringS.l0 k (mkS n a) (a + (i : Int)) (i : Int)) (a + (n : Int)) := by
  induction d with
  | zero =>
    intro i hi
    refine evS (fun k => by rw [laws_heldStringS.l0]) (evF (by rw [mkS_length]; omega) (evR ?_))
    rw [show i = n by omega]
  | succ d ih =>
    intro i hi
    refine evS (fun k => by rw [laws_heldStringS.l0]) (evT (by rw [mkS_length]; omega) (evT (by omega) ?_))
    refine evB (mT_ev (by omega)) ?_
    refine evT ?_ ?_
    · have h1 := rdOf_get (d := ByteArray.empty) (l := mkS n a) (i := i) (by rw [mkS_length]; omega)
      rw [mkS_get a (by omega)] at h1
      rw [Option.some.inj h1]
    · rw [w64s (show i < n by omega) (by omega), w64 (x := a + (i : Int) + 1) (by omega), show a + (i : Int) + 1 = a + ((i + 1 : Nat) : Int) by omega]
      exact ih (i + 1) (by omega)
theorem heldStringS_ev (n : Nat) (a : Int) (ha : 0 ≤ a) (hn : a + n ≤ 4611686018427387904) : Ev (fun k => laws_heldStringS.f k (mkS n a) a) (a + (n : Int)) := by
  have h := heldStringS_l0 n a ha hn n 0 (by omega)
  rw [show a + ((0 : Nat) : Int) = a by omega] at h
  exact h
end Go.Proofs.Ytmkhhnfmahdijaa.Z

/- Halves, the program's and the reference's: the same. Plain lemmas. -/
set_option linter.unusedVariables false
namespace Go.Proofs.Ytmkhhnfmahdijaa.Z
open Go.RowKit Go.Proofs.YtmkhhnfmahdijaaW.PrintWords Go.Proofs.YtmkhhnfmahdijaaW.PrintMore Go.Proofs.Ytmkhhnfmahdijaa.X
/-- Doubling c as long as twice it is less than n. -/
def hl (n c : Nat) : Nat := if h : 1 ≤ c ∧ 2 * c < n then hl n (2 * c) else c
termination_by n - c
decreasing_by omega
theorem hl_both (n : Nat) (hn : n ≤ 1000000000) (d : Nat) : ∀ c : Nat, n - c ≤ d → 1 ≤ c → c < n → Ev (fun k => impl_half.l0 k (n : Int) (c : Int)) (hl n c : Int) ∧ Ev (fun k => spec_l6Half.l0 k (n : Int) (c : Int)) (hl n c : Int) ∧ c ≤ hl n c ∧ hl n c < n := by
  induction d with
  | zero => intro c h1 h2 h3; omega
  | succ d ih =>
    intro c h1 h2 h3
    have e : wrap64 (2 * (c : Int)) = ((2 * c : Nat) : Int) := by rw [w64 (by omega)]; omega
    have e' : wrap64 ((c : Int) * 2) = ((2 * c : Nat) : Int) := by rw [w64 (by omega)]; omega
    by_cases hc : 2 * c < n
    · obtain ⟨a, b, g, g'⟩ := ih (2 * c) (by omega) (by omega) hc
      rw [hl, dif_pos ⟨h2, hc⟩]
      refine ⟨?_, ?_, by omega, g'⟩
      · refine evS (fun k => by rw [impl_half.l0]) ?_
        rw [e, e']
        exact evT (by omega) a
      · refine evS (fun k => by rw [spec_l6Half.l0]) ?_
        rw [e]
        exact evT (by omega) b
    · rw [hl, dif_neg (fun h => hc h.2)]
      refine ⟨?_, ?_, by omega, h3⟩
      · refine evS (fun k => by rw [impl_half.l0]) ?_
        rw [e]
        exact evF (by omega) (evR rfl)
      · refine evS (fun k => by rw [spec_l6Half.l0]) ?_
        rw [e]
        exact evF (by omega) (evR rfl)
/-- The greatest power of two below n. -/
def hf (n : Nat) : Nat := hl n 1
theorem hf_impl {n : Nat} (h2 : 2 ≤ n) (hn : n ≤ 1000000000) : Ev (fun k => impl_half.f k (n : Int)) (hf n : Int) := (hl_both n hn n 1 (by omega) (by omega) (by omega)).1
theorem hf_spec {n : Nat} (h2 : 2 ≤ n) (hn : n ≤ 1000000000) : Ev (fun k => spec_l6Half.f k (n : Int)) (hf n : Int) := (hl_both n hn n 1 (by omega) (by omega) (by omega)).2.1
theorem hl_ge (n d : Nat) : ∀ c : Nat, n - c ≤ d → 1 ≤ c → c < n → c ≤ hl n c ∧ hl n c < n := by
  induction d with
  | zero => intro c h1 h2 h3; omega
  | succ d ih =>
    intro c h1 h2 h3
    by_cases hc : 2 * c < n
    · obtain ⟨g, g'⟩ := ih (2 * c) (by omega) (by omega) hc
      rw [hl, dif_pos ⟨h2, hc⟩]
      omega
    · rw [hl, dif_neg (fun h => hc h.2)]
      omega
theorem hf_lt {n : Nat} (h2 : 2 ≤ n) : 1 ≤ hf n ∧ hf n < n := hl_ge n n 1 (by omega) (by omega) (by omega)
/-- Texts that are not too long. -/
def Fit (l : List ByteArray) : Prop := ∀ y ∈ l, y.size ≤ 10000000000
theorem Fit.take {l : List ByteArray} (h : Fit l) (n : Nat) : Fit (l.take n) := fun y hy => h y (List.mem_of_mem_take hy)
theorem Fit.drop {l : List ByteArray} (h : Fit l) (n : Nat) : Fit (l.drop n) := fun y hy => h y (List.mem_of_mem_drop hy)
end Go.Proofs.Ytmkhhnfmahdijaa.Z

/- Words of 32 bits: what the program's and the reference's operations on them say is the same. Plain lemmas. -/
set_option linter.unusedVariables false
namespace Go.Proofs.Ytmkhhnfmahdijaa.Z
open Go.RowKit Go.Proofs.YtmkhhnfmahdijaaW.PrintWords Go.Proofs.YtmkhhnfmahdijaaW.PrintMore Go.Proofs.Ytmkhhnfmahdijaa.X Go.Proofs.Ytmkhhnfmahdijaa.Sha

/-- A word of 32 bits. -/
def W (x : Int) : Prop := 0 ≤ x ∧ x < 4294967296
theorem wp64 (n : Int) (h₀ : 0 ≤ n) (h₁ : n < 2 ^ 63) : IntKind.i64.wrap n = n := by rw [IntKind.wrap_i64]; omega
theorem wp32 (n : Int) (h₀ : 0 ≤ n) (h₁ : n < 2 ^ 32) : IntKind.u32.wrap n = n := by rw [IntKind.wrap_u32]; omega
theorem xor_nat (k : IntKind) (j : Nat) (hj : j ≤ k.bits) (hk : ∀ n : Int, 0 ≤ n → n < 2 ^ j → k.wrap n = n) (a b : Nat) (ha : a < 2 ^ j) (hb : b < 2 ^ j) :
    Go.bits .xor k a b = ((a ^^^ b : Nat) : Int) := by
  have hp : 2 ^ j ≤ 2 ^ k.bits := Nat.pow_le_pow_right (by decide) hj
  have ha' : a % 2 ^ k.bits = a := Nat.mod_eq_of_lt (Nat.lt_of_lt_of_le ha hp)
  have hb' : b % 2 ^ k.bits = b := Nat.mod_eq_of_lt (Nat.lt_of_lt_of_le hb hp)
  have cast : ∀ n : Nat, n < 2 ^ j → ((n : Nat) : Int) < 2 ^ j := fun n h => by exact_mod_cast h
  simp only [Go.bits, BitVec.ofInt_natCast, BitVec.toNat_xor, BitVec.toNat_ofNat, ha', hb']
  exact hk _ (Int.natCast_nonneg _) (cast _ (Nat.xor_lt_two_pow ha hb))
theorem nat_of {x : Int} (h : W x) : ∃ a : Nat, x = (a : Int) ∧ a < 2 ^ 32 := by
  obtain ⟨a, rfl⟩ := Int.eq_ofNat_of_zero_le h.1
  exact ⟨a, rfl, by have := h.2; omega⟩
theorem b_and {x y : Int} (hx : W x) (hy : W y) : Go.bits .and .i64 x y = Go.bits .and .u32 x y ∧ W (Go.bits .and .u32 x y) := by
  obtain ⟨a, rfl, ha⟩ := nat_of hx
  obtain ⟨b, rfl, hb⟩ := nat_of hy
  rw [(bits_nat .i64 32 (by decide) (fun n h h' => wp64 n h (by omega)) a b ha hb).1, (bits_nat .u32 32 (by decide) wp32 a b ha hb).1]
  exact ⟨rfl, by have := Nat.and_lt_two_pow a hb; unfold W; omega⟩
theorem b_or {x y : Int} (hx : W x) (hy : W y) : Go.bits .or .i64 x y = Go.bits .or .u32 x y ∧ W (Go.bits .or .u32 x y) := by
  obtain ⟨a, rfl, ha⟩ := nat_of hx
  obtain ⟨b, rfl, hb⟩ := nat_of hy
  rw [(bits_nat .i64 32 (by decide) (fun n h h' => wp64 n h (by omega)) a b ha hb).2, (bits_nat .u32 32 (by decide) wp32 a b ha hb).2]
  exact ⟨rfl, by have := Nat.or_lt_two_pow ha hb; unfold W; omega⟩
theorem b_xor {x y : Int} (hx : W x) (hy : W y) : Go.bits .xor .i64 x y = Go.bits .xor .u32 x y ∧ W (Go.bits .xor .u32 x y) := by
  obtain ⟨a, rfl, ha⟩ := nat_of hx
  obtain ⟨b, rfl, hb⟩ := nat_of hy
  rw [xor_nat .i64 32 (by decide) (fun n h h' => wp64 n h (by omega)) a b ha hb, xor_nat .u32 32 (by decide) wp32 a b ha hb]
  exact ⟨rfl, by have := Nat.xor_lt_two_pow ha hb; unfold W; omega⟩
theorem b_mask {x : Int} (h0 : 0 ≤ x) (h1 : x < 2 ^ 63) : Go.bits .and .i64 x 4294967295 = x % 4294967296 := bits_mask .i64 63 (by decide) wp64 32 (by decide) x h0 h1
theorem W_mod (x : Int) : W (x % 4294967296) := by unfold W; omega
theorem W_div {x d : Int} (h : W x) (hd : 0 < d) : W (x / d) := ⟨Int.ediv_nonneg h.1 (by omega), by have := Int.ediv_le_self d h.1; have := h.2; omega⟩
theorem W_rot {x : Int} (h : W x) (n : Nat) : W (rot n x) := (b_or (W_mod _) (W_div h (by exact_mod_cast Nat.two_pow_pos n))).2
theorem turn_is {x : Int} (h : W x) (n : Nat) (h2 : 2 ≤ n) (hn : n ≤ 32) : spec_l2Turn.f x (n : Int) = some (rot n x) := by
  have e1 : IntKind.u64.wrap ((n : Nat) : Int) = n := wu64 (by omega)
  have e2 : wrap64 (32 - (n : Int)) = ((32 - n : Nat) : Int) := by rw [w64 (by omega)]; omega
  have e3 : IntKind.u64.wrap ((32 - n : Nat) : Int) = ((32 - n : Nat) : Int) := wu64 (by omega)
  obtain ⟨a, rfl, ha⟩ := nat_of h
  have hp : 0 < 2 ^ n := Nat.two_pow_pos n
  have hq : 2 ^ (32 - n) ≤ 2 ^ 30 := Nat.pow_le_pow_right (by decide) (by omega)
  have hm : a * 2 ^ (32 - n) < 2 ^ 62 := Nat.lt_of_le_of_lt (Nat.mul_le_mul_left a hq) (by omega)
  have hd : a / 2 ^ n < 2 ^ 32 := Nat.lt_of_le_of_lt (Nat.div_le_self _ _) ha
  have s1 : shr .i64 (a : Int) (n : Int) = ((a / 2 ^ n : Nat) : Int) := by
    unfold shr
    rw [show min (n : Int).toNat IntKind.i64.bits = n by show min _ 64 = _; omega]
    simp
  have s2 : shl .i64 (a : Int) ((32 - n : Nat) : Int) = ((a * 2 ^ (32 - n) : Nat) : Int) := by
    unfold shl
    rw [show min ((32 - n : Nat) : Int).toNat IntKind.i64.bits = 32 - n by show min _ 64 = _; omega]
    rw [wp64 _ (by exact_mod_cast Nat.zero_le _) (by exact_mod_cast Nat.lt_trans hm (by decide))]
    simp
  have hor : (a / 2 ^ n ||| a * 2 ^ (32 - n)) < 2 ^ 62 := Nat.or_lt_two_pow (by omega) hm
  unfold spec_l2Turn.f
  rw [e1, e2, e3, if_pos (by omega), if_pos (by omega), s1, s2, (bits_nat .i64 62 (by decide) (fun n h h' => wp64 n h (by omega)) _ _ (by omega) hm).2, b_mask (by omega) (by exact_mod_cast Nat.lt_trans hor (by decide))]
  unfold rot
  have hr : (a : Int) * 2 ^ (32 - n) % 4294967296 = ((a * 2 ^ (32 - n) % 2 ^ 32 : Nat) : Int) := by simp
  have hd' : (a : Int) / 2 ^ n = ((a / 2 ^ n : Nat) : Int) := by simp
  rw [hr, hd', (bits_nat .u32 32 (by decide) wp32 _ _ (Nat.mod_lt _ (by decide)) hd).2]
  congr 1
  have : ((a / 2 ^ n ||| a * 2 ^ (32 - n) : Nat) : Int) % 4294967296 = (((a / 2 ^ n ||| a * 2 ^ (32 - n)) % 2 ^ 32 : Nat) : Int) := by simp
  rw [this, Nat.or_mod_two_pow, Nat.mod_eq_of_lt hd, Nat.or_comm]
end Go.Proofs.Ytmkhhnfmahdijaa.Z

/- The reference's digest: what it computes, in the words of the program's digest. Plain lemmas. -/
set_option linter.unusedVariables false
namespace Go.Proofs.Ytmkhhnfmahdijaa.Z
open Go.RowKit Go.Proofs.YtmkhhnfmahdijaaW.PrintWords Go.Proofs.YtmkhhnfmahdijaaW.PrintMore Go.Proofs.Ytmkhhnfmahdijaa.X Go.Proofs.Ytmkhhnfmahdijaa.Sha

theorem evE' {α : Type} {f g : Nat → Option α} {r : α} (h : g = f) (k : Ev g r) : Ev f r := h ▸ k
def Byte (x : Int) : Prop := 0 ≤ x ∧ x < 256
theorem rdm (f : Nat → Int) {i j : Nat} (h : j < i) : rd ((List.range i).map f) (j : Int) = f j := by
  unfold rd
  simp [h]
theorem four_is {a b c d : Int} (ha : Byte a) (hb : Byte b) (hc : Byte c) (hd : Byte d) :
    Go.bits .or .i64 (Go.bits .or .i64 (Go.bits .or .i64 (wrap64 ((wrap64 a) * 16777216)) (wrap64 ((wrap64 b) * 65536))) (wrap64 ((wrap64 c) * 256))) (wrap64 d) = four a b c d ∧ W (four a b c d) := by
  unfold Byte at ha hb hc hd
  have e1 : wrap64 ((wrap64 a) * 16777216) = a % 4294967296 * 16777216 % 4294967296 := by rw [w64 (x := a) (by omega), w64 (by omega)]; omega
  have e2 : wrap64 ((wrap64 b) * 65536) = b % 4294967296 * 65536 % 4294967296 := by rw [w64 (x := b) (by omega), w64 (by omega)]; omega
  have e3 : wrap64 ((wrap64 c) * 256) = c % 4294967296 * 256 % 4294967296 := by rw [w64 (x := c) (by omega), w64 (by omega)]; omega
  have e4 : wrap64 d = d % 4294967296 := by rw [w64 (by omega)]; omega
  rw [e1, e2, e3, e4]
  obtain ⟨x1, y1⟩ := b_or (W_mod (a % 4294967296 * 16777216)) (W_mod (b % 4294967296 * 65536))
  obtain ⟨x2, y2⟩ := b_or y1 (W_mod (c % 4294967296 * 256))
  obtain ⟨x3, y3⟩ := b_or y2 (W_mod d)
  rw [x1, x2, x3]
  exact ⟨rfl, y3⟩
theorem W_ws {g : Nat → Int} (hg : ∀ j, j < 64 → Byte (g j)) (j : Nat) : W (ws g j) := by
  by_cases h : j < 16
  · rw [ws_lt h]
    exact (four_is (hg _ (by omega)) (hg _ (by omega)) (hg _ (by omega)) (hg _ (by omega))).2
  · rw [ws_ge h]
    exact W_mod _
theorem ws_congr {g g' : Nat → Int} (h : ∀ j, j < 64 → g j = g' j) : ∀ j, ws g j = ws g' j := by
  intro j
  induction j using Nat.strongRecOn with
  | ind j ih =>
    by_cases hj : j < 16
    · rw [ws_lt hj, ws_lt hj]
      unfold w16
      rw [h _ (by omega), h _ (by omega), h _ (by omega), h _ (by omega)]
    · rw [ws_ge hj, ws_ge hj, ih _ (by omega), ih _ (by omega), ih _ (by omega), ih _ (by omega)]
theorem mix_is {p q r s : Int} (hp : W p) (hq : W q) (hr : W r) (hs : W s) :
    Go.bits .and .i64 (wrap64 ((wrap64 ((wrap64 (p + (Go.bits .xor .i64 (Go.bits .xor .i64 (rot 7 q) (rot 18 q)) (q / 8)))) + r)) + (Go.bits .xor .i64 (Go.bits .xor .i64 (rot 17 s) (rot 19 s)) (s / 1024)))) 4294967295 = mix p q r s := by
  obtain ⟨x1, y1⟩ := b_xor (W_rot hq 7) (W_rot hq 18)
  obtain ⟨x2, y2⟩ := b_xor y1 (W_div hq (show (0 : Int) < 8 by omega))
  obtain ⟨x3, y3⟩ := b_xor (W_rot hs 17) (W_rot hs 19)
  obtain ⟨x4, y4⟩ := b_xor y3 (W_div hs (show (0 : Int) < 1024 by omega))
  rw [x1, x2, x3, x4]
  have eA : sA q = Go.bits .xor .u32 (Go.bits .xor .u32 (rot 7 q) (rot 18 q)) (q / 8) := rfl
  have eB : sB s = Go.bits .xor .u32 (Go.bits .xor .u32 (rot 17 s) (rot 19 s)) (s / 1024) := rfl
  have yA : W (sA q) := y2
  have yB : W (sB s) := y4
  rw [← eA, ← eB]
  clear y1 y2 y3 y4 x1 x2 x3 x4 eA eB
  unfold W at *
  rw [w64 (x := p + sA q) (by omega), w64 (x := p + sA q + r) (by omega), w64 (by omega), b_mask (by omega) (by omega)]
  rfl
theorem words_l1 (g : Nat → Int) (hg : ∀ j, j < 64 → Byte (g j)) : ∀ d i : Nat, 16 ≤ i → i + d = 64 → Ev (fun k => spec_l2Words.l1 k ((List.range i).map (ws g)) (i : Int)) ((List.range 64).map (ws g)) := by
  intro d
  induction d with
  | zero =>
    intro i h1 h2
    obtain rfl : i = 64 := by omega
    exact evS (fun k => by rw [spec_l2Words.l1]) (evF (by omega) (evR rfl))
  | succ d ih =>
    intro i h1 h2
    have e15 : wrap64 ((i : Int) - 15) = ((i - 15 : Nat) : Int) := by rw [w64 (by omega)]; omega
    have e2 : wrap64 ((i : Int) - 2) = ((i - 2 : Nat) : Int) := by rw [w64 (by omega)]; omega
    have e16 : wrap64 ((i : Int) - 16) = ((i - 16 : Nat) : Int) := by rw [w64 (by omega)]; omega
    have e7 : wrap64 ((i : Int) - 7) = ((i - 7 : Nat) : Int) := by rw [w64 (by omega)]; omega
    have hl : ((List.range i).map (ws g)).length = i := by simp
    refine evS (fun k => by rw [spec_l2Words.l1]) ?_
    rw [e15, e2, e16, e7, rdm _ (show i - 15 < i by omega), rdm _ (show i - 2 < i by omega), rdm _ (show i - 16 < i by omega), rdm _ (show i - 7 < i by omega), hl]
    refine evT (by omega) ?_
    refine evT (by omega) ?_
    refine evT (by omega) ?_
    refine evT (by omega) ?_
    refine evT (by omega) ?_
    refine evC (turn_is (W_ws hg _) 7 (by omega) (by omega)) ?_
    refine evC (turn_is (W_ws hg _) 18 (by omega) (by omega)) ?_
    refine evC (turn_is (W_ws hg _) 17 (by omega) (by omega)) ?_
    refine evC (turn_is (W_ws hg _) 19 (by omega) (by omega)) ?_
    refine evT (by omega) ?_
    refine evT (by omega) ?_
    refine evT (by omega) ?_
    refine evT (by omega) ?_
    refine evT (by omega) ?_
    rw [mix_is (W_ws hg _) (W_ws hg _) (W_ws hg _) (W_ws hg _), ← ws_ge (show ¬ i < 16 by omega), w64s (show i < 64 by omega) (by omega)]
    have := ih (i + 1) (by omega) (by omega)
    rw [List.range_succ, List.map_append] at this
    exact this
theorem words_l0 (b : List Int) (hb : b.length = 64) (hg : ∀ j : Nat, j < 64 → Byte (rd b (j : Int))) : ∀ d i : Nat, i + d = 16 →
    Ev (fun k => spec_l2Words.l0 k b ((List.range i).map (ws (fun j => rd b (j : Int)))) (i : Int)) ((List.range 64).map (ws (fun j => rd b (j : Int)))) := by
  intro d
  induction d with
  | zero =>
    intro i h2
    obtain rfl : i = 16 := by omega
    have h1 : Ev (fun k => spec_l2Words.l1 k ((List.range 16).map (ws (fun j => rd b (j : Int)))) 16) _ := words_l1 _ hg 48 16 (by omega) (by omega)
    refine evS (fun k => by rw [spec_l2Words.l0]) ?_
    exact evF (by omega) h1
  | succ d ih =>
    intro i h2
    have e0 : wrap64 (4 * (i : Int)) = ((4 * i : Nat) : Int) := by rw [w64 (by omega)]; omega
    have e1 : wrap64 (((4 * i : Nat) : Int) + 1) = ((4 * i + 1 : Nat) : Int) := by rw [w64 (by omega)]; omega
    have e2 : wrap64 (((4 * i : Nat) : Int) + 2) = ((4 * i + 2 : Nat) : Int) := by rw [w64 (by omega)]; omega
    have e3 : wrap64 (((4 * i : Nat) : Int) + 3) = ((4 * i + 3 : Nat) : Int) := by rw [w64 (by omega)]; omega
    have hl : ((List.range i).map (ws (fun j => rd b (j : Int)))).length = i := by simp
    refine evS (fun k => by rw [spec_l2Words.l0]) ?_
    rw [e0, e1, e2, e3, hl, hb]
    refine evT (by omega) ?_
    refine evT (by omega) ?_
    refine evT (by omega) ?_
    refine evT (by omega) ?_
    refine evT (by omega) ?_
    refine evT (by omega) ?_
    refine evT (by omega) ?_
    refine evT (by omega) ?_
    refine evT (by omega) ?_
    refine evT (by omega) ?_
    rw [(four_is (hg _ (by omega)) (hg _ (by omega)) (hg _ (by omega)) (hg _ (by omega))).1, w64s (show i < 64 by omega) (by omega)]
    have := ih (i + 1) (by omega)
    rw [List.range_succ, List.map_append] at this
    rw [show [four (rd b ((4 * i : Nat) : Int)) (rd b ((4 * i + 1 : Nat) : Int)) (rd b ((4 * i + 2 : Nat) : Int)) (rd b ((4 * i + 3 : Nat) : Int))] = List.map (ws fun j => rd b (j : Int)) [i] by simp [ws_lt (show i < 16 by omega), w16]]
    exact this
theorem words_ev (b : List Int) (hb : b.length = 64) (hg : ∀ j : Nat, j < 64 → Byte (rd b (j : Int))) : Ev (fun k => spec_l2Words.f k b) ((List.range 64).map (ws (fun j => rd b (j : Int)))) := by
  have := words_l0 b hb hg 16 0 rfl
  exact this
/-- Eight words as a list. -/
def L (f : Nat → Int) : List Int := [f 0, f 1, f 2, f 3, f 4, f 5, f 6, f 7]
theorem L_len (f : Nat → Int) : ((L f).length : Int) = 8 := rfl
theorem L_rd (f : Nat → Int) {i : Nat} (h : i < 8) : rd (L f) (i : Int) = f i := by
  match i, h with
  | 0, _ => rfl
  | 1, _ => rfl
  | 2, _ => rfl
  | 3, _ => rfl
  | 4, _ => rfl
  | 5, _ => rfl
  | 6, _ => rfl
  | 7, _ => rfl
theorem L_set (f : Nat → Int) {i : Nat} (h : i < 8) (x : Int) : (L f).set i x = L (fun j => if j = i then x else f j) := by
  match i, h with
  | 0, _ => rfl
  | 1, _ => rfl
  | 2, _ => rfl
  | 3, _ => rfl
  | 4, _ => rfl
  | 5, _ => rfl
  | 6, _ => rfl
  | 7, _ => rfl
theorem L_congr {f g : Nat → Int} (h : ∀ j, j < 8 → f j = g j) : L f = L g := by
  unfold L
  rw [h 0 (by omega), h 1 (by omega), h 2 (by omega), h 3 (by omega), h 4 (by omega), h 5 (by omega), h 6 (by omega), h 7 (by omega)]
def W8 (f : Nat → Int) : Prop := ∀ j, j < 8 → W (f j)
theorem tA_is {e : Int} (h : W e) : Go.bits .xor .i64 (Go.bits .xor .i64 (rot 6 e) (rot 11 e)) (rot 25 e) = tA e ∧ W (tA e) := by
  obtain ⟨x1, y1⟩ := b_xor (W_rot h 6) (W_rot h 11)
  obtain ⟨x2, y2⟩ := b_xor y1 (W_rot h 25)
  rw [x1, x2]
  exact ⟨rfl, y2⟩
theorem tB_is {e : Int} (h : W e) : Go.bits .xor .i64 (Go.bits .xor .i64 (rot 2 e) (rot 13 e)) (rot 22 e) = tB e ∧ W (tB e) := by
  obtain ⟨x1, y1⟩ := b_xor (W_rot h 2) (W_rot h 13)
  obtain ⟨x2, y2⟩ := b_xor y1 (W_rot h 22)
  rw [x1, x2]
  exact ⟨rfl, y2⟩
theorem ch_is {e f g : Int} (he : W e) (hf : W f) (hg : W g) : Go.bits .xor .i64 (Go.bits .and .i64 e f) (Go.bits .and .i64 (Go.bits .xor .i64 4294967295 e) g) = ch e f g ∧ W (ch e f g) := by
  have hM : W 4294967295 := ⟨by omega, by omega⟩
  obtain ⟨x1, y1⟩ := b_and he hf
  obtain ⟨x2, y2⟩ := b_xor hM he
  obtain ⟨x3, y3⟩ := b_and y2 hg
  obtain ⟨x4, y4⟩ := b_xor y1 y3
  rw [x1, x2, x3, x4]
  exact ⟨rfl, y4⟩
theorem maj_is {e f g : Int} (he : W e) (hf : W f) (hg : W g) : Go.bits .xor .i64 (Go.bits .xor .i64 (Go.bits .and .i64 e f) (Go.bits .and .i64 e g)) (Go.bits .and .i64 f g) = maj e f g ∧ W (maj e f g) := by
  obtain ⟨x1, y1⟩ := b_and he hf
  obtain ⟨x2, y2⟩ := b_and he hg
  obtain ⟨x3, y3⟩ := b_and hf hg
  obtain ⟨x4, y4⟩ := b_xor y1 y2
  obtain ⟨x5, y5⟩ := b_xor y4 y3
  rw [x1, x2, x3, x4, x5]
  exact ⟨rfl, y5⟩
theorem W8_step {v : Nat → Int} (h : W8 v) (k x : Int) : W8 (Sha.step v k x) := by
  intro j hj
  match j, hj with
  | 0, _ => exact W_mod _
  | 1, _ => exact h 0 (by omega)
  | 2, _ => exact h 1 (by omega)
  | 3, _ => exact h 2 (by omega)
  | 4, _ => exact W_mod _
  | 5, _ => exact h 4 (by omega)
  | 6, _ => exact h 5 (by omega)
  | 7, _ => exact h 6 (by omega)
theorem W8_run {h : Nat → Int} (hh : W8 h) (K Ws : Nat → Int) : ∀ n, W8 (run h K Ws n)
  | 0 => hh
  | n + 1 => W8_step (W8_run hh K Ws n) _ _
theorem W8_turn (h g K : Nat → Int) : W8 (turn h g K) := fun j _ => W_mod _
theorem kk_W : ∀ i : Nat, i < 64 → W (kk i) := by
  have : ∀ i : Nat, i < 64 → 0 ≤ kk i ∧ kk i < 4294967296 := by decide +kernel
  exact this
theorem step_is {v : Nat → Int} (h : W8 v) {k x : Int} (hk : W k) (hx : W x) :
    ([Go.bits .and .i64 (wrap64 ((wrap64 ((wrap64 ((wrap64 ((wrap64 ((v 7) + tA (v 4))) + ch (v 4) (v 5) (v 6))) + k)) + x)) + (wrap64 (tB (v 0) + maj (v 0) (v 1) (v 2))))) 4294967295, v 0, v 1, v 2,
      Go.bits .and .i64 (wrap64 ((v 3) + (wrap64 ((wrap64 ((wrap64 ((wrap64 ((v 7) + tA (v 4))) + ch (v 4) (v 5) (v 6))) + k)) + x)))) 4294967295, v 4, v 5, v 6] : List Int) = L (Sha.step v k x) := by
  have a7 := h 7 (by omega)
  have a3 := h 3 (by omega)
  have yA := (tA_is (h 4 (by omega))).2
  have yB := (tB_is (h 0 (by omega))).2
  have yC := (ch_is (h 4 (by omega)) (h 5 (by omega)) (h 6 (by omega))).2
  have yM := (maj_is (h 0 (by omega)) (h 1 (by omega)) (h 2 (by omega))).2
  have e0 : Sha.step v k x 0 = (v 7 + tA (v 4) + ch (v 4) (v 5) (v 6) + k + x + tB (v 0) + maj (v 0) (v 1) (v 2)) % 4294967296 := rfl
  have e4 : Sha.step v k x 4 = (v 3 + (v 7 + tA (v 4) + ch (v 4) (v 5) (v 6) + k + x)) % 4294967296 := rfl
  have eL : L (Sha.step v k x) = [Sha.step v k x 0, v 0, v 1, v 2, Sha.step v k x 4, v 4, v 5, v 6] := rfl
  rw [eL, e0, e4]
  generalize tA (v 4) = A at *
  generalize tB (v 0) = B at *
  generalize ch (v 4) (v 5) (v 6) = C at *
  generalize maj (v 0) (v 1) (v 2) = M at *
  generalize v 7 = p7 at *
  generalize v 3 = p3 at *
  clear eL e0 e4 h
  unfold W at *
  rw [w64 (x := p7 + A) (by omega), w64 (x := p7 + A + C) (by omega), w64 (x := p7 + A + C + k) (by omega), w64 (x := p7 + A + C + k + x) (by omega), w64 (x := B + M) (by omega), w64 (x := p3 + _) (by omega), w64 (by omega), b_mask (by omega) (by omega), b_mask (by omega) (by omega)]
  congr 2
  omega
theorem block_l1 (h v : Nat → Int) (hh : W8 h) (hv : W8 v) : ∀ d i : Nat, i + d = 8 → Ev (fun k => spec_l2Block.l1 k (L h) (L (fun j => if j < i then (h j + v j) % 4294967296 else v j)) (i : Int)) (L (fun j => (h j + v j) % 4294967296)) := by
  intro d
  induction d with
  | zero =>
    intro i h2
    obtain rfl : i = 8 := by omega
    refine evS (fun k => by rw [spec_l2Block.l1]) ?_
    exact evF (by omega) (evR (L_congr fun j hj => by simp [hj]))
  | succ d ih =>
    intro i h2
    have hi : i < 8 := by omega
    refine evS (fun k => by rw [spec_l2Block.l1]) ?_
    rw [L_len, L_len, L_rd _ hi, L_rd _ hi, if_neg (show ¬ i < i by omega), show ((i : Nat) : Int).toNat = i by omega, L_set _ hi, w64s (show i < 8 by omega) (by omega)]
    refine evT (by omega) ?_
    refine evT (by omega) ?_
    refine evT (by omega) ?_
    refine evT (by omega) ?_
    have := ih (i + 1) (by omega)
    refine evE' ?_ this
    have h1 := hh i hi
    have h3 := hv i hi
    unfold W at h1 h3
    have e : Go.bits .and .i64 (wrap64 (v i + h i)) 4294967295 = (h i + v i) % 4294967296 := by
      rw [w64 (by omega), b_mask (by omega) (by omega), Int.add_comm]
    rw [e]
    funext k
    congr 1
    symm
    refine L_congr fun j hj => ?_
    by_cases hji : j = i
    · subst hji
      simp
    · by_cases hj2 : j < i
      · simp [hji, hj2, show j < i + 1 by omega]
      · simp [hji, hj2, show ¬ j < i + 1 by omega]
theorem block_l0 (h g : Nat → Int) (hh : W8 h) (hg : ∀ j, j < 64 → Byte (g j)) : ∀ d i : Nat, i + d = 64 → Ev (fun k => spec_l2Block.l0 k (L h) kks ((List.range 64).map (ws g)) (L (run h kk (ws g) i)) (i : Int)) (L (turn h g kk)) := by
  intro d
  induction d with
  | zero =>
    intro i h2
    obtain rfl : i = 64 := by omega
    have h1 : Ev (fun k => spec_l2Block.l1 k (L h) (L (run h kk (ws g) 64)) 0) (L (turn h g kk)) := block_l1 h (run h kk (ws g) 64) hh (W8_run hh _ _ _) 8 0 rfl
    refine evS (fun k => by rw [spec_l2Block.l0]) ?_
    exact evF (by omega) h1
  | succ d ih =>
    intro i h2
    have hi : i < 64 := by omega
    have hv := W8_run hh kk (ws g) i
    have hst : L (run h kk (ws g) (i + 1)) = L (Sha.step (run h kk (ws g) i) (kk i) (ws g i)) := rfl
    have := ih (i + 1) (by omega)
    rw [hst, ← step_is hv (kk_W i hi) (W_ws hg i)] at this
    generalize run h kk (ws g) i = v at hv this
    have k0 : rd (L v) 0 = v 0 := rfl
    have k1 : rd (L v) 1 = v 1 := rfl
    have k2 : rd (L v) 2 = v 2 := rfl
    have k3 : rd (L v) 3 = v 3 := rfl
    have k4 : rd (L v) 4 = v 4 := rfl
    have k5 : rd (L v) 5 = v 5 := rfl
    have k6 : rd (L v) 6 = v 6 := rfl
    have k7 : rd (L v) 7 = v 7 := rfl
    have hkl : ((kks.length : Nat) : Int) = 64 := rfl
    have hwl : ((((List.range 64).map (ws g)).length : Nat) : Int) = 64 := by simp
    have hkr : rd kks (i : Int) = kk i := by simp [rd, kk]
    refine evS (fun k => by rw [spec_l2Block.l0]) ?_
    rw [k0, k1, k2, k3, k4, k5, k6, k7, L_len, hkl, hwl, hkr, rdm _ hi, w64s hi (by omega)]
    refine evT (by omega) ?_
    refine evT (by omega) ?_
    refine evC (turn_is (hv 4 (by omega)) 6 (by omega) (by omega)) ?_
    refine evC (turn_is (hv 4 (by omega)) 11 (by omega) (by omega)) ?_
    refine evC (turn_is (hv 4 (by omega)) 25 (by omega) (by omega)) ?_
    refine evT (by omega) ?_
    refine evT (by omega) ?_
    refine evT (by omega) ?_
    refine evT (by omega) ?_
    refine evT (by omega) ?_
    refine evT (by omega) ?_
    refine evT (by omega) ?_
    refine evC (turn_is (hv 0 (by omega)) 2 (by omega) (by omega)) ?_
    refine evC (turn_is (hv 0 (by omega)) 13 (by omega) (by omega)) ?_
    refine evC (turn_is (hv 0 (by omega)) 22 (by omega) (by omega)) ?_
    refine evT (by omega) ?_
    refine evT (by omega) ?_
    refine evT (by omega) ?_
    rw [(tA_is (hv 4 (by omega))).1, (tB_is (hv 0 (by omega))).1, (ch_is (hv 4 (by omega)) (hv 5 (by omega)) (hv 6 (by omega))).1, (maj_is (hv 0 (by omega)) (hv 1 (by omega)) (hv 2 (by omega))).1]
    exact this
theorem block_ev (h : Nat → Int) (b : List Int) (hh : W8 h) (hb : b.length = 64) (hg : ∀ j : Nat, j < 64 → Byte (rd b (j : Int))) : Ev (fun k => spec_l2Block.f k (L h) b kks) (L (turn h (fun j => rd b (j : Int)) kk)) := by
  unfold spec_l2Block.f
  refine evB (words_ev b hb hg) ?_
  refine evC rfl ?_
  refine evT (by simp [L]) ?_
  exact block_l0 h _ hh hg 64 0 rfl
end Go.Proofs.Ytmkhhnfmahdijaa.Z

/- What Padded computes, the program's and the reference's: the same. No Go, no memory. -/
set_option linter.unusedVariables false
namespace Go.Proofs.Ytmkhhnfmahdijaa.Z
open Go.RowKit Go.Proofs.YtmkhhnfmahdijaaW.PrintWords Go.Proofs.YtmkhhnfmahdijaaW.PrintMore Go.Proofs.Ytmkhhnfmahdijaa.X

/-- The bytes of a count, from group i down. -/
def lenB (x : Int) : Nat → List Int
  | 0 => []
  | i + 1 => (shr .i64 x ((8 * i : Nat) : Int) % 256) :: lenB x i
theorem lenB_length (x : Int) (i : Nat) : (lenB x i).length = i := by
  induction i with
  | zero => rfl
  | succ i ih => simp [lenB, ih]
def padB (b : List Int) : List Int := b ++ (128 :: List.replicate ((119 - b.length % 64) % 64) 0) ++ lenB (8 * (b.length : Int)) 8
theorem padB_length (b : List Int) : (padB b).length = b.length + 1 + (119 - b.length % 64) % 64 + 8 := by
  simp [padB, lenB_length]
  omega
theorem padB_mod (b : List Int) : (padB b).length % 64 = 0 := by rw [padB_length]; omega

theorem specPad_l1 (x : Int) : ∀ (i : Nat) (m : List Int), i ≤ 8 → m.length + i < 140737488355328 → Ev (fun k => spec_Padded.l1 k m x (8 * (i : Int) - 8)) (m ++ lenB x i) := by
  intro i
  induction i with
  | zero =>
    intro m h0 h1
    exact evS (fun k => by rw [spec_Padded.l1]) (evF (by omega) (evR (by simp [lenB])))
  | succ i ih =>
    intro m h0 h1
    have hu : IntKind.u64.wrap (8 * ((i + 1 : Nat) : Int) - 8) = ((8 * i : Nat) : Int) := by rw [wu64 (by omega)]; omega
    refine evS (fun k => by rw [spec_Padded.l1]) (evT (by omega) ?_)
    rw [hu]
    refine evT (by omega) (evT (by omega) ?_)
    rw [w64 (x := 8 * ((i + 1 : Nat) : Int) - 8 - 8) (by omega), show 8 * ((i + 1 : Nat) : Int) - 8 - 8 = 8 * (i : Int) - 8 by omega]
    refine evE ?_ (ih _ (by omega) (by simp; omega))
    simp [lenB]
theorem implPad_l1 (x : Int) : ∀ (i : Nat) (m : List Int), i ≤ 8 → m.length + i < 140737488355328 → Ev (fun k => impl_Padded.l1 k m x ((i : Int) - 1)) (m ++ lenB x i) := by
  intro i
  induction i with
  | zero =>
    intro m h0 h1
    exact evS (fun k => by rw [impl_Padded.l1]) (evF (by omega) (evR (by simp [lenB])))
  | succ i ih =>
    intro m h0 h1
    have hw : wrap64 (8 * (((i + 1 : Nat) : Int) - 1)) = ((8 * i : Nat) : Int) := by rw [w64 (by omega)]; omega
    have hu : IntKind.u64.wrap ((8 * i : Nat) : Int) = ((8 * i : Nat) : Int) := wu64 (by omega)
    refine evS (fun k => by rw [impl_Padded.l1]) (evT (by omega) ?_)
    rw [hw, hu]
    refine evT (by omega) (evT (by omega) ?_)
    rw [w64 (x := ((i + 1 : Nat) : Int) - 1 - 1) (by omega), show ((i + 1 : Nat) : Int) - 1 - 1 = (i : Int) - 1 by omega]
    refine evE ?_ (ih _ (by omega) (by simp; omega))
    simp [lenB]
theorem specPad_l0 (b : List Int) (hb : b.length ≤ 100000000000) (d : Nat) : ∀ (m : List Int), d < 64 → (m.length + d) % 64 = 56 → m.length + d ≤ 140000000000000 → Ev (fun k => spec_Padded.l0 k b m) (m ++ List.replicate d 0 ++ lenB (8 * (b.length : Int)) 8) := by
  induction d with
  | zero =>
    intro m h0 h1 h2
    refine evS (fun k => by rw [spec_Padded.l0]) (evT (by omega) ?_)
    rw [w64 (x := (b.length : Int) * 8) (by omega), show (b.length : Int) * 8 = 8 * (b.length : Int) by omega]
    refine evE ?_ (specPad_l1 (8 * (b.length : Int)) 8 m (by omega) (by omega))
    simp
  | succ d ih =>
    intro m h0 h1 h2
    refine evS (fun k => by rw [spec_Padded.l0]) (evF (by omega) (evT (by omega) ?_))
    refine evE ?_ (ih _ (by omega) (by simp; omega) (by simp; omega))
    simp [List.replicate_succ]
theorem implPad_l0 (b : List Int) (hb : b.length ≤ 100000000000) (d : Nat) : ∀ (m : List Int), d < 64 → (m.length + d) % 64 = 56 → m.length + d ≤ 140000000000000 → Ev (fun k => impl_Padded.l0 k b m) (m ++ List.replicate d 0 ++ lenB (8 * (b.length : Int)) 8) := by
  induction d with
  | zero =>
    intro m h0 h1 h2
    have hw : wrap64 ((m.length : Int) + 8) = (m.length : Int) + 8 := w64 (by omega)
    refine evS (fun k => by rw [impl_Padded.l0]) ?_
    rw [hw, Int.tmod_eq_emod_of_nonneg (by omega)]
    refine evT (by omega) ?_
    rw [w64 (x := 8 * (b.length : Int)) (by omega)]
    refine evE ?_ (implPad_l1 (8 * (b.length : Int)) 8 m (by omega) (by omega))
    simp
  | succ d ih =>
    intro m h0 h1 h2
    have hw : wrap64 ((m.length : Int) + 8) = (m.length : Int) + 8 := w64 (by omega)
    refine evS (fun k => by rw [impl_Padded.l0]) ?_
    rw [hw, Int.tmod_eq_emod_of_nonneg (by omega)]
    refine evF (by omega) (evT (by omega) ?_)
    refine evE ?_ (ih _ (by omega) (by simp; omega) (by simp; omega))
    simp [List.replicate_succ]
theorem specPad_ev (b : List Int) (hb : b.length ≤ 100000000000) : Ev (fun k => spec_Padded.f k b) (padB b) := by
  unfold spec_Padded.f
  refine evC rfl ?_
  refine evT (by simp; omega) ?_
  refine evC rfl ?_
  simp only [List.nil_append]
  refine evT (by omega) ?_
  refine evE ?_ (specPad_l0 b hb ((119 - b.length % 64) % 64) _ (by omega) (by simp; omega) (by simp; omega))
  simp [padB]
theorem implPad_ev (b : List Int) (hb : b.length ≤ 100000000000) : Ev (fun k => impl_Padded.f k b) (padB b) := by
  unfold impl_Padded.f
  refine evC (a := b) (by unfold slices_Clone_byte_byte.f; rw [if_pos (by omega)]) ?_
  refine evT (by omega) ?_
  refine evE ?_ (implPad_l0 b hb ((119 - b.length % 64) % 64) _ (by omega) (by simp; omega) (by simp; omega))
  simp [padB]
end Go.Proofs.Ytmkhhnfmahdijaa.Z

/- The reference's digest and the program's: one text of one list of bytes. Plain lemmas. -/
set_option linter.unusedVariables false
namespace Go.Proofs.Ytmkhhnfmahdijaa.Z
open Go.RowKit Go.Proofs.YtmkhhnfmahdijaaW.PrintWords Go.Proofs.YtmkhhnfmahdijaaW.PrintMore Go.Proofs.Ytmkhhnfmahdijaa.X Go.Proofs.Ytmkhhnfmahdijaa.Sha

theorem W8_h0 : W8 h0 := by
  intro j hj
  match j, hj with
  | 0, _ => exact ⟨by decide, by decide⟩
  | 1, _ => exact ⟨by decide, by decide⟩
  | 2, _ => exact ⟨by decide, by decide⟩
  | 3, _ => exact ⟨by decide, by decide⟩
  | 4, _ => exact ⟨by decide, by decide⟩
  | 5, _ => exact ⟨by decide, by decide⟩
  | 6, _ => exact ⟨by decide, by decide⟩
  | 7, _ => exact ⟨by decide, by decide⟩
theorem W8_fold (p : List Int) : ∀ i, W8 (fold p (List.range i))
  | 0 => W8_h0
  | i + 1 => by
    rw [List.range_succ, fold_snoc]
    exact W8_turn _ _ _
theorem digest_l1 (F : Nat → Int) : ∀ d i : Nat, i + d = 8 → Ev (fun k => spec_Digest.l1 k (L F) (Sha.bytes F i) (i : Int)) (strOfNums (Sha.bytes F 8)) := by
  intro d
  induction d with
  | zero =>
    intro i h2
    obtain rfl : i = 8 := by omega
    refine evS (fun k => by rw [spec_Digest.l1]) ?_
    exact evF (by omega) (evR rfl)
  | succ d ih =>
    intro i h2
    have hi : i < 8 := by omega
    have hl := bytes_length F i
    refine evS (fun k => by rw [spec_Digest.l1]) ?_
    rw [L_len, L_rd _ hi, w64s hi (by omega)]
    refine evT (by omega) ?_
    refine evT (by omega) ?_
    refine evT (by omega) ?_
    refine evC rfl ?_
    refine evT (by simp; omega) ?_
    exact ih (i + 1) (by omega)
theorem digest_l0 (p : List Int) (m : Nat) (hp : p.length = 64 * m) (hp1 : p.length ≤ 140737488351232) (hb : ∀ x ∈ p, Byte x) : ∀ d i : Nat, i + d = m →
    Ev (fun k => spec_Digest.l0 k p (L (fold p (List.range i))) kks ((64 * i : Nat) : Int)) (text p) := by
  intro d
  induction d with
  | zero =>
    intro i h2
    obtain rfl : i = m := by omega
    have ht : text p = strOfNums (Sha.bytes (fold p (List.range i)) 8) := by unfold text; rw [show p.length / 64 = i by omega]
    rw [ht]
    have h1 : Ev (fun k => spec_Digest.l1 k (L (fold p (List.range i))) [] 0) _ := digest_l1 (fold p (List.range i)) 8 0 rfl
    refine evS (fun k => by rw [spec_Digest.l0]) ?_
    exact evF (by omega) h1
  | succ d ih =>
    intro i h2
    have e : wrap64 (((64 * i : Nat) : Int) + 64) = ((64 * (i + 1) : Nat) : Int) := by rw [w64 (by omega)]; omega
    refine evS (fun k => by rw [spec_Digest.l0]) ?_
    rw [e, hp]
    refine evT (by omega) ?_
    refine evT (by omega) ?_
    refine evT (by omega) ?_
    refine evT (by omega) ?_
    rw [show (((64 * (i + 1) : Nat) : Int)).toNat = 64 * (i + 1) by omega, show (((64 * i : Nat) : Int)).toNat = 64 * i by omega]
    have hblen : ((p.take (64 * (i + 1))).drop (64 * i)).length = 64 := by simp; omega
    have hbr : ∀ j : Nat, j < 64 → rd ((p.take (64 * (i + 1))).drop (64 * i)) (j : Int) = rd p ((64 * i + j : Nat) : Int) := fun j hj => by
      unfold rd
      rw [List.getD_eq_getElem?_getD, List.getD_eq_getElem?_getD, List.getElem?_drop, List.getElem?_take]
      simp only [Int.toNat_natCast]
      rw [if_pos (by omega)]
    have hrb : ∀ j : Nat, j < 64 → Byte (rd p ((64 * i + j : Nat) : Int)) := fun j hj => by
      have hlt : 64 * i + j < p.length := by omega
      have : rd p ((64 * i + j : Nat) : Int) = p[64 * i + j] := by
        unfold rd
        rw [show (((64 * i + j : Nat) : Int)).toNat = 64 * i + j by omega]
        simp [hlt]
      rw [this]
      exact hb _ (List.getElem_mem _)
    refine evB (block_ev _ _ (W8_fold p i) hblen (fun j hj => by rw [hbr j hj]; exact hrb j hj)) ?_
    have hws : ws (fun j => rd ((p.take (64 * (i + 1))).drop (64 * i)) (j : Int)) = ws (fun j => rd p ((64 * i + j : Nat) : Int)) := funext (ws_congr fun j hj => hbr j hj)
    have ht : turn (fold p (List.range i)) (fun j => rd ((p.take (64 * (i + 1))).drop (64 * i)) (j : Int)) kk = fold p (List.range (i + 1)) := by
      rw [List.range_succ, fold_snoc]
      unfold turn
      rw [hws]
    rw [ht]
    exact ih (i + 1) (by omega)
theorem lenB_byte (x : Int) : ∀ i, ∀ y ∈ lenB x i, Byte y := by
  intro i
  induction i with
  | zero => simp [lenB]
  | succ i ih => 
    intro y hy
    simp only [lenB, List.mem_cons] at hy
    rcases hy with rfl | hy
    · unfold Byte; omega
    · exact ih y hy
theorem padB_byte (b : List Int) (hb : ∀ x ∈ b, Byte x) : ∀ x ∈ padB b, Byte x := by
  intro x hx
  unfold padB at hx
  rcases List.mem_append.1 hx with h | h
  · rcases List.mem_append.1 h with h | h
    · exact hb x h
    · rcases List.mem_cons.1 h with h | h
      · subst h; unfold Byte; omega
      · rw [(List.mem_replicate.1 h).2]; unfold Byte; omega
  · exact lenB_byte _ _ x h
/-- The digest of a list of bytes. -/
def dig (b : List Int) : ByteArray := text (padB b)
theorem specDigest_ev (b : List Int) (hl : b.length ≤ 100000000000) (hb : ∀ x ∈ b, Byte x) : Ev (fun k => spec_Digest.f k b) (dig b) := by
  unfold spec_Digest.f
  have hm := padB_mod b
  have hn := padB_length b
  refine evB (specPad_ev b hl) ?_
  refine evC rfl ?_
  exact digest_l0 (padB b) ((padB b).length / 64) (by omega) (by omega) (padB_byte b hb) _ 0 (Nat.zero_add _)
theorem implDigest_ev (b : List Int) (hl : b.length ≤ 100000000000) : Ev (fun k => impl_Digest.f k b) (dig b) := by
  unfold impl_Digest.f
  have hm := padB_mod b
  have hn := padB_length b
  refine evB (implPad_ev b hl) ?_
  exact evT ⟨hm, by omega, by omega⟩ (evR rfl)
theorem dig_size (b : List Int) : (dig b).size = 32 := by
  unfold dig text
  have := bytes_length (fold (padB b) (List.range ((padB b).length / 64))) 8
  simp [strOfNums, ByteArray.size, this]
end Go.Proofs.Ytmkhhnfmahdijaa.Z

/- Leaves and nodes, the program's and the reference's: the same. Plain lemmas. -/
set_option linter.unusedVariables false
namespace Go.Proofs.Ytmkhhnfmahdijaa.Z
open Go.RowKit Go.Proofs.YtmkhhnfmahdijaaW.PrintWords Go.Proofs.YtmkhhnfmahdijaaW.PrintMore Go.Proofs.Ytmkhhnfmahdijaa.X

theorem bo_len (s : ByteArray) : (bytesOf s).length = s.size := bytesOf_length s
theorem bo_byte (s : ByteArray) : ∀ x ∈ bytesOf s, Byte x := by
  intro x hx
  unfold bytesOf at hx
  obtain ⟨b, _, rfl⟩ := List.mem_map.1 hx
  have := b.toNat_lt
  unfold Byte
  omega
theorem wf_byte {l : List Int} (h : ∀ x ∈ l, (Lit.int .u8 x).wf = true) : ∀ x ∈ l, Byte x := by
  intro x hx
  have h1 := h x hx
  simp [Lit.wf, IntKind.min, IntKind.max, IntKind.signed, IntKind.bits] at h1
  unfold Byte
  omega
def leaf (a : ByteArray) : ByteArray := dig ([0] ++ bytesOf a)
def node (a b : ByteArray) : ByteArray := dig (([1] ++ bytesOf a) ++ bytesOf b)
theorem leaf_size (a : ByteArray) : (leaf a).size = 32 := dig_size _
theorem node_size (a b : ByteArray) : (node a b).size = 32 := dig_size _
theorem specLeaf_ev (a : ByteArray) (h : a.size ≤ 10000000000) : Ev (fun k => spec_LeafHash.f k a) (leaf a) := by
  have hl := bo_len a
  unfold spec_LeafHash.f
  refine evC rfl (evT (by simp; omega) (evB (specDigest_ev _ (by simp; omega) ?_) (evR rfl)))
  intro x hx
  rcases List.mem_append.1 hx with h1 | h1
  · rw [List.mem_singleton.1 h1]; exact ⟨by omega, by omega⟩
  · exact bo_byte a x h1
theorem implLeaf_ev (a : ByteArray) (h : a.size ≤ 10000000000) : Ev (fun k => impl_LeafHash.f k a) (leaf a) := by
  have hl := bo_len a
  unfold impl_LeafHash.f
  exact evC rfl (evT (by simp; omega) (evB (implDigest_ev _ (by simp; omega)) (evR rfl)))
theorem specNode_ev (a b : ByteArray) (h : a.size ≤ 10000000000) (h' : b.size ≤ 10000000000) : Ev (fun k => spec_NodeHash.f k a b) (node a b) := by
  have hl := bo_len a
  have hl' := bo_len b
  unfold spec_NodeHash.f
  refine evC rfl (evT (by simp; omega) (evC rfl (evT (by simp; omega) (evB (specDigest_ev _ (by simp; omega) ?_) (evR rfl)))))
  intro x hx
  rcases List.mem_append.1 hx with h1 | h1
  · rcases List.mem_append.1 h1 with h2 | h2
    · rw [List.mem_singleton.1 h2]; exact ⟨by omega, by omega⟩
    · exact bo_byte a x h2
  · exact bo_byte b x h1
theorem implNode_ev (a b : ByteArray) (h : a.size ≤ 10000000000) (h' : b.size ≤ 10000000000) : Ev (fun k => impl_NodeHash.f k a b) (node a b) := by
  have hl := bo_len a
  have hl' := bo_len b
  unfold impl_NodeHash.f
  exact evC rfl (evT (by simp; omega) (evC rfl (evT (by simp; omega) (evB (implDigest_ev _ (by simp; omega)) (evR rfl)))))
end Go.Proofs.Ytmkhhnfmahdijaa.Z

/- Roots, the program's and the reference's: the same. Plain lemmas. -/
set_option linter.unusedVariables false
namespace Go.Proofs.Ytmkhhnfmahdijaa.Z
open Go.RowKit Go.Proofs.YtmkhhnfmahdijaaW.PrintWords Go.Proofs.YtmkhhnfmahdijaaW.PrintMore Go.Proofs.Ytmkhhnfmahdijaa.X
/-- The root of texts. -/
def root (l : List ByteArray) : ByteArray :=
  if h : l.length < 2 then (match l with | [] => dig [] | a :: _ => leaf a)
  else node (root (l.take (hf l.length))) (root (l.drop (hf l.length)))
termination_by l.length
decreasing_by
  · have := hf_lt (n := l.length) (by omega); simp; omega
  · have := hf_lt (n := l.length) (by omega); simp; omega
theorem root_nil : root [] = dig [] := by rw [root]; rfl
theorem root_one (a : ByteArray) : root [a] = leaf a := by rw [root]; rfl
theorem root_more {l : List ByteArray} (h : ¬ l.length < 2) : root l = node (root (l.take (hf l.length))) (root (l.drop (hf l.length))) := by rw [root, dif_neg h]
theorem root_size (l : List ByteArray) : (root l).size = 32 := by
  by_cases h : l.length < 2
  · match l, h with
    | [], _ => rw [root_nil]; exact dig_size _
    | [a], _ => rw [root_one]; exact leaf_size a
  · rw [root_more h]
    exact node_size _ _
theorem root_both : ∀ (n : Nat) (l : List ByteArray), l.length = n → n ≤ 1000000000 → Fit l → Ev (fun k => impl_rootOf.f k l) (root l) ∧ Ev (fun k => spec_l6Root.f k l) (root l) := by
  intro n
  induction n using Nat.strongRecOn with
  | ind n ih =>
    intro l hl hn hf'
    by_cases h2 : l.length < 2
    · match l, h2 with
      | [], _ =>
        rw [root_nil]
        constructor
        · refine evS (fun k => by rw [impl_rootOf.f]) ?_
          exact evT rfl (evB (implDigest_ev [] (by simp)) (evR rfl))
        · refine evS (fun k => by rw [spec_l6Root.f]) ?_
          exact evT rfl (evB (specDigest_ev [] (by simp) (by simp)) (evR rfl))
      | [a], _ =>
        rw [root_one]
        have ha := hf' a (by simp)
        constructor
        · refine evS (fun k => by rw [impl_rootOf.f]) ?_
          exact evF (by simp) (evT rfl (evT (by simp) (evB (implLeaf_ev a ha) (evR rfl))))
        · refine evS (fun k => by rw [spec_l6Root.f]) ?_
          exact evF (by simp) (evT rfl (evT (by simp) (evB (specLeaf_ev a ha) (evR rfl))))
    · obtain ⟨g1, g2⟩ := hf_lt (n := l.length) (by omega)
      have hA := hf_impl (n := l.length) (by omega) (by omega)
      have hB := hf_spec (n := l.length) (by omega) (by omega)
      rw [root_more h2]
      generalize hf l.length = c at *
      obtain ⟨i1, s1⟩ := ih c (by omega) (l.take c) (by simp; omega) (by omega) (hf'.take c)
      obtain ⟨i2, s2⟩ := ih (l.length - c) (by omega) (l.drop c) (by simp) (by omega) (hf'.drop c)
      have z1 := root_size (l.take c)
      have z2 := root_size (l.drop c)
      have ec : ((c : Nat) : Int).toNat = c := by omega
      constructor
      · refine evS (fun k => by rw [impl_rootOf.f]) ?_
        refine evF (by omega) (evF (by omega) (evB hA ?_))
        rw [ec]
        exact evT (by omega) (evT (by omega) (evB i1 (evB i2 (evB (implNode_ev _ _ (by omega) (by omega)) (evR rfl)))))
      · refine evS (fun k => by rw [spec_l6Root.f]) ?_
        refine evF (by omega) (evF (by omega) (evB hB ?_))
        rw [ec]
        exact evT (by omega) (evT (by omega) (evB s1 (evB s2 (evB (specNode_ev _ _ (by omega) (by omega)) (evR rfl)))))
end Go.Proofs.Ytmkhhnfmahdijaa.Z

/- Paths of beginnings, the program's and the reference's: the same. Plain lemmas. -/
set_option linter.unusedVariables false
namespace Go.Proofs.Ytmkhhnfmahdijaa.Z
open Go.RowKit Go.Proofs.YtmkhhnfmahdijaaW.PrintWords Go.Proofs.YtmkhhnfmahdijaaW.PrintMore Go.Proofs.Ytmkhhnfmahdijaa.X
/-- The path of the first n. -/
def grow (l : List ByteArray) (n : Int) (w : Bool) : List ByteArray :=
  if n = l.length then (if w = true then [] else [root l])
  else if h : l.length < 2 then []
  else if n ≤ hf l.length then grow (l.take (hf l.length)) n w ++ [root (l.drop (hf l.length))] else grow (l.drop (hf l.length)) (n - hf l.length) false ++ [root (l.take (hf l.length))]
termination_by l.length
decreasing_by
  · have := hf_lt (n := l.length) (by omega); simp; omega
  · have := hf_lt (n := l.length) (by omega); simp; omega
theorem grow_all {l : List ByteArray} {n : Int} (h : n = l.length) (w : Bool) : grow l n w = if w = true then [] else [root l] := by rw [grow, if_pos h]
theorem grow_more {l : List ByteArray} {n : Int} (h : ¬ n = l.length) (h2 : ¬ l.length < 2) (w : Bool) : grow l n w = if n ≤ hf l.length then grow (l.take (hf l.length)) n w ++ [root (l.drop (hf l.length))] else grow (l.drop (hf l.length)) (n - hf l.length) false ++ [root (l.take (hf l.length))] := by rw [grow, if_neg h, dif_neg h2]
theorem grow_both : ∀ (m : Nat) (l : List ByteArray) (n : Int) (w : Bool), l.length = m → m ≤ 1000000000 → 1 ≤ n → n ≤ m → Fit l → Ev (fun k => impl_growFrom.f k l n w) (grow l n w) ∧ Ev (fun k => spec_l6Grow.f k l n w) (grow l n w) ∧ (grow l n w).length ≤ m ∧ ∀ y ∈ grow l n w, y.size = 32 := by
  intro m
  induction m using Nat.strongRecOn with
  | ind m ih =>
    intro l n w hl hm h1 hn hf'
    by_cases hnl : n = l.length
    · rw [grow_all hnl]
      obtain ⟨i1, s1⟩ := root_both m l hl hm hf'
      have z1 := root_size l
      cases w with
      | true =>
        refine ⟨?_, ?_, by simp, by simp⟩
        · refine evS (fun k => by rw [impl_growFrom.f]) ?_
          exact evT hnl (evT rfl (evR rfl))
        · refine evS (fun k => by rw [spec_l6Grow.f]) ?_
          exact evT hnl (evT rfl (evR rfl))
      | false =>
        refine ⟨?_, ?_, by simp; omega, by intro y hy; simp at hy; rw [hy]; exact z1⟩
        · refine evS (fun k => by rw [impl_growFrom.f]) ?_
          exact evT hnl (evF (by simp) (evB i1 (evR rfl)))
        · refine evS (fun k => by rw [spec_l6Grow.f]) ?_
          exact evT hnl (evF (by simp) (evB s1 (evR rfl)))
    · have h2 : ¬ l.length < 2 := by omega
      obtain ⟨g1, g2⟩ := hf_lt (n := l.length) (by omega)
      have hA := hf_impl (n := l.length) (by omega) (by omega)
      have hB := hf_spec (n := l.length) (by omega) (by omega)
      rw [grow_more hnl h2]
      generalize hf l.length = c at *
      obtain ⟨i1, s1⟩ := root_both c (l.take c) (by simp; omega) (by omega) (hf'.take c)
      obtain ⟨i2, s2⟩ := root_both (l.length - c) (l.drop c) (by simp) (by omega) (hf'.drop c)
      have z1 := root_size (l.take c)
      have z2 := root_size (l.drop c)
      have ec : ((c : Nat) : Int).toNat = c := by omega
      by_cases hic : n ≤ c
      · obtain ⟨a, b, g, g'⟩ := ih c (by omega) (l.take c) n w (by simp; omega) (by omega) h1 hic (hf'.take c)
        rw [if_pos hic]
        refine ⟨?_, ?_, by simp; omega, ?_⟩
        · refine evS (fun k => by rw [impl_growFrom.f]) ?_
          refine evF hnl (evB hA ?_)
          rw [ec]
          exact evT hic (evT (by omega) (evT (by omega) (evB a (evB i2 (evT (by omega) (evR rfl))))))
        · refine evS (fun k => by rw [spec_l6Grow.f]) ?_
          refine evF hnl (evB hB ?_)
          rw [ec]
          exact evT hic (evT (by omega) (evT (by omega) (evB b (evB s2 (evT (by omega) (evR rfl))))))
        · intro y hy
          rcases List.mem_append.1 hy with h | h
          · exact g' y h
          · rw [List.mem_singleton.1 h]; exact z2
      · obtain ⟨a, b, g, g'⟩ := ih (l.length - c) (by omega) (l.drop c) (n - c) false (by simp) (by omega) (by omega) (by omega) (hf'.drop c)
        have ew : wrap64 (n - (c : Int)) = n - c := w64 (by omega)
        rw [if_neg hic]
        refine ⟨?_, ?_, by simp; omega, ?_⟩
        · refine evS (fun k => by rw [impl_growFrom.f]) ?_
          refine evF hnl (evB hA ?_)
          rw [ec, ew]
          exact evF hic (evT (by omega) (evT (by omega) (evB a (evB i1 (evT (by omega) (evR rfl))))))
        · refine evS (fun k => by rw [spec_l6Grow.f]) ?_
          refine evF hnl (evB hB ?_)
          rw [ec, ew]
          exact evF hic (evT (by omega) (evT (by omega) (evB b (evB s1 (evT (by omega) (evR rfl))))))
        · intro y hy
          rcases List.mem_append.1 hy with h | h
          · exact g' y h
          · rw [List.mem_singleton.1 h]; exact z1
end Go.Proofs.Ytmkhhnfmahdijaa.Z

/- Ranges, the program's and the reference's: the same. Plain lemmas. -/
set_option linter.unusedVariables false
namespace Go.Proofs.Ytmkhhnfmahdijaa.Z
open Go.RowKit Go.Proofs.YtmkhhnfmahdijaaW.PrintWords Go.Proofs.YtmkhhnfmahdijaaW.PrintMore Go.Proofs.Ytmkhhnfmahdijaa.X
theorem rng_impl (a b c : Int) : impl_inRange.f a b c = some (decide (b ≤ a ∧ a ≤ c)) := by
  unfold impl_inRange.f
  by_cases h : a ≥ b
  · rw [if_pos h]
    simp [show b ≤ a from h]
  · rw [if_neg h]
    simp [show ¬ b ≤ a from h]
theorem rng_spec (a b c : Int) : spec_l1In.f a b c = some (decide (b ≤ a ∧ a ≤ c)) := by
  unfold spec_l1In.f
  by_cases h : a ≥ b
  · rw [if_pos h]
    simp [show b ≤ a from h]
  · rw [if_neg h]
    simp [show ¬ b ≤ a from h]
end Go.Proofs.Ytmkhhnfmahdijaa.Z

/- GrowPath, the program's and the reference's: the same. Plain lemmas. -/
set_option linter.unusedVariables false
namespace Go.Proofs.Ytmkhhnfmahdijaa.Z
open Go.RowKit Go.Proofs.YtmkhhnfmahdijaaW.PrintWords Go.Proofs.YtmkhhnfmahdijaaW.PrintMore Go.Proofs.Ytmkhhnfmahdijaa.X
def growPathB (l : List ByteArray) (n : Int) : List ByteArray := if (l.length : Int) > 200 then [] else if 1 ≤ n ∧ n ≤ (l.length : Int) - 1 then grow l n true else []
theorem growPath_both (l : List ByteArray) (n : Int) (h : Fit l) : Ev (fun k => impl_GrowPath.f k l n) (growPathB l n) ∧ Ev (fun k => spec_GrowPath.f k l n) (growPathB l n) ∧ (growPathB l n).length ≤ 200 := by
  unfold growPathB impl_GrowPath.f spec_GrowPath.f
  by_cases hl : (l.length : Int) > 200
  · rw [if_pos hl]
    exact ⟨evT hl (evR rfl), evT hl (evR rfl), by simp⟩
  · rw [if_neg hl, w64 (x := (l.length : Int) - 1) (by omega), rng_impl, rng_spec]
    by_cases hi : 1 ≤ n ∧ n ≤ (l.length : Int) - 1
    · rw [if_pos hi, decide_eq_true hi]
      obtain ⟨a, b, c, _⟩ := grow_both l.length l n true rfl (by omega) hi.1 (by omega) h
      exact ⟨evF hl (evC rfl (evT rfl (evB a (evR rfl)))), evF hl (evC rfl (evT rfl (evB b (evR rfl)))), by omega⟩
    · rw [if_neg hi, decide_eq_false hi]
      exact ⟨evF hl (evC rfl (evF Bool.false_ne_true (evR rfl))), evF hl (evC rfl (evF Bool.false_ne_true (evR rfl))), by simp⟩
end Go.Proofs.Ytmkhhnfmahdijaa.Z

/- The law FnExactGrowPath, as a plain statement: the program's GrowPath answers as the reference's, leaves its argument alone and shares no memory. Conditions: those of the row's reading alone. -/
namespace Go.Proofs.Ytmkhhnfmahdijaa.Pure
open Go.RowKit Go.Proofs.Ytmkhhnfmahdijaa.X Go.Proofs.Ytmkhhnfmahdijaa.Z Go.Proofs.YtmkhhnfmahdijaaW.PrintWords Go.Proofs.YtmkhhnfmahdijaaW.PrintLast
theorem FnExactGrowPath : laws_FnExactGrowPath.Pure := by
  intro l a h2 h3 h4
  refine Ev.rounds ?_
  unfold laws_FnExactGrowPath.f
  obtain ⟨q, hq, hq2⟩ := szStringS_ev l h2 h3 1048576 (by omega) (by omega)
  refine evB hq (evI (fun _ => evR rfl) (fun hn => ?_))
  have hT := toStringS_ev l (by omega)
  have hF : Fit l := fun y hy => by have := total_mem hy; omega
  obtain ⟨i, s, hl⟩ := growPath_both l a hF
  generalize growPathB l a = r at *
  have hE := eqStringS_same r (by omega)
  have hE0 := eqStringS_same l (by omega)
  have hM0 := markStringS_ev l 1 (by omega) (by omega)
  have hM := markStringS_ev r 1 (by omega) (by omega)
  have hH := heldStringS_ev r.length 1 (by omega) (by omega)
  refine evB hT (evB s (evB hT (evB i (evB hE (evT rfl (evB hT (evB hE0 (evT rfl (evB hM0 (evNeg (evB hE ?_)))))))))))
  exact evS (fun k => by rw [laws_FnExactGrowPath.j0]) (evF (by simp) (evB hM (evB hH (evHeld rfl (evB hT (evB i (evB hE (evT rfl (evB hH (evHeld rfl (evR rfl)))))))))))
end Go.Proofs.Ytmkhhnfmahdijaa.Pure

/- Values that come in as data (strings' slices, structs, slices of structs, nested) are of the printer's kinds: one lemma a make of type. Plain lemmas for the rows of laws over such parameters. No conditions beyond what each lemma names. -/
set_option linter.unusedVariables false
namespace Go.Proofs.Ytmkhhnfmahdijaa.Y
open Go.RowKit Go.Proofs.YtmkhhnfmahdijaaW.PrintWords Go.ChangeShapes Go.WideShapes Go.Deep

/-- What is read as data of type T is of kind d, and G holds of what it says. -/
def Opn {α : Type} (P : Program) (d : Kd α) (T : TypeId) (G : α → Prop) : Prop :=
  ∀ {H : Type} (enc : TypeId × Value → H) (w : World) (spare : Nat → Bool) (held : Bool) (fuel : Nat) (cs : List Value) (x : DataW H × List MemPlace), DataW.trod enc P w 0 spare held fuel T cs = some x → ∃ y, d.K w y cs ∧ G y

theorem Opn.int {P : Program} {T : TypeId} {k : IntKind} (h : P.underlying T = some (.int k)) : Opn P (Kd.int k) T (fun n => (Lit.int k n).wf = true) := by
  intro H enc w spare held fuel cs x hx
  obtain ⟨n, rfl, _, hn⟩ := DataW.trod_int h hx
  exact ⟨n, rfl, hn⟩
theorem Opn.bool {P : Program} {T : TypeId} (h : P.underlying T = some .bool) : Opn P Kd.bool T (fun _ => True) := by
  intro H enc w spare held fuel cs x hx
  obtain ⟨n, rfl, _⟩ := DataW.trod_bool h hx
  exact ⟨n, rfl, trivial⟩
theorem Opn.string {P : Program} {T : TypeId} (h : P.underlying T = some .string) : Opn P Kd.string T (fun s => s.size ≤ maxLen) := by
  intro H enc w spare held fuel cs x hx
  obtain ⟨s, rfl, _, hs⟩ := DataW.trod_string h hx
  exact ⟨s, rfl, hs⟩
theorem Opn.slice {α : Type} {P : Program} {d : Kd α} {T e : TypeId} {G : α → Prop} [Inhabited α] (h : P.underlying T = some (.slice e)) (he : P.cellsOf e = d.sz) (ho : Opn P d e G) :
    Opn P (Kd.slice e d) T (fun l => l.length ≤ maxLen ∧ ∀ y, y ∈ l → G y) := by
  intro H enc w spare held fuel cs x hx
  rcases open_slice h hx with ⟨rfl, _⟩ | ⟨a, len, cap, m, n, D, Pl, rfl, _, hl, hm, hmm, _, hel⟩
  · exact ⟨[], ⟨none, 0, rfl, Nat.le_refl _, rfl, by simp, fun hn => absurd hn (Nat.lt_irrefl 0)⟩, by simp, fun y hy => by cases hy⟩
  · have hlm : len ≤ m := by rw [hmm]; split <;> omega
    have each : ∀ i, i < len → ∃ y, (∃ c, c.length = d.sz ∧ d.K w y c ∧ ∀ j u, c[j]? = some u → w.cell? (a.add (i * d.sz + j)) = some u) ∧ G y := by
      intro i hi
      obtain ⟨c, hc, ht⟩ := hel i (by omega)
      obtain ⟨y, hk, hg⟩ := ho enc w spare held n c _ ht
      obtain ⟨_, hlen, hcell⟩ := World.cells?_some hc
      refine ⟨y, ⟨c, hlen.trans he, hk, fun j u hu => ?_⟩, hg⟩
      have hj : j < P.cellsOf e := by rw [← hlen]; exact (List.getElem?_eq_some_iff.1 hu).1
      have := hcell j hj
      rw [Go.Deep.add_add, hu, he] at this
      exact this
    obtain ⟨f, hf⟩ := choose_lt each
    have hlen : ((List.range len).map f).length = len := by simp
    have hm' : len ≤ maxLen := Nat.le_trans hl hm
    refine ⟨(List.range len).map f, ⟨some a, cap, by rw [hlen], by rw [hlen]; exact hl, by rw [hlen], by rw [hlen]; unfold maxLen at hm'; exact hm', fun _ => ⟨a, rfl, fun j p hp => ?_⟩⟩, by rw [hlen]; exact hm', fun y hy => ?_⟩
    · obtain ⟨hj, rfl⟩ := List.getElem?_eq_some_iff.1 hp
      rw [hlen] at hj
      simp only [List.getElem_map, List.getElem_range]
      exact (hf j hj).1
    · obtain ⟨i, hi, rfl⟩ := List.mem_map.1 hy
      exact (hf i (List.mem_range.1 hi)).2

/-- The fields from cell 'off' on. -/
def FOpn {α : Type} (P : Program) (d : Kd α) (off : Nat) (fs : List Field) (G : α → Prop) : Prop :=
  ∀ {H : Type} (enc : TypeId × Value → H) (w : World) (spare : Nat → Bool) (held : Bool) (fuel : Nat) (cs : List Value),
    (∀ f, f ∈ fs → ∃ x, DataW.trod enc P w 0 spare held fuel f.type ((cs.drop f.offset).take (P.cellsOf f.type)) = some x) → cs.length = off + d.sz → ∃ y, d.K w y (cs.drop off) ∧ G y
theorem FOpn.one {α : Type} {P : Program} {d : Kd α} {off : Nat} {f : Field} {G : α → Prop} (hf : f.offset = off) (hc : P.cellsOf f.type = d.sz) (ho : Opn P d f.type G) : FOpn P d off [f] G := by
  intro H enc w spare held fuel cs hx hl
  obtain ⟨x, hx⟩ := hx f (by simp)
  rw [hf, hc, List.take_of_length_le (by simp; omega)] at hx
  exact ho enc w spare held fuel _ x hx
theorem FOpn.cons {α β : Type} {P : Program} {d : Kd α} {d' : Kd β} {off : Nat} {f : Field} {fs : List Field} {G : α → Prop} {G' : β → Prop} (hf : f.offset = off) (hc : P.cellsOf f.type = d.sz) (ho : Opn P d f.type G)
    (hs : FOpn P d' (off + d.sz) fs G') : FOpn P (Kd.pair d d') off (f :: fs) (fun y => G y.1 ∧ G' y.2) := by
  intro H enc w spare held fuel cs hx hl
  have hl' : cs.length = off + (d.sz + d'.sz) := hl
  obtain ⟨x, h1⟩ := hx f (by simp)
  rw [hf, hc] at h1
  obtain ⟨y, hy, gy⟩ := ho enc w spare held fuel _ x h1
  obtain ⟨z, hz, gz⟩ := hs enc w spare held fuel cs (fun g hg => hx g (List.mem_cons_of_mem _ hg)) (by omega)
  refine ⟨(y, z), ⟨_, _, ?_, hy, hz⟩, gy, gz⟩
  rw [← List.drop_drop, List.take_append_drop]
theorem Opn.struct {α β : Type} {P : Program} {d : Kd α} {T : TypeId} {fs : Array Field} {fl : List Field} {G : α → Prop} {G' : β → Prop} {proj : β → α} (mk : α → β) (h : P.underlying T = some (.struct fs)) (hfl : fs.toList = fl) (hc : P.cellsOf T = d.sz)
    (hmk : ∀ y, proj (mk y) = y) (hG : ∀ y, G y → G' (mk y)) (hs : FOpn P d 0 fl G) : Opn P (Kd.iso d proj) T G' := by
  intro H enc w spare held fuel cs x hx
  obtain ⟨xs, n, rfl, _, hlen, hxs, hall⟩ := DataW.trod_struct h hx
  obtain ⟨y, hy, gy⟩ := hs enc w spare held n cs (fun f hf => by
    rw [← hfl] at hf
    obtain ⟨i, hi, he⟩ := List.getElem_of_mem hf
    have hi' : i < fs.size := by simpa using hi
    have h1 : fs[i]? = some f := by rw [Array.getElem?_eq_getElem hi']; simpa using he
    exact ⟨_, (hall i f h1).trans (List.getElem?_eq_getElem (by omega))⟩) (by rw [hlen, hc, Nat.zero_add])
  refine ⟨mk y, ?_, hG y gy⟩
  show d.K w (proj (mk y)) cs
  rw [hmk]
  exact hy

/-- A parameter that is a slice. -/
theorem Opn.arg_slice {α : Type} {P : Program} {d : Kd α} {T e : TypeId} {G : α → Prop} [Inhabited α] (h : P.underlying T = some (.slice e)) (he : P.cellsOf e = d.sz) (ho : Opn P d e G)
    {H : Type} {enc : TypeId × Value → H} {w : World} {spare : Nat → Bool} {held : Bool} {v : Value} {D : DataW H} {ps : List MemPlace} {r : Reach} {b : Nat} (hv : Value.okWide P w r b T v) (hx : DataW.Trod enc P w 0 spare held T v D ps) :
    ∃ (A : Option Addr) (c : Nat) (l : List α), v = .slice A l.length c ∧ l.length ≤ c ∧ d.C w A l.length l ∧ l.length ≤ maxLen ∧ ∀ y, y ∈ l → G y := by
  obtain ⟨a, len, cap, rfl⟩ := okWide_slice h hv
  obtain ⟨fuel, hf⟩ := hx
  obtain ⟨l, ⟨A, c, hcs, hlc, hC⟩, hg1, hg2⟩ := Opn.slice h he ho enc w spare held fuel _ _ hf
  have hcs' : [Value.slice a len cap] = [Value.slice A l.length c] := hcs
  injection hcs' with h1 _
  exact ⟨A, c, l, h1, hlc, hC, hg1, hg2⟩
/-- A parameter that is a struct. -/
theorem Opn.arg_struct {α : Type} {P : Program} {d : Kd α} {T : TypeId} {G : α → Prop} {fs : Array Field} (hu : P.underlying T = some (.struct fs)) (ho : Opn P d T G)
    {H : Type} {enc : TypeId × Value → H} {w : World} {spare : Nat → Bool} {held : Bool} {v : Value} {D : DataW H} {ps : List MemPlace} {r : Reach} {b : Nat} (hv : Value.okWide P w r b T v) (hx : DataW.Trod enc P w 0 spare held T v D ps) :
    ∃ (cs : List Value) (y : α), v = .agg cs.toArray ∧ d.K w y cs ∧ G y := by
  obtain ⟨cs, rfl, _⟩ := okWide_struct hu hv
  obtain ⟨fuel, hf⟩ := hx
  obtain ⟨y, hk, hg⟩ := ho enc w spare held fuel _ _ hf
  exact ⟨cs.toList, y, by simp, hk, hg⟩
end Go.Proofs.Ytmkhhnfmahdijaa.Y

/- Three closed facts of the rows of this seat (how the program may be entered), by the first words of the translation's head row. No conditions. -/
namespace Go.Proofs.Ytmkhhnfmahdijaa.Y
open Go.ChangeShapes Go.WideShapes Go.ChangeAt Go.RowKit
def tailSigns : List Char := [Char.ofNat 108, Char.ofNat 111, Char.ofNat 111, Char.ofNat 112, Char.ofNat 46, Char.ofNat 101, Char.ofNat 120, Char.ofNat 97, Char.ofNat 109, Char.ofNat 112, Char.ofNat 108, Char.ofNat 101, Char.ofNat 47, Char.ofNat 103, Char.ofNat 48, Char.ofNat 48, Char.ofNat 50, Char.ofNat 51, Char.ofNat 51, Char.ofNat 47, Char.ofNat 108, Char.ofNat 97, Char.ofNat 119, Char.ofNat 115, Char.ofNat 46, Char.ofNat 70, Char.ofNat 110, Char.ofNat 69, Char.ofNat 120, Char.ofNat 97, Char.ofNat 99, Char.ofNat 116, Char.ofNat 67, Char.ofNat 111, Char.ofNat 110, Char.ofNat 115, Char.ofNat 116, Char.ofNat 97, Char.ofNat 110, Char.ofNat 116, Char.ofNat 115, Char.ofNat 32, Char.ofNat 108, Char.ofNat 111, Char.ofNat 111, Char.ofNat 112, Char.ofNat 46, Char.ofNat 101, Char.ofNat 120, Char.ofNat 97, Char.ofNat 109, Char.ofNat 112, Char.ofNat 108, Char.ofNat 101, Char.ofNat 47, Char.ofNat 103, Char.ofNat 48, Char.ofNat 48, Char.ofNat 50, Char.ofNat 51, Char.ofNat 51, Char.ofNat 47, Char.ofNat 108, Char.ofNat 97, Char.ofNat 119, Char.ofNat 115, Char.ofNat 46, Char.ofNat 70, Char.ofNat 110, Char.ofNat 69, Char.ofNat 120, Char.ofNat 97, Char.ofNat 99, Char.ofNat 116, Char.ofNat 72, Char.ofNat 101, Char.ofNat 120, Char.ofNat 79, Char.ofNat 102, Char.ofNat 32, Char.ofNat 108, Char.ofNat 111, Char.ofNat 111, Char.ofNat 112, Char.ofNat 46, Char.ofNat 101, Char.ofNat 120, Char.ofNat 97, Char.ofNat 109, Char.ofNat 112, Char.ofNat 108, Char.ofNat 101, Char.ofNat 47, Char.ofNat 103, Char.ofNat 48, Char.ofNat 48, Char.ofNat 50, Char.ofNat 51, Char.ofNat 51, Char.ofNat 47, Char.ofNat 108, Char.ofNat 97, Char.ofNat 119, Char.ofNat 115, Char.ofNat 46, Char.ofNat 70, Char.ofNat 110, Char.ofNat 69, Char.ofNat 120, Char.ofNat 97, Char.ofNat 99, Char.ofNat 116, Char.ofNat 85, Char.ofNat 110, Char.ofNat 72, Char.ofNat 101, Char.ofNat 120, Char.ofNat 32, Char.ofNat 108, Char.ofNat 111, Char.ofNat 111, Char.ofNat 112, Char.ofNat 46, Char.ofNat 101, Char.ofNat 120, Char.ofNat 97, Char.ofNat 109, Char.ofNat 112, Char.ofNat 108, Char.ofNat 101, Char.ofNat 47, Char.ofNat 103, Char.ofNat 48, Char.ofNat 48, Char.ofNat 50, Char.ofNat 51, Char.ofNat 51, Char.ofNat 47, Char.ofNat 108, Char.ofNat 97, Char.ofNat 119, Char.ofNat 115, Char.ofNat 46, Char.ofNat 70, Char.ofNat 110, Char.ofNat 69, Char.ofNat 120, Char.ofNat 97, Char.ofNat 99, Char.ofNat 116, Char.ofNat 71, Char.ofNat 101, Char.ofNat 116, Char.ofNat 78, Char.ofNat 117, Char.ofNat 109, Char.ofNat 32, Char.ofNat 108, Char.ofNat 111, Char.ofNat 111, Char.ofNat 112, Char.ofNat 46, Char.ofNat 101, Char.ofNat 120, Char.ofNat 97, Char.ofNat 109, Char.ofNat 112, Char.ofNat 108, Char.ofNat 101, Char.ofNat 47, Char.ofNat 103, Char.ofNat 48, Char.ofNat 48, Char.ofNat 50, Char.ofNat 51, Char.ofNat 51, Char.ofNat 47, Char.ofNat 108, Char.ofNat 97, Char.ofNat 119, Char.ofNat 115, Char.ofNat 46, Char.ofNat 70, Char.ofNat 110, Char.ofNat 69, Char.ofNat 120, Char.ofNat 97, Char.ofNat 99, Char.ofNat 116, Char.ofNat 80, Char.ofNat 97, Char.ofNat 100, Char.ofNat 100, Char.ofNat 101, Char.ofNat 100, Char.ofNat 32, Char.ofNat 108, Char.ofNat 111, Char.ofNat 111, Char.ofNat 112, Char.ofNat 46, Char.ofNat 101, Char.ofNat 120, Char.ofNat 97, Char.ofNat 109, Char.ofNat 112, Char.ofNat 108, Char.ofNat 101, Char.ofNat 47, Char.ofNat 103, Char.ofNat 48, Char.ofNat 48, Char.ofNat 50, Char.ofNat 51, Char.ofNat 51, Char.ofNat 47, Char.ofNat 108, Char.ofNat 97, Char.ofNat 119, Char.ofNat 115, Char.ofNat 46, Char.ofNat 70, Char.ofNat 110, Char.ofNat 69, Char.ofNat 120, Char.ofNat 97, Char.ofNat 99, Char.ofNat 116, Char.ofNat 71, Char.ofNat 101, Char.ofNat 116, Char.ofNat 84, Char.ofNat 101, Char.ofNat 120, Char.ofNat 116, Char.ofNat 32, Char.ofNat 108, Char.ofNat 111, Char.ofNat 111, Char.ofNat 112, Char.ofNat 46, Char.ofNat 101, Char.ofNat 120, Char.ofNat 97, Char.ofNat 109, Char.ofNat 112, Char.ofNat 108, Char.ofNat 101, Char.ofNat 47, Char.ofNat 103, Char.ofNat 48, Char.ofNat 48, Char.ofNat 50, Char.ofNat 51, Char.ofNat 51, Char.ofNat 47, Char.ofNat 108, Char.ofNat 97, Char.ofNat 119, Char.ofNat 115, Char.ofNat 46, Char.ofNat 70, Char.ofNat 110, Char.ofNat 69, Char.ofNat 120, Char.ofNat 97, Char.ofNat 99, Char.ofNat 116, Char.ofNat 80, Char.ofNat 117, Char.ofNat 116, Char.ofNat 78, Char.ofNat 117, Char.ofNat 109, Char.ofNat 32, Char.ofNat 108, Char.ofNat 111, Char.ofNat 111, Char.ofNat 112, Char.ofNat 46, Char.ofNat 101, Char.ofNat 120, Char.ofNat 97, Char.ofNat 109, Char.ofNat 112, Char.ofNat 108, Char.ofNat 101, Char.ofNat 47, Char.ofNat 103, Char.ofNat 48, Char.ofNat 48, Char.ofNat 50, Char.ofNat 51, Char.ofNat 51, Char.ofNat 47, Char.ofNat 108, Char.ofNat 97, Char.ofNat 119, Char.ofNat 115, Char.ofNat 46, Char.ofNat 70, Char.ofNat 110, Char.ofNat 69, Char.ofNat 120, Char.ofNat 97, Char.ofNat 99, Char.ofNat 116, Char.ofNat 80, Char.ofNat 117, Char.ofNat 116, Char.ofNat 84, Char.ofNat 101, Char.ofNat 120, Char.ofNat 116, Char.ofNat 32, Char.ofNat 108, Char.ofNat 111, Char.ofNat 111, Char.ofNat 112, Char.ofNat 46, Char.ofNat 101, Char.ofNat 120, Char.ofNat 97, Char.ofNat 109, Char.ofNat 112, Char.ofNat 108, Char.ofNat 101, Char.ofNat 47, Char.ofNat 103, Char.ofNat 48, Char.ofNat 48, Char.ofNat 50, Char.ofNat 51, Char.ofNat 51, Char.ofNat 47, Char.ofNat 108, Char.ofNat 97, Char.ofNat 119, Char.ofNat 115, Char.ofNat 46, Char.ofNat 70, Char.ofNat 110, Char.ofNat 78, Char.ofNat 117, Char.ofNat 109, Char.ofNat 115, Char.ofNat 32, Char.ofNat 108, Char.ofNat 111, Char.ofNat 111, Char.ofNat 112, Char.ofNat 46, Char.ofNat 101, Char.ofNat 120, Char.ofNat 97, Char.ofNat 109, Char.ofNat 112, Char.ofNat 108, Char.ofNat 101, Char.ofNat 47, Char.ofNat 103, Char.ofNat 48, Char.ofNat 48, Char.ofNat 50, Char.ofNat 51, Char.ofNat 51, Char.ofNat 47, Char.ofNat 108, Char.ofNat 97, Char.ofNat 119, Char.ofNat 115, Char.ofNat 46, Char.ofNat 70, Char.ofNat 110, Char.ofNat 69, Char.ofNat 120, Char.ofNat 97, Char.ofNat 99, Char.ofNat 116, Char.ofNat 69, Char.ofNat 100, Char.ofNat 103, Char.ofNat 101, Char.ofNat 79, Char.ofNat 107, Char.ofNat 32, Char.ofNat 108, Char.ofNat 111, Char.ofNat 111, Char.ofNat 112, Char.ofNat 46, Char.ofNat 101, Char.ofNat 120, Char.ofNat 97, Char.ofNat 109, Char.ofNat 112, Char.ofNat 108, Char.ofNat 101, Char.ofNat 47, Char.ofNat 103, Char.ofNat 48, Char.ofNat 48, Char.ofNat 50, Char.ofNat 51, Char.ofNat 51, Char.ofNat 47, Char.ofNat 108, Char.ofNat 97, Char.ofNat 119, Char.ofNat 115, Char.ofNat 46, Char.ofNat 70, Char.ofNat 110, Char.ofNat 69, Char.ofNat 120, Char.ofNat 97, Char.ofNat 99, Char.ofNat 116, Char.ofNat 80, Char.ofNat 117, Char.ofNat 116, Char.ofNat 84, Char.ofNat 101, Char.ofNat 120, Char.ofNat 116, Char.ofNat 115, Char.ofNat 32, Char.ofNat 108, Char.ofNat 111, Char.ofNat 111, Char.ofNat 112, Char.ofNat 46, Char.ofNat 101, Char.ofNat 120, Char.ofNat 97, Char.ofNat 109, Char.ofNat 112, Char.ofNat 108, Char.ofNat 101, Char.ofNat 47, Char.ofNat 103, Char.ofNat 48, Char.ofNat 48, Char.ofNat 50, Char.ofNat 51, Char.ofNat 51, Char.ofNat 47, Char.ofNat 108, Char.ofNat 97, Char.ofNat 119, Char.ofNat 115, Char.ofNat 46, Char.ofNat 70, Char.ofNat 110, Char.ofNat 84, Char.ofNat 101, Char.ofNat 120, Char.ofNat 116, Char.ofNat 115, Char.ofNat 32, Char.ofNat 108, Char.ofNat 111, Char.ofNat 111, Char.ofNat 112, Char.ofNat 46, Char.ofNat 101, Char.ofNat 120, Char.ofNat 97, Char.ofNat 109, Char.ofNat 112, Char.ofNat 108, Char.ofNat 101, Char.ofNat 47, Char.ofNat 103, Char.ofNat 48, Char.ofNat 48, Char.ofNat 50, Char.ofNat 51, Char.ofNat 51, Char.ofNat 47, Char.ofNat 108, Char.ofNat 97, Char.ofNat 119, Char.ofNat 115, Char.ofNat 46, Char.ofNat 70, Char.ofNat 110, Char.ofNat 69, Char.ofNat 120, Char.ofNat 97, Char.ofNat 99, Char.ofNat 116, Char.ofNat 71, Char.ofNat 101, Char.ofNat 116, Char.ofNat 84, Char.ofNat 101, Char.ofNat 120, Char.ofNat 116, Char.ofNat 115, Char.ofNat 32, Char.ofNat 108, Char.ofNat 111, Char.ofNat 111, Char.ofNat 112, Char.ofNat 46, Char.ofNat 101, Char.ofNat 120, Char.ofNat 97, Char.ofNat 109, Char.ofNat 112, Char.ofNat 108, Char.ofNat 101, Char.ofNat 47, Char.ofNat 103, Char.ofNat 48, Char.ofNat 48, Char.ofNat 50, Char.ofNat 51, Char.ofNat 51, Char.ofNat 47, Char.ofNat 108, Char.ofNat 97, Char.ofNat 119, Char.ofNat 115, Char.ofNat 46, Char.ofNat 70, Char.ofNat 110, Char.ofNat 82, Char.ofNat 111, Char.ofNat 111, Char.ofNat 116, Char.ofNat 115, Char.ofNat 32, Char.ofNat 108, Char.ofNat 111, Char.ofNat 111, Char.ofNat 112, Char.ofNat 46, Char.ofNat 101, Char.ofNat 120, Char.ofNat 97, Char.ofNat 109, Char.ofNat 112, Char.ofNat 108, Char.ofNat 101, Char.ofNat 47, Char.ofNat 103, Char.ofNat 48, Char.ofNat 48, Char.ofNat 50, Char.ofNat 51, Char.ofNat 51, Char.ofNat 47, Char.ofNat 108, Char.ofNat 97, Char.ofNat 119, Char.ofNat 115, Char.ofNat 46, Char.ofNat 70, Char.ofNat 110, Char.ofNat 69, Char.ofNat 120, Char.ofNat 97, Char.ofNat 99, Char.ofNat 116, Char.ofNat 76, Char.ofNat 101, Char.ofNat 97, Char.ofNat 102, Char.ofNat 72, Char.ofNat 97, Char.ofNat 115, Char.ofNat 104, Char.ofNat 32, Char.ofNat 108, Char.ofNat 111, Char.ofNat 111, Char.ofNat 112, Char.ofNat 46, Char.ofNat 101, Char.ofNat 120, Char.ofNat 97, Char.ofNat 109, Char.ofNat 112, Char.ofNat 108, Char.ofNat 101, Char.ofNat 47, Char.ofNat 103, Char.ofNat 48, Char.ofNat 48, Char.ofNat 50, Char.ofNat 51, Char.ofNat 51, Char.ofNat 47, Char.ofNat 108, Char.ofNat 97, Char.ofNat 119, Char.ofNat 115, Char.ofNat 46, Char.ofNat 70, Char.ofNat 110, Char.ofNat 69, Char.ofNat 120, Char.ofNat 97, Char.ofNat 99, Char.ofNat 116, Char.ofNat 78, Char.ofNat 111, Char.ofNat 100, Char.ofNat 101, Char.ofNat 72, Char.ofNat 97, Char.ofNat 115, Char.ofNat 104, Char.ofNat 32, Char.ofNat 108, Char.ofNat 111, Char.ofNat 111, Char.ofNat 112, Char.ofNat 46, Char.ofNat 101, Char.ofNat 120, Char.ofNat 97, Char.ofNat 109, Char.ofNat 112, Char.ofNat 108, Char.ofNat 101, Char.ofNat 47, Char.ofNat 103, Char.ofNat 48, Char.ofNat 48, Char.ofNat 50, Char.ofNat 51, Char.ofNat 51, Char.ofNat 47, Char.ofNat 108, Char.ofNat 97, Char.ofNat 119, Char.ofNat 115, Char.ofNat 46, Char.ofNat 70, Char.ofNat 110, Char.ofNat 69, Char.ofNat 120, Char.ofNat 97, Char.ofNat 99, Char.ofNat 116, Char.ofNat 68, Char.ofNat 105, Char.ofNat 103, Char.ofNat 101, Char.ofNat 115, Char.ofNat 116, Char.ofNat 32, Char.ofNat 108, Char.ofNat 111, Char.ofNat 111, Char.ofNat 112, Char.ofNat 46, Char.ofNat 101, Char.ofNat 120, Char.ofNat 97, Char.ofNat 109, Char.ofNat 112, Char.ofNat 108, Char.ofNat 101, Char.ofNat 47, Char.ofNat 103, Char.ofNat 48, Char.ofNat 48, Char.ofNat 50, Char.ofNat 51, Char.ofNat 51, Char.ofNat 47, Char.ofNat 108, Char.ofNat 97, Char.ofNat 119, Char.ofNat 115, Char.ofNat 46, Char.ofNat 70, Char.ofNat 110, Char.ofNat 80, Char.ofNat 97, Char.ofNat 116, Char.ofNat 104, Char.ofNat 115, Char.ofNat 32, Char.ofNat 108, Char.ofNat 111, Char.ofNat 111, Char.ofNat 112, Char.ofNat 46, Char.ofNat 101, Char.ofNat 120, Char.ofNat 97, Char.ofNat 109, Char.ofNat 112, Char.ofNat 108, Char.ofNat 101, Char.ofNat 47, Char.ofNat 103, Char.ofNat 48, Char.ofNat 48, Char.ofNat 50, Char.ofNat 51, Char.ofNat 51, Char.ofNat 47, Char.ofNat 108, Char.ofNat 97, Char.ofNat 119, Char.ofNat 115, Char.ofNat 46, Char.ofNat 70, Char.ofNat 110, Char.ofNat 71, Char.ofNat 114, Char.ofNat 111, Char.ofNat 119, Char.ofNat 110, Char.ofNat 32, Char.ofNat 108, Char.ofNat 111, Char.ofNat 111, Char.ofNat 112, Char.ofNat 46, Char.ofNat 101, Char.ofNat 120, Char.ofNat 97, Char.ofNat 109, Char.ofNat 112, Char.ofNat 108, Char.ofNat 101, Char.ofNat 47, Char.ofNat 103, Char.ofNat 48, Char.ofNat 48, Char.ofNat 50, Char.ofNat 51, Char.ofNat 51, Char.ofNat 47, Char.ofNat 108, Char.ofNat 97, Char.ofNat 119, Char.ofNat 115, Char.ofNat 46, Char.ofNat 70, Char.ofNat 110, Char.ofNat 69, Char.ofNat 120, Char.ofNat 97, Char.ofNat 99, Char.ofNat 116, Char.ofNat 82, Char.ofNat 111, Char.ofNat 111, Char.ofNat 116, Char.ofNat 79, Char.ofNat 102, Char.ofNat 32, Char.ofNat 108, Char.ofNat 111, Char.ofNat 111, Char.ofNat 112, Char.ofNat 46, Char.ofNat 101, Char.ofNat 120, Char.ofNat 97, Char.ofNat 109, Char.ofNat 112, Char.ofNat 108, Char.ofNat 101, Char.ofNat 47, Char.ofNat 103, Char.ofNat 48, Char.ofNat 48, Char.ofNat 50, Char.ofNat 51, Char.ofNat 51, Char.ofNat 47, Char.ofNat 108, Char.ofNat 97, Char.ofNat 119, Char.ofNat 115, Char.ofNat 46, Char.ofNat 70, Char.ofNat 110, Char.ofNat 68, Char.ofNat 105, Char.ofNat 103, Char.ofNat 101, Char.ofNat 115, Char.ofNat 116, Char.ofNat 115, Char.ofNat 32, Char.ofNat 108, Char.ofNat 111, Char.ofNat 111, Char.ofNat 112, Char.ofNat 46, Char.ofNat 101, Char.ofNat 120, Char.ofNat 97, Char.ofNat 109, Char.ofNat 112, Char.ofNat 108, Char.ofNat 101, Char.ofNat 47, Char.ofNat 103, Char.ofNat 48, Char.ofNat 48, Char.ofNat 50, Char.ofNat 51, Char.ofNat 51, Char.ofNat 47, Char.ofNat 108, Char.ofNat 97, Char.ofNat 119, Char.ofNat 115, Char.ofNat 46, Char.ofNat 70, Char.ofNat 110, Char.ofNat 69, Char.ofNat 120, Char.ofNat 97, Char.ofNat 99, Char.ofNat 116, Char.ofNat 67, Char.ofNat 104, Char.ofNat 101, Char.ofNat 99, Char.ofNat 107, Char.ofNat 73, Char.ofNat 110, Char.ofNat 32, Char.ofNat 108, Char.ofNat 111, Char.ofNat 111, Char.ofNat 112, Char.ofNat 46, Char.ofNat 101, Char.ofNat 120, Char.ofNat 97, Char.ofNat 109, Char.ofNat 112, Char.ofNat 108, Char.ofNat 101, Char.ofNat 47, Char.ofNat 103, Char.ofNat 48, Char.ofNat 48, Char.ofNat 50, Char.ofNat 51, Char.ofNat 51, Char.ofNat 47, Char.ofNat 108, Char.ofNat 97, Char.ofNat 119, Char.ofNat 115, Char.ofNat 46, Char.ofNat 70, Char.ofNat 110, Char.ofNat 69, Char.ofNat 120, Char.ofNat 97, Char.ofNat 99, Char.ofNat 116, Char.ofNat 67, Char.ofNat 104, Char.ofNat 101, Char.ofNat 99, Char.ofNat 107, Char.ofNat 71, Char.ofNat 114, Char.ofNat 111, Char.ofNat 119, Char.ofNat 32, Char.ofNat 108, Char.ofNat 111, Char.ofNat 111, Char.ofNat 112, Char.ofNat 46, Char.ofNat 101, Char.ofNat 120, Char.ofNat 97, Char.ofNat 109, Char.ofNat 112, Char.ofNat 108, Char.ofNat 101, Char.ofNat 47, Char.ofNat 103, Char.ofNat 48, Char.ofNat 48, Char.ofNat 50, Char.ofNat 51, Char.ofNat 51, Char.ofNat 47, Char.ofNat 108, Char.ofNat 97, Char.ofNat 119, Char.ofNat 115, Char.ofNat 46, Char.ofNat 70, Char.ofNat 110, Char.ofNat 69, Char.ofNat 120, Char.ofNat 97, Char.ofNat 99, Char.ofNat 116, Char.ofNat 73, Char.ofNat 110, Char.ofNat 80, Char.ofNat 97, Char.ofNat 116, Char.ofNat 104, Char.ofNat 32, Char.ofNat 108, Char.ofNat 111, Char.ofNat 111, Char.ofNat 112, Char.ofNat 46, Char.ofNat 101, Char.ofNat 120, Char.ofNat 97, Char.ofNat 109, Char.ofNat 112, Char.ofNat 108, Char.ofNat 101, Char.ofNat 47, Char.ofNat 103, Char.ofNat 48, Char.ofNat 48, Char.ofNat 50, Char.ofNat 51, Char.ofNat 51, Char.ofNat 47, Char.ofNat 108, Char.ofNat 97, Char.ofNat 119, Char.ofNat 115, Char.ofNat 46, Char.ofNat 70, Char.ofNat 110, Char.ofNat 69, Char.ofNat 120, Char.ofNat 97, Char.ofNat 99, Char.ofNat 116, Char.ofNat 71, Char.ofNat 114, Char.ofNat 111, Char.ofNat 119, Char.ofNat 80, Char.ofNat 97, Char.ofNat 116, Char.ofNat 104]
set_option maxRecDepth 100000 in
theorem initOrder_lit : Try.pinned.checked.prog.initOrder = "harness 2030bd7aaa6f326128d74bbc92777a6f2b658087ac5cca4802849e451c912101 cut at loop.example/g00233/laws.FnExactConstants loop.example/g00233/laws.FnExactHexOf loop.example/g00233/laws.FnExactUnHex loop.example/g00233/laws.FnExactGetNum loop.example/g00233/laws.FnExactPadded loop.example/g00233/laws.FnExactGetText loop.example/g00233/laws.FnExactPutNum loop.example/g00233/laws.FnExactPutText loop.example/g00233/laws.FnNums loop.example/g00233/laws.FnExactEdgeOk loop.example/g00233/laws.FnExactPutTexts loop.example/g00233/laws.FnTexts loop.example/g00233/laws.FnExactGetTexts loop.example/g00233/laws.FnRoots loop.example/g00233/laws.FnExactLeafHash loop.example/g00233/laws.FnExactNodeHash loop.example/g00233/laws.FnExactDigest loop.example/g00233/laws.FnPaths loop.example/g00233/laws.FnGrown loop.example/g00233/laws.FnExactRootOf loop.example/g00233/laws.FnDigests loop.example/g00233/laws.FnExactCheckIn loop.example/g00233/laws.FnExactCheckGrow loop.example/g00233/laws.FnExactInPath loop.example/g00233/laws.FnExactGrowPath" := by kernel_rfl
set_option maxRecDepth 100000 in
theorem lit_list : ("harness 2030bd7aaa6f326128d74bbc92777a6f2b658087ac5cca4802849e451c912101 cut at loop.example/g00233/laws.FnExactConstants loop.example/g00233/laws.FnExactHexOf loop.example/g00233/laws.FnExactUnHex loop.example/g00233/laws.FnExactGetNum loop.example/g00233/laws.FnExactPadded loop.example/g00233/laws.FnExactGetText loop.example/g00233/laws.FnExactPutNum loop.example/g00233/laws.FnExactPutText loop.example/g00233/laws.FnNums loop.example/g00233/laws.FnExactEdgeOk loop.example/g00233/laws.FnExactPutTexts loop.example/g00233/laws.FnTexts loop.example/g00233/laws.FnExactGetTexts loop.example/g00233/laws.FnRoots loop.example/g00233/laws.FnExactLeafHash loop.example/g00233/laws.FnExactNodeHash loop.example/g00233/laws.FnExactDigest loop.example/g00233/laws.FnPaths loop.example/g00233/laws.FnGrown loop.example/g00233/laws.FnExactRootOf loop.example/g00233/laws.FnDigests loop.example/g00233/laws.FnExactCheckIn loop.example/g00233/laws.FnExactCheckGrow loop.example/g00233/laws.FnExactInPath loop.example/g00233/laws.FnExactGrowPath" : String) = String.ofList (Char.ofNat 104 :: Char.ofNat 97 :: Char.ofNat 114 :: Char.ofNat 110 :: Char.ofNat 101 :: Char.ofNat 115 :: Char.ofNat 115 :: Char.ofNat 32 :: Char.ofNat 50 :: Char.ofNat 48 :: Char.ofNat 51 :: Char.ofNat 48 :: Char.ofNat 98 :: Char.ofNat 100 :: Char.ofNat 55 :: Char.ofNat 97 :: Char.ofNat 97 :: Char.ofNat 97 :: Char.ofNat 54 :: Char.ofNat 102 :: Char.ofNat 51 :: Char.ofNat 50 :: Char.ofNat 54 :: Char.ofNat 49 :: Char.ofNat 50 :: Char.ofNat 56 :: Char.ofNat 100 :: Char.ofNat 55 :: Char.ofNat 52 :: Char.ofNat 98 :: Char.ofNat 98 :: Char.ofNat 99 :: Char.ofNat 57 :: Char.ofNat 50 :: Char.ofNat 55 :: Char.ofNat 55 :: Char.ofNat 55 :: Char.ofNat 97 :: Char.ofNat 54 :: Char.ofNat 102 :: Char.ofNat 50 :: Char.ofNat 98 :: Char.ofNat 54 :: Char.ofNat 53 :: Char.ofNat 56 :: Char.ofNat 48 :: Char.ofNat 56 :: Char.ofNat 55 :: Char.ofNat 97 :: Char.ofNat 99 :: Char.ofNat 53 :: Char.ofNat 99 :: Char.ofNat 99 :: Char.ofNat 97 :: Char.ofNat 52 :: Char.ofNat 56 :: Char.ofNat 48 :: Char.ofNat 50 :: Char.ofNat 56 :: Char.ofNat 52 :: Char.ofNat 57 :: Char.ofNat 101 :: Char.ofNat 52 :: Char.ofNat 53 :: Char.ofNat 49 :: Char.ofNat 99 :: Char.ofNat 57 :: Char.ofNat 49 :: Char.ofNat 50 :: Char.ofNat 49 :: Char.ofNat 48 :: Char.ofNat 49 :: Char.ofNat 32 :: Char.ofNat 99 :: Char.ofNat 117 :: Char.ofNat 116 :: Char.ofNat 32 :: Char.ofNat 97 :: Char.ofNat 116 :: Char.ofNat 32 :: tailSigns) := by kernel_rfl
theorem initOrder_list : Try.pinned.checked.prog.initOrder.toList = Char.ofNat 104 :: Char.ofNat 97 :: Char.ofNat 114 :: Char.ofNat 110 :: Char.ofNat 101 :: Char.ofNat 115 :: Char.ofNat 115 :: Char.ofNat 32 :: Char.ofNat 50 :: Char.ofNat 48 :: Char.ofNat 51 :: Char.ofNat 48 :: Char.ofNat 98 :: Char.ofNat 100 :: Char.ofNat 55 :: Char.ofNat 97 :: Char.ofNat 97 :: Char.ofNat 97 :: Char.ofNat 54 :: Char.ofNat 102 :: Char.ofNat 51 :: Char.ofNat 50 :: Char.ofNat 54 :: Char.ofNat 49 :: Char.ofNat 50 :: Char.ofNat 56 :: Char.ofNat 100 :: Char.ofNat 55 :: Char.ofNat 52 :: Char.ofNat 98 :: Char.ofNat 98 :: Char.ofNat 99 :: Char.ofNat 57 :: Char.ofNat 50 :: Char.ofNat 55 :: Char.ofNat 55 :: Char.ofNat 55 :: Char.ofNat 97 :: Char.ofNat 54 :: Char.ofNat 102 :: Char.ofNat 50 :: Char.ofNat 98 :: Char.ofNat 54 :: Char.ofNat 53 :: Char.ofNat 56 :: Char.ofNat 48 :: Char.ofNat 56 :: Char.ofNat 55 :: Char.ofNat 97 :: Char.ofNat 99 :: Char.ofNat 53 :: Char.ofNat 99 :: Char.ofNat 99 :: Char.ofNat 97 :: Char.ofNat 52 :: Char.ofNat 56 :: Char.ofNat 48 :: Char.ofNat 50 :: Char.ofNat 56 :: Char.ofNat 52 :: Char.ofNat 57 :: Char.ofNat 101 :: Char.ofNat 52 :: Char.ofNat 53 :: Char.ofNat 49 :: Char.ofNat 99 :: Char.ofNat 57 :: Char.ofNat 49 :: Char.ofNat 50 :: Char.ofNat 49 :: Char.ofNat 48 :: Char.ofNat 49 :: Char.ofNat 32 :: Char.ofNat 99 :: Char.ofNat 117 :: Char.ofNat 116 :: Char.ofNat 32 :: Char.ofNat 97 :: Char.ofNat 116 :: Char.ofNat 32 :: tailSigns := (congrArg String.toList (initOrder_lit.trans lit_list)).trans String.toList_ofList
theorem words_at (r : List Char) : wordsSigns (Char.ofNat 104 :: Char.ofNat 97 :: Char.ofNat 114 :: Char.ofNat 110 :: Char.ofNat 101 :: Char.ofNat 115 :: Char.ofNat 115 :: Char.ofNat 32 :: Char.ofNat 50 :: Char.ofNat 48 :: Char.ofNat 51 :: Char.ofNat 48 :: Char.ofNat 98 :: Char.ofNat 100 :: Char.ofNat 55 :: Char.ofNat 97 :: Char.ofNat 97 :: Char.ofNat 97 :: Char.ofNat 54 :: Char.ofNat 102 :: Char.ofNat 51 :: Char.ofNat 50 :: Char.ofNat 54 :: Char.ofNat 49 :: Char.ofNat 50 :: Char.ofNat 56 :: Char.ofNat 100 :: Char.ofNat 55 :: Char.ofNat 52 :: Char.ofNat 98 :: Char.ofNat 98 :: Char.ofNat 99 :: Char.ofNat 57 :: Char.ofNat 50 :: Char.ofNat 55 :: Char.ofNat 55 :: Char.ofNat 55 :: Char.ofNat 97 :: Char.ofNat 54 :: Char.ofNat 102 :: Char.ofNat 50 :: Char.ofNat 98 :: Char.ofNat 54 :: Char.ofNat 53 :: Char.ofNat 56 :: Char.ofNat 48 :: Char.ofNat 56 :: Char.ofNat 55 :: Char.ofNat 97 :: Char.ofNat 99 :: Char.ofNat 53 :: Char.ofNat 99 :: Char.ofNat 99 :: Char.ofNat 97 :: Char.ofNat 52 :: Char.ofNat 56 :: Char.ofNat 48 :: Char.ofNat 50 :: Char.ofNat 56 :: Char.ofNat 52 :: Char.ofNat 57 :: Char.ofNat 101 :: Char.ofNat 52 :: Char.ofNat 53 :: Char.ofNat 49 :: Char.ofNat 99 :: Char.ofNat 57 :: Char.ofNat 49 :: Char.ofNat 50 :: Char.ofNat 49 :: Char.ofNat 48 :: Char.ofNat 49 :: Char.ofNat 32 :: Char.ofNat 99 :: Char.ofNat 117 :: Char.ofNat 116 :: Char.ofNat 32 :: Char.ofNat 97 :: Char.ofNat 116 :: Char.ofNat 32 :: r) = [Char.ofNat 104, Char.ofNat 97, Char.ofNat 114, Char.ofNat 110, Char.ofNat 101, Char.ofNat 115, Char.ofNat 115] :: [Char.ofNat 50, Char.ofNat 48, Char.ofNat 51, Char.ofNat 48, Char.ofNat 98, Char.ofNat 100, Char.ofNat 55, Char.ofNat 97, Char.ofNat 97, Char.ofNat 97, Char.ofNat 54, Char.ofNat 102, Char.ofNat 51, Char.ofNat 50, Char.ofNat 54, Char.ofNat 49, Char.ofNat 50, Char.ofNat 56, Char.ofNat 100, Char.ofNat 55, Char.ofNat 52, Char.ofNat 98, Char.ofNat 98, Char.ofNat 99, Char.ofNat 57, Char.ofNat 50, Char.ofNat 55, Char.ofNat 55, Char.ofNat 55, Char.ofNat 97, Char.ofNat 54, Char.ofNat 102, Char.ofNat 50, Char.ofNat 98, Char.ofNat 54, Char.ofNat 53, Char.ofNat 56, Char.ofNat 48, Char.ofNat 56, Char.ofNat 55, Char.ofNat 97, Char.ofNat 99, Char.ofNat 53, Char.ofNat 99, Char.ofNat 99, Char.ofNat 97, Char.ofNat 52, Char.ofNat 56, Char.ofNat 48, Char.ofNat 50, Char.ofNat 56, Char.ofNat 52, Char.ofNat 57, Char.ofNat 101, Char.ofNat 52, Char.ofNat 53, Char.ofNat 49, Char.ofNat 99, Char.ofNat 57, Char.ofNat 49, Char.ofNat 50, Char.ofNat 49, Char.ofNat 48, Char.ofNat 49] :: [Char.ofNat 99, Char.ofNat 117, Char.ofNat 116] :: [Char.ofNat 97, Char.ofNat 116] :: wordsSigns r := by kernel_rfl
theorem behind_at (t : List (List Char)) : behindMainWord ([Char.ofNat 104, Char.ofNat 97, Char.ofNat 114, Char.ofNat 110, Char.ofNat 101, Char.ofNat 115, Char.ofNat 115] :: [Char.ofNat 50, Char.ofNat 48, Char.ofNat 51, Char.ofNat 48, Char.ofNat 98, Char.ofNat 100, Char.ofNat 55, Char.ofNat 97, Char.ofNat 97, Char.ofNat 97, Char.ofNat 54, Char.ofNat 102, Char.ofNat 51, Char.ofNat 50, Char.ofNat 54, Char.ofNat 49, Char.ofNat 50, Char.ofNat 56, Char.ofNat 100, Char.ofNat 55, Char.ofNat 52, Char.ofNat 98, Char.ofNat 98, Char.ofNat 99, Char.ofNat 57, Char.ofNat 50, Char.ofNat 55, Char.ofNat 55, Char.ofNat 55, Char.ofNat 97, Char.ofNat 54, Char.ofNat 102, Char.ofNat 50, Char.ofNat 98, Char.ofNat 54, Char.ofNat 53, Char.ofNat 56, Char.ofNat 48, Char.ofNat 56, Char.ofNat 55, Char.ofNat 97, Char.ofNat 99, Char.ofNat 53, Char.ofNat 99, Char.ofNat 99, Char.ofNat 97, Char.ofNat 52, Char.ofNat 56, Char.ofNat 48, Char.ofNat 50, Char.ofNat 56, Char.ofNat 52, Char.ofNat 57, Char.ofNat 101, Char.ofNat 52, Char.ofNat 53, Char.ofNat 49, Char.ofNat 99, Char.ofNat 57, Char.ofNat 49, Char.ofNat 50, Char.ofNat 49, Char.ofNat 48, Char.ofNat 49] :: [Char.ofNat 99, Char.ofNat 117, Char.ofNat 116] :: [Char.ofNat 97, Char.ofNat 116] :: t) = [Char.ofNat 99, Char.ofNat 117, Char.ofNat 116] :: [Char.ofNat 97, Char.ofNat 116] :: t := by kernel_rfl
theorem behind_all : behindMainWord (wordsSigns Try.pinned.checked.prog.initOrder.toList) = [Char.ofNat 99, Char.ofNat 117, Char.ofNat 116] :: [Char.ofNat 97, Char.ofNat 116] :: wordsSigns tailSigns := by rw [initOrder_list, words_at, behind_at]
theorem make_of (c : List Char) (rest : List (List Char)) (P : Program) (h0 : (c == "gc".toList) = false) (h1 : (c == "spec".toList) = false) (h2 : (c == "cut".toList) = true) (h : behindMainWord (wordsSigns P.initOrder.toList) = c :: rest) : P.make = some .cut := by
  unfold Program.make
  rw [h]
  simp only [h0, h1, h2]
  rfl
theorem mayEnter_of (c : List Char) (rest : List (List Char)) (P : Program) (h0 : (c == "gc".toList) = false) (h1 : (c == "spec".toList) = false) (h2 : (c == "carried".toList) = false) (h : behindMainWord (wordsSigns P.initOrder.toList) = c :: rest)
    (h3 : ((stripLifts liftWords (c :: rest)).2.head? == some "cut".toList) = true) (h4 : P.laysLater = false) (h5 : P.bearsReflect = false) (h6 : P.doorFits (stripLifts liftWords (c :: rest)).1 = true) (h7 : (stripLifts liftWords (c :: rest)).1.contains "leanrows" = false) : P.mayEnter = true := by
  unfold Program.mayEnter
  rw [h]
  simp only [h0, h1, h2, h3, h4, h5, h6, h7]
  simp
theorem liftsFinal_of (c : List Char) (rest : List (List Char)) (P : Program) (h2 : (some c == some "carried".toList) = false) (h : behindMainWord (wordsSigns P.initOrder.toList) = c :: rest)
    (h3 : ((stripLifts liftWords (c :: rest)).2.head? == some "cut".toList) = true) (h7 : (stripLifts liftWords (c :: rest)).1.contains "finals" = false) : P.liftsFinal = false := by
  unfold Program.liftsFinal Program.headLifts
  rw [h]
  simp only [List.head?_cons, h2, h3, if_true, h7, Bool.false_and, Bool.or_self]
theorem strip_at (t : List (List Char)) : stripLifts liftWords ([Char.ofNat 99, Char.ofNat 117, Char.ofNat 116] :: [Char.ofNat 97, Char.ofNat 116] :: t) = ([], [Char.ofNat 99, Char.ofNat 117, Char.ofNat 116] :: [Char.ofNat 97, Char.ofNat 116] :: t) := by kernel_rfl
theorem laysLater_at : Try.pinned.checked.prog.laysLater = false := by kernel_rfl
theorem bearsReflect_at : Try.pinned.checked.prog.bearsReflect = false := by kernel_rfl
theorem doorFits_at : Try.pinned.checked.prog.doorFits [] = true := by kernel_rfl
theorem mayEnter_at : Try.pinned.checked.prog.mayEnter = true :=
  mayEnter_of _ _ _ (by kernel_rfl) (by kernel_rfl) (by kernel_rfl) behind_all (by rw [strip_at]; generalize wordsSigns tailSigns = t; kernel_rfl) laysLater_at bearsReflect_at (by rw [strip_at]; exact doorFits_at) (by rw [strip_at]; rfl)
theorem liftsFinal_at : Try.pinned.checked.prog.liftsFinal = false :=
  liftsFinal_of _ _ _ (by kernel_rfl) behind_all (by rw [strip_at]; generalize wordsSigns tailSigns = t; kernel_rfl) (by rw [strip_at]; rfl)
theorem make_at : Try.pinned.checked.prog.make = some .cut := make_of _ _ _ (by kernel_rfl) (by kernel_rfl) (by kernel_rfl) behind_all
end Go.Proofs.Ytmkhhnfmahdijaa.Y
