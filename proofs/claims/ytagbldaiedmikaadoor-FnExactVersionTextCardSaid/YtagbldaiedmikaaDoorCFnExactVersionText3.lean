/- The law FnExactVersionText, as a plain statement: the program's VersionText answers as the reference's. Conditions: those of the row's reading alone. -/
/- Part 4 of 7 of this claim's texts. -/
import Derived.Test.YtagbldaiedmikaaDoorWWords
import Derived.Test.YtagbldaiedmikaaDoorWMore
import Derived.Laws.BitsLemmas
import Derived.Test.YtagbldaiedmikaaDoorCFnExactVersionText0
import Derived.Test.YtagbldaiedmikaaDoorCFnExactVersionText1
import Derived.Test.YtagbldaiedmikaaDoorCFnExactVersionText2
namespace Go.Proofs.YtagbldaiedmikaaDoor.X
open Go.RowKit Go.Proofs.YtagbldaiedmikaaDoorW.PrintWords Go.Proofs.YtagbldaiedmikaaDoorW.PrintLast Go.Proofs.YtagbldaiedmikaaDoorW.PrintMore
attribute [local go_sem] max2_int min2_int max_two min_two max_three min_three max_four min_four   -- for this text's walks alone
set_option linter.unusedVariables false
set_option linter.unusedSimpArgs false

/-! ### impl_VersionOk: function 20 (by hand) -/
def impl_VersionOk.l0 : Nat → List ByteArray → Int → Option (Bool)
  | 0, _, _ => none
  | k + 1, l, i => if i < (l.length : Int) then (if 0 ≤ i then ((impl_partOk.f k (rdOf ByteArray.empty l i)).bind fun t => (if t = true then (impl_VersionOk.l0 k l (wrap64 (i + 1))) else (some false))) else (none)) else (some (decide ((l.length : Int) ≤ 4)))
def impl_VersionOk.f0 (k : Nat) (p : ByteArray) : Option (Bool) := if p.toList = ([] : List UInt8) then (some true) else ((strings_Split.f p (⟨#[46]⟩ : ByteArray)).bind fun l => (impl_VersionOk.l0 k l 0))
def impl_VersionOk.f1 (k : Nat) (c : Int) (p : ByteArray) : Option (Bool) := (impl_inRange.f c 0 1000000).bind fun t => (if t = true then (impl_VersionOk.f0 k p) else (some false))
def impl_VersionOk.f2 (k : Nat) (b c : Int) (p : ByteArray) : Option (Bool) := (impl_inRange.f b 0 1000000).bind fun t => (if t = true then (impl_VersionOk.f1 k c p) else (some false))
def impl_VersionOk.f (k : Nat) (a b c : Int) (p : ByteArray) : Option (Bool) := (impl_inRange.f a 0 1000000).bind fun t => (if t = true then (impl_VersionOk.f2 k b c p) else (some false))
theorem impl_VersionOk.mono_l : ∀ k, (∀ y0 y1, LeO (impl_VersionOk.l0 k y0 y1) (impl_VersionOk.l0 (k + 1) y0 y1))
  | 0 => fun _ _ r h => by simp [impl_VersionOk.l0] at h
  | k + 1 => by
    have ih0 := impl_VersionOk.mono_l k
    · intro y0 y1
      unfold impl_VersionOk.l0
      repeat' first
      | (with_reducible exact ih0 _ _)
      | (with_reducible exact impl_partOk.mono _ _)
      | (with_reducible exact LeO.refl _)
      | (with_reducible exact LeO.none _)
      | (with_reducible refine LeO.ite ?_ ?_)
      | (with_reducible refine LeO.bind ?_ (fun _ => ?_))
theorem impl_VersionOk.mono : ∀ a0 a1 a2 a3 k, LeO (impl_VersionOk.f k a0 a1 a2 a3) (impl_VersionOk.f (k + 1) a0 a1 a2 a3) := by
  intro a0 a1 a2 a3 k
  have ih0 := impl_VersionOk.mono_l k
  unfold impl_VersionOk.f impl_VersionOk.f2 impl_VersionOk.f1 impl_VersionOk.f0
  repeat' first
      | (with_reducible exact ih0 _ _)
      | (with_reducible exact LeO.refl _)
      | (with_reducible exact LeO.none _)
      | (with_reducible refine LeO.ite ?_ ?_)
      | (with_reducible refine LeO.bind ?_ (fun _ => ?_))
theorem cell_drewN_ (w : World) (n : Nat) (a : Addr) : (w.drewN n).cell? a = w.cell? a := by
  induction n generalizing w with
  | zero => rfl
  | succ n ih => exact ih _
set_option maxHeartbeats 8000000 in
set_option maxRecDepth 100000 in
theorem impl_VersionOk.calls (k : Nat) (a0_0 : Int) (a0_1 : Int) (a0_2 : Int) (a0_3 : ByteArray) (r : Bool) (w : World) (h : impl_VersionOk.f k a0_0 a0_1 a0_2 a0_3 = some r) :
    Calls Tryd.prog 20 #[.agg #[.int .i64 a0_0, .int .i64 a0_1, .int .i64 a0_2, .string a0_3]] w fun e w' => e = .returned (.bool r) ∧ Below w.heap.size w w' := by
  have HB := Aside0.mk (Below.refl w.heap.size w)
  have H' := Aside0.mk h
  clear h
  have ix0 : ∀ W, (Instr.index 57 (.agg #[.int .i64 a0_0, .int .i64 a0_1, .int .i64 a0_2]) (.int .i64 0)).run Tryd.prog W = .ok (.int .i64 a0_0) W := fun W => by simp [Instr.index, run_underlying Tryd.underlying57, asIntOf, go_sem]
  have ix1 : ∀ W, (Instr.index 57 (.agg #[.int .i64 a0_0, .int .i64 a0_1, .int .i64 a0_2]) (.int .i64 1)).run Tryd.prog W = .ok (.int .i64 a0_1) W := fun W => by simp [Instr.index, run_underlying Tryd.underlying57, asIntOf, go_sem]
  have ix2 : ∀ W, (Instr.index 57 (.agg #[.int .i64 a0_0, .int .i64 a0_1, .int .i64 a0_2]) (.int .i64 2)).run Tryd.prog W = .ok (.int .i64 a0_2) W := fun W => by simp [Instr.index, run_underlying Tryd.underlying57, asIntOf, go_sem]
  have hu27 := Tryd.underlying27
  go_enter Tryd.func20, Tryd.ntmps20
  go_wp2
  obtain ⟨W1, hW1⟩ : ∃ W1, W1 = w.alloc (Obj.cells #[Value.int IntKind.i64 a0_0, Value.int IntKind.i64 a0_1, Value.int IntKind.i64 a0_2, Value.string a0_3] 27) := ⟨_, rfl⟩
  have hc3 : W1.cell? ⟨w.heap.size, 3, none⟩ = some (.string a0_3) := by rw [hW1]; exact (World.cell?_alloc_at (hn := rfl) ..).trans rfl
  have HB1 := Aside0.mk (show Below w.heap.size w W1 by rw [hW1]; exact (Below.refl _ _).alloc (Nat.le_refl _) _)
  rw [← hW1]
  clear hW1 HB
  go_loopw [15] (fun v15 wr => ∃ (i : Nat), v15 = .int .i64 (i : Int) ∧ i ≤ 3 ∧ wr.cell? ⟨w.heap.size, 3, none⟩ = some (.string a0_3) ∧ Aside0 (Below w.heap.size w wr) ∧ Aside0 (i = 0 ∧ impl_VersionOk.f k a0_0 a0_1 a0_2 a0_3 = some r ∨ i = 1 ∧ impl_VersionOk.f2 k a0_1 a0_2 a0_3 = some r ∨ i = 2 ∧ impl_VersionOk.f1 k a0_2 a0_3 = some r ∨ i = 3 ∧ impl_VersionOk.f0 k a0_3 = some r))
    (fun v15 _ => 3 - (intOf v15).toNat)
  case atStart => exact ⟨0, rfl, by omega, hc3, HB1, ⟨.inl ⟨rfl, H'.out⟩⟩⟩
  case round =>
    clear H' hc3 HB1
    obtain ⟨i, rfl, hi, hc3, HB, HA⟩ := hrel
    rcases HA.out with ⟨rfl, h⟩ | ⟨rfl, h⟩ | ⟨rfl, h⟩ | ⟨rfl, h⟩
    · obtain ⟨t, A1, h2⟩ := Option.bind_eq_some_iff.mp h
      have A10 := Aside0.mk A1
      clear A1 HA h
      cases t with
      | true =>
        have HT := Aside0.mk h2
        clear h2
        go_wp2_with (go_at_call 49; refine (impl_inRange.calls a0_0 0 1000000 true _ A10.out).mono ?_; rintro e w' ⟨rfl, ⟨nd, rfl⟩⟩)
        exact ⟨⟨1, rfl, by omega, (cell_drewN_ _ _ _).trans hc3, ⟨pw_below_drewN HB.out nd⟩, ⟨.inr (.inl ⟨rfl, HT.out⟩)⟩⟩, by decide⟩
      | false =>
        obtain rfl := Option.some.inj h2
        clear h2
        go_wp2_with (go_at_call 49; refine (impl_inRange.calls a0_0 0 1000000 false _ A10.out).mono ?_; rintro e w' ⟨rfl, ⟨nd, rfl⟩⟩)
        go_ret
        exact ⟨rfl, pw_below_drewN HB.out nd⟩
    · obtain ⟨t, A1, h2⟩ := Option.bind_eq_some_iff.mp h
      have A10 := Aside0.mk A1
      clear A1 HA h
      cases t with
      | true =>
        have HT := Aside0.mk h2
        clear h2
        go_wp2_with (go_at_call 49; refine (impl_inRange.calls a0_1 0 1000000 true _ A10.out).mono ?_; rintro e w' ⟨rfl, ⟨nd, rfl⟩⟩)
        exact ⟨⟨2, rfl, by omega, (cell_drewN_ _ _ _).trans hc3, ⟨pw_below_drewN HB.out nd⟩, ⟨.inr (.inr (.inl ⟨rfl, HT.out⟩))⟩⟩, by decide⟩
      | false =>
        obtain rfl := Option.some.inj h2
        clear h2
        go_wp2_with (go_at_call 49; refine (impl_inRange.calls a0_1 0 1000000 false _ A10.out).mono ?_; rintro e w' ⟨rfl, ⟨nd, rfl⟩⟩)
        go_ret
        exact ⟨rfl, pw_below_drewN HB.out nd⟩
    · obtain ⟨t, A1, h2⟩ := Option.bind_eq_some_iff.mp h
      have A10 := Aside0.mk A1
      clear A1 HA h
      cases t with
      | true =>
        have HT := Aside0.mk h2
        clear h2
        go_wp2_with (go_at_call 49; refine (impl_inRange.calls a0_2 0 1000000 true _ A10.out).mono ?_; rintro e w' ⟨rfl, ⟨nd, rfl⟩⟩)
        exact ⟨⟨3, rfl, by omega, (cell_drewN_ _ _ _).trans hc3, ⟨pw_below_drewN HB.out nd⟩, ⟨.inr (.inr (.inr ⟨rfl, HT.out⟩))⟩⟩, by decide⟩
      | false =>
        obtain rfl := Option.some.inj h2
        clear h2
        go_wp2_with (go_at_call 49; refine (impl_inRange.calls a0_2 0 1000000 false _ A10.out).mono ?_; rintro e w' ⟨rfl, ⟨nd, rfl⟩⟩)
        go_ret
        exact ⟨rfl, pw_below_drewN HB.out nd⟩
    · clear HA ix0 ix1 ix2
      have hcn : ∀ n, (wr.drewN n).cell? ⟨w.heap.size, 3, none⟩ = some (.string a0_3) := fun n => (cell_drewN_ _ _ _).trans hc3
      unfold impl_VersionOk.f0 at h
      by_cases c4 : a0_3.toList = ([] : List UInt8)
      · rw [if_pos c4] at h
        obtain rfl := Option.some.inj h
        clear h
        go_wp2
        go_ret
        exact ⟨rfl, HB.out⟩
      · rw [if_neg c4] at h
        have c4b : (a0_3.toList == ([] : List UInt8)) = false := beq_eq_false_iff_ne.2 c4
        obtain ⟨l, A1, h2⟩ := Option.bind_eq_some_iff.mp h
        clear h
        have A2 := Aside0.mk A1
        clear A1
        have H' := Aside0.mk h2
        clear h2
        go_wp2_with (go_at_call 45; refine (strings_Split.calls a0_3 (⟨#[46]⟩ : ByteArray) l _ A2.out).mono ?_; rintro e w3 ⟨v122, rfl, ho0, hb⟩; have n0_ := Aside0.mk (Kd.R_lower ho0 (below_size (by repeat (first | (with_reducible first | exact HB.out | apply below_alloc | apply pw_below_drewN | apply below_drew1) | exact HB.out)))); have n1_ := Aside0.mk (below_step (by repeat (first | (with_reducible first | exact HB.out | apply below_alloc | apply pw_below_drewN | apply below_drew1) | exact HB.out)) hb); clear HB; have HO := n0_; have HB := n1_; clear n0_ n1_; (try clear hb); (try clear ho0); obtain ⟨Ao4, co4, eo4⟩ := Kd.R_slice HO.out; subst eo4)
        clear hc3 hcn c4
        go_loopg [30] k (fun kq v30 w' => ∃ (x_1 : Int), v30 = .int .i64 x_1 ∧ Aside0 (impl_VersionOk.l0 kq l x_1 = some r) ∧ Aside0 (kq ≤ k) ∧ Aside0 (Kd.R Kd.string 9 w' w.heap.size (fun _ => True) (.slice Ao4 l.length co4) l) ∧ Aside0 (Below w.heap.size w w'))
        case atStart => exact ⟨(0), (by first | rfl | (simp; done) | (simp [*]; done)), H', ⟨Nat.le_refl _⟩, ⟨by (with_reducible repeat (first | apply Kd.R_alloc | apply Kd.R_drewN | apply Kd.R_drew)); exact HO.out⟩, ⟨by repeat (first | (with_reducible first | exact HB.out | apply below_alloc | apply pw_below_drewN | apply below_drew1) | exact HB.out)⟩⟩
        case round =>
          clear H' HO HB A2
          obtain ⟨x_1, rfl, HA, HK1, HO, HB⟩ := hrel
          cases gk with
          | zero => exact absurd HA.out (by simp [impl_VersionOk.l0])
          | succ k1 =>
            have H := HA.out
            clear HA
            simp only [impl_VersionOk.l0] at H
            by_cases c5 : x_1 < (l.length : Int)
            · rw [if_pos c5] at H
              have c5b0 : decide (x_1 < (l.length : Int)) = true := decide_eq_true c5
              clear c5
              by_cases c6 : 0 ≤ x_1
              · rw [if_pos c6] at H
                have c6b0 : decide (0 ≤ x_1) = true := decide_eq_true c6
                clear c6
                replace H := Option.bind_eq_some_iff.mp H
                obtain ⟨t125, A80, H⟩ := H
                replace H : (if t125 = true then (impl_VersionOk.l0 k1 l (wrap64 (x_1 + 1))) else (some false)) = some r := H
                have A8 := Aside0.mk A80
                clear A80
                have p124 : 0 ≤ (x_1 : Int) := of_decide_eq_true (by first | (with_reducible assumption) | assumption)
                have q124 : x_1 < (l.length : Int) := of_decide_eq_true (by first | (with_reducible assumption) | assumption)
                obtain ⟨ad124, e124, hx124_0⟩ := Kd.at_string (Kd.R_reads' HO.out).2.2 x_1 p124 q124
                cases e124
                replace p124 := eq_true p124
                replace q124 := eq_true q124
                by_cases c9 : t125 = true
                · subst c9
                  have H1 : (impl_VersionOk.l0 k1 l (wrap64 (x_1 + 1))) = some r := by rw [if_pos rfl] at H; exact H
                  clear H
                  have H' := Aside0.mk H1
                  clear H1
                  go_wp2_with (go_at_call 50; (with_reducible refine (impl_partOk.calls k1 (rdOf ByteArray.empty l x_1) true _ A8.out).mono ?_); rintro e w' ⟨rfl, ⟨nd, rfl⟩⟩)
                  go_roundg k1
                  case measure => have := HK1.out; omega
                  case rel => exact ⟨(wrap64 (x_1 + 1)), (by first | rfl | (simp; done) | (simp [*]; done)), H', ⟨by have := HK1.out; omega⟩, ⟨by (with_reducible repeat (first | apply Kd.R_alloc | apply Kd.R_drewN | apply Kd.R_drew)); exact HO.out⟩, ⟨by repeat (first | (with_reducible first | exact HB.out | apply below_alloc | apply pw_below_drewN | apply below_drew1) | exact HB.out)⟩⟩
                · replace c9 := Bool.eq_false_iff.mpr c9
                  subst c9
                  have H1 : (some false) = some r := by rw [if_neg (show ¬ (false = true) by decide)] at H; exact H
                  clear H
                  obtain rfl := Option.some.inj H1
                  clear H1
                  go_wp2_with (go_at_call 50; (with_reducible refine (impl_partOk.calls k1 (rdOf ByteArray.empty l x_1) false _ A8.out).mono ?_); rintro e w' ⟨rfl, ⟨nd, rfl⟩⟩)
                  go_ret
                  exact ⟨by first | rfl | (simp; done) | (simp [*]; done), by repeat (first | (with_reducible first | exact HB.out | apply below_alloc | apply pw_below_drewN | apply below_drew1) | exact HB.out)⟩
              · rw [if_neg c6] at H
                exact absurd H (by simp)
            · rw [if_neg c5] at H
              have c5b0 : decide (x_1 < (l.length : Int)) = false := decide_eq_false c5
              clear c5
              obtain rfl := Option.some.inj H
              clear H
              go_wp2
              go_ret
              exact ⟨by first | rfl | (simp; done) | (simp [*]; done), by repeat (first | (with_reducible first | exact HB.out | apply below_alloc | apply pw_below_drewN | apply below_drew1) | exact HB.out)⟩

end Go.Proofs.YtagbldaiedmikaaDoor.X

namespace Go.Proofs.YtagbldaiedmikaaDoor.X
open Go.RowKit Go.Proofs.YtagbldaiedmikaaDoorW.PrintWords Go.Proofs.YtagbldaiedmikaaDoorW.PrintLast Go.Proofs.YtagbldaiedmikaaDoorW.PrintMore
attribute [local go_sem] max2_int min2_int max_two min_two max_three min_three max_four min_four   -- for this text's walks alone
set_option linter.unusedVariables false
set_option linter.unusedSimpArgs false

/-! ### impl_VersionText: function 36 -/
def impl_VersionText.f (k : Nat) (a0_0 : Int) (a0_1 : Int) (a0_2 : Int) (a0_3 : ByteArray) : Option (ByteArray) := (impl_VersionOk.f k a0_0 a0_1 a0_2 a0_3).bind fun t572 => (if t572 = true then ((strconv_Itoa.f a0_0).bind fun t573 => (if 1 + t573.size ≤ 9223372036854775807 then (if ((⟨#[118]⟩ : ByteArray) ++ t573).size + 1 ≤ 9223372036854775807 then ((strconv_Itoa.f a0_1).bind fun t574 => (if (((⟨#[118]⟩ : ByteArray) ++ t573) ++ (⟨#[46]⟩ : ByteArray)).size + t574.size ≤ 9223372036854775807 then (if ((((⟨#[118]⟩ : ByteArray) ++ t573) ++ (⟨#[46]⟩ : ByteArray)) ++ t574).size + 1 ≤ 9223372036854775807 then ((strconv_Itoa.f a0_2).bind fun t575 => (if (((((⟨#[118]⟩ : ByteArray) ++ t573) ++ (⟨#[46]⟩ : ByteArray)) ++ t574) ++ (⟨#[46]⟩ : ByteArray)).size + t575.size ≤ 9223372036854775807 then (if a0_3.toList = ([] : List UInt8) then (some ((((((⟨#[118]⟩ : ByteArray) ++ t573) ++ (⟨#[46]⟩ : ByteArray)) ++ t574) ++ (⟨#[46]⟩ : ByteArray)) ++ t575)) else (if 1 + a0_3.size ≤ 9223372036854775807 then (if ((((((⟨#[118]⟩ : ByteArray) ++ t573) ++ (⟨#[46]⟩ : ByteArray)) ++ t574) ++ (⟨#[46]⟩ : ByteArray)) ++ t575).size + ((⟨#[45]⟩ : ByteArray) ++ a0_3).size ≤ 9223372036854775807 then (some (((((((⟨#[118]⟩ : ByteArray) ++ t573) ++ (⟨#[46]⟩ : ByteArray)) ++ t574) ++ (⟨#[46]⟩ : ByteArray)) ++ t575) ++ ((⟨#[45]⟩ : ByteArray) ++ a0_3))) else (none)) else (none))) else (none))) else (none)) else (none))) else (none)) else (none))) else (some (⟨#[]⟩ : ByteArray)))
theorem impl_VersionText.mono : ∀ a0 a1 a2 a3 k, LeO (impl_VersionText.f k a0 a1 a2 a3) (impl_VersionText.f (k + 1) a0 a1 a2 a3) := by
  intro a0 a1 a2 a3 k
  unfold impl_VersionText.f
  repeat' first
      | (with_reducible exact impl_VersionOk.mono _ _ _ _ _)
      | (with_reducible exact LeO.refl _)
      | (with_reducible exact LeO.none _)
      | (with_reducible refine LeO.ite ?_ ?_)
      | (with_reducible refine LeO.bind ?_ (fun _ => ?_))
      | exact impl_VersionOk.mono _ _ _ _ _
      | exact LeO.none _
      | refine LeO.ite ?_ ?_
      | refine LeO.bind ?_ (fun _ => ?_)
def impl_VersionText.T3 : Bool × List (List Nat × List Nat) := (true, [([], []), ([0], [0]), ([1], [1]), ([2], [2]), ([3], [3]), ([], []), ([5], [5]), ([6, 2], [6]), ([4, 7], [4, 7]), ([8], [8]), ([], []), ([10], [10]), ([11, 7], [11]), ([9, 12], [9, 12]), ([13, 12, 0, 1, 2, 3, 4, 5, 6, 7, 8, 9, 10, 11, 12, 13], [13])])
def impl_VersionText.B3 : List Nat := [0, 1, 3, 7, 15, 0, 32, 103, 255, 511, 0, 1024, 3303, 8191, 16383]
theorem impl_VersionText.tab3 : rtab .any (opsOf Tryd.f36 3) = impl_VersionText.T3 := by kernel_rfl
theorem impl_VersionText.bits3 : waitsOk impl_VersionText.T3.2 impl_VersionText.B3 = true := by kernel_rfl
set_option maxHeartbeats 8000000 in
set_option maxRecDepth 100000 in
theorem impl_VersionText.calls (k : Nat) (a0_0 : Int) (a0_1 : Int) (a0_2 : Int) (a0_3 : ByteArray) (r : ByteArray) (w : World) (hG_ : GlobI w) (h : impl_VersionText.f k a0_0 a0_1 a0_2 a0_3 = some r) :
    Calls Tryd.prog 36 #[.agg #[.int .i64 a0_0, .int .i64 a0_1, .int .i64 a0_2, .string a0_3]] w fun e w' => e = .returned (.string r) ∧ Below w.heap.size w w' := by
  have HG_ := Aside0.mk hG_
  clear hG_
  have hu27 := Tryd.underlying27
  have HB := Aside0.mk (Below.refl w.heap.size w)
  have H : ((impl_VersionOk.f k a0_0 a0_1 a0_2 a0_3).bind fun t572 => (if t572 = true then ((strconv_Itoa.f a0_0).bind fun t573 => (if 1 + t573.size ≤ 9223372036854775807 then (if ((⟨#[118]⟩ : ByteArray) ++ t573).size + 1 ≤ 9223372036854775807 then ((strconv_Itoa.f a0_1).bind fun t574 => (if (((⟨#[118]⟩ : ByteArray) ++ t573) ++ (⟨#[46]⟩ : ByteArray)).size + t574.size ≤ 9223372036854775807 then (if ((((⟨#[118]⟩ : ByteArray) ++ t573) ++ (⟨#[46]⟩ : ByteArray)) ++ t574).size + 1 ≤ 9223372036854775807 then ((strconv_Itoa.f a0_2).bind fun t575 => (if (((((⟨#[118]⟩ : ByteArray) ++ t573) ++ (⟨#[46]⟩ : ByteArray)) ++ t574) ++ (⟨#[46]⟩ : ByteArray)).size + t575.size ≤ 9223372036854775807 then (if a0_3.toList = ([] : List UInt8) then (some ((((((⟨#[118]⟩ : ByteArray) ++ t573) ++ (⟨#[46]⟩ : ByteArray)) ++ t574) ++ (⟨#[46]⟩ : ByteArray)) ++ t575)) else (if 1 + a0_3.size ≤ 9223372036854775807 then (if ((((((⟨#[118]⟩ : ByteArray) ++ t573) ++ (⟨#[46]⟩ : ByteArray)) ++ t574) ++ (⟨#[46]⟩ : ByteArray)) ++ t575).size + ((⟨#[45]⟩ : ByteArray) ++ a0_3).size ≤ 9223372036854775807 then (some (((((((⟨#[118]⟩ : ByteArray) ++ t573) ++ (⟨#[46]⟩ : ByteArray)) ++ t574) ++ (⟨#[46]⟩ : ByteArray)) ++ t575) ++ ((⟨#[45]⟩ : ByteArray) ++ a0_3))) else (none)) else (none))) else (none))) else (none)) else (none))) else (none)) else (none))) else (some (⟨#[]⟩ : ByteArray)))) = some r := h
  clear h
  replace H := Option.bind_eq_some_iff.mp H
  obtain ⟨t572, A20, H⟩ := H
  replace H : (if t572 = true then ((strconv_Itoa.f a0_0).bind fun t573 => (if 1 + t573.size ≤ 9223372036854775807 then (if ((⟨#[118]⟩ : ByteArray) ++ t573).size + 1 ≤ 9223372036854775807 then ((strconv_Itoa.f a0_1).bind fun t574 => (if (((⟨#[118]⟩ : ByteArray) ++ t573) ++ (⟨#[46]⟩ : ByteArray)).size + t574.size ≤ 9223372036854775807 then (if ((((⟨#[118]⟩ : ByteArray) ++ t573) ++ (⟨#[46]⟩ : ByteArray)) ++ t574).size + 1 ≤ 9223372036854775807 then ((strconv_Itoa.f a0_2).bind fun t575 => (if (((((⟨#[118]⟩ : ByteArray) ++ t573) ++ (⟨#[46]⟩ : ByteArray)) ++ t574) ++ (⟨#[46]⟩ : ByteArray)).size + t575.size ≤ 9223372036854775807 then (if a0_3.toList = ([] : List UInt8) then (some ((((((⟨#[118]⟩ : ByteArray) ++ t573) ++ (⟨#[46]⟩ : ByteArray)) ++ t574) ++ (⟨#[46]⟩ : ByteArray)) ++ t575)) else (if 1 + a0_3.size ≤ 9223372036854775807 then (if ((((((⟨#[118]⟩ : ByteArray) ++ t573) ++ (⟨#[46]⟩ : ByteArray)) ++ t574) ++ (⟨#[46]⟩ : ByteArray)) ++ t575).size + ((⟨#[45]⟩ : ByteArray) ++ a0_3).size ≤ 9223372036854775807 then (some (((((((⟨#[118]⟩ : ByteArray) ++ t573) ++ (⟨#[46]⟩ : ByteArray)) ++ t574) ++ (⟨#[46]⟩ : ByteArray)) ++ t575) ++ ((⟨#[45]⟩ : ByteArray) ++ a0_3))) else (none)) else (none))) else (none))) else (none)) else (none))) else (none)) else (none))) else (some (⟨#[]⟩ : ByteArray))) = some r := H
  have A2 := Aside0.mk A20
  clear A20
  by_cases c3 : t572 = true
  · subst c3
    have H1 : ((strconv_Itoa.f a0_0).bind fun t573 => (if 1 + t573.size ≤ 9223372036854775807 then (if ((⟨#[118]⟩ : ByteArray) ++ t573).size + 1 ≤ 9223372036854775807 then ((strconv_Itoa.f a0_1).bind fun t574 => (if (((⟨#[118]⟩ : ByteArray) ++ t573) ++ (⟨#[46]⟩ : ByteArray)).size + t574.size ≤ 9223372036854775807 then (if ((((⟨#[118]⟩ : ByteArray) ++ t573) ++ (⟨#[46]⟩ : ByteArray)) ++ t574).size + 1 ≤ 9223372036854775807 then ((strconv_Itoa.f a0_2).bind fun t575 => (if (((((⟨#[118]⟩ : ByteArray) ++ t573) ++ (⟨#[46]⟩ : ByteArray)) ++ t574) ++ (⟨#[46]⟩ : ByteArray)).size + t575.size ≤ 9223372036854775807 then (if a0_3.toList = ([] : List UInt8) then (some ((((((⟨#[118]⟩ : ByteArray) ++ t573) ++ (⟨#[46]⟩ : ByteArray)) ++ t574) ++ (⟨#[46]⟩ : ByteArray)) ++ t575)) else (if 1 + a0_3.size ≤ 9223372036854775807 then (if ((((((⟨#[118]⟩ : ByteArray) ++ t573) ++ (⟨#[46]⟩ : ByteArray)) ++ t574) ++ (⟨#[46]⟩ : ByteArray)) ++ t575).size + ((⟨#[45]⟩ : ByteArray) ++ a0_3).size ≤ 9223372036854775807 then (some (((((((⟨#[118]⟩ : ByteArray) ++ t573) ++ (⟨#[46]⟩ : ByteArray)) ++ t574) ++ (⟨#[46]⟩ : ByteArray)) ++ t575) ++ ((⟨#[45]⟩ : ByteArray) ++ a0_3))) else (none)) else (none))) else (none))) else (none)) else (none))) else (none)) else (none))) = some r := by rw [if_pos rfl] at H; exact H
    clear H
    have H := H1
    clear H1
    replace H := Option.bind_eq_some_iff.mp H
    obtain ⟨t573, A40, H⟩ := H
    replace H : (if 1 + t573.size ≤ 9223372036854775807 then (if ((⟨#[118]⟩ : ByteArray) ++ t573).size + 1 ≤ 9223372036854775807 then ((strconv_Itoa.f a0_1).bind fun t574 => (if (((⟨#[118]⟩ : ByteArray) ++ t573) ++ (⟨#[46]⟩ : ByteArray)).size + t574.size ≤ 9223372036854775807 then (if ((((⟨#[118]⟩ : ByteArray) ++ t573) ++ (⟨#[46]⟩ : ByteArray)) ++ t574).size + 1 ≤ 9223372036854775807 then ((strconv_Itoa.f a0_2).bind fun t575 => (if (((((⟨#[118]⟩ : ByteArray) ++ t573) ++ (⟨#[46]⟩ : ByteArray)) ++ t574) ++ (⟨#[46]⟩ : ByteArray)).size + t575.size ≤ 9223372036854775807 then (if a0_3.toList = ([] : List UInt8) then (some ((((((⟨#[118]⟩ : ByteArray) ++ t573) ++ (⟨#[46]⟩ : ByteArray)) ++ t574) ++ (⟨#[46]⟩ : ByteArray)) ++ t575)) else (if 1 + a0_3.size ≤ 9223372036854775807 then (if ((((((⟨#[118]⟩ : ByteArray) ++ t573) ++ (⟨#[46]⟩ : ByteArray)) ++ t574) ++ (⟨#[46]⟩ : ByteArray)) ++ t575).size + ((⟨#[45]⟩ : ByteArray) ++ a0_3).size ≤ 9223372036854775807 then (some (((((((⟨#[118]⟩ : ByteArray) ++ t573) ++ (⟨#[46]⟩ : ByteArray)) ++ t574) ++ (⟨#[46]⟩ : ByteArray)) ++ t575) ++ ((⟨#[45]⟩ : ByteArray) ++ a0_3))) else (none)) else (none))) else (none))) else (none)) else (none))) else (none)) else (none)) = some r := H
    have A4 := Aside0.mk A40
    clear A40
    by_cases c5 : 1 + t573.size ≤ 9223372036854775807
    · rw [if_pos c5] at H
      have c5b0 := eq_true c5
      have c5b1 : decide (1 + t573.size ≤ 9223372036854775807) = true := decide_eq_true c5
      try have c5b2 : (9223372036854775807 < 1 + t573.size) = False := eq_false (Nat.not_lt.2 c5)
      by_cases c6 : ((⟨#[118]⟩ : ByteArray) ++ t573).size + 1 ≤ 9223372036854775807
      · rw [if_pos c6] at H
        have c6s0 : (9223372036854775807 < 1 + t573.size + 1) = False := eq_false (Nat.not_lt.2 (by have h_ := c6; simp only [ByteArray.size_append] at h_; exact h_))
        have c6b0 := eq_true c6
        have c6b1 : decide (((⟨#[118]⟩ : ByteArray) ++ t573).size + 1 ≤ 9223372036854775807) = true := decide_eq_true c6
        try have c6b2 : (9223372036854775807 < ((⟨#[118]⟩ : ByteArray) ++ t573).size + 1) = False := eq_false (Nat.not_lt.2 c6)
        replace H := Option.bind_eq_some_iff.mp H
        obtain ⟨t574, A70, H⟩ := H
        replace H : (if (((⟨#[118]⟩ : ByteArray) ++ t573) ++ (⟨#[46]⟩ : ByteArray)).size + t574.size ≤ 9223372036854775807 then (if ((((⟨#[118]⟩ : ByteArray) ++ t573) ++ (⟨#[46]⟩ : ByteArray)) ++ t574).size + 1 ≤ 9223372036854775807 then ((strconv_Itoa.f a0_2).bind fun t575 => (if (((((⟨#[118]⟩ : ByteArray) ++ t573) ++ (⟨#[46]⟩ : ByteArray)) ++ t574) ++ (⟨#[46]⟩ : ByteArray)).size + t575.size ≤ 9223372036854775807 then (if a0_3.toList = ([] : List UInt8) then (some ((((((⟨#[118]⟩ : ByteArray) ++ t573) ++ (⟨#[46]⟩ : ByteArray)) ++ t574) ++ (⟨#[46]⟩ : ByteArray)) ++ t575)) else (if 1 + a0_3.size ≤ 9223372036854775807 then (if ((((((⟨#[118]⟩ : ByteArray) ++ t573) ++ (⟨#[46]⟩ : ByteArray)) ++ t574) ++ (⟨#[46]⟩ : ByteArray)) ++ t575).size + ((⟨#[45]⟩ : ByteArray) ++ a0_3).size ≤ 9223372036854775807 then (some (((((((⟨#[118]⟩ : ByteArray) ++ t573) ++ (⟨#[46]⟩ : ByteArray)) ++ t574) ++ (⟨#[46]⟩ : ByteArray)) ++ t575) ++ ((⟨#[45]⟩ : ByteArray) ++ a0_3))) else (none)) else (none))) else (none))) else (none)) else (none)) = some r := H
        have A7 := Aside0.mk A70
        clear A70
        by_cases c8 : (((⟨#[118]⟩ : ByteArray) ++ t573) ++ (⟨#[46]⟩ : ByteArray)).size + t574.size ≤ 9223372036854775807
        · rw [if_pos c8] at H
          have c8s0 : (9223372036854775807 < 1 + t573.size + 1 + t574.size) = False := eq_false (Nat.not_lt.2 (by have h_ := c8; simp only [ByteArray.size_append] at h_; exact h_))
          have c8b0 := eq_true c8
          have c8b1 : decide ((((⟨#[118]⟩ : ByteArray) ++ t573) ++ (⟨#[46]⟩ : ByteArray)).size + t574.size ≤ 9223372036854775807) = true := decide_eq_true c8
          try have c8b2 : (9223372036854775807 < (((⟨#[118]⟩ : ByteArray) ++ t573) ++ (⟨#[46]⟩ : ByteArray)).size + t574.size) = False := eq_false (Nat.not_lt.2 c8)
          by_cases c9 : ((((⟨#[118]⟩ : ByteArray) ++ t573) ++ (⟨#[46]⟩ : ByteArray)) ++ t574).size + 1 ≤ 9223372036854775807
          · rw [if_pos c9] at H
            have c9s0 : (9223372036854775807 < 1 + t573.size + 1 + t574.size + 1) = False := eq_false (Nat.not_lt.2 (by have h_ := c9; simp only [ByteArray.size_append] at h_; exact h_))
            have c9b0 := eq_true c9
            have c9b1 : decide (((((⟨#[118]⟩ : ByteArray) ++ t573) ++ (⟨#[46]⟩ : ByteArray)) ++ t574).size + 1 ≤ 9223372036854775807) = true := decide_eq_true c9
            try have c9b2 : (9223372036854775807 < ((((⟨#[118]⟩ : ByteArray) ++ t573) ++ (⟨#[46]⟩ : ByteArray)) ++ t574).size + 1) = False := eq_false (Nat.not_lt.2 c9)
            replace H := Option.bind_eq_some_iff.mp H
            obtain ⟨t575, A100, H⟩ := H
            replace H : (if (((((⟨#[118]⟩ : ByteArray) ++ t573) ++ (⟨#[46]⟩ : ByteArray)) ++ t574) ++ (⟨#[46]⟩ : ByteArray)).size + t575.size ≤ 9223372036854775807 then (if a0_3.toList = ([] : List UInt8) then (some ((((((⟨#[118]⟩ : ByteArray) ++ t573) ++ (⟨#[46]⟩ : ByteArray)) ++ t574) ++ (⟨#[46]⟩ : ByteArray)) ++ t575)) else (if 1 + a0_3.size ≤ 9223372036854775807 then (if ((((((⟨#[118]⟩ : ByteArray) ++ t573) ++ (⟨#[46]⟩ : ByteArray)) ++ t574) ++ (⟨#[46]⟩ : ByteArray)) ++ t575).size + ((⟨#[45]⟩ : ByteArray) ++ a0_3).size ≤ 9223372036854775807 then (some (((((((⟨#[118]⟩ : ByteArray) ++ t573) ++ (⟨#[46]⟩ : ByteArray)) ++ t574) ++ (⟨#[46]⟩ : ByteArray)) ++ t575) ++ ((⟨#[45]⟩ : ByteArray) ++ a0_3))) else (none)) else (none))) else (none)) = some r := H
            have A10 := Aside0.mk A100
            clear A100
            by_cases c11 : (((((⟨#[118]⟩ : ByteArray) ++ t573) ++ (⟨#[46]⟩ : ByteArray)) ++ t574) ++ (⟨#[46]⟩ : ByteArray)).size + t575.size ≤ 9223372036854775807
            · rw [if_pos c11] at H
              have c11s0 : (9223372036854775807 < 1 + t573.size + 1 + t574.size + 1 + t575.size) = False := eq_false (Nat.not_lt.2 (by have h_ := c11; simp only [ByteArray.size_append] at h_; exact h_))
              have c11b0 := eq_true c11
              have c11b1 : decide ((((((⟨#[118]⟩ : ByteArray) ++ t573) ++ (⟨#[46]⟩ : ByteArray)) ++ t574) ++ (⟨#[46]⟩ : ByteArray)).size + t575.size ≤ 9223372036854775807) = true := decide_eq_true c11
              try have c11b2 : (9223372036854775807 < (((((⟨#[118]⟩ : ByteArray) ++ t573) ++ (⟨#[46]⟩ : ByteArray)) ++ t574) ++ (⟨#[46]⟩ : ByteArray)).size + t575.size) = False := eq_false (Nat.not_lt.2 c11)
              by_cases c12 : a0_3.toList = ([] : List UInt8)
              · rw [if_pos c12] at H
                have c12b0 : (a0_3.toList == ([] : List UInt8)) = true := beq_iff_eq.mpr c12
                have c12b1 : (a0_3.toList != ([] : List UInt8)) = false := bne_eq_false_iff_eq.mpr c12
                clear c12
                obtain rfl := Option.some.inj H
                go_enter Tryd.func36, Tryd.ntmps36
                try go_wp2_with (first | ((with_reducible refine gate_dst (N := 1) rfl ?_); refine box_event ?hg (N := 1) ?hd (cs := #[.int .i64 a0_0, .int .i64 a0_1, .int .i64 a0_2, .string a0_3]) (t := 27) ?hr ?_; (case hd => rfl); (case hg => rfl); (case hr => first | (go_simp; done) | (go_simp; rfl)); intro gb571 hg w13 hbox hb; have n0_ := Aside0.mk (below_step (by repeat (first | (with_reducible first | exact HB.out | apply below_alloc | apply pw_below_drewN | apply below_drew1) | exact HB.out)) hb); have n1_ := Aside0.mk (hbox); have n2_ := Aside0.mk ((by rw [hg]; exact (below_size (by repeat (first | (with_reducible first | exact HB.out | apply below_alloc | apply pw_below_drewN | apply below_drew1) | exact HB.out))) : w.heap.size ≤ gb571)); have n3_ := Aside0.mk ((by rw [hg]; exact (below_size (by repeat (first | (with_reducible first | exact HB.out | apply below_alloc | apply pw_below_drewN | apply below_drew1) | exact HB.out))) : w.heap.size ≤ gb571)); clear HB; have HB := n0_; have BK571 := n1_; have GW571 := n2_; have GE571 := n3_; clear n0_ n1_ n2_ n3_; clear hb hbox hg; have hcz14_0 : w13.cell? ⟨gb571, 0, none⟩ = some (.int .i64 a0_0) := (blk_cell BK571.out 0).trans rfl; have hcz14_1 : w13.cell? ⟨gb571, 1, none⟩ = some (.int .i64 a0_1) := (blk_cell BK571.out 1).trans rfl; have hcz14_2 : w13.cell? ⟨gb571, 2, none⟩ = some (.int .i64 a0_2) := (blk_cell BK571.out 2).trans rfl; have hcz14_3 : w13.cell? ⟨gb571, 3, none⟩ = some (.string a0_3) := (blk_cell BK571.out 3).trans rfl; have hfz14_0 := blk_frozen BK571.out 0; have hfz14_1 := blk_frozen BK571.out 1; have hfz14_2 := blk_frozen BK571.out 2; have hfz14_3 := blk_frozen BK571.out 3) | ((with_reducible refine gate_callee (f := 20) rfl ?_); refine goesL_ (some 5) rfl rfl Tryd.func20 (by kernel_rfl) rfl #[.agg #[.int .i64 a0_0, .int .i64 a0_1, .int .i64 a0_2, .string a0_3]] rfl (by (try simp only [List.map_toArray, List.map_cons, List.map_nil]); first | done | rfl | (simp only [List.length_drop, List.length_take]; rfl)) ?_; (with_reducible refine (impl_VersionOk.calls k a0_0 a0_1 a0_2 a0_3 true _ A2.out).mono ?_); rintro e w15 ⟨rfl, hb⟩; refine ⟨_, rfl, ?_⟩; have n0_ := Aside0.mk (blk_below (g := gb571) (o := .cells #[.int .i64 a0_0, .int .i64 a0_1, .int .i64 a0_2, .string a0_3] 27 (0, 0)) (by (with_reducible repeat (first | refine blk_drewN ?_ _ | refine blk_drew ?_ | refine blk_alloc ?_ _)); exact BK571.out) hb); have n1_ := Aside0.mk (below_step (by repeat (first | (with_reducible first | exact HB.out | apply below_alloc | apply pw_below_drewN | apply below_drew1 | refine below_set ?_ GE571.out) | exact HB.out)) hb); clear BK571; clear HB; have BK571 := n0_; have HB := n1_; clear n0_ n1_; (try clear hb); (try clear hb2); (try clear hk); (try clear hi)))
                have n0_ := Aside0.mk (blk_drew BK571.out)
                have n1_ := Aside0.mk (below_drew1 HB.out)
                clear BK571
                clear HB
                have BK571 := n0_
                have HB := n1_
                clear n0_ n1_
                refine start_ (n := 15) (S := fun w' => w'.cell? ⟨gb571, 0, none⟩ = some (.int .i64 a0_0) ∧ w'.cell? ⟨gb571, 1, none⟩ = some (.int .i64 a0_1) ∧ w'.cell? ⟨gb571, 2, none⟩ = some (.int .i64 a0_2) ∧ w'.cell? ⟨gb571, 3, none⟩ = some (.string a0_3)) (ds := []) #[false, false, false, false, false, false, false, false, false, false, false, false, false, false, false] (by kernel_rfl) rfl rfl ⟨(blk_cell BK571.out 0).trans rfl, (blk_cell BK571.out 1).trans rfl, (blk_cell BK571.out 2).trans rfl, (blk_cell BK571.out 3).trans rfl⟩ (fun hHeld => ?_); refine with_tabW impl_VersionText.tab3 impl_VersionText.bits3 (fun HT_ HW_ => ?_)
                generalize w15.drew = w16 at BK571 HB hHeld ⊢
                refine pure_ (i := 0) (N := some 7) (v := ?_) (a' := ?_) #[true, false, false, false, false, false, false, false, false, false, false, false, false, false, false] rfl rfl (any_of HT_.out (by kernel_rfl)) (fun _ _ _ h => h) (Or.inl ⟨by rfl, ?_⟩) ?_ ?_
                rotate_left
                · intro w'
                  go_simp
                  with_reducible rfl
                rotate_left
                · simp only [Act.put, List.setIfInBounds_toArray, List.set_cons_zero, List.set_cons_succ, i64_w, i32_w]
                  rfl
                refine pure_ (i := 5) (N := some 12) (v := ?_) (a' := ?_) #[true, false, false, false, false, true, false, false, false, false, false, false, false, false, false] rfl rfl (any_of HT_.out (by kernel_rfl)) (fun _ _ _ h => h) (Or.inl ⟨by rfl, ?_⟩) ?_ ?_
                rotate_left
                · intro w'
                  go_simp
                  with_reducible rfl
                rotate_left
                · simp only [Act.put, List.setIfInBounds_toArray, List.set_cons_zero, List.set_cons_succ, i64_w, i32_w]
                  rfl
                refine pure_ (i := 10) (N := some 17) (v := ?_) (a' := ?_) #[true, false, false, false, false, true, false, false, false, false, true, false, false, false, false] rfl rfl (any_of HT_.out (by kernel_rfl)) (fun _ _ _ h => h) (Or.inl ⟨by rfl, ?_⟩) ?_ ?_
                rotate_left
                · intro w'
                  go_simp
                  with_reducible rfl
                rotate_left
                · simp only [Act.put, List.setIfInBounds_toArray, List.set_cons_zero, List.set_cons_succ, i64_w, i32_w]
                  rfl
                refine take_ (i := 1) (N := some 8) (v := ?_) (a' := ?_) #[true, true, false, false, false, true, false, false, false, false, true, false, false, false, false] rfl rfl (take_ofW HT_.out HW_.out (by kernel_rfl)) (fun _ _ _ h => h) (Or.inl ⟨by rfl, ?_⟩) hHeld ?_ ?_
                rotate_left
                · rintro w' ⟨s0, s1, s2, s3⟩
                  go_simp
                  with_reducible rfl
                rotate_left
                · simp only [Act.put, List.setIfInBounds_toArray, List.set_cons_zero, List.set_cons_succ, i64_w, i32_w]
                  rfl
                refine take_ (i := 6) (N := some 13) (v := ?_) (a' := ?_) #[true, true, false, false, false, true, true, false, false, false, true, false, false, false, false] rfl rfl (take_ofW HT_.out HW_.out (by kernel_rfl)) (fun _ _ _ h => h) (Or.inl ⟨by rfl, ?_⟩) hHeld ?_ ?_
                rotate_left
                · rintro w' ⟨s0, s1, s2, s3⟩
                  go_simp
                  with_reducible rfl
                rotate_left
                · simp only [Act.put, List.setIfInBounds_toArray, List.set_cons_zero, List.set_cons_succ, i64_w, i32_w]
                  rfl
                refine take_ (i := 11) (N := some 18) (v := ?_) (a' := ?_) #[true, true, false, false, false, true, true, false, false, false, true, true, false, false, false] rfl rfl (take_ofW HT_.out HW_.out (by kernel_rfl)) (fun _ _ _ h => h) (Or.inl ⟨by rfl, ?_⟩) hHeld ?_ ?_
                rotate_left
                · rintro w' ⟨s0, s1, s2, s3⟩
                  go_simp
                  with_reducible rfl
                rotate_left
                · simp only [Act.put, List.setIfInBounds_toArray, List.set_cons_zero, List.set_cons_succ, i64_w, i32_w]
                  rfl
                refine one_ (i := 2) (N := some 9) #[true, true, true, false, false, true, true, false, false, false, true, true, false, false, false] rfl rfl (one_of HT_.out (by kernel_rfl)) (by decide) (fun K hK => ?_)
                refine goes_ Tryd.func60 (by kernel_rfl) rfl #[.int .i64 a0_0] (by rfl) rfl rfl (by (try simp only [List.map_toArray, List.map_cons, List.map_nil]); first | done | rfl | (simp only [List.length_drop, List.length_take]; rfl)) ?_
                with_reducible refine (strconv_Itoa.calls (hG_ := globI_on HG_.out (by repeat (first | (with_reducible first | exact HB.out | apply below_alloc | apply pw_below_drewN | apply below_drew1) | exact HB.out))) a0_0 t573 _ A4.out).mono ?_
                rintro e w17 ⟨rfl, hb⟩
                refine ⟨_, rfl, ?_⟩
                have n0_ := Aside0.mk (blk_below (g := gb571) (o := .cells #[.int .i64 a0_0, .int .i64 a0_1, .int .i64 a0_2, .string a0_3] 27 (0, 0)) (by (with_reducible repeat (first | refine blk_drewN ?_ _ | refine blk_drew ?_ | refine blk_alloc ?_ _)); exact BK571.out) hb)
                have n1_ := Aside0.mk (below_step (by repeat (first | (with_reducible first | exact HB.out | apply below_alloc | apply pw_below_drewN | apply below_drew1 | refine below_set ?_ GE571.out) | exact HB.out)) hb)
                clear BK571
                clear HB
                have BK571 := n0_
                have HB := n1_
                clear n0_ n1_
                (try clear hb)
                (try clear hb2)
                (try clear hk)
                (try clear hi)
                refine hK.out _ _ ⟨(blk_cell BK571.out 0).trans rfl, (blk_cell BK571.out 1).trans rfl, (blk_cell BK571.out 2).trans rfl, (blk_cell BK571.out 3).trans rfl⟩ (fun hHeld => ?_)
                clear hK K
                refine norm_ (a' := ?_) ?_ ?_
                rotate_left
                · show Act.put _ (some 9) _ = _
                  simp only [Act.put, List.setIfInBounds_toArray, List.set_cons_zero, List.set_cons_succ, i64_w, i32_w]
                  rfl
                refine pure_ (i := 3) (N := some 10) (v := ?_) (a' := ?_) #[true, true, true, true, false, true, true, false, false, false, true, true, false, false, false] rfl rfl (any_of HT_.out (by kernel_rfl)) (fun _ _ _ h => h) (Or.inl ⟨by rfl, ?_⟩) ?_ ?_
                rotate_left
                · intro w'
                  go_simp
                  with_reducible rfl
                rotate_left
                · simp only [Act.put, List.setIfInBounds_toArray, List.set_cons_zero, List.set_cons_succ, i64_w, i32_w]
                  rfl
                refine pure_ (i := 4) (N := some 11) (v := ?_) (a' := ?_) #[true, true, true, true, true, true, true, false, false, false, true, true, false, false, false] rfl rfl (any_of HT_.out (by kernel_rfl)) (fun _ _ _ h => h) (Or.inl ⟨by rfl, ?_⟩) ?_ ?_
                rotate_left
                · intro w'
                  go_simp
                  with_reducible rfl
                rotate_left
                · simp only [Act.put, List.setIfInBounds_toArray, List.set_cons_zero, List.set_cons_succ, i64_w, i32_w]
                  rfl
                refine one_ (i := 7) (N := some 14) #[true, true, true, true, true, true, true, true, false, false, true, true, false, false, false] rfl rfl (one_of HT_.out (by kernel_rfl)) (by decide) (fun K hK => ?_)
                refine goes_ Tryd.func60 (by kernel_rfl) rfl #[.int .i64 a0_1] (by rfl) rfl rfl (by (try simp only [List.map_toArray, List.map_cons, List.map_nil]); first | done | rfl | (simp only [List.length_drop, List.length_take]; rfl)) ?_
                with_reducible refine (strconv_Itoa.calls (hG_ := globI_on HG_.out (by repeat (first | (with_reducible first | exact HB.out | apply below_alloc | apply pw_below_drewN | apply below_drew1) | exact HB.out))) a0_1 t574 _ A7.out).mono ?_
                rintro e w18 ⟨rfl, hb⟩
                refine ⟨_, rfl, ?_⟩
                have n0_ := Aside0.mk (blk_below (g := gb571) (o := .cells #[.int .i64 a0_0, .int .i64 a0_1, .int .i64 a0_2, .string a0_3] 27 (0, 0)) (by (with_reducible repeat (first | refine blk_drewN ?_ _ | refine blk_drew ?_ | refine blk_alloc ?_ _)); exact BK571.out) hb)
                have n1_ := Aside0.mk (below_step (by repeat (first | (with_reducible first | exact HB.out | apply below_alloc | apply pw_below_drewN | apply below_drew1 | refine below_set ?_ GE571.out) | exact HB.out)) hb)
                clear BK571
                clear HB
                have BK571 := n0_
                have HB := n1_
                clear n0_ n1_
                (try clear hb)
                (try clear hb2)
                (try clear hk)
                (try clear hi)
                refine hK.out _ _ ⟨(blk_cell BK571.out 0).trans rfl, (blk_cell BK571.out 1).trans rfl, (blk_cell BK571.out 2).trans rfl, (blk_cell BK571.out 3).trans rfl⟩ (fun hHeld => ?_)
                clear hK K
                refine norm_ (a' := ?_) ?_ ?_
                rotate_left
                · show Act.put _ (some 14) _ = _
                  simp only [Act.put, List.setIfInBounds_toArray, List.set_cons_zero, List.set_cons_succ, i64_w, i32_w]
                  rfl
                refine pure_ (i := 8) (N := some 15) (v := ?_) (a' := ?_) #[true, true, true, true, true, true, true, true, true, false, true, true, false, false, false] rfl rfl (any_of HT_.out (by kernel_rfl)) (fun _ _ _ h => h) (Or.inl ⟨by rfl, ?_⟩) ?_ ?_
                rotate_left
                · intro w'
                  go_simp
                  with_reducible rfl
                rotate_left
                · simp only [Act.put, List.setIfInBounds_toArray, List.set_cons_zero, List.set_cons_succ, i64_w, i32_w]
                  rfl
                refine pure_ (i := 9) (N := some 16) (v := ?_) (a' := ?_) #[true, true, true, true, true, true, true, true, true, true, true, true, false, false, false] rfl rfl (any_of HT_.out (by kernel_rfl)) (fun _ _ _ h => h) (Or.inl ⟨by rfl, ?_⟩) ?_ ?_
                rotate_left
                · intro w'
                  go_simp
                  with_reducible rfl
                rotate_left
                · simp only [Act.put, List.setIfInBounds_toArray, List.set_cons_zero, List.set_cons_succ, i64_w, i32_w]
                  rfl
                refine one_ (i := 12) (N := some 19) #[true, true, true, true, true, true, true, true, true, true, true, true, true, false, false] rfl rfl (one_of HT_.out (by kernel_rfl)) (by decide) (fun K hK => ?_)
                refine goes_ Tryd.func60 (by kernel_rfl) rfl #[.int .i64 a0_2] (by rfl) rfl rfl (by (try simp only [List.map_toArray, List.map_cons, List.map_nil]); first | done | rfl | (simp only [List.length_drop, List.length_take]; rfl)) ?_
                with_reducible refine (strconv_Itoa.calls (hG_ := globI_on HG_.out (by repeat (first | (with_reducible first | exact HB.out | apply below_alloc | apply pw_below_drewN | apply below_drew1) | exact HB.out))) a0_2 t575 _ A10.out).mono ?_
                rintro e w19 ⟨rfl, hb⟩
                refine ⟨_, rfl, ?_⟩
                have n0_ := Aside0.mk (blk_below (g := gb571) (o := .cells #[.int .i64 a0_0, .int .i64 a0_1, .int .i64 a0_2, .string a0_3] 27 (0, 0)) (by (with_reducible repeat (first | refine blk_drewN ?_ _ | refine blk_drew ?_ | refine blk_alloc ?_ _)); exact BK571.out) hb)
                have n1_ := Aside0.mk (below_step (by repeat (first | (with_reducible first | exact HB.out | apply below_alloc | apply pw_below_drewN | apply below_drew1 | refine below_set ?_ GE571.out) | exact HB.out)) hb)
                clear BK571
                clear HB
                have BK571 := n0_
                have HB := n1_
                clear n0_ n1_
                (try clear hb)
                (try clear hb2)
                (try clear hk)
                (try clear hi)
                refine hK.out _ _ ⟨(blk_cell BK571.out 0).trans rfl, (blk_cell BK571.out 1).trans rfl, (blk_cell BK571.out 2).trans rfl, (blk_cell BK571.out 3).trans rfl⟩ (fun hHeld => ?_)
                clear hK K
                refine norm_ (a' := ?_) ?_ ?_
                rotate_left
                · show Act.put _ (some 19) _ = _
                  simp only [Act.put, List.setIfInBounds_toArray, List.set_cons_zero, List.set_cons_succ, i64_w, i32_w]
                  rfl
                refine pure_ (i := 13) (N := some 20) (v := ?_) (a' := ?_) #[true, true, true, true, true, true, true, true, true, true, true, true, true, true, false] rfl rfl (any_of HT_.out (by kernel_rfl)) (fun _ _ _ h => h) (Or.inl ⟨by rfl, ?_⟩) ?_ ?_
                rotate_left
                · intro w'
                  go_simp
                  with_reducible rfl
                rotate_left
                · simp only [Act.put, List.setIfInBounds_toArray, List.set_cons_zero, List.set_cons_succ, i64_w, i32_w]
                  rfl
                refine pure_ (i := 14) (N := some 3) (v := ?_) (a' := ?_) #[true, true, true, true, true, true, true, true, true, true, true, true, true, true, true] rfl rfl (any_of HT_.out (by kernel_rfl)) (fun _ _ _ h => h) (Or.inl ⟨by rfl, ?_⟩) ?_ ?_
                rotate_left
                · intro w'
                  go_simp
                  with_reducible rfl
                rotate_left
                · simp only [Act.put, List.setIfInBounds_toArray, List.set_cons_zero, List.set_cons_succ, i64_w, i32_w]
                  rfl
                refine done_ (done_of HT_.out (by kernel_rfl)) ?_
                have hcz20_0 : w19.cell? ⟨gb571, 0, none⟩ = some (.int .i64 a0_0) := (blk_cell BK571.out 0).trans rfl
                have hcz20_1 : w19.cell? ⟨gb571, 1, none⟩ = some (.int .i64 a0_1) := (blk_cell BK571.out 1).trans rfl
                have hcz20_2 : w19.cell? ⟨gb571, 2, none⟩ = some (.int .i64 a0_2) := (blk_cell BK571.out 2).trans rfl
                have hcz20_3 : w19.cell? ⟨gb571, 3, none⟩ = some (.string a0_3) := (blk_cell BK571.out 3).trans rfl
                have hfz20_0 := blk_frozen BK571.out 0
                have hfz20_1 := blk_frozen BK571.out 1
                have hfz20_2 := blk_frozen BK571.out 2
                have hfz20_3 := blk_frozen BK571.out 3
                try go_wp2
                go_ret
                exact ⟨by first | rfl | (simp [errW_none, errW_some] <;> rfl) | (simp [*, errW_none, errW_some] <;> rfl), by repeat (first | (with_reducible first | exact HB.out | apply below_alloc | apply pw_below_drewN | apply below_drew1 | refine below_set ?_ GE571.out) | exact HB.out)⟩
              · rw [if_neg c12] at H
                have c12b0 : (a0_3.toList == ([] : List UInt8)) = false := beq_eq_false_iff_ne.mpr c12
                have c12b1 : (a0_3.toList != ([] : List UInt8)) = true := bne_iff_ne.mpr c12
                by_cases c21 : 1 + a0_3.size ≤ 9223372036854775807
                · rw [if_pos c21] at H
                  have c21b0 := eq_true c21
                  have c21b1 : decide (1 + a0_3.size ≤ 9223372036854775807) = true := decide_eq_true c21
                  try have c21b2 : (9223372036854775807 < 1 + a0_3.size) = False := eq_false (Nat.not_lt.2 c21)
                  by_cases c22 : ((((((⟨#[118]⟩ : ByteArray) ++ t573) ++ (⟨#[46]⟩ : ByteArray)) ++ t574) ++ (⟨#[46]⟩ : ByteArray)) ++ t575).size + ((⟨#[45]⟩ : ByteArray) ++ a0_3).size ≤ 9223372036854775807
                  · rw [if_pos c22] at H
                    have c22s0 : (9223372036854775807 < 1 + t573.size + 1 + t574.size + 1 + t575.size + (1 + a0_3.size)) = False := eq_false (Nat.not_lt.2 (by have h_ := c22; simp only [ByteArray.size_append] at h_; exact h_))
                    have c22b0 := eq_true c22
                    have c22b1 : decide (((((((⟨#[118]⟩ : ByteArray) ++ t573) ++ (⟨#[46]⟩ : ByteArray)) ++ t574) ++ (⟨#[46]⟩ : ByteArray)) ++ t575).size + ((⟨#[45]⟩ : ByteArray) ++ a0_3).size ≤ 9223372036854775807) = true := decide_eq_true c22
                    try have c22b2 : (9223372036854775807 < ((((((⟨#[118]⟩ : ByteArray) ++ t573) ++ (⟨#[46]⟩ : ByteArray)) ++ t574) ++ (⟨#[46]⟩ : ByteArray)) ++ t575).size + ((⟨#[45]⟩ : ByteArray) ++ a0_3).size) = False := eq_false (Nat.not_lt.2 c22)
                    obtain rfl := Option.some.inj H
                    go_enter Tryd.func36, Tryd.ntmps36
                    try go_wp2_with (first | ((with_reducible refine gate_dst (N := 1) rfl ?_); refine box_event ?hg (N := 1) ?hd (cs := #[.int .i64 a0_0, .int .i64 a0_1, .int .i64 a0_2, .string a0_3]) (t := 27) ?hr ?_; (case hd => rfl); (case hg => rfl); (case hr => first | (go_simp; done) | (go_simp; rfl)); intro gb571 hg w23 hbox hb; have n0_ := Aside0.mk (below_step (by repeat (first | (with_reducible first | exact HB.out | apply below_alloc | apply pw_below_drewN | apply below_drew1) | exact HB.out)) hb); have n1_ := Aside0.mk (hbox); have n2_ := Aside0.mk ((by rw [hg]; exact (below_size (by repeat (first | (with_reducible first | exact HB.out | apply below_alloc | apply pw_below_drewN | apply below_drew1) | exact HB.out))) : w.heap.size ≤ gb571)); have n3_ := Aside0.mk ((by rw [hg]; exact (below_size (by repeat (first | (with_reducible first | exact HB.out | apply below_alloc | apply pw_below_drewN | apply below_drew1) | exact HB.out))) : w.heap.size ≤ gb571)); clear HB; have HB := n0_; have BK571 := n1_; have GW571 := n2_; have GE571 := n3_; clear n0_ n1_ n2_ n3_; clear hb hbox hg; have hcz24_0 : w23.cell? ⟨gb571, 0, none⟩ = some (.int .i64 a0_0) := (blk_cell BK571.out 0).trans rfl; have hcz24_1 : w23.cell? ⟨gb571, 1, none⟩ = some (.int .i64 a0_1) := (blk_cell BK571.out 1).trans rfl; have hcz24_2 : w23.cell? ⟨gb571, 2, none⟩ = some (.int .i64 a0_2) := (blk_cell BK571.out 2).trans rfl; have hcz24_3 : w23.cell? ⟨gb571, 3, none⟩ = some (.string a0_3) := (blk_cell BK571.out 3).trans rfl; have hfz24_0 := blk_frozen BK571.out 0; have hfz24_1 := blk_frozen BK571.out 1; have hfz24_2 := blk_frozen BK571.out 2; have hfz24_3 := blk_frozen BK571.out 3) | ((with_reducible refine gate_callee (f := 20) rfl ?_); refine goesL_ (some 5) rfl rfl Tryd.func20 (by kernel_rfl) rfl #[.agg #[.int .i64 a0_0, .int .i64 a0_1, .int .i64 a0_2, .string a0_3]] rfl (by (try simp only [List.map_toArray, List.map_cons, List.map_nil]); first | done | rfl | (simp only [List.length_drop, List.length_take]; rfl)) ?_; (with_reducible refine (impl_VersionOk.calls k a0_0 a0_1 a0_2 a0_3 true _ A2.out).mono ?_); rintro e w25 ⟨rfl, hb⟩; refine ⟨_, rfl, ?_⟩; have n0_ := Aside0.mk (blk_below (g := gb571) (o := .cells #[.int .i64 a0_0, .int .i64 a0_1, .int .i64 a0_2, .string a0_3] 27 (0, 0)) (by (with_reducible repeat (first | refine blk_drewN ?_ _ | refine blk_drew ?_ | refine blk_alloc ?_ _)); exact BK571.out) hb); have n1_ := Aside0.mk (below_step (by repeat (first | (with_reducible first | exact HB.out | apply below_alloc | apply pw_below_drewN | apply below_drew1 | refine below_set ?_ GE571.out) | exact HB.out)) hb); clear BK571; clear HB; have BK571 := n0_; have HB := n1_; clear n0_ n1_; (try clear hb); (try clear hb2); (try clear hk); (try clear hi)))
                    have n0_ := Aside0.mk (blk_drew BK571.out)
                    have n1_ := Aside0.mk (below_drew1 HB.out)
                    clear BK571
                    clear HB
                    have BK571 := n0_
                    have HB := n1_
                    clear n0_ n1_
                    refine start_ (n := 15) (S := fun w' => w'.cell? ⟨gb571, 0, none⟩ = some (.int .i64 a0_0) ∧ w'.cell? ⟨gb571, 1, none⟩ = some (.int .i64 a0_1) ∧ w'.cell? ⟨gb571, 2, none⟩ = some (.int .i64 a0_2) ∧ w'.cell? ⟨gb571, 3, none⟩ = some (.string a0_3)) (ds := []) #[false, false, false, false, false, false, false, false, false, false, false, false, false, false, false] (by kernel_rfl) rfl rfl ⟨(blk_cell BK571.out 0).trans rfl, (blk_cell BK571.out 1).trans rfl, (blk_cell BK571.out 2).trans rfl, (blk_cell BK571.out 3).trans rfl⟩ (fun hHeld => ?_); refine with_tabW impl_VersionText.tab3 impl_VersionText.bits3 (fun HT_ HW_ => ?_)
                    generalize w25.drew = w26 at BK571 HB hHeld ⊢
                    refine pure_ (i := 0) (N := some 7) (v := ?_) (a' := ?_) #[true, false, false, false, false, false, false, false, false, false, false, false, false, false, false] rfl rfl (any_of HT_.out (by kernel_rfl)) (fun _ _ _ h => h) (Or.inl ⟨by rfl, ?_⟩) ?_ ?_
                    rotate_left
                    · intro w'
                      go_simp
                      with_reducible rfl
                    rotate_left
                    · simp only [Act.put, List.setIfInBounds_toArray, List.set_cons_zero, List.set_cons_succ, i64_w, i32_w]
                      rfl
                    refine pure_ (i := 5) (N := some 12) (v := ?_) (a' := ?_) #[true, false, false, false, false, true, false, false, false, false, false, false, false, false, false] rfl rfl (any_of HT_.out (by kernel_rfl)) (fun _ _ _ h => h) (Or.inl ⟨by rfl, ?_⟩) ?_ ?_
                    rotate_left
                    · intro w'
                      go_simp
                      with_reducible rfl
                    rotate_left
                    · simp only [Act.put, List.setIfInBounds_toArray, List.set_cons_zero, List.set_cons_succ, i64_w, i32_w]
                      rfl
                    refine pure_ (i := 10) (N := some 17) (v := ?_) (a' := ?_) #[true, false, false, false, false, true, false, false, false, false, true, false, false, false, false] rfl rfl (any_of HT_.out (by kernel_rfl)) (fun _ _ _ h => h) (Or.inl ⟨by rfl, ?_⟩) ?_ ?_
                    rotate_left
                    · intro w'
                      go_simp
                      with_reducible rfl
                    rotate_left
                    · simp only [Act.put, List.setIfInBounds_toArray, List.set_cons_zero, List.set_cons_succ, i64_w, i32_w]
                      rfl
                    refine take_ (i := 1) (N := some 8) (v := ?_) (a' := ?_) #[true, true, false, false, false, true, false, false, false, false, true, false, false, false, false] rfl rfl (take_ofW HT_.out HW_.out (by kernel_rfl)) (fun _ _ _ h => h) (Or.inl ⟨by rfl, ?_⟩) hHeld ?_ ?_
                    rotate_left
                    · rintro w' ⟨s0, s1, s2, s3⟩
                      go_simp
                      with_reducible rfl
                    rotate_left
                    · simp only [Act.put, List.setIfInBounds_toArray, List.set_cons_zero, List.set_cons_succ, i64_w, i32_w]
                      rfl
                    refine take_ (i := 6) (N := some 13) (v := ?_) (a' := ?_) #[true, true, false, false, false, true, true, false, false, false, true, false, false, false, false] rfl rfl (take_ofW HT_.out HW_.out (by kernel_rfl)) (fun _ _ _ h => h) (Or.inl ⟨by rfl, ?_⟩) hHeld ?_ ?_
                    rotate_left
                    · rintro w' ⟨s0, s1, s2, s3⟩
                      go_simp
                      with_reducible rfl
                    rotate_left
                    · simp only [Act.put, List.setIfInBounds_toArray, List.set_cons_zero, List.set_cons_succ, i64_w, i32_w]
                      rfl
                    refine take_ (i := 11) (N := some 18) (v := ?_) (a' := ?_) #[true, true, false, false, false, true, true, false, false, false, true, true, false, false, false] rfl rfl (take_ofW HT_.out HW_.out (by kernel_rfl)) (fun _ _ _ h => h) (Or.inl ⟨by rfl, ?_⟩) hHeld ?_ ?_
                    rotate_left
                    · rintro w' ⟨s0, s1, s2, s3⟩
                      go_simp
                      with_reducible rfl
                    rotate_left
                    · simp only [Act.put, List.setIfInBounds_toArray, List.set_cons_zero, List.set_cons_succ, i64_w, i32_w]
                      rfl
                    refine one_ (i := 2) (N := some 9) #[true, true, true, false, false, true, true, false, false, false, true, true, false, false, false] rfl rfl (one_of HT_.out (by kernel_rfl)) (by decide) (fun K hK => ?_)
                    refine goes_ Tryd.func60 (by kernel_rfl) rfl #[.int .i64 a0_0] (by rfl) rfl rfl (by (try simp only [List.map_toArray, List.map_cons, List.map_nil]); first | done | rfl | (simp only [List.length_drop, List.length_take]; rfl)) ?_
                    with_reducible refine (strconv_Itoa.calls (hG_ := globI_on HG_.out (by repeat (first | (with_reducible first | exact HB.out | apply below_alloc | apply pw_below_drewN | apply below_drew1) | exact HB.out))) a0_0 t573 _ A4.out).mono ?_
                    rintro e w27 ⟨rfl, hb⟩
                    refine ⟨_, rfl, ?_⟩
                    have n0_ := Aside0.mk (blk_below (g := gb571) (o := .cells #[.int .i64 a0_0, .int .i64 a0_1, .int .i64 a0_2, .string a0_3] 27 (0, 0)) (by (with_reducible repeat (first | refine blk_drewN ?_ _ | refine blk_drew ?_ | refine blk_alloc ?_ _)); exact BK571.out) hb)
                    have n1_ := Aside0.mk (below_step (by repeat (first | (with_reducible first | exact HB.out | apply below_alloc | apply pw_below_drewN | apply below_drew1 | refine below_set ?_ GE571.out) | exact HB.out)) hb)
                    clear BK571
                    clear HB
                    have BK571 := n0_
                    have HB := n1_
                    clear n0_ n1_
                    (try clear hb)
                    (try clear hb2)
                    (try clear hk)
                    (try clear hi)
                    refine hK.out _ _ ⟨(blk_cell BK571.out 0).trans rfl, (blk_cell BK571.out 1).trans rfl, (blk_cell BK571.out 2).trans rfl, (blk_cell BK571.out 3).trans rfl⟩ (fun hHeld => ?_)
                    clear hK K
                    refine norm_ (a' := ?_) ?_ ?_
                    rotate_left
                    · show Act.put _ (some 9) _ = _
                      simp only [Act.put, List.setIfInBounds_toArray, List.set_cons_zero, List.set_cons_succ, i64_w, i32_w]
                      rfl
                    refine pure_ (i := 3) (N := some 10) (v := ?_) (a' := ?_) #[true, true, true, true, false, true, true, false, false, false, true, true, false, false, false] rfl rfl (any_of HT_.out (by kernel_rfl)) (fun _ _ _ h => h) (Or.inl ⟨by rfl, ?_⟩) ?_ ?_
                    rotate_left
                    · intro w'
                      go_simp
                      with_reducible rfl
                    rotate_left
                    · simp only [Act.put, List.setIfInBounds_toArray, List.set_cons_zero, List.set_cons_succ, i64_w, i32_w]
                      rfl
                    refine pure_ (i := 4) (N := some 11) (v := ?_) (a' := ?_) #[true, true, true, true, true, true, true, false, false, false, true, true, false, false, false] rfl rfl (any_of HT_.out (by kernel_rfl)) (fun _ _ _ h => h) (Or.inl ⟨by rfl, ?_⟩) ?_ ?_
                    rotate_left
                    · intro w'
                      go_simp
                      with_reducible rfl
                    rotate_left
                    · simp only [Act.put, List.setIfInBounds_toArray, List.set_cons_zero, List.set_cons_succ, i64_w, i32_w]
                      rfl
                    refine one_ (i := 7) (N := some 14) #[true, true, true, true, true, true, true, true, false, false, true, true, false, false, false] rfl rfl (one_of HT_.out (by kernel_rfl)) (by decide) (fun K hK => ?_)
                    refine goes_ Tryd.func60 (by kernel_rfl) rfl #[.int .i64 a0_1] (by rfl) rfl rfl (by (try simp only [List.map_toArray, List.map_cons, List.map_nil]); first | done | rfl | (simp only [List.length_drop, List.length_take]; rfl)) ?_
                    with_reducible refine (strconv_Itoa.calls (hG_ := globI_on HG_.out (by repeat (first | (with_reducible first | exact HB.out | apply below_alloc | apply pw_below_drewN | apply below_drew1) | exact HB.out))) a0_1 t574 _ A7.out).mono ?_
                    rintro e w28 ⟨rfl, hb⟩
                    refine ⟨_, rfl, ?_⟩
                    have n0_ := Aside0.mk (blk_below (g := gb571) (o := .cells #[.int .i64 a0_0, .int .i64 a0_1, .int .i64 a0_2, .string a0_3] 27 (0, 0)) (by (with_reducible repeat (first | refine blk_drewN ?_ _ | refine blk_drew ?_ | refine blk_alloc ?_ _)); exact BK571.out) hb)
                    have n1_ := Aside0.mk (below_step (by repeat (first | (with_reducible first | exact HB.out | apply below_alloc | apply pw_below_drewN | apply below_drew1 | refine below_set ?_ GE571.out) | exact HB.out)) hb)
                    clear BK571
                    clear HB
                    have BK571 := n0_
                    have HB := n1_
                    clear n0_ n1_
                    (try clear hb)
                    (try clear hb2)
                    (try clear hk)
                    (try clear hi)
                    refine hK.out _ _ ⟨(blk_cell BK571.out 0).trans rfl, (blk_cell BK571.out 1).trans rfl, (blk_cell BK571.out 2).trans rfl, (blk_cell BK571.out 3).trans rfl⟩ (fun hHeld => ?_)
                    clear hK K
                    refine norm_ (a' := ?_) ?_ ?_
                    rotate_left
                    · show Act.put _ (some 14) _ = _
                      simp only [Act.put, List.setIfInBounds_toArray, List.set_cons_zero, List.set_cons_succ, i64_w, i32_w]
                      rfl
                    refine pure_ (i := 8) (N := some 15) (v := ?_) (a' := ?_) #[true, true, true, true, true, true, true, true, true, false, true, true, false, false, false] rfl rfl (any_of HT_.out (by kernel_rfl)) (fun _ _ _ h => h) (Or.inl ⟨by rfl, ?_⟩) ?_ ?_
                    rotate_left
                    · intro w'
                      go_simp
                      with_reducible rfl
                    rotate_left
                    · simp only [Act.put, List.setIfInBounds_toArray, List.set_cons_zero, List.set_cons_succ, i64_w, i32_w]
                      rfl
                    refine pure_ (i := 9) (N := some 16) (v := ?_) (a' := ?_) #[true, true, true, true, true, true, true, true, true, true, true, true, false, false, false] rfl rfl (any_of HT_.out (by kernel_rfl)) (fun _ _ _ h => h) (Or.inl ⟨by rfl, ?_⟩) ?_ ?_
                    rotate_left
                    · intro w'
                      go_simp
                      with_reducible rfl
                    rotate_left
                    · simp only [Act.put, List.setIfInBounds_toArray, List.set_cons_zero, List.set_cons_succ, i64_w, i32_w]
                      rfl
                    refine one_ (i := 12) (N := some 19) #[true, true, true, true, true, true, true, true, true, true, true, true, true, false, false] rfl rfl (one_of HT_.out (by kernel_rfl)) (by decide) (fun K hK => ?_)
                    refine goes_ Tryd.func60 (by kernel_rfl) rfl #[.int .i64 a0_2] (by rfl) rfl rfl (by (try simp only [List.map_toArray, List.map_cons, List.map_nil]); first | done | rfl | (simp only [List.length_drop, List.length_take]; rfl)) ?_
                    with_reducible refine (strconv_Itoa.calls (hG_ := globI_on HG_.out (by repeat (first | (with_reducible first | exact HB.out | apply below_alloc | apply pw_below_drewN | apply below_drew1) | exact HB.out))) a0_2 t575 _ A10.out).mono ?_
                    rintro e w29 ⟨rfl, hb⟩
                    refine ⟨_, rfl, ?_⟩
                    have n0_ := Aside0.mk (blk_below (g := gb571) (o := .cells #[.int .i64 a0_0, .int .i64 a0_1, .int .i64 a0_2, .string a0_3] 27 (0, 0)) (by (with_reducible repeat (first | refine blk_drewN ?_ _ | refine blk_drew ?_ | refine blk_alloc ?_ _)); exact BK571.out) hb)
                    have n1_ := Aside0.mk (below_step (by repeat (first | (with_reducible first | exact HB.out | apply below_alloc | apply pw_below_drewN | apply below_drew1 | refine below_set ?_ GE571.out) | exact HB.out)) hb)
                    clear BK571
                    clear HB
                    have BK571 := n0_
                    have HB := n1_
                    clear n0_ n1_
                    (try clear hb)
                    (try clear hb2)
                    (try clear hk)
                    (try clear hi)
                    refine hK.out _ _ ⟨(blk_cell BK571.out 0).trans rfl, (blk_cell BK571.out 1).trans rfl, (blk_cell BK571.out 2).trans rfl, (blk_cell BK571.out 3).trans rfl⟩ (fun hHeld => ?_)
                    clear hK K
                    refine norm_ (a' := ?_) ?_ ?_
                    rotate_left
                    · show Act.put _ (some 19) _ = _
                      simp only [Act.put, List.setIfInBounds_toArray, List.set_cons_zero, List.set_cons_succ, i64_w, i32_w]
                      rfl
                    refine pure_ (i := 13) (N := some 20) (v := ?_) (a' := ?_) #[true, true, true, true, true, true, true, true, true, true, true, true, true, true, false] rfl rfl (any_of HT_.out (by kernel_rfl)) (fun _ _ _ h => h) (Or.inl ⟨by rfl, ?_⟩) ?_ ?_
                    rotate_left
                    · intro w'
                      go_simp
                      with_reducible rfl
                    rotate_left
                    · simp only [Act.put, List.setIfInBounds_toArray, List.set_cons_zero, List.set_cons_succ, i64_w, i32_w]
                      rfl
                    refine pure_ (i := 14) (N := some 3) (v := ?_) (a' := ?_) #[true, true, true, true, true, true, true, true, true, true, true, true, true, true, true] rfl rfl (any_of HT_.out (by kernel_rfl)) (fun _ _ _ h => h) (Or.inl ⟨by rfl, ?_⟩) ?_ ?_
                    rotate_left
                    · intro w'
                      go_simp
                      with_reducible rfl
                    rotate_left
                    · simp only [Act.put, List.setIfInBounds_toArray, List.set_cons_zero, List.set_cons_succ, i64_w, i32_w]
                      rfl
                    refine done_ (done_of HT_.out (by kernel_rfl)) ?_
                    have hcz30_0 : w29.cell? ⟨gb571, 0, none⟩ = some (.int .i64 a0_0) := (blk_cell BK571.out 0).trans rfl
                    have hcz30_1 : w29.cell? ⟨gb571, 1, none⟩ = some (.int .i64 a0_1) := (blk_cell BK571.out 1).trans rfl
                    have hcz30_2 : w29.cell? ⟨gb571, 2, none⟩ = some (.int .i64 a0_2) := (blk_cell BK571.out 2).trans rfl
                    have hcz30_3 : w29.cell? ⟨gb571, 3, none⟩ = some (.string a0_3) := (blk_cell BK571.out 3).trans rfl
                    have hfz30_0 := blk_frozen BK571.out 0
                    have hfz30_1 := blk_frozen BK571.out 1
                    have hfz30_2 := blk_frozen BK571.out 2
                    have hfz30_3 := blk_frozen BK571.out 3
                    try go_wp2
                    go_ret
                    exact ⟨by first | rfl | (simp [errW_none, errW_some] <;> rfl) | (simp [*, errW_none, errW_some] <;> rfl), by repeat (first | (with_reducible first | exact HB.out | apply below_alloc | apply pw_below_drewN | apply below_drew1 | refine below_set ?_ GE571.out) | exact HB.out)⟩
                  · rw [if_neg c22] at H
                    exact absurd H (by simp)
                · rw [if_neg c21] at H
                  exact absurd H (by simp)
            · rw [if_neg c11] at H
              exact absurd H (by simp)
          · rw [if_neg c9] at H
            exact absurd H (by simp)
        · rw [if_neg c8] at H
          exact absurd H (by simp)
      · rw [if_neg c6] at H
        exact absurd H (by simp)
    · rw [if_neg c5] at H
      exact absurd H (by simp)
  · replace c3 := Bool.eq_false_iff.mpr c3
    subst c3
    have H1 : (some (⟨#[]⟩ : ByteArray)) = some r := by rw [if_neg (show ¬ (false = true) by decide)] at H; exact H
    clear H
    have H := H1
    clear H1
    obtain rfl := Option.some.inj H
    go_enter Tryd.func36, Tryd.ntmps36
    go_wp2_with (first | ((with_reducible refine gate_dst (N := 1) rfl ?_); refine box_event ?hg (N := 1) ?hd (cs := #[.int .i64 a0_0, .int .i64 a0_1, .int .i64 a0_2, .string a0_3]) (t := 27) ?hr ?_; (case hd => rfl); (case hg => rfl); (case hr => first | (go_simp; done) | (go_simp; rfl)); intro gb571 hg w31 hbox hb; have n0_ := Aside0.mk (below_step (by repeat (first | (with_reducible first | exact HB.out | apply below_alloc | apply pw_below_drewN | apply below_drew1) | exact HB.out)) hb); have n1_ := Aside0.mk (hbox); have n2_ := Aside0.mk ((by rw [hg]; exact (below_size (by repeat (first | (with_reducible first | exact HB.out | apply below_alloc | apply pw_below_drewN | apply below_drew1) | exact HB.out))) : w.heap.size ≤ gb571)); have n3_ := Aside0.mk ((by rw [hg]; exact (below_size (by repeat (first | (with_reducible first | exact HB.out | apply below_alloc | apply pw_below_drewN | apply below_drew1) | exact HB.out))) : w.heap.size ≤ gb571)); clear HB; have HB := n0_; have BK571 := n1_; have GW571 := n2_; have GE571 := n3_; clear n0_ n1_ n2_ n3_; clear hb hbox hg; have hcz32_0 : w31.cell? ⟨gb571, 0, none⟩ = some (.int .i64 a0_0) := (blk_cell BK571.out 0).trans rfl; have hcz32_1 : w31.cell? ⟨gb571, 1, none⟩ = some (.int .i64 a0_1) := (blk_cell BK571.out 1).trans rfl; have hcz32_2 : w31.cell? ⟨gb571, 2, none⟩ = some (.int .i64 a0_2) := (blk_cell BK571.out 2).trans rfl; have hcz32_3 : w31.cell? ⟨gb571, 3, none⟩ = some (.string a0_3) := (blk_cell BK571.out 3).trans rfl; have hfz32_0 := blk_frozen BK571.out 0; have hfz32_1 := blk_frozen BK571.out 1; have hfz32_2 := blk_frozen BK571.out 2; have hfz32_3 := blk_frozen BK571.out 3) | ((with_reducible refine gate_callee (f := 20) rfl ?_); refine goesL_ (some 5) rfl rfl Tryd.func20 (by kernel_rfl) rfl #[.agg #[.int .i64 a0_0, .int .i64 a0_1, .int .i64 a0_2, .string a0_3]] rfl (by (try simp only [List.map_toArray, List.map_cons, List.map_nil]); first | done | rfl | (simp only [List.length_drop, List.length_take]; rfl)) ?_; (with_reducible refine (impl_VersionOk.calls k a0_0 a0_1 a0_2 a0_3 false _ A2.out).mono ?_); rintro e w33 ⟨rfl, hb⟩; refine ⟨_, rfl, ?_⟩; have n0_ := Aside0.mk (blk_below (g := gb571) (o := .cells #[.int .i64 a0_0, .int .i64 a0_1, .int .i64 a0_2, .string a0_3] 27 (0, 0)) (by (with_reducible repeat (first | refine blk_drewN ?_ _ | refine blk_drew ?_ | refine blk_alloc ?_ _)); exact BK571.out) hb); have n1_ := Aside0.mk (below_step (by repeat (first | (with_reducible first | exact HB.out | apply below_alloc | apply pw_below_drewN | apply below_drew1 | refine below_set ?_ GE571.out) | exact HB.out)) hb); clear BK571; clear HB; have BK571 := n0_; have HB := n1_; clear n0_ n1_; (try clear hb); (try clear hb2); (try clear hk); (try clear hi)))
    go_ret
    exact ⟨by first | rfl | (simp [errW_none, errW_some] <;> rfl) | (simp [*, errW_none, errW_some] <;> rfl), by repeat (first | (with_reducible first | exact HB.out | apply below_alloc | apply pw_below_drewN | apply below_drew1 | refine below_set ?_ GE571.out) | exact HB.out)⟩

end Go.Proofs.YtagbldaiedmikaaDoor.X

namespace Go.Proofs.YtagbldaiedmikaaDoor.X
open Go.RowKit Go.Proofs.YtagbldaiedmikaaDoorW.PrintWords Go.Proofs.YtagbldaiedmikaaDoorW.PrintLast Go.Proofs.YtagbldaiedmikaaDoorW.PrintMore
attribute [local go_sem] max2_int min2_int max_two min_two max_three min_three max_four min_four   -- for this text's walks alone
set_option linter.unusedVariables false
set_option linter.unusedSimpArgs false

/-! ### laws_FnExactVersionText: function 11 -/
def laws_FnExactVersionText.f (k : Nat) (a0_0 : Int) (a0_1 : Int) (a0_2 : Int) (a0_3 : ByteArray) : Option (Bool) := (laws_szVersion.f a0_0 a0_1 a0_2 a0_3 1048576).bind fun t577 => (if t577 < 0 then (some true) else ((laws_toVersion.f a0_0 a0_1 a0_2 a0_3).bind fun bt578 => ((spec_VersionText.f k bt578.1 bt578.2.1 bt578.2.2.1 bt578.2.2.2).bind fun t582 => ((laws_toVersion.f a0_0 a0_1 a0_2 a0_3).bind fun bt583 => ((impl_VersionText.f k bt583.1 bt583.2.1 bt583.2.2.1 bt583.2.2.2).bind fun t587 => (if t587.toList = t582.toList then (some true) else (some false)))))))
theorem laws_FnExactVersionText.mono : ∀ a0 a1 a2 a3 k, LeO (laws_FnExactVersionText.f k a0 a1 a2 a3) (laws_FnExactVersionText.f (k + 1) a0 a1 a2 a3) := by
  intro a0 a1 a2 a3 k
  unfold laws_FnExactVersionText.f
  repeat' first
      | (with_reducible exact impl_VersionText.mono _ _ _ _ _)
      | (with_reducible exact spec_VersionText.mono _ _ _ _ _)
      | (with_reducible exact LeO.refl _)
      | (with_reducible exact LeO.none _)
      | (with_reducible refine LeO.ite ?_ ?_)
      | (with_reducible refine LeO.bind ?_ (fun _ => ?_))
      | exact impl_VersionText.mono _ _ _ _ _
      | exact spec_VersionText.mono _ _ _ _ _
      | exact LeO.none _
      | refine LeO.ite ?_ ?_
      | refine LeO.bind ?_ (fun _ => ?_)
set_option maxHeartbeats 8000000 in
set_option maxRecDepth 100000 in
theorem laws_FnExactVersionText.calls (k : Nat) (a0_0 : Int) (a0_1 : Int) (a0_2 : Int) (a0_3 : ByteArray) (r : Bool) (w : World) (hG_ : GlobI w) (h : laws_FnExactVersionText.f k a0_0 a0_1 a0_2 a0_3 = some r) :
    Calls Tryd.prog 11 #[.agg #[.int .i64 a0_0, .int .i64 a0_1, .int .i64 a0_2, .string a0_3]] w fun e w' => e = .returned (.bool r) ∧ Below w.heap.size w w' := by
  have HG_ := Aside0.mk hG_
  clear hG_
  have hu24 := Tryd.underlying24
  have HB := Aside0.mk (Below.refl w.heap.size w)
  have H : ((laws_szVersion.f a0_0 a0_1 a0_2 a0_3 1048576).bind fun t577 => (if t577 < 0 then (some true) else ((laws_toVersion.f a0_0 a0_1 a0_2 a0_3).bind fun bt578 => ((spec_VersionText.f k bt578.1 bt578.2.1 bt578.2.2.1 bt578.2.2.2).bind fun t582 => ((laws_toVersion.f a0_0 a0_1 a0_2 a0_3).bind fun bt583 => ((impl_VersionText.f k bt583.1 bt583.2.1 bt583.2.2.1 bt583.2.2.2).bind fun t587 => (if t587.toList = t582.toList then (some true) else (some false)))))))) = some r := h
  clear h
  replace H := Option.bind_eq_some_iff.mp H
  obtain ⟨t577, A20, H⟩ := H
  replace H : (if t577 < 0 then (some true) else ((laws_toVersion.f a0_0 a0_1 a0_2 a0_3).bind fun bt578 => ((spec_VersionText.f k bt578.1 bt578.2.1 bt578.2.2.1 bt578.2.2.2).bind fun t582 => ((laws_toVersion.f a0_0 a0_1 a0_2 a0_3).bind fun bt583 => ((impl_VersionText.f k bt583.1 bt583.2.1 bt583.2.2.1 bt583.2.2.2).bind fun t587 => (if t587.toList = t582.toList then (some true) else (some false))))))) = some r := H
  have A2 := Aside0.mk A20
  clear A20
  by_cases c3 : t577 < 0
  · rw [if_pos c3] at H
    have c3b0 : decide (t577 < 0) = true := decide_eq_true c3
    clear c3
    obtain rfl := Option.some.inj H
    go_enter Tryd.func11, Tryd.ntmps11
    go_wp2_with (first | ((with_reducible refine gate_dst (N := 1) rfl ?_); refine box_event ?hg (N := 1) ?hd (cs := #[.int .i64 a0_0, .int .i64 a0_1, .int .i64 a0_2, .string a0_3]) (t := 24) ?hr ?_; (case hd => rfl); (case hg => rfl); (case hr => first | (go_simp; done) | (go_simp; rfl)); intro gb576 hg w4 hbox hb; have n0_ := Aside0.mk (below_step (by repeat (first | (with_reducible first | exact HB.out | apply below_alloc | apply pw_below_drewN | apply below_drew1) | exact HB.out)) hb); have n1_ := Aside0.mk (hbox); have n2_ := Aside0.mk ((by rw [hg]; exact (below_size (by repeat (first | (with_reducible first | exact HB.out | apply below_alloc | apply pw_below_drewN | apply below_drew1) | exact HB.out))) : w.heap.size ≤ gb576)); have n3_ := Aside0.mk ((by rw [hg]; exact (below_size (by repeat (first | (with_reducible first | exact HB.out | apply below_alloc | apply pw_below_drewN | apply below_drew1) | exact HB.out))) : w.heap.size ≤ gb576)); clear HB; have HB := n0_; have BK576 := n1_; have GW576 := n2_; have GE576 := n3_; clear n0_ n1_ n2_ n3_; clear hb hbox hg; have hcz5_0 : w4.cell? ⟨gb576, 0, none⟩ = some (.int .i64 a0_0) := (blk_cell BK576.out 0).trans rfl; have hcz5_1 : w4.cell? ⟨gb576, 1, none⟩ = some (.int .i64 a0_1) := (blk_cell BK576.out 1).trans rfl; have hcz5_2 : w4.cell? ⟨gb576, 2, none⟩ = some (.int .i64 a0_2) := (blk_cell BK576.out 2).trans rfl; have hcz5_3 : w4.cell? ⟨gb576, 3, none⟩ = some (.string a0_3) := (blk_cell BK576.out 3).trans rfl; have hfz5_0 := blk_frozen BK576.out 0; have hfz5_1 := blk_frozen BK576.out 1; have hfz5_2 := blk_frozen BK576.out 2; have hfz5_3 := blk_frozen BK576.out 3) | ((with_reducible refine gate_callee (f := 17) rfl ?_); refine goesL_ (some 8) rfl rfl Tryd.func17 (by kernel_rfl) rfl #[.agg #[.int .i64 a0_0, .int .i64 a0_1, .int .i64 a0_2, .string a0_3], .int .i64 1048576] rfl (by (try simp only [List.map_toArray, List.map_cons, List.map_nil]); first | done | rfl | (simp only [List.length_drop, List.length_take]; rfl)) ?_; (with_reducible refine (laws_szVersion.calls a0_0 a0_1 a0_2 a0_3 1048576 t577 _ A2.out).mono ?_); rintro e w6 ⟨rfl, hb⟩; refine ⟨_, rfl, ?_⟩; have n0_ := Aside0.mk (blk_below (g := gb576) (o := .cells #[.int .i64 a0_0, .int .i64 a0_1, .int .i64 a0_2, .string a0_3] 24 (0, 0)) (by (with_reducible repeat (first | refine blk_drewN ?_ _ | refine blk_drew ?_ | refine blk_alloc ?_ _)); exact BK576.out) hb); have n1_ := Aside0.mk (below_step (by repeat (first | (with_reducible first | exact HB.out | apply below_alloc | apply pw_below_drewN | apply below_drew1 | refine below_set ?_ GE576.out) | exact HB.out)) hb); clear BK576; clear HB; have BK576 := n0_; have HB := n1_; clear n0_ n1_; (try clear hb); (try clear hb2); (try clear hk); (try clear hi)))
    go_ret
    exact ⟨by first | rfl | (simp [errW_none, errW_some] <;> rfl) | (simp [*, errW_none, errW_some] <;> rfl), by repeat (first | (with_reducible first | exact HB.out | apply below_alloc | apply pw_below_drewN | apply below_drew1 | refine below_set ?_ GE576.out) | exact HB.out)⟩
  · rw [if_neg c3] at H
    have c3b0 : decide (t577 < 0) = false := decide_eq_false c3
    clear c3
    replace H := Option.bind_eq_some_iff.mp H
    obtain ⟨⟨t578, t579, t580, t581⟩, A70, H⟩ := H
    replace H : ((spec_VersionText.f k t578 t579 t580 t581).bind fun t582 => ((laws_toVersion.f a0_0 a0_1 a0_2 a0_3).bind fun bt583 => ((impl_VersionText.f k bt583.1 bt583.2.1 bt583.2.2.1 bt583.2.2.2).bind fun t587 => (if t587.toList = t582.toList then (some true) else (some false))))) = some r := H
    have A7 := Aside0.mk A70
    clear A70
    replace H := Option.bind_eq_some_iff.mp H
    obtain ⟨t582, A80, H⟩ := H
    replace H : ((laws_toVersion.f a0_0 a0_1 a0_2 a0_3).bind fun bt583 => ((impl_VersionText.f k bt583.1 bt583.2.1 bt583.2.2.1 bt583.2.2.2).bind fun t587 => (if t587.toList = t582.toList then (some true) else (some false)))) = some r := H
    have A8 := Aside0.mk A80
    clear A80
    replace H := Option.bind_eq_some_iff.mp H
    obtain ⟨⟨t583, t584, t585, t586⟩, A90, H⟩ := H
    replace H : ((impl_VersionText.f k t583 t584 t585 t586).bind fun t587 => (if t587.toList = t582.toList then (some true) else (some false))) = some r := H
    have A9 := Aside0.mk A90
    clear A90
    replace H := Option.bind_eq_some_iff.mp H
    obtain ⟨t587, A100, H⟩ := H
    replace H : (if t587.toList = t582.toList then (some true) else (some false)) = some r := H
    have A10 := Aside0.mk A100
    clear A100
    by_cases c11 : t587.toList = t582.toList
    · rw [if_pos c11] at H
      have c11b0 : (t587.toList == t582.toList) = true := beq_iff_eq.mpr c11
      have c11b1 : (t587.toList != t582.toList) = false := bne_eq_false_iff_eq.mpr c11
      clear c11
      obtain rfl := Option.some.inj H
      go_enter Tryd.func11, Tryd.ntmps11
      go_wp2_with (first | ((with_reducible refine gate_dst (N := 1) rfl ?_); refine box_event ?hg (N := 1) ?hd (cs := #[.int .i64 a0_0, .int .i64 a0_1, .int .i64 a0_2, .string a0_3]) (t := 24) ?hr ?_; (case hd => rfl); (case hg => rfl); (case hr => first | (go_simp; done) | (go_simp; rfl)); intro gb576 hg w12 hbox hb; have n0_ := Aside0.mk (below_step (by repeat (first | (with_reducible first | exact HB.out | apply below_alloc | apply pw_below_drewN | apply below_drew1) | exact HB.out)) hb); have n1_ := Aside0.mk (hbox); have n2_ := Aside0.mk ((by rw [hg]; exact (below_size (by repeat (first | (with_reducible first | exact HB.out | apply below_alloc | apply pw_below_drewN | apply below_drew1) | exact HB.out))) : w.heap.size ≤ gb576)); have n3_ := Aside0.mk ((by rw [hg]; exact (below_size (by repeat (first | (with_reducible first | exact HB.out | apply below_alloc | apply pw_below_drewN | apply below_drew1) | exact HB.out))) : w.heap.size ≤ gb576)); clear HB; have HB := n0_; have BK576 := n1_; have GW576 := n2_; have GE576 := n3_; clear n0_ n1_ n2_ n3_; clear hb hbox hg; have hcz13_0 : w12.cell? ⟨gb576, 0, none⟩ = some (.int .i64 a0_0) := (blk_cell BK576.out 0).trans rfl; have hcz13_1 : w12.cell? ⟨gb576, 1, none⟩ = some (.int .i64 a0_1) := (blk_cell BK576.out 1).trans rfl; have hcz13_2 : w12.cell? ⟨gb576, 2, none⟩ = some (.int .i64 a0_2) := (blk_cell BK576.out 2).trans rfl; have hcz13_3 : w12.cell? ⟨gb576, 3, none⟩ = some (.string a0_3) := (blk_cell BK576.out 3).trans rfl; have hfz13_0 := blk_frozen BK576.out 0; have hfz13_1 := blk_frozen BK576.out 1; have hfz13_2 := blk_frozen BK576.out 2; have hfz13_3 := blk_frozen BK576.out 3) | ((with_reducible refine gate_callee (f := 17) rfl ?_); refine goesL_ (some 8) rfl rfl Tryd.func17 (by kernel_rfl) rfl #[.agg #[.int .i64 a0_0, .int .i64 a0_1, .int .i64 a0_2, .string a0_3], .int .i64 1048576] rfl (by (try simp only [List.map_toArray, List.map_cons, List.map_nil]); first | done | rfl | (simp only [List.length_drop, List.length_take]; rfl)) ?_; (with_reducible refine (laws_szVersion.calls a0_0 a0_1 a0_2 a0_3 1048576 t577 _ A2.out).mono ?_); rintro e w14 ⟨rfl, hb⟩; refine ⟨_, rfl, ?_⟩; have n0_ := Aside0.mk (blk_below (g := gb576) (o := .cells #[.int .i64 a0_0, .int .i64 a0_1, .int .i64 a0_2, .string a0_3] 24 (0, 0)) (by (with_reducible repeat (first | refine blk_drewN ?_ _ | refine blk_drew ?_ | refine blk_alloc ?_ _)); exact BK576.out) hb); have n1_ := Aside0.mk (below_step (by repeat (first | (with_reducible first | exact HB.out | apply below_alloc | apply pw_below_drewN | apply below_drew1 | refine below_set ?_ GE576.out) | exact HB.out)) hb); clear BK576; clear HB; have BK576 := n0_; have HB := n1_; clear n0_ n1_; (try clear hb); (try clear hb2); (try clear hk); (try clear hi); have hcz15_0 : w14.cell? ⟨gb576, 0, none⟩ = some (.int .i64 a0_0) := (blk_cell BK576.out 0).trans rfl; have hcz15_1 : w14.cell? ⟨gb576, 1, none⟩ = some (.int .i64 a0_1) := (blk_cell BK576.out 1).trans rfl; have hcz15_2 : w14.cell? ⟨gb576, 2, none⟩ = some (.int .i64 a0_2) := (blk_cell BK576.out 2).trans rfl; have hcz15_3 : w14.cell? ⟨gb576, 3, none⟩ = some (.string a0_3) := (blk_cell BK576.out 3).trans rfl; have hfz15_0 := blk_frozen BK576.out 0; have hfz15_1 := blk_frozen BK576.out 1; have hfz15_2 := blk_frozen BK576.out 2; have hfz15_3 := blk_frozen BK576.out 3) | ((with_reducible refine gate_callee (f := 19) rfl ?_); refine goesL_ (some 12) rfl rfl Tryd.func19 (by kernel_rfl) rfl #[.agg #[.int .i64 a0_0, .int .i64 a0_1, .int .i64 a0_2, .string a0_3]] rfl (by (try simp only [List.map_toArray, List.map_cons, List.map_nil]); first | done | rfl | (simp only [List.length_drop, List.length_take]; rfl)) ?_; (with_reducible refine (laws_toVersion.calls a0_0 a0_1 a0_2 a0_3 t578 t579 t580 t581 _ A7.out).mono ?_); rintro e w16 ⟨rfl, hb⟩; refine ⟨_, rfl, ?_⟩; have n0_ := Aside0.mk (blk_below (g := gb576) (o := .cells #[.int .i64 a0_0, .int .i64 a0_1, .int .i64 a0_2, .string a0_3] 24 (0, 0)) (by (with_reducible repeat (first | refine blk_drewN ?_ _ | refine blk_drew ?_ | refine blk_alloc ?_ _)); exact BK576.out) hb); have n1_ := Aside0.mk (below_step (by repeat (first | (with_reducible first | exact HB.out | apply below_alloc | apply pw_below_drewN | apply below_drew1 | refine below_set ?_ GE576.out) | exact HB.out)) hb); clear BK576; clear HB; have BK576 := n0_; have HB := n1_; clear n0_ n1_; (try clear hb); (try clear hb2); (try clear hk); (try clear hi)) | ((with_reducible refine gate_callee (f := 35) rfl ?_); refine goesL_ (some 13) rfl rfl Tryd.func35 (by kernel_rfl) rfl #[.agg #[.int .i64 t578, .int .i64 t579, .int .i64 t580, .string t581]] rfl (by (try simp only [List.map_toArray, List.map_cons, List.map_nil]); first | done | rfl | (simp only [List.length_drop, List.length_take]; rfl)) ?_; (with_reducible refine (spec_VersionText.calls k t578 t579 t580 t581 t582 _ A8.out).mono ?_); rintro e w17 ⟨rfl, hb⟩; refine ⟨_, rfl, ?_⟩; have n0_ := Aside0.mk (blk_below (g := gb576) (o := .cells #[.int .i64 a0_0, .int .i64 a0_1, .int .i64 a0_2, .string a0_3] 24 (0, 0)) (by (with_reducible repeat (first | refine blk_drewN ?_ _ | refine blk_drew ?_ | refine blk_alloc ?_ _)); exact BK576.out) hb); have n1_ := Aside0.mk (below_step (by repeat (first | (with_reducible first | exact HB.out | apply below_alloc | apply pw_below_drewN | apply below_drew1 | refine below_set ?_ GE576.out) | exact HB.out)) hb); clear BK576; clear HB; have BK576 := n0_; have HB := n1_; clear n0_ n1_; (try clear hb); (try clear hb2); (try clear hk); (try clear hi); have hcz18_0 : w17.cell? ⟨gb576, 0, none⟩ = some (.int .i64 a0_0) := (blk_cell BK576.out 0).trans rfl; have hcz18_1 : w17.cell? ⟨gb576, 1, none⟩ = some (.int .i64 a0_1) := (blk_cell BK576.out 1).trans rfl; have hcz18_2 : w17.cell? ⟨gb576, 2, none⟩ = some (.int .i64 a0_2) := (blk_cell BK576.out 2).trans rfl; have hcz18_3 : w17.cell? ⟨gb576, 3, none⟩ = some (.string a0_3) := (blk_cell BK576.out 3).trans rfl; have hfz18_0 := blk_frozen BK576.out 0; have hfz18_1 := blk_frozen BK576.out 1; have hfz18_2 := blk_frozen BK576.out 2; have hfz18_3 := blk_frozen BK576.out 3) | ((with_reducible refine gate_callee (f := 19) rfl ?_); refine goesL_ (some 15) rfl rfl Tryd.func19 (by kernel_rfl) rfl #[.agg #[.int .i64 a0_0, .int .i64 a0_1, .int .i64 a0_2, .string a0_3]] rfl (by (try simp only [List.map_toArray, List.map_cons, List.map_nil]); first | done | rfl | (simp only [List.length_drop, List.length_take]; rfl)) ?_; (with_reducible refine (laws_toVersion.calls a0_0 a0_1 a0_2 a0_3 t583 t584 t585 t586 _ A9.out).mono ?_); rintro e w19 ⟨rfl, hb⟩; refine ⟨_, rfl, ?_⟩; have n0_ := Aside0.mk (blk_below (g := gb576) (o := .cells #[.int .i64 a0_0, .int .i64 a0_1, .int .i64 a0_2, .string a0_3] 24 (0, 0)) (by (with_reducible repeat (first | refine blk_drewN ?_ _ | refine blk_drew ?_ | refine blk_alloc ?_ _)); exact BK576.out) hb); have n1_ := Aside0.mk (below_step (by repeat (first | (with_reducible first | exact HB.out | apply below_alloc | apply pw_below_drewN | apply below_drew1 | refine below_set ?_ GE576.out) | exact HB.out)) hb); clear BK576; clear HB; have BK576 := n0_; have HB := n1_; clear n0_ n1_; (try clear hb); (try clear hb2); (try clear hk); (try clear hi)) | ((with_reducible refine gate_callee (f := 36) rfl ?_); refine goesL_ (some 16) rfl rfl Tryd.func36 (by kernel_rfl) rfl #[.agg #[.int .i64 t583, .int .i64 t584, .int .i64 t585, .string t586]] rfl (by (try simp only [List.map_toArray, List.map_cons, List.map_nil]); first | done | rfl | (simp only [List.length_drop, List.length_take]; rfl)) ?_; (with_reducible refine (impl_VersionText.calls (hG_ := globI_on HG_.out (by repeat (first | (with_reducible first | exact HB.out | apply below_alloc | apply pw_below_drewN | apply below_drew1) | exact HB.out))) k t583 t584 t585 t586 t587 _ A10.out).mono ?_); rintro e w20 ⟨rfl, hb⟩; refine ⟨_, rfl, ?_⟩; have n0_ := Aside0.mk (blk_below (g := gb576) (o := .cells #[.int .i64 a0_0, .int .i64 a0_1, .int .i64 a0_2, .string a0_3] 24 (0, 0)) (by (with_reducible repeat (first | refine blk_drewN ?_ _ | refine blk_drew ?_ | refine blk_alloc ?_ _)); exact BK576.out) hb); have n1_ := Aside0.mk (below_step (by repeat (first | (with_reducible first | exact HB.out | apply below_alloc | apply pw_below_drewN | apply below_drew1 | refine below_set ?_ GE576.out) | exact HB.out)) hb); clear BK576; clear HB; have BK576 := n0_; have HB := n1_; clear n0_ n1_; (try clear hb); (try clear hb2); (try clear hk); (try clear hi)))
      go_ret
      exact ⟨by first | rfl | (simp [errW_none, errW_some] <;> rfl) | (simp [*, errW_none, errW_some] <;> rfl), by repeat (first | (with_reducible first | exact HB.out | apply below_alloc | apply pw_below_drewN | apply below_drew1 | refine below_set ?_ GE576.out) | exact HB.out)⟩
    · rw [if_neg c11] at H
      have c11b0 : (t587.toList == t582.toList) = false := beq_eq_false_iff_ne.mpr c11
      have c11b1 : (t587.toList != t582.toList) = true := bne_iff_ne.mpr c11
      obtain rfl := Option.some.inj H
      go_enter Tryd.func11, Tryd.ntmps11
      go_wp2_with (first | ((with_reducible refine gate_dst (N := 1) rfl ?_); refine box_event ?hg (N := 1) ?hd (cs := #[.int .i64 a0_0, .int .i64 a0_1, .int .i64 a0_2, .string a0_3]) (t := 24) ?hr ?_; (case hd => rfl); (case hg => rfl); (case hr => first | (go_simp; done) | (go_simp; rfl)); intro gb576 hg w21 hbox hb; have n0_ := Aside0.mk (below_step (by repeat (first | (with_reducible first | exact HB.out | apply below_alloc | apply pw_below_drewN | apply below_drew1) | exact HB.out)) hb); have n1_ := Aside0.mk (hbox); have n2_ := Aside0.mk ((by rw [hg]; exact (below_size (by repeat (first | (with_reducible first | exact HB.out | apply below_alloc | apply pw_below_drewN | apply below_drew1) | exact HB.out))) : w.heap.size ≤ gb576)); have n3_ := Aside0.mk ((by rw [hg]; exact (below_size (by repeat (first | (with_reducible first | exact HB.out | apply below_alloc | apply pw_below_drewN | apply below_drew1) | exact HB.out))) : w.heap.size ≤ gb576)); clear HB; have HB := n0_; have BK576 := n1_; have GW576 := n2_; have GE576 := n3_; clear n0_ n1_ n2_ n3_; clear hb hbox hg; have hcz22_0 : w21.cell? ⟨gb576, 0, none⟩ = some (.int .i64 a0_0) := (blk_cell BK576.out 0).trans rfl; have hcz22_1 : w21.cell? ⟨gb576, 1, none⟩ = some (.int .i64 a0_1) := (blk_cell BK576.out 1).trans rfl; have hcz22_2 : w21.cell? ⟨gb576, 2, none⟩ = some (.int .i64 a0_2) := (blk_cell BK576.out 2).trans rfl; have hcz22_3 : w21.cell? ⟨gb576, 3, none⟩ = some (.string a0_3) := (blk_cell BK576.out 3).trans rfl; have hfz22_0 := blk_frozen BK576.out 0; have hfz22_1 := blk_frozen BK576.out 1; have hfz22_2 := blk_frozen BK576.out 2; have hfz22_3 := blk_frozen BK576.out 3) | ((with_reducible refine gate_callee (f := 17) rfl ?_); refine goesL_ (some 8) rfl rfl Tryd.func17 (by kernel_rfl) rfl #[.agg #[.int .i64 a0_0, .int .i64 a0_1, .int .i64 a0_2, .string a0_3], .int .i64 1048576] rfl (by (try simp only [List.map_toArray, List.map_cons, List.map_nil]); first | done | rfl | (simp only [List.length_drop, List.length_take]; rfl)) ?_; (with_reducible refine (laws_szVersion.calls a0_0 a0_1 a0_2 a0_3 1048576 t577 _ A2.out).mono ?_); rintro e w23 ⟨rfl, hb⟩; refine ⟨_, rfl, ?_⟩; have n0_ := Aside0.mk (blk_below (g := gb576) (o := .cells #[.int .i64 a0_0, .int .i64 a0_1, .int .i64 a0_2, .string a0_3] 24 (0, 0)) (by (with_reducible repeat (first | refine blk_drewN ?_ _ | refine blk_drew ?_ | refine blk_alloc ?_ _)); exact BK576.out) hb); have n1_ := Aside0.mk (below_step (by repeat (first | (with_reducible first | exact HB.out | apply below_alloc | apply pw_below_drewN | apply below_drew1 | refine below_set ?_ GE576.out) | exact HB.out)) hb); clear BK576; clear HB; have BK576 := n0_; have HB := n1_; clear n0_ n1_; (try clear hb); (try clear hb2); (try clear hk); (try clear hi); have hcz24_0 : w23.cell? ⟨gb576, 0, none⟩ = some (.int .i64 a0_0) := (blk_cell BK576.out 0).trans rfl; have hcz24_1 : w23.cell? ⟨gb576, 1, none⟩ = some (.int .i64 a0_1) := (blk_cell BK576.out 1).trans rfl; have hcz24_2 : w23.cell? ⟨gb576, 2, none⟩ = some (.int .i64 a0_2) := (blk_cell BK576.out 2).trans rfl; have hcz24_3 : w23.cell? ⟨gb576, 3, none⟩ = some (.string a0_3) := (blk_cell BK576.out 3).trans rfl; have hfz24_0 := blk_frozen BK576.out 0; have hfz24_1 := blk_frozen BK576.out 1; have hfz24_2 := blk_frozen BK576.out 2; have hfz24_3 := blk_frozen BK576.out 3) | ((with_reducible refine gate_callee (f := 19) rfl ?_); refine goesL_ (some 12) rfl rfl Tryd.func19 (by kernel_rfl) rfl #[.agg #[.int .i64 a0_0, .int .i64 a0_1, .int .i64 a0_2, .string a0_3]] rfl (by (try simp only [List.map_toArray, List.map_cons, List.map_nil]); first | done | rfl | (simp only [List.length_drop, List.length_take]; rfl)) ?_; (with_reducible refine (laws_toVersion.calls a0_0 a0_1 a0_2 a0_3 t578 t579 t580 t581 _ A7.out).mono ?_); rintro e w25 ⟨rfl, hb⟩; refine ⟨_, rfl, ?_⟩; have n0_ := Aside0.mk (blk_below (g := gb576) (o := .cells #[.int .i64 a0_0, .int .i64 a0_1, .int .i64 a0_2, .string a0_3] 24 (0, 0)) (by (with_reducible repeat (first | refine blk_drewN ?_ _ | refine blk_drew ?_ | refine blk_alloc ?_ _)); exact BK576.out) hb); have n1_ := Aside0.mk (below_step (by repeat (first | (with_reducible first | exact HB.out | apply below_alloc | apply pw_below_drewN | apply below_drew1 | refine below_set ?_ GE576.out) | exact HB.out)) hb); clear BK576; clear HB; have BK576 := n0_; have HB := n1_; clear n0_ n1_; (try clear hb); (try clear hb2); (try clear hk); (try clear hi)) | ((with_reducible refine gate_callee (f := 35) rfl ?_); refine goesL_ (some 13) rfl rfl Tryd.func35 (by kernel_rfl) rfl #[.agg #[.int .i64 t578, .int .i64 t579, .int .i64 t580, .string t581]] rfl (by (try simp only [List.map_toArray, List.map_cons, List.map_nil]); first | done | rfl | (simp only [List.length_drop, List.length_take]; rfl)) ?_; (with_reducible refine (spec_VersionText.calls k t578 t579 t580 t581 t582 _ A8.out).mono ?_); rintro e w26 ⟨rfl, hb⟩; refine ⟨_, rfl, ?_⟩; have n0_ := Aside0.mk (blk_below (g := gb576) (o := .cells #[.int .i64 a0_0, .int .i64 a0_1, .int .i64 a0_2, .string a0_3] 24 (0, 0)) (by (with_reducible repeat (first | refine blk_drewN ?_ _ | refine blk_drew ?_ | refine blk_alloc ?_ _)); exact BK576.out) hb); have n1_ := Aside0.mk (below_step (by repeat (first | (with_reducible first | exact HB.out | apply below_alloc | apply pw_below_drewN | apply below_drew1 | refine below_set ?_ GE576.out) | exact HB.out)) hb); clear BK576; clear HB; have BK576 := n0_; have HB := n1_; clear n0_ n1_; (try clear hb); (try clear hb2); (try clear hk); (try clear hi); have hcz27_0 : w26.cell? ⟨gb576, 0, none⟩ = some (.int .i64 a0_0) := (blk_cell BK576.out 0).trans rfl; have hcz27_1 : w26.cell? ⟨gb576, 1, none⟩ = some (.int .i64 a0_1) := (blk_cell BK576.out 1).trans rfl; have hcz27_2 : w26.cell? ⟨gb576, 2, none⟩ = some (.int .i64 a0_2) := (blk_cell BK576.out 2).trans rfl; have hcz27_3 : w26.cell? ⟨gb576, 3, none⟩ = some (.string a0_3) := (blk_cell BK576.out 3).trans rfl; have hfz27_0 := blk_frozen BK576.out 0; have hfz27_1 := blk_frozen BK576.out 1; have hfz27_2 := blk_frozen BK576.out 2; have hfz27_3 := blk_frozen BK576.out 3) | ((with_reducible refine gate_callee (f := 19) rfl ?_); refine goesL_ (some 15) rfl rfl Tryd.func19 (by kernel_rfl) rfl #[.agg #[.int .i64 a0_0, .int .i64 a0_1, .int .i64 a0_2, .string a0_3]] rfl (by (try simp only [List.map_toArray, List.map_cons, List.map_nil]); first | done | rfl | (simp only [List.length_drop, List.length_take]; rfl)) ?_; (with_reducible refine (laws_toVersion.calls a0_0 a0_1 a0_2 a0_3 t583 t584 t585 t586 _ A9.out).mono ?_); rintro e w28 ⟨rfl, hb⟩; refine ⟨_, rfl, ?_⟩; have n0_ := Aside0.mk (blk_below (g := gb576) (o := .cells #[.int .i64 a0_0, .int .i64 a0_1, .int .i64 a0_2, .string a0_3] 24 (0, 0)) (by (with_reducible repeat (first | refine blk_drewN ?_ _ | refine blk_drew ?_ | refine blk_alloc ?_ _)); exact BK576.out) hb); have n1_ := Aside0.mk (below_step (by repeat (first | (with_reducible first | exact HB.out | apply below_alloc | apply pw_below_drewN | apply below_drew1 | refine below_set ?_ GE576.out) | exact HB.out)) hb); clear BK576; clear HB; have BK576 := n0_; have HB := n1_; clear n0_ n1_; (try clear hb); (try clear hb2); (try clear hk); (try clear hi)) | ((with_reducible refine gate_callee (f := 36) rfl ?_); refine goesL_ (some 16) rfl rfl Tryd.func36 (by kernel_rfl) rfl #[.agg #[.int .i64 t583, .int .i64 t584, .int .i64 t585, .string t586]] rfl (by (try simp only [List.map_toArray, List.map_cons, List.map_nil]); first | done | rfl | (simp only [List.length_drop, List.length_take]; rfl)) ?_; (with_reducible refine (impl_VersionText.calls (hG_ := globI_on HG_.out (by repeat (first | (with_reducible first | exact HB.out | apply below_alloc | apply pw_below_drewN | apply below_drew1) | exact HB.out))) k t583 t584 t585 t586 t587 _ A10.out).mono ?_); rintro e w29 ⟨rfl, hb⟩; refine ⟨_, rfl, ?_⟩; have n0_ := Aside0.mk (blk_below (g := gb576) (o := .cells #[.int .i64 a0_0, .int .i64 a0_1, .int .i64 a0_2, .string a0_3] 24 (0, 0)) (by (with_reducible repeat (first | refine blk_drewN ?_ _ | refine blk_drew ?_ | refine blk_alloc ?_ _)); exact BK576.out) hb); have n1_ := Aside0.mk (below_step (by repeat (first | (with_reducible first | exact HB.out | apply below_alloc | apply pw_below_drewN | apply below_drew1 | refine below_set ?_ GE576.out) | exact HB.out)) hb); clear BK576; clear HB; have BK576 := n0_; have HB := n1_; clear n0_ n1_; (try clear hb); (try clear hb2); (try clear hk); (try clear hi)))
      go_ret
      exact ⟨by first | rfl | (simp [errW_none, errW_some] <;> rfl) | (simp [*, errW_none, errW_some] <;> rfl), by repeat (first | (with_reducible first | exact HB.out | apply below_alloc | apply pw_below_drewN | apply below_drew1 | refine below_set ?_ GE576.out) | exact HB.out)⟩

/-- THE ONE PURE STATEMENT of laws_FnExactVersionText: yours. -/
def laws_FnExactVersionText.Pure : Prop := ∀ (a0_0 : Int) (a0_1 : Int) (a0_2 : Int) (a0_3 : ByteArray), (((Lit.int .i64 a0_0).wf = true) ∧ ((Lit.int .i64 a0_1).wf = true) ∧ ((Lit.int .i64 a0_2).wf = true) ∧ a0_3.size ≤ maxLen) → ∃ k, laws_FnExactVersionText.f k a0_0 a0_1 a0_2 a0_3 = some true
theorem laws_FnExactVersionText.walk (P : laws_FnExactVersionText.Pure) (a0_0 : Int) (a0_1 : Int) (a0_2 : Int) (a0_3 : ByteArray) (w : World) (hG_ : GlobI w)  (hg0 : ((Lit.int .i64 a0_0).wf = true) ∧ ((Lit.int .i64 a0_1).wf = true) ∧ ((Lit.int .i64 a0_2).wf = true) ∧ a0_3.size ≤ maxLen) :
    Calls Tryd.prog 11 #[.agg #[.int .i64 a0_0, .int .i64 a0_1, .int .i64 a0_2, .string a0_3]] w fun e w' => e = .returned (.bool true) ∧ Below w.heap.size w w' := by
  obtain ⟨k, h⟩ := P a0_0 a0_1 a0_2 a0_3 hg0
  refine (laws_FnExactVersionText.calls (hG_ := hG_) k a0_0 a0_1 a0_2 a0_3 true w h).mono ?_
  rintro e w' ⟨rfl, hd⟩
  exact ⟨rfl, hd⟩

end Go.Proofs.YtagbldaiedmikaaDoor.X

/- Plain lemmas for what the printed functions compute: enough rounds ('Ev'), tests, bounds of whole numbers, lists. No Go, no memory. -/
set_option linter.unusedVariables false
namespace Go.Proofs.YtagbldaiedmikaaDoor.Z
open Go.RowKit Go.Proofs.YtagbldaiedmikaaDoorW.PrintWords Go.Proofs.YtagbldaiedmikaaDoorW.PrintMore

theorem evT {α : Type} {c : Prop} [Decidable c] {f g : Nat → Option α} {r : α} (h : c) (H : Ev f r) : Ev (fun k => if c then f k else g k) r := by
  obtain ⟨K, hK⟩ := H
  exact ⟨K, fun k hk => (if_pos h).trans (hK k hk)⟩
theorem evF {α : Type} {c : Prop} [Decidable c] {f g : Nat → Option α} {r : α} (h : ¬ c) (H : Ev g r) : Ev (fun k => if c then f k else g k) r := by
  obtain ⟨K, hK⟩ := H
  exact ⟨K, fun k hk => (if_neg h).trans (hK k hk)⟩
theorem evI {α : Type} {c : Prop} [Decidable c] {f g : Nat → Option α} {r : α} (H : c → Ev f r) (H' : ¬ c → Ev g r) : Ev (fun k => if c then f k else g k) r := by
  by_cases h : c
  · exact evT h (H h)
  · exact evF h (H' h)
theorem evB {α β : Type} {g : Nat → Option α} {f : Nat → α → Option β} {a : α} {r : β} (h : Ev g a) (k : Ev (fun n => f n a) r) : Ev (fun n => (g n).bind (f n)) r := Ev.bind h k
theorem evR {α : Type} {r r' : α} (h : r = r') : Ev (fun _ => some r) r' := h ▸ Ev.now r
/-- A callee without rounds. -/
theorem evC {α β : Type} {x : Option α} {f : Nat → α → Option β} {a : α} {r : β} (h : x = some a) (k : Ev (fun n => f n a) r) : Ev (fun n => x.bind (f n)) r := by
  subst h
  exact k
theorem evS {α : Type} {g f : Nat → Option α} {r : α} (h : ∀ k, g (k + 1) = f k) (k : Ev f r) : Ev g r := Ev.step h k
theorem evE {α : Type} {g : Nat → Option α} {r r' : α} (h : r = r') (k : Ev g r) : Ev g r' := h ▸ k
/-- Two answers of one function are one. -/
theorem ev_one {α : Type} {g : Nat → Option α} {r r' : α} (h : Ev g r) (h' : Ev g r') : r = r' := by
  obtain ⟨K, hK⟩ := h
  obtain ⟨L, hL⟩ := h'
  have a := hK (max K L) (Nat.le_max_left _ _)
  have b := hL (max K L) (Nat.le_max_right _ _)
  rw [a] at b
  exact Option.some.inj b

theorem w64 {x : Int} (h : -9223372036854775808 ≤ x ∧ x ≤ 9223372036854775807) : wrap64 x = x := by unfold wrap64; omega
theorem w64s {i n : Nat} (h : i < n) (hn : n ≤ 9223372036854775807) : wrap64 ((i : Int) + 1) = ((i + 1 : Nat) : Int) := by unfold wrap64; omega
theorem wu64 {x : Int} (h : 0 ≤ x ∧ x ≤ 18446744073709551615) : IntKind.u64.wrap x = x := by
  simp [IntKind.wrap, IntKind.bits, IntKind.signed]
  omega
theorem wi64 (x : Int) : IntKind.i64.wrap x = wrap64 x := by rw [Go.IntKind.wrap_i64]; unfold wrap64; rfl
theorem wraps_i64 (n : Int) (h₀ : 0 ≤ n) (h₁ : n < 2 ^ 63) : IntKind.i64.wrap n = n := by
  rw [wi64, w64]
  have : (2 : Int) ^ 63 = 9223372036854775808 := by decide
  omega

/-- Two lists that tell the same at each place. -/
theorem ext_get {α : Type} {l m : List α} (hn : l.length = m.length) (h : ∀ j, j < m.length → l[j]? = m[j]?) : l = m := by
  apply List.ext_getElem?
  intro j
  rcases Nat.lt_or_ge j m.length with hj | hj
  · exact h j hj
  · rw [List.getElem?_eq_none (by omega), List.getElem?_eq_none (by omega)]
theorem rd_get {l : List Int} {i : Nat} (h : i < l.length) : l[i]? = some (rd l (i : Int)) := by
  simp [rd, List.getElem?_eq_getElem h]
theorem rdOf_get {α : Type} {d : α} {l : List α} {i : Nat} (h : i < l.length) : l[i]? = some (rdOf d l (i : Int)) := by
  simp [rdOf, List.getElem?_eq_getElem h]
/-- A place that is written as it must be: one more place tells the same. -/
theorem set_next {α : Type} {l m : List α} {i : Nat} {x : α} (hn : l.length = m.length) (hi : i < m.length) (hx : m[i]? = some x) (h : ∀ j, j < i → l[j]? = m[j]?) : ∀ j, j < i + 1 → (l.set i x)[j]? = m[j]? := by
  intro j hj
  rcases Nat.lt_or_ge j i with h1 | h1
  · rw [List.getElem?_set_ne (by omega)]
    exact h j h1
  · obtain rfl : i = j := by omega
    rw [List.getElem?_set_self (by omega), hx]
end Go.Proofs.YtagbldaiedmikaaDoor.Z

/- Strings as lists of bytes. No Go, no memory. -/
set_option linter.unusedVariables false
namespace Go.Proofs.YtagbldaiedmikaaDoor.Z
open Go.RowKit Go.Proofs.YtagbldaiedmikaaDoorW.PrintWords Go.Proofs.YtagbldaiedmikaaDoorW.PrintMore
theorem tl_loop (a : ByteArray) (d : Nat) : ∀ i r, a.size = i + d → ByteArray.toList.loop a i r = r.reverse ++ a.data.toList.drop i := by
  have h2 := data_length a
  induction d with
  | zero =>
    intro i r h
    unfold ByteArray.toList.loop
    rw [if_neg (by omega), List.drop_eq_nil_of_le (by omega), List.append_nil]
  | succ d ih =>
    intro i r h
    unfold ByteArray.toList.loop
    rw [if_pos (by omega), ih (i + 1) _ (by omega)]
    have hi : i < a.data.size := by
      have : a.data.size = a.size := rfl
      omega
    rw [List.drop_eq_getElem_cons (i := i) (by simpa using hi)]
    simp [ByteArray.get!]
    exact getElem!_pos a.data i hi
theorem tl (a : ByteArray) : a.toList = a.data.toList := by
  unfold ByteArray.toList
  rw [tl_loop a a.size 0 [] (by omega)]
  simp
theorem tl_inj {a b : ByteArray} : a.toList = b.toList ↔ a = b := by
  constructor
  · intro h
    rw [tl, tl] at h
    have h1 : a.data = b.data := Array.toList_inj.1 h
    cases a
    cases b
    simp_all
  · rintro rfl
    rfl

end Go.Proofs.YtagbldaiedmikaaDoor.Z

/- Ranges, the program's and the reference's: the same. Plain lemmas. -/
set_option linter.unusedVariables false
namespace Go.Proofs.YtagbldaiedmikaaDoor.Z
open Go.RowKit Go.Proofs.YtagbldaiedmikaaDoorW.PrintWords Go.Proofs.YtagbldaiedmikaaDoorW.PrintMore Go.Proofs.YtagbldaiedmikaaDoor.X
theorem rng_impl (a b c : Int) : impl_inRange.f a b c = some (decide (b ≤ a ∧ a ≤ c)) := by
  unfold impl_inRange.f
  by_cases h : a ≥ b
  · rw [if_pos h]
    simp [show b ≤ a from h]
  · rw [if_neg h]
    simp [show ¬ b ≤ a from h]
theorem rng_spec (a b c : Int) : spec_l1In.f a b c = some (decide (b ≤ a ∧ a ≤ c)) := by
  unfold spec_l1In.f
  by_cases h : a ≥ b
  · rw [if_pos h]
    simp [show b ≤ a from h]
  · rw [if_neg h]
    simp [show ¬ b ≤ a from h]
end Go.Proofs.YtagbldaiedmikaaDoor.Z

/- A text's pieces, the reference's: those between the bytes. Plain lemmas. -/
set_option linter.unusedVariables false
namespace Go.Proofs.YtagbldaiedmikaaDoor.Z
open Go.RowKit Go.Proofs.YtagbldaiedmikaaDoorW.PrintWords Go.Proofs.YtagbldaiedmikaaDoorW.PrintMore Go.Proofs.YtagbldaiedmikaaDoor.X Go.Proofs.YtagbldaiedmikaaDoor.Sp
theorem byte_at (s : ByteArray) (i : Nat) (h : i < s.size) : bt s (i : Int) = ((s.data.toList[i]'(by rw [data_length]; exact h)).toNat : Int) := by
  have := rd_bytesOf s (i : Int)
  rw [← this]
  unfold rd bytesOf
  simp [List.getD_eq_getElem?_getD, h]
theorem ext_list (s : ByteArray) (f i : Nat) : s.extract f i = ⟨((s.data.toList.drop f).take (i - f)).toArray⟩ := by
  have h : (s.extract f i).data.toList = (s.data.toList.drop f).take (i - f) := by
    simp [ByteArray.data_extract, List.extract_eq_take_drop]
  cases hx : s.extract f i with
  | mk d =>
    rw [hx] at h
    congr 1
    rw [← h]
/-- The pieces, bytes more ahead of the first. -/
def pcsF (pre : List UInt8) (c : UInt8) (l : List UInt8) : List (List UInt8) :=
  match pcs c l with
  | [] => [pre]
  | h :: t => (pre ++ h) :: t
theorem pcs_ne (c : UInt8) (l : List UInt8) : pcs c l ≠ [] := fun h => by
  have := pcs_length c l
  rw [h] at this
  simp at this
theorem pcsF_nil (c : UInt8) (l : List UInt8) : pcsF [] c l = pcs c l := by
  unfold pcsF
  cases h : pcs c l with
  | nil => exact absurd h (pcs_ne c l)
  | cons a t => rfl
theorem pcsF_eq (pre : List UInt8) (c : UInt8) (l : List UInt8) : pcsF pre c (c :: l) = pre :: pcsF [] c l := by
  rw [pcsF_nil]
  unfold pcsF
  rw [pcs, if_pos rfl]
  simp
theorem pcsF_ne (pre : List UInt8) (b c : UInt8) (l : List UInt8) (h : b ≠ c) : pcsF pre c (b :: l) = pcsF (pre ++ [b]) c l := by
  unfold pcsF
  rw [pcs, if_neg h]
  cases hp : pcs c l with
  | nil => exact absurd hp (pcs_ne c l)
  | cons a t => simp [onto]
theorem pcsF_end (pre : List UInt8) (c : UInt8) : pcsF pre c [] = [pre] := by simp [pcsF, pcs]
def toB (l : List UInt8) : ByteArray := ⟨l.toArray⟩
theorem split_l0 (s : ByteArray) (hs : s.size ≤ 1048576) (c : UInt8) (d : Nat) : ∀ (i f : Nat) (out : List ByteArray), i + d = s.size → f ≤ i → out.length + d ≤ 1048577 →
    Ev (fun k => spec_l3Split.l0 k s (c.toNat : Int) out (f : Int) (i : Int)) (out ++ (pcsF ((s.data.toList.drop f).take (i - f)) c (s.data.toList.drop i)).map toB) := by
  induction d with
  | zero =>
    intro i f out hi hf ho
    rw [List.drop_eq_nil_of_le (show s.data.toList.length ≤ i by rw [data_length]; omega), pcsF_end]
    refine evS (fun k => by rw [spec_l3Split.l0]) ?_
    rw [w64s (show i < 1048577 by omega) (by omega), show ((f : Nat) : Int).toNat = f by omega, show ((i : Nat) : Int).toNat = i by omega, ext_list]
    refine evT (by omega) (evT (by omega) (evT (by omega) (evT (by omega) (evT (by omega) ?_))))
    refine evS (fun k => by rw [spec_l3Split.l0]) ?_
    exact evF (by omega) (evR rfl)
  | succ d ih =>
    intro i f out hi hf ho
    have hl : i < s.data.toList.length := by rw [data_length]; omega
    have hb := byte_at s i (by omega)
    rw [List.drop_eq_getElem_cons hl]
    refine evS (fun k => by rw [spec_l3Split.l0]) ?_
    rw [w64s (show i < 1048577 by omega) (by omega), show ((f : Nat) : Int).toNat = f by omega, show ((i : Nat) : Int).toNat = i by omega, hb, ext_list]
    refine evT (by omega) (evF (by omega) (evT (by omega) (evT (by omega) ?_)))
    by_cases hc : s.data.toList[i] = c
    · refine evT (by rw [hc]) (evT (by omega) (evT (by omega) (evT (by omega) ?_)))
      refine evE ?_ (ih (i + 1) (i + 1) _ (by omega) (Nat.le_refl _) (by simp; omega))
      rw [hc, pcsF_eq, Nat.sub_self, List.take_zero]
      simp [toB]
    · refine evF (fun e => hc (UInt8.toNat_inj.1 (by omega))) ?_
      refine evE ?_ (ih (i + 1) f out (by omega) (by omega) (by omega))
      rw [pcsF_ne _ _ _ _ hc]
      congr 3
      have hl2 : i - f < (s.data.toList.drop f).length := by rw [List.length_drop]; omega
      rw [show i + 1 - f = (i - f) + 1 by omega, List.take_succ_eq_append_getElem hl2]
      congr 2
      rw [List.getElem_drop]
      congr 1
      omega
theorem split_spec (s : ByteArray) (hs : s.size ≤ 1048576) (c : UInt8) : Ev (fun k => spec_l3Split.f k s (c.toNat : Int)) (pieces c s) := by
  have h := split_l0 s hs c s.size 0 0 [] (by omega) (Nat.le_refl _) (by simp; omega)
  rw [Nat.sub_self, List.take_zero, List.drop_zero, pcsF_nil, List.nil_append] at h
  exact h
theorem pcs_mem (c : UInt8) : ∀ (l : List UInt8) (x : List UInt8), x ∈ pcs c l → x.length ≤ l.length
  | [], x, h => by simp [pcs] at h; simp [h]
  | b :: l, x, h => by
    have ih := pcs_mem c l
    rw [pcs] at h
    split at h
    · rcases List.mem_cons.1 h with rfl | h
      · simp
      · have := ih x h; simp; omega
    · cases hp : pcs c l with
      | nil => exact absurd hp (pcs_ne c l)
      | cons a t =>
        rw [hp] at h
        rcases List.mem_cons.1 h with rfl | h
        · have := ih a (by rw [hp]; exact List.mem_cons_self); simp; omega
        · have := ih x (by rw [hp]; exact List.mem_cons_of_mem _ h); simp; omega
theorem pieces_mem (c : UInt8) (s : ByteArray) : ∀ x ∈ pieces c s, x.size ≤ s.size := by
  intro x hx
  obtain ⟨l, hl, rfl⟩ := List.mem_map.1 hx
  have := pcs_mem c _ l hl
  rw [data_length] at this
  show l.toArray.size ≤ _
  simpa using this
theorem pieces_count (c : UInt8) (s : ByteArray) : (pieces c s).length ≤ s.size + 1 := by
  rw [pieces, List.length_map, pcs_length]
  have := List.count_le_length (a := c) (l := s.data.toList)
  rw [data_length] at this
  omega
theorem rdOf_mem {l : List ByteArray} {i : Nat} (h : i < l.length) : rdOf ByteArray.empty l (i : Int) ∈ l := List.mem_of_getElem? (rdOf_get (d := ByteArray.empty) h)
end Go.Proofs.YtagbldaiedmikaaDoor.Z

/- Numbers in versions, the program's and the reference's. Plain lemmas. -/
set_option linter.unusedVariables false
namespace Go.Proofs.YtagbldaiedmikaaDoor.Z
open Go.RowKit Go.Proofs.YtagbldaiedmikaaDoorW.PrintWords Go.Proofs.YtagbldaiedmikaaDoorW.PrintMore Go.Proofs.YtagbldaiedmikaaDoor.X Go.Proofs.YtagbldaiedmikaaDoor.Sp
def isD (u : UInt8) : Bool := decide (48 ≤ u.toNat ∧ u.toNat ≤ 57)
def figs (s : ByteArray) : Bool := s.data.toList.all isD && decide (s.size ≠ 0)
theorem figure_ev (b : Int) : impl_isFigure.f b = some (decide (48 ≤ b ∧ b ≤ 57)) := by
  unfold impl_isFigure.f
  by_cases h : b ≥ 48
  · rw [if_pos h]
    simp [show 48 ≤ b from h]
  · rw [if_neg h]
    simp [show ¬ 48 ≤ b from h]
theorem ne_nil (s : ByteArray) : (s.toList != ([] : List UInt8)) = decide (s.size ≠ 0) := by
  rw [tl]
  have := data_length s
  by_cases h : s.size = 0
  · rw [List.eq_nil_of_length_eq_zero (show s.data.toList.length = 0 by omega)]
    simp [h]
  · have h1 : s.data.toList ≠ [] := fun e => by rw [e] at this; simp at this; omega
    simp [h1, h]
theorem figs_l0 (s : ByteArray) (hs : s.size ≤ 1048576) (d : Nat) : ∀ i : Nat, i + d = s.size → Ev (fun k => impl_isFigures.l0 k s (i : Int)) ((s.data.toList.drop i).all isD && decide (s.size ≠ 0)) ∧ Ev (fun k => spec_l3Digits.l0 k s (i : Int)) ((s.data.toList.drop i).all isD && decide (s.size ≠ 0)) := by
  induction d with
  | zero =>
    intro i hi
    rw [List.drop_eq_nil_of_le (show s.data.toList.length ≤ i by rw [data_length]; omega)]
    constructor
    · refine evS (fun k => by rw [impl_isFigures.l0]) ?_
      exact evF (by omega) (evR (by rw [ne_nil]; rfl))
    · refine evS (fun k => by rw [spec_l3Digits.l0]) ?_
      exact evF (by omega) (evR (by rw [ne_nil]; rfl))
  | succ d ih =>
    intro i hi
    have hl : i < s.data.toList.length := by rw [data_length]; omega
    have hb := byte_at s i (by omega)
    have hlt : (s.data.toList[i]).toNat < 256 := UInt8.toNat_lt _
    have hw : wrap64 (((s.data.toList[i]).toNat : Nat) : Int) = (((s.data.toList[i]).toNat : Nat) : Int) := w64 (by omega)
    obtain ⟨h1, h2⟩ := ih (i + 1) (by omega)
    have he : (s.data.toList.drop i).all isD = (isD s.data.toList[i] && (s.data.toList.drop (i + 1)).all isD) := by
      rw [List.drop_eq_getElem_cons hl]
      rfl
    have hd : decide (48 ≤ (((s.data.toList[i]).toNat : Nat) : Int) ∧ (((s.data.toList[i]).toNat : Nat) : Int) ≤ 57) = isD s.data.toList[i] := by
      unfold isD
      exact decide_eq_decide.2 (by omega)
    rw [he]
    constructor
    · refine evS (fun k => by rw [impl_isFigures.l0]) ?_
      rw [hb, w64s (show i < s.size by omega) (by omega)]
      refine evT (by omega) (evT (by omega) (evC (figure_ev _) ?_))
      rw [hd]
      cases hx : isD s.data.toList[i] with
      | true => exact evT rfl (by simpa using h1)
      | false => exact evF Bool.false_ne_true (evR rfl)
    · refine evS (fun k => by rw [spec_l3Digits.l0]) ?_
      rw [hb, hw, w64s (show i < s.size by omega) (by omega)]
      refine evT (by omega) (evT (by omega) (evC (rng_spec _ _ _) ?_))
      rw [hd]
      cases hx : isD s.data.toList[i] with
      | true => exact evT rfl (by simpa using h2)
      | false => exact evF Bool.false_ne_true (evR rfl)
theorem figs_impl (s : ByteArray) (hs : s.size ≤ 1048576) : Ev (fun k => impl_isFigures.f k s) (figs s) := (figs_l0 s hs s.size 0 (by omega)).1
theorem figs_spec (s : ByteArray) (hs : s.size ≤ 1048576) : Ev (fun k => spec_l3Digits.f k s) (figs s) := (figs_l0 s hs s.size 0 (by omega)).2
def num (s : ByteArray) : Bool := figs s && (decide (s.data.toList = [48]) || decide (bt s 0 ≠ 48))
theorem figs_size {s : ByteArray} (h : figs s = true) : 0 < s.size := by
  simp only [figs, Bool.and_eq_true, decide_eq_true_eq] at h
  have := h.2
  omega
theorem num_impl (s : ByteArray) (hs : s.size ≤ 1048576) : Ev (fun k => impl_isNumber.f k s) (num s) := by
  unfold impl_isNumber.f num
  refine evB (figs_impl s hs) ?_
  cases hf : figs s with
  | false => exact evF Bool.false_ne_true (evR rfl)
  | true =>
    have := figs_size hf
    refine evT rfl ?_
    by_cases h : s.data.toList = [48]
    · exact evT (by rw [tl]; exact h) (evR (by simp [h]))
    · refine evF (by rw [tl]; exact h) (evT (by omega) (evR ?_))
      simp [h, bne, decide_not]
      by_cases hb : bt s 0 = 48
      · simp [hb]
      · simp [hb]
def digit (b : UInt8) : Nat := b.toNat - 48
def valA (a : Nat) (l : List UInt8) : Nat := l.foldl (fun n b => n * 10 + digit b) a
theorem valA_nil (a : Nat) : valA a [] = a := rfl
theorem valA_cons (a : Nat) (b : UInt8) (l : List UInt8) : valA a (b :: l) = valA (a * 10 + digit b) l := by unfold valA; rw [List.foldl_cons]
def val (l : List UInt8) : Nat := valA 0 l
theorem valA_eq (l : List UInt8) : ∀ a : Nat, valA a l = a * 10 ^ l.length + valA 0 l := by
  induction l with
  | nil => intro a; simp [valA_nil]
  | cons b l ih =>
    intro a
    rw [valA_cons, ih, valA_cons, ih (0 * 10 + digit b), List.length_cons, Nat.pow_succ, Nat.add_mul, Nat.zero_mul, Nat.zero_add, Nat.mul_assoc, Nat.mul_comm 10, Nat.add_assoc]
theorem val_cons (b : UInt8) (l : List UInt8) : val (b :: l) = digit b * 10 ^ l.length + val l := by
  unfold val
  rw [valA_cons, valA_eq, Nat.zero_mul, Nat.zero_add]
theorem isD_iff (u : UInt8) : isD u = true ↔ 48 ≤ u.toNat ∧ u.toNat ≤ 57 := by unfold isD; exact decide_eq_true_iff
theorem val_lt (l : List UInt8) (h : l.all isD = true) : val l < 10 ^ l.length := by
  induction l with
  | nil => exact Nat.one_pos
  | cons b l ih =>
    simp only [List.all_cons, Bool.and_eq_true] at h
    have hb := (isD_iff b).1 h.1
    have := ih h.2
    rw [val_cons, List.length_cons, Nat.pow_succ]
    have h9 : digit b * 10 ^ l.length ≤ 9 * 10 ^ l.length := Nat.mul_le_mul_right _ (by unfold digit; omega)
    omega
theorem val_l0 (s : ByteArray) (hs : s.size ≤ 8) (ha : s.data.toList.all isD = true) (d : Nat) : ∀ (i : Nat) (a : Nat), i + d = s.size → a < 10 ^ i → Ev (fun k => spec_l3Number.l0 k s (a : Int) (i : Int)) ((valA a (s.data.toList.drop i) : Nat) : Int) := by
  induction d with
  | zero =>
    intro i a hi hlt
    rw [List.drop_eq_nil_of_le (show s.data.toList.length ≤ i by rw [data_length]; omega)]
    refine evS (fun k => by rw [spec_l3Number.l0]) ?_
    exact evF (by omega) (evR rfl)
  | succ d ih =>
    intro i a hi hlt
    have hl : i < s.data.toList.length := by rw [data_length]; omega
    have hb := byte_at s i (by omega)
    have hD := (isD_iff _).1 (List.all_eq_true.1 ha _ (List.getElem_mem hl))
    have hp : 10 ^ i ≤ 10 ^ 7 := Nat.pow_le_pow_right (by decide) (by omega)
    rw [List.drop_eq_getElem_cons hl, valA_cons]
    unfold digit
    generalize (s.data.toList[i]).toNat = n at *
    have e1 : wrap64 (wrap64 ((a : Int) * 10) + ((n : Int) - 48) % 256) = ((a * 10 + (n - 48) : Nat) : Int) := by
      rw [w64 (x := (a : Int) * 10) (by omega), w64 (by omega)]
      omega
    refine evS (fun k => by rw [spec_l3Number.l0]) ?_
    rw [hb, e1, w64s (show i < s.size by omega) (by omega)]
    refine evT (by omega) (evT (by omega) (ih (i + 1) _ (by omega) ?_))
    rw [Nat.pow_succ]
    omega
/-- A number of at most eight digits. -/
def short (s : ByteArray) : Bool := num s && decide (s.size ≤ 8)
def numS (s : ByteArray) : Int := if short s = true then ((val s.data.toList : Nat) : Int) else -1
theorem head_one (s : ByteArray) (h : s.size = 1) : s.data.toList = [48] ↔ bt s 0 = 48 := by
  have hl : s.data.toList.length = 1 := by rw [data_length]; exact h
  have hb : bt s 0 = _ := byte_at s 0 (by omega)
  obtain ⟨x, hx⟩ := List.length_eq_one_iff.1 hl
  rw [hb]
  simp only [hx, List.getElem_cons_zero, List.cons.injEq, and_true]
  constructor
  · rintro rfl; rfl
  · intro e
    exact UInt8.toNat_inj.1 (by show x.toNat = 48; omega)
theorem numS_spec (s : ByteArray) (hs : s.size ≤ 1048576) : Ev (fun k => spec_l3Number.f k s) (numS s) := by
  unfold spec_l3Number.f
  refine evB (figs_spec s hs) ?_
  cases hf : figs s with
  | false =>
    have e : numS s = -1 := by unfold numS short num; rw [hf]; rfl
    rw [e]
    refine evF Bool.false_ne_true ?_
    refine evS (fun k => by rw [spec_l3Number.j0]) ?_
    exact evT rfl (evR rfl)
  | true =>
    have hz := figs_size hf
    have ha : s.data.toList.all isD = true := by unfold figs at hf; simp at hf; simpa using hf.1
    refine evT rfl ?_
    by_cases h8 : (s.size : Int) > 8
    · have e : numS s = -1 := by
        unfold numS short
        rw [decide_eq_false (by omega), Bool.and_false, if_neg Bool.false_ne_true]
      rw [e]
      refine evT h8 ?_
      refine evS (fun k => by rw [spec_l3Number.j0]) ?_
      exact evT rfl (evR rfl)
    · refine evF h8 ?_
      have hv := val_l0 s (by omega) ha s.size 0 0 (by omega) (by decide)
      have hv' : Ev (fun k => spec_l3Number.l0 k s 0 0) ((val s.data.toList : Nat) : Int) := hv
      by_cases h1 : (s.size : Int) > 1
      · refine evT h1 (evT (by omega) ?_)
        have hne : ¬ s.data.toList = [48] := fun e => by
          have := data_length s
          rw [e] at this
          simp at this
          omega
        by_cases hb : bt s 0 = 48
        · have e : numS s = -1 := by
            unfold numS short num
            rw [decide_eq_false hne, decide_eq_false (fun h => h hb)]
            simp
          rw [e, hb]
          refine evS (fun k => by rw [spec_l3Number.j0]) ?_
          exact evT rfl (evR rfl)
        · have e : numS s = ((val s.data.toList : Nat) : Int) := by
            unfold numS short num
            rw [hf, decide_eq_true hb, decide_eq_true (show s.size ≤ 8 by omega)]
            simp
          rw [e, beq_eq_false_iff_ne.2 hb]
          refine evS (fun k => by rw [spec_l3Number.j0]) ?_
          exact evF Bool.false_ne_true hv'
      · refine evF h1 ?_
        have h11 : s.size = 1 := by omega
        have e : numS s = ((val s.data.toList : Nat) : Int) := by
          unfold numS short num
          rw [hf, decide_eq_true (show s.size ≤ 8 by omega)]
          have := head_one s h11
          by_cases hb : bt s 0 = 48
          · rw [decide_eq_true (this.2 hb)]; simp
          · rw [decide_eq_true hb]; simp
        rw [e]
        refine evS (fun k => by rw [spec_l3Number.j0]) ?_
        exact evF Bool.false_ne_true hv'
end Go.Proofs.YtagbldaiedmikaaDoor.Z

/- Right versions, the program's and the reference's: the same. Plain lemmas. -/
set_option linter.unusedVariables false
namespace Go.Proofs.YtagbldaiedmikaaDoor.Z
open Go.RowKit Go.Proofs.YtagbldaiedmikaaDoorW.PrintWords Go.Proofs.YtagbldaiedmikaaDoorW.PrintMore Go.Proofs.YtagbldaiedmikaaDoor.X Go.Proofs.YtagbldaiedmikaaDoor.Sp
/-- A sign of a part. -/
def pch (b : Int) : Prop := (97 ≤ b ∧ b ≤ 122) ∨ (65 ≤ b ∧ b ≤ 90) ∨ (48 ≤ b ∧ b ≤ 57) ∨ b = 45
instance (b : Int) : Decidable (pch b) := by unfold pch; infer_instance
def pchU (u : UInt8) : Bool := decide (pch (u.toNat : Int))
theorem ev_fig {b : Int} {A : Nat → Option Bool} {r : Bool} (H : (48 ≤ b ∧ b ≤ 57) ∨ b = 45 → Ev A r) (H' : ¬ ((48 ≤ b ∧ b ≤ 57) ∨ b = 45) → r = false) :
    Ev (fun k => (impl_isFigure.f b).bind fun t => if t = true then A k else if b = 45 then A k else some false) r := by
  refine evC (figure_ev b) ?_
  by_cases h : 48 ≤ b ∧ b ≤ 57
  · exact evT (decide_eq_true h) (H (.inl h))
  · refine evF (by simpa using h) ?_
    by_cases h2 : b = 45
    · exact evT h2 (H (.inr h2))
    · exact evF h2 (evR (H' (fun e => e.elim h h2)).symm)
theorem ev_sign {b : Int} {A : Nat → Option Bool} {r : Bool} (H : pch b → Ev A r) (H' : ¬ pch b → r = false) :
    Ev (fun k => if b ≥ 97 then (if b ≤ 122 then A k else (if b ≥ 65 then (if b ≤ 90 then A k else ((impl_isFigure.f b).bind fun t => if t = true then A k else if b = 45 then A k else some false)) else ((impl_isFigure.f b).bind fun t => if t = true then A k else if b = 45 then A k else some false))) else (if b ≥ 65 then (if b ≤ 90 then A k else ((impl_isFigure.f b).bind fun t => if t = true then A k else if b = 45 then A k else some false)) else ((impl_isFigure.f b).bind fun t => if t = true then A k else if b = 45 then A k else some false))) r := by
  have F : (¬ (97 ≤ b ∧ b ≤ 122)) → (¬ (65 ≤ b ∧ b ≤ 90)) → Ev (fun k => (impl_isFigure.f b).bind fun t => if t = true then A k else if b = 45 then A k else some false) r := fun h1 h2 =>
    ev_fig (fun h => H (by unfold pch; omega)) (fun h => H' (by unfold pch; omega))
  have M : (¬ (97 ≤ b ∧ b ≤ 122)) → Ev (fun k => if b ≥ 65 then (if b ≤ 90 then A k else ((impl_isFigure.f b).bind fun t => if t = true then A k else if b = 45 then A k else some false)) else ((impl_isFigure.f b).bind fun t => if t = true then A k else if b = 45 then A k else some false)) r := fun h1 => by
    by_cases h : b ≥ 65
    · refine evT h ?_
      by_cases h2 : b ≤ 90
      · exact evT h2 (H (by unfold pch; omega))
      · exact evF h2 (F h1 (by omega))
    · exact evF h (F h1 (by omega))
  by_cases h : b ≥ 97
  · refine evT h ?_
    by_cases h2 : b ≤ 122
    · exact evT h2 (H (by unfold pch; omega))
    · exact evF h2 (M (by omega))
  · exact evF h (M (by omega))
theorem ev_signS {b : Int} {A : Nat → Option Bool} {r : Bool} (H : pch b → Ev A r) (H' : ¬ pch b → r = false) :
    Ev (fun k => (spec_l1In.f b 97 122).bind fun t => (if t = true then A k else ((spec_l1In.f b 65 90).bind fun t => (if t = true then A k else ((spec_l1In.f b 48 57).bind fun t => (if t = true then A k else (if b = 45 then A k else (some false)))))))) r := by
  refine evC (rng_spec _ _ _) ?_
  by_cases h1 : 97 ≤ b ∧ b ≤ 122
  · exact evT (decide_eq_true h1) (H (by unfold pch; omega))
  refine evF (by simpa using h1) (evC (rng_spec _ _ _) ?_)
  by_cases h2 : 65 ≤ b ∧ b ≤ 90
  · exact evT (decide_eq_true h2) (H (by unfold pch; omega))
  refine evF (by simpa using h2) (evC (rng_spec _ _ _) ?_)
  by_cases h3 : 48 ≤ b ∧ b ≤ 57
  · exact evT (decide_eq_true h3) (H (by unfold pch; omega))
  refine evF (by simpa using h3) ?_
  by_cases h4 : b = 45
  · exact evT h4 (H (by unfold pch; omega))
  · exact evF h4 (evR (H' (by unfold pch; omega)).symm)
/-- A part. -/
def prtE (s : ByteArray) : Bool := decide ((1 : Int) ≤ s.size ∧ (s.size : Int) ≤ 8) && (!figs s || num s)
def prt (s : ByteArray) : Bool := s.data.toList.all pchU && prtE s
theorem prt_l0 (s : ByteArray) (hs : s.size ≤ 1048576) (d : Nat) : ∀ i : Nat, i + d = s.size → Ev (fun k => impl_partOk.l0 k s (i : Int)) ((s.data.toList.drop i).all pchU && prtE s) ∧ Ev (fun k => spec_l3Part.l0 k s (i : Int)) ((s.data.toList.drop i).all pchU && prtE s) := by
  induction d with
  | zero =>
    intro i hi
    rw [List.drop_eq_nil_of_le (show s.data.toList.length ≤ i by rw [data_length]; omega), List.all_nil, Bool.true_and]
    unfold prtE
    constructor
    · refine evS (fun k => by rw [impl_partOk.l0]) (evF (by omega) (evC (rng_impl _ _ _) ?_))
      cases hd : decide ((1 : Int) ≤ s.size ∧ (s.size : Int) ≤ 8) with
      | false => exact evF Bool.false_ne_true (evR rfl)
      | true =>
        refine evT rfl (evB (figs_impl s hs) ?_)
        cases hf : figs s with
        | false => exact evF Bool.false_ne_true (evR rfl)
        | true => exact evT rfl (evB (num_impl s hs) (evR (by simp)))
    · refine evS (fun k => by rw [spec_l3Part.l0]) (evF (by omega) (evC (rng_spec _ _ _) ?_))
      cases hd : decide ((1 : Int) ≤ s.size ∧ (s.size : Int) ≤ 8) with
      | false => exact evF Bool.false_ne_true (evR rfl)
      | true =>
        have h8 := of_decide_eq_true hd
        refine evT rfl (evB (figs_spec s hs) ?_)
        cases hf : figs s with
        | false => exact evF Bool.false_ne_true (evR rfl)
        | true =>
          refine evT rfl (evB (numS_spec s hs) (evR ?_))
          unfold numS short
          rw [decide_eq_true (show s.size ≤ 8 by omega)]
          cases num s with
          | true => simp
          | false => simp
  | succ d ih =>
    intro i hi
    have hl : i < s.data.toList.length := by rw [data_length]; omega
    have hb := byte_at s i (by omega)
    obtain ⟨h1, h2⟩ := ih (i + 1) (by omega)
    have hlt : (s.data.toList[i]).toNat < 256 := UInt8.toNat_lt _
    have he : (s.data.toList.drop i).all pchU = (pchU s.data.toList[i] && (s.data.toList.drop (i + 1)).all pchU) := by
      rw [List.drop_eq_getElem_cons hl]
      rfl
    have hw : wrap64 (((s.data.toList[i]).toNat : Nat) : Int) = (((s.data.toList[i]).toNat : Nat) : Int) := w64 (by omega)
    rw [he]
    have Hp : pch ((s.data.toList[i].toNat : Nat) : Int) → pchU s.data.toList[i] = true := fun h => decide_eq_true h
    have Hn : ¬ pch ((s.data.toList[i].toNat : Nat) : Int) → (pchU s.data.toList[i] && (s.data.toList.drop (i + 1)).all pchU && prtE s) = false := fun h => by
      have : pchU s.data.toList[i] = false := decide_eq_false h
      rw [this]
      rfl
    constructor
    · refine evS (fun k => by rw [impl_partOk.l0]) ?_
      rw [hb, w64s (show i < s.size by omega) (by omega)]
      refine evT (by omega) (evT (by omega) ?_)
      exact ev_sign (fun h => by rw [Hp h, Bool.true_and]; exact h1) Hn
    · refine evS (fun k => by rw [spec_l3Part.l0]) ?_
      rw [hb, hw, w64s (show i < s.size by omega) (by omega)]
      refine evT (by omega) (evT (by omega) ?_)
      exact ev_signS (fun h => by rw [Hp h, Bool.true_and]; exact h2) Hn
theorem prt_impl (s : ByteArray) (hs : s.size ≤ 1048576) : Ev (fun k => impl_partOk.f k s) (prt s) := (prt_l0 s hs s.size 0 (by omega)).1
theorem prt_spec (s : ByteArray) (hs : s.size ≤ 1048576) : Ev (fun k => spec_l3Part.f k s) (prt s) := (prt_l0 s hs s.size 0 (by omega)).2
theorem pre_l0 (l : List ByteArray) (hl : l.length ≤ 1048577) (zl : ∀ x ∈ l, x.size ≤ 1048576) (d : Nat) : ∀ i : Nat, i + d = l.length → Ev (fun k => impl_VersionOk.l0 k l (i : Int)) ((l.drop i).all prt && decide (l.length ≤ 4)) ∧ Ev (fun k => spec_l3Pre.l0 k l (i : Int)) ((l.drop i).all prt && decide (l.length ≤ 4)) := by
  induction d with
  | zero =>
    intro i hi
    rw [List.drop_eq_nil_of_le (by omega), List.all_nil, Bool.true_and]
    have e : decide ((l.length : Int) ≤ 4) = decide (l.length ≤ 4) := decide_eq_decide.2 (by omega)
    constructor
    · refine evS (fun k => by rw [impl_VersionOk.l0]) (evF (by omega) (evR e))
    · refine evS (fun k => by rw [spec_l3Pre.l0]) (evF (by omega) (evR e))
  | succ d ih =>
    intro i hi
    have il : i < l.length := by omega
    have gl : rdOf ByteArray.empty l (i : Int) = l[i] := by
      have := rdOf_get (d := ByteArray.empty) il
      rw [List.getElem?_eq_getElem il] at this
      exact (Option.some.inj this).symm
    have hz := zl _ (List.getElem_mem il)
    obtain ⟨h1, h2⟩ := ih (i + 1) (by omega)
    have he : (l.drop i).all prt = (prt l[i] && (l.drop (i + 1)).all prt) := by
      rw [List.drop_eq_getElem_cons il]
      rfl
    rw [he]
    have p1 := prt_impl l[i] hz
    have p2 := prt_spec l[i] hz
    cases hp : prt l[i] with
    | true =>
      rw [hp] at p1 p2
      rw [Bool.true_and]
      constructor
      · refine evS (fun k => by rw [impl_VersionOk.l0]) ?_
        rw [gl, w64s il (by omega)]
        exact evT (by omega) (evT (by omega) (evB p1 (evT rfl h1)))
      · refine evS (fun k => by rw [spec_l3Pre.l0]) ?_
        rw [gl, w64s il (by omega)]
        exact evT (by omega) (evT (by omega) (evB p2 (evT rfl h2)))
    | false =>
      rw [hp] at p1 p2
      constructor
      · refine evS (fun k => by rw [impl_VersionOk.l0]) ?_
        rw [gl]
        exact evT (by omega) (evT (by omega) (evB p1 (evF Bool.false_ne_true (evR rfl))))
      · refine evS (fun k => by rw [spec_l3Pre.l0]) ?_
        rw [gl]
        exact evT (by omega) (evT (by omega) (evB p2 (evF Bool.false_ne_true (evR rfl))))
def pre (p : ByteArray) : Bool := (pieces 46 p).all prt && decide ((pieces 46 p).length ≤ 4)
def in6 (a : Int) : Bool := decide (0 ≤ a ∧ a ≤ 1000000)
def verOk (a b c : Int) (p : ByteArray) : Bool := in6 a && (in6 b && (in6 c && (decide (p.size = 0) || pre p)))
theorem nil_iff' (s : ByteArray) : s.toList = ([] : List UInt8) ↔ s.size = 0 := by
  rw [tl]
  have := data_length s
  constructor
  · intro e; rw [e] at this; simpa using this.symm
  · intro e; exact List.eq_nil_of_length_eq_zero (by omega)
theorem verOk_both (a b c : Int) (p : ByteArray) (hp : p.size ≤ 1048576) : Ev (fun k => impl_VersionOk.f k a b c p) (verOk a b c p) ∧ Ev (fun k => spec_VersionOk.f k a b c p) (verOk a b c p) := by
  have hc := pieces_count 46 p
  obtain ⟨l1, l2⟩ := pre_l0 (pieces 46 p) (by omega) (fun x hx => by have := pieces_mem 46 p x hx; omega) _ 0 (Nat.zero_add _)
  rw [List.drop_zero] at l1 l2
  have hS : Ev (fun k => spec_l3Split.f k p 46) (pieces 46 p) := split_spec p hp 46
  have hI : strings_Split.f p (⟨#[46]⟩ : ByteArray) = some (pieces 46 p) := by
    unfold strings_Split.f
    rw [if_pos ⟨by omega, rfl⟩]
    rfl
  have tI : Ev (fun k => impl_VersionOk.f0 k p) (decide (p.size = 0) || pre p) := by
    unfold impl_VersionOk.f0
    by_cases h : p.size = 0
    · exact evT ((nil_iff' p).2 h) (evR (by rw [decide_eq_true h]; rfl))
    · refine evF (fun e => h ((nil_iff' p).1 e)) (evC hI ?_)
      rw [decide_eq_false h, Bool.false_or]
      exact l1
  have tS : Ev (fun k => if p.toList = ([] : List UInt8) then (some true) else ((spec_l3Pre.f k p).bind fun t146 => (some t146))) (decide (p.size = 0) || pre p) := by
    by_cases h : p.size = 0
    · exact evT ((nil_iff' p).2 h) (evR (by rw [decide_eq_true h]; rfl))
    · refine evF (fun e => h ((nil_iff' p).1 e)) ?_
      rw [decide_eq_false h, Bool.false_or]
      refine evB ?_ (evR rfl)
      unfold spec_l3Pre.f
      exact evB hS l2
  unfold verOk
  constructor
  · unfold impl_VersionOk.f
    refine evC (rng_impl _ _ _) ?_
    show Ev (fun k => if in6 a = true then _ else _) _
    cases in6 a with
    | false => exact evF Bool.false_ne_true (evR rfl)
    | true =>
      refine evT rfl ?_
      unfold impl_VersionOk.f2
      refine evC (rng_impl _ _ _) ?_
      show Ev (fun k => if in6 b = true then _ else _) _
      cases in6 b with
      | false => exact evF Bool.false_ne_true (evR rfl)
      | true =>
        refine evT rfl ?_
        unfold impl_VersionOk.f1
        refine evC (rng_impl _ _ _) ?_
        show Ev (fun k => if in6 c = true then _ else _) _
        cases in6 c with
        | false => exact evF Bool.false_ne_true (evR rfl)
        | true => exact evT rfl tI
  · unfold spec_VersionOk.f
    refine evC (rng_spec _ _ _) ?_
    show Ev (fun k => if in6 a = true then _ else _) _
    cases in6 a with
    | false => exact evF Bool.false_ne_true (evR rfl)
    | true =>
      refine evT rfl (evC (rng_spec _ _ _) ?_)
      show Ev (fun k => if in6 b = true then _ else _) _
      cases in6 b with
      | false => exact evF Bool.false_ne_true (evR rfl)
      | true =>
        refine evT rfl (evC (rng_spec _ _ _) ?_)
        show Ev (fun k => if in6 c = true then _ else _) _
        cases in6 c with
        | false => exact evF Bool.false_ne_true (evR rfl)
        | true => exact evT rfl tS
end Go.Proofs.YtagbldaiedmikaaDoor.Z

namespace Go.Proofs.YtagbldaiedmikaaDoor.X
open Go.RowKit Go.Proofs.YtagbldaiedmikaaDoorW.PrintWords Go.Proofs.YtagbldaiedmikaaDoorW.PrintLast Go.Proofs.YtagbldaiedmikaaDoorW.PrintMore
attribute [local go_sem] max2_int min2_int max_two min_two max_three min_three max_four min_four   -- for this text's walks alone
set_option linter.unusedVariables false
set_option linter.unusedSimpArgs false

/-! ### cmp_Or_int: function 73 -/
def cmp_Or_int.l0 : Nat → Int → List Int → Int → Int → Option (Int)
  | 0, _, _, _, _ => none
  | k + 1, x3, x6, x7, x8 => if x8 < x7 then (if 0 ≤ x8 then (if x8 < (x6.length : Int) then (if (rd x6 x8) = x3 then (cmp_Or_int.l0 k x3 x6 x7 (wrap64 (x8 + 1))) else (some (rd x6 x8))) else (none)) else (none)) else (some x3)
def cmp_Or_int.f (k : Nat) (l0 : List Int) : Option (Int) := cmp_Or_int.l0 k 0 l0 (l0.length : Int) 0
theorem cmp_Or_int.mono_l : ∀ k, (∀ y0 y1 y2 y3, LeO (cmp_Or_int.l0 k y0 y1 y2 y3) (cmp_Or_int.l0 (k + 1) y0 y1 y2 y3))
  | 0 => fun _ _ _ _ r h => by simp [cmp_Or_int.l0] at h
  | k + 1 => by
    have ih0 := cmp_Or_int.mono_l k
    · intro y0 y1 y2 y3
      unfold cmp_Or_int.l0
      repeat' first
      | (with_reducible exact ih0 _ _ _ _)
      | (with_reducible exact LeO.refl _)
      | (with_reducible exact LeO.none _)
      | (with_reducible refine LeO.ite ?_ ?_)
      | (with_reducible refine LeO.bind ?_ (fun _ => ?_))
      | exact ih0 _ _ _ _
      | exact LeO.none _
      | refine LeO.ite ?_ ?_
      | refine LeO.bind ?_ (fun _ => ?_)
theorem cmp_Or_int.mono : ∀ a0 k, LeO (cmp_Or_int.f k a0) (cmp_Or_int.f (k + 1) a0) := by
  intro a0 k
  have ih0 := cmp_Or_int.mono_l k
  unfold cmp_Or_int.f
  repeat' first
      | (with_reducible exact ih0 _ _ _ _)
      | (with_reducible exact LeO.refl _)
      | (with_reducible exact LeO.none _)
      | (with_reducible refine LeO.ite ?_ ?_)
      | (with_reducible refine LeO.bind ?_ (fun _ => ?_))
      | exact ih0 _ _ _ _
      | exact LeO.none _
      | refine LeO.ite ?_ ?_
      | refine LeO.bind ?_ (fun _ => ?_)
set_option maxHeartbeats 8000000 in
set_option maxRecDepth 100000 in
theorem cmp_Or_int.calls (k : Nat) (A0 : Option Addr) (c0 : Nat) (l0 : List Int) (r : Int) (w : World) (hr0 : Kd.C (Kd.int .i64) w A0 l0.length l0) (hc0 : l0.length ≤ c0) (h : cmp_Or_int.f k l0 = some r) :
    Calls Tryd.prog 73 #[.slice A0 l0.length c0] w fun e w' => e = .returned (.int .i64 r) ∧ Drawn0 w w' := by
  have HR0 := Aside0.mk hr0
  have HC0 := Aside0.mk hc0
  clear hr0 hc0
  have H : (cmp_Or_int.l0 k 0 l0 (l0.length : Int) 0) = some r := h
  clear h
  have H' := Aside0.mk H
  clear H
  go_enter Tryd.func73, Tryd.ntmps73
  go_wp2
  go_loopg [8] k (fun kq v8 w' => ∃ (x8_1 : Int), v8 = .int .i64 x8_1 ∧ Aside0 (cmp_Or_int.l0 kq 0 l0 (l0.length : Int) x8_1 = some r) ∧ Aside0 (kq ≤ k) ∧ Drawn0 w w')
  case atStart => exact ⟨(0), (by first | rfl | (simp; done) | (simp [*]; done)), H', ⟨Nat.le_refl _⟩, by repeat (first | exact Drawn0.refl _ | apply Drawn0.step)⟩
  case round =>
    clear H'
    obtain ⟨x8_1, rfl, HA, HK1, ⟨m1, rfl⟩⟩ := hrel
    cases gk with
    | zero => exact absurd HA.out (by simp [cmp_Or_int.l0])
    | succ k1 =>
      have H := HA.out
      clear HA
      simp only [cmp_Or_int.l0] at H
      by_cases c2 : x8_1 < (l0.length : Int)
      · rw [if_pos c2] at H
        have c2b0 : decide (x8_1 < (l0.length : Int)) = true := decide_eq_true c2
        clear c2
        by_cases c3 : 0 ≤ x8_1
        · rw [if_pos c3] at H
          have c3b0 : decide (0 ≤ x8_1) = true := decide_eq_true c3
          clear c3
          by_cases c4 : x8_1 < (l0.length : Int)
          · rw [if_pos c4] at H
            have c4b0 : decide (x8_1 < (l0.length : Int)) = true := decide_eq_true c4
            clear c4
            by_cases c5 : (rd l0 x8_1) = 0
            · rw [if_pos c5] at H
              have c5b0 : ((rd l0 x8_1) == 0) = true := beq_iff_eq.mpr c5
              have c5b1 : ((rd l0 x8_1) != 0) = false := bne_eq_false_iff_eq.mpr c5
              clear c5
              have H' := Aside0.mk H
              clear H
              have p215 : 0 ≤ (x8_1 : Int) := of_decide_eq_true (by first | (with_reducible assumption) | assumption)
              have q215 : x8_1 < (l0.length : Int) := of_decide_eq_true (by first | (with_reducible assumption) | assumption)
              obtain ⟨ad215, e215, hx215_0⟩ := Kd.at_int HR0.out x8_1 p215 q215
              cases e215
              replace p215 := eq_true p215
              replace q215 := eq_true q215
              go_wp2
              go_roundg k1
              case measure => have := HK1.out; omega
              case rel => exact ⟨(wrap64 (x8_1 + 1)), (by first | rfl | (simp; done) | (simp [*]; done)), H', ⟨by have := HK1.out; omega⟩, by repeat (first | exact Drawn0.refl _ | apply Drawn0.step)⟩
            · rw [if_neg c5] at H
              have c5b0 : ((rd l0 x8_1) == 0) = false := beq_eq_false_iff_ne.mpr c5
              have c5b1 : ((rd l0 x8_1) != 0) = true := bne_iff_ne.mpr c5
              obtain rfl := Option.some.inj H
              have p215 : 0 ≤ (x8_1 : Int) := of_decide_eq_true (by first | (with_reducible assumption) | assumption)
              have q215 : x8_1 < (l0.length : Int) := of_decide_eq_true (by first | (with_reducible assumption) | assumption)
              obtain ⟨ad215, e215, hx215_0⟩ := Kd.at_int HR0.out x8_1 p215 q215
              cases e215
              replace p215 := eq_true p215
              replace q215 := eq_true q215
              go_wp2
              go_ret
              exact ⟨by first | rfl | (simp; done) | (simp [*]; done), by repeat (first | exact Drawn0.refl _ | apply Drawn0.step)⟩
          · rw [if_neg c4] at H
            exact absurd H (by simp)
        · rw [if_neg c3] at H
          exact absurd H (by simp)
      · rw [if_neg c2] at H
        have c2b0 : decide (x8_1 < (l0.length : Int)) = false := decide_eq_false c2
        clear c2
        obtain rfl := Option.some.inj H
        go_wp2
        go_ret
        exact ⟨by first | rfl | (simp; done) | (simp [*]; done), by repeat (first | exact Drawn0.refl _ | apply Drawn0.step)⟩

end Go.Proofs.YtagbldaiedmikaaDoor.X
