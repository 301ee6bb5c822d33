/- The law FnExactParseVersion, as a plain statement: the program's ParseVersion answers as the reference's. Conditions: those of the row's reading alone. -/
/- Part 4 of 8 of this claim's texts. -/
import Derived.Test.YtagbldaiedmikaaDoorWWords
import Derived.Shelf.Strings.Split
import Derived.Test.YtagbldaiedmikaaDoorCFnExactParseVersion0
import Derived.Test.YtagbldaiedmikaaDoorCFnExactParseVersion1
import Derived.Test.YtagbldaiedmikaaDoorCFnExactParseVersion2
namespace Go.Proofs.YtagbldaiedmikaaDoor.X
open Go.RowKit Go.Proofs.YtagbldaiedmikaaDoorW.PrintWords Go.Proofs.YtagbldaiedmikaaDoorW.PrintLast Go.Proofs.YtagbldaiedmikaaDoorW.PrintMore
attribute [local go_sem] max2_int min2_int max_two min_two max_three min_three max_four min_four   -- for this text's walks alone
set_option linter.unusedVariables false
set_option linter.unusedSimpArgs false

/-! ### spec_ParseVersion: function 41 (by hand) -/
def spec_ParseVersion.n3 (k : Nat) (s p : ByteArray) (x y z : Int) : Option (Int × Int × Int × ByteArray × Bool) := (spec_VersionOk.f k x y z p).bind fun b => (if b = true then ((spec_VersionText.f k x y z p).bind fun t => (if t.toList = s.toList then (some (x, y, z, p, true)) else (some (0, 0, 0, (⟨#[]⟩ : ByteArray), false)))) else (some (0, 0, 0, (⟨#[]⟩ : ByteArray), false)))
def spec_ParseVersion.n2 (k : Nat) (s t p : ByteArray) : Option (Int × Int × Int × ByteArray × Bool) := (spec_l3Split.f k t 46).bind fun l => (if l.length = 3 then ((spec_l3Number.f k (rdOf ByteArray.empty l 0)).bind fun x => ((spec_l3Number.f k (rdOf ByteArray.empty l 1)).bind fun y => ((spec_l3Number.f k (rdOf ByteArray.empty l 2)).bind fun z => (spec_ParseVersion.n3 k s p x y z)))) else (some (0, 0, 0, (⟨#[]⟩ : ByteArray), false)))
def spec_ParseVersion.l0 : Nat → ByteArray → ByteArray → Int → Option (Int × Int × Int × ByteArray × Bool)
  | 0, _, _, _ => none
  | k + 1, s, t, i => if i < (t.size : Int) then (if 0 ≤ i then (if (bt t i) = 45 then (if 0 ≤ (wrap64 (i + 1)) then (if (wrap64 (i + 1)) ≤ (t.size : Int) then (spec_ParseVersion.n2 k s (t.extract 0 i.toNat) (t.extract (wrap64 (i + 1)).toNat t.size)) else (none)) else (none)) else (spec_ParseVersion.l0 k s t (wrap64 (i + 1)))) else (none)) else (spec_ParseVersion.n2 k s t (⟨#[]⟩ : ByteArray))
def spec_ParseVersion.f (k : Nat) (s : ByteArray) : Option (Int × Int × Int × ByteArray × Bool) := if s.toList = ([] : List UInt8) then (some (0, 0, 0, (⟨#[]⟩ : ByteArray), false)) else (if 0 < (s.size : Int) then (if (bt s 0) = 118 then (if 1 ≤ (s.size : Int) then (spec_ParseVersion.l0 k s (s.extract 1 s.size) 0) else (none)) else (some (0, 0, 0, (⟨#[]⟩ : ByteArray), false))) else (none))
theorem spec_ParseVersion.mono2 : ∀ s t p k, LeO (spec_ParseVersion.n2 k s t p) (spec_ParseVersion.n2 (k + 1) s t p) := by
  intro s t p k
  unfold spec_ParseVersion.n2 spec_ParseVersion.n3
  repeat' first
      | (with_reducible exact spec_VersionText.mono _ _ _ _ _)
      | (with_reducible exact spec_VersionOk.mono _ _ _ _ _)
      | (with_reducible exact spec_l3Split.mono _ _ _)
      | (with_reducible exact spec_l3Number.mono _ _)
      | (with_reducible exact LeO.refl _)
      | (with_reducible exact LeO.none _)
      | (with_reducible refine LeO.ite ?_ ?_)
      | (with_reducible refine LeO.bind ?_ (fun _ => ?_))
theorem spec_ParseVersion.mono_l : ∀ k, (∀ y0 y1 y2, LeO (spec_ParseVersion.l0 k y0 y1 y2) (spec_ParseVersion.l0 (k + 1) y0 y1 y2))
  | 0 => fun _ _ _ r h => by simp [spec_ParseVersion.l0] at h
  | k + 1 => by
    have ih0 := spec_ParseVersion.mono_l k
    intro y0 y1 y2
    unfold spec_ParseVersion.l0
    repeat' first
      | (with_reducible exact ih0 _ _ _)
      | (with_reducible exact spec_ParseVersion.mono2 _ _ _ _)
      | (with_reducible exact LeO.refl _)
      | (with_reducible exact LeO.none _)
      | (with_reducible refine LeO.ite ?_ ?_)
theorem spec_ParseVersion.mono : ∀ a0 k, LeO (spec_ParseVersion.f k a0) (spec_ParseVersion.f (k + 1) a0) := by
  intro a0 k
  have ih0 := spec_ParseVersion.mono_l k
  unfold spec_ParseVersion.f
  repeat' first
      | (with_reducible exact ih0 _ _ _)
      | (with_reducible exact LeO.refl _)
      | (with_reducible exact LeO.none _)
      | (with_reducible refine LeO.ite ?_ ?_)
theorem spec_ParseVersion.four {w : World} {g : Nat} {T : TypeId} {x0 x1 x2 x3 : Value} (h : w.heap[g]? = some (.cells #[x0, x1, x2, x3] T (0, 0))) (y0 y1 y2 y3 : Value) :
    ((((w.setCell ⟨g, 0, none⟩ y0).setCell ⟨g, 1, none⟩ y1).setCell ⟨g, 2, none⟩ y2).setCell ⟨g, 3, none⟩ y3).heap[g]? = some (.cells #[y0, y1, y2, y3] T (0, 0)) := blk_put (blk_put (blk_put (blk_put h 0 _ rfl) 1 _ rfl) 2 _ rfl) 3 _ rfl
theorem spec_ParseVersion.fourB {B : Nat} {a w : World} {g : Nat} (h : Below B a w) (hg : B ≤ g) (y0 y1 y2 y3 : Value) :
    Below B a ((((w.setCell ⟨g, 0, none⟩ y0).setCell ⟨g, 1, none⟩ y1).setCell ⟨g, 2, none⟩ y2).setCell ⟨g, 3, none⟩ y3) := (((h.setCell (p := ⟨g, 0, none⟩) hg _).setCell (p := ⟨g, 1, none⟩) hg _).setCell (p := ⟨g, 2, none⟩) hg _).setCell (p := ⟨g, 3, none⟩) hg _
theorem spec_ParseVersion.fourF {w : World} {g g2 : Nat} {T : TypeId} {cs : Array Value} (h : w.heap[g]? = some (.cells cs T (0, 0))) (hne : g ≠ g2) (y0 y1 y2 y3 : Value) :
    ((((w.setCell ⟨g2, 0, none⟩ y0).setCell ⟨g2, 1, none⟩ y1).setCell ⟨g2, 2, none⟩ y2).setCell ⟨g2, 3, none⟩ y3).heap[g]? = some (.cells cs T (0, 0)) := blk_far (p := ⟨g2, 3, none⟩) (blk_far (p := ⟨g2, 2, none⟩) (blk_far (p := ⟨g2, 1, none⟩) (blk_far (p := ⟨g2, 0, none⟩) h hne _) hne _) hne _) hne _
set_option maxHeartbeats 8000000 in
set_option maxRecDepth 100000 in
theorem spec_ParseVersion.calls (k : Nat) (a0 : ByteArray) (r1 : Int) (r2 : Int) (r3 : Int) (r4 : ByteArray) (r5 : Bool) (w : World) (h : spec_ParseVersion.f k a0 = some (r1, r2, r3, r4, r5)) :
    Calls Tryd.prog 41 #[.string a0] w fun e w' => e = .returned (.tuple #[.agg #[.int .i64 r1, .int .i64 r2, .int .i64 r3, .string r4], .bool r5]) ∧ Below w.heap.size w w' := by
  have hu27 := Tryd.underlying27
  have HB := Aside0.mk (Below.refl w.heap.size w)
  unfold spec_ParseVersion.f at h
  by_cases c1 : a0.toList = ([] : List UInt8)
  · rw [if_pos c1] at h
    have c1b0 : (a0.toList == ([] : List UInt8)) = true := beq_iff_eq.mpr c1
    have c1b1 : (a0.toList != ([] : List UInt8)) = false := bne_eq_false_iff_eq.mpr c1
    clear c1
    simp only [Option.some.injEq, Prod.mk.injEq] at h
    obtain ⟨rfl, rfl, rfl, rfl, rfl⟩ := h
    go_enter Tryd.func41, Tryd.ntmps41
    go_wp2_with (first | ((with_reducible refine gate_dst (N := 2) rfl ?_); refine box_event ?hg (N := 2) ?hd (cs := #[.int .i64 0, .int .i64 0, .int .i64 0, .string (⟨#[]⟩ : ByteArray)]) (t := 27) ?hr ?_; (case hd => rfl); (case hg => rfl); (case hr => first | (go_simp; done) | (go_simp; rfl)); intro g2 hg w2 hbox hb; have n0_ := Aside0.mk (below_step (by repeat (first | (with_reducible first | exact HB.out | apply below_alloc | apply pw_below_drewN | apply below_drew1) | exact HB.out)) hb); have n1_ := Aside0.mk (hbox); have n2_ := Aside0.mk ((by rw [hg]; exact (below_size (by repeat (first | (with_reducible first | exact HB.out | apply below_alloc | apply pw_below_drewN | apply below_drew1) | exact HB.out))) : w.heap.size ≤ g2)); clear HB; have HB := n0_; have BK2 := n1_; have GE2 := n2_; clear n0_ n1_ n2_; clear hb hbox hg) | ((with_reducible refine gate_dst (N := 4) rfl ?_); refine box_event ?hg (N := 4) ?hd (cs := #[.int .i64 0, .int .i64 0, .int .i64 0, .string (⟨#[]⟩ : ByteArray)]) (t := 27) ?hr ?_; (case hd => rfl); (case hg => rfl); (case hr => first | (go_simp; done) | (go_simp; rfl)); intro g4 hg w4 hbox hb; have n0_ := Aside0.mk (blk_below (g := g2) (o := .cells #[.int .i64 0, .int .i64 0, .int .i64 0, .string (⟨#[]⟩ : ByteArray)] 27 (0, 0)) (by (with_reducible repeat (first | refine blk_drewN ?_ _ | refine blk_drew ?_ | refine blk_alloc ?_ _)); exact BK2.out) hb); have n1_ := Aside0.mk ((by rw [hg]; exact (Nat.ne_of_lt (blk_lt (g := g2) (o := .cells #[.int .i64 0, .int .i64 0, .int .i64 0, .string (⟨#[]⟩ : ByteArray)] 27 (0, 0)) (by (with_reducible repeat (first | refine blk_drewN ?_ _ | refine blk_drew ?_ | refine blk_alloc ?_ _)); exact BK2.out))) : g2 ≠ g4)); have n2_ := Aside0.mk (below_step (by repeat (first | (with_reducible first | exact HB.out | apply below_alloc | apply pw_below_drewN | apply below_drew1) | exact HB.out)) hb); have n3_ := Aside0.mk (hbox); have n4_ := Aside0.mk ((by rw [hg]; exact (below_size (by repeat (first | (with_reducible first | exact HB.out | apply below_alloc | apply pw_below_drewN | apply below_drew1) | exact HB.out))) : w.heap.size ≤ g4)); clear BK2 HB; have BK2 := n0_; have NE24 := n1_; have HB := n2_; have BK4 := n3_; have GE4 := n4_; clear n0_ n1_ n2_ n3_ n4_; clear hb hbox hg; have i4_0 : w4.cell? ⟨g4, 0, none⟩ = some (.int .i64 0) := (blk_cell BK4.out 0).trans rfl; have i4_1 : w4.cell? ⟨g4, 1, none⟩ = some (.int .i64 0) := (blk_cell BK4.out 1).trans rfl; have i4_2 : w4.cell? ⟨g4, 2, none⟩ = some (.int .i64 0) := (blk_cell BK4.out 2).trans rfl; have i4_3 : w4.cell? ⟨g4, 3, none⟩ = some (.string (⟨#[]⟩ : ByteArray)) := (blk_cell BK4.out 3).trans rfl; have j4_0 : w4.frozen? ⟨g4, 0, none⟩ = false := blk_frozen BK4.out 0; have j4_1 : w4.frozen? ⟨g4, 1, none⟩ = false := blk_frozen BK4.out 1; have j4_2 : w4.frozen? ⟨g4, 2, none⟩ = false := blk_frozen BK4.out 2; have j4_3 : w4.frozen? ⟨g4, 3, none⟩ = false := blk_frozen BK4.out 3; have n0_ := Aside0.mk (spec_ParseVersion.fourF BK2.out NE24.out (.int .i64 0) (.int .i64 0) (.int .i64 0) (.string (⟨#[]⟩ : ByteArray))); have n1_ := Aside0.mk (spec_ParseVersion.four BK4.out (.int .i64 0) (.int .i64 0) (.int .i64 0) (.string (⟨#[]⟩ : ByteArray))); have n2_ := Aside0.mk (spec_ParseVersion.fourB HB.out GE4.out (.int .i64 0) (.int .i64 0) (.int .i64 0) (.string (⟨#[]⟩ : ByteArray))); clear BK2 BK4 HB; have BK2 := n0_; have BK4 := n1_; have HB := n2_; clear n0_ n1_ n2_; have d0 : ((((w4.setCell ⟨g4, 0, none⟩ (.int .i64 0)).setCell ⟨g4, 1, none⟩ (.int .i64 0)).setCell ⟨g4, 2, none⟩ (.int .i64 0)).setCell ⟨g4, 3, none⟩ (.string (⟨#[]⟩ : ByteArray))).cell? ⟨g2, 0, none⟩ = some (.int .i64 0) := (blk_cell BK2.out 0).trans rfl; have d1 : ((((w4.setCell ⟨g4, 0, none⟩ (.int .i64 0)).setCell ⟨g4, 1, none⟩ (.int .i64 0)).setCell ⟨g4, 2, none⟩ (.int .i64 0)).setCell ⟨g4, 3, none⟩ (.string (⟨#[]⟩ : ByteArray))).cell? ⟨g2, 1, none⟩ = some (.int .i64 0) := (blk_cell BK2.out 1).trans rfl; have d2 : ((((w4.setCell ⟨g4, 0, none⟩ (.int .i64 0)).setCell ⟨g4, 1, none⟩ (.int .i64 0)).setCell ⟨g4, 2, none⟩ (.int .i64 0)).setCell ⟨g4, 3, none⟩ (.string (⟨#[]⟩ : ByteArray))).cell? ⟨g2, 2, none⟩ = some (.int .i64 0) := (blk_cell BK2.out 2).trans rfl; have d3 : ((((w4.setCell ⟨g4, 0, none⟩ (.int .i64 0)).setCell ⟨g4, 1, none⟩ (.int .i64 0)).setCell ⟨g4, 2, none⟩ (.int .i64 0)).setCell ⟨g4, 3, none⟩ (.string (⟨#[]⟩ : ByteArray))).cell? ⟨g2, 3, none⟩ = some (.string (⟨#[]⟩ : ByteArray)) := (blk_cell BK2.out 3).trans rfl; have f0 : ((((w4.setCell ⟨g4, 0, none⟩ (.int .i64 0)).setCell ⟨g4, 1, none⟩ (.int .i64 0)).setCell ⟨g4, 2, none⟩ (.int .i64 0)).setCell ⟨g4, 3, none⟩ (.string (⟨#[]⟩ : ByteArray))).frozen? ⟨g2, 0, none⟩ = false := blk_frozen BK2.out 0; have f1 : ((((w4.setCell ⟨g4, 0, none⟩ (.int .i64 0)).setCell ⟨g4, 1, none⟩ (.int .i64 0)).setCell ⟨g4, 2, none⟩ (.int .i64 0)).setCell ⟨g4, 3, none⟩ (.string (⟨#[]⟩ : ByteArray))).frozen? ⟨g2, 1, none⟩ = false := blk_frozen BK2.out 1; have f2 : ((((w4.setCell ⟨g4, 0, none⟩ (.int .i64 0)).setCell ⟨g4, 1, none⟩ (.int .i64 0)).setCell ⟨g4, 2, none⟩ (.int .i64 0)).setCell ⟨g4, 3, none⟩ (.string (⟨#[]⟩ : ByteArray))).frozen? ⟨g2, 2, none⟩ = false := blk_frozen BK2.out 2; have f3 : ((((w4.setCell ⟨g4, 0, none⟩ (.int .i64 0)).setCell ⟨g4, 1, none⟩ (.int .i64 0)).setCell ⟨g4, 2, none⟩ (.int .i64 0)).setCell ⟨g4, 3, none⟩ (.string (⟨#[]⟩ : ByteArray))).frozen? ⟨g2, 3, none⟩ = false := blk_frozen BK2.out 3; have m0 : ((((w4.setCell ⟨g4, 0, none⟩ (.int .i64 0)).setCell ⟨g4, 1, none⟩ (.int .i64 0)).setCell ⟨g4, 2, none⟩ (.int .i64 0)).setCell ⟨g4, 3, none⟩ (.string (⟨#[]⟩ : ByteArray))).cell? ⟨g4, 0, none⟩ = some (.int .i64 0) := (blk_cell BK4.out 0).trans rfl; have m1 : ((((w4.setCell ⟨g4, 0, none⟩ (.int .i64 0)).setCell ⟨g4, 1, none⟩ (.int .i64 0)).setCell ⟨g4, 2, none⟩ (.int .i64 0)).setCell ⟨g4, 3, none⟩ (.string (⟨#[]⟩ : ByteArray))).cell? ⟨g4, 1, none⟩ = some (.int .i64 0) := (blk_cell BK4.out 1).trans rfl; have m2 : ((((w4.setCell ⟨g4, 0, none⟩ (.int .i64 0)).setCell ⟨g4, 1, none⟩ (.int .i64 0)).setCell ⟨g4, 2, none⟩ (.int .i64 0)).setCell ⟨g4, 3, none⟩ (.string (⟨#[]⟩ : ByteArray))).cell? ⟨g4, 2, none⟩ = some (.int .i64 0) := (blk_cell BK4.out 2).trans rfl; have m3 : ((((w4.setCell ⟨g4, 0, none⟩ (.int .i64 0)).setCell ⟨g4, 1, none⟩ (.int .i64 0)).setCell ⟨g4, 2, none⟩ (.int .i64 0)).setCell ⟨g4, 3, none⟩ (.string (⟨#[]⟩ : ByteArray))).cell? ⟨g4, 3, none⟩ = some (.string (⟨#[]⟩ : ByteArray)) := (blk_cell BK4.out 3).trans rfl))
    refine bodyPost_ret (results_ct rfl _ _ g2 27 #[.int .i64 0, .int .i64 0, .int .i64 0, .string (⟨#[]⟩ : ByteArray)] (0, 0) _ rfl (spec_ParseVersion.four BK2.out _ _ _ _) hu27 rfl (by kernel_rfl)) rfl ?_
    exact ⟨rfl, spec_ParseVersion.fourB (by repeat (first | (with_reducible first | exact HB.out | apply below_alloc | apply pw_below_drewN | apply below_drew1) | exact HB.out)) GE2.out _ _ _ _⟩
  · rw [if_neg c1] at h
    have c1b0 : (a0.toList == ([] : List UInt8)) = false := beq_eq_false_iff_ne.mpr c1
    have c1b1 : (a0.toList != ([] : List UInt8)) = true := bne_iff_ne.mpr c1
    by_cases c2 : 0 < (a0.size : Int)
    · rw [if_pos c2] at h
      have c2b0 := eq_true c2
      have q6 : 0 < a0.size := by omega
      have hx6 : ∀ h : 0 < a0.size, ((a0[0]'h).toNat : Int) = bt a0 0 := bt_at a0 0
      replace q6 := eq_true q6
      by_cases c3 : bt a0 0 = 118
      · rw [if_pos c3] at h
        have c3b0 : (bt a0 0 == 118) = true := beq_iff_eq.mpr c3
        have c3b1 : (bt a0 0 != 118) = false := bne_eq_false_iff_eq.mpr c3
        by_cases c4 : 1 ≤ (a0.size : Int)
        · rw [if_pos c4] at h
          have H' := Aside0.mk h
          have c4b0 := eq_true c4
          clear h c1 c2 c3 c4
          go_enter Tryd.func41, Tryd.ntmps41
          go_upto_block 0 with (first | ((with_reducible refine gate_dst (N := 2) rfl ?_); refine box_event ?hg (N := 2) ?hd (cs := #[.int .i64 0, .int .i64 0, .int .i64 0, .string (⟨#[]⟩ : ByteArray)]) (t := 27) ?hr ?_; (case hd => rfl); (case hg => rfl); (case hr => first | (go_simp; done) | (go_simp; rfl)); intro g2 hg w2 hbox hb; have n0_ := Aside0.mk (below_step (by repeat (first | (with_reducible first | exact HB.out | apply below_alloc | apply pw_below_drewN | apply below_drew1) | exact HB.out)) hb); have n1_ := Aside0.mk (hbox); have n2_ := Aside0.mk ((by rw [hg]; exact (below_size (by repeat (first | (with_reducible first | exact HB.out | apply below_alloc | apply pw_below_drewN | apply below_drew1) | exact HB.out))) : w.heap.size ≤ g2)); clear HB; have HB := n0_; have BK2 := n1_; have GE2 := n2_; clear n0_ n1_ n2_; clear hb hbox hg) | ((with_reducible refine gate_dst (N := 4) rfl ?_); refine box_event ?hg (N := 4) ?hd (cs := #[.int .i64 0, .int .i64 0, .int .i64 0, .string (⟨#[]⟩ : ByteArray)]) (t := 27) ?hr ?_; (case hd => rfl); (case hg => rfl); (case hr => first | (go_simp; done) | (go_simp; rfl)); intro g4 hg w4 hbox hb; have n0_ := Aside0.mk (blk_below (g := g2) (o := .cells #[.int .i64 0, .int .i64 0, .int .i64 0, .string (⟨#[]⟩ : ByteArray)] 27 (0, 0)) (by (with_reducible repeat (first | refine blk_drewN ?_ _ | refine blk_drew ?_ | refine blk_alloc ?_ _)); exact BK2.out) hb); have n1_ := Aside0.mk ((by rw [hg]; exact (Nat.ne_of_lt (blk_lt (g := g2) (o := .cells #[.int .i64 0, .int .i64 0, .int .i64 0, .string (⟨#[]⟩ : ByteArray)] 27 (0, 0)) (by (with_reducible repeat (first | refine blk_drewN ?_ _ | refine blk_drew ?_ | refine blk_alloc ?_ _)); exact BK2.out))) : g2 ≠ g4)); have n2_ := Aside0.mk (below_step (by repeat (first | (with_reducible first | exact HB.out | apply below_alloc | apply pw_below_drewN | apply below_drew1) | exact HB.out)) hb); have n3_ := Aside0.mk (hbox); have n4_ := Aside0.mk ((by rw [hg]; exact (below_size (by repeat (first | (with_reducible first | exact HB.out | apply below_alloc | apply pw_below_drewN | apply below_drew1) | exact HB.out))) : w.heap.size ≤ g4)); clear BK2 HB; have BK2 := n0_; have NE24 := n1_; have HB := n2_; have BK4 := n3_; have GE4 := n4_; clear n0_ n1_ n2_ n3_ n4_; clear hb hbox hg; have i4_0 : w4.cell? ⟨g4, 0, none⟩ = some (.int .i64 0) := (blk_cell BK4.out 0).trans rfl; have i4_1 : w4.cell? ⟨g4, 1, none⟩ = some (.int .i64 0) := (blk_cell BK4.out 1).trans rfl; have i4_2 : w4.cell? ⟨g4, 2, none⟩ = some (.int .i64 0) := (blk_cell BK4.out 2).trans rfl; have i4_3 : w4.cell? ⟨g4, 3, none⟩ = some (.string (⟨#[]⟩ : ByteArray)) := (blk_cell BK4.out 3).trans rfl; have j4_0 : w4.frozen? ⟨g4, 0, none⟩ = false := blk_frozen BK4.out 0; have j4_1 : w4.frozen? ⟨g4, 1, none⟩ = false := blk_frozen BK4.out 1; have j4_2 : w4.frozen? ⟨g4, 2, none⟩ = false := blk_frozen BK4.out 2; have j4_3 : w4.frozen? ⟨g4, 3, none⟩ = false := blk_frozen BK4.out 3; have n0_ := Aside0.mk (spec_ParseVersion.fourF BK2.out NE24.out (.int .i64 0) (.int .i64 0) (.int .i64 0) (.string (⟨#[]⟩ : ByteArray))); have n1_ := Aside0.mk (spec_ParseVersion.four BK4.out (.int .i64 0) (.int .i64 0) (.int .i64 0) (.string (⟨#[]⟩ : ByteArray))); have n2_ := Aside0.mk (spec_ParseVersion.fourB HB.out GE4.out (.int .i64 0) (.int .i64 0) (.int .i64 0) (.string (⟨#[]⟩ : ByteArray))); clear BK2 BK4 HB; have BK2 := n0_; have BK4 := n1_; have HB := n2_; clear n0_ n1_ n2_; have d0 : ((((w4.setCell ⟨g4, 0, none⟩ (.int .i64 0)).setCell ⟨g4, 1, none⟩ (.int .i64 0)).setCell ⟨g4, 2, none⟩ (.int .i64 0)).setCell ⟨g4, 3, none⟩ (.string (⟨#[]⟩ : ByteArray))).cell? ⟨g2, 0, none⟩ = some (.int .i64 0) := (blk_cell BK2.out 0).trans rfl; have d1 : ((((w4.setCell ⟨g4, 0, none⟩ (.int .i64 0)).setCell ⟨g4, 1, none⟩ (.int .i64 0)).setCell ⟨g4, 2, none⟩ (.int .i64 0)).setCell ⟨g4, 3, none⟩ (.string (⟨#[]⟩ : ByteArray))).cell? ⟨g2, 1, none⟩ = some (.int .i64 0) := (blk_cell BK2.out 1).trans rfl; have d2 : ((((w4.setCell ⟨g4, 0, none⟩ (.int .i64 0)).setCell ⟨g4, 1, none⟩ (.int .i64 0)).setCell ⟨g4, 2, none⟩ (.int .i64 0)).setCell ⟨g4, 3, none⟩ (.string (⟨#[]⟩ : ByteArray))).cell? ⟨g2, 2, none⟩ = some (.int .i64 0) := (blk_cell BK2.out 2).trans rfl; have d3 : ((((w4.setCell ⟨g4, 0, none⟩ (.int .i64 0)).setCell ⟨g4, 1, none⟩ (.int .i64 0)).setCell ⟨g4, 2, none⟩ (.int .i64 0)).setCell ⟨g4, 3, none⟩ (.string (⟨#[]⟩ : ByteArray))).cell? ⟨g2, 3, none⟩ = some (.string (⟨#[]⟩ : ByteArray)) := (blk_cell BK2.out 3).trans rfl; have f0 : ((((w4.setCell ⟨g4, 0, none⟩ (.int .i64 0)).setCell ⟨g4, 1, none⟩ (.int .i64 0)).setCell ⟨g4, 2, none⟩ (.int .i64 0)).setCell ⟨g4, 3, none⟩ (.string (⟨#[]⟩ : ByteArray))).frozen? ⟨g2, 0, none⟩ = false := blk_frozen BK2.out 0; have f1 : ((((w4.setCell ⟨g4, 0, none⟩ (.int .i64 0)).setCell ⟨g4, 1, none⟩ (.int .i64 0)).setCell ⟨g4, 2, none⟩ (.int .i64 0)).setCell ⟨g4, 3, none⟩ (.string (⟨#[]⟩ : ByteArray))).frozen? ⟨g2, 1, none⟩ = false := blk_frozen BK2.out 1; have f2 : ((((w4.setCell ⟨g4, 0, none⟩ (.int .i64 0)).setCell ⟨g4, 1, none⟩ (.int .i64 0)).setCell ⟨g4, 2, none⟩ (.int .i64 0)).setCell ⟨g4, 3, none⟩ (.string (⟨#[]⟩ : ByteArray))).frozen? ⟨g2, 2, none⟩ = false := blk_frozen BK2.out 2; have f3 : ((((w4.setCell ⟨g4, 0, none⟩ (.int .i64 0)).setCell ⟨g4, 1, none⟩ (.int .i64 0)).setCell ⟨g4, 2, none⟩ (.int .i64 0)).setCell ⟨g4, 3, none⟩ (.string (⟨#[]⟩ : ByteArray))).frozen? ⟨g2, 3, none⟩ = false := blk_frozen BK2.out 3; have m0 : ((((w4.setCell ⟨g4, 0, none⟩ (.int .i64 0)).setCell ⟨g4, 1, none⟩ (.int .i64 0)).setCell ⟨g4, 2, none⟩ (.int .i64 0)).setCell ⟨g4, 3, none⟩ (.string (⟨#[]⟩ : ByteArray))).cell? ⟨g4, 0, none⟩ = some (.int .i64 0) := (blk_cell BK4.out 0).trans rfl; have m1 : ((((w4.setCell ⟨g4, 0, none⟩ (.int .i64 0)).setCell ⟨g4, 1, none⟩ (.int .i64 0)).setCell ⟨g4, 2, none⟩ (.int .i64 0)).setCell ⟨g4, 3, none⟩ (.string (⟨#[]⟩ : ByteArray))).cell? ⟨g4, 1, none⟩ = some (.int .i64 0) := (blk_cell BK4.out 1).trans rfl; have m2 : ((((w4.setCell ⟨g4, 0, none⟩ (.int .i64 0)).setCell ⟨g4, 1, none⟩ (.int .i64 0)).setCell ⟨g4, 2, none⟩ (.int .i64 0)).setCell ⟨g4, 3, none⟩ (.string (⟨#[]⟩ : ByteArray))).cell? ⟨g4, 2, none⟩ = some (.int .i64 0) := (blk_cell BK4.out 2).trans rfl; have m3 : ((((w4.setCell ⟨g4, 0, none⟩ (.int .i64 0)).setCell ⟨g4, 1, none⟩ (.int .i64 0)).setCell ⟨g4, 2, none⟩ (.int .i64 0)).setCell ⟨g4, 3, none⟩ (.string (⟨#[]⟩ : ByteArray))).cell? ⟨g4, 3, none⟩ = some (.string (⟨#[]⟩ : ByteArray)) := (blk_cell BK4.out 3).trans rfl) | ((with_reducible refine gate_dst (N := 6) rfl ?_); refine box_event ?hg (N := 6) ?hd (cs := #[.int .i64 0, .int .i64 0, .int .i64 0, .string (⟨#[]⟩ : ByteArray)]) (t := 27) ?hr ?_; (case hd => rfl); (case hg => rfl); (case hr => first | (go_simp; done) | (go_simp; rfl)); intro g6 hg w6 hbox hb; have n0_ := Aside0.mk (blk_below (g := g2) (o := .cells #[.int .i64 0, .int .i64 0, .int .i64 0, .string (⟨#[]⟩ : ByteArray)] 27 (0, 0)) (by (with_reducible repeat (first | refine blk_drewN ?_ _ | refine blk_drew ?_ | refine blk_alloc ?_ _)); exact BK2.out) hb); have n1_ := Aside0.mk (blk_below (g := g4) (o := .cells #[.int .i64 0, .int .i64 0, .int .i64 0, .string (⟨#[]⟩ : ByteArray)] 27 (0, 0)) (by (with_reducible repeat (first | refine blk_drewN ?_ _ | refine blk_drew ?_ | refine blk_alloc ?_ _)); exact BK4.out) hb); have n2_ := Aside0.mk ((by rw [hg]; exact (Nat.ne_of_lt (blk_lt (g := g2) (o := .cells #[.int .i64 0, .int .i64 0, .int .i64 0, .string (⟨#[]⟩ : ByteArray)] 27 (0, 0)) (by (with_reducible repeat (first | refine blk_drewN ?_ _ | refine blk_drew ?_ | refine blk_alloc ?_ _)); exact BK2.out))) : g2 ≠ g6)); have n3_ := Aside0.mk ((by rw [hg]; exact (Nat.ne_of_lt (blk_lt (g := g4) (o := .cells #[.int .i64 0, .int .i64 0, .int .i64 0, .string (⟨#[]⟩ : ByteArray)] 27 (0, 0)) (by (with_reducible repeat (first | refine blk_drewN ?_ _ | refine blk_drew ?_ | refine blk_alloc ?_ _)); exact BK4.out))) : g4 ≠ g6)); have n4_ := Aside0.mk (below_step (by repeat (first | (with_reducible first | exact HB.out | apply below_alloc | apply pw_below_drewN | apply below_drew1) | exact HB.out)) hb); have n5_ := Aside0.mk (hbox); have n6_ := Aside0.mk ((by rw [hg]; exact (below_size (by repeat (first | (with_reducible first | exact HB.out | apply below_alloc | apply pw_below_drewN | apply below_drew1) | exact HB.out))) : w.heap.size ≤ g6)); clear BK2 BK4 HB; have BK2 := n0_; have BK4 := n1_; have NE26 := n2_; have NE46 := n3_; have HB := n4_; have BK6 := n5_; have GE6 := n6_; clear n0_ n1_ n2_ n3_ n4_ n5_ n6_; clear hb hbox hg; have i6_0 : w6.cell? ⟨g6, 0, none⟩ = some (.int .i64 0) := (blk_cell BK6.out 0).trans rfl; have i6_1 : w6.cell? ⟨g6, 1, none⟩ = some (.int .i64 0) := (blk_cell BK6.out 1).trans rfl; have i6_2 : w6.cell? ⟨g6, 2, none⟩ = some (.int .i64 0) := (blk_cell BK6.out 2).trans rfl; have i6_3 : w6.cell? ⟨g6, 3, none⟩ = some (.string (⟨#[]⟩ : ByteArray)) := (blk_cell BK6.out 3).trans rfl; have j6_0 : w6.frozen? ⟨g6, 0, none⟩ = false := blk_frozen BK6.out 0; have j6_1 : w6.frozen? ⟨g6, 1, none⟩ = false := blk_frozen BK6.out 1; have j6_2 : w6.frozen? ⟨g6, 2, none⟩ = false := blk_frozen BK6.out 2; have j6_3 : w6.frozen? ⟨g6, 3, none⟩ = false := blk_frozen BK6.out 3; have n0_ := Aside0.mk (spec_ParseVersion.fourF BK2.out NE26.out (.int .i64 0) (.int .i64 0) (.int .i64 0) (.string (⟨#[]⟩ : ByteArray))); have n1_ := Aside0.mk (spec_ParseVersion.fourF BK4.out NE46.out (.int .i64 0) (.int .i64 0) (.int .i64 0) (.string (⟨#[]⟩ : ByteArray))); have n2_ := Aside0.mk (spec_ParseVersion.four BK6.out (.int .i64 0) (.int .i64 0) (.int .i64 0) (.string (⟨#[]⟩ : ByteArray))); have n3_ := Aside0.mk (spec_ParseVersion.fourB HB.out GE6.out (.int .i64 0) (.int .i64 0) (.int .i64 0) (.string (⟨#[]⟩ : ByteArray))); clear BK2 BK4 BK6 HB; have BK2 := n0_; have BK4 := n1_; have BK6 := n2_; have HB := n3_; clear n0_ n1_ n2_ n3_))
          (try simp only [Act.put, List.setIfInBounds_toArray, List.set_cons_zero, List.set_cons_succ])
          go_cut [5] (fun v5 wc => ∃ (kj : Nat) (t p : ByteArray), v5 = .string t ∧ Aside0 (spec_ParseVersion.n2 kj a0 t p = some (r1, r2, r3, r4, r5)) ∧ Aside0 (wc.heap[g2]? = some (.cells #[.int .i64 0, .int .i64 0, .int .i64 0, .string (⟨#[]⟩ : ByteArray)] 27 (0, 0))) ∧ Aside0 (wc.heap[g4]? = some (.cells #[.int .i64 0, .int .i64 0, .int .i64 0, .string (⟨#[]⟩ : ByteArray)] 27 (0, 0))) ∧ Aside0 (wc.heap[g6]? = some (.cells #[.int .i64 0, .int .i64 0, .int .i64 0, .string p] 27 (0, 0))) ∧ Aside0 (Below w.heap.size w wc))
          case first =>
            go_wp2
            go_loopg [5, 7] k (fun kq v5 v7 wr => ∃ (t : ByteArray) (i : Int), v5 = .string t ∧ v7 = .int .i64 i ∧ Aside0 (spec_ParseVersion.l0 kq a0 t i = some (r1, r2, r3, r4, r5)) ∧ Aside0 (kq ≤ k) ∧ Aside0 (wr.heap[g2]? = some (.cells #[.int .i64 0, .int .i64 0, .int .i64 0, .string (⟨#[]⟩ : ByteArray)] 27 (0, 0))) ∧ Aside0 (wr.heap[g4]? = some (.cells #[.int .i64 0, .int .i64 0, .int .i64 0, .string (⟨#[]⟩ : ByteArray)] 27 (0, 0))) ∧ Aside0 (wr.heap[g6]? = some (.cells #[.int .i64 0, .int .i64 0, .int .i64 0, .string (⟨#[]⟩ : ByteArray)] 27 (0, 0))) ∧ Aside0 (Below w.heap.size w wr))
            case atStart => exact ⟨_, 0, (by first | rfl | (simp; done) | (simp [*]; done)), (by first | rfl | (simp; done)), H', ⟨Nat.le_refl _⟩, ⟨BK2.out⟩, ⟨BK4.out⟩, ⟨BK6.out⟩, ⟨HB.out⟩⟩
            case round =>
            clear H' BK2 BK4 BK6 HB
            obtain ⟨t, i, rfl, rfl, HA, HK, BK2, BK4, BK6, HB⟩ := hrel
            cases gk with
            | zero => exact absurd HA.out (by simp [spec_ParseVersion.l0])
            | succ k2 =>
              have H := HA.out
              clear HA
              simp only [spec_ParseVersion.l0] at H
              by_cases c5 : i < (t.size : Int)
              · rw [if_pos c5] at H
                have c5b0 : decide (i < (t.size : Int)) = true := decide_eq_true c5
                (first | rw [c5b0] | (simp only [i64_w, i32_w]; rw [c5b0]) | skip)
                by_cases c6 : 0 ≤ i
                · rw [if_pos c6] at H
                  have c6b0 : decide (0 ≤ i) = true := decide_eq_true c6
                  have p22 := eq_true (c6 : 0 ≤ (i : Int))
                  have q22 := eq_true c5
                  have q23 := eq_true (show i ≤ (t.size : Int) by omega)
                  have hx22 := bt_at t i
                  by_cases c7 : bt t i = 45
                  · rw [if_pos c7] at H
                    have c7b0 : (bt t i == 45) = true := beq_iff_eq.mpr c7
                    have c7b1 : (bt t i != 45) = false := bne_eq_false_iff_eq.mpr c7
                    obtain ⟨ji, hji⟩ : ∃ j_ : Int, (wrap64 (i + 1)) = j_ := ⟨_, rfl⟩
                    rw [hji] at H
                    have hjiw : (IntKind.i64.wrap (i + 1)) = ji := (i64_w _).trans hji
                    by_cases c8 : 0 ≤ ji
                    · rw [if_pos c8] at H
                      have c8b0 := eq_true c8
                      have c8b1 : decide (0 ≤ ji) = true := decide_eq_true c8
                      by_cases c9 : ji ≤ (t.size : Int)
                      · rw [if_pos c9] at H
                        have c9b0 := eq_true c9
                        have c9b1 : decide (ji ≤ (t.size : Int)) = true := decide_eq_true c9
                        clear c5 c6 c7 c8 c9
                        have H' := Aside0.mk H
                        clear H
                        have e0 : wr.cell? ⟨g6, 0, none⟩ = some (.int .i64 0) := (blk_cell BK6.out 0).trans rfl; have e1 : wr.cell? ⟨g6, 1, none⟩ = some (.int .i64 0) := (blk_cell BK6.out 1).trans rfl; have e2 : wr.cell? ⟨g6, 2, none⟩ = some (.int .i64 0) := (blk_cell BK6.out 2).trans rfl; have e3 : wr.cell? ⟨g6, 3, none⟩ = some (.string (⟨#[]⟩ : ByteArray)) := (blk_cell BK6.out 3).trans rfl; have q0 : wr.frozen? ⟨g6, 0, none⟩ = false := blk_frozen BK6.out 0; have q1 : wr.frozen? ⟨g6, 1, none⟩ = false := blk_frozen BK6.out 1; have q2 : wr.frozen? ⟨g6, 2, none⟩ = false := blk_frozen BK6.out 2; have q3 : wr.frozen? ⟨g6, 3, none⟩ = false := blk_frozen BK6.out 3
                        go_wp2
                        go_meet
                        case rel => exact ⟨k2, t.extract 0 i.toNat, t.extract ji.toNat t.size, (by first | rfl | (simp; done) | (simp [*]; done)), H', ⟨blk_far BK2.out NE26.out _⟩, ⟨blk_far BK4.out NE46.out _⟩, ⟨blk_put BK6.out 3 _ rfl⟩, ⟨below_set HB.out GE6.out⟩⟩
                      · rw [if_neg c9] at H
                        cases H
                    · rw [if_neg c8] at H
                      cases H
                  · rw [if_neg c7] at H
                    have c7b0 : (bt t i == 45) = false := beq_eq_false_iff_ne.mpr c7
                    have c7b1 : (bt t i != 45) = true := bne_iff_ne.mpr c7
                    clear c5 c6 c7
                    have H' := Aside0.mk H
                    clear H
                    go_wp2
                    go_roundg k2
                    case measure => have := HK.out; omega
                    case rel => exact ⟨t, wrap64 (i + 1), (by first | rfl | (simp; done) | (simp [*]; done)), (by first | rfl | (simp; done) | (simp [*]; done)), H', ⟨by have := HK.out; omega⟩, ⟨BK2.out⟩, ⟨BK4.out⟩, ⟨BK6.out⟩, ⟨HB.out⟩⟩
                · rw [if_neg c6] at H
                  cases H
              · rw [if_neg c5] at H
                have c5b0 : decide (i < (t.size : Int)) = false := decide_eq_false c5
                clear c5
                (first | rw [c5b0] | (simp only [i64_w, i32_w]; rw [c5b0]) | skip)
                have H' := Aside0.mk H
                clear H
                go_wp2
                go_meet
                case rel => exact ⟨k2, t, (⟨#[]⟩ : ByteArray), (by first | rfl | (simp; done) | (simp [*]; done)), H', ⟨BK2.out⟩, ⟨BK4.out⟩, ⟨BK6.out⟩, ⟨HB.out⟩⟩
          case rest =>
            try clear H' BK2 BK4 BK6 HB
            obtain ⟨kj, t, p, rfl, HA, BK2, BK4, BK6, HB⟩ := hcut
            have H := HA.out
            clear HA
            unfold spec_ParseVersion.n2 at H
            obtain ⟨l, AL0, H⟩ := Option.bind_eq_some_iff.mp H
            have AL := Aside0.mk AL0
            clear AL0
            by_cases c5 : l.length = 3
            · replace H : ((spec_l3Number.f kj (rdOf ByteArray.empty l 0)).bind fun x => ((spec_l3Number.f kj (rdOf ByteArray.empty l 1)).bind fun y => ((spec_l3Number.f kj (rdOf ByteArray.empty l 2)).bind fun z => (spec_ParseVersion.n3 kj a0 p x y z)))) = some (r1, r2, r3, r4, r5) := by rw [if_pos c5] at H; exact H
              have c5b0 : ((l.length : Int) != 3) = false := bne_eq_false_iff_eq.mpr (by omega)
              have c5b1 : ((l.length : Int) == 3) = true := beq_iff_eq.mpr (by omega)
              have pl0 := Aside0.mk (show (0 : Int) < (l.length : Int) by omega)
              have pl1 := Aside0.mk (show (1 : Int) < (l.length : Int) by omega)
              have pl2 := Aside0.mk (show (2 : Int) < (l.length : Int) by omega)
              have pm0 : (0 < l.length) = True := eq_true (by omega)
              have pm1 : (1 < l.length) = True := eq_true (by omega)
              have pm2 : (2 < l.length) = True := eq_true (by omega)
              have pe0 := eq_true pl0.out
              have pe1 := eq_true pl1.out
              have pe2 := eq_true pl2.out
              clear c5
              obtain ⟨x, A0, H⟩ := Option.bind_eq_some_iff.mp H
              obtain ⟨y, A1, H⟩ := Option.bind_eq_some_iff.mp H
              obtain ⟨z, A2, H⟩ := Option.bind_eq_some_iff.mp H
              have AN0 := Aside0.mk A0
              have AN1 := Aside0.mk A1
              have AN2 := Aside0.mk A2
              clear A0 A1 A2
              unfold spec_ParseVersion.n3 at H
              obtain ⟨b, A3, H⟩ := Option.bind_eq_some_iff.mp H
              have AB := Aside0.mk A3
              clear A3
              cases b with
              | true =>
                replace H : ((spec_VersionText.f kj x y z p).bind fun t => (if t.toList = a0.toList then (some (x, y, z, p, true)) else (some (0, 0, 0, (⟨#[]⟩ : ByteArray), false)))) = some (r1, r2, r3, r4, r5) := H
                obtain ⟨tx, A4, H⟩ := Option.bind_eq_some_iff.mp H
                have AT := Aside0.mk A4
                clear A4
                by_cases c9 : tx.toList = a0.toList
                · have c9b0 : (tx.toList == a0.toList) = true := beq_iff_eq.mpr c9
                  have c9b1 : (tx.toList != a0.toList) = false := bne_eq_false_iff_eq.mpr c9
                  rw [if_pos c9] at H
                  simp only [Option.some.injEq, Prod.mk.injEq] at H
                  obtain ⟨rfl, rfl, rfl, rfl, rfl⟩ := H
                  clear c9
                  go_wp2_with (first | ((with_reducible refine gate_callee (f := 43) rfl ?_); refine goesL_ (some 40) rfl rfl Tryd.func43 (by kernel_rfl) rfl #[.string t, .int .u8 46] rfl (by (try simp only [List.map_toArray, List.map_cons, List.map_nil]); first | done | rfl) ?_; (with_reducible refine (spec_l3Split.calls kj t 46 l _ AL.out).mono ?_); rintro e w3 ⟨v122, rfl, ho0, hb⟩; refine ⟨_, rfl, ?_⟩; have nh_ := Aside0.mk (Kd.R_lower ho0 (below_size (by repeat (first | (with_reducible first | exact HB.out | apply below_alloc | apply pw_below_drewN | apply below_drew1) | exact HB.out)))); have n0_ := Aside0.mk (below_step (by repeat (first | (with_reducible first | exact HB.out | apply below_alloc | apply pw_below_drewN | apply below_drew1) | exact HB.out)) hb); have n1_ := Aside0.mk (blk_below (g := g2) (o := .cells #[.int .i64 0, .int .i64 0, .int .i64 0, .string (⟨#[]⟩ : ByteArray)] 27 (0, 0)) (by (with_reducible repeat (first | refine blk_drewN ?_ _ | refine blk_drew ?_ | refine blk_alloc ?_ _)); exact BK2.out) hb); have n2_ := Aside0.mk (blk_below (g := g4) (o := .cells #[.int .i64 0, .int .i64 0, .int .i64 0, .string (⟨#[]⟩ : ByteArray)] 27 (0, 0)) (by (with_reducible repeat (first | refine blk_drewN ?_ _ | refine blk_drew ?_ | refine blk_alloc ?_ _)); exact BK4.out) hb); have n3_ := Aside0.mk (blk_below (g := g6) (o := .cells #[.int .i64 0, .int .i64 0, .int .i64 0, .string p] 27 (0, 0)) (by (with_reducible repeat (first | refine blk_drewN ?_ _ | refine blk_drew ?_ | refine blk_alloc ?_ _)); exact BK6.out) hb); clear HB BK2 BK4 BK6; have HB := n0_; have BK2 := n1_; have BK4 := n2_; have BK6 := n3_; clear n0_ n1_ n2_ n3_; have HO := nh_; clear nh_; clear hb ho0; obtain ⟨Ao4, co4, eo4⟩ := Kd.R_slice HO.out; subst eo4; obtain ⟨ad, e, hx⟩ := Kd.at_string (Kd.R_reads' HO.out).2.2 (0 : Int) (by decide) pl0.out; cases e; replace hx : w3.cell? ad = some (.string (rdOf ByteArray.empty l 0)) := hx) | ((with_reducible refine gate_callee (f := 63) rfl ?_); refine goesL_ (some 48) rfl rfl Tryd.func63 (by kernel_rfl) rfl #[.string (rdOf ByteArray.empty l 0)] rfl (by (try simp only [List.map_toArray, List.map_cons, List.map_nil]); first | done | rfl) ?_; (with_reducible refine (spec_l3Number.calls kj (rdOf ByteArray.empty l 0) x _ AN0.out).mono ?_); rintro e w' ⟨rfl, ⟨nd0, rfl⟩⟩; refine ⟨_, rfl, ?_⟩; have s0 : (w3.drewN nd0).cell? ⟨g6, 0, none⟩ = some (.int .i64 0) := (blk_cell (show ((w3.drewN nd0)).heap[g6]? = some (.cells #[.int .i64 0, .int .i64 0, .int .i64 0, .string p] 27 (0, 0)) from BK6.out) 0).trans rfl; have u0 : (w3.drewN nd0).frozen? ⟨g6, 0, none⟩ = false := blk_frozen (show ((w3.drewN nd0)).heap[g6]? = some (.cells #[.int .i64 0, .int .i64 0, .int .i64 0, .string p] 27 (0, 0)) from BK6.out) 0; have n0_ := Aside0.mk ((Kd.R_set (Kd.R_drewN HO.out nd0) (show ((w3.drewN nd0)).heap[g6]? = some (.cells #[.int .i64 0, .int .i64 0, .int .i64 0, .string p] 27 (0, 0)) from BK6.out) (by decide) 0 (.int .i64 x) : Kd.R Kd.string 9 ((w3.drewN nd0).setCell ⟨g6, 0, none⟩ (.int .i64 x)) w.heap.size (fun _ => True) (.slice (some ad) l.length co4) l)); have n1_ := Aside0.mk ((blk_far (w := (w3.drewN nd0)) (g := g2) (p := ⟨g6, 0, none⟩) (show ((w3.drewN nd0)).heap[g2]? = some (.cells #[.int .i64 0, .int .i64 0, .int .i64 0, .string (⟨#[]⟩ : ByteArray)] 27 (0, 0)) from BK2.out) NE26.out (.int .i64 x) : ((w3.drewN nd0).setCell ⟨g6, 0, none⟩ (.int .i64 x)).heap[g2]? = some (.cells #[.int .i64 0, .int .i64 0, .int .i64 0, .string (⟨#[]⟩ : ByteArray)] 27 (0, 0)))); have n2_ := Aside0.mk ((blk_far (w := (w3.drewN nd0)) (g := g4) (p := ⟨g6, 0, none⟩) (show ((w3.drewN nd0)).heap[g4]? = some (.cells #[.int .i64 0, .int .i64 0, .int .i64 0, .string (⟨#[]⟩ : ByteArray)] 27 (0, 0)) from BK4.out) NE46.out (.int .i64 x) : ((w3.drewN nd0).setCell ⟨g6, 0, none⟩ (.int .i64 x)).heap[g4]? = some (.cells #[.int .i64 0, .int .i64 0, .int .i64 0, .string (⟨#[]⟩ : ByteArray)] 27 (0, 0)))); have n3_ := Aside0.mk ((blk_put (w := (w3.drewN nd0)) (g := g6) (show ((w3.drewN nd0)).heap[g6]? = some (.cells #[.int .i64 0, .int .i64 0, .int .i64 0, .string p] 27 (0, 0)) from BK6.out) 0 (.int .i64 x) rfl : ((w3.drewN nd0).setCell ⟨g6, 0, none⟩ (.int .i64 x)).heap[g6]? = some (.cells #[.int .i64 x, .int .i64 0, .int .i64 0, .string p] 27 (0, 0)))); have n4_ := Aside0.mk ((below_set (pw_below_drewN HB.out nd0) GE6.out : Below w.heap.size w ((w3.drewN nd0).setCell ⟨g6, 0, none⟩ (.int .i64 x)))); clear HO BK2 BK4 BK6 HB; have HO := n0_; have BK2 := n1_; have BK4 := n2_; have BK6 := n3_; have HB := n4_; clear n0_ n1_ n2_ n3_ n4_; obtain ⟨ad, e, hx⟩ := Kd.at_string (Kd.R_reads' HO.out).2.2 (1 : Int) (by decide) pl1.out; cases e; replace hx : ((w3.drewN nd0).setCell ⟨g6, 0, none⟩ (.int .i64 x)).cell? (⟨ad.block, ad.off + 1, none⟩ : Addr) = some (.string (rdOf ByteArray.empty l 1)) := hx) | ((with_reducible refine gate_callee (f := 63) rfl ?_); refine goesL_ (some 53) rfl rfl Tryd.func63 (by kernel_rfl) rfl #[.string (rdOf ByteArray.empty l 1)] rfl (by (try simp only [List.map_toArray, List.map_cons, List.map_nil]); first | done | rfl) ?_; (with_reducible refine (spec_l3Number.calls kj (rdOf ByteArray.empty l 1) y _ AN1.out).mono ?_); rintro e w' ⟨rfl, ⟨nd1, rfl⟩⟩; refine ⟨_, rfl, ?_⟩; have s1 : (((w3.drewN nd0).setCell ⟨g6, 0, none⟩ (.int .i64 x)).drewN nd1).cell? ⟨g6, 1, none⟩ = some (.int .i64 0) := (blk_cell (show ((((w3.drewN nd0).setCell ⟨g6, 0, none⟩ (.int .i64 x)).drewN nd1)).heap[g6]? = some (.cells #[.int .i64 x, .int .i64 0, .int .i64 0, .string p] 27 (0, 0)) from BK6.out) 1).trans rfl; have u1 : (((w3.drewN nd0).setCell ⟨g6, 0, none⟩ (.int .i64 x)).drewN nd1).frozen? ⟨g6, 1, none⟩ = false := blk_frozen (show ((((w3.drewN nd0).setCell ⟨g6, 0, none⟩ (.int .i64 x)).drewN nd1)).heap[g6]? = some (.cells #[.int .i64 x, .int .i64 0, .int .i64 0, .string p] 27 (0, 0)) from BK6.out) 1; have n0_ := Aside0.mk ((Kd.R_set (Kd.R_drewN HO.out nd1) (show ((((w3.drewN nd0).setCell ⟨g6, 0, none⟩ (.int .i64 x)).drewN nd1)).heap[g6]? = some (.cells #[.int .i64 x, .int .i64 0, .int .i64 0, .string p] 27 (0, 0)) from BK6.out) (by decide) 1 (.int .i64 y) : Kd.R Kd.string 9 ((((w3.drewN nd0).setCell ⟨g6, 0, none⟩ (.int .i64 x)).drewN nd1).setCell ⟨g6, 1, none⟩ (.int .i64 y)) w.heap.size (fun _ => True) (.slice (some ad) l.length co4) l)); have n1_ := Aside0.mk ((blk_far (w := (((w3.drewN nd0).setCell ⟨g6, 0, none⟩ (.int .i64 x)).drewN nd1)) (g := g2) (p := ⟨g6, 1, none⟩) (show ((((w3.drewN nd0).setCell ⟨g6, 0, none⟩ (.int .i64 x)).drewN nd1)).heap[g2]? = some (.cells #[.int .i64 0, .int .i64 0, .int .i64 0, .string (⟨#[]⟩ : ByteArray)] 27 (0, 0)) from BK2.out) NE26.out (.int .i64 y) : ((((w3.drewN nd0).setCell ⟨g6, 0, none⟩ (.int .i64 x)).drewN nd1).setCell ⟨g6, 1, none⟩ (.int .i64 y)).heap[g2]? = some (.cells #[.int .i64 0, .int .i64 0, .int .i64 0, .string (⟨#[]⟩ : ByteArray)] 27 (0, 0)))); have n2_ := Aside0.mk ((blk_far (w := (((w3.drewN nd0).setCell ⟨g6, 0, none⟩ (.int .i64 x)).drewN nd1)) (g := g4) (p := ⟨g6, 1, none⟩) (show ((((w3.drewN nd0).setCell ⟨g6, 0, none⟩ (.int .i64 x)).drewN nd1)).heap[g4]? = some (.cells #[.int .i64 0, .int .i64 0, .int .i64 0, .string (⟨#[]⟩ : ByteArray)] 27 (0, 0)) from BK4.out) NE46.out (.int .i64 y) : ((((w3.drewN nd0).setCell ⟨g6, 0, none⟩ (.int .i64 x)).drewN nd1).setCell ⟨g6, 1, none⟩ (.int .i64 y)).heap[g4]? = some (.cells #[.int .i64 0, .int .i64 0, .int .i64 0, .string (⟨#[]⟩ : ByteArray)] 27 (0, 0)))); have n3_ := Aside0.mk ((blk_put (w := (((w3.drewN nd0).setCell ⟨g6, 0, none⟩ (.int .i64 x)).drewN nd1)) (g := g6) (show ((((w3.drewN nd0).setCell ⟨g6, 0, none⟩ (.int .i64 x)).drewN nd1)).heap[g6]? = some (.cells #[.int .i64 x, .int .i64 0, .int .i64 0, .string p] 27 (0, 0)) from BK6.out) 1 (.int .i64 y) rfl : ((((w3.drewN nd0).setCell ⟨g6, 0, none⟩ (.int .i64 x)).drewN nd1).setCell ⟨g6, 1, none⟩ (.int .i64 y)).heap[g6]? = some (.cells #[.int .i64 x, .int .i64 y, .int .i64 0, .string p] 27 (0, 0)))); have n4_ := Aside0.mk ((below_set (pw_below_drewN HB.out nd1) GE6.out : Below w.heap.size w ((((w3.drewN nd0).setCell ⟨g6, 0, none⟩ (.int .i64 x)).drewN nd1).setCell ⟨g6, 1, none⟩ (.int .i64 y)))); clear HO BK2 BK4 BK6 HB; have HO := n0_; have BK2 := n1_; have BK4 := n2_; have BK6 := n3_; have HB := n4_; clear n0_ n1_ n2_ n3_ n4_; obtain ⟨ad, e, hx⟩ := Kd.at_string (Kd.R_reads' HO.out).2.2 (2 : Int) (by decide) pl2.out; cases e; replace hx : ((((w3.drewN nd0).setCell ⟨g6, 0, none⟩ (.int .i64 x)).drewN nd1).setCell ⟨g6, 1, none⟩ (.int .i64 y)).cell? (⟨ad.block, ad.off + 2, none⟩ : Addr) = some (.string (rdOf ByteArray.empty l 2)) := hx) | ((with_reducible refine gate_callee (f := 63) rfl ?_); refine goesL_ (some 58) rfl rfl Tryd.func63 (by kernel_rfl) rfl #[.string (rdOf ByteArray.empty l 2)] rfl (by (try simp only [List.map_toArray, List.map_cons, List.map_nil]); first | done | rfl) ?_; (with_reducible refine (spec_l3Number.calls kj (rdOf ByteArray.empty l 2) z _ AN2.out).mono ?_); rintro e w' ⟨rfl, ⟨nd2, rfl⟩⟩; refine ⟨_, rfl, ?_⟩; have s2 : (((((w3.drewN nd0).setCell ⟨g6, 0, none⟩ (.int .i64 x)).drewN nd1).setCell ⟨g6, 1, none⟩ (.int .i64 y)).drewN nd2).cell? ⟨g6, 2, none⟩ = some (.int .i64 0) := (blk_cell (show ((((((w3.drewN nd0).setCell ⟨g6, 0, none⟩ (.int .i64 x)).drewN nd1).setCell ⟨g6, 1, none⟩ (.int .i64 y)).drewN nd2)).heap[g6]? = some (.cells #[.int .i64 x, .int .i64 y, .int .i64 0, .string p] 27 (0, 0)) from BK6.out) 2).trans rfl; have u2 : (((((w3.drewN nd0).setCell ⟨g6, 0, none⟩ (.int .i64 x)).drewN nd1).setCell ⟨g6, 1, none⟩ (.int .i64 y)).drewN nd2).frozen? ⟨g6, 2, none⟩ = false := blk_frozen (show ((((((w3.drewN nd0).setCell ⟨g6, 0, none⟩ (.int .i64 x)).drewN nd1).setCell ⟨g6, 1, none⟩ (.int .i64 y)).drewN nd2)).heap[g6]? = some (.cells #[.int .i64 x, .int .i64 y, .int .i64 0, .string p] 27 (0, 0)) from BK6.out) 2; have n0_ := Aside0.mk ((Kd.R_set (Kd.R_drewN HO.out nd2) (show ((((((w3.drewN nd0).setCell ⟨g6, 0, none⟩ (.int .i64 x)).drewN nd1).setCell ⟨g6, 1, none⟩ (.int .i64 y)).drewN nd2)).heap[g6]? = some (.cells #[.int .i64 x, .int .i64 y, .int .i64 0, .string p] 27 (0, 0)) from BK6.out) (by decide) 2 (.int .i64 z) : Kd.R Kd.string 9 ((((((w3.drewN nd0).setCell ⟨g6, 0, none⟩ (.int .i64 x)).drewN nd1).setCell ⟨g6, 1, none⟩ (.int .i64 y)).drewN nd2).setCell ⟨g6, 2, none⟩ (.int .i64 z)) w.heap.size (fun _ => True) (.slice (some ad) l.length co4) l)); have n1_ := Aside0.mk ((blk_far (w := (((((w3.drewN nd0).setCell ⟨g6, 0, none⟩ (.int .i64 x)).drewN nd1).setCell ⟨g6, 1, none⟩ (.int .i64 y)).drewN nd2)) (g := g2) (p := ⟨g6, 2, none⟩) (show ((((((w3.drewN nd0).setCell ⟨g6, 0, none⟩ (.int .i64 x)).drewN nd1).setCell ⟨g6, 1, none⟩ (.int .i64 y)).drewN nd2)).heap[g2]? = some (.cells #[.int .i64 0, .int .i64 0, .int .i64 0, .string (⟨#[]⟩ : ByteArray)] 27 (0, 0)) from BK2.out) NE26.out (.int .i64 z) : ((((((w3.drewN nd0).setCell ⟨g6, 0, none⟩ (.int .i64 x)).drewN nd1).setCell ⟨g6, 1, none⟩ (.int .i64 y)).drewN nd2).setCell ⟨g6, 2, none⟩ (.int .i64 z)).heap[g2]? = some (.cells #[.int .i64 0, .int .i64 0, .int .i64 0, .string (⟨#[]⟩ : ByteArray)] 27 (0, 0)))); have n2_ := Aside0.mk ((blk_far (w := (((((w3.drewN nd0).setCell ⟨g6, 0, none⟩ (.int .i64 x)).drewN nd1).setCell ⟨g6, 1, none⟩ (.int .i64 y)).drewN nd2)) (g := g4) (p := ⟨g6, 2, none⟩) (show ((((((w3.drewN nd0).setCell ⟨g6, 0, none⟩ (.int .i64 x)).drewN nd1).setCell ⟨g6, 1, none⟩ (.int .i64 y)).drewN nd2)).heap[g4]? = some (.cells #[.int .i64 0, .int .i64 0, .int .i64 0, .string (⟨#[]⟩ : ByteArray)] 27 (0, 0)) from BK4.out) NE46.out (.int .i64 z) : ((((((w3.drewN nd0).setCell ⟨g6, 0, none⟩ (.int .i64 x)).drewN nd1).setCell ⟨g6, 1, none⟩ (.int .i64 y)).drewN nd2).setCell ⟨g6, 2, none⟩ (.int .i64 z)).heap[g4]? = some (.cells #[.int .i64 0, .int .i64 0, .int .i64 0, .string (⟨#[]⟩ : ByteArray)] 27 (0, 0)))); have n3_ := Aside0.mk ((blk_put (w := (((((w3.drewN nd0).setCell ⟨g6, 0, none⟩ (.int .i64 x)).drewN nd1).setCell ⟨g6, 1, none⟩ (.int .i64 y)).drewN nd2)) (g := g6) (show ((((((w3.drewN nd0).setCell ⟨g6, 0, none⟩ (.int .i64 x)).drewN nd1).setCell ⟨g6, 1, none⟩ (.int .i64 y)).drewN nd2)).heap[g6]? = some (.cells #[.int .i64 x, .int .i64 y, .int .i64 0, .string p] 27 (0, 0)) from BK6.out) 2 (.int .i64 z) rfl : ((((((w3.drewN nd0).setCell ⟨g6, 0, none⟩ (.int .i64 x)).drewN nd1).setCell ⟨g6, 1, none⟩ (.int .i64 y)).drewN nd2).setCell ⟨g6, 2, none⟩ (.int .i64 z)).heap[g6]? = some (.cells #[.int .i64 x, .int .i64 y, .int .i64 z, .string p] 27 (0, 0)))); have n4_ := Aside0.mk ((below_set (pw_below_drewN HB.out nd2) GE6.out : Below w.heap.size w ((((((w3.drewN nd0).setCell ⟨g6, 0, none⟩ (.int .i64 x)).drewN nd1).setCell ⟨g6, 1, none⟩ (.int .i64 y)).drewN nd2).setCell ⟨g6, 2, none⟩ (.int .i64 z)))); clear HO BK2 BK4 BK6 HB; have HO := n0_; have BK2 := n1_; have BK4 := n2_; have BK6 := n3_; have HB := n4_; clear n0_ n1_ n2_ n3_ n4_; have e0 : ((((((w3.drewN nd0).setCell ⟨g6, 0, none⟩ (.int .i64 x)).drewN nd1).setCell ⟨g6, 1, none⟩ (.int .i64 y)).drewN nd2).setCell ⟨g6, 2, none⟩ (.int .i64 z)).cell? ⟨g6, 0, none⟩ = some (.int .i64 x) := (blk_cell BK6.out 0).trans rfl; have e1 : ((((((w3.drewN nd0).setCell ⟨g6, 0, none⟩ (.int .i64 x)).drewN nd1).setCell ⟨g6, 1, none⟩ (.int .i64 y)).drewN nd2).setCell ⟨g6, 2, none⟩ (.int .i64 z)).cell? ⟨g6, 1, none⟩ = some (.int .i64 y) := (blk_cell BK6.out 1).trans rfl; have e2 : ((((((w3.drewN nd0).setCell ⟨g6, 0, none⟩ (.int .i64 x)).drewN nd1).setCell ⟨g6, 1, none⟩ (.int .i64 y)).drewN nd2).setCell ⟨g6, 2, none⟩ (.int .i64 z)).cell? ⟨g6, 2, none⟩ = some (.int .i64 z) := (blk_cell BK6.out 2).trans rfl; have e3 : ((((((w3.drewN nd0).setCell ⟨g6, 0, none⟩ (.int .i64 x)).drewN nd1).setCell ⟨g6, 1, none⟩ (.int .i64 y)).drewN nd2).setCell ⟨g6, 2, none⟩ (.int .i64 z)).cell? ⟨g6, 3, none⟩ = some (.string p) := (blk_cell BK6.out 3).trans rfl) | ((with_reducible refine gate_callee (f := 18) rfl ?_); refine goesL_ (some 61) rfl rfl Tryd.func18 (by kernel_rfl) rfl #[.agg #[.int .i64 x, .int .i64 y, .int .i64 z, .string p]] rfl (by (try simp only [List.map_toArray, List.map_cons, List.map_nil]); first | done | rfl) ?_; (with_reducible refine (spec_VersionOk.calls kj x y z p true _ AB.out).mono ?_); rintro e w8 ⟨rfl, hb⟩; refine ⟨_, rfl, ?_⟩; clear e0 e1 e2 e3; have n0_ := Aside0.mk (below_step (by repeat (first | (with_reducible first | exact HB.out | apply below_alloc | apply pw_below_drewN | apply below_drew1) | exact HB.out)) hb); have n1_ := Aside0.mk (blk_below (g := g2) (o := .cells #[.int .i64 0, .int .i64 0, .int .i64 0, .string (⟨#[]⟩ : ByteArray)] 27 (0, 0)) (by (with_reducible repeat (first | refine blk_drewN ?_ _ | refine blk_drew ?_ | refine blk_alloc ?_ _)); exact BK2.out) hb); have n2_ := Aside0.mk (blk_below (g := g4) (o := .cells #[.int .i64 0, .int .i64 0, .int .i64 0, .string (⟨#[]⟩ : ByteArray)] 27 (0, 0)) (by (with_reducible repeat (first | refine blk_drewN ?_ _ | refine blk_drew ?_ | refine blk_alloc ?_ _)); exact BK4.out) hb); have n3_ := Aside0.mk (blk_below (g := g6) (o := .cells #[.int .i64 x, .int .i64 y, .int .i64 z, .string p] 27 (0, 0)) (by (with_reducible repeat (first | refine blk_drewN ?_ _ | refine blk_drew ?_ | refine blk_alloc ?_ _)); exact BK6.out) hb); clear HB BK2 BK4 BK6; have HB := n0_; have BK2 := n1_; have BK4 := n2_; have BK6 := n3_; clear n0_ n1_ n2_ n3_; clear hb; have e0 : w8.cell? ⟨g6, 0, none⟩ = some (.int .i64 x) := (blk_cell BK6.out 0).trans rfl; have e1 : w8.cell? ⟨g6, 1, none⟩ = some (.int .i64 y) := (blk_cell BK6.out 1).trans rfl; have e2 : w8.cell? ⟨g6, 2, none⟩ = some (.int .i64 z) := (blk_cell BK6.out 2).trans rfl; have e3 : w8.cell? ⟨g6, 3, none⟩ = some (.string p) := (blk_cell BK6.out 3).trans rfl) | (go_at_call 35; (with_reducible refine (spec_VersionText.calls kj x y z p tx _ AT.out).mono ?_); rintro e w9 ⟨rfl, hb⟩; clear e0 e1 e2 e3; have n0_ := Aside0.mk (below_step (by repeat (first | (with_reducible first | exact HB.out | apply below_alloc | apply pw_below_drewN | apply below_drew1) | exact HB.out)) hb); have n1_ := Aside0.mk (blk_below (g := g2) (o := .cells #[.int .i64 0, .int .i64 0, .int .i64 0, .string (⟨#[]⟩ : ByteArray)] 27 (0, 0)) (by (with_reducible repeat (first | refine blk_drewN ?_ _ | refine blk_drew ?_ | refine blk_alloc ?_ _)); exact BK2.out) hb); have n2_ := Aside0.mk (blk_below (g := g4) (o := .cells #[.int .i64 0, .int .i64 0, .int .i64 0, .string (⟨#[]⟩ : ByteArray)] 27 (0, 0)) (by (with_reducible repeat (first | refine blk_drewN ?_ _ | refine blk_drew ?_ | refine blk_alloc ?_ _)); exact BK4.out) hb); have n3_ := Aside0.mk (blk_below (g := g6) (o := .cells #[.int .i64 x, .int .i64 y, .int .i64 z, .string p] 27 (0, 0)) (by (with_reducible repeat (first | refine blk_drewN ?_ _ | refine blk_drew ?_ | refine blk_alloc ?_ _)); exact BK6.out) hb); clear HB BK2 BK4 BK6; have HB := n0_; have BK2 := n1_; have BK4 := n2_; have BK6 := n3_; clear n0_ n1_ n2_ n3_; clear hb; have d0 : w9.cell? ⟨g2, 0, none⟩ = some (.int .i64 0) := (blk_cell BK2.out 0).trans rfl; have d1 : w9.cell? ⟨g2, 1, none⟩ = some (.int .i64 0) := (blk_cell BK2.out 1).trans rfl; have d2 : w9.cell? ⟨g2, 2, none⟩ = some (.int .i64 0) := (blk_cell BK2.out 2).trans rfl; have d3 : w9.cell? ⟨g2, 3, none⟩ = some (.string (⟨#[]⟩ : ByteArray)) := (blk_cell BK2.out 3).trans rfl; have f0 : w9.frozen? ⟨g2, 0, none⟩ = false := blk_frozen BK2.out 0; have f1 : w9.frozen? ⟨g2, 1, none⟩ = false := blk_frozen BK2.out 1; have f2 : w9.frozen? ⟨g2, 2, none⟩ = false := blk_frozen BK2.out 2; have f3 : w9.frozen? ⟨g2, 3, none⟩ = false := blk_frozen BK2.out 3; have e0 : w9.cell? ⟨g6, 0, none⟩ = some (.int .i64 x) := (blk_cell BK6.out 0).trans rfl; have e1 : w9.cell? ⟨g6, 1, none⟩ = some (.int .i64 y) := (blk_cell BK6.out 1).trans rfl; have e2 : w9.cell? ⟨g6, 2, none⟩ = some (.int .i64 z) := (blk_cell BK6.out 2).trans rfl; have e3 : w9.cell? ⟨g6, 3, none⟩ = some (.string p) := (blk_cell BK6.out 3).trans rfl))
                  refine bodyPost_ret (results_ct rfl _ _ g2 27 #[.int .i64 x, .int .i64 y, .int .i64 z, .string p] (0, 0) _ rfl (spec_ParseVersion.four BK2.out _ _ _ _) hu27 rfl (by kernel_rfl)) rfl ?_
                  exact ⟨rfl, spec_ParseVersion.fourB (by repeat (first | (with_reducible first | exact HB.out | apply below_alloc | apply pw_below_drewN | apply below_drew1) | exact HB.out)) GE2.out _ _ _ _⟩
                · have c9b0 : (tx.toList == a0.toList) = false := beq_eq_false_iff_ne.mpr c9
                  have c9b1 : (tx.toList != a0.toList) = true := bne_iff_ne.mpr c9
                  rw [if_neg c9] at H
                  simp only [Option.some.injEq, Prod.mk.injEq] at H
                  obtain ⟨rfl, rfl, rfl, rfl, rfl⟩ := H
                  clear c9
                  go_wp2_with (first | ((with_reducible refine gate_callee (f := 43) rfl ?_); refine goesL_ (some 40) rfl rfl Tryd.func43 (by kernel_rfl) rfl #[.string t, .int .u8 46] rfl (by (try simp only [List.map_toArray, List.map_cons, List.map_nil]); first | done | rfl) ?_; (with_reducible refine (spec_l3Split.calls kj t 46 l _ AL.out).mono ?_); rintro e w3 ⟨v122, rfl, ho0, hb⟩; refine ⟨_, rfl, ?_⟩; have nh_ := Aside0.mk (Kd.R_lower ho0 (below_size (by repeat (first | (with_reducible first | exact HB.out | apply below_alloc | apply pw_below_drewN | apply below_drew1) | exact HB.out)))); have n0_ := Aside0.mk (below_step (by repeat (first | (with_reducible first | exact HB.out | apply below_alloc | apply pw_below_drewN | apply below_drew1) | exact HB.out)) hb); have n1_ := Aside0.mk (blk_below (g := g2) (o := .cells #[.int .i64 0, .int .i64 0, .int .i64 0, .string (⟨#[]⟩ : ByteArray)] 27 (0, 0)) (by (with_reducible repeat (first | refine blk_drewN ?_ _ | refine blk_drew ?_ | refine blk_alloc ?_ _)); exact BK2.out) hb); have n2_ := Aside0.mk (blk_below (g := g4) (o := .cells #[.int .i64 0, .int .i64 0, .int .i64 0, .string (⟨#[]⟩ : ByteArray)] 27 (0, 0)) (by (with_reducible repeat (first | refine blk_drewN ?_ _ | refine blk_drew ?_ | refine blk_alloc ?_ _)); exact BK4.out) hb); have n3_ := Aside0.mk (blk_below (g := g6) (o := .cells #[.int .i64 0, .int .i64 0, .int .i64 0, .string p] 27 (0, 0)) (by (with_reducible repeat (first | refine blk_drewN ?_ _ | refine blk_drew ?_ | refine blk_alloc ?_ _)); exact BK6.out) hb); clear HB BK2 BK4 BK6; have HB := n0_; have BK2 := n1_; have BK4 := n2_; have BK6 := n3_; clear n0_ n1_ n2_ n3_; have HO := nh_; clear nh_; clear hb ho0; obtain ⟨Ao4, co4, eo4⟩ := Kd.R_slice HO.out; subst eo4; obtain ⟨ad, e, hx⟩ := Kd.at_string (Kd.R_reads' HO.out).2.2 (0 : Int) (by decide) pl0.out; cases e; replace hx : w3.cell? ad = some (.string (rdOf ByteArray.empty l 0)) := hx) | ((with_reducible refine gate_callee (f := 63) rfl ?_); refine goesL_ (some 48) rfl rfl Tryd.func63 (by kernel_rfl) rfl #[.string (rdOf ByteArray.empty l 0)] rfl (by (try simp only [List.map_toArray, List.map_cons, List.map_nil]); first | done | rfl) ?_; (with_reducible refine (spec_l3Number.calls kj (rdOf ByteArray.empty l 0) x _ AN0.out).mono ?_); rintro e w' ⟨rfl, ⟨nd0, rfl⟩⟩; refine ⟨_, rfl, ?_⟩; have s0 : (w3.drewN nd0).cell? ⟨g6, 0, none⟩ = some (.int .i64 0) := (blk_cell (show ((w3.drewN nd0)).heap[g6]? = some (.cells #[.int .i64 0, .int .i64 0, .int .i64 0, .string p] 27 (0, 0)) from BK6.out) 0).trans rfl; have u0 : (w3.drewN nd0).frozen? ⟨g6, 0, none⟩ = false := blk_frozen (show ((w3.drewN nd0)).heap[g6]? = some (.cells #[.int .i64 0, .int .i64 0, .int .i64 0, .string p] 27 (0, 0)) from BK6.out) 0; have n0_ := Aside0.mk ((Kd.R_set (Kd.R_drewN HO.out nd0) (show ((w3.drewN nd0)).heap[g6]? = some (.cells #[.int .i64 0, .int .i64 0, .int .i64 0, .string p] 27 (0, 0)) from BK6.out) (by decide) 0 (.int .i64 x) : Kd.R Kd.string 9 ((w3.drewN nd0).setCell ⟨g6, 0, none⟩ (.int .i64 x)) w.heap.size (fun _ => True) (.slice (some ad) l.length co4) l)); have n1_ := Aside0.mk ((blk_far (w := (w3.drewN nd0)) (g := g2) (p := ⟨g6, 0, none⟩) (show ((w3.drewN nd0)).heap[g2]? = some (.cells #[.int .i64 0, .int .i64 0, .int .i64 0, .string (⟨#[]⟩ : ByteArray)] 27 (0, 0)) from BK2.out) NE26.out (.int .i64 x) : ((w3.drewN nd0).setCell ⟨g6, 0, none⟩ (.int .i64 x)).heap[g2]? = some (.cells #[.int .i64 0, .int .i64 0, .int .i64 0, .string (⟨#[]⟩ : ByteArray)] 27 (0, 0)))); have n2_ := Aside0.mk ((blk_far (w := (w3.drewN nd0)) (g := g4) (p := ⟨g6, 0, none⟩) (show ((w3.drewN nd0)).heap[g4]? = some (.cells #[.int .i64 0, .int .i64 0, .int .i64 0, .string (⟨#[]⟩ : ByteArray)] 27 (0, 0)) from BK4.out) NE46.out (.int .i64 x) : ((w3.drewN nd0).setCell ⟨g6, 0, none⟩ (.int .i64 x)).heap[g4]? = some (.cells #[.int .i64 0, .int .i64 0, .int .i64 0, .string (⟨#[]⟩ : ByteArray)] 27 (0, 0)))); have n3_ := Aside0.mk ((blk_put (w := (w3.drewN nd0)) (g := g6) (show ((w3.drewN nd0)).heap[g6]? = some (.cells #[.int .i64 0, .int .i64 0, .int .i64 0, .string p] 27 (0, 0)) from BK6.out) 0 (.int .i64 x) rfl : ((w3.drewN nd0).setCell ⟨g6, 0, none⟩ (.int .i64 x)).heap[g6]? = some (.cells #[.int .i64 x, .int .i64 0, .int .i64 0, .string p] 27 (0, 0)))); have n4_ := Aside0.mk ((below_set (pw_below_drewN HB.out nd0) GE6.out : Below w.heap.size w ((w3.drewN nd0).setCell ⟨g6, 0, none⟩ (.int .i64 x)))); clear HO BK2 BK4 BK6 HB; have HO := n0_; have BK2 := n1_; have BK4 := n2_; have BK6 := n3_; have HB := n4_; clear n0_ n1_ n2_ n3_ n4_; obtain ⟨ad, e, hx⟩ := Kd.at_string (Kd.R_reads' HO.out).2.2 (1 : Int) (by decide) pl1.out; cases e; replace hx : ((w3.drewN nd0).setCell ⟨g6, 0, none⟩ (.int .i64 x)).cell? (⟨ad.block, ad.off + 1, none⟩ : Addr) = some (.string (rdOf ByteArray.empty l 1)) := hx) | ((with_reducible refine gate_callee (f := 63) rfl ?_); refine goesL_ (some 53) rfl rfl Tryd.func63 (by kernel_rfl) rfl #[.string (rdOf ByteArray.empty l 1)] rfl (by (try simp only [List.map_toArray, List.map_cons, List.map_nil]); first | done | rfl) ?_; (with_reducible refine (spec_l3Number.calls kj (rdOf ByteArray.empty l 1) y _ AN1.out).mono ?_); rintro e w' ⟨rfl, ⟨nd1, rfl⟩⟩; refine ⟨_, rfl, ?_⟩; have s1 : (((w3.drewN nd0).setCell ⟨g6, 0, none⟩ (.int .i64 x)).drewN nd1).cell? ⟨g6, 1, none⟩ = some (.int .i64 0) := (blk_cell (show ((((w3.drewN nd0).setCell ⟨g6, 0, none⟩ (.int .i64 x)).drewN nd1)).heap[g6]? = some (.cells #[.int .i64 x, .int .i64 0, .int .i64 0, .string p] 27 (0, 0)) from BK6.out) 1).trans rfl; have u1 : (((w3.drewN nd0).setCell ⟨g6, 0, none⟩ (.int .i64 x)).drewN nd1).frozen? ⟨g6, 1, none⟩ = false := blk_frozen (show ((((w3.drewN nd0).setCell ⟨g6, 0, none⟩ (.int .i64 x)).drewN nd1)).heap[g6]? = some (.cells #[.int .i64 x, .int .i64 0, .int .i64 0, .string p] 27 (0, 0)) from BK6.out) 1; have n0_ := Aside0.mk ((Kd.R_set (Kd.R_drewN HO.out nd1) (show ((((w3.drewN nd0).setCell ⟨g6, 0, none⟩ (.int .i64 x)).drewN nd1)).heap[g6]? = some (.cells #[.int .i64 x, .int .i64 0, .int .i64 0, .string p] 27 (0, 0)) from BK6.out) (by decide) 1 (.int .i64 y) : Kd.R Kd.string 9 ((((w3.drewN nd0).setCell ⟨g6, 0, none⟩ (.int .i64 x)).drewN nd1).setCell ⟨g6, 1, none⟩ (.int .i64 y)) w.heap.size (fun _ => True) (.slice (some ad) l.length co4) l)); have n1_ := Aside0.mk ((blk_far (w := (((w3.drewN nd0).setCell ⟨g6, 0, none⟩ (.int .i64 x)).drewN nd1)) (g := g2) (p := ⟨g6, 1, none⟩) (show ((((w3.drewN nd0).setCell ⟨g6, 0, none⟩ (.int .i64 x)).drewN nd1)).heap[g2]? = some (.cells #[.int .i64 0, .int .i64 0, .int .i64 0, .string (⟨#[]⟩ : ByteArray)] 27 (0, 0)) from BK2.out) NE26.out (.int .i64 y) : ((((w3.drewN nd0).setCell ⟨g6, 0, none⟩ (.int .i64 x)).drewN nd1).setCell ⟨g6, 1, none⟩ (.int .i64 y)).heap[g2]? = some (.cells #[.int .i64 0, .int .i64 0, .int .i64 0, .string (⟨#[]⟩ : ByteArray)] 27 (0, 0)))); have n2_ := Aside0.mk ((blk_far (w := (((w3.drewN nd0).setCell ⟨g6, 0, none⟩ (.int .i64 x)).drewN nd1)) (g := g4) (p := ⟨g6, 1, none⟩) (show ((((w3.drewN nd0).setCell ⟨g6, 0, none⟩ (.int .i64 x)).drewN nd1)).heap[g4]? = some (.cells #[.int .i64 0, .int .i64 0, .int .i64 0, .string (⟨#[]⟩ : ByteArray)] 27 (0, 0)) from BK4.out) NE46.out (.int .i64 y) : ((((w3.drewN nd0).setCell ⟨g6, 0, none⟩ (.int .i64 x)).drewN nd1).setCell ⟨g6, 1, none⟩ (.int .i64 y)).heap[g4]? = some (.cells #[.int .i64 0, .int .i64 0, .int .i64 0, .string (⟨#[]⟩ : ByteArray)] 27 (0, 0)))); have n3_ := Aside0.mk ((blk_put (w := (((w3.drewN nd0).setCell ⟨g6, 0, none⟩ (.int .i64 x)).drewN nd1)) (g := g6) (show ((((w3.drewN nd0).setCell ⟨g6, 0, none⟩ (.int .i64 x)).drewN nd1)).heap[g6]? = some (.cells #[.int .i64 x, .int .i64 0, .int .i64 0, .string p] 27 (0, 0)) from BK6.out) 1 (.int .i64 y) rfl : ((((w3.drewN nd0).setCell ⟨g6, 0, none⟩ (.int .i64 x)).drewN nd1).setCell ⟨g6, 1, none⟩ (.int .i64 y)).heap[g6]? = some (.cells #[.int .i64 x, .int .i64 y, .int .i64 0, .string p] 27 (0, 0)))); have n4_ := Aside0.mk ((below_set (pw_below_drewN HB.out nd1) GE6.out : Below w.heap.size w ((((w3.drewN nd0).setCell ⟨g6, 0, none⟩ (.int .i64 x)).drewN nd1).setCell ⟨g6, 1, none⟩ (.int .i64 y)))); clear HO BK2 BK4 BK6 HB; have HO := n0_; have BK2 := n1_; have BK4 := n2_; have BK6 := n3_; have HB := n4_; clear n0_ n1_ n2_ n3_ n4_; obtain ⟨ad, e, hx⟩ := Kd.at_string (Kd.R_reads' HO.out).2.2 (2 : Int) (by decide) pl2.out; cases e; replace hx : ((((w3.drewN nd0).setCell ⟨g6, 0, none⟩ (.int .i64 x)).drewN nd1).setCell ⟨g6, 1, none⟩ (.int .i64 y)).cell? (⟨ad.block, ad.off + 2, none⟩ : Addr) = some (.string (rdOf ByteArray.empty l 2)) := hx) | ((with_reducible refine gate_callee (f := 63) rfl ?_); refine goesL_ (some 58) rfl rfl Tryd.func63 (by kernel_rfl) rfl #[.string (rdOf ByteArray.empty l 2)] rfl (by (try simp only [List.map_toArray, List.map_cons, List.map_nil]); first | done | rfl) ?_; (with_reducible refine (spec_l3Number.calls kj (rdOf ByteArray.empty l 2) z _ AN2.out).mono ?_); rintro e w' ⟨rfl, ⟨nd2, rfl⟩⟩; refine ⟨_, rfl, ?_⟩; have s2 : (((((w3.drewN nd0).setCell ⟨g6, 0, none⟩ (.int .i64 x)).drewN nd1).setCell ⟨g6, 1, none⟩ (.int .i64 y)).drewN nd2).cell? ⟨g6, 2, none⟩ = some (.int .i64 0) := (blk_cell (show ((((((w3.drewN nd0).setCell ⟨g6, 0, none⟩ (.int .i64 x)).drewN nd1).setCell ⟨g6, 1, none⟩ (.int .i64 y)).drewN nd2)).heap[g6]? = some (.cells #[.int .i64 x, .int .i64 y, .int .i64 0, .string p] 27 (0, 0)) from BK6.out) 2).trans rfl; have u2 : (((((w3.drewN nd0).setCell ⟨g6, 0, none⟩ (.int .i64 x)).drewN nd1).setCell ⟨g6, 1, none⟩ (.int .i64 y)).drewN nd2).frozen? ⟨g6, 2, none⟩ = false := blk_frozen (show ((((((w3.drewN nd0).setCell ⟨g6, 0, none⟩ (.int .i64 x)).drewN nd1).setCell ⟨g6, 1, none⟩ (.int .i64 y)).drewN nd2)).heap[g6]? = some (.cells #[.int .i64 x, .int .i64 y, .int .i64 0, .string p] 27 (0, 0)) from BK6.out) 2; have n0_ := Aside0.mk ((Kd.R_set (Kd.R_drewN HO.out nd2) (show ((((((w3.drewN nd0).setCell ⟨g6, 0, none⟩ (.int .i64 x)).drewN nd1).setCell ⟨g6, 1, none⟩ (.int .i64 y)).drewN nd2)).heap[g6]? = some (.cells #[.int .i64 x, .int .i64 y, .int .i64 0, .string p] 27 (0, 0)) from BK6.out) (by decide) 2 (.int .i64 z) : Kd.R Kd.string 9 ((((((w3.drewN nd0).setCell ⟨g6, 0, none⟩ (.int .i64 x)).drewN nd1).setCell ⟨g6, 1, none⟩ (.int .i64 y)).drewN nd2).setCell ⟨g6, 2, none⟩ (.int .i64 z)) w.heap.size (fun _ => True) (.slice (some ad) l.length co4) l)); have n1_ := Aside0.mk ((blk_far (w := (((((w3.drewN nd0).setCell ⟨g6, 0, none⟩ (.int .i64 x)).drewN nd1).setCell ⟨g6, 1, none⟩ (.int .i64 y)).drewN nd2)) (g := g2) (p := ⟨g6, 2, none⟩) (show ((((((w3.drewN nd0).setCell ⟨g6, 0, none⟩ (.int .i64 x)).drewN nd1).setCell ⟨g6, 1, none⟩ (.int .i64 y)).drewN nd2)).heap[g2]? = some (.cells #[.int .i64 0, .int .i64 0, .int .i64 0, .string (⟨#[]⟩ : ByteArray)] 27 (0, 0)) from BK2.out) NE26.out (.int .i64 z) : ((((((w3.drewN nd0).setCell ⟨g6, 0, none⟩ (.int .i64 x)).drewN nd1).setCell ⟨g6, 1, none⟩ (.int .i64 y)).drewN nd2).setCell ⟨g6, 2, none⟩ (.int .i64 z)).heap[g2]? = some (.cells #[.int .i64 0, .int .i64 0, .int .i64 0, .string (⟨#[]⟩ : ByteArray)] 27 (0, 0)))); have n2_ := Aside0.mk ((blk_far (w := (((((w3.drewN nd0).setCell ⟨g6, 0, none⟩ (.int .i64 x)).drewN nd1).setCell ⟨g6, 1, none⟩ (.int .i64 y)).drewN nd2)) (g := g4) (p := ⟨g6, 2, none⟩) (show ((((((w3.drewN nd0).setCell ⟨g6, 0, none⟩ (.int .i64 x)).drewN nd1).setCell ⟨g6, 1, none⟩ (.int .i64 y)).drewN nd2)).heap[g4]? = some (.cells #[.int .i64 0, .int .i64 0, .int .i64 0, .string (⟨#[]⟩ : ByteArray)] 27 (0, 0)) from BK4.out) NE46.out (.int .i64 z) : ((((((w3.drewN nd0).setCell ⟨g6, 0, none⟩ (.int .i64 x)).drewN nd1).setCell ⟨g6, 1, none⟩ (.int .i64 y)).drewN nd2).setCell ⟨g6, 2, none⟩ (.int .i64 z)).heap[g4]? = some (.cells #[.int .i64 0, .int .i64 0, .int .i64 0, .string (⟨#[]⟩ : ByteArray)] 27 (0, 0)))); have n3_ := Aside0.mk ((blk_put (w := (((((w3.drewN nd0).setCell ⟨g6, 0, none⟩ (.int .i64 x)).drewN nd1).setCell ⟨g6, 1, none⟩ (.int .i64 y)).drewN nd2)) (g := g6) (show ((((((w3.drewN nd0).setCell ⟨g6, 0, none⟩ (.int .i64 x)).drewN nd1).setCell ⟨g6, 1, none⟩ (.int .i64 y)).drewN nd2)).heap[g6]? = some (.cells #[.int .i64 x, .int .i64 y, .int .i64 0, .string p] 27 (0, 0)) from BK6.out) 2 (.int .i64 z) rfl : ((((((w3.drewN nd0).setCell ⟨g6, 0, none⟩ (.int .i64 x)).drewN nd1).setCell ⟨g6, 1, none⟩ (.int .i64 y)).drewN nd2).setCell ⟨g6, 2, none⟩ (.int .i64 z)).heap[g6]? = some (.cells #[.int .i64 x, .int .i64 y, .int .i64 z, .string p] 27 (0, 0)))); have n4_ := Aside0.mk ((below_set (pw_below_drewN HB.out nd2) GE6.out : Below w.heap.size w ((((((w3.drewN nd0).setCell ⟨g6, 0, none⟩ (.int .i64 x)).drewN nd1).setCell ⟨g6, 1, none⟩ (.int .i64 y)).drewN nd2).setCell ⟨g6, 2, none⟩ (.int .i64 z)))); clear HO BK2 BK4 BK6 HB; have HO := n0_; have BK2 := n1_; have BK4 := n2_; have BK6 := n3_; have HB := n4_; clear n0_ n1_ n2_ n3_ n4_; have e0 : ((((((w3.drewN nd0).setCell ⟨g6, 0, none⟩ (.int .i64 x)).drewN nd1).setCell ⟨g6, 1, none⟩ (.int .i64 y)).drewN nd2).setCell ⟨g6, 2, none⟩ (.int .i64 z)).cell? ⟨g6, 0, none⟩ = some (.int .i64 x) := (blk_cell BK6.out 0).trans rfl; have e1 : ((((((w3.drewN nd0).setCell ⟨g6, 0, none⟩ (.int .i64 x)).drewN nd1).setCell ⟨g6, 1, none⟩ (.int .i64 y)).drewN nd2).setCell ⟨g6, 2, none⟩ (.int .i64 z)).cell? ⟨g6, 1, none⟩ = some (.int .i64 y) := (blk_cell BK6.out 1).trans rfl; have e2 : ((((((w3.drewN nd0).setCell ⟨g6, 0, none⟩ (.int .i64 x)).drewN nd1).setCell ⟨g6, 1, none⟩ (.int .i64 y)).drewN nd2).setCell ⟨g6, 2, none⟩ (.int .i64 z)).cell? ⟨g6, 2, none⟩ = some (.int .i64 z) := (blk_cell BK6.out 2).trans rfl; have e3 : ((((((w3.drewN nd0).setCell ⟨g6, 0, none⟩ (.int .i64 x)).drewN nd1).setCell ⟨g6, 1, none⟩ (.int .i64 y)).drewN nd2).setCell ⟨g6, 2, none⟩ (.int .i64 z)).cell? ⟨g6, 3, none⟩ = some (.string p) := (blk_cell BK6.out 3).trans rfl) | ((with_reducible refine gate_callee (f := 18) rfl ?_); refine goesL_ (some 61) rfl rfl Tryd.func18 (by kernel_rfl) rfl #[.agg #[.int .i64 x, .int .i64 y, .int .i64 z, .string p]] rfl (by (try simp only [List.map_toArray, List.map_cons, List.map_nil]); first | done | rfl) ?_; (with_reducible refine (spec_VersionOk.calls kj x y z p true _ AB.out).mono ?_); rintro e w8 ⟨rfl, hb⟩; refine ⟨_, rfl, ?_⟩; clear e0 e1 e2 e3; have n0_ := Aside0.mk (below_step (by repeat (first | (with_reducible first | exact HB.out | apply below_alloc | apply pw_below_drewN | apply below_drew1) | exact HB.out)) hb); have n1_ := Aside0.mk (blk_below (g := g2) (o := .cells #[.int .i64 0, .int .i64 0, .int .i64 0, .string (⟨#[]⟩ : ByteArray)] 27 (0, 0)) (by (with_reducible repeat (first | refine blk_drewN ?_ _ | refine blk_drew ?_ | refine blk_alloc ?_ _)); exact BK2.out) hb); have n2_ := Aside0.mk (blk_below (g := g4) (o := .cells #[.int .i64 0, .int .i64 0, .int .i64 0, .string (⟨#[]⟩ : ByteArray)] 27 (0, 0)) (by (with_reducible repeat (first | refine blk_drewN ?_ _ | refine blk_drew ?_ | refine blk_alloc ?_ _)); exact BK4.out) hb); have n3_ := Aside0.mk (blk_below (g := g6) (o := .cells #[.int .i64 x, .int .i64 y, .int .i64 z, .string p] 27 (0, 0)) (by (with_reducible repeat (first | refine blk_drewN ?_ _ | refine blk_drew ?_ | refine blk_alloc ?_ _)); exact BK6.out) hb); clear HB BK2 BK4 BK6; have HB := n0_; have BK2 := n1_; have BK4 := n2_; have BK6 := n3_; clear n0_ n1_ n2_ n3_; clear hb; have e0 : w8.cell? ⟨g6, 0, none⟩ = some (.int .i64 x) := (blk_cell BK6.out 0).trans rfl; have e1 : w8.cell? ⟨g6, 1, none⟩ = some (.int .i64 y) := (blk_cell BK6.out 1).trans rfl; have e2 : w8.cell? ⟨g6, 2, none⟩ = some (.int .i64 z) := (blk_cell BK6.out 2).trans rfl; have e3 : w8.cell? ⟨g6, 3, none⟩ = some (.string p) := (blk_cell BK6.out 3).trans rfl) | (go_at_call 35; (with_reducible refine (spec_VersionText.calls kj x y z p tx _ AT.out).mono ?_); rintro e w9 ⟨rfl, hb⟩; clear e0 e1 e2 e3; have n0_ := Aside0.mk (below_step (by repeat (first | (with_reducible first | exact HB.out | apply below_alloc | apply pw_below_drewN | apply below_drew1) | exact HB.out)) hb); have n1_ := Aside0.mk (blk_below (g := g2) (o := .cells #[.int .i64 0, .int .i64 0, .int .i64 0, .string (⟨#[]⟩ : ByteArray)] 27 (0, 0)) (by (with_reducible repeat (first | refine blk_drewN ?_ _ | refine blk_drew ?_ | refine blk_alloc ?_ _)); exact BK2.out) hb); have n2_ := Aside0.mk (blk_below (g := g4) (o := .cells #[.int .i64 0, .int .i64 0, .int .i64 0, .string (⟨#[]⟩ : ByteArray)] 27 (0, 0)) (by (with_reducible repeat (first | refine blk_drewN ?_ _ | refine blk_drew ?_ | refine blk_alloc ?_ _)); exact BK4.out) hb); have n3_ := Aside0.mk (blk_below (g := g6) (o := .cells #[.int .i64 x, .int .i64 y, .int .i64 z, .string p] 27 (0, 0)) (by (with_reducible repeat (first | refine blk_drewN ?_ _ | refine blk_drew ?_ | refine blk_alloc ?_ _)); exact BK6.out) hb); clear HB BK2 BK4 BK6; have HB := n0_; have BK2 := n1_; have BK4 := n2_; have BK6 := n3_; clear n0_ n1_ n2_ n3_; clear hb; have d0 : w9.cell? ⟨g2, 0, none⟩ = some (.int .i64 0) := (blk_cell BK2.out 0).trans rfl; have d1 : w9.cell? ⟨g2, 1, none⟩ = some (.int .i64 0) := (blk_cell BK2.out 1).trans rfl; have d2 : w9.cell? ⟨g2, 2, none⟩ = some (.int .i64 0) := (blk_cell BK2.out 2).trans rfl; have d3 : w9.cell? ⟨g2, 3, none⟩ = some (.string (⟨#[]⟩ : ByteArray)) := (blk_cell BK2.out 3).trans rfl; have f0 : w9.frozen? ⟨g2, 0, none⟩ = false := blk_frozen BK2.out 0; have f1 : w9.frozen? ⟨g2, 1, none⟩ = false := blk_frozen BK2.out 1; have f2 : w9.frozen? ⟨g2, 2, none⟩ = false := blk_frozen BK2.out 2; have f3 : w9.frozen? ⟨g2, 3, none⟩ = false := blk_frozen BK2.out 3; have m0 : w9.cell? ⟨g4, 0, none⟩ = some (.int .i64 0) := (blk_cell BK4.out 0).trans rfl; have m1 : w9.cell? ⟨g4, 1, none⟩ = some (.int .i64 0) := (blk_cell BK4.out 1).trans rfl; have m2 : w9.cell? ⟨g4, 2, none⟩ = some (.int .i64 0) := (blk_cell BK4.out 2).trans rfl; have m3 : w9.cell? ⟨g4, 3, none⟩ = some (.string (⟨#[]⟩ : ByteArray)) := (blk_cell BK4.out 3).trans rfl))
                  refine bodyPost_ret (results_ct rfl _ _ g2 27 #[.int .i64 0, .int .i64 0, .int .i64 0, .string (⟨#[]⟩ : ByteArray)] (0, 0) _ rfl (spec_ParseVersion.four BK2.out _ _ _ _) hu27 rfl (by kernel_rfl)) rfl ?_
                  exact ⟨rfl, spec_ParseVersion.fourB (by repeat (first | (with_reducible first | exact HB.out | apply below_alloc | apply pw_below_drewN | apply below_drew1) | exact HB.out)) GE2.out _ _ _ _⟩
              | false =>
                replace H : some (0, 0, 0, (⟨#[]⟩ : ByteArray), false) = some (r1, r2, r3, r4, r5) := H
                simp only [Option.some.injEq, Prod.mk.injEq] at H
                obtain ⟨rfl, rfl, rfl, rfl, rfl⟩ := H
                go_wp2_with (first | ((with_reducible refine gate_callee (f := 43) rfl ?_); refine goesL_ (some 40) rfl rfl Tryd.func43 (by kernel_rfl) rfl #[.string t, .int .u8 46] rfl (by (try simp only [List.map_toArray, List.map_cons, List.map_nil]); first | done | rfl) ?_; (with_reducible refine (spec_l3Split.calls kj t 46 l _ AL.out).mono ?_); rintro e w3 ⟨v122, rfl, ho0, hb⟩; refine ⟨_, rfl, ?_⟩; have nh_ := Aside0.mk (Kd.R_lower ho0 (below_size (by repeat (first | (with_reducible first | exact HB.out | apply below_alloc | apply pw_below_drewN | apply below_drew1) | exact HB.out)))); have n0_ := Aside0.mk (below_step (by repeat (first | (with_reducible first | exact HB.out | apply below_alloc | apply pw_below_drewN | apply below_drew1) | exact HB.out)) hb); have n1_ := Aside0.mk (blk_below (g := g2) (o := .cells #[.int .i64 0, .int .i64 0, .int .i64 0, .string (⟨#[]⟩ : ByteArray)] 27 (0, 0)) (by (with_reducible repeat (first | refine blk_drewN ?_ _ | refine blk_drew ?_ | refine blk_alloc ?_ _)); exact BK2.out) hb); have n2_ := Aside0.mk (blk_below (g := g4) (o := .cells #[.int .i64 0, .int .i64 0, .int .i64 0, .string (⟨#[]⟩ : ByteArray)] 27 (0, 0)) (by (with_reducible repeat (first | refine blk_drewN ?_ _ | refine blk_drew ?_ | refine blk_alloc ?_ _)); exact BK4.out) hb); have n3_ := Aside0.mk (blk_below (g := g6) (o := .cells #[.int .i64 0, .int .i64 0, .int .i64 0, .string p] 27 (0, 0)) (by (with_reducible repeat (first | refine blk_drewN ?_ _ | refine blk_drew ?_ | refine blk_alloc ?_ _)); exact BK6.out) hb); clear HB BK2 BK4 BK6; have HB := n0_; have BK2 := n1_; have BK4 := n2_; have BK6 := n3_; clear n0_ n1_ n2_ n3_; have HO := nh_; clear nh_; clear hb ho0; obtain ⟨Ao4, co4, eo4⟩ := Kd.R_slice HO.out; subst eo4; obtain ⟨ad, e, hx⟩ := Kd.at_string (Kd.R_reads' HO.out).2.2 (0 : Int) (by decide) pl0.out; cases e; replace hx : w3.cell? ad = some (.string (rdOf ByteArray.empty l 0)) := hx) | ((with_reducible refine gate_callee (f := 63) rfl ?_); refine goesL_ (some 48) rfl rfl Tryd.func63 (by kernel_rfl) rfl #[.string (rdOf ByteArray.empty l 0)] rfl (by (try simp only [List.map_toArray, List.map_cons, List.map_nil]); first | done | rfl) ?_; (with_reducible refine (spec_l3Number.calls kj (rdOf ByteArray.empty l 0) x _ AN0.out).mono ?_); rintro e w' ⟨rfl, ⟨nd0, rfl⟩⟩; refine ⟨_, rfl, ?_⟩; have s0 : (w3.drewN nd0).cell? ⟨g6, 0, none⟩ = some (.int .i64 0) := (blk_cell (show ((w3.drewN nd0)).heap[g6]? = some (.cells #[.int .i64 0, .int .i64 0, .int .i64 0, .string p] 27 (0, 0)) from BK6.out) 0).trans rfl; have u0 : (w3.drewN nd0).frozen? ⟨g6, 0, none⟩ = false := blk_frozen (show ((w3.drewN nd0)).heap[g6]? = some (.cells #[.int .i64 0, .int .i64 0, .int .i64 0, .string p] 27 (0, 0)) from BK6.out) 0; have n0_ := Aside0.mk ((Kd.R_set (Kd.R_drewN HO.out nd0) (show ((w3.drewN nd0)).heap[g6]? = some (.cells #[.int .i64 0, .int .i64 0, .int .i64 0, .string p] 27 (0, 0)) from BK6.out) (by decide) 0 (.int .i64 x) : Kd.R Kd.string 9 ((w3.drewN nd0).setCell ⟨g6, 0, none⟩ (.int .i64 x)) w.heap.size (fun _ => True) (.slice (some ad) l.length co4) l)); have n1_ := Aside0.mk ((blk_far (w := (w3.drewN nd0)) (g := g2) (p := ⟨g6, 0, none⟩) (show ((w3.drewN nd0)).heap[g2]? = some (.cells #[.int .i64 0, .int .i64 0, .int .i64 0, .string (⟨#[]⟩ : ByteArray)] 27 (0, 0)) from BK2.out) NE26.out (.int .i64 x) : ((w3.drewN nd0).setCell ⟨g6, 0, none⟩ (.int .i64 x)).heap[g2]? = some (.cells #[.int .i64 0, .int .i64 0, .int .i64 0, .string (⟨#[]⟩ : ByteArray)] 27 (0, 0)))); have n2_ := Aside0.mk ((blk_far (w := (w3.drewN nd0)) (g := g4) (p := ⟨g6, 0, none⟩) (show ((w3.drewN nd0)).heap[g4]? = some (.cells #[.int .i64 0, .int .i64 0, .int .i64 0, .string (⟨#[]⟩ : ByteArray)] 27 (0, 0)) from BK4.out) NE46.out (.int .i64 x) : ((w3.drewN nd0).setCell ⟨g6, 0, none⟩ (.int .i64 x)).heap[g4]? = some (.cells #[.int .i64 0, .int .i64 0, .int .i64 0, .string (⟨#[]⟩ : ByteArray)] 27 (0, 0)))); have n3_ := Aside0.mk ((blk_put (w := (w3.drewN nd0)) (g := g6) (show ((w3.drewN nd0)).heap[g6]? = some (.cells #[.int .i64 0, .int .i64 0, .int .i64 0, .string p] 27 (0, 0)) from BK6.out) 0 (.int .i64 x) rfl : ((w3.drewN nd0).setCell ⟨g6, 0, none⟩ (.int .i64 x)).heap[g6]? = some (.cells #[.int .i64 x, .int .i64 0, .int .i64 0, .string p] 27 (0, 0)))); have n4_ := Aside0.mk ((below_set (pw_below_drewN HB.out nd0) GE6.out : Below w.heap.size w ((w3.drewN nd0).setCell ⟨g6, 0, none⟩ (.int .i64 x)))); clear HO BK2 BK4 BK6 HB; have HO := n0_; have BK2 := n1_; have BK4 := n2_; have BK6 := n3_; have HB := n4_; clear n0_ n1_ n2_ n3_ n4_; obtain ⟨ad, e, hx⟩ := Kd.at_string (Kd.R_reads' HO.out).2.2 (1 : Int) (by decide) pl1.out; cases e; replace hx : ((w3.drewN nd0).setCell ⟨g6, 0, none⟩ (.int .i64 x)).cell? (⟨ad.block, ad.off + 1, none⟩ : Addr) = some (.string (rdOf ByteArray.empty l 1)) := hx) | ((with_reducible refine gate_callee (f := 63) rfl ?_); refine goesL_ (some 53) rfl rfl Tryd.func63 (by kernel_rfl) rfl #[.string (rdOf ByteArray.empty l 1)] rfl (by (try simp only [List.map_toArray, List.map_cons, List.map_nil]); first | done | rfl) ?_; (with_reducible refine (spec_l3Number.calls kj (rdOf ByteArray.empty l 1) y _ AN1.out).mono ?_); rintro e w' ⟨rfl, ⟨nd1, rfl⟩⟩; refine ⟨_, rfl, ?_⟩; have s1 : (((w3.drewN nd0).setCell ⟨g6, 0, none⟩ (.int .i64 x)).drewN nd1).cell? ⟨g6, 1, none⟩ = some (.int .i64 0) := (blk_cell (show ((((w3.drewN nd0).setCell ⟨g6, 0, none⟩ (.int .i64 x)).drewN nd1)).heap[g6]? = some (.cells #[.int .i64 x, .int .i64 0, .int .i64 0, .string p] 27 (0, 0)) from BK6.out) 1).trans rfl; have u1 : (((w3.drewN nd0).setCell ⟨g6, 0, none⟩ (.int .i64 x)).drewN nd1).frozen? ⟨g6, 1, none⟩ = false := blk_frozen (show ((((w3.drewN nd0).setCell ⟨g6, 0, none⟩ (.int .i64 x)).drewN nd1)).heap[g6]? = some (.cells #[.int .i64 x, .int .i64 0, .int .i64 0, .string p] 27 (0, 0)) from BK6.out) 1; have n0_ := Aside0.mk ((Kd.R_set (Kd.R_drewN HO.out nd1) (show ((((w3.drewN nd0).setCell ⟨g6, 0, none⟩ (.int .i64 x)).drewN nd1)).heap[g6]? = some (.cells #[.int .i64 x, .int .i64 0, .int .i64 0, .string p] 27 (0, 0)) from BK6.out) (by decide) 1 (.int .i64 y) : Kd.R Kd.string 9 ((((w3.drewN nd0).setCell ⟨g6, 0, none⟩ (.int .i64 x)).drewN nd1).setCell ⟨g6, 1, none⟩ (.int .i64 y)) w.heap.size (fun _ => True) (.slice (some ad) l.length co4) l)); have n1_ := Aside0.mk ((blk_far (w := (((w3.drewN nd0).setCell ⟨g6, 0, none⟩ (.int .i64 x)).drewN nd1)) (g := g2) (p := ⟨g6, 1, none⟩) (show ((((w3.drewN nd0).setCell ⟨g6, 0, none⟩ (.int .i64 x)).drewN nd1)).heap[g2]? = some (.cells #[.int .i64 0, .int .i64 0, .int .i64 0, .string (⟨#[]⟩ : ByteArray)] 27 (0, 0)) from BK2.out) NE26.out (.int .i64 y) : ((((w3.drewN nd0).setCell ⟨g6, 0, none⟩ (.int .i64 x)).drewN nd1).setCell ⟨g6, 1, none⟩ (.int .i64 y)).heap[g2]? = some (.cells #[.int .i64 0, .int .i64 0, .int .i64 0, .string (⟨#[]⟩ : ByteArray)] 27 (0, 0)))); have n2_ := Aside0.mk ((blk_far (w := (((w3.drewN nd0).setCell ⟨g6, 0, none⟩ (.int .i64 x)).drewN nd1)) (g := g4) (p := ⟨g6, 1, none⟩) (show ((((w3.drewN nd0).setCell ⟨g6, 0, none⟩ (.int .i64 x)).drewN nd1)).heap[g4]? = some (.cells #[.int .i64 0, .int .i64 0, .int .i64 0, .string (⟨#[]⟩ : ByteArray)] 27 (0, 0)) from BK4.out) NE46.out (.int .i64 y) : ((((w3.drewN nd0).setCell ⟨g6, 0, none⟩ (.int .i64 x)).drewN nd1).setCell ⟨g6, 1, none⟩ (.int .i64 y)).heap[g4]? = some (.cells #[.int .i64 0, .int .i64 0, .int .i64 0, .string (⟨#[]⟩ : ByteArray)] 27 (0, 0)))); have n3_ := Aside0.mk ((blk_put (w := (((w3.drewN nd0).setCell ⟨g6, 0, none⟩ (.int .i64 x)).drewN nd1)) (g := g6) (show ((((w3.drewN nd0).setCell ⟨g6, 0, none⟩ (.int .i64 x)).drewN nd1)).heap[g6]? = some (.cells #[.int .i64 x, .int .i64 0, .int .i64 0, .string p] 27 (0, 0)) from BK6.out) 1 (.int .i64 y) rfl : ((((w3.drewN nd0).setCell ⟨g6, 0, none⟩ (.int .i64 x)).drewN nd1).setCell ⟨g6, 1, none⟩ (.int .i64 y)).heap[g6]? = some (.cells #[.int .i64 x, .int .i64 y, .int .i64 0, .string p] 27 (0, 0)))); have n4_ := Aside0.mk ((below_set (pw_below_drewN HB.out nd1) GE6.out : Below w.heap.size w ((((w3.drewN nd0).setCell ⟨g6, 0, none⟩ (.int .i64 x)).drewN nd1).setCell ⟨g6, 1, none⟩ (.int .i64 y)))); clear HO BK2 BK4 BK6 HB; have HO := n0_; have BK2 := n1_; have BK4 := n2_; have BK6 := n3_; have HB := n4_; clear n0_ n1_ n2_ n3_ n4_; obtain ⟨ad, e, hx⟩ := Kd.at_string (Kd.R_reads' HO.out).2.2 (2 : Int) (by decide) pl2.out; cases e; replace hx : ((((w3.drewN nd0).setCell ⟨g6, 0, none⟩ (.int .i64 x)).drewN nd1).setCell ⟨g6, 1, none⟩ (.int .i64 y)).cell? (⟨ad.block, ad.off + 2, none⟩ : Addr) = some (.string (rdOf ByteArray.empty l 2)) := hx) | ((with_reducible refine gate_callee (f := 63) rfl ?_); refine goesL_ (some 58) rfl rfl Tryd.func63 (by kernel_rfl) rfl #[.string (rdOf ByteArray.empty l 2)] rfl (by (try simp only [List.map_toArray, List.map_cons, List.map_nil]); first | done | rfl) ?_; (with_reducible refine (spec_l3Number.calls kj (rdOf ByteArray.empty l 2) z _ AN2.out).mono ?_); rintro e w' ⟨rfl, ⟨nd2, rfl⟩⟩; refine ⟨_, rfl, ?_⟩; have s2 : (((((w3.drewN nd0).setCell ⟨g6, 0, none⟩ (.int .i64 x)).drewN nd1).setCell ⟨g6, 1, none⟩ (.int .i64 y)).drewN nd2).cell? ⟨g6, 2, none⟩ = some (.int .i64 0) := (blk_cell (show ((((((w3.drewN nd0).setCell ⟨g6, 0, none⟩ (.int .i64 x)).drewN nd1).setCell ⟨g6, 1, none⟩ (.int .i64 y)).drewN nd2)).heap[g6]? = some (.cells #[.int .i64 x, .int .i64 y, .int .i64 0, .string p] 27 (0, 0)) from BK6.out) 2).trans rfl; have u2 : (((((w3.drewN nd0).setCell ⟨g6, 0, none⟩ (.int .i64 x)).drewN nd1).setCell ⟨g6, 1, none⟩ (.int .i64 y)).drewN nd2).frozen? ⟨g6, 2, none⟩ = false := blk_frozen (show ((((((w3.drewN nd0).setCell ⟨g6, 0, none⟩ (.int .i64 x)).drewN nd1).setCell ⟨g6, 1, none⟩ (.int .i64 y)).drewN nd2)).heap[g6]? = some (.cells #[.int .i64 x, .int .i64 y, .int .i64 0, .string p] 27 (0, 0)) from BK6.out) 2; have n0_ := Aside0.mk ((Kd.R_set (Kd.R_drewN HO.out nd2) (show ((((((w3.drewN nd0).setCell ⟨g6, 0, none⟩ (.int .i64 x)).drewN nd1).setCell ⟨g6, 1, none⟩ (.int .i64 y)).drewN nd2)).heap[g6]? = some (.cells #[.int .i64 x, .int .i64 y, .int .i64 0, .string p] 27 (0, 0)) from BK6.out) (by decide) 2 (.int .i64 z) : Kd.R Kd.string 9 ((((((w3.drewN nd0).setCell ⟨g6, 0, none⟩ (.int .i64 x)).drewN nd1).setCell ⟨g6, 1, none⟩ (.int .i64 y)).drewN nd2).setCell ⟨g6, 2, none⟩ (.int .i64 z)) w.heap.size (fun _ => True) (.slice (some ad) l.length co4) l)); have n1_ := Aside0.mk ((blk_far (w := (((((w3.drewN nd0).setCell ⟨g6, 0, none⟩ (.int .i64 x)).drewN nd1).setCell ⟨g6, 1, none⟩ (.int .i64 y)).drewN nd2)) (g := g2) (p := ⟨g6, 2, none⟩) (show ((((((w3.drewN nd0).setCell ⟨g6, 0, none⟩ (.int .i64 x)).drewN nd1).setCell ⟨g6, 1, none⟩ (.int .i64 y)).drewN nd2)).heap[g2]? = some (.cells #[.int .i64 0, .int .i64 0, .int .i64 0, .string (⟨#[]⟩ : ByteArray)] 27 (0, 0)) from BK2.out) NE26.out (.int .i64 z) : ((((((w3.drewN nd0).setCell ⟨g6, 0, none⟩ (.int .i64 x)).drewN nd1).setCell ⟨g6, 1, none⟩ (.int .i64 y)).drewN nd2).setCell ⟨g6, 2, none⟩ (.int .i64 z)).heap[g2]? = some (.cells #[.int .i64 0, .int .i64 0, .int .i64 0, .string (⟨#[]⟩ : ByteArray)] 27 (0, 0)))); have n2_ := Aside0.mk ((blk_far (w := (((((w3.drewN nd0).setCell ⟨g6, 0, none⟩ (.int .i64 x)).drewN nd1).setCell ⟨g6, 1, none⟩ (.int .i64 y)).drewN nd2)) (g := g4) (p := ⟨g6, 2, none⟩) (show ((((((w3.drewN nd0).setCell ⟨g6, 0, none⟩ (.int .i64 x)).drewN nd1).setCell ⟨g6, 1, none⟩ (.int .i64 y)).drewN nd2)).heap[g4]? = some (.cells #[.int .i64 0, .int .i64 0, .int .i64 0, .string (⟨#[]⟩ : ByteArray)] 27 (0, 0)) from BK4.out) NE46.out (.int .i64 z) : ((((((w3.drewN nd0).setCell ⟨g6, 0, none⟩ (.int .i64 x)).drewN nd1).setCell ⟨g6, 1, none⟩ (.int .i64 y)).drewN nd2).setCell ⟨g6, 2, none⟩ (.int .i64 z)).heap[g4]? = some (.cells #[.int .i64 0, .int .i64 0, .int .i64 0, .string (⟨#[]⟩ : ByteArray)] 27 (0, 0)))); have n3_ := Aside0.mk ((blk_put (w := (((((w3.drewN nd0).setCell ⟨g6, 0, none⟩ (.int .i64 x)).drewN nd1).setCell ⟨g6, 1, none⟩ (.int .i64 y)).drewN nd2)) (g := g6) (show ((((((w3.drewN nd0).setCell ⟨g6, 0, none⟩ (.int .i64 x)).drewN nd1).setCell ⟨g6, 1, none⟩ (.int .i64 y)).drewN nd2)).heap[g6]? = some (.cells #[.int .i64 x, .int .i64 y, .int .i64 0, .string p] 27 (0, 0)) from BK6.out) 2 (.int .i64 z) rfl : ((((((w3.drewN nd0).setCell ⟨g6, 0, none⟩ (.int .i64 x)).drewN nd1).setCell ⟨g6, 1, none⟩ (.int .i64 y)).drewN nd2).setCell ⟨g6, 2, none⟩ (.int .i64 z)).heap[g6]? = some (.cells #[.int .i64 x, .int .i64 y, .int .i64 z, .string p] 27 (0, 0)))); have n4_ := Aside0.mk ((below_set (pw_below_drewN HB.out nd2) GE6.out : Below w.heap.size w ((((((w3.drewN nd0).setCell ⟨g6, 0, none⟩ (.int .i64 x)).drewN nd1).setCell ⟨g6, 1, none⟩ (.int .i64 y)).drewN nd2).setCell ⟨g6, 2, none⟩ (.int .i64 z)))); clear HO BK2 BK4 BK6 HB; have HO := n0_; have BK2 := n1_; have BK4 := n2_; have BK6 := n3_; have HB := n4_; clear n0_ n1_ n2_ n3_ n4_; have e0 : ((((((w3.drewN nd0).setCell ⟨g6, 0, none⟩ (.int .i64 x)).drewN nd1).setCell ⟨g6, 1, none⟩ (.int .i64 y)).drewN nd2).setCell ⟨g6, 2, none⟩ (.int .i64 z)).cell? ⟨g6, 0, none⟩ = some (.int .i64 x) := (blk_cell BK6.out 0).trans rfl; have e1 : ((((((w3.drewN nd0).setCell ⟨g6, 0, none⟩ (.int .i64 x)).drewN nd1).setCell ⟨g6, 1, none⟩ (.int .i64 y)).drewN nd2).setCell ⟨g6, 2, none⟩ (.int .i64 z)).cell? ⟨g6, 1, none⟩ = some (.int .i64 y) := (blk_cell BK6.out 1).trans rfl; have e2 : ((((((w3.drewN nd0).setCell ⟨g6, 0, none⟩ (.int .i64 x)).drewN nd1).setCell ⟨g6, 1, none⟩ (.int .i64 y)).drewN nd2).setCell ⟨g6, 2, none⟩ (.int .i64 z)).cell? ⟨g6, 2, none⟩ = some (.int .i64 z) := (blk_cell BK6.out 2).trans rfl; have e3 : ((((((w3.drewN nd0).setCell ⟨g6, 0, none⟩ (.int .i64 x)).drewN nd1).setCell ⟨g6, 1, none⟩ (.int .i64 y)).drewN nd2).setCell ⟨g6, 2, none⟩ (.int .i64 z)).cell? ⟨g6, 3, none⟩ = some (.string p) := (blk_cell BK6.out 3).trans rfl) | ((with_reducible refine gate_callee (f := 18) rfl ?_); refine goesL_ (some 61) rfl rfl Tryd.func18 (by kernel_rfl) rfl #[.agg #[.int .i64 x, .int .i64 y, .int .i64 z, .string p]] rfl (by (try simp only [List.map_toArray, List.map_cons, List.map_nil]); first | done | rfl) ?_; (with_reducible refine (spec_VersionOk.calls kj x y z p false _ AB.out).mono ?_); rintro e w8 ⟨rfl, hb⟩; refine ⟨_, rfl, ?_⟩; clear e0 e1 e2 e3; have n0_ := Aside0.mk (below_step (by repeat (first | (with_reducible first | exact HB.out | apply below_alloc | apply pw_below_drewN | apply below_drew1) | exact HB.out)) hb); have n1_ := Aside0.mk (blk_below (g := g2) (o := .cells #[.int .i64 0, .int .i64 0, .int .i64 0, .string (⟨#[]⟩ : ByteArray)] 27 (0, 0)) (by (with_reducible repeat (first | refine blk_drewN ?_ _ | refine blk_drew ?_ | refine blk_alloc ?_ _)); exact BK2.out) hb); have n2_ := Aside0.mk (blk_below (g := g4) (o := .cells #[.int .i64 0, .int .i64 0, .int .i64 0, .string (⟨#[]⟩ : ByteArray)] 27 (0, 0)) (by (with_reducible repeat (first | refine blk_drewN ?_ _ | refine blk_drew ?_ | refine blk_alloc ?_ _)); exact BK4.out) hb); have n3_ := Aside0.mk (blk_below (g := g6) (o := .cells #[.int .i64 x, .int .i64 y, .int .i64 z, .string p] 27 (0, 0)) (by (with_reducible repeat (first | refine blk_drewN ?_ _ | refine blk_drew ?_ | refine blk_alloc ?_ _)); exact BK6.out) hb); clear HB BK2 BK4 BK6; have HB := n0_; have BK2 := n1_; have BK4 := n2_; have BK6 := n3_; clear n0_ n1_ n2_ n3_; clear hb; have d0 : w8.cell? ⟨g2, 0, none⟩ = some (.int .i64 0) := (blk_cell BK2.out 0).trans rfl; have d1 : w8.cell? ⟨g2, 1, none⟩ = some (.int .i64 0) := (blk_cell BK2.out 1).trans rfl; have d2 : w8.cell? ⟨g2, 2, none⟩ = some (.int .i64 0) := (blk_cell BK2.out 2).trans rfl; have d3 : w8.cell? ⟨g2, 3, none⟩ = some (.string (⟨#[]⟩ : ByteArray)) := (blk_cell BK2.out 3).trans rfl; have f0 : w8.frozen? ⟨g2, 0, none⟩ = false := blk_frozen BK2.out 0; have f1 : w8.frozen? ⟨g2, 1, none⟩ = false := blk_frozen BK2.out 1; have f2 : w8.frozen? ⟨g2, 2, none⟩ = false := blk_frozen BK2.out 2; have f3 : w8.frozen? ⟨g2, 3, none⟩ = false := blk_frozen BK2.out 3; have m0 : w8.cell? ⟨g4, 0, none⟩ = some (.int .i64 0) := (blk_cell BK4.out 0).trans rfl; have m1 : w8.cell? ⟨g4, 1, none⟩ = some (.int .i64 0) := (blk_cell BK4.out 1).trans rfl; have m2 : w8.cell? ⟨g4, 2, none⟩ = some (.int .i64 0) := (blk_cell BK4.out 2).trans rfl; have m3 : w8.cell? ⟨g4, 3, none⟩ = some (.string (⟨#[]⟩ : ByteArray)) := (blk_cell BK4.out 3).trans rfl))
                refine bodyPost_ret (results_ct rfl _ _ g2 27 #[.int .i64 0, .int .i64 0, .int .i64 0, .string (⟨#[]⟩ : ByteArray)] (0, 0) _ rfl (spec_ParseVersion.four BK2.out _ _ _ _) hu27 rfl (by kernel_rfl)) rfl ?_
                exact ⟨rfl, spec_ParseVersion.fourB (by repeat (first | (with_reducible first | exact HB.out | apply below_alloc | apply pw_below_drewN | apply below_drew1) | exact HB.out)) GE2.out _ _ _ _⟩
            · replace H : some (0, 0, 0, (⟨#[]⟩ : ByteArray), false) = some (r1, r2, r3, r4, r5) := by rw [if_neg c5] at H; exact H
              simp only [Option.some.injEq, Prod.mk.injEq] at H
              obtain ⟨rfl, rfl, rfl, rfl, rfl⟩ := H
              have c5b0 : ((l.length : Int) != 3) = true := bne_iff_ne.mpr (by omega)
              have c5b1 : ((l.length : Int) == 3) = false := beq_eq_false_iff_ne.mpr (by omega)
              clear c5
              go_wp2_with (first | ((with_reducible refine gate_callee (f := 43) rfl ?_); refine goesL_ (some 40) rfl rfl Tryd.func43 (by kernel_rfl) rfl #[.string t, .int .u8 46] rfl (by (try simp only [List.map_toArray, List.map_cons, List.map_nil]); first | done | rfl) ?_; (with_reducible refine (spec_l3Split.calls kj t 46 l _ AL.out).mono ?_); rintro e w3 ⟨v122, rfl, ho0, hb⟩; refine ⟨_, rfl, ?_⟩; have nh_ := Aside0.mk (Kd.R_lower ho0 (below_size (by repeat (first | (with_reducible first | exact HB.out | apply below_alloc | apply pw_below_drewN | apply below_drew1) | exact HB.out)))); have n0_ := Aside0.mk (below_step (by repeat (first | (with_reducible first | exact HB.out | apply below_alloc | apply pw_below_drewN | apply below_drew1) | exact HB.out)) hb); have n1_ := Aside0.mk (blk_below (g := g2) (o := .cells #[.int .i64 0, .int .i64 0, .int .i64 0, .string (⟨#[]⟩ : ByteArray)] 27 (0, 0)) (by (with_reducible repeat (first | refine blk_drewN ?_ _ | refine blk_drew ?_ | refine blk_alloc ?_ _)); exact BK2.out) hb); have n2_ := Aside0.mk (blk_below (g := g4) (o := .cells #[.int .i64 0, .int .i64 0, .int .i64 0, .string (⟨#[]⟩ : ByteArray)] 27 (0, 0)) (by (with_reducible repeat (first | refine blk_drewN ?_ _ | refine blk_drew ?_ | refine blk_alloc ?_ _)); exact BK4.out) hb); have n3_ := Aside0.mk (blk_below (g := g6) (o := .cells #[.int .i64 0, .int .i64 0, .int .i64 0, .string p] 27 (0, 0)) (by (with_reducible repeat (first | refine blk_drewN ?_ _ | refine blk_drew ?_ | refine blk_alloc ?_ _)); exact BK6.out) hb); clear HB BK2 BK4 BK6; have HB := n0_; have BK2 := n1_; have BK4 := n2_; have BK6 := n3_; clear n0_ n1_ n2_ n3_; have HO := nh_; clear nh_; clear hb ho0; obtain ⟨Ao4, co4, eo4⟩ := Kd.R_slice HO.out; subst eo4; have d0 : w3.cell? ⟨g2, 0, none⟩ = some (.int .i64 0) := (blk_cell BK2.out 0).trans rfl; have d1 : w3.cell? ⟨g2, 1, none⟩ = some (.int .i64 0) := (blk_cell BK2.out 1).trans rfl; have d2 : w3.cell? ⟨g2, 2, none⟩ = some (.int .i64 0) := (blk_cell BK2.out 2).trans rfl; have d3 : w3.cell? ⟨g2, 3, none⟩ = some (.string (⟨#[]⟩ : ByteArray)) := (blk_cell BK2.out 3).trans rfl; have f0 : w3.frozen? ⟨g2, 0, none⟩ = false := blk_frozen BK2.out 0; have f1 : w3.frozen? ⟨g2, 1, none⟩ = false := blk_frozen BK2.out 1; have f2 : w3.frozen? ⟨g2, 2, none⟩ = false := blk_frozen BK2.out 2; have f3 : w3.frozen? ⟨g2, 3, none⟩ = false := blk_frozen BK2.out 3; have m0 : w3.cell? ⟨g4, 0, none⟩ = some (.int .i64 0) := (blk_cell BK4.out 0).trans rfl; have m1 : w3.cell? ⟨g4, 1, none⟩ = some (.int .i64 0) := (blk_cell BK4.out 1).trans rfl; have m2 : w3.cell? ⟨g4, 2, none⟩ = some (.int .i64 0) := (blk_cell BK4.out 2).trans rfl; have m3 : w3.cell? ⟨g4, 3, none⟩ = some (.string (⟨#[]⟩ : ByteArray)) := (blk_cell BK4.out 3).trans rfl))
              refine bodyPost_ret (results_ct rfl _ _ g2 27 #[.int .i64 0, .int .i64 0, .int .i64 0, .string (⟨#[]⟩ : ByteArray)] (0, 0) _ rfl (spec_ParseVersion.four BK2.out _ _ _ _) hu27 rfl (by kernel_rfl)) rfl ?_
              exact ⟨rfl, spec_ParseVersion.fourB (by repeat (first | (with_reducible first | exact HB.out | apply below_alloc | apply pw_below_drewN | apply below_drew1) | exact HB.out)) GE2.out _ _ _ _⟩
        · rw [if_neg c4] at h
          cases h
      · rw [if_neg c3] at h
        have c3b0 : (bt a0 0 == 118) = false := beq_eq_false_iff_ne.mpr c3
        have c3b1 : (bt a0 0 != 118) = true := bne_iff_ne.mpr c3
        simp only [Option.some.injEq, Prod.mk.injEq] at h
        obtain ⟨rfl, rfl, rfl, rfl, rfl⟩ := h
        clear c1 c2 c3
        go_enter Tryd.func41, Tryd.ntmps41
        go_wp2_with (first | ((with_reducible refine gate_dst (N := 2) rfl ?_); refine box_event ?hg (N := 2) ?hd (cs := #[.int .i64 0, .int .i64 0, .int .i64 0, .string (⟨#[]⟩ : ByteArray)]) (t := 27) ?hr ?_; (case hd => rfl); (case hg => rfl); (case hr => first | (go_simp; done) | (go_simp; rfl)); intro g2 hg w2 hbox hb; have n0_ := Aside0.mk (below_step (by repeat (first | (with_reducible first | exact HB.out | apply below_alloc | apply pw_below_drewN | apply below_drew1) | exact HB.out)) hb); have n1_ := Aside0.mk (hbox); have n2_ := Aside0.mk ((by rw [hg]; exact (below_size (by repeat (first | (with_reducible first | exact HB.out | apply below_alloc | apply pw_below_drewN | apply below_drew1) | exact HB.out))) : w.heap.size ≤ g2)); clear HB; have HB := n0_; have BK2 := n1_; have GE2 := n2_; clear n0_ n1_ n2_; clear hb hbox hg) | ((with_reducible refine gate_dst (N := 4) rfl ?_); refine box_event ?hg (N := 4) ?hd (cs := #[.int .i64 0, .int .i64 0, .int .i64 0, .string (⟨#[]⟩ : ByteArray)]) (t := 27) ?hr ?_; (case hd => rfl); (case hg => rfl); (case hr => first | (go_simp; done) | (go_simp; rfl)); intro g4 hg w4 hbox hb; have n0_ := Aside0.mk (blk_below (g := g2) (o := .cells #[.int .i64 0, .int .i64 0, .int .i64 0, .string (⟨#[]⟩ : ByteArray)] 27 (0, 0)) (by (with_reducible repeat (first | refine blk_drewN ?_ _ | refine blk_drew ?_ | refine blk_alloc ?_ _)); exact BK2.out) hb); have n1_ := Aside0.mk ((by rw [hg]; exact (Nat.ne_of_lt (blk_lt (g := g2) (o := .cells #[.int .i64 0, .int .i64 0, .int .i64 0, .string (⟨#[]⟩ : ByteArray)] 27 (0, 0)) (by (with_reducible repeat (first | refine blk_drewN ?_ _ | refine blk_drew ?_ | refine blk_alloc ?_ _)); exact BK2.out))) : g2 ≠ g4)); have n2_ := Aside0.mk (below_step (by repeat (first | (with_reducible first | exact HB.out | apply below_alloc | apply pw_below_drewN | apply below_drew1) | exact HB.out)) hb); have n3_ := Aside0.mk (hbox); have n4_ := Aside0.mk ((by rw [hg]; exact (below_size (by repeat (first | (with_reducible first | exact HB.out | apply below_alloc | apply pw_below_drewN | apply below_drew1) | exact HB.out))) : w.heap.size ≤ g4)); clear BK2 HB; have BK2 := n0_; have NE24 := n1_; have HB := n2_; have BK4 := n3_; have GE4 := n4_; clear n0_ n1_ n2_ n3_ n4_; clear hb hbox hg; have i4_0 : w4.cell? ⟨g4, 0, none⟩ = some (.int .i64 0) := (blk_cell BK4.out 0).trans rfl; have i4_1 : w4.cell? ⟨g4, 1, none⟩ = some (.int .i64 0) := (blk_cell BK4.out 1).trans rfl; have i4_2 : w4.cell? ⟨g4, 2, none⟩ = some (.int .i64 0) := (blk_cell BK4.out 2).trans rfl; have i4_3 : w4.cell? ⟨g4, 3, none⟩ = some (.string (⟨#[]⟩ : ByteArray)) := (blk_cell BK4.out 3).trans rfl; have j4_0 : w4.frozen? ⟨g4, 0, none⟩ = false := blk_frozen BK4.out 0; have j4_1 : w4.frozen? ⟨g4, 1, none⟩ = false := blk_frozen BK4.out 1; have j4_2 : w4.frozen? ⟨g4, 2, none⟩ = false := blk_frozen BK4.out 2; have j4_3 : w4.frozen? ⟨g4, 3, none⟩ = false := blk_frozen BK4.out 3; have n0_ := Aside0.mk (spec_ParseVersion.fourF BK2.out NE24.out (.int .i64 0) (.int .i64 0) (.int .i64 0) (.string (⟨#[]⟩ : ByteArray))); have n1_ := Aside0.mk (spec_ParseVersion.four BK4.out (.int .i64 0) (.int .i64 0) (.int .i64 0) (.string (⟨#[]⟩ : ByteArray))); have n2_ := Aside0.mk (spec_ParseVersion.fourB HB.out GE4.out (.int .i64 0) (.int .i64 0) (.int .i64 0) (.string (⟨#[]⟩ : ByteArray))); clear BK2 BK4 HB; have BK2 := n0_; have BK4 := n1_; have HB := n2_; clear n0_ n1_ n2_; have d0 : ((((w4.setCell ⟨g4, 0, none⟩ (.int .i64 0)).setCell ⟨g4, 1, none⟩ (.int .i64 0)).setCell ⟨g4, 2, none⟩ (.int .i64 0)).setCell ⟨g4, 3, none⟩ (.string (⟨#[]⟩ : ByteArray))).cell? ⟨g2, 0, none⟩ = some (.int .i64 0) := (blk_cell BK2.out 0).trans rfl; have d1 : ((((w4.setCell ⟨g4, 0, none⟩ (.int .i64 0)).setCell ⟨g4, 1, none⟩ (.int .i64 0)).setCell ⟨g4, 2, none⟩ (.int .i64 0)).setCell ⟨g4, 3, none⟩ (.string (⟨#[]⟩ : ByteArray))).cell? ⟨g2, 1, none⟩ = some (.int .i64 0) := (blk_cell BK2.out 1).trans rfl; have d2 : ((((w4.setCell ⟨g4, 0, none⟩ (.int .i64 0)).setCell ⟨g4, 1, none⟩ (.int .i64 0)).setCell ⟨g4, 2, none⟩ (.int .i64 0)).setCell ⟨g4, 3, none⟩ (.string (⟨#[]⟩ : ByteArray))).cell? ⟨g2, 2, none⟩ = some (.int .i64 0) := (blk_cell BK2.out 2).trans rfl; have d3 : ((((w4.setCell ⟨g4, 0, none⟩ (.int .i64 0)).setCell ⟨g4, 1, none⟩ (.int .i64 0)).setCell ⟨g4, 2, none⟩ (.int .i64 0)).setCell ⟨g4, 3, none⟩ (.string (⟨#[]⟩ : ByteArray))).cell? ⟨g2, 3, none⟩ = some (.string (⟨#[]⟩ : ByteArray)) := (blk_cell BK2.out 3).trans rfl; have f0 : ((((w4.setCell ⟨g4, 0, none⟩ (.int .i64 0)).setCell ⟨g4, 1, none⟩ (.int .i64 0)).setCell ⟨g4, 2, none⟩ (.int .i64 0)).setCell ⟨g4, 3, none⟩ (.string (⟨#[]⟩ : ByteArray))).frozen? ⟨g2, 0, none⟩ = false := blk_frozen BK2.out 0; have f1 : ((((w4.setCell ⟨g4, 0, none⟩ (.int .i64 0)).setCell ⟨g4, 1, none⟩ (.int .i64 0)).setCell ⟨g4, 2, none⟩ (.int .i64 0)).setCell ⟨g4, 3, none⟩ (.string (⟨#[]⟩ : ByteArray))).frozen? ⟨g2, 1, none⟩ = false := blk_frozen BK2.out 1; have f2 : ((((w4.setCell ⟨g4, 0, none⟩ (.int .i64 0)).setCell ⟨g4, 1, none⟩ (.int .i64 0)).setCell ⟨g4, 2, none⟩ (.int .i64 0)).setCell ⟨g4, 3, none⟩ (.string (⟨#[]⟩ : ByteArray))).frozen? ⟨g2, 2, none⟩ = false := blk_frozen BK2.out 2; have f3 : ((((w4.setCell ⟨g4, 0, none⟩ (.int .i64 0)).setCell ⟨g4, 1, none⟩ (.int .i64 0)).setCell ⟨g4, 2, none⟩ (.int .i64 0)).setCell ⟨g4, 3, none⟩ (.string (⟨#[]⟩ : ByteArray))).frozen? ⟨g2, 3, none⟩ = false := blk_frozen BK2.out 3; have m0 : ((((w4.setCell ⟨g4, 0, none⟩ (.int .i64 0)).setCell ⟨g4, 1, none⟩ (.int .i64 0)).setCell ⟨g4, 2, none⟩ (.int .i64 0)).setCell ⟨g4, 3, none⟩ (.string (⟨#[]⟩ : ByteArray))).cell? ⟨g4, 0, none⟩ = some (.int .i64 0) := (blk_cell BK4.out 0).trans rfl; have m1 : ((((w4.setCell ⟨g4, 0, none⟩ (.int .i64 0)).setCell ⟨g4, 1, none⟩ (.int .i64 0)).setCell ⟨g4, 2, none⟩ (.int .i64 0)).setCell ⟨g4, 3, none⟩ (.string (⟨#[]⟩ : ByteArray))).cell? ⟨g4, 1, none⟩ = some (.int .i64 0) := (blk_cell BK4.out 1).trans rfl; have m2 : ((((w4.setCell ⟨g4, 0, none⟩ (.int .i64 0)).setCell ⟨g4, 1, none⟩ (.int .i64 0)).setCell ⟨g4, 2, none⟩ (.int .i64 0)).setCell ⟨g4, 3, none⟩ (.string (⟨#[]⟩ : ByteArray))).cell? ⟨g4, 2, none⟩ = some (.int .i64 0) := (blk_cell BK4.out 2).trans rfl; have m3 : ((((w4.setCell ⟨g4, 0, none⟩ (.int .i64 0)).setCell ⟨g4, 1, none⟩ (.int .i64 0)).setCell ⟨g4, 2, none⟩ (.int .i64 0)).setCell ⟨g4, 3, none⟩ (.string (⟨#[]⟩ : ByteArray))).cell? ⟨g4, 3, none⟩ = some (.string (⟨#[]⟩ : ByteArray)) := (blk_cell BK4.out 3).trans rfl))
        refine bodyPost_ret (results_ct rfl _ _ g2 27 #[.int .i64 0, .int .i64 0, .int .i64 0, .string (⟨#[]⟩ : ByteArray)] (0, 0) _ rfl (spec_ParseVersion.four BK2.out _ _ _ _) hu27 rfl (by kernel_rfl)) rfl ?_
        exact ⟨rfl, spec_ParseVersion.fourB (by repeat (first | (with_reducible first | exact HB.out | apply below_alloc | apply pw_below_drewN | apply below_drew1) | exact HB.out)) GE2.out _ _ _ _⟩
    · rw [if_neg c2] at h
      cases h

end Go.Proofs.YtagbldaiedmikaaDoor.X

/- strings.Split at a separator of one byte: no variable of the library is read there. By the shelf's contracts and walk, turned. Conditions: the text has fewer than 4294967281 bytes. -/
namespace Go.Proofs.YtagbldaiedmikaaDoor.Sp
open Go.Shelf Go.RowKit Go.Lib Go.Proofs Go.Proofs.YtagbldaiedmikaaDoorW.PrintWords
set_option linter.unusedVariables false
/-- A byte more ahead of the first piece. -/
def onto (b : UInt8) : List (List UInt8) → List (List UInt8)
  | [] => [[b]]
  | h :: t => (b :: h) :: t
/-- The pieces between the bytes c. -/
def pcs (c : UInt8) : List UInt8 → List (List UInt8)
  | [] => [[]]
  | b :: l => if b = c then [] :: pcs c l else onto b (pcs c l)
def pieces (c : UInt8) (s : ByteArray) : List ByteArray := (pcs c s.data.toList).map fun l => ⟨l.toArray⟩
theorem splitK_ne (b c : UInt8) (l : List UInt8) (h : b ≠ c) (k : Nat) : splitK [c] 0 k (b :: l) = onto b (splitK [c] 0 k l) := by
  cases k with
  | zero => rfl
  | succ k =>
    have hp : ([c] : List UInt8).isPrefixOf (b :: l) = false := by simp [List.isPrefixOf, Ne.symm h]
    have hix : index (b :: l) [c] = if index l [c] == -1 then -1 else index l [c] + 1 := by rw [index, hp]; simp
    unfold splitK
    rw [hix]
    by_cases hm : index l [c] = -1
    · rw [hm]; rfl
    · have hge := index_ge l [c]
      obtain ⟨j, hj⟩ : ∃ j : Nat, index l [c] = j := ⟨(index l [c]).toNat, by omega⟩
      rw [hj]
      have e1 : (((j : Nat) : Int) == -1) = false := beq_eq_false_iff_ne.2 (by omega)
      have e2 : ((j : Int) + 1 == -1) = false := beq_eq_false_iff_ne.2 (by omega)
      simp only [e1, e2, Bool.false_eq_true, if_false]
      rw [show ((j : Int) + 1).toNat = j + 1 by omega, show ((j : Nat) : Int).toNat = j by omega]
      rfl
theorem splitK_eq (c : UInt8) (l : List UInt8) (k : Nat) : splitK [c] 0 (1 + k) (c :: l) = [] :: splitK [c] 0 k l := by
  have hix : index (c :: l) [c] = 0 := by rw [index]; simp [List.isPrefixOf]
  rw [Nat.add_comm]
  rw [splitK, hix]
  rfl
theorem splitK_pcs (c : UInt8) : ∀ l : List UInt8, splitK [c] 0 (l.count c) l = pcs c l
  | [] => rfl
  | b :: l => by
    by_cases h : b = c
    · subst h
      rw [show (b :: l).count b = 1 + l.count b by simp; omega, splitK_eq, splitK_pcs b l, pcs, if_pos rfl]
    · rw [List.count_cons_of_ne (by simpa using h), splitK_ne b c l h, splitK_pcs c l, pcs, if_neg h]
theorem splitB_pieces (c : UInt8) (s : ByteArray) : splitB ⟨#[c]⟩ 0 (countB s ⟨#[c]⟩) s = pieces c s := by
  have h := splitB_data ⟨#[c]⟩ 0 (countB s ⟨#[c]⟩) s
  have hc : countB s ⟨#[c]⟩ = s.data.toList.count c := count_one c _
  rw [hc] at h ⊢
  have h2 : splitK ([c] : List UInt8) 0 (s.data.toList.count c) s.data.toList = pcs c s.data.toList := splitK_pcs c _
  have h3 : (splitB ⟨#[c]⟩ 0 (s.data.toList.count c) s).map (·.data.toList) = pcs c s.data.toList := h.trans h2
  unfold pieces
  rw [← h3, List.map_map]
  conv => lhs; rw [← List.map_id (splitB ⟨#[c]⟩ 0 (s.data.toList.count c) s)]
  rfl
theorem pcs_length (c : UInt8) : ∀ l : List UInt8, (pcs c l).length = l.count c + 1
  | [] => rfl
  | b :: l => by
    have hi := pcs_length c l
    by_cases h : b = c
    · subst h
      rw [pcs, if_pos rfl, List.length_cons, hi]
      simp
    · rw [List.count_cons_of_ne (by simpa using h), pcs, if_neg h, ← hi]
      cases hp : pcs c l with
      | nil => rw [hp] at hi; simp at hi
      | cons x y => rfl
theorem pieces_length (c : UInt8) (s : ByteArray) : (pieces c s).length = countB s ⟨#[c]⟩ + 1 := by
  have hc : countB s ⟨#[c]⟩ = s.data.toList.count c := count_one c _
  rw [hc, pieces, List.length_map, pcs_length]
theorem split_one {P : Program} {ρ : Ren} (L : Lays.n146 P ρ) (hi9 : (P.info? (ρ.t 9)).map (fun i => (i.zero, i.size, i.bytes)) = some (some (.string ByteArray.empty), 1, 16)) (s : ByteArray) (c : UInt8) (w : World) (hs : s.size < 4294967281) :
    Calls P (ρ.f 146) #[.string s, .string ⟨#[c]⟩] w fun e w' =>
      e = .returned (.slice (some ⟨w.heap.size, 0, none⟩) (pieces c s).length (pieces c s).length) ∧ w' = w.alloc (.cells ((pieces c s).map Value.string).toArray (ρ.t 9)) := by
  obtain ⟨sep, hsep⟩ : ∃ sep : ByteArray, sep = ⟨#[c]⟩ := ⟨_, rfl⟩
  have h1 : 1 ≤ sep.size := by rw [hsep]; exact Nat.le_refl _
  have hle := Lib.countB_le sep h1 s.size s (Nat.le_refl _)
  have hlen := Lib.splitB_all sep h1 0 _ s rfl
  have hI : ∀ (x : ByteArray) (cs : Array Value), x.size ≤ s.size → Calls P (ρ.f 143) #[.string x, .string sep] (w.alloc (.cells cs (ρ.t 9))) fun e w' => e = .returned (.int .i64 (Lib.indexB x sep)) ∧ w' = w.alloc (.cells cs (ρ.t 9)) := by
    intro x cs hx
    rw [hsep]
    refine (Any.strings_Index_one { L with } x c _).mono ?_
    rintro e w' ⟨he, hw⟩
    refine ⟨?_, hw⟩
    rw [he]
    show _ = Ending.returned (Value.int .i64 (Lib.index x.data.toList [c]))
    rw [Lib.index_one]
  have hC : Calls P (ρ.f 138) #[.string s, .string sep] w fun e w' => e = .returned (.int .i64 (Lib.countB s sep)) ∧ w' = w := by
    rw [hsep]
    refine (Any.strings_Count_one { L with } s c w).mono ?_
    rintro e w' ⟨he, hw⟩
    refine ⟨?_, hw⟩
    rw [he]
    show _ = Ending.returned (Value.int .i64 ((Lib.count s.data.toList [c] : Nat) : Int))
    rw [Lib.count_one]
    rfl
  have c := Any.strings_genSplit_core { L with } hi9 s sep 0 (-1) (Lib.countB s sep + 1) w hs h1 (Nat.zero_le _) hI hC (by decide) (by decide) (by rw [if_pos (by decide)]; omega)
  rw [Nat.add_sub_cancel, hlen] at c
  have e2 : Lib.cellsOf (Lib.splitB sep 0 (Lib.countB s sep) s) (Lib.countB s sep + 1) = ((Lib.splitB sep 0 (Lib.countB s sep) s).map Value.string).toArray := by rw [← hlen]; exact Lib.cellsOf_full _
  rw [e2] at c
  clear hI hC e2
  have t3 := L.t3; have t9 := L.t9; have t31 := L.t31
  have a3 := L.a3; have a9 := L.a9; have a31 := L.a31
  have z3 := L.z3; have v3 := L.v3; have z9 := L.z9; have v9 := L.v9; have z31 := L.z31; have v31 := L.v31
  have e221 : ∀ args w, (callFunc (ρ.f 221) args).run P w = .ok (.enter (ρ.f 221) args) w := enters_of L.f221 (by kernel_rfl) rfl
  rw [← hsep]
  rw [pieces_length, ← splitB_pieces, ← hsep]
  clear hsep
  go_enter L.f146, Body.n146_ntmps ρ
  go_wp2_with (go_at_fn (ρ.f 221); refine c.mono ?_; rintro e w' ⟨rfl, hw⟩; rw [hw])
  go_ret
  exact ⟨rfl, rfl⟩
theorem reps_strings (w : World) (base : Nat) (ok : Nat → Prop) (l : List ByteArray) : Reps (Kd.string.M w base ok) 1 l (l.map Value.string) := by
  refine ⟨by simp, fun j p hj => ?_⟩
  obtain ⟨h1, h2⟩ := List.getElem?_eq_some_iff.1 hj
  show ((l.map Value.string).drop (j * 1)).take 1 = [Value.string p]
  rw [Nat.mul_one, ← List.map_drop, List.drop_eq_getElem_cons h1, h2]
  rfl
/-- A row of strings just made. -/
theorem strs_new (w : World) (e : TypeId) (l : List ByteArray) (hl : l.length ≤ 4294967296) : Kd.R Kd.string e (w.alloc (.cells (l.map Value.string).toArray e)) w.heap.size (fun _ => True) (.slice (some ⟨w.heap.size, 0, none⟩) l.length l.length) l := by
  refine ⟨fun _ _ => trivial, l.map Value.string, ?_, reps_strings _ _ _ l⟩
  have h2 := World.ownsRow_lit (base := w.heap.size) (e := e) (size := 1) w (l.map Value.string).toArray l.length (Nat.le_refl _) (by unfold maxLen; omega) (by simp)
  have h3 : (l.map Value.string).toArray.toList = l.map Value.string := by simp
  rw [h3] at h2
  exact h2
end Go.Proofs.YtagbldaiedmikaaDoor.Sp

namespace Go.Proofs.YtagbldaiedmikaaDoor.X
open Go.RowKit Go.Proofs.YtagbldaiedmikaaDoorW.PrintWords Go.Proofs.YtagbldaiedmikaaDoorW.PrintLast Go.Proofs.YtagbldaiedmikaaDoorW.PrintMore
attribute [local go_sem] max2_int min2_int max_two min_two max_three min_three max_four min_four   -- for this text's walks alone
set_option linter.unusedVariables false
set_option linter.unusedSimpArgs false

/-! ### strings_Split: function 45 (by hand) -/
def strings_Split.f (l0 l1 : ByteArray) : Option (List ByteArray) := if l0.size < 4294967281 ∧ l1.size = 1 then some (Go.Proofs.YtagbldaiedmikaaDoor.Sp.pieces (l1.data.toList.headD 0) l0) else none
theorem strings_Split.calls (l0 l1 : ByteArray) (r : List ByteArray) (w : World) (h : strings_Split.f l0 l1 = some r) :
    Calls Tryd.prog 45 #[.string l0, .string l1] w fun e w' => ∃ v0_ : Value, e = .returned (v0_) ∧ Kd.R Kd.string 9 w' w.heap.size (fun _ => True) v0_ r ∧ Below w.heap.size w w' := by
  unfold strings_Split.f at h
  split at h
  · rename_i hc
    obtain ⟨h0, h1⟩ := hc
    obtain rfl := Option.some.inj h
    obtain ⟨c, rfl⟩ := Lib.one_byte l1 h1
    have hl : (Go.Proofs.YtagbldaiedmikaaDoor.Sp.pieces c l0).length ≤ 4294967296 := by
      rw [Go.Proofs.YtagbldaiedmikaaDoor.Sp.pieces_length]
      have := Lib.countB_le ⟨#[c]⟩ (Nat.le_refl _) l0.size l0 (Nat.le_refl _)
      omega
    refine (Go.Proofs.YtagbldaiedmikaaDoor.Sp.split_one Tryd.lays146 (by kernel_rfl) l0 c w h0).mono ?_
    rintro e w' ⟨rfl, rfl⟩
    exact ⟨_, rfl, Go.Proofs.YtagbldaiedmikaaDoor.Sp.strs_new w _ _ hl, (Below.refl _ _).alloc (Nat.le_refl _) _⟩
  · cases h

end Go.Proofs.YtagbldaiedmikaaDoor.X

namespace Go.Proofs.YtagbldaiedmikaaDoor.X
open Go.RowKit Go.Proofs.YtagbldaiedmikaaDoorW.PrintWords Go.Proofs.YtagbldaiedmikaaDoorW.PrintLast Go.Proofs.YtagbldaiedmikaaDoorW.PrintMore
attribute [local go_sem] max2_int min2_int max_two min_two max_three min_three max_four min_four   -- for this text's walks alone
set_option linter.unusedVariables false
set_option linter.unusedSimpArgs false

/-! ### impl_inRange: function 49 -/
def impl_inRange.f (a0 : Int) (a1 : Int) (a2 : Int) : Option (Bool) := if a0 ≥ a1 then (some (decide (a0 ≤ a2))) else (some false)
set_option maxHeartbeats 8000000 in
set_option maxRecDepth 100000 in
theorem impl_inRange.calls (a0 : Int) (a1 : Int) (a2 : Int) (r : Bool) (w : World) (h : impl_inRange.f a0 a1 a2 = some r) :
    Calls Tryd.prog 49 #[.int .i64 a0, .int .i64 a1, .int .i64 a2] w fun e w' => e = .returned (.bool r) ∧ Drawn0 w w' := by
  have H : (if a0 ≥ a1 then (some (decide (a0 ≤ a2))) else (some false)) = some r := h
  clear h
  by_cases c4 : a0 ≥ a1
  · rw [if_pos c4] at H
    have c4b0 : decide (a1 ≤ a0) = true := decide_eq_true c4
    clear c4
    obtain rfl := Option.some.inj H
    go_enter Tryd.func49, Tryd.ntmps49
    go_wp2
    go_ret
    exact ⟨by first | rfl | (simp; done) | (simp [*]; done), by repeat (first | exact Drawn0.refl _ | apply Drawn0.step)⟩
  · rw [if_neg c4] at H
    have c4b0 : decide (a1 ≤ a0) = false := decide_eq_false c4
    clear c4
    obtain rfl := Option.some.inj H
    go_enter Tryd.func49, Tryd.ntmps49
    go_wp2
    go_ret
    exact ⟨by first | rfl | (simp; done) | (simp [*]; done), by repeat (first | exact Drawn0.refl _ | apply Drawn0.step)⟩

end Go.Proofs.YtagbldaiedmikaaDoor.X

namespace Go.Proofs.YtagbldaiedmikaaDoor.X
open Go.RowKit Go.Proofs.YtagbldaiedmikaaDoorW.PrintWords Go.Proofs.YtagbldaiedmikaaDoorW.PrintLast Go.Proofs.YtagbldaiedmikaaDoorW.PrintMore
attribute [local go_sem] max2_int min2_int max_two min_two max_three min_three max_four min_four   -- for this text's walks alone
set_option linter.unusedVariables false
set_option linter.unusedSimpArgs false

/-! ### impl_isFigure: function 68 -/
def impl_isFigure.f (a0 : Int) : Option (Bool) := if a0 ≥ 48 then (some (decide (a0 ≤ 57))) else (some false)
set_option maxHeartbeats 8000000 in
set_option maxRecDepth 100000 in
theorem impl_isFigure.calls (a0 : Int) (r : Bool) (w : World) (h : impl_isFigure.f a0 = some r) :
    Calls Tryd.prog 68 #[.int .u8 a0] w fun e w' => e = .returned (.bool r) ∧ Drawn0 w w' := by
  have H : (if a0 ≥ 48 then (some (decide (a0 ≤ 57))) else (some false)) = some r := h
  clear h
  by_cases c2 : a0 ≥ 48
  · rw [if_pos c2] at H
    have c2b0 : decide (48 ≤ a0) = true := decide_eq_true c2
    clear c2
    obtain rfl := Option.some.inj H
    go_enter Tryd.func68, Tryd.ntmps68
    go_wp2
    go_ret
    exact ⟨by first | rfl | (simp; done) | (simp [*]; done), by repeat (first | exact Drawn0.refl _ | apply Drawn0.step)⟩
  · rw [if_neg c2] at H
    have c2b0 : decide (48 ≤ a0) = false := decide_eq_false c2
    clear c2
    obtain rfl := Option.some.inj H
    go_enter Tryd.func68, Tryd.ntmps68
    go_wp2
    go_ret
    exact ⟨by first | rfl | (simp; done) | (simp [*]; done), by repeat (first | exact Drawn0.refl _ | apply Drawn0.step)⟩

end Go.Proofs.YtagbldaiedmikaaDoor.X

namespace Go.Proofs.YtagbldaiedmikaaDoor.X
open Go.RowKit Go.Proofs.YtagbldaiedmikaaDoorW.PrintWords Go.Proofs.YtagbldaiedmikaaDoorW.PrintLast Go.Proofs.YtagbldaiedmikaaDoorW.PrintMore
attribute [local go_sem] max2_int min2_int max_two min_two max_three min_three max_four min_four   -- for this text's walks alone
set_option linter.unusedVariables false
set_option linter.unusedSimpArgs false

/-! ### impl_isFigures: function 70 -/
def impl_isFigures.l0 : Nat → ByteArray → Int → Option (Bool)
  | 0, _, _ => none
  | k + 1, x0, x3 => if x3 < (x0.size : Int) then (if 0 ≤ x3 then ((impl_isFigure.f (bt x0 x3)).bind fun t150 => (if t150 = true then (impl_isFigures.l0 k x0 (wrap64 (x3 + 1))) else (some false))) else (none)) else (some (x0.toList != ([] : List UInt8)))
def impl_isFigures.f (k : Nat) (a0 : ByteArray) : Option (Bool) := impl_isFigures.l0 k a0 0
theorem impl_isFigures.mono_l : ∀ k, (∀ y0 y1, LeO (impl_isFigures.l0 k y0 y1) (impl_isFigures.l0 (k + 1) y0 y1))
  | 0 => fun _ _ r h => by simp [impl_isFigures.l0] at h
  | k + 1 => by
    have ih0 := impl_isFigures.mono_l k
    · intro y0 y1
      unfold impl_isFigures.l0
      repeat' first
      | (with_reducible exact ih0 _ _)
      | (with_reducible exact LeO.refl _)
      | (with_reducible exact LeO.none _)
      | (with_reducible refine LeO.ite ?_ ?_)
      | (with_reducible refine LeO.bind ?_ (fun _ => ?_))
      | exact ih0 _ _
      | exact LeO.none _
      | refine LeO.ite ?_ ?_
      | refine LeO.bind ?_ (fun _ => ?_)
theorem impl_isFigures.mono : ∀ a0 k, LeO (impl_isFigures.f k a0) (impl_isFigures.f (k + 1) a0) := by
  intro a0 k
  have ih0 := impl_isFigures.mono_l k
  unfold impl_isFigures.f
  repeat' first
      | (with_reducible exact ih0 _ _)
      | (with_reducible exact LeO.refl _)
      | (with_reducible exact LeO.none _)
      | (with_reducible refine LeO.ite ?_ ?_)
      | (with_reducible refine LeO.bind ?_ (fun _ => ?_))
      | exact ih0 _ _
      | exact LeO.none _
      | refine LeO.ite ?_ ?_
      | refine LeO.bind ?_ (fun _ => ?_)
set_option maxHeartbeats 8000000 in
set_option maxRecDepth 100000 in
theorem impl_isFigures.calls (k : Nat) (a0 : ByteArray) (r : Bool) (w : World) (h : impl_isFigures.f k a0 = some r) :
    Calls Tryd.prog 70 #[.string a0] w fun e w' => e = .returned (.bool r) ∧ Drawn0 w w' := by
  have H : (impl_isFigures.l0 k a0 0) = some r := h
  clear h
  have H' := Aside0.mk H
  clear H
  go_enter Tryd.func70, Tryd.ntmps70
  go_wp2
  go_loopg [3] k (fun kq v3 w' => ∃ (x3_1 : Int), v3 = .int .i64 x3_1 ∧ Aside0 (impl_isFigures.l0 kq a0 x3_1 = some r) ∧ Aside0 (kq ≤ k) ∧ Drawn0 w w')
  case atStart => exact ⟨(0), (by first | rfl | (simp; done) | (simp [*]; done)), H', ⟨Nat.le_refl _⟩, by repeat (first | exact Drawn0.refl _ | apply Drawn0.step)⟩
  case round =>
    clear H'
    obtain ⟨x3_1, rfl, HA, HK1, ⟨m1, rfl⟩⟩ := hrel
    cases gk with
    | zero => exact absurd HA.out (by simp [impl_isFigures.l0])
    | succ k1 =>
      have H := HA.out
      clear HA
      simp only [impl_isFigures.l0] at H
      by_cases c2 : x3_1 < (a0.size : Int)
      · rw [if_pos c2] at H
        have c2b0 : decide (x3_1 < (a0.size : Int)) = true := decide_eq_true c2
        clear c2
        by_cases c3 : 0 ≤ x3_1
        · rw [if_pos c3] at H
          have c3b0 : decide (0 ≤ x3_1) = true := decide_eq_true c3
          clear c3
          replace H := Option.bind_eq_some_iff.mp H
          obtain ⟨t150, A50, H⟩ := H
          replace H : (if t150 = true then (impl_isFigures.l0 k1 a0 (wrap64 (x3_1 + 1))) else (some false)) = some r := H
          have A5 := Aside0.mk A50
          clear A50
          by_cases c6 : t150 = true
          · subst c6
            have H1 : (impl_isFigures.l0 k1 a0 (wrap64 (x3_1 + 1))) = some r := by rw [if_pos rfl] at H; exact H
            clear H
            have H := H1
            clear H1
            have H' := Aside0.mk H
            clear H
            have p4 : 0 ≤ (x3_1 : Int) := of_decide_eq_true (by first | (with_reducible assumption) | assumption)
            have q4 : x3_1 < (a0.size : Int) := of_decide_eq_true (by first | (with_reducible assumption) | assumption)
            have hx4 := bt_at a0 x3_1
            replace p4 := eq_true p4
            replace q4 := eq_true q4
            go_wp2_with (first | ((with_reducible refine gate_callee (f := 68) rfl ?_); refine goesL_ (some 13) rfl rfl Tryd.func68 (by kernel_rfl) rfl #[.int .u8 (bt a0 x3_1)] rfl (by (try simp only [List.map_toArray, List.map_cons, List.map_nil]); first | done | rfl | (simp only [List.length_drop, List.length_take]; rfl)) ?_; (with_reducible refine (impl_isFigure.calls (bt a0 x3_1) true _ A5.out).mono ?_); rintro e w' ⟨rfl, ⟨nd, rfl⟩⟩; refine ⟨_, rfl, ?_⟩))
            go_roundg k1
            case measure => have := HK1.out; omega
            case rel => exact ⟨(wrap64 (x3_1 + 1)), (by first | rfl | (simp; done) | (simp [*]; done)), H', ⟨by have := HK1.out; omega⟩, by repeat (first | exact Drawn0.refl _ | apply Drawn0.step)⟩
          · replace c6 := Bool.eq_false_iff.mpr c6
            subst c6
            have H1 : (some false) = some r := by rw [if_neg (show ¬ (false = true) by decide)] at H; exact H
            clear H
            have H := H1
            clear H1
            obtain rfl := Option.some.inj H
            have p4 : 0 ≤ (x3_1 : Int) := of_decide_eq_true (by first | (with_reducible assumption) | assumption)
            have q4 : x3_1 < (a0.size : Int) := of_decide_eq_true (by first | (with_reducible assumption) | assumption)
            have hx4 := bt_at a0 x3_1
            replace p4 := eq_true p4
            replace q4 := eq_true q4
            go_wp2_with (first | ((with_reducible refine gate_callee (f := 68) rfl ?_); refine goesL_ (some 13) rfl rfl Tryd.func68 (by kernel_rfl) rfl #[.int .u8 (bt a0 x3_1)] rfl (by (try simp only [List.map_toArray, List.map_cons, List.map_nil]); first | done | rfl | (simp only [List.length_drop, List.length_take]; rfl)) ?_; (with_reducible refine (impl_isFigure.calls (bt a0 x3_1) false _ A5.out).mono ?_); rintro e w' ⟨rfl, ⟨nd, rfl⟩⟩; refine ⟨_, rfl, ?_⟩))
            go_ret
            exact ⟨by first | rfl | (simp; done) | (simp [*]; done) | (simp; cases a0.toList <;> rfl), by repeat (first | exact Drawn0.refl _ | apply Drawn0.step)⟩
        · rw [if_neg c3] at H
          exact absurd H (by simp)
      · rw [if_neg c2] at H
        have c2b0 : decide (x3_1 < (a0.size : Int)) = false := decide_eq_false c2
        clear c2
        obtain rfl := Option.some.inj H
        go_wp2
        go_ret
        exact ⟨by first | rfl | (simp; done) | (simp [*]; done) | (simp; cases a0.toList <;> rfl), by repeat (first | exact Drawn0.refl _ | apply Drawn0.step)⟩

end Go.Proofs.YtagbldaiedmikaaDoor.X

namespace Go.Proofs.YtagbldaiedmikaaDoor.X
open Go.RowKit Go.Proofs.YtagbldaiedmikaaDoorW.PrintWords Go.Proofs.YtagbldaiedmikaaDoorW.PrintLast Go.Proofs.YtagbldaiedmikaaDoorW.PrintMore
attribute [local go_sem] max2_int min2_int max_two min_two max_three min_three max_four min_four   -- for this text's walks alone
set_option linter.unusedVariables false
set_option linter.unusedSimpArgs false

/-! ### impl_isNumber: function 71 -/
def impl_isNumber.f (k : Nat) (a0 : ByteArray) : Option (Bool) := (impl_isFigures.f k a0).bind fun t151 => (if t151 = true then (if a0.toList = ([48] : List UInt8) then (some true) else (if 0 < (a0.size : Int) then (some ((bt a0 0) != 48)) else (none))) else (some false))
theorem impl_isNumber.mono : ∀ a0 k, LeO (impl_isNumber.f k a0) (impl_isNumber.f (k + 1) a0) := by
  intro a0 k
  unfold impl_isNumber.f
  repeat' first
      | (with_reducible exact impl_isFigures.mono _ _)
      | (with_reducible exact LeO.refl _)
      | (with_reducible exact LeO.none _)
      | (with_reducible refine LeO.ite ?_ ?_)
      | (with_reducible refine LeO.bind ?_ (fun _ => ?_))
      | exact impl_isFigures.mono _ _
      | exact LeO.none _
      | refine LeO.ite ?_ ?_
      | refine LeO.bind ?_ (fun _ => ?_)
set_option maxHeartbeats 8000000 in
set_option maxRecDepth 100000 in
theorem impl_isNumber.calls (k : Nat) (a0 : ByteArray) (r : Bool) (w : World) (h : impl_isNumber.f k a0 = some r) :
    Calls Tryd.prog 71 #[.string a0] w fun e w' => e = .returned (.bool r) ∧ Drawn0 w w' := by
  have H : ((impl_isFigures.f k a0).bind fun t151 => (if t151 = true then (if a0.toList = ([48] : List UInt8) then (some true) else (if 0 < (a0.size : Int) then (some ((bt a0 0) != 48)) else (none))) else (some false))) = some r := h
  clear h
  replace H := Option.bind_eq_some_iff.mp H
  obtain ⟨t151, A20, H⟩ := H
  replace H : (if t151 = true then (if a0.toList = ([48] : List UInt8) then (some true) else (if 0 < (a0.size : Int) then (some ((bt a0 0) != 48)) else (none))) else (some false)) = some r := H
  have A2 := Aside0.mk A20
  clear A20
  by_cases c3 : t151 = true
  · subst c3
    have H1 : (if a0.toList = ([48] : List UInt8) then (some true) else (if 0 < (a0.size : Int) then (some ((bt a0 0) != 48)) else (none))) = some r := by rw [if_pos rfl] at H; exact H
    clear H
    have H := H1
    clear H1
    by_cases c4 : a0.toList = ([48] : List UInt8)
    · rw [if_pos c4] at H
      have c4b0 : (a0.toList == ([48] : List UInt8)) = true := beq_iff_eq.mpr c4
      have c4b1 : (a0.toList != ([48] : List UInt8)) = false := bne_eq_false_iff_eq.mpr c4
      clear c4
      obtain rfl := Option.some.inj H
      go_enter Tryd.func71, Tryd.ntmps71
      go_wp2_with (first | ((with_reducible refine gate_callee (f := 70) rfl ?_); refine goesL_ (some 4) rfl rfl Tryd.func70 (by kernel_rfl) rfl #[.string a0] rfl (by (try simp only [List.map_toArray, List.map_cons, List.map_nil]); first | done | rfl | (simp only [List.length_drop, List.length_take]; rfl)) ?_; (with_reducible refine (impl_isFigures.calls k a0 true _ A2.out).mono ?_); rintro e w' ⟨rfl, ⟨nd, rfl⟩⟩; refine ⟨_, rfl, ?_⟩))
      go_ret
      exact ⟨by first | rfl | (simp; done) | (simp [*]; done), by repeat (first | exact Drawn0.refl _ | apply Drawn0.step)⟩
    · rw [if_neg c4] at H
      have c4b0 : (a0.toList == ([48] : List UInt8)) = false := beq_eq_false_iff_ne.mpr c4
      have c4b1 : (a0.toList != ([48] : List UInt8)) = true := bne_iff_ne.mpr c4
      by_cases c5 : 0 < (a0.size : Int)
      · rw [if_pos c5] at H
        have c5b0 : decide (0 < (a0.size : Int)) = true := decide_eq_true c5
        have c5b1 : decide (0 < a0.size) = true := decide_eq_true (by omega)
        clear c5
        obtain rfl := Option.some.inj H
        go_enter Tryd.func71, Tryd.ntmps71
        go_wp2_with (first | ((with_reducible refine gate_callee (f := 70) rfl ?_); refine goesL_ (some 4) rfl rfl Tryd.func70 (by kernel_rfl) rfl #[.string a0] rfl (by (try simp only [List.map_toArray, List.map_cons, List.map_nil]); first | done | rfl | (simp only [List.length_drop, List.length_take]; rfl)) ?_; (with_reducible refine (impl_isFigures.calls k a0 true _ A2.out).mono ?_); rintro e w' ⟨rfl, ⟨nd, rfl⟩⟩; refine ⟨_, rfl, ?_⟩; have p6 : 0 ≤ (0 : Int) := (by omega); have q6 : 0 < a0.size := (by have : (0 : Int) < (a0.size : Int) := of_decide_eq_true (by first | (with_reducible assumption) | assumption); omega); have hx6 : ∀ h : 0 < a0.size, ((a0[0]'h).toNat : Int) = bt a0 0 := bt_at a0 0; clear p6; have qi6 : (0 < (a0.size : Int)) = True := eq_true (of_decide_eq_true (by first | (with_reducible assumption) | assumption)); replace q6 := eq_true q6))
        go_ret
        exact ⟨by first | rfl | (simp; done) | (simp [*]; done), by repeat (first | exact Drawn0.refl _ | apply Drawn0.step)⟩
      · rw [if_neg c5] at H
        exact absurd H (by simp)
  · replace c3 := Bool.eq_false_iff.mpr c3
    subst c3
    have H1 : (some false) = some r := by rw [if_neg (show ¬ (false = true) by decide)] at H; exact H
    clear H
    have H := H1
    clear H1
    obtain rfl := Option.some.inj H
    go_enter Tryd.func71, Tryd.ntmps71
    go_wp2_with (first | ((with_reducible refine gate_callee (f := 70) rfl ?_); refine goesL_ (some 4) rfl rfl Tryd.func70 (by kernel_rfl) rfl #[.string a0] rfl (by (try simp only [List.map_toArray, List.map_cons, List.map_nil]); first | done | rfl | (simp only [List.length_drop, List.length_take]; rfl)) ?_; (with_reducible refine (impl_isFigures.calls k a0 false _ A2.out).mono ?_); rintro e w' ⟨rfl, ⟨nd, rfl⟩⟩; refine ⟨_, rfl, ?_⟩))
    go_ret
    exact ⟨by first | rfl | (simp; done) | (simp [*]; done), by repeat (first | exact Drawn0.refl _ | apply Drawn0.step)⟩

end Go.Proofs.YtagbldaiedmikaaDoor.X
