/- The law FnExactParseVersion, as a plain statement: the program's ParseVersion answers as the reference's. Conditions: those of the row's reading alone. -/
/- Part 6 of 8 of this claim's texts. -/
import Derived.Test.YtagbldaiedmikaaDoorWWords
import Derived.Test.YtagbldaiedmikaaDoorWMore
import Derived.Laws.BitsLemmas
import Derived.Lib.Atoi
import Derived.Lib.ItoaNum
import Derived.Test.YtagbldaiedmikaaDoorCFnExactParseVersion0
import Derived.Test.YtagbldaiedmikaaDoorCFnExactParseVersion1
import Derived.Test.YtagbldaiedmikaaDoorCFnExactParseVersion2
import Derived.Test.YtagbldaiedmikaaDoorCFnExactParseVersion3
import Derived.Test.YtagbldaiedmikaaDoorCFnExactParseVersion4
namespace Go.Proofs.YtagbldaiedmikaaDoor.X
open Go.RowKit Go.Proofs.YtagbldaiedmikaaDoorW.PrintWords Go.Proofs.YtagbldaiedmikaaDoorW.PrintLast Go.Proofs.YtagbldaiedmikaaDoorW.PrintMore
attribute [local go_sem] max2_int min2_int max_two min_two max_three min_three max_four min_four   -- for this text's walks alone
set_option linter.unusedVariables false
set_option linter.unusedSimpArgs false

/-! ### impl_ParseVersion: function 42 (by hand) -/
def impl_ParseVersion.n3 (k : Nat) (s p : ByteArray) (a b c : Int) : Option (Int × Int × Int × ByteArray × Bool) := (impl_VersionText.f k a b c p).bind fun t => (if t.toList = s.toList then (some (a, b, c, p, true)) else (some (0, 0, 0, (⟨#[]⟩ : ByteArray), false)))
def impl_ParseVersion.n2 (k : Nat) (s p z : ByteArray) (a b : Int) : Option (Int × Int × Int × ByteArray × Bool) := (impl_numberOf.f k z 7).bind fun q => (if q.2 = true then (impl_ParseVersion.n3 k s p a b q.1) else (some (0, 0, 0, (⟨#[]⟩ : ByteArray), false)))
def impl_ParseVersion.n1 (k : Nat) (s p y z : ByteArray) (a : Int) : Option (Int × Int × Int × ByteArray × Bool) := (impl_numberOf.f k y 7).bind fun q => (if q.2 = true then (impl_ParseVersion.n2 k s p z a q.1) else (some (0, 0, 0, (⟨#[]⟩ : ByteArray), false)))
def impl_ParseVersion.n0 (k : Nat) (s p x y z : ByteArray) : Option (Int × Int × Int × ByteArray × Bool) := (impl_numberOf.f k x 7).bind fun q => (if q.2 = true then (impl_ParseVersion.n1 k s p y z q.1) else (some (0, 0, 0, (⟨#[]⟩ : ByteArray), false)))
def impl_ParseVersion.f (k : Nat) (s : ByteArray) : Option (Int × Int × Int × ByteArray × Bool) := (strings_TrimPrefix.f s (⟨#[118]⟩ : ByteArray)).bind fun t => (strings_Cut.f t (⟨#[45]⟩ : ByteArray)).bind fun c => (strings_Split.f c.1 (⟨#[46]⟩ : ByteArray)).bind fun l => (if l.length = 3 then (impl_ParseVersion.n0 k s c.2.1 (rdOf ByteArray.empty l 0) (rdOf ByteArray.empty l 1) (rdOf ByteArray.empty l 2)) else (some (0, 0, 0, (⟨#[]⟩ : ByteArray), false)))
theorem impl_ParseVersion.mono : ∀ a0 k, LeO (impl_ParseVersion.f k a0) (impl_ParseVersion.f (k + 1) a0) := by
  intro a0 k
  unfold impl_ParseVersion.f impl_ParseVersion.n0 impl_ParseVersion.n1 impl_ParseVersion.n2 impl_ParseVersion.n3
  repeat' first
      | (with_reducible exact impl_VersionText.mono _ _ _ _ _)
      | (with_reducible exact impl_numberOf.mono _ _ _)
      | (with_reducible exact LeO.refl _)
      | (with_reducible exact LeO.none _)
      | (with_reducible refine LeO.ite ?_ ?_)
      | (with_reducible refine LeO.bind ?_ (fun _ => ?_))
theorem impl_ParseVersion.four {w : World} {g : Nat} {T : TypeId} {x0 x1 x2 x3 : Value} (h : w.heap[g]? = some (.cells #[x0, x1, x2, x3] T (0, 0))) (y0 y1 y2 y3 : Value) :
    ((((w.setCell ⟨g, 0, none⟩ y0).setCell ⟨g, 1, none⟩ y1).setCell ⟨g, 2, none⟩ y2).setCell ⟨g, 3, none⟩ y3).heap[g]? = some (.cells #[y0, y1, y2, y3] T (0, 0)) := blk_put (blk_put (blk_put (blk_put h 0 _ rfl) 1 _ rfl) 2 _ rfl) 3 _ rfl
theorem impl_ParseVersion.fourB {B : Nat} {a w : World} {g : Nat} (h : Below B a w) (hg : B ≤ g) (y0 y1 y2 y3 : Value) :
    Below B a ((((w.setCell ⟨g, 0, none⟩ y0).setCell ⟨g, 1, none⟩ y1).setCell ⟨g, 2, none⟩ y2).setCell ⟨g, 3, none⟩ y3) := (((h.setCell (p := ⟨g, 0, none⟩) hg _).setCell (p := ⟨g, 1, none⟩) hg _).setCell (p := ⟨g, 2, none⟩) hg _).setCell (p := ⟨g, 3, none⟩) hg _
theorem impl_ParseVersion.fourF {w : World} {g g2 : Nat} {T : TypeId} {cs : Array Value} (h : w.heap[g]? = some (.cells cs T (0, 0))) (hne : g ≠ g2) (y0 y1 y2 y3 : Value) :
    ((((w.setCell ⟨g2, 0, none⟩ y0).setCell ⟨g2, 1, none⟩ y1).setCell ⟨g2, 2, none⟩ y2).setCell ⟨g2, 3, none⟩ y3).heap[g]? = some (.cells cs T (0, 0)) := blk_far (p := ⟨g2, 3, none⟩) (blk_far (p := ⟨g2, 2, none⟩) (blk_far (p := ⟨g2, 1, none⟩) (blk_far (p := ⟨g2, 0, none⟩) h hne _) hne _) hne _) hne _
theorem impl_ParseVersion.fourO {w : World} {g base : Nat} {v : Value} {l : List ByteArray} {x0 x1 x2 x3 : Value} (h : Kd.R Kd.string 9 w base (fun _ => True) v l) (hb : w.heap[g]? = some (.cells #[x0, x1, x2, x3] 27 (0, 0))) (y0 y1 y2 y3 : Value) :
    Kd.R Kd.string 9 ((((w.setCell ⟨g, 0, none⟩ y0).setCell ⟨g, 1, none⟩ y1).setCell ⟨g, 2, none⟩ y2).setCell ⟨g, 3, none⟩ y3) base (fun _ => True) v l :=
  Kd.R_set (Kd.R_set (Kd.R_set (Kd.R_set h hb (by decide) 0 y0) (blk_put hb 0 _ rfl) (by decide) 1 y1) (blk_put (blk_put hb 0 _ rfl) 1 _ rfl) (by decide) 2 y2) (blk_put (blk_put (blk_put hb 0 _ rfl) 1 _ rfl) 2 _ rfl) (by decide) 3 y3
set_option maxHeartbeats 8000000 in
set_option maxRecDepth 100000 in
theorem impl_ParseVersion.calls (k : Nat) (a0 : ByteArray) (r1 : Int) (r2 : Int) (r3 : Int) (r4 : ByteArray) (r5 : Bool) (w : World) (hG_ : GlobI w) (h : impl_ParseVersion.f k a0 = some (r1, r2, r3, r4, r5)) :
    Calls Tryd.prog 42 #[.string a0] w fun e w' => e = .returned (.tuple #[.agg #[.int .i64 r1, .int .i64 r2, .int .i64 r3, .string r4], .bool r5]) ∧ Below w.heap.size w w' := by
  have hu27 := Tryd.underlying27
  have HG_ := Aside0.mk hG_
  clear hG_
  have HB := Aside0.mk (Below.refl w.heap.size w)
  obtain ⟨t, A10, h2⟩ := Option.bind_eq_some_iff.mp h
  obtain ⟨⟨c1, c2, c3⟩, A20, h3⟩ := Option.bind_eq_some_iff.mp h2
  obtain ⟨l, A30, h4⟩ := Option.bind_eq_some_iff.mp h3
  have A1 := Aside0.mk A10
  have A2 := Aside0.mk A20
  have A3 := Aside0.mk (show strings_Split.f c1 (⟨#[46]⟩ : ByteArray) = some l from A30)
  have H0 : (if l.length = 3 then (impl_ParseVersion.n0 k a0 c2 (rdOf ByteArray.empty l 0) (rdOf ByteArray.empty l 1) (rdOf ByteArray.empty l 2)) else (some (0, 0, 0, (⟨#[]⟩ : ByteArray), false))) = some (r1, r2, r3, r4, r5) := h4
  clear h h2 h3 h4 A10 A20 A30
  by_cases c5 : l.length = 3
  · rw [if_pos c5] at H0
    have H := Aside0.mk H0
    clear H0
    have c5b : ((l.length : Int) != 3) = false := bne_eq_false_iff_eq.mpr (by omega)
    go_enter Tryd.func42, Tryd.ntmps42
    go_wp2_with (first | ((with_reducible refine gate_dst (N := 2) rfl ?_); refine box_event ?hg (N := 2) ?hd (cs := #[.int .i64 0, .int .i64 0, .int .i64 0, .string (⟨#[]⟩ : ByteArray)]) (t := 27) ?hr ?_; (case hd => rfl); (case hg => rfl); (case hr => first | (go_simp; done) | (go_simp; rfl)); intro g2 hg w4 hbox hb; have n0_ := Aside0.mk (below_step (by repeat (first | (with_reducible first | exact HB.out | apply below_alloc | apply pw_below_drewN | apply below_drew1) | exact HB.out)) hb); have n1_ := Aside0.mk hbox; have n2_ := Aside0.mk ((by rw [hg]; exact (below_size (by repeat (first | (with_reducible first | exact HB.out | apply below_alloc | apply pw_below_drewN | apply below_drew1) | exact HB.out)))) : w.heap.size ≤ g2); clear HB; have HB := n0_; have BK2 := n1_; have GE2 := n2_; clear n0_ n1_ n2_; clear hb hbox hg) | ((with_reducible refine gate_callee (f := 65) rfl ?_); refine goesL_ (some 15) rfl rfl Tryd.func65 (by kernel_rfl) rfl #[.string a0, .string (⟨#[118]⟩ : ByteArray)] rfl (by (try simp only [List.map_toArray, List.map_cons, List.map_nil]); first | done | rfl) ?_; (with_reducible refine (strings_TrimPrefix.calls a0 (⟨#[118]⟩ : ByteArray) t _ A1.out).mono ?_); rintro e w' ⟨rfl, ⟨nd, rfl⟩⟩; refine ⟨_, rfl, ?_⟩) | ((with_reducible refine gate_callee (f := 64) rfl ?_); refine goesL_ (some 16) rfl rfl Tryd.func64 (by kernel_rfl) rfl #[.string t, .string (⟨#[45]⟩ : ByteArray)] rfl (by (try simp only [List.map_toArray, List.map_cons, List.map_nil]); first | done | rfl) ?_; (with_reducible refine (strings_Cut.calls t (⟨#[45]⟩ : ByteArray) c1 c2 c3 _ A2.out).mono ?_); rintro e w' ⟨rfl, ⟨nd, rfl⟩⟩; refine ⟨_, rfl, ?_⟩) | ((with_reducible refine gate_callee (f := 45) rfl ?_); refine goesL_ (some 21) rfl rfl Tryd.func45 (by kernel_rfl) rfl #[.string c1, .string (⟨#[46]⟩ : ByteArray)] rfl (by (try simp only [List.map_toArray, List.map_cons, List.map_nil]); first | done | rfl) ?_; (with_reducible refine (strings_Split.calls c1 (⟨#[46]⟩ : ByteArray) l _ A3.out).mono ?_); rintro e w3 ⟨v122, rfl, ho0, hb⟩; refine ⟨_, rfl, ?_⟩; have n0_ := Aside0.mk (Kd.R_lower ho0 (below_size (by repeat (first | (with_reducible first | exact HB.out | apply below_alloc | apply pw_below_drewN | apply below_drew1 | refine below_set ?_ GE2.out) | exact HB.out)))); have n2_ := Aside0.mk (blk_below (g := g2) (o := .cells #[.int .i64 0, .int .i64 0, .int .i64 0, .string (⟨#[]⟩ : ByteArray)] 27 (0, 0)) (by (with_reducible repeat (first | refine blk_drewN ?_ _ | refine blk_drew ?_ | refine blk_alloc ?_ _)); exact BK2.out) hb); have n1_ := Aside0.mk (below_step (by repeat (first | (with_reducible first | exact HB.out | apply below_alloc | apply pw_below_drewN | apply below_drew1 | refine below_set ?_ GE2.out) | exact HB.out)) hb); clear HB BK2; have HO := n0_; have HB := n1_; have BK2 := n2_; clear n0_ n1_ n2_; (try clear hb); (try clear ho0); obtain ⟨Ao4, co4, eo4⟩ := Kd.R_slice HO.out; subst eo4; have d0 : w3.cell? ⟨g2, 0, none⟩ = some (.int .i64 0) := (blk_cell BK2.out 0).trans rfl; have d1 : w3.cell? ⟨g2, 1, none⟩ = some (.int .i64 0) := (blk_cell BK2.out 1).trans rfl; have d2 : w3.cell? ⟨g2, 2, none⟩ = some (.int .i64 0) := (blk_cell BK2.out 2).trans rfl; have d3 : w3.cell? ⟨g2, 3, none⟩ = some (.string (⟨#[]⟩ : ByteArray)) := (blk_cell BK2.out 3).trans rfl; have f0 := blk_frozen BK2.out 0; have f1 := blk_frozen BK2.out 1; have f2 := blk_frozen BK2.out 2; have f3 := blk_frozen BK2.out 3) | ((with_reducible refine gate_dst (N := 8) rfl ?_); refine box_event ?hg (N := 8) ?hd (cs := #[.int .i64 0, .int .i64 0, .int .i64 0, .string (⟨#[]⟩ : ByteArray)]) (t := 27) ?hr ?_; (case hd => rfl); (case hg => rfl); (case hr => first | (go_simp; done) | (go_simp; rfl)); intro g8 hg w4 hbox hb; have n5_ := Aside0.mk ((by rw [hg]; exact (Nat.ne_of_lt (blk_lt (w := _) (g := g2) (o := .cells #[.int .i64 0, .int .i64 0, .int .i64 0, .string (⟨#[]⟩ : ByteArray)] 27 (0, 0)) (by (with_reducible repeat (first | refine blk_drewN ?_ _ | refine blk_drew ?_ | refine blk_alloc ?_ _)); exact BK2.out)))) : g2 ≠ g8); have n4_ := Aside0.mk (Kd.R_below (by (with_reducible repeat (first | apply Kd.R_alloc | apply Kd.R_drewN | apply Kd.R_drew)); exact HO.out) hb); have n3_ := Aside0.mk (blk_below (g := g2) (o := .cells #[.int .i64 0, .int .i64 0, .int .i64 0, .string (⟨#[]⟩ : ByteArray)] 27 (0, 0)) (by (with_reducible repeat (first | refine blk_drewN ?_ _ | refine blk_drew ?_ | refine blk_alloc ?_ _)); exact BK2.out) hb); have n0_ := Aside0.mk (below_step (by repeat (first | (with_reducible first | exact HB.out | apply below_alloc | apply pw_below_drewN | apply below_drew1 | refine below_set ?_ GE2.out) | exact HB.out)) hb); have n1_ := Aside0.mk hbox; have n2_ := Aside0.mk ((by rw [hg]; exact (below_size (by repeat (first | (with_reducible first | exact HB.out | apply below_alloc | apply pw_below_drewN | apply below_drew1 | refine below_set ?_ GE2.out) | exact HB.out)))) : w.heap.size ≤ g8); clear HB BK2 HO; have HB := n0_; have BK2 := n3_; have BK8 := n1_; have GE8 := n2_; have HO := n4_; have NE28 := n5_; clear n0_ n1_ n2_ n3_ n4_ n5_; clear hb hbox hg; have e0 : w4.cell? ⟨g8, 0, none⟩ = some (.int .i64 0) := (blk_cell BK8.out 0).trans rfl; have e1 : w4.cell? ⟨g8, 1, none⟩ = some (.int .i64 0) := (blk_cell BK8.out 1).trans rfl; have e2 : w4.cell? ⟨g8, 2, none⟩ = some (.int .i64 0) := (blk_cell BK8.out 2).trans rfl; have e3 : w4.cell? ⟨g8, 3, none⟩ = some (.string (⟨#[]⟩ : ByteArray)) := (blk_cell BK8.out 3).trans rfl; have q0 := blk_frozen BK8.out 0; have q1 := blk_frozen BK8.out 1; have q2 := blk_frozen BK8.out 2; have q3 := blk_frozen BK8.out 3))
    have ix0 : ∀ W, (Instr.index 74 (.agg #[.pointer (some ⟨g8, 0, none⟩), .pointer (some ⟨g8, 1, none⟩), .pointer (some ⟨g8, 2, none⟩)]) (.int .i64 0)).run Tryd.prog W = .ok (.pointer (some ⟨g8, 0, none⟩)) W := fun W => by simp [Instr.index, run_underlying Tryd.underlying74, asIntOf, go_sem]
    have ix1 : ∀ W, (Instr.index 74 (.agg #[.pointer (some ⟨g8, 0, none⟩), .pointer (some ⟨g8, 1, none⟩), .pointer (some ⟨g8, 2, none⟩)]) (.int .i64 1)).run Tryd.prog W = .ok (.pointer (some ⟨g8, 1, none⟩)) W := fun W => by simp [Instr.index, run_underlying Tryd.underlying74, asIntOf, go_sem]
    have ix2 : ∀ W, (Instr.index 74 (.agg #[.pointer (some ⟨g8, 0, none⟩), .pointer (some ⟨g8, 1, none⟩), .pointer (some ⟨g8, 2, none⟩)]) (.int .i64 2)).run Tryd.prog W = .ok (.pointer (some ⟨g8, 2, none⟩)) W := fun W => by simp [Instr.index, run_underlying Tryd.underlying74, asIntOf, go_sem]
    clear d0 d1 d2 d3 f0 f1 f2 f3 e0 e1 e2 e3 q0 q1 q2 q3 A1 A2 A3
    go_loopw [32] (fun v32 wr => ∃ (i : Nat) (x y z : Int), v32 = .int .i64 (i : Int) ∧ i ≤ 3 ∧ Aside0 (wr.heap[g8]? = some (.cells #[.int .i64 x, .int .i64 y, .int .i64 z, .string c2] 27 (0, 0))) ∧ Aside0 (wr.heap[g2]? = some (.cells #[.int .i64 0, .int .i64 0, .int .i64 0, .string (⟨#[]⟩ : ByteArray)] 27 (0, 0))) ∧ Aside0 (Kd.R Kd.string 9 wr w.heap.size (fun _ => True) (.slice Ao4 l.length co4) l) ∧ Aside0 (Below w.heap.size w wr) ∧ Aside0 (i = 0 ∧ impl_ParseVersion.n0 k a0 c2 (rdOf ByteArray.empty l 0) (rdOf ByteArray.empty l 1) (rdOf ByteArray.empty l 2) = some (r1, r2, r3, r4, r5) ∨ i = 1 ∧ impl_ParseVersion.n1 k a0 c2 (rdOf ByteArray.empty l 1) (rdOf ByteArray.empty l 2) x = some (r1, r2, r3, r4, r5) ∨ i = 2 ∧ impl_ParseVersion.n2 k a0 c2 (rdOf ByteArray.empty l 2) x y = some (r1, r2, r3, r4, r5) ∨ i = 3 ∧ impl_ParseVersion.n3 k a0 c2 x y z = some (r1, r2, r3, r4, r5)))
      (fun v32 _ => 3 - (intOf v32).toNat)
    case atStart => exact ⟨0, 0, 0, 0, rfl, by omega, ⟨impl_ParseVersion.four BK8.out _ _ _ _⟩, ⟨impl_ParseVersion.fourF BK2.out NE28.out _ _ _ _⟩, ⟨impl_ParseVersion.fourO HO.out BK8.out _ _ _ _⟩, ⟨impl_ParseVersion.fourB HB.out GE8.out _ _ _ _⟩, ⟨.inl ⟨rfl, H.out⟩⟩⟩
    case round =>
    clear H BK2 BK8 HO HB
    obtain ⟨i, x, y, z, rfl, hi, BK8, BK2, HO, HB, HA⟩ := hrel
    rcases HA.out with ⟨rfl, h⟩ | ⟨rfl, h⟩ | ⟨rfl, h⟩ | ⟨rfl, h⟩
    · obtain ⟨⟨n, OK⟩, A0, h2⟩ := Option.bind_eq_some_iff.mp h
      have AN := Aside0.mk A0
      clear A0 HA h
      have p1 : (0 : Int) < (l.length : Int) := by omega
      obtain ⟨ad, e, hx⟩ := Kd.at_string (Kd.R_reads' HO.out).2.2 (0 : Int) (by decide) p1
      replace hx : wr.cell? ad = some (.string (rdOf ByteArray.empty l 0)) := hx
      cases e
      replace p1 := eq_true p1
      have hu27 := Tryd.underlying27
      cases OK with
      | true =>
        have HT := Aside0.mk (show impl_ParseVersion.n1 k a0 c2 (rdOf ByteArray.empty l 1) (rdOf ByteArray.empty l 2) n = some (r1, r2, r3, r4, r5) from h2)
        clear h2
        go_wp2_with (first | ((with_reducible refine gate_callee (f := 66) rfl ?_); refine goesL_ (some 41) rfl rfl Tryd.func66 (by kernel_rfl) rfl #[.string (rdOf ByteArray.empty l 0), .int .i64 7] rfl (by (try simp only [List.map_toArray, List.map_cons, List.map_nil]); first | done | rfl) ?_; (with_reducible refine (impl_numberOf.calls k (rdOf ByteArray.empty l 0) 7 n true _ AN.out).mono ?_); rintro e w5 ⟨rfl, hb⟩; refine ⟨_, rfl, ?_⟩; have n0_ := Aside0.mk (below_step (by repeat (first | (with_reducible first | exact HB.out | apply below_alloc | apply pw_below_drewN | apply below_drew1) | exact HB.out)) hb); have n1_ := Aside0.mk (blk_below (g := g2) (o := .cells #[.int .i64 0, .int .i64 0, .int .i64 0, .string (⟨#[]⟩ : ByteArray)] 27 (0, 0)) (by (with_reducible repeat (first | refine blk_drewN ?_ _ | refine blk_drew ?_ | refine blk_alloc ?_ _)); exact BK2.out) hb); have n2_ := Aside0.mk (blk_below (g := g8) (o := .cells #[.int .i64 x, .int .i64 y, .int .i64 z, .string c2] 27 (0, 0)) (by (with_reducible repeat (first | refine blk_drewN ?_ _ | refine blk_drew ?_ | refine blk_alloc ?_ _)); exact BK8.out) hb); have n3_ := Aside0.mk (Kd.R_below (by (with_reducible repeat (first | apply Kd.R_alloc | apply Kd.R_drewN | apply Kd.R_drew)); exact HO.out) hb); clear HB BK2 BK8 HO hb; have HB := n0_; have BK2 := n1_; have BK8 := n2_; have HO := n3_; clear n0_ n1_ n2_ n3_; have e0 : w5.cell? ⟨g8, 0, none⟩ = some (.int .i64 x) := (blk_cell BK8.out 0).trans rfl; have e1 : w5.cell? ⟨g8, 1, none⟩ = some (.int .i64 y) := (blk_cell BK8.out 1).trans rfl; have e2 : w5.cell? ⟨g8, 2, none⟩ = some (.int .i64 z) := (blk_cell BK8.out 2).trans rfl; have e3 : w5.cell? ⟨g8, 3, none⟩ = some (.string c2) := (blk_cell BK8.out 3).trans rfl; have q0 := blk_frozen BK8.out 0; have q1 := blk_frozen BK8.out 1; have q2 := blk_frozen BK8.out 2; have q3 := blk_frozen BK8.out 3))
        exact ⟨⟨1, n, y, z, rfl, by omega, ⟨blk_put BK8.out 0 _ rfl⟩, ⟨blk_far BK2.out NE28.out _⟩, ⟨Kd.R_set HO.out BK8.out (by decide) _ _⟩, ⟨below_set HB.out GE8.out⟩, ⟨.inr (.inl ⟨rfl, HT.out⟩)⟩⟩, by decide⟩
      | false =>
        have h3 : some (0, 0, 0, (⟨#[]⟩ : ByteArray), false) = some (r1, r2, r3, r4, r5) := h2
        simp only [Option.some.injEq, Prod.mk.injEq] at h3
        obtain ⟨rfl, rfl, rfl, rfl, rfl⟩ := h3
        clear h2
        go_wp2_with (first | ((with_reducible refine gate_callee (f := 66) rfl ?_); refine goesL_ (some 41) rfl rfl Tryd.func66 (by kernel_rfl) rfl #[.string (rdOf ByteArray.empty l 0), .int .i64 7] rfl (by (try simp only [List.map_toArray, List.map_cons, List.map_nil]); first | done | rfl) ?_; (with_reducible refine (impl_numberOf.calls k (rdOf ByteArray.empty l 0) 7 n false _ AN.out).mono ?_); rintro e w5 ⟨rfl, hb⟩; refine ⟨_, rfl, ?_⟩; have n0_ := Aside0.mk (below_step (by repeat (first | (with_reducible first | exact HB.out | apply below_alloc | apply pw_below_drewN | apply below_drew1) | exact HB.out)) hb); have n1_ := Aside0.mk (blk_below (g := g2) (o := .cells #[.int .i64 0, .int .i64 0, .int .i64 0, .string (⟨#[]⟩ : ByteArray)] 27 (0, 0)) (by (with_reducible repeat (first | refine blk_drewN ?_ _ | refine blk_drew ?_ | refine blk_alloc ?_ _)); exact BK2.out) hb); have n2_ := Aside0.mk (blk_below (g := g8) (o := .cells #[.int .i64 x, .int .i64 y, .int .i64 z, .string c2] 27 (0, 0)) (by (with_reducible repeat (first | refine blk_drewN ?_ _ | refine blk_drew ?_ | refine blk_alloc ?_ _)); exact BK8.out) hb); have n3_ := Aside0.mk (Kd.R_below (by (with_reducible repeat (first | apply Kd.R_alloc | apply Kd.R_drewN | apply Kd.R_drew)); exact HO.out) hb); clear HB BK2 BK8 HO hb; have HB := n0_; have BK2 := n1_; have BK8 := n2_; have HO := n3_; clear n0_ n1_ n2_ n3_; have d0 : w5.cell? ⟨g2, 0, none⟩ = some (.int .i64 0) := (blk_cell BK2.out 0).trans rfl; have d1 : w5.cell? ⟨g2, 1, none⟩ = some (.int .i64 0) := (blk_cell BK2.out 1).trans rfl; have d2 : w5.cell? ⟨g2, 2, none⟩ = some (.int .i64 0) := (blk_cell BK2.out 2).trans rfl; have d3 : w5.cell? ⟨g2, 3, none⟩ = some (.string (⟨#[]⟩ : ByteArray)) := (blk_cell BK2.out 3).trans rfl; have f0 := blk_frozen BK2.out 0; have f1 := blk_frozen BK2.out 1; have f2 := blk_frozen BK2.out 2; have f3 := blk_frozen BK2.out 3))
        refine bodyPost_ret (results_ct rfl _ _ g2 27 #[.int .i64 0, .int .i64 0, .int .i64 0, .string (⟨#[]⟩ : ByteArray)] (0, 0) _ rfl (impl_ParseVersion.four BK2.out _ _ _ _) hu27 rfl (by kernel_rfl)) rfl ?_
        exact ⟨rfl, impl_ParseVersion.fourB (by repeat (first | (with_reducible first | exact HB.out | apply below_alloc | apply pw_below_drewN | apply below_drew1) | exact HB.out)) GE2.out _ _ _ _⟩
    · obtain ⟨⟨n, OK⟩, A0, h2⟩ := Option.bind_eq_some_iff.mp h
      have AN := Aside0.mk A0
      clear A0 HA h
      have p1 : (1 : Int) < (l.length : Int) := by omega
      obtain ⟨ad, e, hx⟩ := Kd.at_string (Kd.R_reads' HO.out).2.2 (1 : Int) (by decide) p1
      replace hx : wr.cell? (⟨ad.block, ad.off + 1, none⟩ : Addr) = some (.string (rdOf ByteArray.empty l 1)) := hx
      cases e
      replace p1 := eq_true p1
      have hu27 := Tryd.underlying27
      cases OK with
      | true =>
        have HT := Aside0.mk (show impl_ParseVersion.n2 k a0 c2 (rdOf ByteArray.empty l 2) x n = some (r1, r2, r3, r4, r5) from h2)
        clear h2
        go_wp2_with (first | ((with_reducible refine gate_callee (f := 66) rfl ?_); refine goesL_ (some 41) rfl rfl Tryd.func66 (by kernel_rfl) rfl #[.string (rdOf ByteArray.empty l 1), .int .i64 7] rfl (by (try simp only [List.map_toArray, List.map_cons, List.map_nil]); first | done | rfl) ?_; (with_reducible refine (impl_numberOf.calls k (rdOf ByteArray.empty l 1) 7 n true _ AN.out).mono ?_); rintro e w5 ⟨rfl, hb⟩; refine ⟨_, rfl, ?_⟩; have n0_ := Aside0.mk (below_step (by repeat (first | (with_reducible first | exact HB.out | apply below_alloc | apply pw_below_drewN | apply below_drew1) | exact HB.out)) hb); have n1_ := Aside0.mk (blk_below (g := g2) (o := .cells #[.int .i64 0, .int .i64 0, .int .i64 0, .string (⟨#[]⟩ : ByteArray)] 27 (0, 0)) (by (with_reducible repeat (first | refine blk_drewN ?_ _ | refine blk_drew ?_ | refine blk_alloc ?_ _)); exact BK2.out) hb); have n2_ := Aside0.mk (blk_below (g := g8) (o := .cells #[.int .i64 x, .int .i64 y, .int .i64 z, .string c2] 27 (0, 0)) (by (with_reducible repeat (first | refine blk_drewN ?_ _ | refine blk_drew ?_ | refine blk_alloc ?_ _)); exact BK8.out) hb); have n3_ := Aside0.mk (Kd.R_below (by (with_reducible repeat (first | apply Kd.R_alloc | apply Kd.R_drewN | apply Kd.R_drew)); exact HO.out) hb); clear HB BK2 BK8 HO hb; have HB := n0_; have BK2 := n1_; have BK8 := n2_; have HO := n3_; clear n0_ n1_ n2_ n3_; have e0 : w5.cell? ⟨g8, 0, none⟩ = some (.int .i64 x) := (blk_cell BK8.out 0).trans rfl; have e1 : w5.cell? ⟨g8, 1, none⟩ = some (.int .i64 y) := (blk_cell BK8.out 1).trans rfl; have e2 : w5.cell? ⟨g8, 2, none⟩ = some (.int .i64 z) := (blk_cell BK8.out 2).trans rfl; have e3 : w5.cell? ⟨g8, 3, none⟩ = some (.string c2) := (blk_cell BK8.out 3).trans rfl; have q0 := blk_frozen BK8.out 0; have q1 := blk_frozen BK8.out 1; have q2 := blk_frozen BK8.out 2; have q3 := blk_frozen BK8.out 3))
        exact ⟨⟨2, x, n, z, rfl, by omega, ⟨blk_put BK8.out 1 _ rfl⟩, ⟨blk_far BK2.out NE28.out _⟩, ⟨Kd.R_set HO.out BK8.out (by decide) _ _⟩, ⟨below_set HB.out GE8.out⟩, ⟨.inr (.inr (.inl ⟨rfl, HT.out⟩))⟩⟩, by decide⟩
      | false =>
        have h3 : some (0, 0, 0, (⟨#[]⟩ : ByteArray), false) = some (r1, r2, r3, r4, r5) := h2
        simp only [Option.some.injEq, Prod.mk.injEq] at h3
        obtain ⟨rfl, rfl, rfl, rfl, rfl⟩ := h3
        clear h2
        go_wp2_with (first | ((with_reducible refine gate_callee (f := 66) rfl ?_); refine goesL_ (some 41) rfl rfl Tryd.func66 (by kernel_rfl) rfl #[.string (rdOf ByteArray.empty l 1), .int .i64 7] rfl (by (try simp only [List.map_toArray, List.map_cons, List.map_nil]); first | done | rfl) ?_; (with_reducible refine (impl_numberOf.calls k (rdOf ByteArray.empty l 1) 7 n false _ AN.out).mono ?_); rintro e w5 ⟨rfl, hb⟩; refine ⟨_, rfl, ?_⟩; have n0_ := Aside0.mk (below_step (by repeat (first | (with_reducible first | exact HB.out | apply below_alloc | apply pw_below_drewN | apply below_drew1) | exact HB.out)) hb); have n1_ := Aside0.mk (blk_below (g := g2) (o := .cells #[.int .i64 0, .int .i64 0, .int .i64 0, .string (⟨#[]⟩ : ByteArray)] 27 (0, 0)) (by (with_reducible repeat (first | refine blk_drewN ?_ _ | refine blk_drew ?_ | refine blk_alloc ?_ _)); exact BK2.out) hb); have n2_ := Aside0.mk (blk_below (g := g8) (o := .cells #[.int .i64 x, .int .i64 y, .int .i64 z, .string c2] 27 (0, 0)) (by (with_reducible repeat (first | refine blk_drewN ?_ _ | refine blk_drew ?_ | refine blk_alloc ?_ _)); exact BK8.out) hb); have n3_ := Aside0.mk (Kd.R_below (by (with_reducible repeat (first | apply Kd.R_alloc | apply Kd.R_drewN | apply Kd.R_drew)); exact HO.out) hb); clear HB BK2 BK8 HO hb; have HB := n0_; have BK2 := n1_; have BK8 := n2_; have HO := n3_; clear n0_ n1_ n2_ n3_; have d0 : w5.cell? ⟨g2, 0, none⟩ = some (.int .i64 0) := (blk_cell BK2.out 0).trans rfl; have d1 : w5.cell? ⟨g2, 1, none⟩ = some (.int .i64 0) := (blk_cell BK2.out 1).trans rfl; have d2 : w5.cell? ⟨g2, 2, none⟩ = some (.int .i64 0) := (blk_cell BK2.out 2).trans rfl; have d3 : w5.cell? ⟨g2, 3, none⟩ = some (.string (⟨#[]⟩ : ByteArray)) := (blk_cell BK2.out 3).trans rfl; have f0 := blk_frozen BK2.out 0; have f1 := blk_frozen BK2.out 1; have f2 := blk_frozen BK2.out 2; have f3 := blk_frozen BK2.out 3))
        refine bodyPost_ret (results_ct rfl _ _ g2 27 #[.int .i64 0, .int .i64 0, .int .i64 0, .string (⟨#[]⟩ : ByteArray)] (0, 0) _ rfl (impl_ParseVersion.four BK2.out _ _ _ _) hu27 rfl (by kernel_rfl)) rfl ?_
        exact ⟨rfl, impl_ParseVersion.fourB (by repeat (first | (with_reducible first | exact HB.out | apply below_alloc | apply pw_below_drewN | apply below_drew1) | exact HB.out)) GE2.out _ _ _ _⟩
    · obtain ⟨⟨n, OK⟩, A0, h2⟩ := Option.bind_eq_some_iff.mp h
      have AN := Aside0.mk A0
      clear A0 HA h
      have p1 : (2 : Int) < (l.length : Int) := by omega
      obtain ⟨ad, e, hx⟩ := Kd.at_string (Kd.R_reads' HO.out).2.2 (2 : Int) (by decide) p1
      replace hx : wr.cell? (⟨ad.block, ad.off + 2, none⟩ : Addr) = some (.string (rdOf ByteArray.empty l 2)) := hx
      cases e
      replace p1 := eq_true p1
      have hu27 := Tryd.underlying27
      cases OK with
      | true =>
        have HT := Aside0.mk (show impl_ParseVersion.n3 k a0 c2 x y n = some (r1, r2, r3, r4, r5) from h2)
        clear h2
        go_wp2_with (first | ((with_reducible refine gate_callee (f := 66) rfl ?_); refine goesL_ (some 41) rfl rfl Tryd.func66 (by kernel_rfl) rfl #[.string (rdOf ByteArray.empty l 2), .int .i64 7] rfl (by (try simp only [List.map_toArray, List.map_cons, List.map_nil]); first | done | rfl) ?_; (with_reducible refine (impl_numberOf.calls k (rdOf ByteArray.empty l 2) 7 n true _ AN.out).mono ?_); rintro e w5 ⟨rfl, hb⟩; refine ⟨_, rfl, ?_⟩; have n0_ := Aside0.mk (below_step (by repeat (first | (with_reducible first | exact HB.out | apply below_alloc | apply pw_below_drewN | apply below_drew1) | exact HB.out)) hb); have n1_ := Aside0.mk (blk_below (g := g2) (o := .cells #[.int .i64 0, .int .i64 0, .int .i64 0, .string (⟨#[]⟩ : ByteArray)] 27 (0, 0)) (by (with_reducible repeat (first | refine blk_drewN ?_ _ | refine blk_drew ?_ | refine blk_alloc ?_ _)); exact BK2.out) hb); have n2_ := Aside0.mk (blk_below (g := g8) (o := .cells #[.int .i64 x, .int .i64 y, .int .i64 z, .string c2] 27 (0, 0)) (by (with_reducible repeat (first | refine blk_drewN ?_ _ | refine blk_drew ?_ | refine blk_alloc ?_ _)); exact BK8.out) hb); have n3_ := Aside0.mk (Kd.R_below (by (with_reducible repeat (first | apply Kd.R_alloc | apply Kd.R_drewN | apply Kd.R_drew)); exact HO.out) hb); clear HB BK2 BK8 HO hb; have HB := n0_; have BK2 := n1_; have BK8 := n2_; have HO := n3_; clear n0_ n1_ n2_ n3_; have e0 : w5.cell? ⟨g8, 0, none⟩ = some (.int .i64 x) := (blk_cell BK8.out 0).trans rfl; have e1 : w5.cell? ⟨g8, 1, none⟩ = some (.int .i64 y) := (blk_cell BK8.out 1).trans rfl; have e2 : w5.cell? ⟨g8, 2, none⟩ = some (.int .i64 z) := (blk_cell BK8.out 2).trans rfl; have e3 : w5.cell? ⟨g8, 3, none⟩ = some (.string c2) := (blk_cell BK8.out 3).trans rfl; have q0 := blk_frozen BK8.out 0; have q1 := blk_frozen BK8.out 1; have q2 := blk_frozen BK8.out 2; have q3 := blk_frozen BK8.out 3))
        exact ⟨⟨3, x, y, n, rfl, by omega, ⟨blk_put BK8.out 2 _ rfl⟩, ⟨blk_far BK2.out NE28.out _⟩, ⟨Kd.R_set HO.out BK8.out (by decide) _ _⟩, ⟨below_set HB.out GE8.out⟩, ⟨.inr (.inr (.inr ⟨rfl, HT.out⟩))⟩⟩, by decide⟩
      | false =>
        have h3 : some (0, 0, 0, (⟨#[]⟩ : ByteArray), false) = some (r1, r2, r3, r4, r5) := h2
        simp only [Option.some.injEq, Prod.mk.injEq] at h3
        obtain ⟨rfl, rfl, rfl, rfl, rfl⟩ := h3
        clear h2
        go_wp2_with (first | ((with_reducible refine gate_callee (f := 66) rfl ?_); refine goesL_ (some 41) rfl rfl Tryd.func66 (by kernel_rfl) rfl #[.string (rdOf ByteArray.empty l 2), .int .i64 7] rfl (by (try simp only [List.map_toArray, List.map_cons, List.map_nil]); first | done | rfl) ?_; (with_reducible refine (impl_numberOf.calls k (rdOf ByteArray.empty l 2) 7 n false _ AN.out).mono ?_); rintro e w5 ⟨rfl, hb⟩; refine ⟨_, rfl, ?_⟩; have n0_ := Aside0.mk (below_step (by repeat (first | (with_reducible first | exact HB.out | apply below_alloc | apply pw_below_drewN | apply below_drew1) | exact HB.out)) hb); have n1_ := Aside0.mk (blk_below (g := g2) (o := .cells #[.int .i64 0, .int .i64 0, .int .i64 0, .string (⟨#[]⟩ : ByteArray)] 27 (0, 0)) (by (with_reducible repeat (first | refine blk_drewN ?_ _ | refine blk_drew ?_ | refine blk_alloc ?_ _)); exact BK2.out) hb); have n2_ := Aside0.mk (blk_below (g := g8) (o := .cells #[.int .i64 x, .int .i64 y, .int .i64 z, .string c2] 27 (0, 0)) (by (with_reducible repeat (first | refine blk_drewN ?_ _ | refine blk_drew ?_ | refine blk_alloc ?_ _)); exact BK8.out) hb); have n3_ := Aside0.mk (Kd.R_below (by (with_reducible repeat (first | apply Kd.R_alloc | apply Kd.R_drewN | apply Kd.R_drew)); exact HO.out) hb); clear HB BK2 BK8 HO hb; have HB := n0_; have BK2 := n1_; have BK8 := n2_; have HO := n3_; clear n0_ n1_ n2_ n3_; have d0 : w5.cell? ⟨g2, 0, none⟩ = some (.int .i64 0) := (blk_cell BK2.out 0).trans rfl; have d1 : w5.cell? ⟨g2, 1, none⟩ = some (.int .i64 0) := (blk_cell BK2.out 1).trans rfl; have d2 : w5.cell? ⟨g2, 2, none⟩ = some (.int .i64 0) := (blk_cell BK2.out 2).trans rfl; have d3 : w5.cell? ⟨g2, 3, none⟩ = some (.string (⟨#[]⟩ : ByteArray)) := (blk_cell BK2.out 3).trans rfl; have f0 := blk_frozen BK2.out 0; have f1 := blk_frozen BK2.out 1; have f2 := blk_frozen BK2.out 2; have f3 := blk_frozen BK2.out 3))
        refine bodyPost_ret (results_ct rfl _ _ g2 27 #[.int .i64 0, .int .i64 0, .int .i64 0, .string (⟨#[]⟩ : ByteArray)] (0, 0) _ rfl (impl_ParseVersion.four BK2.out _ _ _ _) hu27 rfl (by kernel_rfl)) rfl ?_
        exact ⟨rfl, impl_ParseVersion.fourB (by repeat (first | (with_reducible first | exact HB.out | apply below_alloc | apply pw_below_drewN | apply below_drew1) | exact HB.out)) GE2.out _ _ _ _⟩
    · obtain ⟨tx, A0, h2⟩ := Option.bind_eq_some_iff.mp h
      have AT := Aside0.mk A0
      clear A0 HA h ix0 ix1 ix2
      have hu27 := Tryd.underlying27
      have e0 : wr.cell? ⟨g8, 0, none⟩ = some (.int .i64 x) := (blk_cell BK8.out 0).trans rfl; have e1 : wr.cell? ⟨g8, 1, none⟩ = some (.int .i64 y) := (blk_cell BK8.out 1).trans rfl; have e2 : wr.cell? ⟨g8, 2, none⟩ = some (.int .i64 z) := (blk_cell BK8.out 2).trans rfl; have e3 : wr.cell? ⟨g8, 3, none⟩ = some (.string c2) := (blk_cell BK8.out 3).trans rfl; have q0 := blk_frozen BK8.out 0; have q1 := blk_frozen BK8.out 1; have q2 := blk_frozen BK8.out 2; have q3 := blk_frozen BK8.out 3
      by_cases c9 : tx.toList = a0.toList
      · have c9b0 : (tx.toList == a0.toList) = true := beq_iff_eq.mpr c9
        have c9b1 : (tx.toList != a0.toList) = false := bne_eq_false_iff_eq.mpr c9
        have h3 : some (x, y, z, c2, true) = some (r1, r2, r3, r4, r5) := by have h4 : (if tx.toList = a0.toList then (some (x, y, z, c2, true)) else (some (0, 0, 0, (⟨#[]⟩ : ByteArray), false))) = some (r1, r2, r3, r4, r5) := h2; rw [if_pos c9] at h4; exact h4
        simp only [Option.some.injEq, Prod.mk.injEq] at h3
        obtain ⟨rfl, rfl, rfl, rfl, rfl⟩ := h3
        clear h2 c9
        go_wp2_with (first | ((with_reducible refine gate_callee (f := 36) rfl ?_); refine goesL_ (some 52) rfl rfl Tryd.func36 (by kernel_rfl) rfl #[.agg #[.int .i64 x, .int .i64 y, .int .i64 z, .string c2]] rfl (by (try simp only [List.map_toArray, List.map_cons, List.map_nil]); first | done | rfl) ?_; (with_reducible refine (impl_VersionText.calls k x y z c2 tx _ (globI_on HG_.out (by repeat (first | (with_reducible first | exact HB.out | apply below_alloc | apply pw_below_drewN | apply below_drew1) | exact HB.out))) AT.out).mono ?_); rintro e w5 ⟨rfl, hb⟩; refine ⟨_, rfl, ?_⟩; have n0_ := Aside0.mk (below_step (by repeat (first | (with_reducible first | exact HB.out | apply below_alloc | apply pw_below_drewN | apply below_drew1) | exact HB.out)) hb); have n1_ := Aside0.mk (blk_below (g := g2) (o := .cells #[.int .i64 0, .int .i64 0, .int .i64 0, .string (⟨#[]⟩ : ByteArray)] 27 (0, 0)) (by (with_reducible repeat (first | refine blk_drewN ?_ _ | refine blk_drew ?_ | refine blk_alloc ?_ _)); exact BK2.out) hb); have n2_ := Aside0.mk (blk_below (g := g8) (o := .cells #[.int .i64 x, .int .i64 y, .int .i64 z, .string c2] 27 (0, 0)) (by (with_reducible repeat (first | refine blk_drewN ?_ _ | refine blk_drew ?_ | refine blk_alloc ?_ _)); exact BK8.out) hb); clear HB BK2 BK8 hb e0 e1 e2 e3 q0 q1 q2 q3; have HB := n0_; have BK2 := n1_; have BK8 := n2_; clear n0_ n1_ n2_; have d0 : w5.cell? ⟨g2, 0, none⟩ = some (.int .i64 0) := (blk_cell BK2.out 0).trans rfl; have d1 : w5.cell? ⟨g2, 1, none⟩ = some (.int .i64 0) := (blk_cell BK2.out 1).trans rfl; have d2 : w5.cell? ⟨g2, 2, none⟩ = some (.int .i64 0) := (blk_cell BK2.out 2).trans rfl; have d3 : w5.cell? ⟨g2, 3, none⟩ = some (.string (⟨#[]⟩ : ByteArray)) := (blk_cell BK2.out 3).trans rfl; have f0 := blk_frozen BK2.out 0; have f1 := blk_frozen BK2.out 1; have f2 := blk_frozen BK2.out 2; have f3 := blk_frozen BK2.out 3; have e0 : w5.cell? ⟨g8, 0, none⟩ = some (.int .i64 x) := (blk_cell BK8.out 0).trans rfl; have e1 : w5.cell? ⟨g8, 1, none⟩ = some (.int .i64 y) := (blk_cell BK8.out 1).trans rfl; have e2 : w5.cell? ⟨g8, 2, none⟩ = some (.int .i64 z) := (blk_cell BK8.out 2).trans rfl; have e3 : w5.cell? ⟨g8, 3, none⟩ = some (.string c2) := (blk_cell BK8.out 3).trans rfl; have q0 := blk_frozen BK8.out 0; have q1 := blk_frozen BK8.out 1; have q2 := blk_frozen BK8.out 2; have q3 := blk_frozen BK8.out 3))
        refine bodyPost_ret (results_ct rfl _ _ g2 27 #[.int .i64 x, .int .i64 y, .int .i64 z, .string c2] (0, 0) _ rfl (impl_ParseVersion.four BK2.out _ _ _ _) hu27 rfl (by kernel_rfl)) rfl ?_
        exact ⟨rfl, impl_ParseVersion.fourB (by repeat (first | (with_reducible first | exact HB.out | apply below_alloc | apply pw_below_drewN | apply below_drew1) | exact HB.out)) GE2.out _ _ _ _⟩
      · have c9b0 : (tx.toList == a0.toList) = false := beq_eq_false_iff_ne.mpr c9
        have c9b1 : (tx.toList != a0.toList) = true := bne_iff_ne.mpr c9
        have h3 : some (0, 0, 0, (⟨#[]⟩ : ByteArray), false) = some (r1, r2, r3, r4, r5) := by have h4 : (if tx.toList = a0.toList then (some (x, y, z, c2, true)) else (some (0, 0, 0, (⟨#[]⟩ : ByteArray), false))) = some (r1, r2, r3, r4, r5) := h2; rw [if_neg c9] at h4; exact h4
        simp only [Option.some.injEq, Prod.mk.injEq] at h3
        obtain ⟨rfl, rfl, rfl, rfl, rfl⟩ := h3
        clear h2 c9
        go_wp2_with (first | ((with_reducible refine gate_callee (f := 36) rfl ?_); refine goesL_ (some 52) rfl rfl Tryd.func36 (by kernel_rfl) rfl #[.agg #[.int .i64 x, .int .i64 y, .int .i64 z, .string c2]] rfl (by (try simp only [List.map_toArray, List.map_cons, List.map_nil]); first | done | rfl) ?_; (with_reducible refine (impl_VersionText.calls k x y z c2 tx _ (globI_on HG_.out (by repeat (first | (with_reducible first | exact HB.out | apply below_alloc | apply pw_below_drewN | apply below_drew1) | exact HB.out))) AT.out).mono ?_); rintro e w5 ⟨rfl, hb⟩; refine ⟨_, rfl, ?_⟩; have n0_ := Aside0.mk (below_step (by repeat (first | (with_reducible first | exact HB.out | apply below_alloc | apply pw_below_drewN | apply below_drew1) | exact HB.out)) hb); have n1_ := Aside0.mk (blk_below (g := g2) (o := .cells #[.int .i64 0, .int .i64 0, .int .i64 0, .string (⟨#[]⟩ : ByteArray)] 27 (0, 0)) (by (with_reducible repeat (first | refine blk_drewN ?_ _ | refine blk_drew ?_ | refine blk_alloc ?_ _)); exact BK2.out) hb); have n2_ := Aside0.mk (blk_below (g := g8) (o := .cells #[.int .i64 x, .int .i64 y, .int .i64 z, .string c2] 27 (0, 0)) (by (with_reducible repeat (first | refine blk_drewN ?_ _ | refine blk_drew ?_ | refine blk_alloc ?_ _)); exact BK8.out) hb); clear HB BK2 BK8 hb e0 e1 e2 e3 q0 q1 q2 q3; have HB := n0_; have BK2 := n1_; have BK8 := n2_; clear n0_ n1_ n2_; have d0 : w5.cell? ⟨g2, 0, none⟩ = some (.int .i64 0) := (blk_cell BK2.out 0).trans rfl; have d1 : w5.cell? ⟨g2, 1, none⟩ = some (.int .i64 0) := (blk_cell BK2.out 1).trans rfl; have d2 : w5.cell? ⟨g2, 2, none⟩ = some (.int .i64 0) := (blk_cell BK2.out 2).trans rfl; have d3 : w5.cell? ⟨g2, 3, none⟩ = some (.string (⟨#[]⟩ : ByteArray)) := (blk_cell BK2.out 3).trans rfl; have f0 := blk_frozen BK2.out 0; have f1 := blk_frozen BK2.out 1; have f2 := blk_frozen BK2.out 2; have f3 := blk_frozen BK2.out 3; have e0 : w5.cell? ⟨g8, 0, none⟩ = some (.int .i64 x) := (blk_cell BK8.out 0).trans rfl; have e1 : w5.cell? ⟨g8, 1, none⟩ = some (.int .i64 y) := (blk_cell BK8.out 1).trans rfl; have e2 : w5.cell? ⟨g8, 2, none⟩ = some (.int .i64 z) := (blk_cell BK8.out 2).trans rfl; have e3 : w5.cell? ⟨g8, 3, none⟩ = some (.string c2) := (blk_cell BK8.out 3).trans rfl; have q0 := blk_frozen BK8.out 0; have q1 := blk_frozen BK8.out 1; have q2 := blk_frozen BK8.out 2; have q3 := blk_frozen BK8.out 3))
        refine bodyPost_ret (results_ct rfl _ _ g2 27 #[.int .i64 0, .int .i64 0, .int .i64 0, .string (⟨#[]⟩ : ByteArray)] (0, 0) _ rfl (impl_ParseVersion.four BK2.out _ _ _ _) hu27 rfl (by kernel_rfl)) rfl ?_
        exact ⟨rfl, impl_ParseVersion.fourB (by repeat (first | (with_reducible first | exact HB.out | apply below_alloc | apply pw_below_drewN | apply below_drew1) | exact HB.out)) GE2.out _ _ _ _⟩
  · rw [if_neg c5] at H0
    simp only [Option.some.injEq, Prod.mk.injEq] at H0
    obtain ⟨rfl, rfl, rfl, rfl, rfl⟩ := H0
    have c5b : ((l.length : Int) != 3) = true := bne_iff_ne.mpr (by omega)
    clear c5
    go_enter Tryd.func42, Tryd.ntmps42
    go_wp2_with (first | ((with_reducible refine gate_dst (N := 2) rfl ?_); refine box_event ?hg (N := 2) ?hd (cs := #[.int .i64 0, .int .i64 0, .int .i64 0, .string (⟨#[]⟩ : ByteArray)]) (t := 27) ?hr ?_; (case hd => rfl); (case hg => rfl); (case hr => first | (go_simp; done) | (go_simp; rfl)); intro g2 hg w4 hbox hb; have n0_ := Aside0.mk (below_step (by repeat (first | (with_reducible first | exact HB.out | apply below_alloc | apply pw_below_drewN | apply below_drew1) | exact HB.out)) hb); have n1_ := Aside0.mk hbox; have n2_ := Aside0.mk ((by rw [hg]; exact (below_size (by repeat (first | (with_reducible first | exact HB.out | apply below_alloc | apply pw_below_drewN | apply below_drew1) | exact HB.out)))) : w.heap.size ≤ g2); clear HB; have HB := n0_; have BK2 := n1_; have GE2 := n2_; clear n0_ n1_ n2_; clear hb hbox hg) | ((with_reducible refine gate_callee (f := 65) rfl ?_); refine goesL_ (some 15) rfl rfl Tryd.func65 (by kernel_rfl) rfl #[.string a0, .string (⟨#[118]⟩ : ByteArray)] rfl (by (try simp only [List.map_toArray, List.map_cons, List.map_nil]); first | done | rfl) ?_; (with_reducible refine (strings_TrimPrefix.calls a0 (⟨#[118]⟩ : ByteArray) t _ A1.out).mono ?_); rintro e w' ⟨rfl, ⟨nd, rfl⟩⟩; refine ⟨_, rfl, ?_⟩) | ((with_reducible refine gate_callee (f := 64) rfl ?_); refine goesL_ (some 16) rfl rfl Tryd.func64 (by kernel_rfl) rfl #[.string t, .string (⟨#[45]⟩ : ByteArray)] rfl (by (try simp only [List.map_toArray, List.map_cons, List.map_nil]); first | done | rfl) ?_; (with_reducible refine (strings_Cut.calls t (⟨#[45]⟩ : ByteArray) c1 c2 c3 _ A2.out).mono ?_); rintro e w' ⟨rfl, ⟨nd, rfl⟩⟩; refine ⟨_, rfl, ?_⟩) | ((with_reducible refine gate_callee (f := 45) rfl ?_); refine goesL_ (some 21) rfl rfl Tryd.func45 (by kernel_rfl) rfl #[.string c1, .string (⟨#[46]⟩ : ByteArray)] rfl (by (try simp only [List.map_toArray, List.map_cons, List.map_nil]); first | done | rfl) ?_; (with_reducible refine (strings_Split.calls c1 (⟨#[46]⟩ : ByteArray) l _ A3.out).mono ?_); rintro e w3 ⟨v122, rfl, ho0, hb⟩; refine ⟨_, rfl, ?_⟩; have n0_ := Aside0.mk (Kd.R_lower ho0 (below_size (by repeat (first | (with_reducible first | exact HB.out | apply below_alloc | apply pw_below_drewN | apply below_drew1 | refine below_set ?_ GE2.out) | exact HB.out)))); have n2_ := Aside0.mk (blk_below (g := g2) (o := .cells #[.int .i64 0, .int .i64 0, .int .i64 0, .string (⟨#[]⟩ : ByteArray)] 27 (0, 0)) (by (with_reducible repeat (first | refine blk_drewN ?_ _ | refine blk_drew ?_ | refine blk_alloc ?_ _)); exact BK2.out) hb); have n1_ := Aside0.mk (below_step (by repeat (first | (with_reducible first | exact HB.out | apply below_alloc | apply pw_below_drewN | apply below_drew1 | refine below_set ?_ GE2.out) | exact HB.out)) hb); clear HB BK2; have HO := n0_; have HB := n1_; have BK2 := n2_; clear n0_ n1_ n2_; (try clear hb); (try clear ho0); obtain ⟨Ao4, co4, eo4⟩ := Kd.R_slice HO.out; subst eo4; have d0 : w3.cell? ⟨g2, 0, none⟩ = some (.int .i64 0) := (blk_cell BK2.out 0).trans rfl; have d1 : w3.cell? ⟨g2, 1, none⟩ = some (.int .i64 0) := (blk_cell BK2.out 1).trans rfl; have d2 : w3.cell? ⟨g2, 2, none⟩ = some (.int .i64 0) := (blk_cell BK2.out 2).trans rfl; have d3 : w3.cell? ⟨g2, 3, none⟩ = some (.string (⟨#[]⟩ : ByteArray)) := (blk_cell BK2.out 3).trans rfl; have f0 := blk_frozen BK2.out 0; have f1 := blk_frozen BK2.out 1; have f2 := blk_frozen BK2.out 2; have f3 := blk_frozen BK2.out 3))
    refine bodyPost_ret (results_ct rfl _ _ g2 27 #[.int .i64 0, .int .i64 0, .int .i64 0, .string (⟨#[]⟩ : ByteArray)] (0, 0) _ rfl (impl_ParseVersion.four BK2.out _ _ _ _) hu27 rfl (by kernel_rfl)) rfl ?_
    exact ⟨rfl, impl_ParseVersion.fourB (by repeat (first | (with_reducible first | exact HB.out | apply below_alloc | apply pw_below_drewN | apply below_drew1 | refine below_set ?_ GE2.out) | exact HB.out)) GE2.out _ _ _ _⟩

end Go.Proofs.YtagbldaiedmikaaDoor.X

namespace Go.Proofs.YtagbldaiedmikaaDoor.X
open Go.RowKit Go.Proofs.YtagbldaiedmikaaDoorW.PrintWords Go.Proofs.YtagbldaiedmikaaDoorW.PrintLast Go.Proofs.YtagbldaiedmikaaDoorW.PrintMore
attribute [local go_sem] max2_int min2_int max_two min_two max_three min_three max_four min_four   -- for this text's walks alone
set_option linter.unusedVariables false
set_option linter.unusedSimpArgs false

/-! ### laws_FnExactParseVersion: function 14 -/
def laws_FnExactParseVersion.f (k : Nat) (a0 : ByteArray) : Option (Bool) := if (a0.size : Int) > 1048576 then (some true) else ((spec_ParseVersion.f k a0).bind fun bt607 => ((impl_ParseVersion.f k a0).bind fun bt613 => ((laws_eqVersion.f bt613.1 bt613.2.1 bt613.2.2.1 bt613.2.2.2.1 bt607.1 bt607.2.1 bt607.2.2.1 bt607.2.2.2.1).bind fun t619 => (if t619 = true then (if (bt613.2.2.2.2 != bt607.2.2.2.2) = true then (some false) else (some true)) else (some false)))))
theorem laws_FnExactParseVersion.mono : ∀ a0 k, LeO (laws_FnExactParseVersion.f k a0) (laws_FnExactParseVersion.f (k + 1) a0) := by
  intro a0 k
  unfold laws_FnExactParseVersion.f
  repeat' first
      | (with_reducible exact impl_ParseVersion.mono _ _)
      | (with_reducible exact spec_ParseVersion.mono _ _)
      | (with_reducible exact LeO.refl _)
      | (with_reducible exact LeO.none _)
      | (with_reducible refine LeO.ite ?_ ?_)
      | (with_reducible refine LeO.bind ?_ (fun _ => ?_))
      | exact impl_ParseVersion.mono _ _
      | exact spec_ParseVersion.mono _ _
      | exact LeO.none _
      | refine LeO.ite ?_ ?_
      | refine LeO.bind ?_ (fun _ => ?_)
set_option maxHeartbeats 8000000 in
set_option maxRecDepth 100000 in
theorem laws_FnExactParseVersion.calls (k : Nat) (a0 : ByteArray) (r : Bool) (w : World) (hG_ : GlobI w) (h : laws_FnExactParseVersion.f k a0 = some r) :
    Calls Tryd.prog 14 #[.string a0] w fun e w' => e = .returned (.bool r) ∧ Below w.heap.size w w' := by
  have HG_ := Aside0.mk hG_
  clear hG_
  have hu27 := Tryd.underlying27
  have HB := Aside0.mk (Below.refl w.heap.size w)
  have H : (if (a0.size : Int) > 1048576 then (some true) else ((spec_ParseVersion.f k a0).bind fun bt607 => ((impl_ParseVersion.f k a0).bind fun bt613 => ((laws_eqVersion.f bt613.1 bt613.2.1 bt613.2.2.1 bt613.2.2.2.1 bt607.1 bt607.2.1 bt607.2.2.1 bt607.2.2.2.1).bind fun t619 => (if t619 = true then (if (bt613.2.2.2.2 != bt607.2.2.2.2) = true then (some false) else (some true)) else (some false)))))) = some r := h
  clear h
  by_cases c2 : (a0.size : Int) > 1048576
  · rw [if_pos c2] at H
    have c2b0 : decide (1048576 < (a0.size : Int)) = true := decide_eq_true c2
    have c2b1 : decide (1048576 < a0.size) = true := decide_eq_true (by omega)
    clear c2
    obtain rfl := Option.some.inj H
    go_enter Tryd.func14, Tryd.ntmps14
    go_wp2
    go_ret
    exact ⟨by first | rfl | (simp [errW_none, errW_some] <;> rfl) | (simp [*, errW_none, errW_some] <;> rfl), by repeat (first | (with_reducible first | exact HB.out | apply below_alloc | apply pw_below_drewN | apply below_drew1) | exact HB.out)⟩
  · rw [if_neg c2] at H
    have c2b0 : decide (1048576 < (a0.size : Int)) = false := decide_eq_false c2
    have c2b1 : decide (1048576 < a0.size) = false := decide_eq_false (by omega)
    clear c2
    replace H := Option.bind_eq_some_iff.mp H
    obtain ⟨⟨t607, t608, t609, t610, t611⟩, A30, H⟩ := H
    replace H : ((impl_ParseVersion.f k a0).bind fun bt613 => ((laws_eqVersion.f bt613.1 bt613.2.1 bt613.2.2.1 bt613.2.2.2.1 t607 t608 t609 t610).bind fun t619 => (if t619 = true then (if (bt613.2.2.2.2 != t611) = true then (some false) else (some true)) else (some false)))) = some r := H
    have A3 := Aside0.mk A30
    clear A30
    replace H := Option.bind_eq_some_iff.mp H
    obtain ⟨⟨t613, t614, t615, t616, t617⟩, A40, H⟩ := H
    replace H : ((laws_eqVersion.f t613 t614 t615 t616 t607 t608 t609 t610).bind fun t619 => (if t619 = true then (if (t617 != t611) = true then (some false) else (some true)) else (some false))) = some r := H
    have A4 := Aside0.mk A40
    clear A40
    replace H := Option.bind_eq_some_iff.mp H
    obtain ⟨t619, A50, H⟩ := H
    replace H : (if t619 = true then (if (t617 != t611) = true then (some false) else (some true)) else (some false)) = some r := H
    have A5 := Aside0.mk A50
    clear A50
    by_cases c6 : t619 = true
    · subst c6
      have H1 : (if (t617 != t611) = true then (some false) else (some true)) = some r := by rw [if_pos rfl] at H; exact H
      clear H
      have H := H1
      clear H1
      by_cases c7 : (t617 != t611) = true
      · rw [if_pos c7] at H
        have c7b0 : (t617 != t611) = true := c7
        (try (have c7b1 : decide (t617 = t611) = false := by simpa using c7))
        (try (have c7b2 : (t617 == t611) = false := by simpa using c7))
        (try (have c7b3 : ¬ (t617 = t611) := by simpa using c7))
        clear c7
        obtain rfl := Option.some.inj H
        go_enter Tryd.func14, Tryd.ntmps14
        go_wp2_with (first | ((with_reducible refine gate_callee (f := 41) rfl ?_); refine goesL_ (some 12) rfl rfl Tryd.func41 (by kernel_rfl) rfl #[.string a0] rfl (by (try simp only [List.map_toArray, List.map_cons, List.map_nil]); first | done | rfl | (simp only [List.length_drop, List.length_take]; rfl)) ?_; (with_reducible refine (spec_ParseVersion.calls k a0 t607 t608 t609 t610 t611 _ A3.out).mono ?_); rintro e w8 ⟨rfl, hb⟩; refine ⟨_, rfl, ?_⟩; have n0_ := Aside0.mk (below_step (by repeat (first | (with_reducible first | exact HB.out | apply below_alloc | apply pw_below_drewN | apply below_drew1) | exact HB.out)) hb); clear HB; have HB := n0_; clear n0_; (try clear hb); (try clear hb2); (try clear hk); (try clear hi)) | ((with_reducible refine gate_dst (N := 3) rfl ?_); refine box_event ?hg (N := 3) ?hd (cs := #[.int .i64 0, .int .i64 0, .int .i64 0, .string (⟨#[]⟩ : ByteArray)]) (t := 27) ?hr ?_; (case hd => rfl); (case hg => rfl); (case hr => first | (go_simp; done) | (go_simp; rfl)); intro gb612 hg w9 hbox hb; have n0_ := Aside0.mk (below_step (by repeat (first | (with_reducible first | exact HB.out | apply below_alloc | apply pw_below_drewN | apply below_drew1) | exact HB.out)) hb); have n1_ := Aside0.mk (hbox); have n2_ := Aside0.mk ((by rw [hg]; exact (below_size (by repeat (first | (with_reducible first | exact HB.out | apply below_alloc | apply pw_below_drewN | apply below_drew1) | exact HB.out))) : w.heap.size ≤ gb612)); have n3_ := Aside0.mk ((by rw [hg]; exact (below_size (by repeat (first | (with_reducible first | exact HB.out | apply below_alloc | apply pw_below_drewN | apply below_drew1) | exact HB.out))) : w.heap.size ≤ gb612)); clear HB; have HB := n0_; have BK612 := n1_; have GW612 := n2_; have GE612 := n3_; clear n0_ n1_ n2_ n3_; clear hb hbox hg; have hcz10_0 : w9.cell? ⟨gb612, 0, none⟩ = some (.int .i64 0) := (blk_cell BK612.out 0).trans rfl; have hcz10_1 : w9.cell? ⟨gb612, 1, none⟩ = some (.int .i64 0) := (blk_cell BK612.out 1).trans rfl; have hcz10_2 : w9.cell? ⟨gb612, 2, none⟩ = some (.int .i64 0) := (blk_cell BK612.out 2).trans rfl; have hcz10_3 : w9.cell? ⟨gb612, 3, none⟩ = some (.string (⟨#[]⟩ : ByteArray)) := (blk_cell BK612.out 3).trans rfl; have hfz10_0 := blk_frozen BK612.out 0; have hfz10_1 := blk_frozen BK612.out 1; have hfz10_2 := blk_frozen BK612.out 2; have hfz10_3 := blk_frozen BK612.out 3) | ((with_reducible refine gate_callee (f := 42) rfl ?_); refine goesL_ (some 17) rfl rfl Tryd.func42 (by kernel_rfl) rfl #[.string a0] rfl (by (try simp only [List.map_toArray, List.map_cons, List.map_nil]); first | done | rfl | (simp only [List.length_drop, List.length_take]; rfl)) ?_; (with_reducible refine (impl_ParseVersion.calls (hG_ := globI_on HG_.out (by repeat (first | (with_reducible first | exact HB.out | apply below_alloc | apply pw_below_drewN | apply below_drew1) | exact HB.out | refine below_set ?_ (Aside0.out (by assumption))))) k a0 t613 t614 t615 t616 t617 _ A4.out).mono ?_); rintro e w11 ⟨rfl, hb⟩; refine ⟨_, rfl, ?_⟩; have n0_ := Aside0.mk (blk_below (g := gb612) (o := .cells #[.int .i64 t607, .int .i64 t608, .int .i64 t609, .string t610] 27 (0, 0)) (by (with_reducible repeat (first | refine blk_drewN ?_ _ | refine blk_drew ?_ | refine blk_alloc ?_ _)); refine blk_put (cs := #[.int .i64 t607, .int .i64 t608, .int .i64 t609, .string (⟨#[]⟩ : ByteArray)]) ?_ 3 _ rfl; (with_reducible repeat (first | refine blk_drewN ?_ _ | refine blk_drew ?_ | refine blk_alloc ?_ _)); refine blk_put (cs := #[.int .i64 t607, .int .i64 t608, .int .i64 0, .string (⟨#[]⟩ : ByteArray)]) ?_ 2 _ rfl; (with_reducible repeat (first | refine blk_drewN ?_ _ | refine blk_drew ?_ | refine blk_alloc ?_ _)); refine blk_put (cs := #[.int .i64 t607, .int .i64 0, .int .i64 0, .string (⟨#[]⟩ : ByteArray)]) ?_ 1 _ rfl; (with_reducible repeat (first | refine blk_drewN ?_ _ | refine blk_drew ?_ | refine blk_alloc ?_ _)); refine blk_put (cs := #[.int .i64 0, .int .i64 0, .int .i64 0, .string (⟨#[]⟩ : ByteArray)]) ?_ 0 _ rfl; (with_reducible repeat (first | refine blk_drewN ?_ _ | refine blk_drew ?_ | refine blk_alloc ?_ _)); exact BK612.out) hb); have n1_ := Aside0.mk (below_step (by repeat (first | (with_reducible first | exact HB.out | apply below_alloc | apply pw_below_drewN | apply below_drew1 | refine below_set ?_ GE612.out) | exact HB.out)) hb); clear BK612; clear HB; have BK612 := n0_; have HB := n1_; clear n0_ n1_; (try clear hb); (try clear hb2); (try clear hk); (try clear hi)) | ((with_reducible refine gate_dst (N := 5) rfl ?_); refine box_event ?hg (N := 5) ?hd (cs := #[.int .i64 0, .int .i64 0, .int .i64 0, .string (⟨#[]⟩ : ByteArray)]) (t := 27) ?hr ?_; (case hd => rfl); (case hg => rfl); (case hr => first | (go_simp; done) | (go_simp; rfl)); intro gb618 hg w12 hbox hb; have n0_ := Aside0.mk (blk_below (g := gb612) (o := .cells #[.int .i64 t607, .int .i64 t608, .int .i64 t609, .string t610] 27 (0, 0)) (by (with_reducible repeat (first | refine blk_drewN ?_ _ | refine blk_drew ?_ | refine blk_alloc ?_ _)); exact BK612.out) hb); have n1_ := Aside0.mk (below_step (by repeat (first | (with_reducible first | exact HB.out | apply below_alloc | apply pw_below_drewN | apply below_drew1 | refine below_set ?_ GE612.out) | exact HB.out)) hb); have n2_ := Aside0.mk (hbox); have n3_ := Aside0.mk ((by rw [hg]; exact (below_size (by repeat (first | (with_reducible first | exact HB.out | apply below_alloc | apply pw_below_drewN | apply below_drew1 | refine below_set ?_ GE612.out) | exact HB.out))) : w.heap.size ≤ gb618)); have n4_ := Aside0.mk ((by rw [hg]; exact (below_size (by repeat (first | (with_reducible first | exact HB.out | apply below_alloc | apply pw_below_drewN | apply below_drew1 | refine below_set ?_ GE612.out) | exact HB.out))) : w.heap.size ≤ gb618)); have n5_ := Aside0.mk ((by rw [hg]; exact Nat.ne_of_lt (blk_lt (g := gb612) (o := .cells #[.int .i64 t607, .int .i64 t608, .int .i64 t609, .string t610] 27 (0, 0)) (by (with_reducible repeat (first | refine blk_drewN ?_ _ | refine blk_drew ?_ | refine blk_alloc ?_ _)); exact BK612.out)) : gb612 ≠ gb618)); have n6_ := Aside0.mk ((by rw [hg]; exact Nat.ne_of_gt (blk_lt (g := gb612) (o := .cells #[.int .i64 t607, .int .i64 t608, .int .i64 t609, .string t610] 27 (0, 0)) (by (with_reducible repeat (first | refine blk_drewN ?_ _ | refine blk_drew ?_ | refine blk_alloc ?_ _)); exact BK612.out)) : gb618 ≠ gb612)); clear BK612; clear HB; have BK612 := n0_; have HB := n1_; have BK618 := n2_; have GW618 := n3_; have GE618 := n4_; have NB612_618 := n5_; have NB618_612 := n6_; clear n0_ n1_ n2_ n3_ n4_ n5_ n6_; clear hb hbox hg; have hnb13 := NB618_612.out; have hnc13 := NB612_618.out; have hcz14_0 : w12.cell? ⟨gb618, 0, none⟩ = some (.int .i64 0) := (blk_cell BK618.out 0).trans rfl; have hcz14_1 : w12.cell? ⟨gb618, 1, none⟩ = some (.int .i64 0) := (blk_cell BK618.out 1).trans rfl; have hcz14_2 : w12.cell? ⟨gb618, 2, none⟩ = some (.int .i64 0) := (blk_cell BK618.out 2).trans rfl; have hcz14_3 : w12.cell? ⟨gb618, 3, none⟩ = some (.string (⟨#[]⟩ : ByteArray)) := (blk_cell BK618.out 3).trans rfl; have hfz14_0 := blk_frozen BK618.out 0; have hfz14_1 := blk_frozen BK618.out 1; have hfz14_2 := blk_frozen BK618.out 2; have hfz14_3 := blk_frozen BK618.out 3; have hcz15_0 : w12.cell? ⟨gb612, 0, none⟩ = some (.int .i64 t607) := (blk_cell BK612.out 0).trans rfl; have hcz15_1 : w12.cell? ⟨gb612, 1, none⟩ = some (.int .i64 t608) := (blk_cell BK612.out 1).trans rfl; have hcz15_2 : w12.cell? ⟨gb612, 2, none⟩ = some (.int .i64 t609) := (blk_cell BK612.out 2).trans rfl; have hcz15_3 : w12.cell? ⟨gb612, 3, none⟩ = some (.string t610) := (blk_cell BK612.out 3).trans rfl; have hfz15_0 := blk_frozen BK612.out 0; have hfz15_1 := blk_frozen BK612.out 1; have hfz15_2 := blk_frozen BK612.out 2; have hfz15_3 := blk_frozen BK612.out 3) | ((with_reducible refine gate_callee (f := 23) rfl ?_); refine goesL_ (some 22) rfl rfl Tryd.func23 (by kernel_rfl) rfl #[.agg #[.int .i64 t613, .int .i64 t614, .int .i64 t615, .string t616], .agg #[.int .i64 t607, .int .i64 t608, .int .i64 t609, .string t610]] rfl (by (try simp only [List.map_toArray, List.map_cons, List.map_nil]); first | done | rfl | (simp only [List.length_drop, List.length_take]; rfl)) ?_; (with_reducible refine (laws_eqVersion.calls t613 t614 t615 t616 t607 t608 t609 t610 true _ A5.out).mono ?_); rintro e w16 ⟨rfl, hb⟩; refine ⟨_, rfl, ?_⟩; have n0_ := Aside0.mk (blk_below (g := gb612) (o := .cells #[.int .i64 t607, .int .i64 t608, .int .i64 t609, .string t610] 27 (0, 0)) (by (with_reducible repeat (first | refine blk_drewN ?_ _ | refine blk_drew ?_ | refine blk_alloc ?_ _)); refine blk_far ?_ NB612_618.out _; (with_reducible repeat (first | refine blk_drewN ?_ _ | refine blk_drew ?_ | refine blk_alloc ?_ _)); refine blk_far ?_ NB612_618.out _; (with_reducible repeat (first | refine blk_drewN ?_ _ | refine blk_drew ?_ | refine blk_alloc ?_ _)); refine blk_far ?_ NB612_618.out _; (with_reducible repeat (first | refine blk_drewN ?_ _ | refine blk_drew ?_ | refine blk_alloc ?_ _)); refine blk_far ?_ NB612_618.out _; (with_reducible repeat (first | refine blk_drewN ?_ _ | refine blk_drew ?_ | refine blk_alloc ?_ _)); exact BK612.out) hb); have n1_ := Aside0.mk (blk_below (g := gb618) (o := .cells #[.int .i64 t613, .int .i64 t614, .int .i64 t615, .string t616] 27 (0, 0)) (by (with_reducible repeat (first | refine blk_drewN ?_ _ | refine blk_drew ?_ | refine blk_alloc ?_ _)); refine blk_put (cs := #[.int .i64 t613, .int .i64 t614, .int .i64 t615, .string (⟨#[]⟩ : ByteArray)]) ?_ 3 _ rfl; (with_reducible repeat (first | refine blk_drewN ?_ _ | refine blk_drew ?_ | refine blk_alloc ?_ _)); refine blk_put (cs := #[.int .i64 t613, .int .i64 t614, .int .i64 0, .string (⟨#[]⟩ : ByteArray)]) ?_ 2 _ rfl; (with_reducible repeat (first | refine blk_drewN ?_ _ | refine blk_drew ?_ | refine blk_alloc ?_ _)); refine blk_put (cs := #[.int .i64 t613, .int .i64 0, .int .i64 0, .string (⟨#[]⟩ : ByteArray)]) ?_ 1 _ rfl; (with_reducible repeat (first | refine blk_drewN ?_ _ | refine blk_drew ?_ | refine blk_alloc ?_ _)); refine blk_put (cs := #[.int .i64 0, .int .i64 0, .int .i64 0, .string (⟨#[]⟩ : ByteArray)]) ?_ 0 _ rfl; (with_reducible repeat (first | refine blk_drewN ?_ _ | refine blk_drew ?_ | refine blk_alloc ?_ _)); exact BK618.out) hb); have n2_ := Aside0.mk (below_step (by repeat (first | (with_reducible first | exact HB.out | apply below_alloc | apply pw_below_drewN | apply below_drew1 | refine below_set ?_ GE612.out | refine below_set ?_ GE618.out) | exact HB.out)) hb); clear BK612; clear BK618; clear HB; have BK612 := n0_; have BK618 := n1_; have HB := n2_; clear n0_ n1_ n2_; (try clear hb); (try clear hb2); (try clear hk); (try clear hi)))
        go_ret
        exact ⟨by first | rfl | (simp [errW_none, errW_some] <;> rfl) | (simp [*, errW_none, errW_some] <;> rfl), by repeat (first | (with_reducible first | exact HB.out | apply below_alloc | apply pw_below_drewN | apply below_drew1 | refine below_set ?_ GE612.out | refine below_set ?_ GE618.out) | exact HB.out)⟩
      · rw [if_neg c7] at H
        have c7b0 : (t617 != t611) = false := by simpa using c7
        (try (have c7b1 : decide (t617 = t611) = true := by simpa using c7))
        (try (have c7b2 : (t617 == t611) = true := by simpa using c7))
        clear c7
        obtain rfl := Option.some.inj H
        go_enter Tryd.func14, Tryd.ntmps14
        go_wp2_with (first | ((with_reducible refine gate_callee (f := 41) rfl ?_); refine goesL_ (some 12) rfl rfl Tryd.func41 (by kernel_rfl) rfl #[.string a0] rfl (by (try simp only [List.map_toArray, List.map_cons, List.map_nil]); first | done | rfl | (simp only [List.length_drop, List.length_take]; rfl)) ?_; (with_reducible refine (spec_ParseVersion.calls k a0 t607 t608 t609 t610 t611 _ A3.out).mono ?_); rintro e w17 ⟨rfl, hb⟩; refine ⟨_, rfl, ?_⟩; have n0_ := Aside0.mk (below_step (by repeat (first | (with_reducible first | exact HB.out | apply below_alloc | apply pw_below_drewN | apply below_drew1) | exact HB.out)) hb); clear HB; have HB := n0_; clear n0_; (try clear hb); (try clear hb2); (try clear hk); (try clear hi)) | ((with_reducible refine gate_dst (N := 3) rfl ?_); refine box_event ?hg (N := 3) ?hd (cs := #[.int .i64 0, .int .i64 0, .int .i64 0, .string (⟨#[]⟩ : ByteArray)]) (t := 27) ?hr ?_; (case hd => rfl); (case hg => rfl); (case hr => first | (go_simp; done) | (go_simp; rfl)); intro gb612 hg w18 hbox hb; have n0_ := Aside0.mk (below_step (by repeat (first | (with_reducible first | exact HB.out | apply below_alloc | apply pw_below_drewN | apply below_drew1) | exact HB.out)) hb); have n1_ := Aside0.mk (hbox); have n2_ := Aside0.mk ((by rw [hg]; exact (below_size (by repeat (first | (with_reducible first | exact HB.out | apply below_alloc | apply pw_below_drewN | apply below_drew1) | exact HB.out))) : w.heap.size ≤ gb612)); have n3_ := Aside0.mk ((by rw [hg]; exact (below_size (by repeat (first | (with_reducible first | exact HB.out | apply below_alloc | apply pw_below_drewN | apply below_drew1) | exact HB.out))) : w.heap.size ≤ gb612)); clear HB; have HB := n0_; have BK612 := n1_; have GW612 := n2_; have GE612 := n3_; clear n0_ n1_ n2_ n3_; clear hb hbox hg; have hcz19_0 : w18.cell? ⟨gb612, 0, none⟩ = some (.int .i64 0) := (blk_cell BK612.out 0).trans rfl; have hcz19_1 : w18.cell? ⟨gb612, 1, none⟩ = some (.int .i64 0) := (blk_cell BK612.out 1).trans rfl; have hcz19_2 : w18.cell? ⟨gb612, 2, none⟩ = some (.int .i64 0) := (blk_cell BK612.out 2).trans rfl; have hcz19_3 : w18.cell? ⟨gb612, 3, none⟩ = some (.string (⟨#[]⟩ : ByteArray)) := (blk_cell BK612.out 3).trans rfl; have hfz19_0 := blk_frozen BK612.out 0; have hfz19_1 := blk_frozen BK612.out 1; have hfz19_2 := blk_frozen BK612.out 2; have hfz19_3 := blk_frozen BK612.out 3) | ((with_reducible refine gate_callee (f := 42) rfl ?_); refine goesL_ (some 17) rfl rfl Tryd.func42 (by kernel_rfl) rfl #[.string a0] rfl (by (try simp only [List.map_toArray, List.map_cons, List.map_nil]); first | done | rfl | (simp only [List.length_drop, List.length_take]; rfl)) ?_; (with_reducible refine (impl_ParseVersion.calls (hG_ := globI_on HG_.out (by repeat (first | (with_reducible first | exact HB.out | apply below_alloc | apply pw_below_drewN | apply below_drew1) | exact HB.out | refine below_set ?_ (Aside0.out (by assumption))))) k a0 t613 t614 t615 t616 t617 _ A4.out).mono ?_); rintro e w20 ⟨rfl, hb⟩; refine ⟨_, rfl, ?_⟩; have n0_ := Aside0.mk (blk_below (g := gb612) (o := .cells #[.int .i64 t607, .int .i64 t608, .int .i64 t609, .string t610] 27 (0, 0)) (by (with_reducible repeat (first | refine blk_drewN ?_ _ | refine blk_drew ?_ | refine blk_alloc ?_ _)); refine blk_put (cs := #[.int .i64 t607, .int .i64 t608, .int .i64 t609, .string (⟨#[]⟩ : ByteArray)]) ?_ 3 _ rfl; (with_reducible repeat (first | refine blk_drewN ?_ _ | refine blk_drew ?_ | refine blk_alloc ?_ _)); refine blk_put (cs := #[.int .i64 t607, .int .i64 t608, .int .i64 0, .string (⟨#[]⟩ : ByteArray)]) ?_ 2 _ rfl; (with_reducible repeat (first | refine blk_drewN ?_ _ | refine blk_drew ?_ | refine blk_alloc ?_ _)); refine blk_put (cs := #[.int .i64 t607, .int .i64 0, .int .i64 0, .string (⟨#[]⟩ : ByteArray)]) ?_ 1 _ rfl; (with_reducible repeat (first | refine blk_drewN ?_ _ | refine blk_drew ?_ | refine blk_alloc ?_ _)); refine blk_put (cs := #[.int .i64 0, .int .i64 0, .int .i64 0, .string (⟨#[]⟩ : ByteArray)]) ?_ 0 _ rfl; (with_reducible repeat (first | refine blk_drewN ?_ _ | refine blk_drew ?_ | refine blk_alloc ?_ _)); exact BK612.out) hb); have n1_ := Aside0.mk (below_step (by repeat (first | (with_reducible first | exact HB.out | apply below_alloc | apply pw_below_drewN | apply below_drew1 | refine below_set ?_ GE612.out) | exact HB.out)) hb); clear BK612; clear HB; have BK612 := n0_; have HB := n1_; clear n0_ n1_; (try clear hb); (try clear hb2); (try clear hk); (try clear hi)) | ((with_reducible refine gate_dst (N := 5) rfl ?_); refine box_event ?hg (N := 5) ?hd (cs := #[.int .i64 0, .int .i64 0, .int .i64 0, .string (⟨#[]⟩ : ByteArray)]) (t := 27) ?hr ?_; (case hd => rfl); (case hg => rfl); (case hr => first | (go_simp; done) | (go_simp; rfl)); intro gb618 hg w21 hbox hb; have n0_ := Aside0.mk (blk_below (g := gb612) (o := .cells #[.int .i64 t607, .int .i64 t608, .int .i64 t609, .string t610] 27 (0, 0)) (by (with_reducible repeat (first | refine blk_drewN ?_ _ | refine blk_drew ?_ | refine blk_alloc ?_ _)); exact BK612.out) hb); have n1_ := Aside0.mk (below_step (by repeat (first | (with_reducible first | exact HB.out | apply below_alloc | apply pw_below_drewN | apply below_drew1 | refine below_set ?_ GE612.out) | exact HB.out)) hb); have n2_ := Aside0.mk (hbox); have n3_ := Aside0.mk ((by rw [hg]; exact (below_size (by repeat (first | (with_reducible first | exact HB.out | apply below_alloc | apply pw_below_drewN | apply below_drew1 | refine below_set ?_ GE612.out) | exact HB.out))) : w.heap.size ≤ gb618)); have n4_ := Aside0.mk ((by rw [hg]; exact (below_size (by repeat (first | (with_reducible first | exact HB.out | apply below_alloc | apply pw_below_drewN | apply below_drew1 | refine below_set ?_ GE612.out) | exact HB.out))) : w.heap.size ≤ gb618)); have n5_ := Aside0.mk ((by rw [hg]; exact Nat.ne_of_lt (blk_lt (g := gb612) (o := .cells #[.int .i64 t607, .int .i64 t608, .int .i64 t609, .string t610] 27 (0, 0)) (by (with_reducible repeat (first | refine blk_drewN ?_ _ | refine blk_drew ?_ | refine blk_alloc ?_ _)); exact BK612.out)) : gb612 ≠ gb618)); have n6_ := Aside0.mk ((by rw [hg]; exact Nat.ne_of_gt (blk_lt (g := gb612) (o := .cells #[.int .i64 t607, .int .i64 t608, .int .i64 t609, .string t610] 27 (0, 0)) (by (with_reducible repeat (first | refine blk_drewN ?_ _ | refine blk_drew ?_ | refine blk_alloc ?_ _)); exact BK612.out)) : gb618 ≠ gb612)); clear BK612; clear HB; have BK612 := n0_; have HB := n1_; have BK618 := n2_; have GW618 := n3_; have GE618 := n4_; have NB612_618 := n5_; have NB618_612 := n6_; clear n0_ n1_ n2_ n3_ n4_ n5_ n6_; clear hb hbox hg; have hnb22 := NB618_612.out; have hnc22 := NB612_618.out; have hcz23_0 : w21.cell? ⟨gb618, 0, none⟩ = some (.int .i64 0) := (blk_cell BK618.out 0).trans rfl; have hcz23_1 : w21.cell? ⟨gb618, 1, none⟩ = some (.int .i64 0) := (blk_cell BK618.out 1).trans rfl; have hcz23_2 : w21.cell? ⟨gb618, 2, none⟩ = some (.int .i64 0) := (blk_cell BK618.out 2).trans rfl; have hcz23_3 : w21.cell? ⟨gb618, 3, none⟩ = some (.string (⟨#[]⟩ : ByteArray)) := (blk_cell BK618.out 3).trans rfl; have hfz23_0 := blk_frozen BK618.out 0; have hfz23_1 := blk_frozen BK618.out 1; have hfz23_2 := blk_frozen BK618.out 2; have hfz23_3 := blk_frozen BK618.out 3; have hcz24_0 : w21.cell? ⟨gb612, 0, none⟩ = some (.int .i64 t607) := (blk_cell BK612.out 0).trans rfl; have hcz24_1 : w21.cell? ⟨gb612, 1, none⟩ = some (.int .i64 t608) := (blk_cell BK612.out 1).trans rfl; have hcz24_2 : w21.cell? ⟨gb612, 2, none⟩ = some (.int .i64 t609) := (blk_cell BK612.out 2).trans rfl; have hcz24_3 : w21.cell? ⟨gb612, 3, none⟩ = some (.string t610) := (blk_cell BK612.out 3).trans rfl; have hfz24_0 := blk_frozen BK612.out 0; have hfz24_1 := blk_frozen BK612.out 1; have hfz24_2 := blk_frozen BK612.out 2; have hfz24_3 := blk_frozen BK612.out 3) | ((with_reducible refine gate_callee (f := 23) rfl ?_); refine goesL_ (some 22) rfl rfl Tryd.func23 (by kernel_rfl) rfl #[.agg #[.int .i64 t613, .int .i64 t614, .int .i64 t615, .string t616], .agg #[.int .i64 t607, .int .i64 t608, .int .i64 t609, .string t610]] rfl (by (try simp only [List.map_toArray, List.map_cons, List.map_nil]); first | done | rfl | (simp only [List.length_drop, List.length_take]; rfl)) ?_; (with_reducible refine (laws_eqVersion.calls t613 t614 t615 t616 t607 t608 t609 t610 true _ A5.out).mono ?_); rintro e w25 ⟨rfl, hb⟩; refine ⟨_, rfl, ?_⟩; have n0_ := Aside0.mk (blk_below (g := gb612) (o := .cells #[.int .i64 t607, .int .i64 t608, .int .i64 t609, .string t610] 27 (0, 0)) (by (with_reducible repeat (first | refine blk_drewN ?_ _ | refine blk_drew ?_ | refine blk_alloc ?_ _)); refine blk_far ?_ NB612_618.out _; (with_reducible repeat (first | refine blk_drewN ?_ _ | refine blk_drew ?_ | refine blk_alloc ?_ _)); refine blk_far ?_ NB612_618.out _; (with_reducible repeat (first | refine blk_drewN ?_ _ | refine blk_drew ?_ | refine blk_alloc ?_ _)); refine blk_far ?_ NB612_618.out _; (with_reducible repeat (first | refine blk_drewN ?_ _ | refine blk_drew ?_ | refine blk_alloc ?_ _)); refine blk_far ?_ NB612_618.out _; (with_reducible repeat (first | refine blk_drewN ?_ _ | refine blk_drew ?_ | refine blk_alloc ?_ _)); exact BK612.out) hb); have n1_ := Aside0.mk (blk_below (g := gb618) (o := .cells #[.int .i64 t613, .int .i64 t614, .int .i64 t615, .string t616] 27 (0, 0)) (by (with_reducible repeat (first | refine blk_drewN ?_ _ | refine blk_drew ?_ | refine blk_alloc ?_ _)); refine blk_put (cs := #[.int .i64 t613, .int .i64 t614, .int .i64 t615, .string (⟨#[]⟩ : ByteArray)]) ?_ 3 _ rfl; (with_reducible repeat (first | refine blk_drewN ?_ _ | refine blk_drew ?_ | refine blk_alloc ?_ _)); refine blk_put (cs := #[.int .i64 t613, .int .i64 t614, .int .i64 0, .string (⟨#[]⟩ : ByteArray)]) ?_ 2 _ rfl; (with_reducible repeat (first | refine blk_drewN ?_ _ | refine blk_drew ?_ | refine blk_alloc ?_ _)); refine blk_put (cs := #[.int .i64 t613, .int .i64 0, .int .i64 0, .string (⟨#[]⟩ : ByteArray)]) ?_ 1 _ rfl; (with_reducible repeat (first | refine blk_drewN ?_ _ | refine blk_drew ?_ | refine blk_alloc ?_ _)); refine blk_put (cs := #[.int .i64 0, .int .i64 0, .int .i64 0, .string (⟨#[]⟩ : ByteArray)]) ?_ 0 _ rfl; (with_reducible repeat (first | refine blk_drewN ?_ _ | refine blk_drew ?_ | refine blk_alloc ?_ _)); exact BK618.out) hb); have n2_ := Aside0.mk (below_step (by repeat (first | (with_reducible first | exact HB.out | apply below_alloc | apply pw_below_drewN | apply below_drew1 | refine below_set ?_ GE612.out | refine below_set ?_ GE618.out) | exact HB.out)) hb); clear BK612; clear BK618; clear HB; have BK612 := n0_; have BK618 := n1_; have HB := n2_; clear n0_ n1_ n2_; (try clear hb); (try clear hb2); (try clear hk); (try clear hi)))
        go_ret
        exact ⟨by first | rfl | (simp [errW_none, errW_some] <;> rfl) | (simp [*, errW_none, errW_some] <;> rfl), by repeat (first | (with_reducible first | exact HB.out | apply below_alloc | apply pw_below_drewN | apply below_drew1 | refine below_set ?_ GE612.out | refine below_set ?_ GE618.out) | exact HB.out)⟩
    · replace c6 := Bool.eq_false_iff.mpr c6
      subst c6
      have H1 : (some false) = some r := by rw [if_neg (show ¬ (false = true) by decide)] at H; exact H
      clear H
      have H := H1
      clear H1
      obtain rfl := Option.some.inj H
      go_enter Tryd.func14, Tryd.ntmps14
      go_wp2_with (first | ((with_reducible refine gate_callee (f := 41) rfl ?_); refine goesL_ (some 12) rfl rfl Tryd.func41 (by kernel_rfl) rfl #[.string a0] rfl (by (try simp only [List.map_toArray, List.map_cons, List.map_nil]); first | done | rfl | (simp only [List.length_drop, List.length_take]; rfl)) ?_; (with_reducible refine (spec_ParseVersion.calls k a0 t607 t608 t609 t610 t611 _ A3.out).mono ?_); rintro e w26 ⟨rfl, hb⟩; refine ⟨_, rfl, ?_⟩; have n0_ := Aside0.mk (below_step (by repeat (first | (with_reducible first | exact HB.out | apply below_alloc | apply pw_below_drewN | apply below_drew1) | exact HB.out)) hb); clear HB; have HB := n0_; clear n0_; (try clear hb); (try clear hb2); (try clear hk); (try clear hi)) | ((with_reducible refine gate_dst (N := 3) rfl ?_); refine box_event ?hg (N := 3) ?hd (cs := #[.int .i64 0, .int .i64 0, .int .i64 0, .string (⟨#[]⟩ : ByteArray)]) (t := 27) ?hr ?_; (case hd => rfl); (case hg => rfl); (case hr => first | (go_simp; done) | (go_simp; rfl)); intro gb612 hg w27 hbox hb; have n0_ := Aside0.mk (below_step (by repeat (first | (with_reducible first | exact HB.out | apply below_alloc | apply pw_below_drewN | apply below_drew1) | exact HB.out)) hb); have n1_ := Aside0.mk (hbox); have n2_ := Aside0.mk ((by rw [hg]; exact (below_size (by repeat (first | (with_reducible first | exact HB.out | apply below_alloc | apply pw_below_drewN | apply below_drew1) | exact HB.out))) : w.heap.size ≤ gb612)); have n3_ := Aside0.mk ((by rw [hg]; exact (below_size (by repeat (first | (with_reducible first | exact HB.out | apply below_alloc | apply pw_below_drewN | apply below_drew1) | exact HB.out))) : w.heap.size ≤ gb612)); clear HB; have HB := n0_; have BK612 := n1_; have GW612 := n2_; have GE612 := n3_; clear n0_ n1_ n2_ n3_; clear hb hbox hg; have hcz28_0 : w27.cell? ⟨gb612, 0, none⟩ = some (.int .i64 0) := (blk_cell BK612.out 0).trans rfl; have hcz28_1 : w27.cell? ⟨gb612, 1, none⟩ = some (.int .i64 0) := (blk_cell BK612.out 1).trans rfl; have hcz28_2 : w27.cell? ⟨gb612, 2, none⟩ = some (.int .i64 0) := (blk_cell BK612.out 2).trans rfl; have hcz28_3 : w27.cell? ⟨gb612, 3, none⟩ = some (.string (⟨#[]⟩ : ByteArray)) := (blk_cell BK612.out 3).trans rfl; have hfz28_0 := blk_frozen BK612.out 0; have hfz28_1 := blk_frozen BK612.out 1; have hfz28_2 := blk_frozen BK612.out 2; have hfz28_3 := blk_frozen BK612.out 3) | ((with_reducible refine gate_callee (f := 42) rfl ?_); refine goesL_ (some 17) rfl rfl Tryd.func42 (by kernel_rfl) rfl #[.string a0] rfl (by (try simp only [List.map_toArray, List.map_cons, List.map_nil]); first | done | rfl | (simp only [List.length_drop, List.length_take]; rfl)) ?_; (with_reducible refine (impl_ParseVersion.calls (hG_ := globI_on HG_.out (by repeat (first | (with_reducible first | exact HB.out | apply below_alloc | apply pw_below_drewN | apply below_drew1) | exact HB.out | refine below_set ?_ (Aside0.out (by assumption))))) k a0 t613 t614 t615 t616 t617 _ A4.out).mono ?_); rintro e w29 ⟨rfl, hb⟩; refine ⟨_, rfl, ?_⟩; have n0_ := Aside0.mk (blk_below (g := gb612) (o := .cells #[.int .i64 t607, .int .i64 t608, .int .i64 t609, .string t610] 27 (0, 0)) (by (with_reducible repeat (first | refine blk_drewN ?_ _ | refine blk_drew ?_ | refine blk_alloc ?_ _)); refine blk_put (cs := #[.int .i64 t607, .int .i64 t608, .int .i64 t609, .string (⟨#[]⟩ : ByteArray)]) ?_ 3 _ rfl; (with_reducible repeat (first | refine blk_drewN ?_ _ | refine blk_drew ?_ | refine blk_alloc ?_ _)); refine blk_put (cs := #[.int .i64 t607, .int .i64 t608, .int .i64 0, .string (⟨#[]⟩ : ByteArray)]) ?_ 2 _ rfl; (with_reducible repeat (first | refine blk_drewN ?_ _ | refine blk_drew ?_ | refine blk_alloc ?_ _)); refine blk_put (cs := #[.int .i64 t607, .int .i64 0, .int .i64 0, .string (⟨#[]⟩ : ByteArray)]) ?_ 1 _ rfl; (with_reducible repeat (first | refine blk_drewN ?_ _ | refine blk_drew ?_ | refine blk_alloc ?_ _)); refine blk_put (cs := #[.int .i64 0, .int .i64 0, .int .i64 0, .string (⟨#[]⟩ : ByteArray)]) ?_ 0 _ rfl; (with_reducible repeat (first | refine blk_drewN ?_ _ | refine blk_drew ?_ | refine blk_alloc ?_ _)); exact BK612.out) hb); have n1_ := Aside0.mk (below_step (by repeat (first | (with_reducible first | exact HB.out | apply below_alloc | apply pw_below_drewN | apply below_drew1 | refine below_set ?_ GE612.out) | exact HB.out)) hb); clear BK612; clear HB; have BK612 := n0_; have HB := n1_; clear n0_ n1_; (try clear hb); (try clear hb2); (try clear hk); (try clear hi)) | ((with_reducible refine gate_dst (N := 5) rfl ?_); refine box_event ?hg (N := 5) ?hd (cs := #[.int .i64 0, .int .i64 0, .int .i64 0, .string (⟨#[]⟩ : ByteArray)]) (t := 27) ?hr ?_; (case hd => rfl); (case hg => rfl); (case hr => first | (go_simp; done) | (go_simp; rfl)); intro gb618 hg w30 hbox hb; have n0_ := Aside0.mk (blk_below (g := gb612) (o := .cells #[.int .i64 t607, .int .i64 t608, .int .i64 t609, .string t610] 27 (0, 0)) (by (with_reducible repeat (first | refine blk_drewN ?_ _ | refine blk_drew ?_ | refine blk_alloc ?_ _)); exact BK612.out) hb); have n1_ := Aside0.mk (below_step (by repeat (first | (with_reducible first | exact HB.out | apply below_alloc | apply pw_below_drewN | apply below_drew1 | refine below_set ?_ GE612.out) | exact HB.out)) hb); have n2_ := Aside0.mk (hbox); have n3_ := Aside0.mk ((by rw [hg]; exact (below_size (by repeat (first | (with_reducible first | exact HB.out | apply below_alloc | apply pw_below_drewN | apply below_drew1 | refine below_set ?_ GE612.out) | exact HB.out))) : w.heap.size ≤ gb618)); have n4_ := Aside0.mk ((by rw [hg]; exact (below_size (by repeat (first | (with_reducible first | exact HB.out | apply below_alloc | apply pw_below_drewN | apply below_drew1 | refine below_set ?_ GE612.out) | exact HB.out))) : w.heap.size ≤ gb618)); have n5_ := Aside0.mk ((by rw [hg]; exact Nat.ne_of_lt (blk_lt (g := gb612) (o := .cells #[.int .i64 t607, .int .i64 t608, .int .i64 t609, .string t610] 27 (0, 0)) (by (with_reducible repeat (first | refine blk_drewN ?_ _ | refine blk_drew ?_ | refine blk_alloc ?_ _)); exact BK612.out)) : gb612 ≠ gb618)); have n6_ := Aside0.mk ((by rw [hg]; exact Nat.ne_of_gt (blk_lt (g := gb612) (o := .cells #[.int .i64 t607, .int .i64 t608, .int .i64 t609, .string t610] 27 (0, 0)) (by (with_reducible repeat (first | refine blk_drewN ?_ _ | refine blk_drew ?_ | refine blk_alloc ?_ _)); exact BK612.out)) : gb618 ≠ gb612)); clear BK612; clear HB; have BK612 := n0_; have HB := n1_; have BK618 := n2_; have GW618 := n3_; have GE618 := n4_; have NB612_618 := n5_; have NB618_612 := n6_; clear n0_ n1_ n2_ n3_ n4_ n5_ n6_; clear hb hbox hg; have hnb31 := NB618_612.out; have hnc31 := NB612_618.out; have hcz32_0 : w30.cell? ⟨gb618, 0, none⟩ = some (.int .i64 0) := (blk_cell BK618.out 0).trans rfl; have hcz32_1 : w30.cell? ⟨gb618, 1, none⟩ = some (.int .i64 0) := (blk_cell BK618.out 1).trans rfl; have hcz32_2 : w30.cell? ⟨gb618, 2, none⟩ = some (.int .i64 0) := (blk_cell BK618.out 2).trans rfl; have hcz32_3 : w30.cell? ⟨gb618, 3, none⟩ = some (.string (⟨#[]⟩ : ByteArray)) := (blk_cell BK618.out 3).trans rfl; have hfz32_0 := blk_frozen BK618.out 0; have hfz32_1 := blk_frozen BK618.out 1; have hfz32_2 := blk_frozen BK618.out 2; have hfz32_3 := blk_frozen BK618.out 3; have hcz33_0 : w30.cell? ⟨gb612, 0, none⟩ = some (.int .i64 t607) := (blk_cell BK612.out 0).trans rfl; have hcz33_1 : w30.cell? ⟨gb612, 1, none⟩ = some (.int .i64 t608) := (blk_cell BK612.out 1).trans rfl; have hcz33_2 : w30.cell? ⟨gb612, 2, none⟩ = some (.int .i64 t609) := (blk_cell BK612.out 2).trans rfl; have hcz33_3 : w30.cell? ⟨gb612, 3, none⟩ = some (.string t610) := (blk_cell BK612.out 3).trans rfl; have hfz33_0 := blk_frozen BK612.out 0; have hfz33_1 := blk_frozen BK612.out 1; have hfz33_2 := blk_frozen BK612.out 2; have hfz33_3 := blk_frozen BK612.out 3) | ((with_reducible refine gate_callee (f := 23) rfl ?_); refine goesL_ (some 22) rfl rfl Tryd.func23 (by kernel_rfl) rfl #[.agg #[.int .i64 t613, .int .i64 t614, .int .i64 t615, .string t616], .agg #[.int .i64 t607, .int .i64 t608, .int .i64 t609, .string t610]] rfl (by (try simp only [List.map_toArray, List.map_cons, List.map_nil]); first | done | rfl | (simp only [List.length_drop, List.length_take]; rfl)) ?_; (with_reducible refine (laws_eqVersion.calls t613 t614 t615 t616 t607 t608 t609 t610 false _ A5.out).mono ?_); rintro e w34 ⟨rfl, hb⟩; refine ⟨_, rfl, ?_⟩; have n0_ := Aside0.mk (blk_below (g := gb612) (o := .cells #[.int .i64 t607, .int .i64 t608, .int .i64 t609, .string t610] 27 (0, 0)) (by (with_reducible repeat (first | refine blk_drewN ?_ _ | refine blk_drew ?_ | refine blk_alloc ?_ _)); refine blk_far ?_ NB612_618.out _; (with_reducible repeat (first | refine blk_drewN ?_ _ | refine blk_drew ?_ | refine blk_alloc ?_ _)); refine blk_far ?_ NB612_618.out _; (with_reducible repeat (first | refine blk_drewN ?_ _ | refine blk_drew ?_ | refine blk_alloc ?_ _)); refine blk_far ?_ NB612_618.out _; (with_reducible repeat (first | refine blk_drewN ?_ _ | refine blk_drew ?_ | refine blk_alloc ?_ _)); refine blk_far ?_ NB612_618.out _; (with_reducible repeat (first | refine blk_drewN ?_ _ | refine blk_drew ?_ | refine blk_alloc ?_ _)); exact BK612.out) hb); have n1_ := Aside0.mk (blk_below (g := gb618) (o := .cells #[.int .i64 t613, .int .i64 t614, .int .i64 t615, .string t616] 27 (0, 0)) (by (with_reducible repeat (first | refine blk_drewN ?_ _ | refine blk_drew ?_ | refine blk_alloc ?_ _)); refine blk_put (cs := #[.int .i64 t613, .int .i64 t614, .int .i64 t615, .string (⟨#[]⟩ : ByteArray)]) ?_ 3 _ rfl; (with_reducible repeat (first | refine blk_drewN ?_ _ | refine blk_drew ?_ | refine blk_alloc ?_ _)); refine blk_put (cs := #[.int .i64 t613, .int .i64 t614, .int .i64 0, .string (⟨#[]⟩ : ByteArray)]) ?_ 2 _ rfl; (with_reducible repeat (first | refine blk_drewN ?_ _ | refine blk_drew ?_ | refine blk_alloc ?_ _)); refine blk_put (cs := #[.int .i64 t613, .int .i64 0, .int .i64 0, .string (⟨#[]⟩ : ByteArray)]) ?_ 1 _ rfl; (with_reducible repeat (first | refine blk_drewN ?_ _ | refine blk_drew ?_ | refine blk_alloc ?_ _)); refine blk_put (cs := #[.int .i64 0, .int .i64 0, .int .i64 0, .string (⟨#[]⟩ : ByteArray)]) ?_ 0 _ rfl; (with_reducible repeat (first | refine blk_drewN ?_ _ | refine blk_drew ?_ | refine blk_alloc ?_ _)); exact BK618.out) hb); have n2_ := Aside0.mk (below_step (by repeat (first | (with_reducible first | exact HB.out | apply below_alloc | apply pw_below_drewN | apply below_drew1 | refine below_set ?_ GE612.out | refine below_set ?_ GE618.out) | exact HB.out)) hb); clear BK612; clear BK618; clear HB; have BK612 := n0_; have BK618 := n1_; have HB := n2_; clear n0_ n1_ n2_; (try clear hb); (try clear hb2); (try clear hk); (try clear hi)))
      go_ret
      exact ⟨by first | rfl | (simp [errW_none, errW_some] <;> rfl) | (simp [*, errW_none, errW_some] <;> rfl), by repeat (first | (with_reducible first | exact HB.out | apply below_alloc | apply pw_below_drewN | apply below_drew1 | refine below_set ?_ GE612.out | refine below_set ?_ GE618.out) | exact HB.out)⟩

/-- THE ONE PURE STATEMENT of laws_FnExactParseVersion: yours. -/
def laws_FnExactParseVersion.Pure : Prop := ∀ (a0 : ByteArray), a0.size ≤ 140737488351232 → ∃ k, laws_FnExactParseVersion.f k a0 = some true
theorem laws_FnExactParseVersion.walk (P : laws_FnExactParseVersion.Pure) (a0 : ByteArray) (w : World) (hG_ : GlobI w) (w0 : a0.size ≤ 140737488351232) :
    Calls Tryd.prog 14 #[.string a0] w fun e w' => e = .returned (.bool true) ∧ Below w.heap.size w w' := by
  obtain ⟨k, h⟩ := P a0 w0
  refine (laws_FnExactParseVersion.calls (hG_ := hG_) k a0 true w h).mono ?_
  rintro e w' ⟨rfl, hd⟩
  exact ⟨rfl, hd⟩

end Go.Proofs.YtagbldaiedmikaaDoor.X

/- Plain lemmas for what the printed functions compute: enough rounds ('Ev'), tests, bounds of whole numbers, lists. No Go, no memory. -/
set_option linter.unusedVariables false
namespace Go.Proofs.YtagbldaiedmikaaDoor.Z
open Go.RowKit Go.Proofs.YtagbldaiedmikaaDoorW.PrintWords Go.Proofs.YtagbldaiedmikaaDoorW.PrintMore

theorem evT {α : Type} {c : Prop} [Decidable c] {f g : Nat → Option α} {r : α} (h : c) (H : Ev f r) : Ev (fun k => if c then f k else g k) r := by
  obtain ⟨K, hK⟩ := H
  exact ⟨K, fun k hk => (if_pos h).trans (hK k hk)⟩
theorem evF {α : Type} {c : Prop} [Decidable c] {f g : Nat → Option α} {r : α} (h : ¬ c) (H : Ev g r) : Ev (fun k => if c then f k else g k) r := by
  obtain ⟨K, hK⟩ := H
  exact ⟨K, fun k hk => (if_neg h).trans (hK k hk)⟩
theorem evI {α : Type} {c : Prop} [Decidable c] {f g : Nat → Option α} {r : α} (H : c → Ev f r) (H' : ¬ c → Ev g r) : Ev (fun k => if c then f k else g k) r := by
  by_cases h : c
  · exact evT h (H h)
  · exact evF h (H' h)
theorem evB {α β : Type} {g : Nat → Option α} {f : Nat → α → Option β} {a : α} {r : β} (h : Ev g a) (k : Ev (fun n => f n a) r) : Ev (fun n => (g n).bind (f n)) r := Ev.bind h k
theorem evR {α : Type} {r r' : α} (h : r = r') : Ev (fun _ => some r) r' := h ▸ Ev.now r
/-- A callee without rounds. -/
theorem evC {α β : Type} {x : Option α} {f : Nat → α → Option β} {a : α} {r : β} (h : x = some a) (k : Ev (fun n => f n a) r) : Ev (fun n => x.bind (f n)) r := by
  subst h
  exact k
theorem evS {α : Type} {g f : Nat → Option α} {r : α} (h : ∀ k, g (k + 1) = f k) (k : Ev f r) : Ev g r := Ev.step h k
theorem evE {α : Type} {g : Nat → Option α} {r r' : α} (h : r = r') (k : Ev g r) : Ev g r' := h ▸ k
/-- Two answers of one function are one. -/
theorem ev_one {α : Type} {g : Nat → Option α} {r r' : α} (h : Ev g r) (h' : Ev g r') : r = r' := by
  obtain ⟨K, hK⟩ := h
  obtain ⟨L, hL⟩ := h'
  have a := hK (max K L) (Nat.le_max_left _ _)
  have b := hL (max K L) (Nat.le_max_right _ _)
  rw [a] at b
  exact Option.some.inj b

theorem w64 {x : Int} (h : -9223372036854775808 ≤ x ∧ x ≤ 9223372036854775807) : wrap64 x = x := by unfold wrap64; omega
theorem w64s {i n : Nat} (h : i < n) (hn : n ≤ 9223372036854775807) : wrap64 ((i : Int) + 1) = ((i + 1 : Nat) : Int) := by unfold wrap64; omega
theorem wu64 {x : Int} (h : 0 ≤ x ∧ x ≤ 18446744073709551615) : IntKind.u64.wrap x = x := by
  simp [IntKind.wrap, IntKind.bits, IntKind.signed]
  omega
theorem wi64 (x : Int) : IntKind.i64.wrap x = wrap64 x := by rw [Go.IntKind.wrap_i64]; unfold wrap64; rfl
theorem wraps_i64 (n : Int) (h₀ : 0 ≤ n) (h₁ : n < 2 ^ 63) : IntKind.i64.wrap n = n := by
  rw [wi64, w64]
  have : (2 : Int) ^ 63 = 9223372036854775808 := by decide
  omega

/-- Two lists that tell the same at each place. -/
theorem ext_get {α : Type} {l m : List α} (hn : l.length = m.length) (h : ∀ j, j < m.length → l[j]? = m[j]?) : l = m := by
  apply List.ext_getElem?
  intro j
  rcases Nat.lt_or_ge j m.length with hj | hj
  · exact h j hj
  · rw [List.getElem?_eq_none (by omega), List.getElem?_eq_none (by omega)]
theorem rd_get {l : List Int} {i : Nat} (h : i < l.length) : l[i]? = some (rd l (i : Int)) := by
  simp [rd, List.getElem?_eq_getElem h]
theorem rdOf_get {α : Type} {d : α} {l : List α} {i : Nat} (h : i < l.length) : l[i]? = some (rdOf d l (i : Int)) := by
  simp [rdOf, List.getElem?_eq_getElem h]
/-- A place that is written as it must be: one more place tells the same. -/
theorem set_next {α : Type} {l m : List α} {i : Nat} {x : α} (hn : l.length = m.length) (hi : i < m.length) (hx : m[i]? = some x) (h : ∀ j, j < i → l[j]? = m[j]?) : ∀ j, j < i + 1 → (l.set i x)[j]? = m[j]? := by
  intro j hj
  rcases Nat.lt_or_ge j i with h1 | h1
  · rw [List.getElem?_set_ne (by omega)]
    exact h j h1
  · obtain rfl : i = j := by omega
    rw [List.getElem?_set_self (by omega), hx]
end Go.Proofs.YtagbldaiedmikaaDoor.Z

/- Strings as lists of bytes. No Go, no memory. -/
set_option linter.unusedVariables false
namespace Go.Proofs.YtagbldaiedmikaaDoor.Z
open Go.RowKit Go.Proofs.YtagbldaiedmikaaDoorW.PrintWords Go.Proofs.YtagbldaiedmikaaDoorW.PrintMore
theorem tl_loop (a : ByteArray) (d : Nat) : ∀ i r, a.size = i + d → ByteArray.toList.loop a i r = r.reverse ++ a.data.toList.drop i := by
  have h2 := data_length a
  induction d with
  | zero =>
    intro i r h
    unfold ByteArray.toList.loop
    rw [if_neg (by omega), List.drop_eq_nil_of_le (by omega), List.append_nil]
  | succ d ih =>
    intro i r h
    unfold ByteArray.toList.loop
    rw [if_pos (by omega), ih (i + 1) _ (by omega)]
    have hi : i < a.data.size := by
      have : a.data.size = a.size := rfl
      omega
    rw [List.drop_eq_getElem_cons (i := i) (by simpa using hi)]
    simp [ByteArray.get!]
    exact getElem!_pos a.data i hi
theorem tl (a : ByteArray) : a.toList = a.data.toList := by
  unfold ByteArray.toList
  rw [tl_loop a a.size 0 [] (by omega)]
  simp
theorem tl_inj {a b : ByteArray} : a.toList = b.toList ↔ a = b := by
  constructor
  · intro h
    rw [tl, tl] at h
    have h1 : a.data = b.data := Array.toList_inj.1 h
    cases a
    cases b
    simp_all
  · rintro rfl
    rfl

end Go.Proofs.YtagbldaiedmikaaDoor.Z

/- Ranges, the program's and the reference's: the same. Plain lemmas. -/
set_option linter.unusedVariables false
namespace Go.Proofs.YtagbldaiedmikaaDoor.Z
open Go.RowKit Go.Proofs.YtagbldaiedmikaaDoorW.PrintWords Go.Proofs.YtagbldaiedmikaaDoorW.PrintMore Go.Proofs.YtagbldaiedmikaaDoor.X
theorem rng_impl (a b c : Int) : impl_inRange.f a b c = some (decide (b ≤ a ∧ a ≤ c)) := by
  unfold impl_inRange.f
  by_cases h : a ≥ b
  · rw [if_pos h]
    simp [show b ≤ a from h]
  · rw [if_neg h]
    simp [show ¬ b ≤ a from h]
theorem rng_spec (a b c : Int) : spec_l1In.f a b c = some (decide (b ≤ a ∧ a ≤ c)) := by
  unfold spec_l1In.f
  by_cases h : a ≥ b
  · rw [if_pos h]
    simp [show b ≤ a from h]
  · rw [if_neg h]
    simp [show ¬ b ≤ a from h]
end Go.Proofs.YtagbldaiedmikaaDoor.Z

/- A text's pieces, the reference's: those between the bytes. Plain lemmas. -/
set_option linter.unusedVariables false
namespace Go.Proofs.YtagbldaiedmikaaDoor.Z
open Go.RowKit Go.Proofs.YtagbldaiedmikaaDoorW.PrintWords Go.Proofs.YtagbldaiedmikaaDoorW.PrintMore Go.Proofs.YtagbldaiedmikaaDoor.X Go.Proofs.YtagbldaiedmikaaDoor.Sp
theorem byte_at (s : ByteArray) (i : Nat) (h : i < s.size) : bt s (i : Int) = ((s.data.toList[i]'(by rw [data_length]; exact h)).toNat : Int) := by
  have := rd_bytesOf s (i : Int)
  rw [← this]
  unfold rd bytesOf
  simp [List.getD_eq_getElem?_getD, h]
theorem ext_list (s : ByteArray) (f i : Nat) : s.extract f i = ⟨((s.data.toList.drop f).take (i - f)).toArray⟩ := by
  have h : (s.extract f i).data.toList = (s.data.toList.drop f).take (i - f) := by
    simp [ByteArray.data_extract, List.extract_eq_take_drop]
  cases hx : s.extract f i with
  | mk d =>
    rw [hx] at h
    congr 1
    rw [← h]
/-- The pieces, bytes more ahead of the first. -/
def pcsF (pre : List UInt8) (c : UInt8) (l : List UInt8) : List (List UInt8) :=
  match pcs c l with
  | [] => [pre]
  | h :: t => (pre ++ h) :: t
theorem pcs_ne (c : UInt8) (l : List UInt8) : pcs c l ≠ [] := fun h => by
  have := pcs_length c l
  rw [h] at this
  simp at this
theorem pcsF_nil (c : UInt8) (l : List UInt8) : pcsF [] c l = pcs c l := by
  unfold pcsF
  cases h : pcs c l with
  | nil => exact absurd h (pcs_ne c l)
  | cons a t => rfl
theorem pcsF_eq (pre : List UInt8) (c : UInt8) (l : List UInt8) : pcsF pre c (c :: l) = pre :: pcsF [] c l := by
  rw [pcsF_nil]
  unfold pcsF
  rw [pcs, if_pos rfl]
  simp
theorem pcsF_ne (pre : List UInt8) (b c : UInt8) (l : List UInt8) (h : b ≠ c) : pcsF pre c (b :: l) = pcsF (pre ++ [b]) c l := by
  unfold pcsF
  rw [pcs, if_neg h]
  cases hp : pcs c l with
  | nil => exact absurd hp (pcs_ne c l)
  | cons a t => simp [onto]
theorem pcsF_end (pre : List UInt8) (c : UInt8) : pcsF pre c [] = [pre] := by simp [pcsF, pcs]
def toB (l : List UInt8) : ByteArray := ⟨l.toArray⟩
theorem split_l0 (s : ByteArray) (hs : s.size ≤ 1048576) (c : UInt8) (d : Nat) : ∀ (i f : Nat) (out : List ByteArray), i + d = s.size → f ≤ i → out.length + d ≤ 1048577 →
    Ev (fun k => spec_l3Split.l0 k s (c.toNat : Int) out (f : Int) (i : Int)) (out ++ (pcsF ((s.data.toList.drop f).take (i - f)) c (s.data.toList.drop i)).map toB) := by
  induction d with
  | zero =>
    intro i f out hi hf ho
    rw [List.drop_eq_nil_of_le (show s.data.toList.length ≤ i by rw [data_length]; omega), pcsF_end]
    refine evS (fun k => by rw [spec_l3Split.l0]) ?_
    rw [w64s (show i < 1048577 by omega) (by omega), show ((f : Nat) : Int).toNat = f by omega, show ((i : Nat) : Int).toNat = i by omega, ext_list]
    refine evT (by omega) (evT (by omega) (evT (by omega) (evT (by omega) (evT (by omega) ?_))))
    refine evS (fun k => by rw [spec_l3Split.l0]) ?_
    exact evF (by omega) (evR rfl)
  | succ d ih =>
    intro i f out hi hf ho
    have hl : i < s.data.toList.length := by rw [data_length]; omega
    have hb := byte_at s i (by omega)
    rw [List.drop_eq_getElem_cons hl]
    refine evS (fun k => by rw [spec_l3Split.l0]) ?_
    rw [w64s (show i < 1048577 by omega) (by omega), show ((f : Nat) : Int).toNat = f by omega, show ((i : Nat) : Int).toNat = i by omega, hb, ext_list]
    refine evT (by omega) (evF (by omega) (evT (by omega) (evT (by omega) ?_)))
    by_cases hc : s.data.toList[i] = c
    · refine evT (by rw [hc]) (evT (by omega) (evT (by omega) (evT (by omega) ?_)))
      refine evE ?_ (ih (i + 1) (i + 1) _ (by omega) (Nat.le_refl _) (by simp; omega))
      rw [hc, pcsF_eq, Nat.sub_self, List.take_zero]
      simp [toB]
    · refine evF (fun e => hc (UInt8.toNat_inj.1 (by omega))) ?_
      refine evE ?_ (ih (i + 1) f out (by omega) (by omega) (by omega))
      rw [pcsF_ne _ _ _ _ hc]
      congr 3
      have hl2 : i - f < (s.data.toList.drop f).length := by rw [List.length_drop]; omega
      rw [show i + 1 - f = (i - f) + 1 by omega, List.take_succ_eq_append_getElem hl2]
      congr 2
      rw [List.getElem_drop]
      congr 1
      omega
theorem split_spec (s : ByteArray) (hs : s.size ≤ 1048576) (c : UInt8) : Ev (fun k => spec_l3Split.f k s (c.toNat : Int)) (pieces c s) := by
  have h := split_l0 s hs c s.size 0 0 [] (by omega) (Nat.le_refl _) (by simp; omega)
  rw [Nat.sub_self, List.take_zero, List.drop_zero, pcsF_nil, List.nil_append] at h
  exact h
theorem pcs_mem (c : UInt8) : ∀ (l : List UInt8) (x : List UInt8), x ∈ pcs c l → x.length ≤ l.length
  | [], x, h => by simp [pcs] at h; simp [h]
  | b :: l, x, h => by
    have ih := pcs_mem c l
    rw [pcs] at h
    split at h
    · rcases List.mem_cons.1 h with rfl | h
      · simp
      · have := ih x h; simp; omega
    · cases hp : pcs c l with
      | nil => exact absurd hp (pcs_ne c l)
      | cons a t =>
        rw [hp] at h
        rcases List.mem_cons.1 h with rfl | h
        · have := ih a (by rw [hp]; exact List.mem_cons_self); simp; omega
        · have := ih x (by rw [hp]; exact List.mem_cons_of_mem _ h); simp; omega
theorem pieces_mem (c : UInt8) (s : ByteArray) : ∀ x ∈ pieces c s, x.size ≤ s.size := by
  intro x hx
  obtain ⟨l, hl, rfl⟩ := List.mem_map.1 hx
  have := pcs_mem c _ l hl
  rw [data_length] at this
  show l.toArray.size ≤ _
  simpa using this
theorem pieces_count (c : UInt8) (s : ByteArray) : (pieces c s).length ≤ s.size + 1 := by
  rw [pieces, List.length_map, pcs_length]
  have := List.count_le_length (a := c) (l := s.data.toList)
  rw [data_length] at this
  omega
theorem rdOf_mem {l : List ByteArray} {i : Nat} (h : i < l.length) : rdOf ByteArray.empty l (i : Int) ∈ l := List.mem_of_getElem? (rdOf_get (d := ByteArray.empty) h)
end Go.Proofs.YtagbldaiedmikaaDoor.Z

/- Numbers in versions, the program's and the reference's. Plain lemmas. -/
set_option linter.unusedVariables false
namespace Go.Proofs.YtagbldaiedmikaaDoor.Z
open Go.RowKit Go.Proofs.YtagbldaiedmikaaDoorW.PrintWords Go.Proofs.YtagbldaiedmikaaDoorW.PrintMore Go.Proofs.YtagbldaiedmikaaDoor.X Go.Proofs.YtagbldaiedmikaaDoor.Sp
def isD (u : UInt8) : Bool := decide (48 ≤ u.toNat ∧ u.toNat ≤ 57)
def figs (s : ByteArray) : Bool := s.data.toList.all isD && decide (s.size ≠ 0)
theorem figure_ev (b : Int) : impl_isFigure.f b = some (decide (48 ≤ b ∧ b ≤ 57)) := by
  unfold impl_isFigure.f
  by_cases h : b ≥ 48
  · rw [if_pos h]
    simp [show 48 ≤ b from h]
  · rw [if_neg h]
    simp [show ¬ 48 ≤ b from h]
theorem ne_nil (s : ByteArray) : (s.toList != ([] : List UInt8)) = decide (s.size ≠ 0) := by
  rw [tl]
  have := data_length s
  by_cases h : s.size = 0
  · rw [List.eq_nil_of_length_eq_zero (show s.data.toList.length = 0 by omega)]
    simp [h]
  · have h1 : s.data.toList ≠ [] := fun e => by rw [e] at this; simp at this; omega
    simp [h1, h]
theorem figs_l0 (s : ByteArray) (hs : s.size ≤ 1048576) (d : Nat) : ∀ i : Nat, i + d = s.size → Ev (fun k => impl_isFigures.l0 k s (i : Int)) ((s.data.toList.drop i).all isD && decide (s.size ≠ 0)) ∧ Ev (fun k => spec_l3Digits.l0 k s (i : Int)) ((s.data.toList.drop i).all isD && decide (s.size ≠ 0)) := by
  induction d with
  | zero =>
    intro i hi
    rw [List.drop_eq_nil_of_le (show s.data.toList.length ≤ i by rw [data_length]; omega)]
    constructor
    · refine evS (fun k => by rw [impl_isFigures.l0]) ?_
      exact evF (by omega) (evR (by rw [ne_nil]; rfl))
    · refine evS (fun k => by rw [spec_l3Digits.l0]) ?_
      exact evF (by omega) (evR (by rw [ne_nil]; rfl))
  | succ d ih =>
    intro i hi
    have hl : i < s.data.toList.length := by rw [data_length]; omega
    have hb := byte_at s i (by omega)
    have hlt : (s.data.toList[i]).toNat < 256 := UInt8.toNat_lt _
    have hw : wrap64 (((s.data.toList[i]).toNat : Nat) : Int) = (((s.data.toList[i]).toNat : Nat) : Int) := w64 (by omega)
    obtain ⟨h1, h2⟩ := ih (i + 1) (by omega)
    have he : (s.data.toList.drop i).all isD = (isD s.data.toList[i] && (s.data.toList.drop (i + 1)).all isD) := by
      rw [List.drop_eq_getElem_cons hl]
      rfl
    have hd : decide (48 ≤ (((s.data.toList[i]).toNat : Nat) : Int) ∧ (((s.data.toList[i]).toNat : Nat) : Int) ≤ 57) = isD s.data.toList[i] := by
      unfold isD
      exact decide_eq_decide.2 (by omega)
    rw [he]
    constructor
    · refine evS (fun k => by rw [impl_isFigures.l0]) ?_
      rw [hb, w64s (show i < s.size by omega) (by omega)]
      refine evT (by omega) (evT (by omega) (evC (figure_ev _) ?_))
      rw [hd]
      cases hx : isD s.data.toList[i] with
      | true => exact evT rfl (by simpa using h1)
      | false => exact evF Bool.false_ne_true (evR rfl)
    · refine evS (fun k => by rw [spec_l3Digits.l0]) ?_
      rw [hb, hw, w64s (show i < s.size by omega) (by omega)]
      refine evT (by omega) (evT (by omega) (evC (rng_spec _ _ _) ?_))
      rw [hd]
      cases hx : isD s.data.toList[i] with
      | true => exact evT rfl (by simpa using h2)
      | false => exact evF Bool.false_ne_true (evR rfl)
theorem figs_impl (s : ByteArray) (hs : s.size ≤ 1048576) : Ev (fun k => impl_isFigures.f k s) (figs s) := (figs_l0 s hs s.size 0 (by omega)).1
theorem figs_spec (s : ByteArray) (hs : s.size ≤ 1048576) : Ev (fun k => spec_l3Digits.f k s) (figs s) := (figs_l0 s hs s.size 0 (by omega)).2
def num (s : ByteArray) : Bool := figs s && (decide (s.data.toList = [48]) || decide (bt s 0 ≠ 48))
theorem figs_size {s : ByteArray} (h : figs s = true) : 0 < s.size := by
  simp only [figs, Bool.and_eq_true, decide_eq_true_eq] at h
  have := h.2
  omega
theorem num_impl (s : ByteArray) (hs : s.size ≤ 1048576) : Ev (fun k => impl_isNumber.f k s) (num s) := by
  unfold impl_isNumber.f num
  refine evB (figs_impl s hs) ?_
  cases hf : figs s with
  | false => exact evF Bool.false_ne_true (evR rfl)
  | true =>
    have := figs_size hf
    refine evT rfl ?_
    by_cases h : s.data.toList = [48]
    · exact evT (by rw [tl]; exact h) (evR (by simp [h]))
    · refine evF (by rw [tl]; exact h) (evT (by omega) (evR ?_))
      simp [h, bne, decide_not]
      by_cases hb : bt s 0 = 48
      · simp [hb]
      · simp [hb]
def digit (b : UInt8) : Nat := b.toNat - 48
def valA (a : Nat) (l : List UInt8) : Nat := l.foldl (fun n b => n * 10 + digit b) a
theorem valA_nil (a : Nat) : valA a [] = a := rfl
theorem valA_cons (a : Nat) (b : UInt8) (l : List UInt8) : valA a (b :: l) = valA (a * 10 + digit b) l := by unfold valA; rw [List.foldl_cons]
def val (l : List UInt8) : Nat := valA 0 l
theorem valA_eq (l : List UInt8) : ∀ a : Nat, valA a l = a * 10 ^ l.length + valA 0 l := by
  induction l with
  | nil => intro a; simp [valA_nil]
  | cons b l ih =>
    intro a
    rw [valA_cons, ih, valA_cons, ih (0 * 10 + digit b), List.length_cons, Nat.pow_succ, Nat.add_mul, Nat.zero_mul, Nat.zero_add, Nat.mul_assoc, Nat.mul_comm 10, Nat.add_assoc]
theorem val_cons (b : UInt8) (l : List UInt8) : val (b :: l) = digit b * 10 ^ l.length + val l := by
  unfold val
  rw [valA_cons, valA_eq, Nat.zero_mul, Nat.zero_add]
theorem isD_iff (u : UInt8) : isD u = true ↔ 48 ≤ u.toNat ∧ u.toNat ≤ 57 := by unfold isD; exact decide_eq_true_iff
theorem val_lt (l : List UInt8) (h : l.all isD = true) : val l < 10 ^ l.length := by
  induction l with
  | nil => exact Nat.one_pos
  | cons b l ih =>
    simp only [List.all_cons, Bool.and_eq_true] at h
    have hb := (isD_iff b).1 h.1
    have := ih h.2
    rw [val_cons, List.length_cons, Nat.pow_succ]
    have h9 : digit b * 10 ^ l.length ≤ 9 * 10 ^ l.length := Nat.mul_le_mul_right _ (by unfold digit; omega)
    omega
theorem val_l0 (s : ByteArray) (hs : s.size ≤ 8) (ha : s.data.toList.all isD = true) (d : Nat) : ∀ (i : Nat) (a : Nat), i + d = s.size → a < 10 ^ i → Ev (fun k => spec_l3Number.l0 k s (a : Int) (i : Int)) ((valA a (s.data.toList.drop i) : Nat) : Int) := by
  induction d with
  | zero =>
    intro i a hi hlt
    rw [List.drop_eq_nil_of_le (show s.data.toList.length ≤ i by rw [data_length]; omega)]
    refine evS (fun k => by rw [spec_l3Number.l0]) ?_
    exact evF (by omega) (evR rfl)
  | succ d ih =>
    intro i a hi hlt
    have hl : i < s.data.toList.length := by rw [data_length]; omega
    have hb := byte_at s i (by omega)
    have hD := (isD_iff _).1 (List.all_eq_true.1 ha _ (List.getElem_mem hl))
    have hp : 10 ^ i ≤ 10 ^ 7 := Nat.pow_le_pow_right (by decide) (by omega)
    rw [List.drop_eq_getElem_cons hl, valA_cons]
    unfold digit
    generalize (s.data.toList[i]).toNat = n at *
    have e1 : wrap64 (wrap64 ((a : Int) * 10) + ((n : Int) - 48) % 256) = ((a * 10 + (n - 48) : Nat) : Int) := by
      rw [w64 (x := (a : Int) * 10) (by omega), w64 (by omega)]
      omega
    refine evS (fun k => by rw [spec_l3Number.l0]) ?_
    rw [hb, e1, w64s (show i < s.size by omega) (by omega)]
    refine evT (by omega) (evT (by omega) (ih (i + 1) _ (by omega) ?_))
    rw [Nat.pow_succ]
    omega
/-- A number of at most eight digits. -/
def short (s : ByteArray) : Bool := num s && decide (s.size ≤ 8)
def numS (s : ByteArray) : Int := if short s = true then ((val s.data.toList : Nat) : Int) else -1
theorem head_one (s : ByteArray) (h : s.size = 1) : s.data.toList = [48] ↔ bt s 0 = 48 := by
  have hl : s.data.toList.length = 1 := by rw [data_length]; exact h
  have hb : bt s 0 = _ := byte_at s 0 (by omega)
  obtain ⟨x, hx⟩ := List.length_eq_one_iff.1 hl
  rw [hb]
  simp only [hx, List.getElem_cons_zero, List.cons.injEq, and_true]
  constructor
  · rintro rfl; rfl
  · intro e
    exact UInt8.toNat_inj.1 (by show x.toNat = 48; omega)
theorem numS_spec (s : ByteArray) (hs : s.size ≤ 1048576) : Ev (fun k => spec_l3Number.f k s) (numS s) := by
  unfold spec_l3Number.f
  refine evB (figs_spec s hs) ?_
  cases hf : figs s with
  | false =>
    have e : numS s = -1 := by unfold numS short num; rw [hf]; rfl
    rw [e]
    refine evF Bool.false_ne_true ?_
    refine evS (fun k => by rw [spec_l3Number.j0]) ?_
    exact evT rfl (evR rfl)
  | true =>
    have hz := figs_size hf
    have ha : s.data.toList.all isD = true := by unfold figs at hf; simp at hf; simpa using hf.1
    refine evT rfl ?_
    by_cases h8 : (s.size : Int) > 8
    · have e : numS s = -1 := by
        unfold numS short
        rw [decide_eq_false (by omega), Bool.and_false, if_neg Bool.false_ne_true]
      rw [e]
      refine evT h8 ?_
      refine evS (fun k => by rw [spec_l3Number.j0]) ?_
      exact evT rfl (evR rfl)
    · refine evF h8 ?_
      have hv := val_l0 s (by omega) ha s.size 0 0 (by omega) (by decide)
      have hv' : Ev (fun k => spec_l3Number.l0 k s 0 0) ((val s.data.toList : Nat) : Int) := hv
      by_cases h1 : (s.size : Int) > 1
      · refine evT h1 (evT (by omega) ?_)
        have hne : ¬ s.data.toList = [48] := fun e => by
          have := data_length s
          rw [e] at this
          simp at this
          omega
        by_cases hb : bt s 0 = 48
        · have e : numS s = -1 := by
            unfold numS short num
            rw [decide_eq_false hne, decide_eq_false (fun h => h hb)]
            simp
          rw [e, hb]
          refine evS (fun k => by rw [spec_l3Number.j0]) ?_
          exact evT rfl (evR rfl)
        · have e : numS s = ((val s.data.toList : Nat) : Int) := by
            unfold numS short num
            rw [hf, decide_eq_true hb, decide_eq_true (show s.size ≤ 8 by omega)]
            simp
          rw [e, beq_eq_false_iff_ne.2 hb]
          refine evS (fun k => by rw [spec_l3Number.j0]) ?_
          exact evF Bool.false_ne_true hv'
      · refine evF h1 ?_
        have h11 : s.size = 1 := by omega
        have e : numS s = ((val s.data.toList : Nat) : Int) := by
          unfold numS short num
          rw [hf, decide_eq_true (show s.size ≤ 8 by omega)]
          have := head_one s h11
          by_cases hb : bt s 0 = 48
          · rw [decide_eq_true (this.2 hb)]; simp
          · rw [decide_eq_true hb]; simp
        rw [e]
        refine evS (fun k => by rw [spec_l3Number.j0]) ?_
        exact evF Bool.false_ne_true hv'
end Go.Proofs.YtagbldaiedmikaaDoor.Z

/- Right versions, the program's and the reference's: the same. Plain lemmas. -/
set_option linter.unusedVariables false
namespace Go.Proofs.YtagbldaiedmikaaDoor.Z
open Go.RowKit Go.Proofs.YtagbldaiedmikaaDoorW.PrintWords Go.Proofs.YtagbldaiedmikaaDoorW.PrintMore Go.Proofs.YtagbldaiedmikaaDoor.X Go.Proofs.YtagbldaiedmikaaDoor.Sp
/-- A sign of a part. -/
def pch (b : Int) : Prop := (97 ≤ b ∧ b ≤ 122) ∨ (65 ≤ b ∧ b ≤ 90) ∨ (48 ≤ b ∧ b ≤ 57) ∨ b = 45
instance (b : Int) : Decidable (pch b) := by unfold pch; infer_instance
def pchU (u : UInt8) : Bool := decide (pch (u.toNat : Int))
theorem ev_fig {b : Int} {A : Nat → Option Bool} {r : Bool} (H : (48 ≤ b ∧ b ≤ 57) ∨ b = 45 → Ev A r) (H' : ¬ ((48 ≤ b ∧ b ≤ 57) ∨ b = 45) → r = false) :
    Ev (fun k => (impl_isFigure.f b).bind fun t => if t = true then A k else if b = 45 then A k else some false) r := by
  refine evC (figure_ev b) ?_
  by_cases h : 48 ≤ b ∧ b ≤ 57
  · exact evT (decide_eq_true h) (H (.inl h))
  · refine evF (by simpa using h) ?_
    by_cases h2 : b = 45
    · exact evT h2 (H (.inr h2))
    · exact evF h2 (evR (H' (fun e => e.elim h h2)).symm)
theorem ev_sign {b : Int} {A : Nat → Option Bool} {r : Bool} (H : pch b → Ev A r) (H' : ¬ pch b → r = false) :
    Ev (fun k => if b ≥ 97 then (if b ≤ 122 then A k else (if b ≥ 65 then (if b ≤ 90 then A k else ((impl_isFigure.f b).bind fun t => if t = true then A k else if b = 45 then A k else some false)) else ((impl_isFigure.f b).bind fun t => if t = true then A k else if b = 45 then A k else some false))) else (if b ≥ 65 then (if b ≤ 90 then A k else ((impl_isFigure.f b).bind fun t => if t = true then A k else if b = 45 then A k else some false)) else ((impl_isFigure.f b).bind fun t => if t = true then A k else if b = 45 then A k else some false))) r := by
  have F : (¬ (97 ≤ b ∧ b ≤ 122)) → (¬ (65 ≤ b ∧ b ≤ 90)) → Ev (fun k => (impl_isFigure.f b).bind fun t => if t = true then A k else if b = 45 then A k else some false) r := fun h1 h2 =>
    ev_fig (fun h => H (by unfold pch; omega)) (fun h => H' (by unfold pch; omega))
  have M : (¬ (97 ≤ b ∧ b ≤ 122)) → Ev (fun k => if b ≥ 65 then (if b ≤ 90 then A k else ((impl_isFigure.f b).bind fun t => if t = true then A k else if b = 45 then A k else some false)) else ((impl_isFigure.f b).bind fun t => if t = true then A k else if b = 45 then A k else some false)) r := fun h1 => by
    by_cases h : b ≥ 65
    · refine evT h ?_
      by_cases h2 : b ≤ 90
      · exact evT h2 (H (by unfold pch; omega))
      · exact evF h2 (F h1 (by omega))
    · exact evF h (F h1 (by omega))
  by_cases h : b ≥ 97
  · refine evT h ?_
    by_cases h2 : b ≤ 122
    · exact evT h2 (H (by unfold pch; omega))
    · exact evF h2 (M (by omega))
  · exact evF h (M (by omega))
theorem ev_signS {b : Int} {A : Nat → Option Bool} {r : Bool} (H : pch b → Ev A r) (H' : ¬ pch b → r = false) :
    Ev (fun k => (spec_l1In.f b 97 122).bind fun t => (if t = true then A k else ((spec_l1In.f b 65 90).bind fun t => (if t = true then A k else ((spec_l1In.f b 48 57).bind fun t => (if t = true then A k else (if b = 45 then A k else (some false)))))))) r := by
  refine evC (rng_spec _ _ _) ?_
  by_cases h1 : 97 ≤ b ∧ b ≤ 122
  · exact evT (decide_eq_true h1) (H (by unfold pch; omega))
  refine evF (by simpa using h1) (evC (rng_spec _ _ _) ?_)
  by_cases h2 : 65 ≤ b ∧ b ≤ 90
  · exact evT (decide_eq_true h2) (H (by unfold pch; omega))
  refine evF (by simpa using h2) (evC (rng_spec _ _ _) ?_)
  by_cases h3 : 48 ≤ b ∧ b ≤ 57
  · exact evT (decide_eq_true h3) (H (by unfold pch; omega))
  refine evF (by simpa using h3) ?_
  by_cases h4 : b = 45
  · exact evT h4 (H (by unfold pch; omega))
  · exact evF h4 (evR (H' (by unfold pch; omega)).symm)
/-- A part. -/
def prtE (s : ByteArray) : Bool := decide ((1 : Int) ≤ s.size ∧ (s.size : Int) ≤ 8) && (!figs s || num s)
def prt (s : ByteArray) : Bool := s.data.toList.all pchU && prtE s
theorem prt_l0 (s : ByteArray) (hs : s.size ≤ 1048576) (d : Nat) : ∀ i : Nat, i + d = s.size → Ev (fun k => impl_partOk.l0 k s (i : Int)) ((s.data.toList.drop i).all pchU && prtE s) ∧ Ev (fun k => spec_l3Part.l0 k s (i : Int)) ((s.data.toList.drop i).all pchU && prtE s) := by
  induction d with
  | zero =>
    intro i hi
    rw [List.drop_eq_nil_of_le (show s.data.toList.length ≤ i by rw [data_length]; omega), List.all_nil, Bool.true_and]
    unfold prtE
    constructor
    · refine evS (fun k => by rw [impl_partOk.l0]) (evF (by omega) (evC (rng_impl _ _ _) ?_))
      cases hd : decide ((1 : Int) ≤ s.size ∧ (s.size : Int) ≤ 8) with
      | false => exact evF Bool.false_ne_true (evR rfl)
      | true =>
        refine evT rfl (evB (figs_impl s hs) ?_)
        cases hf : figs s with
        | false => exact evF Bool.false_ne_true (evR rfl)
        | true => exact evT rfl (evB (num_impl s hs) (evR (by simp)))
    · refine evS (fun k => by rw [spec_l3Part.l0]) (evF (by omega) (evC (rng_spec _ _ _) ?_))
      cases hd : decide ((1 : Int) ≤ s.size ∧ (s.size : Int) ≤ 8) with
      | false => exact evF Bool.false_ne_true (evR rfl)
      | true =>
        have h8 := of_decide_eq_true hd
        refine evT rfl (evB (figs_spec s hs) ?_)
        cases hf : figs s with
        | false => exact evF Bool.false_ne_true (evR rfl)
        | true =>
          refine evT rfl (evB (numS_spec s hs) (evR ?_))
          unfold numS short
          rw [decide_eq_true (show s.size ≤ 8 by omega)]
          cases num s with
          | true => simp
          | false => simp
  | succ d ih =>
    intro i hi
    have hl : i < s.data.toList.length := by rw [data_length]; omega
    have hb := byte_at s i (by omega)
    obtain ⟨h1, h2⟩ := ih (i + 1) (by omega)
    have hlt : (s.data.toList[i]).toNat < 256 := UInt8.toNat_lt _
    have he : (s.data.toList.drop i).all pchU = (pchU s.data.toList[i] && (s.data.toList.drop (i + 1)).all pchU) := by
      rw [List.drop_eq_getElem_cons hl]
      rfl
    have hw : wrap64 (((s.data.toList[i]).toNat : Nat) : Int) = (((s.data.toList[i]).toNat : Nat) : Int) := w64 (by omega)
    rw [he]
    have Hp : pch ((s.data.toList[i].toNat : Nat) : Int) → pchU s.data.toList[i] = true := fun h => decide_eq_true h
    have Hn : ¬ pch ((s.data.toList[i].toNat : Nat) : Int) → (pchU s.data.toList[i] && (s.data.toList.drop (i + 1)).all pchU && prtE s) = false := fun h => by
      have : pchU s.data.toList[i] = false := decide_eq_false h
      rw [this]
      rfl
    constructor
    · refine evS (fun k => by rw [impl_partOk.l0]) ?_
      rw [hb, w64s (show i < s.size by omega) (by omega)]
      refine evT (by omega) (evT (by omega) ?_)
      exact ev_sign (fun h => by rw [Hp h, Bool.true_and]; exact h1) Hn
    · refine evS (fun k => by rw [spec_l3Part.l0]) ?_
      rw [hb, hw, w64s (show i < s.size by omega) (by omega)]
      refine evT (by omega) (evT (by omega) ?_)
      exact ev_signS (fun h => by rw [Hp h, Bool.true_and]; exact h2) Hn
theorem prt_impl (s : ByteArray) (hs : s.size ≤ 1048576) : Ev (fun k => impl_partOk.f k s) (prt s) := (prt_l0 s hs s.size 0 (by omega)).1
theorem prt_spec (s : ByteArray) (hs : s.size ≤ 1048576) : Ev (fun k => spec_l3Part.f k s) (prt s) := (prt_l0 s hs s.size 0 (by omega)).2
theorem pre_l0 (l : List ByteArray) (hl : l.length ≤ 1048577) (zl : ∀ x ∈ l, x.size ≤ 1048576) (d : Nat) : ∀ i : Nat, i + d = l.length → Ev (fun k => impl_VersionOk.l0 k l (i : Int)) ((l.drop i).all prt && decide (l.length ≤ 4)) ∧ Ev (fun k => spec_l3Pre.l0 k l (i : Int)) ((l.drop i).all prt && decide (l.length ≤ 4)) := by
  induction d with
  | zero =>
    intro i hi
    rw [List.drop_eq_nil_of_le (by omega), List.all_nil, Bool.true_and]
    have e : decide ((l.length : Int) ≤ 4) = decide (l.length ≤ 4) := decide_eq_decide.2 (by omega)
    constructor
    · refine evS (fun k => by rw [impl_VersionOk.l0]) (evF (by omega) (evR e))
    · refine evS (fun k => by rw [spec_l3Pre.l0]) (evF (by omega) (evR e))
  | succ d ih =>
    intro i hi
    have il : i < l.length := by omega
    have gl : rdOf ByteArray.empty l (i : Int) = l[i] := by
      have := rdOf_get (d := ByteArray.empty) il
      rw [List.getElem?_eq_getElem il] at this
      exact (Option.some.inj this).symm
    have hz := zl _ (List.getElem_mem il)
    obtain ⟨h1, h2⟩ := ih (i + 1) (by omega)
    have he : (l.drop i).all prt = (prt l[i] && (l.drop (i + 1)).all prt) := by
      rw [List.drop_eq_getElem_cons il]
      rfl
    rw [he]
    have p1 := prt_impl l[i] hz
    have p2 := prt_spec l[i] hz
    cases hp : prt l[i] with
    | true =>
      rw [hp] at p1 p2
      rw [Bool.true_and]
      constructor
      · refine evS (fun k => by rw [impl_VersionOk.l0]) ?_
        rw [gl, w64s il (by omega)]
        exact evT (by omega) (evT (by omega) (evB p1 (evT rfl h1)))
      · refine evS (fun k => by rw [spec_l3Pre.l0]) ?_
        rw [gl, w64s il (by omega)]
        exact evT (by omega) (evT (by omega) (evB p2 (evT rfl h2)))
    | false =>
      rw [hp] at p1 p2
      constructor
      · refine evS (fun k => by rw [impl_VersionOk.l0]) ?_
        rw [gl]
        exact evT (by omega) (evT (by omega) (evB p1 (evF Bool.false_ne_true (evR rfl))))
      · refine evS (fun k => by rw [spec_l3Pre.l0]) ?_
        rw [gl]
        exact evT (by omega) (evT (by omega) (evB p2 (evF Bool.false_ne_true (evR rfl))))
def pre (p : ByteArray) : Bool := (pieces 46 p).all prt && decide ((pieces 46 p).length ≤ 4)
def in6 (a : Int) : Bool := decide (0 ≤ a ∧ a ≤ 1000000)
def verOk (a b c : Int) (p : ByteArray) : Bool := in6 a && (in6 b && (in6 c && (decide (p.size = 0) || pre p)))
theorem nil_iff' (s : ByteArray) : s.toList = ([] : List UInt8) ↔ s.size = 0 := by
  rw [tl]
  have := data_length s
  constructor
  · intro e; rw [e] at this; simpa using this.symm
  · intro e; exact List.eq_nil_of_length_eq_zero (by omega)
theorem verOk_both (a b c : Int) (p : ByteArray) (hp : p.size ≤ 1048576) : Ev (fun k => impl_VersionOk.f k a b c p) (verOk a b c p) ∧ Ev (fun k => spec_VersionOk.f k a b c p) (verOk a b c p) := by
  have hc := pieces_count 46 p
  obtain ⟨l1, l2⟩ := pre_l0 (pieces 46 p) (by omega) (fun x hx => by have := pieces_mem 46 p x hx; omega) _ 0 (Nat.zero_add _)
  rw [List.drop_zero] at l1 l2
  have hS : Ev (fun k => spec_l3Split.f k p 46) (pieces 46 p) := split_spec p hp 46
  have hI : strings_Split.f p (⟨#[46]⟩ : ByteArray) = some (pieces 46 p) := by
    unfold strings_Split.f
    rw [if_pos ⟨by omega, rfl⟩]
    rfl
  have tI : Ev (fun k => impl_VersionOk.f0 k p) (decide (p.size = 0) || pre p) := by
    unfold impl_VersionOk.f0
    by_cases h : p.size = 0
    · exact evT ((nil_iff' p).2 h) (evR (by rw [decide_eq_true h]; rfl))
    · refine evF (fun e => h ((nil_iff' p).1 e)) (evC hI ?_)
      rw [decide_eq_false h, Bool.false_or]
      exact l1
  have tS : Ev (fun k => if p.toList = ([] : List UInt8) then (some true) else ((spec_l3Pre.f k p).bind fun t146 => (some t146))) (decide (p.size = 0) || pre p) := by
    by_cases h : p.size = 0
    · exact evT ((nil_iff' p).2 h) (evR (by rw [decide_eq_true h]; rfl))
    · refine evF (fun e => h ((nil_iff' p).1 e)) ?_
      rw [decide_eq_false h, Bool.false_or]
      refine evB ?_ (evR rfl)
      unfold spec_l3Pre.f
      exact evB hS l2
  unfold verOk
  constructor
  · unfold impl_VersionOk.f
    refine evC (rng_impl _ _ _) ?_
    show Ev (fun k => if in6 a = true then _ else _) _
    cases in6 a with
    | false => exact evF Bool.false_ne_true (evR rfl)
    | true =>
      refine evT rfl ?_
      unfold impl_VersionOk.f2
      refine evC (rng_impl _ _ _) ?_
      show Ev (fun k => if in6 b = true then _ else _) _
      cases in6 b with
      | false => exact evF Bool.false_ne_true (evR rfl)
      | true =>
        refine evT rfl ?_
        unfold impl_VersionOk.f1
        refine evC (rng_impl _ _ _) ?_
        show Ev (fun k => if in6 c = true then _ else _) _
        cases in6 c with
        | false => exact evF Bool.false_ne_true (evR rfl)
        | true => exact evT rfl tI
  · unfold spec_VersionOk.f
    refine evC (rng_spec _ _ _) ?_
    show Ev (fun k => if in6 a = true then _ else _) _
    cases in6 a with
    | false => exact evF Bool.false_ne_true (evR rfl)
    | true =>
      refine evT rfl (evC (rng_spec _ _ _) ?_)
      show Ev (fun k => if in6 b = true then _ else _) _
      cases in6 b with
      | false => exact evF Bool.false_ne_true (evR rfl)
      | true =>
        refine evT rfl (evC (rng_spec _ _ _) ?_)
        show Ev (fun k => if in6 c = true then _ else _) _
        cases in6 c with
        | false => exact evF Bool.false_ne_true (evR rfl)
        | true => exact evT rfl tS
end Go.Proofs.YtagbldaiedmikaaDoor.Z

/- Short numbers: their values. Plain lemmas. -/
set_option linter.unusedVariables false
namespace Go.Proofs.YtagbldaiedmikaaDoor.Z
open Go.RowKit Go.Proofs.YtagbldaiedmikaaDoorW.PrintWords Go.Proofs.YtagbldaiedmikaaDoorW.PrintMore Go.Proofs.YtagbldaiedmikaaDoor.X Go.Proofs.YtagbldaiedmikaaDoor.Sp
theorem digit_lt {a b : UInt8} (ha : isD a = true) (hb : isD b = true) : digit a < digit b ↔ a < b := by
  have h1 := (isD_iff a).1 ha
  have h2 := (isD_iff b).1 hb
  unfold digit
  rw [UInt8.lt_iff_toNat_lt]
  omega
theorem less_val : ∀ x y : List UInt8, x.all isD = true → y.all isD = true → x.length = y.length → (Op.bytesLess x y = true ↔ val x < val y)
  | [], [], _, _, _ => by simp [Op.bytesLess]
  | [], _ :: _, _, _, h => by simp at h
  | _ :: _, [], _, _, h => by simp at h
  | a :: x, b :: y, hx, hy, hl => by
    simp only [List.all_cons, Bool.and_eq_true] at hx hy
    have hl' : x.length = y.length := by simpa using hl
    have ih := less_val x y hx.2 hy.2 hl'
    have vx := val_lt x hx.2
    have vy := val_lt y hy.2
    rw [val_cons, val_cons, ← hl'] 
    rw [← hl'] at vy
    have hd := digit_lt hx.1 hy.1
    have hd' := digit_lt hy.1 hx.1
    generalize 10 ^ x.length = p at *
    by_cases h1 : a < b
    · have h2 : digit a + 1 ≤ digit b := hd.2 h1
      have h3 : (digit a + 1) * p ≤ digit b * p := Nat.mul_le_mul_right _ h2
      rw [Nat.add_mul] at h3
      simp only [Op.bytesLess, h1, decide_true, Bool.true_or, true_iff]
      omega
    · by_cases h4 : a = b
      · subst h4
        simp only [Op.bytesLess, h1, decide_false, Bool.false_or, beq_self_eq_true, Bool.true_and]
        rw [ih]
        omega
      · have h5 : b < a := by
          rw [UInt8.lt_iff_toNat_lt] at h1 ⊢
          have : a.toNat ≠ b.toNat := fun e => h4 (UInt8.toNat_inj.1 e)
          omega
        have h2 : digit b + 1 ≤ digit a := hd'.2 h5
        have h3 : (digit b + 1) * p ≤ digit a * p := Nat.mul_le_mul_right _ h2
        rw [Nat.add_mul] at h3
        simp only [Op.bytesLess, h1, decide_false, Bool.false_or, beq_eq_false_iff_ne.2 h4, Bool.false_and, Bool.false_eq_true, false_iff]
        omega
theorem short_all {s : ByteArray} (h : short s = true) : s.data.toList.all isD = true ∧ 0 < s.size ∧ s.size ≤ 8 ∧ (s.data.toList = [48] ∨ bt s 0 ≠ 48) := by
  simp only [short, num, figs, Bool.and_eq_true, Bool.or_eq_true, decide_eq_true_eq] at h
  exact ⟨h.1.1.1, by have := h.1.1.2; omega, h.2, h.1.2⟩
theorem short_lead {s : ByteArray} (h : short s = true) (h1 : 1 < s.size) : 10 ^ (s.size - 1) ≤ val s.data.toList := by
  obtain ⟨ha, hz, h8, hb⟩ := short_all h
  have hl := data_length s
  have hne : ¬ s.data.toList = [48] := fun e => by rw [e] at hl; simp at hl; omega
  have hb0 := hb.resolve_left hne
  have hat : bt s 0 = _ := byte_at s 0 (by omega)
  cases hs : s.data.toList with
  | nil => rw [hs] at hl; simp at hl; omega
  | cons b l =>
    rw [hat] at hb0
    simp only [hs, List.getElem_cons_zero] at hb0
    rw [hs] at ha hl
    simp only [List.all_cons, Bool.and_eq_true] at ha
    have hd := (isD_iff b).1 ha.1
    rw [val_cons, show s.size - 1 = l.length by simp at hl; omega]
    have : 1 * 10 ^ l.length ≤ digit b * 10 ^ l.length := Nat.mul_le_mul_right _ (by unfold digit; omega)
    omega
theorem numS_pos (s : ByteArray) : 0 ≤ numS s ↔ short s = true := by
  unfold numS
  split
  · rename_i h; simp [h]
  · rename_i h; simp [h]
theorem numS_val {s : ByteArray} (h : short s = true) : numS s = ((val s.data.toList : Nat) : Int) := by unfold numS; rw [if_pos h]
theorem short_less {a b : ByteArray} (ha : short a = true) (hb : short b = true) (h : a.size < b.size) : val a.data.toList < val b.data.toList := by
  obtain ⟨aa, az, _, _⟩ := short_all ha
  obtain ⟨_, bz, _, _⟩ := short_all hb
  have h1 := val_lt _ aa
  rw [data_length] at h1
  have h2 := short_lead hb (by omega)
  have h3 : 10 ^ a.size ≤ 10 ^ (b.size - 1) := Nat.pow_le_pow_right (by decide) (by omega)
  omega
end Go.Proofs.YtagbldaiedmikaaDoor.Z

/- Decimal texts and their numbers. Plain lemmas. -/
set_option linter.unusedVariables false
namespace Go.Proofs.YtagbldaiedmikaaDoor.Z
open Go.RowKit Go.Proofs.YtagbldaiedmikaaDoorW.PrintWords Go.Proofs.YtagbldaiedmikaaDoorW.PrintMore Go.Proofs.YtagbldaiedmikaaDoor.X Go.Proofs.YtagbldaiedmikaaDoor.Sp
theorem val_snoc (l : List UInt8) (b : UInt8) : val (l ++ [b]) = val l * 10 + digit b := by
  unfold val valA
  rw [List.foldl_append]
  rfl
theorem digit_back {b : UInt8} (h : isD b = true) : UInt8.ofNat (48 + digit b) = b := by
  have := (isD_iff b).1 h
  unfold digit
  rw [show 48 + (b.toNat - 48) = b.toNat by omega]
  exact UInt8.ofNat_toNat
theorem digit_le {b : UInt8} (h : isD b = true) : digit b ≤ 9 := by
  have := (isD_iff b).1 h
  unfold digit
  omega
/-- No zero ahead. -/
def lead (l : List UInt8) : Prop := l.head? ≠ some 48
theorem val_pos {l : List UInt8} (hn : l ≠ []) (hd : l.all isD = true) (hl : lead l) : 1 ≤ val l := by
  cases l with
  | nil => exact absurd rfl hn
  | cons b m =>
    simp only [List.all_cons, Bool.and_eq_true] at hd
    have hb := (isD_iff b).1 hd.1
    have hne : b.toNat ≠ 48 := fun e => hl (by show some b = some 48; rw [UInt8.toNat_inj.1 (show b.toNat = (48 : UInt8).toNat from e)])
    rw [val_cons]
    have h1 : 1 * 10 ^ m.length ≤ digit b * 10 ^ m.length := Nat.mul_le_mul_right _ (by unfold digit; omega)
    have h2 : 0 < 10 ^ m.length := Nat.pow_pos (by decide)
    omega
theorem dec_snoc (n : Nat) : ∀ l : List UInt8, l.length = n → l ≠ [] → l.all isD = true → (lead l ∨ l.length = 1) → Lib.decDigits (val l) = l := by
  induction n with
  | zero => intro l h hn; exact absurd (List.eq_nil_of_length_eq_zero h) hn
  | succ n ih =>
    intro l h hn hd hl
    obtain ⟨m, b, rfl⟩ : ∃ m b, l = m ++ [b] := ⟨l.dropLast, l.getLast hn, (List.dropLast_concat_getLast hn).symm⟩
    rw [List.all_append, Bool.and_eq_true] at hd
    have hb : isD b = true := by simpa using hd.2
    have hb9 := digit_le hb
    rw [val_snoc, Lib.decDigits]
    by_cases hm : m = []
    · subst hm
      have e : val [] * 10 + digit b = digit b := by rw [show val [] = 0 from rfl]; omega
      rw [e, dif_pos (by omega), digit_back hb]
      rfl
    · have hlen : 1 ≤ m.length := by cases m with | nil => exact absurd rfl hm | cons _ _ => simp
      have hl' : lead (m ++ [b]) := hl.resolve_right (by simp; omega)
      have hlm : lead m := by
        unfold lead at hl' ⊢
        cases m with
        | nil => exact absurd rfl hm
        | cons x y => exact hl'
      have hv := val_pos hm hd.1 hlm
      rw [dif_neg (by omega), show (val m * 10 + digit b) / 10 = val m by omega, show (val m * 10 + digit b) % 10 = digit b by omega, digit_back hb, ih m (by simpa using h) hm hd.1 (.inl hlm)]
/-- A number's text of its value. -/
theorem dec_short {s : ByteArray} (h : num s = true) : Lib.decDigits (val s.data.toList) = s.data.toList := by
  simp only [num, figs, Bool.and_eq_true, Bool.or_eq_true, decide_eq_true_eq] at h
  obtain ⟨⟨ha, hz⟩, hb⟩ := h
  have hl := data_length s
  have hn : s.data.toList ≠ [] := fun e => by rw [e] at hl; simp at hl; omega
  refine dec_snoc _ _ rfl hn ha ?_
  rcases hb with hb | hb
  · exact .inr (by rw [hb]; rfl)
  · left
    have hat : bt s 0 = _ := byte_at s 0 (by omega)
    unfold lead
    cases hs : s.data.toList with
    | nil => exact absurd hs hn
    | cons x y =>
      rw [hat] at hb
      simp only [hs, List.getElem_cons_zero] at hb
      intro e
      have : x = 48 := by simpa using e
      subst this
      exact hb rfl
theorem decFrom_ev (l : List UInt8) (hd : l.all isD = true) : ∀ a : Nat, Lib.decFrom a l = some (valA a l) := by
  induction l with
  | nil => intro a; rfl
  | cons b l ih =>
    intro a
    simp only [List.all_cons, Bool.and_eq_true] at hd
    have hb := (isD_iff b).1 hd.1
    rw [valA_cons]
    unfold Lib.decFrom Lib.digitVal
    rw [if_pos hb]
    exact ih hd.2 _
theorem atoi_val {s : ByteArray} (h : num s = true) : Lib.atoi s.data.toList = some ((val s.data.toList : Nat) : Int) := by
  simp only [num, figs, Bool.and_eq_true, Bool.or_eq_true, decide_eq_true_eq] at h
  obtain ⟨⟨ha, hz⟩, hb⟩ := h
  have hl := data_length s
  cases hs : s.data.toList with
  | nil => rw [hs] at hl; simp at hl; omega
  | cons b l =>
    rw [hs] at ha
    have ha' := ha
    simp only [List.all_cons, Bool.and_eq_true] at ha
    have hb := (isD_iff b).1 ha.1
    have h1 : (b == 45) = false := beq_eq_false_iff_ne.2 (fun e => by subst e; revert hb; decide)
    have h2 : (b == 43) = false := beq_eq_false_iff_ne.2 (fun e => by subst e; revert hb; decide)
    simp only [Lib.atoi, h1, h2, Bool.false_eq_true, if_false]
    unfold Lib.decNat
    rw [decFrom_ev _ ha']
    rfl
theorem text_ev (n : Nat) : n ≤ 100000000 → Ev (fun k => spec_l3Text.f k (n : Int)) ⟨(Lib.decDigits n).toArray⟩ := by
  induction n using Nat.strongRecOn with
  | ind n ih =>
    intro hn
    rw [Lib.decDigits]
    by_cases h : n < 10
    · rw [dif_pos h]
      refine evS (fun k => by rw [spec_l3Text.f]) (evT (by omega) (evR ?_))
      rw [w64 (by omega), show (48 + (n : Int)) % 256 = ((48 + n : Nat) : Int) by omega]
      rfl
    · rw [dif_neg h]
      have e1 : wrap64 (Int.tdiv (n : Int) 10) = ((n / 10 : Nat) : Int) := by
        rw [Int.tdiv_eq_ediv_of_nonneg (by omega), w64 (by omega)]
        omega
      have e2 : wrap64 (48 + Int.tmod (n : Int) 10) % 256 = ((48 + n % 10 : Nat) : Int) := by
        rw [Int.tmod_eq_emod_of_nonneg (by omega), w64 (by omega)]
        omega
      have hsz : (Lib.decDigits (n / 10)).length ≤ n := by
        rw [Lib.decDigits_length]
        have : ∀ m : Nat, Lib.nDigits m ≤ m + 1 := by
          intro m
          induction m using Nat.strongRecOn with
          | ind m ihm =>
            rw [Lib.nDigits]
            split
            · omega
            · have := ihm (m / 10) (by omega)
              omega
        have := this (n / 10)
        omega
      refine evS (fun k => by rw [spec_l3Text.f]) ?_
      rw [e1, e2]
      refine evF (by omega) (evB (ih (n / 10) (by omega) (by omega)) (evC rfl (evT ?_ (evR ?_))))
      · show (Lib.decDigits (n / 10)).toArray.size + 1 ≤ _
        rw [List.size_toArray]
        omega
      · show (⟨(Lib.decDigits (n / 10)).toArray⟩ : ByteArray) ++ (⟨([UInt8.ofNat (48 + n % 10)] : List UInt8).toArray⟩ : ByteArray) = _
        apply ByteArray.ext
        rw [ByteArray.data_append]
        simp
end Go.Proofs.YtagbldaiedmikaaDoor.Z

/- A version's text, the program's and the reference's: the same. Plain lemmas. -/
set_option linter.unusedVariables false
namespace Go.Proofs.YtagbldaiedmikaaDoor.Z
open Go.RowKit Go.Proofs.YtagbldaiedmikaaDoorW.PrintWords Go.Proofs.YtagbldaiedmikaaDoorW.PrintMore Go.Proofs.YtagbldaiedmikaaDoor.X Go.Proofs.YtagbldaiedmikaaDoor.Sp
def dB (a : Int) : ByteArray := ⟨(Lib.decDigits a.toNat).toArray⟩
theorem nd7 : ∀ n : Nat, n < 10000000 → Lib.nDigits n ≤ 7 := by
  intro n h
  have s : ∀ (m d : Nat), Lib.nDigits (m / 10) ≤ d → Lib.nDigits m ≤ d + 1 := by
    intro m d hm
    rw [Lib.nDigits]
    split <;> omega
  have b : Lib.nDigits (n / 10 / 10 / 10 / 10 / 10 / 10) ≤ 1 := by
    rw [Lib.nDigits, dif_pos (by omega)]
    exact Nat.le_refl _
  exact s _ _ (s _ _ (s _ _ (s _ _ (s _ _ (s _ _ b)))))
theorem dB_size (a : Int) (h : a ≤ 1000000) : (dB a).size ≤ 7 := by
  show (Lib.decDigits a.toNat).toArray.size ≤ 7
  rw [List.size_toArray, Lib.decDigits_length]
  exact nd7 _ (by omega)
def verT (a b c : Int) (p : ByteArray) : ByteArray :=
  if p.size = 0 then ((((((⟨#[118]⟩ : ByteArray) ++ dB a) ++ (⟨#[46]⟩ : ByteArray)) ++ dB b) ++ (⟨#[46]⟩ : ByteArray)) ++ dB c) else ((((((⟨#[118]⟩ : ByteArray) ++ dB a) ++ (⟨#[46]⟩ : ByteArray)) ++ dB b) ++ (⟨#[46]⟩ : ByteArray)) ++ dB c) ++ ((⟨#[45]⟩ : ByteArray) ++ p)
def verText (a b c : Int) (p : ByteArray) : ByteArray := if verOk a b c p = true then verT a b c p else ⟨#[]⟩
theorem verOk_in {a b c : Int} {p : ByteArray} (h : verOk a b c p = true) : (0 ≤ a ∧ a ≤ 1000000) ∧ (0 ≤ b ∧ b ≤ 1000000) ∧ (0 ≤ c ∧ c ≤ 1000000) := by
  unfold verOk in6 at h
  simp only [Bool.and_eq_true, decide_eq_true_eq] at h
  exact ⟨h.1, h.2.1, h.2.2.1⟩
theorem itoa_dB (a : Int) (h : 0 ≤ a ∧ a ≤ 1000000) : strconv_Itoa.f a = some (dB a) := by
  unfold strconv_Itoa.f dB Lib.itoa
  rw [if_pos (by omega), if_neg (by omega)]
theorem text_dB (a : Int) (h : 0 ≤ a ∧ a ≤ 1000000) : Ev (fun k => spec_l3Text.f k a) (dB a) := by
  have := text_ev a.toNat (by omega)
  rw [show ((a.toNat : Nat) : Int) = a by omega] at this
  exact this
theorem verText_both (a b c : Int) (p : ByteArray) (hp : p.size ≤ 1048576) : Ev (fun k => impl_VersionText.f k a b c p) (verText a b c p) ∧ Ev (fun k => spec_VersionText.f k a b c p) (verText a b c p) := by
  obtain ⟨hI, hS⟩ := verOk_both a b c p hp
  unfold verText
  cases hv : verOk a b c p with
  | false =>
    rw [hv] at hI hS
    refine ⟨?_, ?_⟩
    · unfold impl_VersionText.f
      exact evB hI (evF Bool.false_ne_true (evR rfl))
    · unfold spec_VersionText.f
      exact evB hS (evF Bool.false_ne_true (evR rfl))
  | true =>
    rw [hv] at hI hS
    obtain ⟨ra, rb, rc⟩ := verOk_in hv
    have za := dB_size a ra.2
    have zb := dB_size b rb.2
    have zc := dB_size c rc.2
    have ia := itoa_dB a ra
    have ib := itoa_dB b rb
    have ic := itoa_dB c rc
    have ta := text_dB a ra
    have tb := text_dB b rb
    have tc := text_dB c rc
    unfold verT
    generalize dB a = x at *
    generalize dB b = y at *
    generalize dB c = z at *
    have s1 : ((⟨#[118]⟩ : ByteArray) ++ x).size = 1 + x.size := ByteArray.size_append
    have s2 : (((⟨#[118]⟩ : ByteArray) ++ x) ++ (⟨#[46]⟩ : ByteArray)).size = 1 + x.size + 1 := by rw [ByteArray.size_append, s1]; rfl
    have s3 : ((((⟨#[118]⟩ : ByteArray) ++ x) ++ (⟨#[46]⟩ : ByteArray)) ++ y).size = 1 + x.size + 1 + y.size := by rw [ByteArray.size_append, s2]
    have s4 : (((((⟨#[118]⟩ : ByteArray) ++ x) ++ (⟨#[46]⟩ : ByteArray)) ++ y) ++ (⟨#[46]⟩ : ByteArray)).size = 1 + x.size + 1 + y.size + 1 := by rw [ByteArray.size_append, s3]; rfl
    have s5 : ((((((⟨#[118]⟩ : ByteArray) ++ x) ++ (⟨#[46]⟩ : ByteArray)) ++ y) ++ (⟨#[46]⟩ : ByteArray)) ++ z).size = 1 + x.size + 1 + y.size + 1 + z.size := by rw [ByteArray.size_append, s4]
    have s6 : (((((((⟨#[118]⟩ : ByteArray) ++ x) ++ (⟨#[46]⟩ : ByteArray)) ++ y) ++ (⟨#[46]⟩ : ByteArray)) ++ z) ++ (⟨#[45]⟩ : ByteArray)).size = 1 + x.size + 1 + y.size + 1 + z.size + 1 := by rw [ByteArray.size_append, s5]; rfl
    have s7 : ((⟨#[45]⟩ : ByteArray) ++ p).size = 1 + p.size := ByteArray.size_append
    refine ⟨?_, ?_⟩
    · unfold impl_VersionText.f
      refine evB hI (evT rfl (evC ia (evT (by omega) (evT (by omega) (evC ib (evT (by omega) (evT (by omega) (evC ic (evT (by omega) ?_)))))))))
      rw [if_pos rfl]
      by_cases h : p.size = 0
      · rw [if_pos h]
        exact evT ((nil_iff' p).2 h) (evR rfl)
      · rw [if_neg h]
        exact evF (fun e => h ((nil_iff' p).1 e)) (evT (by omega) (evT (by omega) (evR rfl)))
    · unfold spec_VersionText.f
      refine evB hS (evT rfl (evB ta (evT (by omega) (evT (by omega) (evB tb (evT (by omega) (evT (by omega) (evB tc (evT (by omega) ?_)))))))))
      rw [if_pos rfl]
      by_cases h : p.size = 0
      · rw [if_pos h]
        exact evT ((nil_iff' p).2 h) (evR rfl)
      · rw [if_neg h]
        refine evF (fun e => h ((nil_iff' p).1 e)) (evT (by omega) (evT (by omega) (evR ?_)))
        exact ByteArray.append_assoc
end Go.Proofs.YtagbldaiedmikaaDoor.Z

/- The number that a text is, the program's way; ends of texts. Plain lemmas. -/
set_option linter.unusedVariables false
namespace Go.Proofs.YtagbldaiedmikaaDoor.Z
open Go.RowKit Go.Proofs.YtagbldaiedmikaaDoorW.PrintWords Go.Proofs.YtagbldaiedmikaaDoorW.PrintMore Go.Proofs.YtagbldaiedmikaaDoor.X Go.Proofs.YtagbldaiedmikaaDoor.Sp
theorem ext_end (s : ByteArray) (f : Nat) : s.extract f s.size = toB (s.data.toList.drop f) := by
  rw [ext_list]
  unfold toB
  rw [List.take_of_length_le (by rw [List.length_drop, data_length]; exact Nat.le_refl _)]
theorem toB_size (l : List UInt8) : (toB l).size = l.length := by
  show l.toArray.size = _
  rw [List.size_toArray]
theorem toB_data (l : List UInt8) : (toB l).data.toList = l := by unfold toB; simp
theorem pieces_toB (c : UInt8) (s : ByteArray) : pieces c s = (pcs c s.data.toList).map toB := rfl
theorem numberOf_ev (t : ByteArray) (ht : t.size ≤ 1048576) (m : Int) (hm : m ≤ 18) : Ev (fun k => impl_numberOf.f k t m) (if num t = true ∧ (t.size : Int) ≤ m then (((val t.data.toList : Nat) : Int), true) else (0, false)) := by
  unfold impl_numberOf.f
  refine evB (num_impl t ht) ?_
  cases hn : num t with
  | false => exact evF Bool.false_ne_true (evR (by simp))
  | true =>
    refine evT rfl ?_
    by_cases h : (t.size : Int) > m
    · exact evT h (evR (by rw [if_neg (fun e => by omega)]))
    · refine evF h (evT (by omega) (evC (atoi_val hn) (evR ?_)))
      rw [if_pos ⟨rfl, by omega⟩]
theorem pow4 {n : Nat} (h : 4 ≤ n) : 10000 ≤ 10 ^ n := Nat.le_trans (by decide) (Nat.pow_le_pow_right (show 0 < 10 by decide) h)
theorem small4 {t : ByteArray} (hsh : short t = true) (h : ((val t.data.toList : Nat) : Int) ≤ 1000) : t.size ≤ 4 := by
  rcases Nat.lt_or_ge 4 t.size with h5 | h5
  · have hle := short_lead hsh (by omega)
    have h10 := pow4 (n := t.size - 1) (by omega)
    generalize val t.data.toList = v at *
    generalize 10 ^ (t.size - 1) = p at *
    omega
  · exact h5
end Go.Proofs.YtagbldaiedmikaaDoor.Z
