/- The law FnEntries, as a plain statement: a drawn entry that is right comes back of its text; a name does, too. Conditions: those of the row's reading alone. -/
/- Part 7 of 12 of this claim's texts. -/
import Derived.Test.YtgdknepphkhnlaaGreatDoorCFnEntries1
import Derived.Test.YtgdknepphkhnlaaGreatDoorCFnEntries3
namespace Go.Proofs.YtgdknepphkhnlaaGreatDoor.X
open Go.RowKit Go.Proofs.YtgdknepphkhnlaaGreatDoorW.PrintWords Go.Proofs.YtgdknepphkhnlaaGreatDoorW.PrintLast Go.Proofs.YtgdknepphkhnlaaGreatDoorW.PrintMore
attribute [local go_sem] max2_int min2_int max_two min_two max_three min_three max_four min_four
set_option linter.unusedVariables false
set_option linter.unusedSimpArgs false
def IsS89 (w0 W : World) (g : Nat) (f0 : List Int) (f1 : Int) (f2 : Int) : Prop := ∃ A0 c0, W.heap[g]? = some (.cells #[.slice A0 f0.length c0, .int .i64 f1, .int .i64 f2] 89 (0, 0)) ∧ w0.heap.size ≤ g ∧ Kd.C (Kd.int .u8) w0 A0 f0.length f0
theorem IsS89.grown {w0 W : World} {g : Nat} {f0 : List Int} {f1 : Int} {f2 : Int} {W1 : World} {row : Option Nat} (h : IsS89 w0 W g f0 f1 f2) (hw : W.grownBy W1 row) (hne : some g ≠ row) : IsS89 w0 W1 g f0 f1 f2 := by
 obtain ⟨A0, c0, hb, hg, hr0⟩ := h
 exact ⟨A0, c0, blk_grown hb hw hne, hg, hr0⟩
theorem IsS89.below {w0 W : World} {g : Nat} {f0 : List Int} {f1 : Int} {f2 : Int} {W1 : World} (h : IsS89 w0 W g f0 f1 f2) (hw : Below W.heap.size W W1) : IsS89 w0 W1 g f0 f1 f2 := h.grown (grown_of_below hw none) (by simp)
theorem IsS89.drewN {w0 W : World} {g : Nat} {f0 : List Int} {f1 : Int} {f2 : Int} (h : IsS89 w0 W g f0 f1 f2) (m : Nat) : IsS89 w0 (W.drewN m) g f0 f1 f2 := h
theorem IsS89.drew {w0 W : World} {g : Nat} {f0 : List Int} {f1 : Int} {f2 : Int} (h : IsS89 w0 W g f0 f1 f2) : IsS89 w0 W.drew g f0 f1 f2 := h
theorem IsS89.apart {w0 W : World} {g : Nat} {f0 : List Int} {f1 : Int} {f2 : Int} {α : Type} {d : Kd α} {e : Nat} {base : Nat} {ok : Nat → Prop} {v : Value} {xs : List α} (h : IsS89 w0 W g f0 f1 f2) (ho : d.R e W base ok v xs) (ht : ∀ q, q ∈ e :: d.E → q ≠ 89) : d.R e W base (fun k => ok k ∧ k ≠ g) v xs := by
 obtain ⟨A0, c0, hb, hg, hr0⟩ := h
 exact Kd.R_types ho hb ht
theorem IsS89.own_ne {w0 W : World} {g : Nat} {f0 : List Int} {f1 : Int} {f2 : Int} {α : Type} {d : Kd α} {e : Nat} {base : Nat} {ok : Nat → Prop} {v : Value} {xs : List α} (h : IsS89 w0 W g f0 f1 f2) (ho : d.R e W base ok v xs) (ht : e ≠ 89) : some g ≠ v.ownBlock := by
 obtain ⟨A0, c0, hb, hg, hr0⟩ := h
 exact Kd.R_ne ho hb ht
theorem IsS89.lt {w0 W : World} {g : Nat} {f0 : List Int} {f1 : Int} {f2 : Int} (h : IsS89 w0 W g f0 f1 f2) : g < W.heap.size := by
 obtain ⟨A0, c0, hb, hg, hr0⟩ := h
 exact blk_lt hb
theorem IsS89.ge {w0 W : World} {g : Nat} {f0 : List Int} {f1 : Int} {f2 : Int} (h : IsS89 w0 W g f0 f1 f2) : w0.heap.size ≤ g := by
 obtain ⟨A0, c0, hb, hg, hr0⟩ := h
 exact hg
theorem IsS89.ne_blk {w0 W : World} {g : Nat} {f0 : List Int} {f1 : Int} {f2 : Int} {a : Nat} {cs : Array Value} {t : TypeId} {fr : Nat × Nat} (h : IsS89 w0 W g f0 f1 f2) (hb2 : W.heap[a]? = some (.cells cs t fr)) (ht : t ≠ 89) : g ≠ a := by
 obtain ⟨A0, c0, hb, hg, hr0⟩ := h
 rintro rfl
 rw [hb] at hb2
 injection hb2 with hb2
 injection hb2 with _ ht2
 exact ht ht2.symm
theorem IsS89.far {w0 W : World} {g : Nat} {f0 : List Int} {f1 : Int} {f2 : Int} {p : Addr} (h : IsS89 w0 W g f0 f1 f2) (hne : g ≠ p.block) (u : Value) : IsS89 w0 (W.setCell p u) g f0 f1 f2 := by
 obtain ⟨A0, c0, hb, hg, hr0⟩ := h
 exact ⟨A0, c0, blk_far hb hne u, hg, hr0⟩
theorem cellS89_0 {W : World} {g : Nat} {A0 : Option Addr} {c0 : Nat} {f0 : List Int} {f1 : Int} {f2 : Int} (h : W.heap[g]? = some (.cells #[.slice A0 f0.length c0, .int .i64 f1, .int .i64 f2] 89 (0, 0))) : W.cell? ⟨g, 0, none⟩ = some (.slice A0 f0.length c0) := (blk_cell h 0).trans rfl
theorem cellS89_1 {W : World} {g : Nat} {A0 : Option Addr} {c0 : Nat} {f0 : List Int} {f1 : Int} {f2 : Int} (h : W.heap[g]? = some (.cells #[.slice A0 f0.length c0, .int .i64 f1, .int .i64 f2] 89 (0, 0))) : W.cell? ⟨g, 1, none⟩ = some (.int .i64 f1) := (blk_cell h 1).trans rfl
theorem IsS89.set_1 {w0 W : World} {g : Nat} {f0 : List Int} {f1 : Int} {f2 : Int} (h : IsS89 w0 W g f0 f1 f2) (x : Int) : IsS89 w0 (W.setCell ⟨g, 1, none⟩ (.int .i64 x)) g f0 x f2 := by
 obtain ⟨A0, c0, hb, hg, hr0⟩ := h
 exact ⟨A0, c0, by simpa using blk_set hb 1 (.int .i64 x), hg, hr0⟩
theorem cellS89_2 {W : World} {g : Nat} {A0 : Option Addr} {c0 : Nat} {f0 : List Int} {f1 : Int} {f2 : Int} (h : W.heap[g]? = some (.cells #[.slice A0 f0.length c0, .int .i64 f1, .int .i64 f2] 89 (0, 0))) : W.cell? ⟨g, 2, none⟩ = some (.int .i64 f2) := (blk_cell h 2).trans rfl
theorem IsS89.set_2 {w0 W : World} {g : Nat} {f0 : List Int} {f1 : Int} {f2 : Int} (h : IsS89 w0 W g f0 f1 f2) (x : Int) : IsS89 w0 (W.setCell ⟨g, 2, none⟩ (.int .i64 x)) g f0 f1 x := by
 obtain ⟨A0, c0, hb, hg, hr0⟩ := h
 exact ⟨A0, c0, by simpa using blk_set hb 2 (.int .i64 x), hg, hr0⟩
def spec_l1New.l0 : Nat → List Int → Int → Int → Option (List Int × Int × Int)
 | 0, _, _, _ => none
 | k + 1, x0, x3, x4 => if x4 < (x0.length : Int) then (if x4 < 4000 then (if 0 ≤ x4 then (spec_l1New.l0 k x0 (Go.bits .and .i64 (wrap64 ((wrap64 ((wrap64 (x3 * 137)) + (wrap64 (rd x0 x4)))) + 11)) 1073741823) (wrap64 (x4 + 1))) else (none)) else (some (x0, 0, x3))) else (some (x0, 0, x3))
def spec_l1New.f (k : Nat) (l0 : List Int) : Option (List Int × Int × Int) := spec_l1New.l0 k l0 (wrap64 (372372 + (l0.length : Int))) 0
set_option maxHeartbeats 8000000 in
set_option maxRecDepth 100000 in
theorem spec_l1New.calls (k : Nat) (A0 : Option Addr) (c0 : Nat) (l0 : List Int) (r1 : List Int) (r2 : Int) (r3 : Int) (w0 w : World) (hB : Below w0.heap.size w0 w) (hr0 : Kd.C (Kd.int .u8) w0 A0 l0.length l0) (hc0 : l0.length ≤ c0) (h : spec_l1New.f k l0 = some (r1, r2, r3)) :
  Calls Tryz.prog 28 #[.slice A0 l0.length c0] w fun e w' => ∃ g_ : Nat, e = .returned (.pointer (some ⟨g_, 0, none⟩)) ∧ IsS89 w0 w' g_ r1 r2 r3 ∧ Below w0.heap.size w0 w' ∧ Below w.heap.size w w' := by
 have hu89 := Tryz.underlying89
 have HR0 := zi hr0
 have HC0 := zi hc0
 clear hr0 hc0
 have HBW := zi (Below.refl w.heap.size w)
 have HW0 := zi hB.size
 have HB := zi hB
 clear hB
 have H := h
 unfold spec_l1New.f at H
 clear h
 have H' := zi H
 clear H
 go_enter Tryz.func28, Tryz.ntmps28
 go_wp2
 go_loopg [3, 4] k (fun kq v3 v4 w' => ∃ (x3_1 : Int) (x4_1 : Int), v3 = .int .i64 x3_1 ∧ v4 = .int .i64 x4_1 ∧ Aside0 (spec_l1New.l0 kq l0 x3_1 x4_1 = some (r1, r2, r3)) ∧ Aside0 (kq ≤ k) ∧ Aside0 (Below w0.heap.size w0 w') ∧ Aside0 (Below w.heap.size w w'))
 case atStart => exact ⟨(wrap64 (372372 + (l0.length : Int))), (0), zu, zu, H', ⟨Nat.le_refl _⟩, ⟨zz⟩, ⟨z3p⟩⟩
 case round =>
  clear H'
  obtain ⟨x3_1, x4_1, rfl, rfl, HA, HK1, HB, HBW⟩ := hrel
  cases gk with
  | zero => exact absurd HA.out (by simp [spec_l1New.l0])
  | succ k1 =>
   have H := HA.out
   clear HA
   simp only [spec_l1New.l0] at H
   by_cases c2 : x4_1 < (l0.length : Int)
   ·rw [if_pos c2] at H
    have c2b0 := decide_eq_true c2
    clear c2
    by_cases c3 : x4_1 < 4000
    ·rw [if_pos c3] at H
     have c3b0 := decide_eq_true c3
     clear c3
     by_cases c4 : 0 ≤ x4_1
     ·rw [if_pos c4] at H
      have c4b0 := decide_eq_true c4
      clear c4
      have H' := zi H
      clear H
      have p600 : 0 ≤ (x4_1 : Int) := of_decide_eq_true zw
      have q600 : x4_1 < (l0.length : Int) := of_decide_eq_true zw
      obtain ⟨ad600, e600, hx600_0⟩ := Kd.at_int HR0.out x4_1 p600 q600
      cases e600
      replace hx600_0 := pw_cell_below HB.out hx600_0
      replace p600 := eq_true p600
      replace q600 := eq_true q600
      go_wp2
      go_roundg k1
      case measure => have := HK1.out; omega
      case rel => exact ⟨(Go.bits .and .i64 (wrap64 ((wrap64 ((wrap64 (x3_1 * 137)) + (wrap64 (rd l0 x4_1)))) + 11)) 1073741823), (wrap64 (x4_1 + 1)), zu, zu, H', ⟨zx⟩, ⟨zz⟩, ⟨z3p⟩⟩
     ·rw [if_neg c4] at H
      exact absurd H (by simp)
    ·rw [if_neg c3] at H
     have c3b0 := decide_eq_false c3
     clear c3
     simp only [Option.some.injEq, Prod.mk.injEq] at H
     obtain ⟨rfl, rfl, rfl⟩ := H
     go_wp2_with (first | ((with_reducible refine gate_dst (N := 31) rfl ?_); refine box_event zr (N := 31) zr (cs := #[.slice A0 l0.length c0, .int .i64 0, .int .i64 x3_1]) (t := 89) z1h ?_; intro gb601 hg w5 hbox hb; have n0_ := zi (below_step HBW.out hb); have n1_ := zi (below_step zz hb); have n2_ := zi hbox; have n3_ := zi ((z7d : w.heap.size ≤ gb601)); have n4_ := zi ((Nat.le_trans HW0.out (z7d : w.heap.size ≤ gb601) : w0.heap.size ≤ gb601)); clear HBW; clear HB; have HBW := n0_; have HB := n1_; have BK601 := n2_; have GW601 := n3_; have GE601 := n4_; clear n0_ n1_ n2_ n3_ n4_; clear hb hbox hg))
     go_ret
     exact ⟨_, rfl, (show IsS89 w0 _ gb601 l0 0 x3_1 from ⟨_, _, by (repeat refine zj ?_); exact BK601.out, GE601.out, HR0.out⟩), by repeat (first | (with_reducible first | exact HB.out | apply below_alloc | apply pw_below_drewN | apply below_drew1 | refine below_set ?_ GE601.out) | exact HB.out), by repeat (first | (with_reducible first | exact HBW.out | apply below_alloc | apply pw_below_drewN | apply below_drew1 | refine below_set ?_ GW601.out) | exact HBW.out)⟩
   ·rw [if_neg c2] at H
    have c2b0 := decide_eq_false c2
    clear c2
    simp only [Option.some.injEq, Prod.mk.injEq] at H
    obtain ⟨rfl, rfl, rfl⟩ := H
    go_wp2_with (first | ((with_reducible refine gate_dst (N := 31) rfl ?_); refine box_event zr (N := 31) zr (cs := #[.slice A0 l0.length c0, .int .i64 0, .int .i64 x3_1]) (t := 89) z1h ?_; intro gb602 hg w6 hbox hb; have n0_ := zi (below_step HBW.out hb); have n1_ := zi (below_step zz hb); have n2_ := zi hbox; have n3_ := zi ((z7d : w.heap.size ≤ gb602)); have n4_ := zi ((Nat.le_trans HW0.out (z7d : w.heap.size ≤ gb602) : w0.heap.size ≤ gb602)); clear HBW; clear HB; have HBW := n0_; have HB := n1_; have BK602 := n2_; have GW602 := n3_; have GE602 := n4_; clear n0_ n1_ n2_ n3_ n4_; clear hb hbox hg))
    go_ret
    exact ⟨_, rfl, (show IsS89 w0 _ gb602 l0 0 x3_1 from ⟨_, _, by (repeat refine zj ?_); exact BK602.out, GE602.out, HR0.out⟩), by repeat (first | (with_reducible first | exact HB.out | apply below_alloc | apply pw_below_drewN | apply below_drew1 | refine below_set ?_ GE602.out) | exact HB.out), by repeat (first | (with_reducible first | exact HBW.out | apply below_alloc | apply pw_below_drewN | apply below_drew1 | refine below_set ?_ GW602.out) | exact HBW.out)⟩
def spec_l1Byte.f (s0_0 : List Int) (s0_1 : Int) (s0_2 : Int) : Option (Int × Int × Int) := if s0_1 < (s0_0.length : Int) then (if 0 ≤ s0_1 then (some (Go.bits .and .i64 (wrap64 ((Go.bits .and .i64 (Go.bits .xor .i64 ((wrap64 ((wrap64 (s0_2 * 6364136223846793005)) + 1442695040888963407)) / 8589934592) ((wrap64 ((wrap64 (s0_2 * 6364136223846793005)) + 1442695040888963407)) / 140737488355328)) 255) + (wrap64 (rd s0_0 s0_1)))) 255, wrap64 (s0_1 + 1), wrap64 ((wrap64 (s0_2 * 6364136223846793005)) + 1442695040888963407))) else (none)) else (some (Go.bits .and .i64 (Go.bits .xor .i64 ((wrap64 ((wrap64 (s0_2 * 6364136223846793005)) + 1442695040888963407)) / 8589934592) ((wrap64 ((wrap64 (s0_2 * 6364136223846793005)) + 1442695040888963407)) / 140737488355328)) 255, s0_1, wrap64 ((wrap64 (s0_2 * 6364136223846793005)) + 1442695040888963407)))
set_option maxHeartbeats 8000000 in
set_option maxRecDepth 100000 in
theorem spec_l1Byte.calls (g : Nat) (s0_0 : List Int) (s0_1 : Int) (s0_2 : Int) (r1 : Int) (r2 : Int) (r3 : Int) (w0 w : World) (hI : IsS89 w0 w g s0_0 s0_1 s0_2) (hB : Below w0.heap.size w0 w) (h : spec_l1Byte.f s0_0 s0_1 s0_2 = some (r1, r2, r3)) :
  Calls Tryz.prog 83 #[.pointer (some ⟨g, 0, none⟩)] w fun e w' => e = .returned (.int .i64 r1) ∧ IsS89 w0 w' g s0_0 r2 r3 ∧ Below w0.heap.size w0 w' ∧ KeepBut w w' g none := by
 have HI0 := zi hI
 have HK := zi (KeepBut.refl w g none)
 have HL := zi hB.size
 clear hI
 have HW0 := zi hB.size
 have HB := zi hB
 clear hB
 have H := h
 unfold spec_l1Byte.f at H
 clear h
 by_cases c2 : s0_1 < (s0_0.length : Int)
 ·rw [if_pos c2] at H
  have c2b0 := decide_eq_true c2
  clear c2
  by_cases c3 : 0 ≤ s0_1
  ·rw [if_pos c3] at H
   have c3b0 := decide_eq_true c3
   clear c3
   simp only [Option.some.injEq, Prod.mk.injEq] at H
   obtain ⟨rfl, rfl, rfl⟩ := H
   obtain ⟨ASz4_0, cSz4_0, HGz4, hgz4, HSz4_0⟩ := HI0.out
   have hcz4_0 := cellS89_0 HGz4
   have hcz4_1 := cellS89_1 HGz4
   have hcz4_2 := cellS89_2 HGz4
   have hfz4_1 := blk_frozen HGz4 1
   have hfz4_2 := blk_frozen HGz4 2
   clear HGz4 hgz4
   have p603 : 0 ≤ (s0_1 : Int) := of_decide_eq_true zw
   have q603 : s0_1 < (s0_0.length : Int) := of_decide_eq_true zw
   obtain ⟨ad603, e603, hx603_0⟩ := Kd.at_int HSz4_0 s0_1 p603 q603
   cases e603
   have hn603_0 : ad603.block ≠ g := Nat.ne_of_lt (Nat.lt_of_lt_of_le (by have := World.block_lt_of_cell? _ _ hx603_0; first | rwa [add_block] at this | exact this) (IsS89.ge HI0.out))
   replace hx603_0 := pw_cell_below HB.out hx603_0
   replace hx603_0 := (cell_far (p := ⟨g, 2, none⟩) (by first | (rw [add_block]; exact hn603_0) | (show (Addr.add _ _).block ≠ _; rw [add_block]; exact hn603_0) | exact hn603_0) (.int .i64 (wrap64 ((wrap64 (s0_2 * 6364136223846793005)) + 1442695040888963407)))).trans hx603_0
   (try have hy603_0 := fun (n_ : Nat) => (show (((w.drewN n_).setCell ⟨g, 2, none⟩ (.int .i64 (wrap64 ((wrap64 (s0_2 * 6364136223846793005)) + 1442695040888963407))))).cell? _ = some _ from hx603_0))
   clear hn603_0
   replace p603 := eq_true p603
   replace q603 := eq_true q603
   go_enter Tryz.func83, Tryz.ntmps83
   go_wp2
   repeat (go_quiet (fail); try go_wp2)
   go_ret
   exact ⟨z1b, z3q, z3r, z3s⟩
  ·rw [if_neg c3] at H
   exact absurd H (by simp)
 ·rw [if_neg c2] at H
  have c2b0 := decide_eq_false c2
  clear c2
  simp only [Option.some.injEq, Prod.mk.injEq] at H
  obtain ⟨rfl, rfl, rfl⟩ := H
  obtain ⟨ASz5_0, cSz5_0, HGz5, hgz5, HSz5_0⟩ := HI0.out
  have hcz5_0 := cellS89_0 HGz5
  have hcz5_1 := cellS89_1 HGz5
  have hcz5_2 := cellS89_2 HGz5
  have hfz5_1 := blk_frozen HGz5 1
  have hfz5_2 := blk_frozen HGz5 2
  clear HGz5 hgz5
  go_enter Tryz.func83, Tryz.ntmps83
  go_wp2
  repeat (go_quiet (fail); try go_wp2)
  go_ret
  exact ⟨z1b, z3q, z3r, z3s⟩
def spec_l1Below.f (s0_0 : List Int) (s0_1 : Int) (s0_2 : Int) (a1 : Int) : Option (Int × Int × Int) := if a1 ≤ 0 then (some (0, s0_1, s0_2)) else (if a1 ≤ 256 then ((spec_l1Byte.f s0_0 s0_1 s0_2).bind fun bt604 => (if a1 = 0 then (none) else (some (Int.tmod bt604.1 a1, bt604.2.1, bt604.2.2)))) else ((spec_l1Byte.f s0_0 s0_1 s0_2).bind fun bt607 => ((spec_l1Byte.f s0_0 bt607.2.1 bt607.2.2).bind fun bt610 => ((spec_l1Byte.f s0_0 bt610.2.1 bt610.2.2).bind fun bt613 => (if a1 = 0 then (none) else (some (Int.tmod (wrap64 ((wrap64 ((wrap64 (bt607.1 * 65536)) + (wrap64 (bt610.1 * 256)))) + bt613.1)) a1, bt613.2.1, bt613.2.2)))))))
set_option maxHeartbeats 8000000 in
set_option maxRecDepth 100000 in
theorem spec_l1Below.calls (g : Nat) (s0_0 : List Int) (s0_1 : Int) (s0_2 : Int) (a1 : Int) (r1 : Int) (r2 : Int) (r3 : Int) (w0 w : World) (hI : IsS89 w0 w g s0_0 s0_1 s0_2) (hB : Below w0.heap.size w0 w) (h : spec_l1Below.f s0_0 s0_1 s0_2 a1 = some (r1, r2, r3)) :
  Calls Tryz.prog 50 #[.pointer (some ⟨g, 0, none⟩), .int .i64 a1] w fun e w' => e = .returned (.int .i64 r1) ∧ IsS89 w0 w' g s0_0 r2 r3 ∧ Below w0.heap.size w0 w' ∧ KeepBut w w' g none := by
 have HI0 := zi hI
 have HK := zi (KeepBut.refl w g none)
 have HL := zi hB.size
 clear hI
 have HW0 := zi hB.size
 have HB := zi hB
 clear hB
 have H := h
 unfold spec_l1Below.f at H
 clear h
 by_cases c3 : a1 ≤ 0
 ·rw [if_pos c3] at H
  have c3b0 := decide_eq_true c3
  clear c3
  simp only [Option.some.injEq, Prod.mk.injEq] at H
  obtain ⟨rfl, rfl, rfl⟩ := H
  go_enter Tryz.func50, Tryz.ntmps50
  go_wp2
  go_ret
  exact ⟨z1b, z3q, z3r, z3s⟩
 ·rw [if_neg c3] at H
  have c3b0 := decide_eq_false c3
  clear c3
  by_cases c4 : a1 ≤ 256
  ·rw [if_pos c4] at H
   have c4b0 := decide_eq_true c4
   clear c4
   replace H := Option.bind_eq_some_iff.mp H
   obtain ⟨⟨t604, t605, t606⟩, A50, H⟩ := H
   try dsimp only at H
   have A5 := zi A50
   clear A50
   by_cases c6 : a1 = 0
   ·rw [if_pos c6] at H
    exact absurd H (by simp)
   ·rw [if_neg c6] at H
    have c6b0 : (a1 == 0) = false := beq_eq_false_iff_ne.mpr c6
    have c6b1 : (a1 != 0) = true := bne_iff_ne.mpr c6
    simp only [Option.some.injEq, Prod.mk.injEq] at H
    obtain ⟨rfl, rfl, rfl⟩ := H
    go_enter Tryz.func50, Tryz.ntmps50
    go_wp2_with (first | ((with_reducible refine gate_callee (f := 83) rfl ?_); refine goesL_ (some 13) rfl rfl Tryz.func83 zq rfl #[.pointer (some ⟨g, 0, none⟩)] rfl zy ?_; (with_reducible refine (spec_l1Byte.calls g s0_0 s0_1 s0_2 t604 t605 t606 w0 _ ?side1 ?side2 A5.out).mono ?_); (case side1 => exact z3q); (case side2 => exact z3r); rintro e w7 ⟨rfl, hi, hb, hk⟩; refine ⟨_, rfl, ?_⟩; have n0_ := zi (KeepBut.trans z3s hk (.inl rfl)); have n1_ := zi hb; have n2_ := zi hi; clear HK; clear HB; clear HI0; have HK := n0_; have HB := n1_; have HI0 := n2_; clear n0_ n1_ n2_; (try clear hb); (try clear hb2); (try clear hk); (try clear hi)))
    go_ret
    exact ⟨z1b, z3q, z3r, z3s⟩
  ·rw [if_neg c4] at H
   have c4b0 := decide_eq_false c4
   clear c4
   replace H := Option.bind_eq_some_iff.mp H
   obtain ⟨⟨t607, t608, t609⟩, A80, H⟩ := H
   try dsimp only at H
   have A8 := zi A80
   clear A80
   replace H := Option.bind_eq_some_iff.mp H
   obtain ⟨⟨t610, t611, t612⟩, A90, H⟩ := H
   try dsimp only at H
   have A9 := zi A90
   clear A90
   replace H := Option.bind_eq_some_iff.mp H
   obtain ⟨⟨t613, t614, t615⟩, A100, H⟩ := H
   try dsimp only at H
   have A10 := zi A100
   clear A100
   by_cases c11 : a1 = 0
   ·rw [if_pos c11] at H
    exact absurd H (by simp)
   ·rw [if_neg c11] at H
    have c11b0 : (a1 == 0) = false := beq_eq_false_iff_ne.mpr c11
    have c11b1 : (a1 != 0) = true := bne_iff_ne.mpr c11
    simp only [Option.some.injEq, Prod.mk.injEq] at H
    obtain ⟨rfl, rfl, rfl⟩ := H
    go_enter Tryz.func50, Tryz.ntmps50
    go_wp2_with (first | ((with_reducible refine gate_callee (f := 83) rfl ?_); refine goesL_ (some 17) rfl rfl Tryz.func83 zq rfl #[.pointer (some ⟨g, 0, none⟩)] rfl zy ?_; (with_reducible refine (spec_l1Byte.calls g s0_0 s0_1 s0_2 t607 t608 t609 w0 _ ?side1 ?side2 A8.out).mono ?_); (case side1 => exact z3q); (case side2 => exact z3r); rintro e w12 ⟨rfl, hi, hb, hk⟩; refine ⟨_, rfl, ?_⟩; have n0_ := zi (KeepBut.trans z3s hk (.inl rfl)); have n1_ := zi hb; have n2_ := zi hi; clear HK; clear HB; clear HI0; have HK := n0_; have HB := n1_; have HI0 := n2_; clear n0_ n1_ n2_; (try clear hb); (try clear hb2); (try clear hk); (try clear hi)) | ((with_reducible refine gate_callee (f := 83) rfl ?_); refine goesL_ (some 19) rfl rfl Tryz.func83 zq rfl #[.pointer (some ⟨g, 0, none⟩)] rfl zy ?_; (with_reducible refine (spec_l1Byte.calls g s0_0 t608 t609 t610 t611 t612 w0 _ ?side1 ?side2 A9.out).mono ?_); (case side1 => exact z3q); (case side2 => exact z3r); rintro e w13 ⟨rfl, hi, hb, hk⟩; refine ⟨_, rfl, ?_⟩; have n0_ := zi (KeepBut.trans z3s hk (.inl rfl)); have n1_ := zi hb; have n2_ := zi hi; clear HK; clear HB; clear HI0; have HK := n0_; have HB := n1_; have HI0 := n2_; clear n0_ n1_ n2_; (try clear hb); (try clear hb2); (try clear hk); (try clear hi)) | ((with_reducible refine gate_callee (f := 83) rfl ?_); refine goesL_ (some 21) rfl rfl Tryz.func83 zq rfl #[.pointer (some ⟨g, 0, none⟩)] rfl zy ?_; (with_reducible refine (spec_l1Byte.calls g s0_0 t611 t612 t613 t614 t615 w0 _ ?side1 ?side2 A10.out).mono ?_); (case side1 => exact z3q); (case side2 => exact z3r); rintro e w14 ⟨rfl, hi, hb, hk⟩; refine ⟨_, rfl, ?_⟩; have n0_ := zi (KeepBut.trans z3s hk (.inl rfl)); have n1_ := zi hb; have n2_ := zi hi; clear HK; clear HB; clear HI0; have HK := n0_; have HB := n1_; have HI0 := n2_; clear n0_ n1_ n2_; (try clear hb); (try clear hb2); (try clear hk); (try clear hi)))
    go_ret
    exact ⟨z1b, z3q, z3r, z3s⟩
def spec_l1Once.f (s0_0 : List Int) (s0_1 : Int) (s0_2 : Int) (a1 : Int) : Option (Bool × Int × Int) := (spec_l1Below.f s0_0 s0_1 s0_2 a1).bind fun bt616 => (some ((bt616.1 == 0), bt616.2.1, bt616.2.2))
set_option maxHeartbeats 8000000 in
set_option maxRecDepth 100000 in
theorem spec_l1Once.calls (g : Nat) (s0_0 : List Int) (s0_1 : Int) (s0_2 : Int) (a1 : Int) (r1 : Bool) (r2 : Int) (r3 : Int) (w0 w : World) (hI : IsS89 w0 w g s0_0 s0_1 s0_2) (hB : Below w0.heap.size w0 w) (h : spec_l1Once.f s0_0 s0_1 s0_2 a1 = some (r1, r2, r3)) :
  Calls Tryz.prog 53 #[.pointer (some ⟨g, 0, none⟩), .int .i64 a1] w fun e w' => e = .returned (.bool r1) ∧ IsS89 w0 w' g s0_0 r2 r3 ∧ Below w0.heap.size w0 w' ∧ KeepBut w w' g none := by
 have HI0 := zi hI
 have HK := zi (KeepBut.refl w g none)
 have HL := zi hB.size
 clear hI
 have HW0 := zi hB.size
 have HB := zi hB
 clear hB
 have H := h
 unfold spec_l1Once.f at H
 clear h
 replace H := Option.bind_eq_some_iff.mp H
 obtain ⟨⟨t616, t617, t618⟩, A30, H⟩ := H
 try dsimp only at H
 have A3 := zi A30
 clear A30
 simp only [Option.some.injEq, Prod.mk.injEq] at H
 obtain ⟨rfl, rfl, rfl⟩ := H
 go_enter Tryz.func53, Tryz.ntmps53
 go_wp2_with (first | ((with_reducible refine gate_callee (f := 50) rfl ?_); refine goesL_ (some 7) rfl rfl Tryz.func50 zq rfl #[.pointer (some ⟨g, 0, none⟩), .int .i64 a1] rfl zy ?_; (with_reducible refine (spec_l1Below.calls g s0_0 s0_1 s0_2 a1 t616 t617 t618 w0 _ ?side1 ?side2 A3.out).mono ?_); (case side1 => exact z3q); (case side2 => exact z3r); rintro e w4 ⟨rfl, hi, hb, hk⟩; refine ⟨_, rfl, ?_⟩; have n0_ := zi (KeepBut.trans z3s hk (.inl rfl)); have n1_ := zi hb; have n2_ := zi hi; clear HK; clear HB; clear HI0; have HK := n0_; have HB := n1_; have HI0 := n2_; clear n0_ n1_ n2_; (try clear hb); (try clear hb2); (try clear hk); (try clear hi)))
 go_ret
 exact ⟨z1b, z3q, z3r, z3s⟩
def spec_l1Str.f (s0_0 : List Int) (s0_1 : Int) (s0_2 : Int) (l1 : List ByteArray) : Option (ByteArray × Int × Int) := (spec_l1Below.f s0_0 s0_1 s0_2 (l1.length : Int)).bind fun bt619 => (if 0 ≤ bt619.1 then (if bt619.1 < (l1.length : Int) then (some (rdOf ByteArray.empty l1 bt619.1, bt619.2.1, bt619.2.2)) else (none)) else (none))
set_option maxHeartbeats 8000000 in
set_option maxRecDepth 100000 in
theorem spec_l1Str.calls (g : Nat) (s0_0 : List Int) (s0_1 : Int) (s0_2 : Int) (A1 : Option Addr) (c1 : Nat) (l1 : List ByteArray) (r1 : ByteArray) (r2 : Int) (r3 : Int) (w0 w : World) (hI : IsS89 w0 w g s0_0 s0_1 s0_2) (hB : Below w0.heap.size w0 w) (hr1 : Kd.C Kd.string w A1 l1.length l1) (hc1 : l1.length ≤ c1) (hf1 : ∀ ad, A1 = some ad → 0 < l1.length → ad.block ≠ g) (h : spec_l1Str.f s0_0 s0_1 s0_2 l1 = some (r1, r2, r3)) :
  Calls Tryz.prog 54 #[.pointer (some ⟨g, 0, none⟩), .slice A1 l1.length c1] w fun e w' => e = .returned (.string r1) ∧ IsS89 w0 w' g s0_0 r2 r3 ∧ Below w0.heap.size w0 w' ∧ KeepBut w w' g none := by
 have HR1 := zi hr1
 have HC1 := zi hc1
 clear hr1 hc1
 have HI0 := zi hI
 have HK := zi (KeepBut.refl w g none)
 have HL := zi hB.size
 clear hI
 have HW0 := zi hB.size
 have HB := zi hB
 clear hB
 have H := h
 unfold spec_l1Str.f at H
 clear h
 replace H := Option.bind_eq_some_iff.mp H
 obtain ⟨⟨t619, t620, t621⟩, A30, H⟩ := H
 try dsimp only at H
 have A3 := zi A30
 clear A30
 by_cases c4 : 0 ≤ t619
 ·rw [if_pos c4] at H
  have c4b0 := decide_eq_true c4
  clear c4
  by_cases c5 : t619 < (l1.length : Int)
  ·rw [if_pos c5] at H
   have c5b0 := decide_eq_true c5
   clear c5
   simp only [Option.some.injEq, Prod.mk.injEq] at H
   obtain ⟨rfl, rfl, rfl⟩ := H
   go_enter Tryz.func54, Tryz.ntmps54
   go_wp2_with (first | ((with_reducible refine gate_callee (f := 50) rfl ?_); refine goesL_ (some 9) rfl rfl Tryz.func50 zq rfl #[.pointer (some ⟨g, 0, none⟩), .int .i64 (l1.length : Int)] rfl zy ?_; (with_reducible refine (spec_l1Below.calls g s0_0 s0_1 s0_2 (l1.length : Int) t619 t620 t621 w0 _ ?side1 ?side2 A3.out).mono ?_); (case side1 => exact z3q); (case side2 => exact z3r); rintro e w6 ⟨rfl, hi, hb, hk⟩; refine ⟨_, rfl, ?_⟩; have n0_ := zi (KeepBut.trans z3s hk (.inl rfl)); have n1_ := zi hb; have n2_ := zi hi; clear HK; clear HB; clear HI0; have HK := n0_; have HB := n1_; have HI0 := n2_; clear n0_ n1_ n2_; (try clear hb); (try clear hb2); (try clear hk); (try clear hi); have p622 : 0 ≤ (t619 : Int) := of_decide_eq_true zw; have q622 : t619 < (l1.length : Int) := of_decide_eq_true zw; obtain ⟨ad622, e622, hx622_0⟩ := Kd.at_string HR1.out t619 p622 q622; cases e622; replace hx622_0 := keep_cell HK.out hx622_0 (by first | (rw [add_block]; exact hf1 _ rfl zp) | exact hf1 _ rfl zp | exact hf1 ad622 rfl zp); replace p622 := eq_true p622; replace q622 := eq_true q622))
   go_ret
   exact ⟨z1b, z3q, z3r, z3s⟩
  ·rw [if_neg c5] at H
   exact absurd H (by simp)
 ·rw [if_neg c4] at H
  exact absurd H (by simp)
def spec_l4Path.f (s0_0 : List Int) (s0_1 : Int) (s0_2 : Int) : Option (ByteArray × Int × Int) := (spec_l1Str.f s0_0 s0_1 s0_2 (([(⟨#[97, 46, 111, 114, 103, 47, 120]⟩ : ByteArray), (⟨#[97, 46, 111, 114, 103, 47, 121]⟩ : ByteArray), (⟨#[98, 46, 105, 111, 47, 122]⟩ : ByteArray), (⟨#[98, 46, 105, 111, 47, 122, 47, 118, 50]⟩ : ByteArray), (⟨#[99]⟩ : ByteArray), (⟨#[97, 46, 111, 114, 103, 47, 119]⟩ : ByteArray)] : List ByteArray))).bind fun bt626 => (some (bt626.1, bt626.2.1, bt626.2.2))
set_option maxHeartbeats 8000000 in
set_option maxRecDepth 100000 in
theorem spec_l4Path.calls (g : Nat) (s0_0 : List Int) (s0_1 : Int) (s0_2 : Int) (r1 : ByteArray) (r2 : Int) (r3 : Int) (w0 w : World) (hI : IsS89 w0 w g s0_0 s0_1 s0_2) (hB : Below w0.heap.size w0 w) (h : spec_l4Path.f s0_0 s0_1 s0_2 = some (r1, r2, r3)) :
  Calls Tryz.prog 84 #[.pointer (some ⟨g, 0, none⟩)] w fun e w' => e = .returned (.string r1) ∧ IsS89 w0 w' g s0_0 r2 r3 ∧ Below w0.heap.size w0 w' ∧ KeepBut w w' g none := by
 have HI0 := zi hI
 have HK := zi (KeepBut.refl w g none)
 have HL := zi hB.size
 clear hI
 have HW0 := zi hB.size
 have HB := zi hB
 clear hB
 have H := h
 unfold spec_l4Path.f at H
 clear h
 obtain ⟨y623, hy623⟩ : ∃ y_ : List ByteArray, y_ = (([(⟨#[97, 46, 111, 114, 103, 47, 120]⟩ : ByteArray), (⟨#[97, 46, 111, 114, 103, 47, 121]⟩ : ByteArray), (⟨#[98, 46, 105, 111, 47, 122]⟩ : ByteArray), (⟨#[98, 46, 105, 111, 47, 122, 47, 118, 50]⟩ : ByteArray), (⟨#[99]⟩ : ByteArray), (⟨#[97, 46, 111, 114, 103, 47, 119]⟩ : ByteArray)] : List ByteArray)) := ⟨_, rfl⟩
 replace H : ((spec_l1Str.f s0_0 s0_1 s0_2 y623).bind fun bt626 => (some (bt626.1, bt626.2.1, bt626.2.2))) = some (r1, r2, r3) := by first | (rw [hy623]; with_reducible exact H) | (have H2_ := (Option.bind_some _ _).symm.trans H; rw [hy623]; with_reducible exact H2_) | (have H2_ := (Option.bind_some _ _).symm.trans H; with_reducible exact H2_) | with_reducible exact H | (rw [hy623]; exact H) | exact H
 have Ny623 := zi hy623
 clear hy623
 replace H := Option.bind_eq_some_iff.mp H
 obtain ⟨⟨t626, t627, t628⟩, A20, H⟩ := H
 try dsimp only at H
 have A2 := zi A20
 clear A20
 simp only [Option.some.injEq, Prod.mk.injEq] at H
 obtain ⟨rfl, rfl, rfl⟩ := H
 go_enter Tryz.func84, Tryz.ntmps84
 go_wp2_with (first | ((with_reducible refine gate_dst (N := 4) rfl ?_); refine Kd.R_lit Kd.string _ 9 ?hg (N := 4) ?hd (xs := ([(⟨#[97, 46, 111, 114, 103, 47, 120]⟩ : ByteArray), (⟨#[97, 46, 111, 114, 103, 47, 121]⟩ : ByteArray), (⟨#[98, 46, 105, 111, 47, 122]⟩ : ByteArray), (⟨#[98, 46, 105, 111, 47, 122, 47, 118, 50]⟩ : ByteArray), (⟨#[99]⟩ : ByteArray), (⟨#[97, 46, 111, 114, 103, 47, 119]⟩ : ByteArray)] : List ByteArray)) (inner := [.string (⟨#[97, 46, 111, 114, 103, 47, 120]⟩ : ByteArray), .string (⟨#[97, 46, 111, 114, 103, 47, 121]⟩ : ByteArray), .string (⟨#[98, 46, 105, 111, 47, 122]⟩ : ByteArray), .string (⟨#[98, 46, 105, 111, 47, 122, 47, 118, 50]⟩ : ByteArray), .string (⟨#[99]⟩ : ByteArray), .string (⟨#[97, 46, 111, 114, 103, 47, 119]⟩ : ByteArray)]) (ok := fun _ => True) (okp := fun _ => True) ?hr ?hp (fun _ hk => hk) trivial (Below.refl _ _) (Nat.le_refl _) (by simp) ?_; (case hd => exact zr); (case hg => exact zr); (case hr => exact z1h); (case hp => exact (Reps.one (show Kd.M Kd.string _ _ _ (⟨#[97, 46, 111, 114, 103, 47, 120]⟩ : ByteArray) [.string (⟨#[97, 46, 111, 114, 103, 47, 120]⟩ : ByteArray)] from rfl) (Reps.one (show Kd.M Kd.string _ _ _ (⟨#[97, 46, 111, 114, 103, 47, 121]⟩ : ByteArray) [.string (⟨#[97, 46, 111, 114, 103, 47, 121]⟩ : ByteArray)] from rfl) (Reps.one (show Kd.M Kd.string _ _ _ (⟨#[98, 46, 105, 111, 47, 122]⟩ : ByteArray) [.string (⟨#[98, 46, 105, 111, 47, 122]⟩ : ByteArray)] from rfl) (Reps.one (show Kd.M Kd.string _ _ _ (⟨#[98, 46, 105, 111, 47, 122, 47, 118, 50]⟩ : ByteArray) [.string (⟨#[98, 46, 105, 111, 47, 122, 47, 118, 50]⟩ : ByteArray)] from rfl) (Reps.one (show Kd.M Kd.string _ _ _ (⟨#[99]⟩ : ByteArray) [.string (⟨#[99]⟩ : ByteArray)] from rfl) (Reps.one (show Kd.M Kd.string _ _ _ (⟨#[97, 46, 111, 114, 103, 47, 119]⟩ : ByteArray) [.string (⟨#[97, 46, 111, 114, 103, 47, 119]⟩ : ByteArray)] from rfl) (Reps.none _ _)))))))); intro v624 w3 ho4 hb hg_ hnew_; clear hg_ hnew_; (first | rw [← Ny623.out] at ho4 | (simp only [Int.reduceToNat] at ho4; rw [← Ny623.out] at ho4)); have n0_ := zi (Kd.R_lower ho4 (keep_size (w := w) (g := g) (row := none) z3s)); have n1_ := zi (IsS89.below z3q hb); have n2_ := zi (KeepBut.trans z3s (KeepBut.of_below hb g none) (.inl rfl)); have n3_ := zi (below_step z3r hb); clear HI0; clear HK; clear HB; have HO625 := n0_; have HI0 := n1_; have HK := n2_; have HB := n3_; clear n0_ n1_ n2_ n3_; clear hb ho4; obtain ⟨Ao5, co5, eo5⟩ := Kd.R_slice HO625.out; subst eo5) | ((with_reducible refine gate_callee (f := 54) rfl ?_); refine goesL_ (some 5) rfl rfl Tryz.func54 zq rfl #[.pointer (some ⟨g, 0, none⟩), .slice Ao5 y623.length co5] rfl zy ?_; (with_reducible refine (spec_l1Str.calls g s0_0 s0_1 s0_2 _ _ y623 t626 t627 t628 w0 _ ?side1 ?side2 ?side3 ?side4 ?side5 A2.out).mono ?_); (case side1 => exact z3q); (case side2 => exact z3r); (case side3 => repeat (first | exact (Kd.R_reads' HO625.out).2.2 | (with_reducible refine Kd.C_alloc ?_ _) | (with_reducible refine Kd.C_drewN ?_ _) | (with_reducible refine Kd.C_drew ?_))); (case side4 => exact (Kd.R_reads' HO625.out).2.1); (case side5 => exact far_slice (IsS89.own_ne HI0.out HO625.out zt)); rintro e w6 ⟨rfl, hi, hb, hk⟩; refine ⟨_, rfl, ?_⟩; have n0_ := zi (Kd.R_mono (Kd.R_keep (IsS89.apart (show IsS89 w0 _ g s0_0 s0_1 s0_2 from by repeat (first | (with_reducible first | exact HI0.out | apply IsS89.alloc | apply IsS89.drewN | apply IsS89.drew | apply IsS89.set_1 | apply IsS89.set_2) | exact HI0.out)) (by (with_reducible repeat (first | apply Kd.R_alloc | apply Kd.R_drewN | apply Kd.R_drew)); exact HO625.out) zt) hk (fun _ h => h.2)) (fun _ h => h.1)); have n1_ := zi (KeepBut.trans z3s hk (.inl rfl)); have n2_ := zi hb; have n3_ := zi hi; clear HO625; clear HK; clear HB; clear HI0; have HO625 := n0_; have HK := n1_; have HB := n2_; have HI0 := n3_; clear n0_ n1_ n2_ n3_; (try clear hb); (try clear hb2); (try clear hk); (try clear hi)))
 go_ret
 exact ⟨z1b, z3q, z3r, z3s⟩
def spec_l1Int.f (s0_0 : List Int) (s0_1 : Int) (s0_2 : Int) (l1 : List Int) : Option (Int × Int × Int) := (spec_l1Below.f s0_0 s0_1 s0_2 (l1.length : Int)).bind fun bt629 => (if 0 ≤ bt629.1 then (if bt629.1 < (l1.length : Int) then (some (rd l1 bt629.1, bt629.2.1, bt629.2.2)) else (none)) else (none))
set_option maxHeartbeats 8000000 in
set_option maxRecDepth 100000 in
theorem spec_l1Int.calls (g : Nat) (s0_0 : List Int) (s0_1 : Int) (s0_2 : Int) (A1 : Option Addr) (c1 : Nat) (l1 : List Int) (r1 : Int) (r2 : Int) (r3 : Int) (w0 w : World) (hI : IsS89 w0 w g s0_0 s0_1 s0_2) (hB : Below w0.heap.size w0 w) (hr1 : Kd.C (Kd.int .i64) w A1 l1.length l1) (hc1 : l1.length ≤ c1) (hf1 : ∀ ad, A1 = some ad → 0 < l1.length → ad.block ≠ g) (h : spec_l1Int.f s0_0 s0_1 s0_2 l1 = some (r1, r2, r3)) :
  Calls Tryz.prog 51 #[.pointer (some ⟨g, 0, none⟩), .slice A1 l1.length c1] w fun e w' => e = .returned (.int .i64 r1) ∧ IsS89 w0 w' g s0_0 r2 r3 ∧ Below w0.heap.size w0 w' ∧ KeepBut w w' g none := by
 have HR1 := zi hr1
 have HC1 := zi hc1
 clear hr1 hc1
 have HI0 := zi hI
 have HK := zi (KeepBut.refl w g none)
 have HL := zi hB.size
 clear hI
 have HW0 := zi hB.size
 have HB := zi hB
 clear hB
 have H := h
 unfold spec_l1Int.f at H
 clear h
 replace H := Option.bind_eq_some_iff.mp H
 obtain ⟨⟨t629, t630, t631⟩, A30, H⟩ := H
 try dsimp only at H
 have A3 := zi A30
 clear A30
 by_cases c4 : 0 ≤ t629
 ·rw [if_pos c4] at H
  have c4b0 := decide_eq_true c4
  clear c4
  by_cases c5 : t629 < (l1.length : Int)
  ·rw [if_pos c5] at H
   have c5b0 := decide_eq_true c5
   clear c5
   simp only [Option.some.injEq, Prod.mk.injEq] at H
   obtain ⟨rfl, rfl, rfl⟩ := H
   go_enter Tryz.func51, Tryz.ntmps51
   go_wp2_with (first | ((with_reducible refine gate_callee (f := 50) rfl ?_); refine goesL_ (some 9) rfl rfl Tryz.func50 zq rfl #[.pointer (some ⟨g, 0, none⟩), .int .i64 (l1.length : Int)] rfl zy ?_; (with_reducible refine (spec_l1Below.calls g s0_0 s0_1 s0_2 (l1.length : Int) t629 t630 t631 w0 _ ?side1 ?side2 A3.out).mono ?_); (case side1 => exact z3q); (case side2 => exact z3r); rintro e w6 ⟨rfl, hi, hb, hk⟩; refine ⟨_, rfl, ?_⟩; have n0_ := zi (KeepBut.trans z3s hk (.inl rfl)); have n1_ := zi hb; have n2_ := zi hi; clear HK; clear HB; clear HI0; have HK := n0_; have HB := n1_; have HI0 := n2_; clear n0_ n1_ n2_; (try clear hb); (try clear hb2); (try clear hk); (try clear hi); have p632 : 0 ≤ (t629 : Int) := of_decide_eq_true zw; have q632 : t629 < (l1.length : Int) := of_decide_eq_true zw; obtain ⟨ad632, e632, hx632_0⟩ := Kd.at_int HR1.out t629 p632 q632; cases e632; replace hx632_0 := keep_cell HK.out hx632_0 (by first | (rw [add_block]; exact hf1 _ rfl zp) | exact hf1 _ rfl zp | exact hf1 ad632 rfl zp); replace p632 := eq_true p632; replace q632 := eq_true q632))
   go_ret
   exact ⟨z1b, z3q, z3r, z3s⟩
  ·rw [if_neg c5] at H
   exact absurd H (by simp)
 ·rw [if_neg c4] at H
  exact absurd H (by simp)
def spec_l3Draw.f (s0_0 : List Int) (s0_1 : Int) (s0_2 : Int) : Option (Int × Int × Int × ByteArray × Int × Int) := (spec_l1Int.f s0_0 s0_1 s0_2 (([1, 0, 1, 2] : List Int))).bind fun bt637 => ((spec_l1Below.f s0_0 bt637.2.1 bt637.2.2 4).bind fun bt640 => ((spec_l1Below.f s0_0 bt640.2.1 bt640.2.2 3).bind fun bt643 => ((spec_l1Str.f s0_0 bt643.2.1 bt643.2.2 (([(⟨#[]⟩ : ByteArray), (⟨#[]⟩ : ByteArray), (⟨#[]⟩ : ByteArray), (⟨#[114, 99, 46, 49]⟩ : ByteArray), (⟨#[97, 108, 112, 104, 97]⟩ : ByteArray), (⟨#[114, 99, 46, 50]⟩ : ByteArray), (⟨#[49]⟩ : ByteArray), (⟨#[50, 46, 120]⟩ : ByteArray), (⟨#[98, 101, 116, 97, 45, 49]⟩ : ByteArray), (⟨#[114, 99]⟩ : ByteArray)] : List ByteArray))).bind fun bt649 => (some (bt637.1, bt640.1, bt643.1, bt649.1, bt649.2.1, bt649.2.2)))))
set_option maxHeartbeats 8000000 in
set_option maxRecDepth 100000 in
theorem spec_l3Draw.calls (g : Nat) (s0_0 : List Int) (s0_1 : Int) (s0_2 : Int) (r1 : Int) (r2 : Int) (r3 : Int) (r4 : ByteArray) (r5 : Int) (r6 : Int) (w0 w : World) (hI : IsS89 w0 w g s0_0 s0_1 s0_2) (hB : Below w0.heap.size w0 w) (h : spec_l3Draw.f s0_0 s0_1 s0_2 = some (r1, r2, r3, r4, r5, r6)) :
  Calls Tryz.prog 85 #[.pointer (some ⟨g, 0, none⟩)] w fun e w' => e = .returned (.agg #[.int .i64 r1, .int .i64 r2, .int .i64 r3, .string r4]) ∧ IsS89 w0 w' g s0_0 r5 r6 ∧ Below w0.heap.size w0 w' ∧ KeepBut w w' g none := by
 have hu25 := Tryz.underlying25
 have HI0 := zi hI
 have HK := zi (KeepBut.refl w g none)
 have HL := zi hB.size
 clear hI
 have HW0 := zi hB.size
 have HB := zi hB
 clear hB
 have H := h
 unfold spec_l3Draw.f at H
 clear h
 obtain ⟨y634, hy634⟩ : ∃ y_ : List Int, y_ = (([1, 0, 1, 2] : List Int)) := ⟨_, rfl⟩
 replace H : ((spec_l1Int.f s0_0 s0_1 s0_2 y634).bind fun bt637 => ((spec_l1Below.f s0_0 bt637.2.1 bt637.2.2 4).bind fun bt640 => ((spec_l1Below.f s0_0 bt640.2.1 bt640.2.2 3).bind fun bt643 => ((spec_l1Str.f s0_0 bt643.2.1 bt643.2.2 (([(⟨#[]⟩ : ByteArray), (⟨#[]⟩ : ByteArray), (⟨#[]⟩ : ByteArray), (⟨#[114, 99, 46, 49]⟩ : ByteArray), (⟨#[97, 108, 112, 104, 97]⟩ : ByteArray), (⟨#[114, 99, 46, 50]⟩ : ByteArray), (⟨#[49]⟩ : ByteArray), (⟨#[50, 46, 120]⟩ : ByteArray), (⟨#[98, 101, 116, 97, 45, 49]⟩ : ByteArray), (⟨#[114, 99]⟩ : ByteArray)] : List ByteArray))).bind fun bt649 => (some (bt637.1, bt640.1, bt643.1, bt649.1, bt649.2.1, bt649.2.2)))))) = some (r1, r2, r3, r4, r5, r6) := by first | (rw [hy634]; with_reducible exact H) | (have H2_ := (Option.bind_some _ _).symm.trans H; rw [hy634]; with_reducible exact H2_) | (have H2_ := (Option.bind_some _ _).symm.trans H; with_reducible exact H2_) | with_reducible exact H | (rw [hy634]; exact H) | exact H
 have Ny634 := zi hy634
 clear hy634
 replace H := Option.bind_eq_some_iff.mp H
 obtain ⟨⟨t637, t638, t639⟩, A20, H⟩ := H
 try dsimp only at H
 have A2 := zi A20
 clear A20
 replace H := Option.bind_eq_some_iff.mp H
 obtain ⟨⟨t640, t641, t642⟩, A30, H⟩ := H
 try dsimp only at H
 have A3 := zi A30
 clear A30
 replace H := Option.bind_eq_some_iff.mp H
 obtain ⟨⟨t643, t644, t645⟩, A40, H⟩ := H
 try dsimp only at H
 have A4 := zi A40
 clear A40
 obtain ⟨y646, hy646⟩ : ∃ y_ : List ByteArray, y_ = (([(⟨#[]⟩ : ByteArray), (⟨#[]⟩ : ByteArray), (⟨#[]⟩ : ByteArray), (⟨#[114, 99, 46, 49]⟩ : ByteArray), (⟨#[97, 108, 112, 104, 97]⟩ : ByteArray), (⟨#[114, 99, 46, 50]⟩ : ByteArray), (⟨#[49]⟩ : ByteArray), (⟨#[50, 46, 120]⟩ : ByteArray), (⟨#[98, 101, 116, 97, 45, 49]⟩ : ByteArray), (⟨#[114, 99]⟩ : ByteArray)] : List ByteArray)) := ⟨_, rfl⟩
 replace H : ((spec_l1Str.f s0_0 t644 t645 y646).bind fun bt649 => (some (t637, t640, t643, bt649.1, bt649.2.1, bt649.2.2))) = some (r1, r2, r3, r4, r5, r6) := by first | (rw [hy646]; with_reducible exact H) | (have H2_ := (Option.bind_some _ _).symm.trans H; rw [hy646]; with_reducible exact H2_) | (have H2_ := (Option.bind_some _ _).symm.trans H; with_reducible exact H2_) | with_reducible exact H | (rw [hy646]; exact H) | exact H
 have Ny646 := zi hy646
 clear hy646
 replace H := Option.bind_eq_some_iff.mp H
 obtain ⟨⟨t649, t650, t651⟩, A50, H⟩ := H
 try dsimp only at H
 have A5 := zi A50
 clear A50
 simp only [Option.some.injEq, Prod.mk.injEq] at H
 obtain ⟨rfl, rfl, rfl, rfl, rfl, rfl⟩ := H
 go_enter Tryz.func85, Tryz.ntmps85
 go_wp2_with (first | ((with_reducible refine gate_dst (N := 2) rfl ?_); refine box_event zr (N := 2) zr (cs := #[.int .i64 0, .int .i64 0, .int .i64 0, .string (⟨#[]⟩ : ByteArray)]) (t := 25) z1h ?_; intro gb633 hg w6 hbox hb; have n0_ := zi (IsS89.below z3q hb); have n1_ := zi (KeepBut.trans z3s (KeepBut.of_below hb g none) (.inl rfl)); have n2_ := zi (below_step z3r hb); have n3_ := zi hbox; have n4_ := zi ((z7e : w.heap.size ≤ gb633)); have n5_ := zi ((Nat.le_trans HW0.out (z7e : w.heap.size ≤ gb633) : w0.heap.size ≤ gb633)); have n6_ := zi ((z3t : g ≠ gb633)); have n7_ := zi ((z3u : gb633 ≠ g)); clear HI0; clear HK; clear HB; have HI0 := n0_; have HK := n1_; have HB := n2_; have BK633 := n3_; have GW633 := n4_; have GE633 := n5_; have NB0_633 := n6_; have NB633_0 := n7_; clear n0_ n1_ n2_ n3_ n4_ n5_ n6_ n7_; clear hb hbox hg) | ((with_reducible refine gate_dst (N := 4) rfl ?_); refine Kd.R_lit (Kd.int .i64) _ 3 ?hg (N := 4) ?hd (xs := ([1, 0, 1, 2] : List Int)) (inner := [.int .i64 1, .int .i64 0, .int .i64 1, .int .i64 2]) (ok := fun _ => True) (okp := fun _ => True) ?hr ?hp (fun _ hk => hk) trivial (Below.refl _ _) (Nat.le_refl _) (by simp) ?_; (case hd => exact zr); (case hg => exact zr); (case hr => exact z1h); (case hp => exact (Reps.one (show Kd.M (Kd.int .i64) _ _ _ 1 [.int .i64 1] from rfl) (Reps.one (show Kd.M (Kd.int .i64) _ _ _ 0 [.int .i64 0] from rfl) (Reps.one (show Kd.M (Kd.int .i64) _ _ _ 1 [.int .i64 1] from rfl) (Reps.one (show Kd.M (Kd.int .i64) _ _ _ 2 [.int .i64 2] from rfl) (Reps.none _ _)))))); intro v635 w7 ho8 hb hg_ hnew_; clear hg_ hnew_; (first | rw [← Ny634.out] at ho8 | (simp only [Int.reduceToNat] at ho8; rw [← Ny634.out] at ho8)); have n0_ := zi (Kd.R_lower ho8 (keep_size (w := w) (g := g) (row := none) z3v)); have n1_ := zi (IsS89.below z3w hb); have n2_ := zi (blk_below (g := gb633) (o := .cells #[.int .i64 0, .int .i64 0, .int .i64 0, .string (⟨#[]⟩ : ByteArray)] 25 (0, 0)) z3x hb); have n3_ := zi (KeepBut.trans z3v (KeepBut.of_below hb g none) (.inl rfl)); have n4_ := zi (below_step z3y hb); clear HI0; clear BK633; clear HK; clear HB; have HO636 := n0_; have HI0 := n1_; have BK633 := n2_; have HK := n3_; have HB := n4_; clear n0_ n1_ n2_ n3_ n4_; clear hb ho8; obtain ⟨Ao9, co9, eo9⟩ := Kd.R_slice HO636.out; subst eo9) | ((with_reducible refine gate_callee (f := 51) rfl ?_); refine goesL_ (some 5) rfl rfl Tryz.func51 zq rfl #[.pointer (some ⟨g, 0, none⟩), .slice Ao9 y634.length co9] rfl zy ?_; (with_reducible refine (spec_l1Int.calls g s0_0 s0_1 s0_2 _ _ y634 t637 t638 t639 w0 _ ?side1 ?side2 ?side3 ?side4 ?side5 A2.out).mono ?_); (case side1 => exact z3w); (case side2 => exact z3y); (case side3 => repeat (first | exact (Kd.R_reads' HO636.out).2.2 | (with_reducible refine Kd.C_alloc ?_ _) | (with_reducible refine Kd.C_drewN ?_ _) | (with_reducible refine Kd.C_drew ?_))); (case side4 => exact (Kd.R_reads' HO636.out).2.1); (case side5 => exact far_slice (IsS89.own_ne HI0.out HO636.out zt)); rintro e w10 ⟨rfl, hi, hb, hk⟩; refine ⟨_, rfl, ?_⟩; have n0_ := zi (KeepBut.blk hk (g' := gb633) (o := .cells #[.int .i64 0, .int .i64 0, .int .i64 0, .string (⟨#[]⟩ : ByteArray)] 25 (0, 0)) z3x NB633_0.out (by simp)); have n1_ := zi (Kd.R_mono (Kd.R_keep (IsS89.apart (show IsS89 w0 _ g s0_0 s0_1 s0_2 from by repeat (first | (with_reducible first | exact HI0.out | apply IsS89.alloc | apply IsS89.drewN | apply IsS89.drew | apply IsS89.set_1 | apply IsS89.set_2 | refine IsS89.far ?_ NB0_633.out _) | exact HI0.out)) z3z zt) hk (fun _ h => h.2)) (fun _ h => h.1)); have n2_ := zi (KeepBut.trans z3v hk (.inl rfl)); have n3_ := zi hb; have n4_ := zi hi; clear BK633; clear HO636; clear HK; clear HB; clear HI0; have BK633 := n0_; have HO636 := n1_; have HK := n2_; have HB := n3_; have HI0 := n4_; clear n0_ n1_ n2_ n3_ n4_; (try clear hb); (try clear hb2); (try clear hk); (try clear hi)) | ((with_reducible refine gate_callee (f := 50) rfl ?_); refine goesL_ (some 7) rfl rfl Tryz.func50 zq rfl #[.pointer (some ⟨g, 0, none⟩), .int .i64 4] rfl zy ?_; (with_reducible refine (spec_l1Below.calls g s0_0 t638 t639 4 t640 t641 t642 w0 _ ?side1 ?side2 A3.out).mono ?_); (case side1 => exact z3w); (case side2 => exact z3y); rintro e w11 ⟨rfl, hi, hb, hk⟩; refine ⟨_, rfl, ?_⟩; have n0_ := zi (KeepBut.blk hk (g' := gb633) (o := .cells #[.int .i64 0, .int .i64 0, .int .i64 0, .string (⟨#[]⟩ : ByteArray)] 25 (0, 0)) z3x NB633_0.out (by simp)); have n1_ := zi (Kd.R_mono (Kd.R_keep (IsS89.apart (show IsS89 w0 _ g s0_0 t638 t639 from by repeat (first | (with_reducible first | exact HI0.out | apply IsS89.alloc | apply IsS89.drewN | apply IsS89.drew | apply IsS89.set_1 | apply IsS89.set_2 | refine IsS89.far ?_ NB0_633.out _) | exact HI0.out)) z3z zt) hk (fun _ h => h.2)) (fun _ h => h.1)); have n2_ := zi (KeepBut.trans z3v hk (.inl rfl)); have n3_ := zi hb; have n4_ := zi hi; clear BK633; clear HO636; clear HK; clear HB; clear HI0; have BK633 := n0_; have HO636 := n1_; have HK := n2_; have HB := n3_; have HI0 := n4_; clear n0_ n1_ n2_ n3_ n4_; (try clear hb); (try clear hb2); (try clear hk); (try clear hi)) | ((with_reducible refine gate_callee (f := 50) rfl ?_); refine goesL_ (some 9) rfl rfl Tryz.func50 zq rfl #[.pointer (some ⟨g, 0, none⟩), .int .i64 3] rfl zy ?_; (with_reducible refine (spec_l1Below.calls g s0_0 t641 t642 3 t643 t644 t645 w0 _ ?side1 ?side2 A4.out).mono ?_); (case side1 => exact z3w); (case side2 => exact z3y); rintro e w12 ⟨rfl, hi, hb, hk⟩; refine ⟨_, rfl, ?_⟩; have n0_ := zi (KeepBut.blk hk (g' := gb633) (o := .cells #[.int .i64 0, .int .i64 0, .int .i64 0, .string (⟨#[]⟩ : ByteArray)] 25 (0, 0)) z3x NB633_0.out (by simp)); have n1_ := zi (Kd.R_mono (Kd.R_keep (IsS89.apart (show IsS89 w0 _ g s0_0 t641 t642 from by repeat (first | (with_reducible first | exact HI0.out | apply IsS89.alloc | apply IsS89.drewN | apply IsS89.drew | apply IsS89.set_1 | apply IsS89.set_2 | refine IsS89.far ?_ NB0_633.out _) | exact HI0.out)) z3z zt) hk (fun _ h => h.2)) (fun _ h => h.1)); have n2_ := zi (KeepBut.trans z3v hk (.inl rfl)); have n3_ := zi hb; have n4_ := zi hi; clear BK633; clear HO636; clear HK; clear HB; clear HI0; have BK633 := n0_; have HO636 := n1_; have HK := n2_; have HB := n3_; have HI0 := n4_; clear n0_ n1_ n2_ n3_ n4_; (try clear hb); (try clear hb2); (try clear hk); (try clear hi)) | ((with_reducible refine gate_dst (N := 11) rfl ?_); refine Kd.R_lit Kd.string _ 9 ?hg (N := 11) ?hd (xs := ([(⟨#[]⟩ : ByteArray), (⟨#[]⟩ : ByteArray), (⟨#[]⟩ : ByteArray), (⟨#[114, 99, 46, 49]⟩ : ByteArray), (⟨#[97, 108, 112, 104, 97]⟩ : ByteArray), (⟨#[114, 99, 46, 50]⟩ : ByteArray), (⟨#[49]⟩ : ByteArray), (⟨#[50, 46, 120]⟩ : ByteArray), (⟨#[98, 101, 116, 97, 45, 49]⟩ : ByteArray), (⟨#[114, 99]⟩ : ByteArray)] : List ByteArray)) (inner := [.string (⟨#[]⟩ : ByteArray), .string (⟨#[]⟩ : ByteArray), .string (⟨#[]⟩ : ByteArray), .string (⟨#[114, 99, 46, 49]⟩ : ByteArray), .string (⟨#[97, 108, 112, 104, 97]⟩ : ByteArray), .string (⟨#[114, 99, 46, 50]⟩ : ByteArray), .string (⟨#[49]⟩ : ByteArray), .string (⟨#[50, 46, 120]⟩ : ByteArray), .string (⟨#[98, 101, 116, 97, 45, 49]⟩ : ByteArray), .string (⟨#[114, 99]⟩ : ByteArray)]) (ok := fun _ => True) (okp := fun _ => True) ?hr ?hp (fun _ hk => hk) trivial (Below.refl _ _) (Nat.le_refl _) (by simp) ?_; (case hd => exact zr); (case hg => exact zr); (case hr => exact z1h); (case hp => exact (Reps.one (show Kd.M Kd.string _ _ _ (⟨#[]⟩ : ByteArray) [.string (⟨#[]⟩ : ByteArray)] from rfl) (Reps.one (show Kd.M Kd.string _ _ _ (⟨#[]⟩ : ByteArray) [.string (⟨#[]⟩ : ByteArray)] from rfl) (Reps.one (show Kd.M Kd.string _ _ _ (⟨#[]⟩ : ByteArray) [.string (⟨#[]⟩ : ByteArray)] from rfl) (Reps.one (show Kd.M Kd.string _ _ _ (⟨#[114, 99, 46, 49]⟩ : ByteArray) [.string (⟨#[114, 99, 46, 49]⟩ : ByteArray)] from rfl) (Reps.one (show Kd.M Kd.string _ _ _ (⟨#[97, 108, 112, 104, 97]⟩ : ByteArray) [.string (⟨#[97, 108, 112, 104, 97]⟩ : ByteArray)] from rfl) (Reps.one (show Kd.M Kd.string _ _ _ (⟨#[114, 99, 46, 50]⟩ : ByteArray) [.string (⟨#[114, 99, 46, 50]⟩ : ByteArray)] from rfl) (Reps.one (show Kd.M Kd.string _ _ _ (⟨#[49]⟩ : ByteArray) [.string (⟨#[49]⟩ : ByteArray)] from rfl) (Reps.one (show Kd.M Kd.string _ _ _ (⟨#[50, 46, 120]⟩ : ByteArray) [.string (⟨#[50, 46, 120]⟩ : ByteArray)] from rfl) (Reps.one (show Kd.M Kd.string _ _ _ (⟨#[98, 101, 116, 97, 45, 49]⟩ : ByteArray) [.string (⟨#[98, 101, 116, 97, 45, 49]⟩ : ByteArray)] from rfl) (Reps.one (show Kd.M Kd.string _ _ _ (⟨#[114, 99]⟩ : ByteArray) [.string (⟨#[114, 99]⟩ : ByteArray)] from rfl) (Reps.none _ _)))))))))))); intro v647 w13 ho14 hb hg_ hnew_; clear hg_ hnew_; (first | rw [← Ny646.out] at ho14 | (simp only [Int.reduceToNat] at ho14; rw [← Ny646.out] at ho14)); have n0_ := zi (Kd.R_below z3z hb); have n1_ := zi (Kd.R_lower ho14 (keep_size (w := w) (g := g) (row := none) z3v)); have n2_ := zi (IsS89.below z3w hb); have n3_ := zi (blk_below (g := gb633) (o := .cells #[.int .i64 0, .int .i64 0, .int .i64 0, .string (⟨#[]⟩ : ByteArray)] 25 (0, 0)) z3x hb); have n4_ := zi (KeepBut.trans z3v (KeepBut.of_below hb g none) (.inl rfl)); have n5_ := zi (below_step z3y hb); clear HO636; clear HI0; clear BK633; clear HK; clear HB; have HO636 := n0_; have HO648 := n1_; have HI0 := n2_; have BK633 := n3_; have HK := n4_; have HB := n5_; clear n0_ n1_ n2_ n3_ n4_ n5_; clear hb ho14; obtain ⟨Ao15, co15, eo15⟩ := Kd.R_slice HO648.out; subst eo15) | ((with_reducible refine gate_callee (f := 54) rfl ?_); refine goesL_ (some 12) rfl rfl Tryz.func54 zq rfl #[.pointer (some ⟨g, 0, none⟩), .slice Ao15 y646.length co15] rfl zy ?_; (with_reducible refine (spec_l1Str.calls g s0_0 t644 t645 _ _ y646 t649 t650 t651 w0 _ ?side1 ?side2 ?side3 ?side4 ?side5 A5.out).mono ?_); (case side1 => exact z3w); (case side2 => exact z3y); (case side3 => repeat (first | exact (Kd.R_reads' HO648.out).2.2 | (with_reducible refine Kd.C_alloc ?_ _) | (with_reducible refine Kd.C_drewN ?_ _) | (with_reducible refine Kd.C_drew ?_))); (case side4 => exact (Kd.R_reads' HO648.out).2.1); (case side5 => exact far_slice (IsS89.own_ne HI0.out HO648.out zt)); rintro e w16 ⟨rfl, hi, hb, hk⟩; refine ⟨_, rfl, ?_⟩; have n0_ := zi (KeepBut.blk hk (g' := gb633) (o := .cells #[.int .i64 0, .int .i64 0, .int .i64 0, .string (⟨#[]⟩ : ByteArray)] 25 (0, 0)) z3x NB633_0.out (by simp)); have n1_ := zi (Kd.R_mono (Kd.R_keep (IsS89.apart (show IsS89 w0 _ g s0_0 t644 t645 from by repeat (first | (with_reducible first | exact HI0.out | apply IsS89.alloc | apply IsS89.drewN | apply IsS89.drew | apply IsS89.set_1 | apply IsS89.set_2 | refine IsS89.far ?_ NB0_633.out _) | exact HI0.out)) z3z zt) hk (fun _ h => h.2)) (fun _ h => h.1)); have n2_ := zi (Kd.R_mono (Kd.R_keep (IsS89.apart (show IsS89 w0 _ g s0_0 t644 t645 from by repeat (first | (with_reducible first | exact HI0.out | apply IsS89.alloc | apply IsS89.drewN | apply IsS89.drew | apply IsS89.set_1 | apply IsS89.set_2 | refine IsS89.far ?_ NB0_633.out _) | exact HI0.out)) (by (with_reducible repeat (first | apply Kd.R_alloc | apply Kd.R_drewN | apply Kd.R_drew)); exact HO648.out) zt) hk (fun _ h => h.2)) (fun _ h => h.1)); have n3_ := zi (KeepBut.trans z3v hk (.inl rfl)); have n4_ := zi hb; have n5_ := zi hi; clear BK633; clear HO636; clear HO648; clear HK; clear HB; clear HI0; have BK633 := n0_; have HO636 := n1_; have HO648 := n2_; have HK := n3_; have HB := n4_; have HI0 := n5_; clear n0_ n1_ n2_ n3_ n4_ n5_; (try clear hb); (try clear hb2); (try clear hk); (try clear hi); have hnb17 := NB633_0.out; have hnc17 := NB0_633.out; obtain ⟨hcz18_0, hcz18_1, hcz18_2, hcz18_3, hfz18_0, hfz18_1, hfz18_2, hfz18_3⟩ := ze BK633.out))
 refine bodyPost_ret (results_cell_row rfl _ _ gb633 25 #[.int .i64 t637, .int .i64 t640, .int .i64 t643, .string t649] (0, 0) _ rfl (by (repeat refine zj ?_); refine blk_put (cs := #[.int .i64 t637, .int .i64 t640, .int .i64 t643, .string (⟨#[]⟩ : ByteArray)]) ?_ 3 _ rfl; (repeat refine zj ?_); refine blk_put (cs := #[.int .i64 t637, .int .i64 t640, .int .i64 0, .string (⟨#[]⟩ : ByteArray)]) ?_ 2 _ rfl; (repeat refine zj ?_); refine blk_put (cs := #[.int .i64 t637, .int .i64 0, .int .i64 0, .string (⟨#[]⟩ : ByteArray)]) ?_ 1 _ rfl; (repeat refine zj ?_); refine blk_put (cs := #[.int .i64 0, .int .i64 0, .int .i64 0, .string (⟨#[]⟩ : ByteArray)]) ?_ 0 _ rfl; (repeat refine zj ?_); exact BK633.out) Tryz.underlying25 rfl zq) rfl ?_
 exact ⟨z1b, z3w, z3y, z3v⟩
def spec_l5Need.f (k : Nat) (s0_0 : List Int) (s0_1 : Int) (s0_2 : Int) : Option (ByteArray × Int × Int × Int × ByteArray × Int × Int) := (spec_l4Path.f s0_0 s0_1 s0_2).bind fun bt653 => ((spec_l3Draw.f s0_0 bt653.2.1 bt653.2.2).bind fun bt656 => ((spec_MajorOf.f k bt653.1).bind fun t663 => (if t663 = 1 then ((spec_l1Once.f s0_0 bt656.2.2.2.2.1 bt656.2.2.2.2.2 4).bind fun bt664 => (if bt664.1 = true then (some (bt653.1, 0, bt656.2.1, bt656.2.2.1, bt656.2.2.2.1, bt664.2.1, bt664.2.2)) else (some (bt653.1, t663, bt656.2.1, bt656.2.2.1, bt656.2.2.2.1, bt664.2.1, bt664.2.2)))) else (some (bt653.1, t663, bt656.2.1, bt656.2.2.1, bt656.2.2.2.1, bt656.2.2.2.2.1, bt656.2.2.2.2.2)))))
set_option maxHeartbeats 8000000 in
set_option maxRecDepth 100000 in
theorem spec_l5Need.calls (k : Nat) (g : Nat) (s0_0 : List Int) (s0_1 : Int) (s0_2 : Int) (r1 : ByteArray) (r2 : Int) (r3 : Int) (r4 : Int) (r5 : ByteArray) (r6 : Int) (r7 : Int) (w0 w : World) (hI : IsS89 w0 w g s0_0 s0_1 s0_2) (hB : Below w0.heap.size w0 w) (h : spec_l5Need.f k s0_0 s0_1 s0_2 = some (r1, r2, r3, r4, r5, r6, r7)) :
  Calls Tryz.prog 52 #[.pointer (some ⟨g, 0, none⟩)] w fun e w' => e = .returned (.agg #[.string r1, .int .i64 r2, .int .i64 r3, .int .i64 r4, .string r5]) ∧ IsS89 w0 w' g s0_0 r6 r7 ∧ Below w0.heap.size w0 w' ∧ KeepBut w w' g none := by
 have hu35 := Tryz.underlying35
 have HI0 := zi hI
 have HK := zi (KeepBut.refl w g none)
 have HL := zi hB.size
 clear hI
 have HW0 := zi hB.size
 have HB := zi hB
 clear hB
 have H := h
 unfold spec_l5Need.f at H
 clear h
 replace H := Option.bind_eq_some_iff.mp H
 obtain ⟨⟨t653, t654, t655⟩, A20, H⟩ := H
 try dsimp only at H
 have A2 := zi A20
 clear A20
 replace H := Option.bind_eq_some_iff.mp H
 obtain ⟨⟨t656, t657, t658, t659, t660, t661⟩, A30, H⟩ := H
 try dsimp only at H
 have A3 := zi A30
 clear A30
 replace H := Option.bind_eq_some_iff.mp H
 obtain ⟨t663, A40, H⟩ := H
 try dsimp only at H
 have A4 := zi A40
 clear A40
 by_cases c5 : t663 = 1
 ·rw [if_pos c5] at H
  have c5b0 : (t663 == 1) = true := beq_iff_eq.mpr c5
  have c5b1 : (t663 != 1) = false := bne_eq_false_iff_eq.mpr c5
  clear c5
  replace H := Option.bind_eq_some_iff.mp H
  obtain ⟨⟨t664, t665, t666⟩, A60, H⟩ := H
  try dsimp only at H
  have A6 := zi A60
  clear A60
  by_cases c7 : t664 = true
  ·subst c7
   rw [if_pos rfl] at H
   simp only [Option.some.injEq, Prod.mk.injEq] at H
   obtain ⟨rfl, rfl, rfl, rfl, rfl, rfl, rfl⟩ := H
   go_enter Tryz.func52, Tryz.ntmps52
   go_wp2_with (first | ((with_reducible refine gate_dst (N := 2) rfl ?_); refine box_event zr (N := 2) zr (cs := #[.string (⟨#[]⟩ : ByteArray), .int .i64 0, .int .i64 0, .int .i64 0, .string (⟨#[]⟩ : ByteArray)]) (t := 35) z1h ?_; intro gb652 hg w8 hbox hb; have n0_ := zi (IsS89.below z3q hb); have n1_ := zi (KeepBut.trans z3s (KeepBut.of_below hb g none) (.inl rfl)); have n2_ := zi (below_step z3r hb); have n3_ := zi hbox; have n4_ := zi ((z7e : w.heap.size ≤ gb652)); have n5_ := zi ((Nat.le_trans HW0.out (z7e : w.heap.size ≤ gb652) : w0.heap.size ≤ gb652)); have n6_ := zi ((z3t : g ≠ gb652)); have n7_ := zi ((z3u : gb652 ≠ g)); clear HI0; clear HK; clear HB; have HI0 := n0_; have HK := n1_; have HB := n2_; have BK652 := n3_; have GW652 := n4_; have GE652 := n5_; have NB0_652 := n6_; have NB652_0 := n7_; clear n0_ n1_ n2_ n3_ n4_ n5_ n6_ n7_; clear hb hbox hg) | ((with_reducible refine gate_callee (f := 84) rfl ?_); refine goesL_ (some 5) rfl rfl Tryz.func84 zq rfl #[.pointer (some ⟨g, 0, none⟩)] rfl zy ?_; (with_reducible refine (spec_l4Path.calls g s0_0 s0_1 s0_2 t653 t654 t655 w0 _ ?side1 ?side2 A2.out).mono ?_); (case side1 => exact z4c); (case side2 => exact z4d); rintro e w9 ⟨rfl, hi, hb, hk⟩; refine ⟨_, rfl, ?_⟩; have n0_ := zi (KeepBut.blk hk (g' := gb652) (o := .cells #[.string (⟨#[]⟩ : ByteArray), .int .i64 0, .int .i64 0, .int .i64 0, .string (⟨#[]⟩ : ByteArray)] 35 (0, 0)) z4a NB652_0.out (by simp)); have n1_ := zi (KeepBut.trans z4b hk (.inl rfl)); have n2_ := zi hb; have n3_ := zi hi; clear BK652; clear HK; clear HB; clear HI0; have BK652 := n0_; have HK := n1_; have HB := n2_; have HI0 := n3_; clear n0_ n1_ n2_ n3_; (try clear hb); (try clear hb2); (try clear hk); (try clear hi)) | ((with_reducible refine gate_callee (f := 85) rfl ?_); refine goesL_ (some 7) rfl rfl Tryz.func85 zq rfl #[.pointer (some ⟨g, 0, none⟩)] rfl zy ?_; (with_reducible refine (spec_l3Draw.calls g s0_0 t654 t655 t656 t657 t658 t659 t660 t661 w0 _ ?side1 ?side2 A3.out).mono ?_); (case side1 => exact z4c); (case side2 => exact z4d); rintro e w10 ⟨rfl, hi, hb, hk⟩; refine ⟨_, rfl, ?_⟩; have n0_ := zi (KeepBut.blk hk (g' := gb652) (o := .cells #[.string (⟨#[]⟩ : ByteArray), .int .i64 0, .int .i64 0, .int .i64 0, .string (⟨#[]⟩ : ByteArray)] 35 (0, 0)) z4a NB652_0.out (by simp)); have n1_ := zi (KeepBut.trans z4b hk (.inl rfl)); have n2_ := zi hb; have n3_ := zi hi; clear BK652; clear HK; clear HB; clear HI0; have BK652 := n0_; have HK := n1_; have HB := n2_; have HI0 := n3_; clear n0_ n1_ n2_ n3_; (try clear hb); (try clear hb2); (try clear hk); (try clear hi)) | ((with_reducible refine gate_dst (N := 3) rfl ?_); refine box_event zr (N := 3) zr (cs := #[.string (⟨#[]⟩ : ByteArray), .int .i64 0, .int .i64 0, .int .i64 0, .string (⟨#[]⟩ : ByteArray)]) (t := 35) z1h ?_; intro gb662 hg w11 hbox hb; have n0_ := zi (IsS89.below z4c hb); have n1_ := zi (blk_below (g := gb652) (o := .cells #[.string (⟨#[]⟩ : ByteArray), .int .i64 0, .int .i64 0, .int .i64 0, .string (⟨#[]⟩ : ByteArray)] 35 (0, 0)) z4a hb); have n2_ := zi (KeepBut.trans z4b (KeepBut.of_below hb g none) (.inl rfl)); have n3_ := zi (below_step z4d hb); have n4_ := zi hbox; have n5_ := zi ((z7f : w.heap.size ≤ gb662)); have n6_ := zi ((Nat.le_trans HW0.out (z7f : w.heap.size ≤ gb662) : w0.heap.size ≤ gb662)); have n7_ := zi ((z7g : gb652 ≠ gb662)); have n8_ := zi ((z7h : gb662 ≠ gb652)); have n9_ := zi ((z4e : g ≠ gb662)); have n10_ := zi ((z4f : gb662 ≠ g)); clear HI0; clear BK652; clear HK; clear HB; have HI0 := n0_; have BK652 := n1_; have HK := n2_; have HB := n3_; have BK662 := n4_; have GW662 := n5_; have GE662 := n6_; have NB652_662 := n7_; have NB662_652 := n8_; have NB0_662 := n9_; have NB662_0 := n10_; clear n0_ n1_ n2_ n3_ n4_ n5_ n6_ n7_ n8_ n9_ n10_; clear hb hbox hg; have hnb12 := NB662_652.out; have hnc12 := NB652_662.out; have hnb13 := NB662_0.out; have hnc13 := NB0_662.out; obtain ⟨hcz14_0, hcz14_1, hcz14_2, hcz14_3, hcz14_4, hfz14_0, hfz14_1, hfz14_2, hfz14_3, hfz14_4⟩ := zf BK662.out) | ((with_reducible refine gate_callee (f := 67) rfl ?_); refine goesL_ (some 11) rfl rfl Tryz.func67 zq rfl #[.string t653] rfl zy ?_; (with_reducible refine (spec_MajorOf.calls k t653 t663 _ A4.out).mono ?_); rintro e w15 ⟨rfl, hb⟩; refine ⟨_, rfl, ?_⟩; have n0_ := zi (IsS89.below (show IsS89 w0 (((((w11.setCell ⟨gb662, 0, none⟩ (.string t653)).setCell ⟨gb662, 1, none⟩ (.int .i64 t656)).setCell ⟨gb662, 2, none⟩ (.int .i64 t657)).setCell ⟨gb662, 3, none⟩ (.int .i64 t658)).setCell ⟨gb662, 4, none⟩ (.string t659)) g s0_0 t660 t661 from by repeat (first | (with_reducible first | exact HI0.out | apply IsS89.alloc | apply IsS89.drewN | apply IsS89.drew | apply IsS89.set_1 | apply IsS89.set_2 | refine IsS89.far ?_ NB0_652.out _ | refine IsS89.far ?_ NB0_662.out _) | exact HI0.out)) hb); have n1_ := zi (blk_below (g := gb652) (o := .cells #[.string (⟨#[]⟩ : ByteArray), .int .i64 0, .int .i64 0, .int .i64 0, .string (⟨#[]⟩ : ByteArray)] 35 (0, 0)) z4g hb); have n2_ := zi (blk_below (g := gb662) (o := .cells #[.string t653, .int .i64 t656, .int .i64 t657, .int .i64 t658, .string t659] 35 (0, 0)) z4h hb); have n3_ := zi (KeepBut.trans z4i (KeepBut.of_below hb g none) (.inl rfl)); have n4_ := zi (below_step z4j hb); clear HI0; clear BK652; clear BK662; clear HK; clear HB; have HI0 := n0_; have BK652 := n1_; have BK662 := n2_; have HK := n3_; have HB := n4_; clear n0_ n1_ n2_ n3_ n4_; (try clear hb); (try clear hb2); (try clear hk); (try clear hi); obtain ⟨hcz16_0, hcz16_1, hcz16_2, hcz16_3, hcz16_4, hfz16_0, hfz16_1, hfz16_2, hfz16_3, hfz16_4⟩ := zf BK662.out) | (go_at_call 53; (with_reducible refine (spec_l1Once.calls g s0_0 t660 t661 4 true t665 t666 w0 _ ?side1 ?side2 A6.out).mono ?_); (case side1 => exact z4k); (case side2 => exact z4j); rintro e w17 ⟨rfl, hi, hb, hk⟩; have n0_ := zi (KeepBut.blk hk (g' := gb652) (o := .cells #[.string (⟨#[]⟩ : ByteArray), .int .i64 0, .int .i64 0, .int .i64 0, .string (⟨#[]⟩ : ByteArray)] 35 (0, 0)) (by (repeat refine zj ?_); refine blk_far ?_ NB652_662.out _; (repeat refine zj ?_); exact BK652.out) NB652_0.out (by simp)); have n1_ := zi (KeepBut.blk hk (g' := gb662) (o := .cells #[.string t653, .int .i64 t663, .int .i64 t657, .int .i64 t658, .string t659] 35 (0, 0)) (by (repeat refine zj ?_); refine blk_put (cs := #[.string t653, .int .i64 t656, .int .i64 t657, .int .i64 t658, .string t659]) ?_ 1 _ rfl; (repeat refine zj ?_); exact BK662.out) NB662_0.out (by simp)); have n2_ := zi (KeepBut.trans z4i hk (.inl rfl)); have n3_ := zi hb; have n4_ := zi hi; clear BK652; clear BK662; clear HK; clear HB; clear HI0; have BK652 := n0_; have BK662 := n1_; have HK := n2_; have HB := n3_; have HI0 := n4_; clear n0_ n1_ n2_ n3_ n4_; (try clear hb); (try clear hb2); (try clear hk); (try clear hi); obtain ⟨hcz18_0, hcz18_1, hcz18_2, hcz18_3, hcz18_4, hfz18_0, hfz18_1, hfz18_2, hfz18_3, hfz18_4⟩ := zf BK662.out; have hnb19 := NB652_0.out; have hnc19 := NB0_652.out; obtain ⟨hcz20_0, hcz20_1, hcz20_2, hcz20_3, hcz20_4, hfz20_0, hfz20_1, hfz20_2, hfz20_3, hfz20_4⟩ := zf BK652.out))
   refine bodyPost_ret (results_cell_row rfl _ _ gb652 35 #[.string t653, .int .i64 0, .int .i64 t657, .int .i64 t658, .string t659] (0, 0) _ rfl (by (repeat refine zj ?_); refine blk_put (cs := #[.string t653, .int .i64 0, .int .i64 t657, .int .i64 t658, .string (⟨#[]⟩ : ByteArray)]) ?_ 4 _ rfl; (repeat refine zj ?_); refine blk_put (cs := #[.string t653, .int .i64 0, .int .i64 t657, .int .i64 0, .string (⟨#[]⟩ : ByteArray)]) ?_ 3 _ rfl; (repeat refine zj ?_); refine blk_put (cs := #[.string t653, .int .i64 0, .int .i64 0, .int .i64 0, .string (⟨#[]⟩ : ByteArray)]) ?_ 2 _ rfl; (repeat refine zj ?_); refine blk_put (cs := #[.string t653, .int .i64 0, .int .i64 0, .int .i64 0, .string (⟨#[]⟩ : ByteArray)]) ?_ 1 _ rfl; (repeat refine zj ?_); refine blk_put (cs := #[.string (⟨#[]⟩ : ByteArray), .int .i64 0, .int .i64 0, .int .i64 0, .string (⟨#[]⟩ : ByteArray)]) ?_ 0 _ rfl; (repeat refine zj ?_); refine blk_far ?_ NB652_662.out _; (repeat refine zj ?_); exact BK652.out) Tryz.underlying35 rfl zq) rfl ?_
   exact ⟨z1b, z4k, z4j, z4i⟩
  ·replace c7 := Bool.eq_false_iff.mpr c7
   subst c7
   rw [if_neg zh] at H
   simp only [Option.some.injEq, Prod.mk.injEq] at H
   obtain ⟨rfl, rfl, rfl, rfl, rfl, rfl, rfl⟩ := H
   go_enter Tryz.func52, Tryz.ntmps52
   go_wp2_with (first | ((with_reducible refine gate_dst (N := 2) rfl ?_); refine box_event zr (N := 2) zr (cs := #[.string (⟨#[]⟩ : ByteArray), .int .i64 0, .int .i64 0, .int .i64 0, .string (⟨#[]⟩ : ByteArray)]) (t := 35) z1h ?_; intro gb652 hg w21 hbox hb; have n0_ := zi (IsS89.below z3q hb); have n1_ := zi (KeepBut.trans z3s (KeepBut.of_below hb g none) (.inl rfl)); have n2_ := zi (below_step z3r hb); have n3_ := zi hbox; have n4_ := zi ((z7e : w.heap.size ≤ gb652)); have n5_ := zi ((Nat.le_trans HW0.out (z7e : w.heap.size ≤ gb652) : w0.heap.size ≤ gb652)); have n6_ := zi ((z3t : g ≠ gb652)); have n7_ := zi ((z3u : gb652 ≠ g)); clear HI0; clear HK; clear HB; have HI0 := n0_; have HK := n1_; have HB := n2_; have BK652 := n3_; have GW652 := n4_; have GE652 := n5_; have NB0_652 := n6_; have NB652_0 := n7_; clear n0_ n1_ n2_ n3_ n4_ n5_ n6_ n7_; clear hb hbox hg) | ((with_reducible refine gate_callee (f := 84) rfl ?_); refine goesL_ (some 5) rfl rfl Tryz.func84 zq rfl #[.pointer (some ⟨g, 0, none⟩)] rfl zy ?_; (with_reducible refine (spec_l4Path.calls g s0_0 s0_1 s0_2 t653 t654 t655 w0 _ ?side1 ?side2 A2.out).mono ?_); (case side1 => exact z4c); (case side2 => exact z4d); rintro e w22 ⟨rfl, hi, hb, hk⟩; refine ⟨_, rfl, ?_⟩; have n0_ := zi (KeepBut.blk hk (g' := gb652) (o := .cells #[.string (⟨#[]⟩ : ByteArray), .int .i64 0, .int .i64 0, .int .i64 0, .string (⟨#[]⟩ : ByteArray)] 35 (0, 0)) z4a NB652_0.out (by simp)); have n1_ := zi (KeepBut.trans z4b hk (.inl rfl)); have n2_ := zi hb; have n3_ := zi hi; clear BK652; clear HK; clear HB; clear HI0; have BK652 := n0_; have HK := n1_; have HB := n2_; have HI0 := n3_; clear n0_ n1_ n2_ n3_; (try clear hb); (try clear hb2); (try clear hk); (try clear hi)) | ((with_reducible refine gate_callee (f := 85) rfl ?_); refine goesL_ (some 7) rfl rfl Tryz.func85 zq rfl #[.pointer (some ⟨g, 0, none⟩)] rfl zy ?_; (with_reducible refine (spec_l3Draw.calls g s0_0 t654 t655 t656 t657 t658 t659 t660 t661 w0 _ ?side1 ?side2 A3.out).mono ?_); (case side1 => exact z4c); (case side2 => exact z4d); rintro e w23 ⟨rfl, hi, hb, hk⟩; refine ⟨_, rfl, ?_⟩; have n0_ := zi (KeepBut.blk hk (g' := gb652) (o := .cells #[.string (⟨#[]⟩ : ByteArray), .int .i64 0, .int .i64 0, .int .i64 0, .string (⟨#[]⟩ : ByteArray)] 35 (0, 0)) z4a NB652_0.out (by simp)); have n1_ := zi (KeepBut.trans z4b hk (.inl rfl)); have n2_ := zi hb; have n3_ := zi hi; clear BK652; clear HK; clear HB; clear HI0; have BK652 := n0_; have HK := n1_; have HB := n2_; have HI0 := n3_; clear n0_ n1_ n2_ n3_; (try clear hb); (try clear hb2); (try clear hk); (try clear hi)) | ((with_reducible refine gate_dst (N := 3) rfl ?_); refine box_event zr (N := 3) zr (cs := #[.string (⟨#[]⟩ : ByteArray), .int .i64 0, .int .i64 0, .int .i64 0, .string (⟨#[]⟩ : ByteArray)]) (t := 35) z1h ?_; intro gb662 hg w24 hbox hb; have n0_ := zi (IsS89.below z4c hb); have n1_ := zi (blk_below (g := gb652) (o := .cells #[.string (⟨#[]⟩ : ByteArray), .int .i64 0, .int .i64 0, .int .i64 0, .string (⟨#[]⟩ : ByteArray)] 35 (0, 0)) z4a hb); have n2_ := zi (KeepBut.trans z4b (KeepBut.of_below hb g none) (.inl rfl)); have n3_ := zi (below_step z4d hb); have n4_ := zi hbox; have n5_ := zi ((z7f : w.heap.size ≤ gb662)); have n6_ := zi ((Nat.le_trans HW0.out (z7f : w.heap.size ≤ gb662) : w0.heap.size ≤ gb662)); have n7_ := zi ((z7g : gb652 ≠ gb662)); have n8_ := zi ((z7h : gb662 ≠ gb652)); have n9_ := zi ((z4e : g ≠ gb662)); have n10_ := zi ((z4f : gb662 ≠ g)); clear HI0; clear BK652; clear HK; clear HB; have HI0 := n0_; have BK652 := n1_; have HK := n2_; have HB := n3_; have BK662 := n4_; have GW662 := n5_; have GE662 := n6_; have NB652_662 := n7_; have NB662_652 := n8_; have NB0_662 := n9_; have NB662_0 := n10_; clear n0_ n1_ n2_ n3_ n4_ n5_ n6_ n7_ n8_ n9_ n10_; clear hb hbox hg; have hnb25 := NB662_652.out; have hnc25 := NB652_662.out; have hnb26 := NB662_0.out; have hnc26 := NB0_662.out; obtain ⟨hcz27_0, hcz27_1, hcz27_2, hcz27_3, hcz27_4, hfz27_0, hfz27_1, hfz27_2, hfz27_3, hfz27_4⟩ := zf BK662.out) | ((with_reducible refine gate_callee (f := 67) rfl ?_); refine goesL_ (some 11) rfl rfl Tryz.func67 zq rfl #[.string t653] rfl zy ?_; (with_reducible refine (spec_MajorOf.calls k t653 t663 _ A4.out).mono ?_); rintro e w28 ⟨rfl, hb⟩; refine ⟨_, rfl, ?_⟩; have n0_ := zi (IsS89.below (show IsS89 w0 (((((w24.setCell ⟨gb662, 0, none⟩ (.string t653)).setCell ⟨gb662, 1, none⟩ (.int .i64 t656)).setCell ⟨gb662, 2, none⟩ (.int .i64 t657)).setCell ⟨gb662, 3, none⟩ (.int .i64 t658)).setCell ⟨gb662, 4, none⟩ (.string t659)) g s0_0 t660 t661 from by repeat (first | (with_reducible first | exact HI0.out | apply IsS89.alloc | apply IsS89.drewN | apply IsS89.drew | apply IsS89.set_1 | apply IsS89.set_2 | refine IsS89.far ?_ NB0_652.out _ | refine IsS89.far ?_ NB0_662.out _) | exact HI0.out)) hb); have n1_ := zi (blk_below (g := gb652) (o := .cells #[.string (⟨#[]⟩ : ByteArray), .int .i64 0, .int .i64 0, .int .i64 0, .string (⟨#[]⟩ : ByteArray)] 35 (0, 0)) z4g hb); have n2_ := zi (blk_below (g := gb662) (o := .cells #[.string t653, .int .i64 t656, .int .i64 t657, .int .i64 t658, .string t659] 35 (0, 0)) z4h hb); have n3_ := zi (KeepBut.trans z4i (KeepBut.of_below hb g none) (.inl rfl)); have n4_ := zi (below_step z4j hb); clear HI0; clear BK652; clear BK662; clear HK; clear HB; have HI0 := n0_; have BK652 := n1_; have BK662 := n2_; have HK := n3_; have HB := n4_; clear n0_ n1_ n2_ n3_ n4_; (try clear hb); (try clear hb2); (try clear hk); (try clear hi); obtain ⟨hcz29_0, hcz29_1, hcz29_2, hcz29_3, hcz29_4, hfz29_0, hfz29_1, hfz29_2, hfz29_3, hfz29_4⟩ := zf BK662.out) | (go_at_call 53; (with_reducible refine (spec_l1Once.calls g s0_0 t660 t661 4 false t665 t666 w0 _ ?side1 ?side2 A6.out).mono ?_); (case side1 => exact z4k); (case side2 => exact z4j); rintro e w30 ⟨rfl, hi, hb, hk⟩; have n0_ := zi (KeepBut.blk hk (g' := gb652) (o := .cells #[.string (⟨#[]⟩ : ByteArray), .int .i64 0, .int .i64 0, .int .i64 0, .string (⟨#[]⟩ : ByteArray)] 35 (0, 0)) (by (repeat refine zj ?_); refine blk_far ?_ NB652_662.out _; (repeat refine zj ?_); exact BK652.out) NB652_0.out (by simp)); have n1_ := zi (KeepBut.blk hk (g' := gb662) (o := .cells #[.string t653, .int .i64 t663, .int .i64 t657, .int .i64 t658, .string t659] 35 (0, 0)) (by (repeat refine zj ?_); refine blk_put (cs := #[.string t653, .int .i64 t656, .int .i64 t657, .int .i64 t658, .string t659]) ?_ 1 _ rfl; (repeat refine zj ?_); exact BK662.out) NB662_0.out (by simp)); have n2_ := zi (KeepBut.trans z4i hk (.inl rfl)); have n3_ := zi hb; have n4_ := zi hi; clear BK652; clear BK662; clear HK; clear HB; clear HI0; have BK652 := n0_; have BK662 := n1_; have HK := n2_; have HB := n3_; have HI0 := n4_; clear n0_ n1_ n2_ n3_ n4_; (try clear hb); (try clear hb2); (try clear hk); (try clear hi); obtain ⟨hcz31_0, hcz31_1, hcz31_2, hcz31_3, hcz31_4, hfz31_0, hfz31_1, hfz31_2, hfz31_3, hfz31_4⟩ := zf BK662.out; have hnb32 := NB652_0.out; have hnc32 := NB0_652.out; obtain ⟨hcz33_0, hcz33_1, hcz33_2, hcz33_3, hcz33_4, hfz33_0, hfz33_1, hfz33_2, hfz33_3, hfz33_4⟩ := zf BK652.out))
   refine bodyPost_ret (results_cell_row rfl _ _ gb652 35 #[.string t653, .int .i64 t663, .int .i64 t657, .int .i64 t658, .string t659] (0, 0) _ rfl (by (repeat refine zj ?_); refine blk_put (cs := #[.string t653, .int .i64 t663, .int .i64 t657, .int .i64 t658, .string (⟨#[]⟩ : ByteArray)]) ?_ 4 _ rfl; (repeat refine zj ?_); refine blk_put (cs := #[.string t653, .int .i64 t663, .int .i64 t657, .int .i64 0, .string (⟨#[]⟩ : ByteArray)]) ?_ 3 _ rfl; (repeat refine zj ?_); refine blk_put (cs := #[.string t653, .int .i64 t663, .int .i64 0, .int .i64 0, .string (⟨#[]⟩ : ByteArray)]) ?_ 2 _ rfl; (repeat refine zj ?_); refine blk_put (cs := #[.string t653, .int .i64 0, .int .i64 0, .int .i64 0, .string (⟨#[]⟩ : ByteArray)]) ?_ 1 _ rfl; (repeat refine zj ?_); refine blk_put (cs := #[.string (⟨#[]⟩ : ByteArray), .int .i64 0, .int .i64 0, .int .i64 0, .string (⟨#[]⟩ : ByteArray)]) ?_ 0 _ rfl; (repeat refine zj ?_); exact BK652.out) Tryz.underlying35 rfl zq) rfl ?_
   exact ⟨z1b, z4k, z4j, z4i⟩
 ·rw [if_neg c5] at H
  have c5b0 : (t663 == 1) = false := beq_eq_false_iff_ne.mpr c5
  have c5b1 : (t663 != 1) = true := bne_iff_ne.mpr c5
  simp only [Option.some.injEq, Prod.mk.injEq] at H
  obtain ⟨rfl, rfl, rfl, rfl, rfl, rfl, rfl⟩ := H
  go_enter Tryz.func52, Tryz.ntmps52
  go_wp2_with (first | ((with_reducible refine gate_dst (N := 2) rfl ?_); refine box_event zr (N := 2) zr (cs := #[.string (⟨#[]⟩ : ByteArray), .int .i64 0, .int .i64 0, .int .i64 0, .string (⟨#[]⟩ : ByteArray)]) (t := 35) z1h ?_; intro gb652 hg w34 hbox hb; have n0_ := zi (IsS89.below z3q hb); have n1_ := zi (KeepBut.trans z3s (KeepBut.of_below hb g none) (.inl rfl)); have n2_ := zi (below_step z3r hb); have n3_ := zi hbox; have n4_ := zi ((z7e : w.heap.size ≤ gb652)); have n5_ := zi ((Nat.le_trans HW0.out (z7e : w.heap.size ≤ gb652) : w0.heap.size ≤ gb652)); have n6_ := zi ((z3t : g ≠ gb652)); have n7_ := zi ((z3u : gb652 ≠ g)); clear HI0; clear HK; clear HB; have HI0 := n0_; have HK := n1_; have HB := n2_; have BK652 := n3_; have GW652 := n4_; have GE652 := n5_; have NB0_652 := n6_; have NB652_0 := n7_; clear n0_ n1_ n2_ n3_ n4_ n5_ n6_ n7_; clear hb hbox hg) | ((with_reducible refine gate_callee (f := 84) rfl ?_); refine goesL_ (some 5) rfl rfl Tryz.func84 zq rfl #[.pointer (some ⟨g, 0, none⟩)] rfl zy ?_; (with_reducible refine (spec_l4Path.calls g s0_0 s0_1 s0_2 t653 t654 t655 w0 _ ?side1 ?side2 A2.out).mono ?_); (case side1 => exact z4c); (case side2 => exact z4d); rintro e w35 ⟨rfl, hi, hb, hk⟩; refine ⟨_, rfl, ?_⟩; have n0_ := zi (KeepBut.blk hk (g' := gb652) (o := .cells #[.string (⟨#[]⟩ : ByteArray), .int .i64 0, .int .i64 0, .int .i64 0, .string (⟨#[]⟩ : ByteArray)] 35 (0, 0)) z4a NB652_0.out (by simp)); have n1_ := zi (KeepBut.trans z4b hk (.inl rfl)); have n2_ := zi hb; have n3_ := zi hi; clear BK652; clear HK; clear HB; clear HI0; have BK652 := n0_; have HK := n1_; have HB := n2_; have HI0 := n3_; clear n0_ n1_ n2_ n3_; (try clear hb); (try clear hb2); (try clear hk); (try clear hi)) | ((with_reducible refine gate_callee (f := 85) rfl ?_); refine goesL_ (some 7) rfl rfl Tryz.func85 zq rfl #[.pointer (some ⟨g, 0, none⟩)] rfl zy ?_; (with_reducible refine (spec_l3Draw.calls g s0_0 t654 t655 t656 t657 t658 t659 t660 t661 w0 _ ?side1 ?side2 A3.out).mono ?_); (case side1 => exact z4c); (case side2 => exact z4d); rintro e w36 ⟨rfl, hi, hb, hk⟩; refine ⟨_, rfl, ?_⟩; have n0_ := zi (KeepBut.blk hk (g' := gb652) (o := .cells #[.string (⟨#[]⟩ : ByteArray), .int .i64 0, .int .i64 0, .int .i64 0, .string (⟨#[]⟩ : ByteArray)] 35 (0, 0)) z4a NB652_0.out (by simp)); have n1_ := zi (KeepBut.trans z4b hk (.inl rfl)); have n2_ := zi hb; have n3_ := zi hi; clear BK652; clear HK; clear HB; clear HI0; have BK652 := n0_; have HK := n1_; have HB := n2_; have HI0 := n3_; clear n0_ n1_ n2_ n3_; (try clear hb); (try clear hb2); (try clear hk); (try clear hi)) | ((with_reducible refine gate_dst (N := 3) rfl ?_); refine box_event zr (N := 3) zr (cs := #[.string (⟨#[]⟩ : ByteArray), .int .i64 0, .int .i64 0, .int .i64 0, .string (⟨#[]⟩ : ByteArray)]) (t := 35) z1h ?_; intro gb662 hg w37 hbox hb; have n0_ := zi (IsS89.below z4c hb); have n1_ := zi (blk_below (g := gb652) (o := .cells #[.string (⟨#[]⟩ : ByteArray), .int .i64 0, .int .i64 0, .int .i64 0, .string (⟨#[]⟩ : ByteArray)] 35 (0, 0)) z4a hb); have n2_ := zi (KeepBut.trans z4b (KeepBut.of_below hb g none) (.inl rfl)); have n3_ := zi (below_step z4d hb); have n4_ := zi hbox; have n5_ := zi ((z7f : w.heap.size ≤ gb662)); have n6_ := zi ((Nat.le_trans HW0.out (z7f : w.heap.size ≤ gb662) : w0.heap.size ≤ gb662)); have n7_ := zi ((z7g : gb652 ≠ gb662)); have n8_ := zi ((z7h : gb662 ≠ gb652)); have n9_ := zi ((z4e : g ≠ gb662)); have n10_ := zi ((z4f : gb662 ≠ g)); clear HI0; clear BK652; clear HK; clear HB; have HI0 := n0_; have BK652 := n1_; have HK := n2_; have HB := n3_; have BK662 := n4_; have GW662 := n5_; have GE662 := n6_; have NB652_662 := n7_; have NB662_652 := n8_; have NB0_662 := n9_; have NB662_0 := n10_; clear n0_ n1_ n2_ n3_ n4_ n5_ n6_ n7_ n8_ n9_ n10_; clear hb hbox hg; have hnb38 := NB662_652.out; have hnc38 := NB652_662.out; have hnb39 := NB662_0.out; have hnc39 := NB0_662.out; obtain ⟨hcz40_0, hcz40_1, hcz40_2, hcz40_3, hcz40_4, hfz40_0, hfz40_1, hfz40_2, hfz40_3, hfz40_4⟩ := zf BK662.out) | ((with_reducible refine gate_callee (f := 67) rfl ?_); refine goesL_ (some 11) rfl rfl Tryz.func67 zq rfl #[.string t653] rfl zy ?_; (with_reducible refine (spec_MajorOf.calls k t653 t663 _ A4.out).mono ?_); rintro e w41 ⟨rfl, hb⟩; refine ⟨_, rfl, ?_⟩; have n0_ := zi (IsS89.below (show IsS89 w0 (((((w37.setCell ⟨gb662, 0, none⟩ (.string t653)).setCell ⟨gb662, 1, none⟩ (.int .i64 t656)).setCell ⟨gb662, 2, none⟩ (.int .i64 t657)).setCell ⟨gb662, 3, none⟩ (.int .i64 t658)).setCell ⟨gb662, 4, none⟩ (.string t659)) g s0_0 t660 t661 from by repeat (first | (with_reducible first | exact HI0.out | apply IsS89.alloc | apply IsS89.drewN | apply IsS89.drew | apply IsS89.set_1 | apply IsS89.set_2 | refine IsS89.far ?_ NB0_652.out _ | refine IsS89.far ?_ NB0_662.out _) | exact HI0.out)) hb); have n1_ := zi (blk_below (g := gb652) (o := .cells #[.string (⟨#[]⟩ : ByteArray), .int .i64 0, .int .i64 0, .int .i64 0, .string (⟨#[]⟩ : ByteArray)] 35 (0, 0)) z4g hb); have n2_ := zi (blk_below (g := gb662) (o := .cells #[.string t653, .int .i64 t656, .int .i64 t657, .int .i64 t658, .string t659] 35 (0, 0)) z4h hb); have n3_ := zi (KeepBut.trans z4i (KeepBut.of_below hb g none) (.inl rfl)); have n4_ := zi (below_step z4j hb); clear HI0; clear BK652; clear BK662; clear HK; clear HB; have HI0 := n0_; have BK652 := n1_; have BK662 := n2_; have HK := n3_; have HB := n4_; clear n0_ n1_ n2_ n3_ n4_; (try clear hb); (try clear hb2); (try clear hk); (try clear hi); obtain ⟨hcz42_0, hcz42_1, hcz42_2, hcz42_3, hcz42_4, hfz42_0, hfz42_1, hfz42_2, hfz42_3, hfz42_4⟩ := zf BK662.out; have hnb43 := NB652_0.out; have hnc43 := NB0_652.out; obtain ⟨hcz44_0, hcz44_1, hcz44_2, hcz44_3, hcz44_4, hfz44_0, hfz44_1, hfz44_2, hfz44_3, hfz44_4⟩ := zf BK652.out))
  refine bodyPost_ret (results_cell_row rfl _ _ gb652 35 #[.string t653, .int .i64 t663, .int .i64 t657, .int .i64 t658, .string t659] (0, 0) _ rfl (by (repeat refine zj ?_); refine blk_put (cs := #[.string t653, .int .i64 t663, .int .i64 t657, .int .i64 t658, .string (⟨#[]⟩ : ByteArray)]) ?_ 4 _ rfl; (repeat refine zj ?_); refine blk_put (cs := #[.string t653, .int .i64 t663, .int .i64 t657, .int .i64 0, .string (⟨#[]⟩ : ByteArray)]) ?_ 3 _ rfl; (repeat refine zj ?_); refine blk_put (cs := #[.string t653, .int .i64 t663, .int .i64 0, .int .i64 0, .string (⟨#[]⟩ : ByteArray)]) ?_ 2 _ rfl; (repeat refine zj ?_); refine blk_put (cs := #[.string t653, .int .i64 0, .int .i64 0, .int .i64 0, .string (⟨#[]⟩ : ByteArray)]) ?_ 1 _ rfl; (repeat refine zj ?_); refine blk_put (cs := #[.string (⟨#[]⟩ : ByteArray), .int .i64 0, .int .i64 0, .int .i64 0, .string (⟨#[]⟩ : ByteArray)]) ?_ 0 _ rfl; (repeat refine zj ?_); refine blk_far ?_ NB652_662.out _; (repeat refine zj ?_); exact BK652.out) Tryz.underlying35 rfl zq) rfl ?_
  exact ⟨z1b, z4k, z4j, z4i⟩
mutual
def spec_l5Put.l0 : Nat → List (S35) → List (S35) → Bool → Int → ByteArray → Int → Int → Int → ByteArray → Option ((List (S35)))
 | 0, _, _, _, _, _, _, _, _, _ => none
 | k + 1, x0, x5, x6, x7, x668000, x668001, x668002, x668003, x668004 => if x7 < (x0.length : Int) then (if x6 = true then (spec_l5Put.j1 k x0 x5 x6 x7 false x668000 x668001 x668002 x668003 x668004) else (if 0 ≤ x7 then (spec_l5Put.j1 k x0 x5 x6 x7 (!(Op.bytesLess (((rd_T35 x0 x7).f0).toList) x668000.toList)) x668000 x668001 x668002 x668003 x668004) else (none))) else (if x6 = true then (some x5) else (if x5.length < 2513169434916 then (some (x5 ++ [(⟨x668000, (⟨x668001, x668002, x668003, x668004⟩ : S25)⟩ : S35)])) else (none)))
def spec_l5Put.j1 : Nat → List (S35) → List (S35) → Bool → Int → Bool → ByteArray → Int → Int → Int → ByteArray → Option ((List (S35)))
 | 0, _, _, _, _, _, _, _, _, _, _ => none
 | k + 1, x0, x5, x6, x7, x26, x668000, x668001, x668002, x668003, x668004 => if x26 = true then (if x5.length < 2513169434916 then ((some (x5 ++ [(⟨x668000, (⟨x668001, x668002, x668003, x668004⟩ : S25)⟩ : S35)] : List (S35))).bind fun y675 => (if 0 ≤ x7 then (if x7 < (x0.length : Int) then (if ((rd_T35 x0 x7).f0).toList = x668000.toList then (spec_l5Put.l0 k x0 y675 true (wrap64 (x7 + 1)) x668000 x668001 x668002 x668003 x668004) else (if y675.length < 2513169434916 then (spec_l5Put.l0 k x0 (y675 ++ [(⟨(rd_T35 x0 x7).f0, (⟨(rd_T35 x0 x7).f1.f0, (rd_T35 x0 x7).f1.f1, (rd_T35 x0 x7).f1.f2, (rd_T35 x0 x7).f1.f3⟩ : S25)⟩ : S35)]) true (wrap64 (x7 + 1)) x668000 x668001 x668002 x668003 x668004) else (none))) else (none)) else (none))) else (none)) else (if 0 ≤ x7 then (if x7 < (x0.length : Int) then (if ((rd_T35 x0 x7).f0).toList = x668000.toList then (spec_l5Put.l0 k x0 x5 x6 (wrap64 (x7 + 1)) x668000 x668001 x668002 x668003 x668004) else (if x5.length < 2513169434916 then (spec_l5Put.l0 k x0 (x5 ++ [(⟨(rd_T35 x0 x7).f0, (⟨(rd_T35 x0 x7).f1.f0, (rd_T35 x0 x7).f1.f1, (rd_T35 x0 x7).f1.f2, (rd_T35 x0 x7).f1.f3⟩ : S25)⟩ : S35)]) x6 (wrap64 (x7 + 1)) x668000 x668001 x668002 x668003 x668004) else (none))) else (none)) else (none))
end
def spec_l5Put.f (k : Nat) (l0 : List (S35)) (a1_0 : ByteArray) (a1_1 : Int) (a1_2 : Int) (a1_3 : Int) (a1_4 : ByteArray) : Option ((List (S35))) := spec_l5Put.l0 k l0 (([] : List (S35))) false 0 a1_0 a1_1 a1_2 a1_3 a1_4
set_option maxHeartbeats 8000000 in
set_option maxRecDepth 100000 in
theorem spec_l5Put.calls (k : Nat) (A0 : Option Addr) (c0 : Nat) (l0 : List (S35)) (a1_0 : ByteArray) (a1_1 : Int) (a1_2 : Int) (a1_3 : Int) (a1_4 : ByteArray) (r : List (S35)) (w : World) (hr0 : Kd.C k35 w A0 l0.length l0) (hc0 : l0.length ≤ c0) (h : spec_l5Put.f k l0 a1_0 a1_1 a1_2 a1_3 a1_4 = some r) :
  Calls Tryz.prog 82 #[.slice A0 l0.length c0, .agg #[.string a1_0, .int .i64 a1_1, .int .i64 a1_2, .int .i64 a1_3, .string a1_4]] w fun e w' => ∃ v0_ : Value, e = .returned (v0_) ∧ Kd.R k35 35 w' w.heap.size (fun _ => True) v0_ r ∧ Below w.heap.size w w' := by
 have hu35 := Tryz.underlying35
 have HR0 := zi hr0
 have HC0 := zi hc0
 clear hr0 hc0
 have HB := zi (Below.refl w.heap.size w)
 have H := h
 unfold spec_l5Put.f at H
 clear h
 obtain ⟨y668, hy668⟩ : ∃ y_ : List (S35), y_ = (([] : List (S35))) := ⟨_, rfl⟩
 replace H : (spec_l5Put.l0 k l0 y668 false 0 a1_0 a1_1 a1_2 a1_3 a1_4) = some r := by first | (rw [hy668]; with_reducible exact H) | (have H2_ := (Option.bind_some _ _).symm.trans H; rw [hy668]; with_reducible exact H2_) | (have H2_ := (Option.bind_some _ _).symm.trans H; with_reducible exact H2_) | with_reducible exact H | (rw [hy668]; exact H) | exact H
 have Ny668 := zi hy668
 clear hy668
 have H' := zi H
 clear H
 go_enter Tryz.func82, Tryz.ntmps82
 go_wp2_with (first | ((with_reducible refine gate_dst (N := 3) rfl ?_); refine box_event zr (N := 3) zr (cs := #[.string a1_0, .int .i64 a1_1, .int .i64 a1_2, .int .i64 a1_3, .string a1_4]) (t := 35) z1h ?_; intro gb667 hg w3 hbox hb; have n0_ := zi (below_step zz hb); have n1_ := zi hbox; have n2_ := zi ((z6t : w.heap.size ≤ gb667)); have n3_ := zi ((z6t : w.heap.size ≤ gb667)); clear HB; have HB := n0_; have BK667 := n1_; have GW667 := n2_; have GE667 := n3_; clear n0_ n1_ n2_ n3_; clear hb hbox hg) | ((with_reducible refine gate_dst (N := 8) rfl ?_); refine Kd.R_lit k35 _ 35 ?hg (N := 8) ?hd (xs := ([] : List (S35))) (inner := []) (ok := fun _ => True) (okp := fun _ => True) ?hr ?hp (fun _ hk => hk) trivial (Below.refl _ _) (Nat.le_refl _) (by simp) ?_; (case hd => exact zr); (case hg => exact zr); (case hr => exact z1h); (case hp => exact (Reps.none _ _)); intro v669 w4 ho5 hb hg_ hnew_; clear hg_ hnew_; (first | rw [← Ny668.out] at ho5 | (simp only [Int.reduceToNat] at ho5; rw [← Ny668.out] at ho5)); have n0_ := zi (Kd.R_lower (Kd.R_newB ho5 (g := gb667) (o := .cells #[.string a1_0, .int .i64 a1_1, .int .i64 a1_2, .int .i64 a1_3, .string a1_4] 35 (0, 0)) z4l) (below_size z4m)); have n1_ := zi (blk_below (g := gb667) (o := .cells #[.string a1_0, .int .i64 a1_1, .int .i64 a1_2, .int .i64 a1_3, .string a1_4] 35 (0, 0)) z4l hb); have n2_ := zi (below_step z4m hb); clear BK667; clear HB; have HO670 := n0_; have BK667 := n1_; have HB := n2_; clear n0_ n1_ n2_; clear hb ho5))
 repeat (go_quiet (first | ((with_reducible refine gate_dst (N := 3) rfl ?_); refine box_event zr (N := 3) zr (cs := #[.string a1_0, .int .i64 a1_1, .int .i64 a1_2, .int .i64 a1_3, .string a1_4]) (t := 35) z1h ?_; intro gb667 hg w3 hbox hb; have n0_ := zi (below_step zz hb); have n1_ := zi hbox; have n2_ := zi ((z6t : w.heap.size ≤ gb667)); have n3_ := zi ((z6t : w.heap.size ≤ gb667)); clear HB; have HB := n0_; have BK667 := n1_; have GW667 := n2_; have GE667 := n3_; clear n0_ n1_ n2_ n3_; clear hb hbox hg) | ((with_reducible refine gate_dst (N := 8) rfl ?_); refine Kd.R_lit k35 _ 35 ?hg (N := 8) ?hd (xs := ([] : List (S35))) (inner := []) (ok := fun _ => True) (okp := fun _ => True) ?hr ?hp (fun _ hk => hk) trivial (Below.refl _ _) (Nat.le_refl _) (by simp) ?_; (case hd => exact zr); (case hg => exact zr); (case hr => exact z1h); (case hp => exact (Reps.none _ _)); intro v669 w4 ho5 hb hg_ hnew_; clear hg_ hnew_; (first | rw [← Ny668.out] at ho5 | (simp only [Int.reduceToNat] at ho5; rw [← Ny668.out] at ho5)); have n0_ := zi (Kd.R_lower (Kd.R_newB ho5 (g := gb667) (o := .cells #[.string a1_0, .int .i64 a1_1, .int .i64 a1_2, .int .i64 a1_3, .string a1_4] 35 (0, 0)) z4l) (below_size z4m)); have n1_ := zi (blk_below (g := gb667) (o := .cells #[.string a1_0, .int .i64 a1_1, .int .i64 a1_2, .int .i64 a1_3, .string a1_4] 35 (0, 0)) z4l hb); have n2_ := zi (below_step z4m hb); clear BK667; clear HB; have HO670 := n0_; have BK667 := n1_; have HB := n2_; clear n0_ n1_ n2_; clear hb ho5)); try go_wp2_with (first | ((with_reducible refine gate_dst (N := 3) rfl ?_); refine box_event zr (N := 3) zr (cs := #[.string a1_0, .int .i64 a1_1, .int .i64 a1_2, .int .i64 a1_3, .string a1_4]) (t := 35) z1h ?_; intro gb667 hg w3 hbox hb; have n0_ := zi (below_step zz hb); have n1_ := zi hbox; have n2_ := zi ((z6t : w.heap.size ≤ gb667)); have n3_ := zi ((z6t : w.heap.size ≤ gb667)); clear HB; have HB := n0_; have BK667 := n1_; have GW667 := n2_; have GE667 := n3_; clear n0_ n1_ n2_ n3_; clear hb hbox hg) | ((with_reducible refine gate_dst (N := 8) rfl ?_); refine Kd.R_lit k35 _ 35 ?hg (N := 8) ?hd (xs := ([] : List (S35))) (inner := []) (ok := fun _ => True) (okp := fun _ => True) ?hr ?hp (fun _ hk => hk) trivial (Below.refl _ _) (Nat.le_refl _) (by simp) ?_; (case hd => exact zr); (case hg => exact zr); (case hr => exact z1h); (case hp => exact (Reps.none _ _)); intro v669 w4 ho5 hb hg_ hnew_; clear hg_ hnew_; (first | rw [← Ny668.out] at ho5 | (simp only [Int.reduceToNat] at ho5; rw [← Ny668.out] at ho5)); have n0_ := zi (Kd.R_lower (Kd.R_newB ho5 (g := gb667) (o := .cells #[.string a1_0, .int .i64 a1_1, .int .i64 a1_2, .int .i64 a1_3, .string a1_4] 35 (0, 0)) z4l) (below_size z4m)); have n1_ := zi (blk_below (g := gb667) (o := .cells #[.string a1_0, .int .i64 a1_1, .int .i64 a1_2, .int .i64 a1_3, .string a1_4] 35 (0, 0)) z4l hb); have n2_ := zi (below_step z4m hb); clear BK667; clear HB; have HO670 := n0_; have BK667 := n1_; have HB := n2_; clear n0_ n1_ n2_; clear hb ho5)))
 go_loopg [5, 6, 7] k (fun kq v5 v6 v7 w' => ∃ (x5_1 : List (S35)) (x6_1 : Bool) (x7_1 : Int), v6 = .bool x6_1 ∧ v7 = .int .i64 x7_1 ∧ Aside0 (spec_l5Put.l0 kq l0 x5_1 x6_1 x7_1 a1_0 a1_1 a1_2 a1_3 a1_4 = some r) ∧ Aside0 (kq ≤ k) ∧ Aside0 (Kd.R k35 35 w' w.heap.size (fun k_ => k_ ≠ gb667) v5 x5_1) ∧ Aside0 (w'.heap[gb667]? = some (.cells #[.string a1_0, .int .i64 a1_1, .int .i64 a1_2, .int .i64 a1_3, .string a1_4] 35 (0, 0))) ∧ Aside0 (Below w.heap.size w w'))
 case atStart => exact ⟨(y668), (false), (0), zu, zu, H', ⟨Nat.le_refl _⟩, ⟨by (with_reducible repeat (first | apply Kd.R_alloc | apply Kd.R_drewN | apply Kd.R_drew)); exact Kd.R_mono HO670.out (fun _ hk => hk.2)⟩, ⟨z4l⟩, ⟨z4m⟩⟩
 case round =>
  clear H'
  try clear p2
  obtain ⟨x5_1, x6_1, x7_1, rfl, rfl, HA, HK1, HO_5, BK667, HB⟩ := hrel
  cases gk with
  | zero => exact absurd HA.out (by simp [spec_l5Put.l0])
  | succ k1 =>
   have H := HA.out
   clear HA
   simp only [spec_l5Put.l0] at H
   by_cases c6 : x7_1 < (l0.length : Int)
   ·rw [if_pos c6] at H
    have c6b0 := decide_eq_true c6
    clear c6
    have HC7 := zi H
    clear H
    go_upto_region 6 with (fail)
    repeat (go_quiet (fail); go_upto_region 6 with (fail))
    go_cut [26] (fun v26 wc => ∃ (kq : Nat) (x26_6 : Bool), v26 = .bool x26_6 ∧ Aside0 (spec_l5Put.j1 kq l0 x5_1 x6_1 x7_1 x26_6 a1_0 a1_1 a1_2 a1_3 a1_4 = some r) ∧ Aside0 (kq ≤ k1) ∧ Aside0 (Kd.R k35 35 wc w.heap.size (fun k_ => k_ ≠ gb667) u5 x5_1) ∧ Aside0 (wc.heap[gb667]? = some (.cells #[.string a1_0, .int .i64 a1_1, .int .i64 a1_2, .int .i64 a1_3, .string a1_4] 35 (0, 0))) ∧ Aside0 (Below w.heap.size w wc))
    case first =>
     have H := HC7.out
     clear HC7
     by_cases c8 : x6_1 = true
     ·subst c8
      rw [if_pos rfl] at H
      have H' := zi H
      clear H
      go_wp2
      repeat (go_quiet (fail); try go_wp2)
      go_meet
      case rel => exact ⟨_, (false), zu, H', ⟨z2y⟩, ⟨z2g⟩, ⟨z4l⟩, ⟨z4m⟩⟩
     ·replace c8 := Bool.eq_false_iff.mpr c8
      subst c8
      rw [if_neg zh] at H
      by_cases c9 : 0 ≤ x7_1
      ·rw [if_pos c9] at H
       have c9b0 := decide_eq_true c9
       clear c9
       (first | rw [c9b0] | (simp only [i64_w, i32_w]; rw [c9b0]) | skip)
       have H' := zi H
       clear H
       have p674 : 0 ≤ (x7_1 : Int) := of_decide_eq_true zw
       have q674 : x7_1 < (l0.length : Int) := of_decide_eq_true zw
       obtain ⟨ad674, e674, hx674_0, hx674_1, hx674_2, hx674_3, hx674_4⟩ := at_T35 HR0.out x7_1 p674 q674
       cases e674
       replace hx674_0 := zo HB.out hx674_0
       replace hx674_1 := zo HB.out hx674_1
       replace hx674_2 := zo HB.out hx674_2
       replace hx674_3 := zo HB.out hx674_3
       replace hx674_4 := zo HB.out hx674_4
       replace p674 := eq_true p674
       replace q674 := eq_true q674
       obtain ⟨hcz10_0, hcz10_1, hcz10_2, hcz10_3, hcz10_4, hfz10_0, hfz10_1, hfz10_2, hfz10_3, hfz10_4⟩ := zf BK667.out
       go_wp2
       repeat (go_quiet (fail); try go_wp2)
       go_meet
       case rel => exact ⟨_, (!(Op.bytesLess (((rd_T35 l0 x7_1).f0).toList) a1_0.toList)), zu, H', ⟨z2y⟩, ⟨z2g⟩, ⟨z4l⟩, ⟨z4m⟩⟩
      ·rw [if_neg c9] at H
       exact absurd H (by simp)
    case rest =>
     clear HC7
     try clear p2
     try clear c6
     try clear c6b0
     try clear p6
     try clear q6
     try clear hx6
     try clear c8
     try clear c9
     try clear c9b0
     try clear hcz10_0
     try clear hcz10_1
     try clear hcz10_2
     try clear hcz10_3
     try clear hcz10_4
     try clear hfz10_0
     try clear hfz10_1
     try clear hfz10_2
     try clear hfz10_3
     try clear hfz10_4
     try clear hx674_0
     try clear hx674_1
     try clear hx674_2
     try clear hx674_3
     try clear hx674_4
     try clear p2
     try clear p674
     try clear q674
     obtain ⟨kq, x26_6, rfl, HA, HJ6, HO_5, BK667, HB⟩ := hcut
     cases kq with
     | zero => exact absurd HA.out (by simp [spec_l5Put.j1])
     | succ kj6 =>
      have H := HA.out
      clear HA
      simp only [spec_l5Put.j1] at H
      by_cases c11 : x26_6 = true
      ·subst c11
       rw [if_pos rfl] at H
       by_cases c12 : x5_1.length < 2513169434916
       ·rw [if_pos c12] at H
        have LMc12 := zi c12
        clear c12
        obtain ⟨y675, hy675⟩ : ∃ y_ : List (S35), y_ = (x5_1 ++ [(⟨a1_0, (⟨a1_1, a1_2, a1_3, a1_4⟩ : S25)⟩ : S35)]) := ⟨_, rfl⟩
        replace H : (if 0 ≤ x7_1 then (if x7_1 < (l0.length : Int) then (if ((rd_T35 l0 x7_1).f0).toList = a1_0.toList then (spec_l5Put.l0 kj6 l0 y675 true (wrap64 (x7_1 + 1)) a1_0 a1_1 a1_2 a1_3 a1_4) else (if y675.length < 2513169434916 then (spec_l5Put.l0 kj6 l0 (y675 ++ [(⟨(rd_T35 l0 x7_1).f0, (⟨(rd_T35 l0 x7_1).f1.f0, (rd_T35 l0 x7_1).f1.f1, (rd_T35 l0 x7_1).f1.f2, (rd_T35 l0 x7_1).f1.f3⟩ : S25)⟩ : S35)]) true (wrap64 (x7_1 + 1)) a1_0 a1_1 a1_2 a1_3 a1_4) else (none))) else (none)) else (none)) = some r := by first | (rw [hy675]; with_reducible exact H) | (have H2_ := (Option.bind_some _ _).symm.trans H; rw [hy675]; with_reducible exact H2_) | (have H2_ := (Option.bind_some _ _).symm.trans H; with_reducible exact H2_) | with_reducible exact H | (rw [hy675]; exact H) | exact H
        have Ny675 := zi hy675
        clear hy675
        by_cases c13 : 0 ≤ x7_1
        ·rw [if_pos c13] at H
         have c13b0 := decide_eq_true c13
         clear c13
         by_cases c14 : x7_1 < (l0.length : Int)
         ·rw [if_pos c14] at H
          have c14b0 := decide_eq_true c14
          clear c14
          by_cases c15 : ((rd_T35 l0 x7_1).f0).toList = a1_0.toList
          ·rw [if_pos c15] at H
           have c15b0 : (((rd_T35 l0 x7_1).f0).toList == a1_0.toList) = true := beq_iff_eq.mpr c15
           have c15b1 : (((rd_T35 l0 x7_1).f0).toList != a1_0.toList) = false := bne_eq_false_iff_eq.mpr c15
           clear c15
           have H' := zi H
           clear H
           obtain ⟨hcz16_0, hcz16_1, hcz16_2, hcz16_3, hcz16_4, hfz16_0, hfz16_1, hfz16_2, hfz16_3, hfz16_4⟩ := zf BK667.out
           go_wp2_with (first | ((with_reducible refine gate_builtin (b := .append) (xs := #[.tmp 27, .tmp 29]) rfl ?_); at_builtin; refine Kd.R_append k35 (w0 := w) w.heap.size rfl (.tmp 27) (.tmp 29) 26 35 (.agg #[(.string ⟨#[]⟩), (.int .i64 0), (.int .i64 0), (.int .i64 0), (.string ⟨#[]⟩)]) 56 rfl Tryz.underlying26 info35 rfl zt zp u5 x5_1 (⟨a1_0, (⟨a1_1, a1_2, a1_3, a1_4⟩ : S25)⟩ : S35) [.string a1_0, .int .i64 a1_1, .int .i64 a1_2, .int .i64 a1_3, .string a1_4] (fun k_ => k_ ≠ gb667) (fun _ => False) rfl rfl ?aP (fun _ hk => hk.elim) ?aF ?aO ?aB ?aS ?aL ?_; (case aP => exact k35_mkM _ _ _ (⟨a1_0, (⟨a1_1, a1_2, a1_3, a1_4⟩ : S25)⟩ : S35)); (case aB => exact z4m); (case aF => exact (fun k_ hk => Kd.freshB (g := gb667) (o := .cells #[.string a1_0, .int .i64 a1_1, .int .i64 a1_2, .int .i64 a1_3, .string a1_4] 35 (0, 0)) z4l k_ hk)); (case aO => exact z2g); (case aS => exact (below_size z4m)); (case aL => exact z2f); intro v676 w17 ho hb hg hat; rw [← Ny675.out] at ho; have n0_ := zi (blk_grown (g := gb667) (o := .cells #[.string a1_0, .int .i64 a1_1, .int .i64 a1_2, .int .i64 a1_3, .string a1_4] 35 (0, 0)) z4l hg (Kd.R_away HO_5.out (fun _ hk => hk))); have n1_ := zi hb; have n2_ := zi ho; clear BK667; clear HB; clear HO_5; have BK667 := n0_; have HB := n1_; have HO677 := n2_; clear n0_ n1_ n2_; clear ho hb hg hat; have p678 : 0 ≤ (x7_1 : Int) := of_decide_eq_true zw; have q678 : x7_1 < (l0.length : Int) := of_decide_eq_true zw; obtain ⟨ad678, e678, hx678_0, hx678_1, hx678_2, hx678_3, hx678_4⟩ := at_T35 HR0.out x7_1 p678 q678; cases e678; replace hx678_0 := zo HB.out hx678_0; replace hx678_1 := zo HB.out hx678_1; replace hx678_2 := zo HB.out hx678_2; replace hx678_3 := zo HB.out hx678_3; replace hx678_4 := zo HB.out hx678_4; replace p678 := eq_true p678; replace q678 := eq_true q678; obtain ⟨hcz18_0, hcz18_1, hcz18_2, hcz18_3, hcz18_4, hfz18_0, hfz18_1, hfz18_2, hfz18_3, hfz18_4⟩ := zf BK667.out))
           repeat (go_quiet (first | ((with_reducible refine gate_builtin (b := .append) (xs := #[.tmp 27, .tmp 29]) rfl ?_); at_builtin; refine Kd.R_append k35 (w0 := w) w.heap.size rfl (.tmp 27) (.tmp 29) 26 35 (.agg #[(.string ⟨#[]⟩), (.int .i64 0), (.int .i64 0), (.int .i64 0), (.string ⟨#[]⟩)]) 56 rfl Tryz.underlying26 info35 rfl zt zp u5 x5_1 (⟨a1_0, (⟨a1_1, a1_2, a1_3, a1_4⟩ : S25)⟩ : S35) [.string a1_0, .int .i64 a1_1, .int .i64 a1_2, .int .i64 a1_3, .string a1_4] (fun k_ => k_ ≠ gb667) (fun _ => False) rfl rfl ?aP (fun _ hk => hk.elim) ?aF ?aO ?aB ?aS ?aL ?_; (case aP => exact k35_mkM _ _ _ (⟨a1_0, (⟨a1_1, a1_2, a1_3, a1_4⟩ : S25)⟩ : S35)); (case aB => exact z4m); (case aF => exact (fun k_ hk => Kd.freshB (g := gb667) (o := .cells #[.string a1_0, .int .i64 a1_1, .int .i64 a1_2, .int .i64 a1_3, .string a1_4] 35 (0, 0)) z4l k_ hk)); (case aO => exact z2g); (case aS => exact (below_size z4m)); (case aL => exact z2f); intro v676 w17 ho hb hg hat; rw [← Ny675.out] at ho; have n0_ := zi (blk_grown (g := gb667) (o := .cells #[.string a1_0, .int .i64 a1_1, .int .i64 a1_2, .int .i64 a1_3, .string a1_4] 35 (0, 0)) z4l hg (Kd.R_away HO_5.out (fun _ hk => hk))); have n1_ := zi hb; have n2_ := zi ho; clear BK667; clear HB; clear HO_5; have BK667 := n0_; have HB := n1_; have HO677 := n2_; clear n0_ n1_ n2_; clear ho hb hg hat; have p678 : 0 ≤ (x7_1 : Int) := of_decide_eq_true zw; have q678 : x7_1 < (l0.length : Int) := of_decide_eq_true zw; obtain ⟨ad678, e678, hx678_0, hx678_1, hx678_2, hx678_3, hx678_4⟩ := at_T35 HR0.out x7_1 p678 q678; cases e678; replace hx678_0 := zo HB.out hx678_0; replace hx678_1 := zo HB.out hx678_1; replace hx678_2 := zo HB.out hx678_2; replace hx678_3 := zo HB.out hx678_3; replace hx678_4 := zo HB.out hx678_4; replace p678 := eq_true p678; replace q678 := eq_true q678; obtain ⟨hcz18_0, hcz18_1, hcz18_2, hcz18_3, hcz18_4, hfz18_0, hfz18_1, hfz18_2, hfz18_3, hfz18_4⟩ := zf BK667.out)); try go_wp2_with (first | ((with_reducible refine gate_builtin (b := .append) (xs := #[.tmp 27, .tmp 29]) rfl ?_); at_builtin; refine Kd.R_append k35 (w0 := w) w.heap.size rfl (.tmp 27) (.tmp 29) 26 35 (.agg #[(.string ⟨#[]⟩), (.int .i64 0), (.int .i64 0), (.int .i64 0), (.string ⟨#[]⟩)]) 56 rfl Tryz.underlying26 info35 rfl zt zp u5 x5_1 (⟨a1_0, (⟨a1_1, a1_2, a1_3, a1_4⟩ : S25)⟩ : S35) [.string a1_0, .int .i64 a1_1, .int .i64 a1_2, .int .i64 a1_3, .string a1_4] (fun k_ => k_ ≠ gb667) (fun _ => False) rfl rfl ?aP (fun _ hk => hk.elim) ?aF ?aO ?aB ?aS ?aL ?_; (case aP => exact k35_mkM _ _ _ (⟨a1_0, (⟨a1_1, a1_2, a1_3, a1_4⟩ : S25)⟩ : S35)); (case aB => exact z4m); (case aF => exact (fun k_ hk => Kd.freshB (g := gb667) (o := .cells #[.string a1_0, .int .i64 a1_1, .int .i64 a1_2, .int .i64 a1_3, .string a1_4] 35 (0, 0)) z4l k_ hk)); (case aO => exact z2g); (case aS => exact (below_size z4m)); (case aL => exact z2f); intro v676 w17 ho hb hg hat; rw [← Ny675.out] at ho; have n0_ := zi (blk_grown (g := gb667) (o := .cells #[.string a1_0, .int .i64 a1_1, .int .i64 a1_2, .int .i64 a1_3, .string a1_4] 35 (0, 0)) z4l hg (Kd.R_away HO_5.out (fun _ hk => hk))); have n1_ := zi hb; have n2_ := zi ho; clear BK667; clear HB; clear HO_5; have BK667 := n0_; have HB := n1_; have HO677 := n2_; clear n0_ n1_ n2_; clear ho hb hg hat; have p678 : 0 ≤ (x7_1 : Int) := of_decide_eq_true zw; have q678 : x7_1 < (l0.length : Int) := of_decide_eq_true zw; obtain ⟨ad678, e678, hx678_0, hx678_1, hx678_2, hx678_3, hx678_4⟩ := at_T35 HR0.out x7_1 p678 q678; cases e678; replace hx678_0 := zo HB.out hx678_0; replace hx678_1 := zo HB.out hx678_1; replace hx678_2 := zo HB.out hx678_2; replace hx678_3 := zo HB.out hx678_3; replace hx678_4 := zo HB.out hx678_4; replace p678 := eq_true p678; replace q678 := eq_true q678; obtain ⟨hcz18_0, hcz18_1, hcz18_2, hcz18_3, hcz18_4, hfz18_0, hfz18_1, hfz18_2, hfz18_3, hfz18_4⟩ := zf BK667.out)))
           go_roundg kj6
           case measure => have := HK1.out; have := HJ6.out; omega
           case rel => exact ⟨(y675), (true), (wrap64 (x7_1 + 1)), zu, zu, H', ⟨z4n⟩, ⟨z4o⟩, ⟨z4l⟩, ⟨z4m⟩⟩
          ·rw [if_neg c15] at H
           have c15b0 : (((rd_T35 l0 x7_1).f0).toList == a1_0.toList) = false := beq_eq_false_iff_ne.mpr c15
           have c15b1 : (((rd_T35 l0 x7_1).f0).toList != a1_0.toList) = true := bne_iff_ne.mpr c15
           by_cases c19 : y675.length < 2513169434916
           ·rw [if_pos c19] at H
            have LMc19 := zi c19
            clear c19
            obtain ⟨y680, hy680⟩ : ∃ y_ : List (S35), y_ = (y675 ++ [(⟨(rd_T35 l0 x7_1).f0, (⟨(rd_T35 l0 x7_1).f1.f0, (rd_T35 l0 x7_1).f1.f1, (rd_T35 l0 x7_1).f1.f2, (rd_T35 l0 x7_1).f1.f3⟩ : S25)⟩ : S35)]) := ⟨_, rfl⟩
            replace H : (spec_l5Put.l0 kj6 l0 y680 true (wrap64 (x7_1 + 1)) a1_0 a1_1 a1_2 a1_3 a1_4) = some r := by first | (rw [hy680]; with_reducible exact H) | (have H2_ := (Option.bind_some _ _).symm.trans H; rw [hy680]; with_reducible exact H2_) | (have H2_ := (Option.bind_some _ _).symm.trans H; with_reducible exact H2_) | with_reducible exact H | (rw [hy680]; exact H) | exact H
            have Ny680 := zi hy680
            clear hy680
            have H' := zi H
            clear H
            obtain ⟨hcz20_0, hcz20_1, hcz20_2, hcz20_3, hcz20_4, hfz20_0, hfz20_1, hfz20_2, hfz20_3, hfz20_4⟩ := zf BK667.out
            go_wp2_with (first | ((with_reducible refine gate_builtin (b := .append) (xs := #[.tmp 27, .tmp 29]) rfl ?_); at_builtin; refine Kd.R_append k35 (w0 := w) w.heap.size rfl (.tmp 27) (.tmp 29) 26 35 (.agg #[(.string ⟨#[]⟩), (.int .i64 0), (.int .i64 0), (.int .i64 0), (.string ⟨#[]⟩)]) 56 rfl Tryz.underlying26 info35 rfl zt zp u5 x5_1 (⟨a1_0, (⟨a1_1, a1_2, a1_3, a1_4⟩ : S25)⟩ : S35) [.string a1_0, .int .i64 a1_1, .int .i64 a1_2, .int .i64 a1_3, .string a1_4] (fun k_ => k_ ≠ gb667) (fun _ => False) rfl rfl ?aP (fun _ hk => hk.elim) ?aF ?aO ?aB ?aS ?aL ?_; (case aP => exact k35_mkM _ _ _ (⟨a1_0, (⟨a1_1, a1_2, a1_3, a1_4⟩ : S25)⟩ : S35)); (case aB => exact z4m); (case aF => exact (fun k_ hk => Kd.freshB (g := gb667) (o := .cells #[.string a1_0, .int .i64 a1_1, .int .i64 a1_2, .int .i64 a1_3, .string a1_4] 35 (0, 0)) z4l k_ hk)); (case aO => exact z2g); (case aS => exact (below_size z4m)); (case aL => exact z2f); intro v676 w21 ho hb hg hat; rw [← Ny675.out] at ho; have n0_ := zi (blk_grown (g := gb667) (o := .cells #[.string a1_0, .int .i64 a1_1, .int .i64 a1_2, .int .i64 a1_3, .string a1_4] 35 (0, 0)) z4l hg (Kd.R_away HO_5.out (fun _ hk => hk))); have n1_ := zi hb; have n2_ := zi ho; clear BK667; clear HB; clear HO_5; have BK667 := n0_; have HB := n1_; have HO677 := n2_; clear n0_ n1_ n2_; clear ho hb hg hat; have p678 : 0 ≤ (x7_1 : Int) := of_decide_eq_true zw; have q678 : x7_1 < (l0.length : Int) := of_decide_eq_true zw; obtain ⟨ad678, e678, hx678_0, hx678_1, hx678_2, hx678_3, hx678_4⟩ := at_T35 HR0.out x7_1 p678 q678; cases e678; replace hx678_0 := zo HB.out hx678_0; replace hx678_1 := zo HB.out hx678_1; replace hx678_2 := zo HB.out hx678_2; replace hx678_3 := zo HB.out hx678_3; replace hx678_4 := zo HB.out hx678_4; replace p678 := eq_true p678; replace q678 := eq_true q678; obtain ⟨hcz22_0, hcz22_1, hcz22_2, hcz22_3, hcz22_4, hfz22_0, hfz22_1, hfz22_2, hfz22_3, hfz22_4⟩ := zf BK667.out; have p679 : 0 ≤ (x7_1 : Int) := of_decide_eq_true zw; have q679 : x7_1 < (l0.length : Int) := of_decide_eq_true zw; obtain ⟨ad679, e679, hx679_0, hx679_1, hx679_2, hx679_3, hx679_4⟩ := at_T35 HR0.out x7_1 p679 q679; obtain rfl : ad678 = ad679 := (by injection e679); replace hx679_0 := zo HB.out hx679_0; replace hx679_1 := zo HB.out hx679_1; replace hx679_2 := zo HB.out hx679_2; replace hx679_3 := zo HB.out hx679_3; replace hx679_4 := zo HB.out hx679_4; replace p679 := eq_true p679; replace q679 := eq_true q679) | ((with_reducible refine gate_builtin (b := .append) (xs := #[.tmp 39, .tmp 44]) rfl ?_); at_builtin; refine Kd.R_append k35 (w0 := w) w.heap.size rfl (.tmp 39) (.tmp 44) 26 35 (.agg #[(.string ⟨#[]⟩), (.int .i64 0), (.int .i64 0), (.int .i64 0), (.string ⟨#[]⟩)]) 56 rfl Tryz.underlying26 info35 rfl zt zp v676 y675 (⟨(rd_T35 l0 x7_1).f0, (⟨(rd_T35 l0 x7_1).f1.f0, (rd_T35 l0 x7_1).f1.f1, (rd_T35 l0 x7_1).f1.f2, (rd_T35 l0 x7_1).f1.f3⟩ : S25)⟩ : S35) [.string ((rd_T35 l0 x7_1).f0), .int .i64 ((rd_T35 l0 x7_1).f1.f0), .int .i64 ((rd_T35 l0 x7_1).f1.f1), .int .i64 ((rd_T35 l0 x7_1).f1.f2), .string ((rd_T35 l0 x7_1).f1.f3)] (fun k_ => k_ ≠ gb667) (fun _ => False) rfl rfl ?aP (fun _ hk => hk.elim) ?aF ?aO ?aB ?aS ?aL ?_; (case aP => exact k35_mkM _ _ _ (⟨(rd_T35 l0 x7_1).f0, (⟨(rd_T35 l0 x7_1).f1.f0, (rd_T35 l0 x7_1).f1.f1, (rd_T35 l0 x7_1).f1.f2, (rd_T35 l0 x7_1).f1.f3⟩ : S25)⟩ : S35)); (case aB => exact z4m); (case aF => exact (fun k_ hk => Kd.freshB (g := gb667) (o := .cells #[.string a1_0, .int .i64 a1_1, .int .i64 a1_2, .int .i64 a1_3, .string a1_4] 35 (0, 0)) z4l k_ hk)); (case aO => exact z4o); (case aS => exact (below_size z4m)); (case aL => exact z2h); intro v681 w23 ho hb hg hat; rw [← Ny680.out] at ho; have n0_ := zi (blk_grown (g := gb667) (o := .cells #[.string a1_0, .int .i64 a1_1, .int .i64 a1_2, .int .i64 a1_3, .string a1_4] 35 (0, 0)) z4l hg (Kd.R_away HO677.out (fun _ hk => hk))); have n1_ := zi hb; have n2_ := zi ho; clear BK667; clear HB; clear HO677; have BK667 := n0_; have HB := n1_; have HO682 := n2_; clear n0_ n1_ n2_; clear ho hb hg hat))
            repeat (go_quiet (first | ((with_reducible refine gate_builtin (b := .append) (xs := #[.tmp 27, .tmp 29]) rfl ?_); at_builtin; refine Kd.R_append k35 (w0 := w) w.heap.size rfl (.tmp 27) (.tmp 29) 26 35 (.agg #[(.string ⟨#[]⟩), (.int .i64 0), (.int .i64 0), (.int .i64 0), (.string ⟨#[]⟩)]) 56 rfl Tryz.underlying26 info35 rfl zt zp u5 x5_1 (⟨a1_0, (⟨a1_1, a1_2, a1_3, a1_4⟩ : S25)⟩ : S35) [.string a1_0, .int .i64 a1_1, .int .i64 a1_2, .int .i64 a1_3, .string a1_4] (fun k_ => k_ ≠ gb667) (fun _ => False) rfl rfl ?aP (fun _ hk => hk.elim) ?aF ?aO ?aB ?aS ?aL ?_; (case aP => exact k35_mkM _ _ _ (⟨a1_0, (⟨a1_1, a1_2, a1_3, a1_4⟩ : S25)⟩ : S35)); (case aB => exact z4m); (case aF => exact (fun k_ hk => Kd.freshB (g := gb667) (o := .cells #[.string a1_0, .int .i64 a1_1, .int .i64 a1_2, .int .i64 a1_3, .string a1_4] 35 (0, 0)) z4l k_ hk)); (case aO => exact z2g); (case aS => exact (below_size z4m)); (case aL => exact z2f); intro v676 w21 ho hb hg hat; rw [← Ny675.out] at ho; have n0_ := zi (blk_grown (g := gb667) (o := .cells #[.string a1_0, .int .i64 a1_1, .int .i64 a1_2, .int .i64 a1_3, .string a1_4] 35 (0, 0)) z4l hg (Kd.R_away HO_5.out (fun _ hk => hk))); have n1_ := zi hb; have n2_ := zi ho; clear BK667; clear HB; clear HO_5; have BK667 := n0_; have HB := n1_; have HO677 := n2_; clear n0_ n1_ n2_; clear ho hb hg hat; have p678 : 0 ≤ (x7_1 : Int) := of_decide_eq_true zw; have q678 : x7_1 < (l0.length : Int) := of_decide_eq_true zw; obtain ⟨ad678, e678, hx678_0, hx678_1, hx678_2, hx678_3, hx678_4⟩ := at_T35 HR0.out x7_1 p678 q678; cases e678; replace hx678_0 := zo HB.out hx678_0; replace hx678_1 := zo HB.out hx678_1; replace hx678_2 := zo HB.out hx678_2; replace hx678_3 := zo HB.out hx678_3; replace hx678_4 := zo HB.out hx678_4; replace p678 := eq_true p678; replace q678 := eq_true q678; obtain ⟨hcz22_0, hcz22_1, hcz22_2, hcz22_3, hcz22_4, hfz22_0, hfz22_1, hfz22_2, hfz22_3, hfz22_4⟩ := zf BK667.out; have p679 : 0 ≤ (x7_1 : Int) := of_decide_eq_true zw; have q679 : x7_1 < (l0.length : Int) := of_decide_eq_true zw; obtain ⟨ad679, e679, hx679_0, hx679_1, hx679_2, hx679_3, hx679_4⟩ := at_T35 HR0.out x7_1 p679 q679; obtain rfl : ad678 = ad679 := (by injection e679); replace hx679_0 := zo HB.out hx679_0; replace hx679_1 := zo HB.out hx679_1; replace hx679_2 := zo HB.out hx679_2; replace hx679_3 := zo HB.out hx679_3; replace hx679_4 := zo HB.out hx679_4; replace p679 := eq_true p679; replace q679 := eq_true q679) | ((with_reducible refine gate_builtin (b := .append) (xs := #[.tmp 39, .tmp 44]) rfl ?_); at_builtin; refine Kd.R_append k35 (w0 := w) w.heap.size rfl (.tmp 39) (.tmp 44) 26 35 (.agg #[(.string ⟨#[]⟩), (.int .i64 0), (.int .i64 0), (.int .i64 0), (.string ⟨#[]⟩)]) 56 rfl Tryz.underlying26 info35 rfl zt zp v676 y675 (⟨(rd_T35 l0 x7_1).f0, (⟨(rd_T35 l0 x7_1).f1.f0, (rd_T35 l0 x7_1).f1.f1, (rd_T35 l0 x7_1).f1.f2, (rd_T35 l0 x7_1).f1.f3⟩ : S25)⟩ : S35) [.string ((rd_T35 l0 x7_1).f0), .int .i64 ((rd_T35 l0 x7_1).f1.f0), .int .i64 ((rd_T35 l0 x7_1).f1.f1), .int .i64 ((rd_T35 l0 x7_1).f1.f2), .string ((rd_T35 l0 x7_1).f1.f3)] (fun k_ => k_ ≠ gb667) (fun _ => False) rfl rfl ?aP (fun _ hk => hk.elim) ?aF ?aO ?aB ?aS ?aL ?_; (case aP => exact k35_mkM _ _ _ (⟨(rd_T35 l0 x7_1).f0, (⟨(rd_T35 l0 x7_1).f1.f0, (rd_T35 l0 x7_1).f1.f1, (rd_T35 l0 x7_1).f1.f2, (rd_T35 l0 x7_1).f1.f3⟩ : S25)⟩ : S35)); (case aB => exact z4m); (case aF => exact (fun k_ hk => Kd.freshB (g := gb667) (o := .cells #[.string a1_0, .int .i64 a1_1, .int .i64 a1_2, .int .i64 a1_3, .string a1_4] 35 (0, 0)) z4l k_ hk)); (case aO => exact z4o); (case aS => exact (below_size z4m)); (case aL => exact z2h); intro v681 w23 ho hb hg hat; rw [← Ny680.out] at ho; have n0_ := zi (blk_grown (g := gb667) (o := .cells #[.string a1_0, .int .i64 a1_1, .int .i64 a1_2, .int .i64 a1_3, .string a1_4] 35 (0, 0)) z4l hg (Kd.R_away HO677.out (fun _ hk => hk))); have n1_ := zi hb; have n2_ := zi ho; clear BK667; clear HB; clear HO677; have BK667 := n0_; have HB := n1_; have HO682 := n2_; clear n0_ n1_ n2_; clear ho hb hg hat)); try go_wp2_with (first | ((with_reducible refine gate_builtin (b := .append) (xs := #[.tmp 27, .tmp 29]) rfl ?_); at_builtin; refine Kd.R_append k35 (w0 := w) w.heap.size rfl (.tmp 27) (.tmp 29) 26 35 (.agg #[(.string ⟨#[]⟩), (.int .i64 0), (.int .i64 0), (.int .i64 0), (.string ⟨#[]⟩)]) 56 rfl Tryz.underlying26 info35 rfl zt zp u5 x5_1 (⟨a1_0, (⟨a1_1, a1_2, a1_3, a1_4⟩ : S25)⟩ : S35) [.string a1_0, .int .i64 a1_1, .int .i64 a1_2, .int .i64 a1_3, .string a1_4] (fun k_ => k_ ≠ gb667) (fun _ => False) rfl rfl ?aP (fun _ hk => hk.elim) ?aF ?aO ?aB ?aS ?aL ?_; (case aP => exact k35_mkM _ _ _ (⟨a1_0, (⟨a1_1, a1_2, a1_3, a1_4⟩ : S25)⟩ : S35)); (case aB => exact z4m); (case aF => exact (fun k_ hk => Kd.freshB (g := gb667) (o := .cells #[.string a1_0, .int .i64 a1_1, .int .i64 a1_2, .int .i64 a1_3, .string a1_4] 35 (0, 0)) z4l k_ hk)); (case aO => exact z2g); (case aS => exact (below_size z4m)); (case aL => exact z2f); intro v676 w21 ho hb hg hat; rw [← Ny675.out] at ho; have n0_ := zi (blk_grown (g := gb667) (o := .cells #[.string a1_0, .int .i64 a1_1, .int .i64 a1_2, .int .i64 a1_3, .string a1_4] 35 (0, 0)) z4l hg (Kd.R_away HO_5.out (fun _ hk => hk))); have n1_ := zi hb; have n2_ := zi ho; clear BK667; clear HB; clear HO_5; have BK667 := n0_; have HB := n1_; have HO677 := n2_; clear n0_ n1_ n2_; clear ho hb hg hat; have p678 : 0 ≤ (x7_1 : Int) := of_decide_eq_true zw; have q678 : x7_1 < (l0.length : Int) := of_decide_eq_true zw; obtain ⟨ad678, e678, hx678_0, hx678_1, hx678_2, hx678_3, hx678_4⟩ := at_T35 HR0.out x7_1 p678 q678; cases e678; replace hx678_0 := zo HB.out hx678_0; replace hx678_1 := zo HB.out hx678_1; replace hx678_2 := zo HB.out hx678_2; replace hx678_3 := zo HB.out hx678_3; replace hx678_4 := zo HB.out hx678_4; replace p678 := eq_true p678; replace q678 := eq_true q678; obtain ⟨hcz22_0, hcz22_1, hcz22_2, hcz22_3, hcz22_4, hfz22_0, hfz22_1, hfz22_2, hfz22_3, hfz22_4⟩ := zf BK667.out; have p679 : 0 ≤ (x7_1 : Int) := of_decide_eq_true zw; have q679 : x7_1 < (l0.length : Int) := of_decide_eq_true zw; obtain ⟨ad679, e679, hx679_0, hx679_1, hx679_2, hx679_3, hx679_4⟩ := at_T35 HR0.out x7_1 p679 q679; obtain rfl : ad678 = ad679 := (by injection e679); replace hx679_0 := zo HB.out hx679_0; replace hx679_1 := zo HB.out hx679_1; replace hx679_2 := zo HB.out hx679_2; replace hx679_3 := zo HB.out hx679_3; replace hx679_4 := zo HB.out hx679_4; replace p679 := eq_true p679; replace q679 := eq_true q679) | ((with_reducible refine gate_builtin (b := .append) (xs := #[.tmp 39, .tmp 44]) rfl ?_); at_builtin; refine Kd.R_append k35 (w0 := w) w.heap.size rfl (.tmp 39) (.tmp 44) 26 35 (.agg #[(.string ⟨#[]⟩), (.int .i64 0), (.int .i64 0), (.int .i64 0), (.string ⟨#[]⟩)]) 56 rfl Tryz.underlying26 info35 rfl zt zp v676 y675 (⟨(rd_T35 l0 x7_1).f0, (⟨(rd_T35 l0 x7_1).f1.f0, (rd_T35 l0 x7_1).f1.f1, (rd_T35 l0 x7_1).f1.f2, (rd_T35 l0 x7_1).f1.f3⟩ : S25)⟩ : S35) [.string ((rd_T35 l0 x7_1).f0), .int .i64 ((rd_T35 l0 x7_1).f1.f0), .int .i64 ((rd_T35 l0 x7_1).f1.f1), .int .i64 ((rd_T35 l0 x7_1).f1.f2), .string ((rd_T35 l0 x7_1).f1.f3)] (fun k_ => k_ ≠ gb667) (fun _ => False) rfl rfl ?aP (fun _ hk => hk.elim) ?aF ?aO ?aB ?aS ?aL ?_; (case aP => exact k35_mkM _ _ _ (⟨(rd_T35 l0 x7_1).f0, (⟨(rd_T35 l0 x7_1).f1.f0, (rd_T35 l0 x7_1).f1.f1, (rd_T35 l0 x7_1).f1.f2, (rd_T35 l0 x7_1).f1.f3⟩ : S25)⟩ : S35)); (case aB => exact z4m); (case aF => exact (fun k_ hk => Kd.freshB (g := gb667) (o := .cells #[.string a1_0, .int .i64 a1_1, .int .i64 a1_2, .int .i64 a1_3, .string a1_4] 35 (0, 0)) z4l k_ hk)); (case aO => exact z4o); (case aS => exact (below_size z4m)); (case aL => exact z2h); intro v681 w23 ho hb hg hat; rw [← Ny680.out] at ho; have n0_ := zi (blk_grown (g := gb667) (o := .cells #[.string a1_0, .int .i64 a1_1, .int .i64 a1_2, .int .i64 a1_3, .string a1_4] 35 (0, 0)) z4l hg (Kd.R_away HO677.out (fun _ hk => hk))); have n1_ := zi hb; have n2_ := zi ho; clear BK667; clear HB; clear HO677; have BK667 := n0_; have HB := n1_; have HO682 := n2_; clear n0_ n1_ n2_; clear ho hb hg hat)))
            go_roundg kj6
            case measure => have := HK1.out; have := HJ6.out; omega
            case rel => exact ⟨(y680), (true), (wrap64 (x7_1 + 1)), zu, zu, H', ⟨z4n⟩, ⟨by (with_reducible repeat (first | apply Kd.R_alloc | apply Kd.R_drewN | apply Kd.R_drew)); exact HO682.out⟩, ⟨z4l⟩, ⟨z4m⟩⟩
           ·rw [if_neg c19] at H
            exact absurd H (by simp)
         ·rw [if_neg c14] at H
          exact absurd H (by simp)
        ·rw [if_neg c13] at H
         exact absurd H (by simp)
       ·rw [if_neg c12] at H
        exact absurd H (by simp)
      ·replace c11 := Bool.eq_false_iff.mpr c11
       subst c11
       rw [if_neg zh] at H
       by_cases c24 : 0 ≤ x7_1
       ·rw [if_pos c24] at H
        have c24b0 := decide_eq_true c24
        clear c24
        by_cases c25 : x7_1 < (l0.length : Int)
        ·rw [if_pos c25] at H
         have c25b0 := decide_eq_true c25
         clear c25
         by_cases c26 : ((rd_T35 l0 x7_1).f0).toList = a1_0.toList
         ·rw [if_pos c26] at H
          have c26b0 : (((rd_T35 l0 x7_1).f0).toList == a1_0.toList) = true := beq_iff_eq.mpr c26
          have c26b1 : (((rd_T35 l0 x7_1).f0).toList != a1_0.toList) = false := bne_eq_false_iff_eq.mpr c26
          clear c26
          have H' := zi H
          clear H
          have p683 : 0 ≤ (x7_1 : Int) := of_decide_eq_true zw
          have q683 : x7_1 < (l0.length : Int) := of_decide_eq_true zw
          obtain ⟨ad683, e683, hx683_0, hx683_1, hx683_2, hx683_3, hx683_4⟩ := at_T35 HR0.out x7_1 p683 q683
          cases e683
          replace hx683_0 := zo HB.out hx683_0
          replace hx683_1 := zo HB.out hx683_1
          replace hx683_2 := zo HB.out hx683_2
          replace hx683_3 := zo HB.out hx683_3
          replace hx683_4 := zo HB.out hx683_4
          replace p683 := eq_true p683
          replace q683 := eq_true q683
          obtain ⟨hcz27_0, hcz27_1, hcz27_2, hcz27_3, hcz27_4, hfz27_0, hfz27_1, hfz27_2, hfz27_3, hfz27_4⟩ := zf BK667.out
          go_wp2
          repeat (go_quiet (fail); try go_wp2)
          go_roundg kj6
          case measure => have := HK1.out; have := HJ6.out; omega
          case rel => exact ⟨(x5_1), (x6_1), (wrap64 (x7_1 + 1)), zu, zu, H', ⟨z4n⟩, ⟨z2g⟩, ⟨z4l⟩, ⟨z4m⟩⟩
         ·rw [if_neg c26] at H
          have c26b0 : (((rd_T35 l0 x7_1).f0).toList == a1_0.toList) = false := beq_eq_false_iff_ne.mpr c26
          have c26b1 : (((rd_T35 l0 x7_1).f0).toList != a1_0.toList) = true := bne_iff_ne.mpr c26
          by_cases c28 : x5_1.length < 2513169434916
          ·rw [if_pos c28] at H
           have LMc28 := zi c28
           clear c28
           obtain ⟨y685, hy685⟩ : ∃ y_ : List (S35), y_ = (x5_1 ++ [(⟨(rd_T35 l0 x7_1).f0, (⟨(rd_T35 l0 x7_1).f1.f0, (rd_T35 l0 x7_1).f1.f1, (rd_T35 l0 x7_1).f1.f2, (rd_T35 l0 x7_1).f1.f3⟩ : S25)⟩ : S35)]) := ⟨_, rfl⟩
           replace H : (spec_l5Put.l0 kj6 l0 y685 x6_1 (wrap64 (x7_1 + 1)) a1_0 a1_1 a1_2 a1_3 a1_4) = some r := by first | (rw [hy685]; with_reducible exact H) | (have H2_ := (Option.bind_some _ _).symm.trans H; rw [hy685]; with_reducible exact H2_) | (have H2_ := (Option.bind_some _ _).symm.trans H; with_reducible exact H2_) | with_reducible exact H | (rw [hy685]; exact H) | exact H
           have Ny685 := zi hy685
           clear hy685
           have H' := zi H
           clear H
           have p683 : 0 ≤ (x7_1 : Int) := of_decide_eq_true zw
           have q683 : x7_1 < (l0.length : Int) := of_decide_eq_true zw
           obtain ⟨ad683, e683, hx683_0, hx683_1, hx683_2, hx683_3, hx683_4⟩ := at_T35 HR0.out x7_1 p683 q683
           cases e683
           replace hx683_0 := zo HB.out hx683_0
           replace hx683_1 := zo HB.out hx683_1
           replace hx683_2 := zo HB.out hx683_2
           replace hx683_3 := zo HB.out hx683_3
           replace hx683_4 := zo HB.out hx683_4
           replace p683 := eq_true p683
           replace q683 := eq_true q683
           obtain ⟨hcz29_0, hcz29_1, hcz29_2, hcz29_3, hcz29_4, hfz29_0, hfz29_1, hfz29_2, hfz29_3, hfz29_4⟩ := zf BK667.out
           have p684 : 0 ≤ (x7_1 : Int) := of_decide_eq_true zw
           have q684 : x7_1 < (l0.length : Int) := of_decide_eq_true zw
           obtain ⟨ad684, e684, hx684_0, hx684_1, hx684_2, hx684_3, hx684_4⟩ := at_T35 HR0.out x7_1 p684 q684
           obtain rfl : ad683 = ad684 := (by injection e684)
           replace hx684_0 := zo HB.out hx684_0
           replace hx684_1 := zo HB.out hx684_1
           replace hx684_2 := zo HB.out hx684_2
           replace hx684_3 := zo HB.out hx684_3
           replace hx684_4 := zo HB.out hx684_4
           replace p684 := eq_true p684
           replace q684 := eq_true q684
           go_wp2_with (first | ((with_reducible refine gate_builtin (b := .append) (xs := #[.tmp 39, .tmp 44]) rfl ?_); at_builtin; refine Kd.R_append k35 (w0 := w) w.heap.size rfl (.tmp 39) (.tmp 44) 26 35 (.agg #[(.string ⟨#[]⟩), (.int .i64 0), (.int .i64 0), (.int .i64 0), (.string ⟨#[]⟩)]) 56 rfl Tryz.underlying26 info35 rfl zt zp u5 x5_1 (⟨(rd_T35 l0 x7_1).f0, (⟨(rd_T35 l0 x7_1).f1.f0, (rd_T35 l0 x7_1).f1.f1, (rd_T35 l0 x7_1).f1.f2, (rd_T35 l0 x7_1).f1.f3⟩ : S25)⟩ : S35) [.string ((rd_T35 l0 x7_1).f0), .int .i64 ((rd_T35 l0 x7_1).f1.f0), .int .i64 ((rd_T35 l0 x7_1).f1.f1), .int .i64 ((rd_T35 l0 x7_1).f1.f2), .string ((rd_T35 l0 x7_1).f1.f3)] (fun k_ => k_ ≠ gb667) (fun _ => False) rfl rfl ?aP (fun _ hk => hk.elim) ?aF ?aO ?aB ?aS ?aL ?_; (case aP => exact k35_mkM _ _ _ (⟨(rd_T35 l0 x7_1).f0, (⟨(rd_T35 l0 x7_1).f1.f0, (rd_T35 l0 x7_1).f1.f1, (rd_T35 l0 x7_1).f1.f2, (rd_T35 l0 x7_1).f1.f3⟩ : S25)⟩ : S35)); (case aB => exact z4m); (case aF => exact (fun k_ hk => Kd.freshB (g := gb667) (o := .cells #[.string a1_0, .int .i64 a1_1, .int .i64 a1_2, .int .i64 a1_3, .string a1_4] 35 (0, 0)) z4l k_ hk)); (case aO => exact z2g); (case aS => exact (below_size z4m)); (case aL => have := LMc28.out; omega); intro v686 w30 ho hb hg hat; rw [← Ny685.out] at ho; have n0_ := zi (blk_grown (g := gb667) (o := .cells #[.string a1_0, .int .i64 a1_1, .int .i64 a1_2, .int .i64 a1_3, .string a1_4] 35 (0, 0)) z4l hg (Kd.R_away HO_5.out (fun _ hk => hk))); have n1_ := zi hb; have n2_ := zi ho; clear BK667; clear HB; clear HO_5; have BK667 := n0_; have HB := n1_; have HO687 := n2_; clear n0_ n1_ n2_; clear ho hb hg hat))
           repeat (go_quiet (first | ((with_reducible refine gate_builtin (b := .append) (xs := #[.tmp 39, .tmp 44]) rfl ?_); at_builtin; refine Kd.R_append k35 (w0 := w) w.heap.size rfl (.tmp 39) (.tmp 44) 26 35 (.agg #[(.string ⟨#[]⟩), (.int .i64 0), (.int .i64 0), (.int .i64 0), (.string ⟨#[]⟩)]) 56 rfl Tryz.underlying26 info35 rfl zt zp u5 x5_1 (⟨(rd_T35 l0 x7_1).f0, (⟨(rd_T35 l0 x7_1).f1.f0, (rd_T35 l0 x7_1).f1.f1, (rd_T35 l0 x7_1).f1.f2, (rd_T35 l0 x7_1).f1.f3⟩ : S25)⟩ : S35) [.string ((rd_T35 l0 x7_1).f0), .int .i64 ((rd_T35 l0 x7_1).f1.f0), .int .i64 ((rd_T35 l0 x7_1).f1.f1), .int .i64 ((rd_T35 l0 x7_1).f1.f2), .string ((rd_T35 l0 x7_1).f1.f3)] (fun k_ => k_ ≠ gb667) (fun _ => False) rfl rfl ?aP (fun _ hk => hk.elim) ?aF ?aO ?aB ?aS ?aL ?_; (case aP => exact k35_mkM _ _ _ (⟨(rd_T35 l0 x7_1).f0, (⟨(rd_T35 l0 x7_1).f1.f0, (rd_T35 l0 x7_1).f1.f1, (rd_T35 l0 x7_1).f1.f2, (rd_T35 l0 x7_1).f1.f3⟩ : S25)⟩ : S35)); (case aB => exact z4m); (case aF => exact (fun k_ hk => Kd.freshB (g := gb667) (o := .cells #[.string a1_0, .int .i64 a1_1, .int .i64 a1_2, .int .i64 a1_3, .string a1_4] 35 (0, 0)) z4l k_ hk)); (case aO => exact z2g); (case aS => exact (below_size z4m)); (case aL => have := LMc28.out; omega); intro v686 w30 ho hb hg hat; rw [← Ny685.out] at ho; have n0_ := zi (blk_grown (g := gb667) (o := .cells #[.string a1_0, .int .i64 a1_1, .int .i64 a1_2, .int .i64 a1_3, .string a1_4] 35 (0, 0)) z4l hg (Kd.R_away HO_5.out (fun _ hk => hk))); have n1_ := zi hb; have n2_ := zi ho; clear BK667; clear HB; clear HO_5; have BK667 := n0_; have HB := n1_; have HO687 := n2_; clear n0_ n1_ n2_; clear ho hb hg hat)); try go_wp2_with (first | ((with_reducible refine gate_builtin (b := .append) (xs := #[.tmp 39, .tmp 44]) rfl ?_); at_builtin; refine Kd.R_append k35 (w0 := w) w.heap.size rfl (.tmp 39) (.tmp 44) 26 35 (.agg #[(.string ⟨#[]⟩), (.int .i64 0), (.int .i64 0), (.int .i64 0), (.string ⟨#[]⟩)]) 56 rfl Tryz.underlying26 info35 rfl zt zp u5 x5_1 (⟨(rd_T35 l0 x7_1).f0, (⟨(rd_T35 l0 x7_1).f1.f0, (rd_T35 l0 x7_1).f1.f1, (rd_T35 l0 x7_1).f1.f2, (rd_T35 l0 x7_1).f1.f3⟩ : S25)⟩ : S35) [.string ((rd_T35 l0 x7_1).f0), .int .i64 ((rd_T35 l0 x7_1).f1.f0), .int .i64 ((rd_T35 l0 x7_1).f1.f1), .int .i64 ((rd_T35 l0 x7_1).f1.f2), .string ((rd_T35 l0 x7_1).f1.f3)] (fun k_ => k_ ≠ gb667) (fun _ => False) rfl rfl ?aP (fun _ hk => hk.elim) ?aF ?aO ?aB ?aS ?aL ?_; (case aP => exact k35_mkM _ _ _ (⟨(rd_T35 l0 x7_1).f0, (⟨(rd_T35 l0 x7_1).f1.f0, (rd_T35 l0 x7_1).f1.f1, (rd_T35 l0 x7_1).f1.f2, (rd_T35 l0 x7_1).f1.f3⟩ : S25)⟩ : S35)); (case aB => exact z4m); (case aF => exact (fun k_ hk => Kd.freshB (g := gb667) (o := .cells #[.string a1_0, .int .i64 a1_1, .int .i64 a1_2, .int .i64 a1_3, .string a1_4] 35 (0, 0)) z4l k_ hk)); (case aO => exact z2g); (case aS => exact (below_size z4m)); (case aL => have := LMc28.out; omega); intro v686 w30 ho hb hg hat; rw [← Ny685.out] at ho; have n0_ := zi (blk_grown (g := gb667) (o := .cells #[.string a1_0, .int .i64 a1_1, .int .i64 a1_2, .int .i64 a1_3, .string a1_4] 35 (0, 0)) z4l hg (Kd.R_away HO_5.out (fun _ hk => hk))); have n1_ := zi hb; have n2_ := zi ho; clear BK667; clear HB; clear HO_5; have BK667 := n0_; have HB := n1_; have HO687 := n2_; clear n0_ n1_ n2_; clear ho hb hg hat)))
           go_roundg kj6
           case measure => have := HK1.out; have := HJ6.out; omega
           case rel => exact ⟨(y685), (x6_1), (wrap64 (x7_1 + 1)), zu, zu, H', ⟨z4n⟩, ⟨by (with_reducible repeat (first | apply Kd.R_alloc | apply Kd.R_drewN | apply Kd.R_drew)); exact HO687.out⟩, ⟨z4l⟩, ⟨z4m⟩⟩
          ·rw [if_neg c28] at H
           exact absurd H (by simp)
        ·rw [if_neg c25] at H
         exact absurd H (by simp)
       ·rw [if_neg c24] at H
        exact absurd H (by simp)
   ·rw [if_neg c6] at H
    have c6b0 := decide_eq_false c6
    clear c6
    by_cases c31 : x6_1 = true
    ·subst c31
     rw [if_pos rfl] at H
     obtain rfl := Option.some.inj H
     go_wp2
     repeat (go_quiet (fail); try go_wp2)
     go_ret
     exact ⟨_, z1b, by (with_reducible repeat (first | apply Kd.R_alloc | apply Kd.R_drewN | apply Kd.R_drew)); exact Kd.R_mono HO_5.out (fun _ hk => trivial), z4m⟩
    ·replace c31 := Bool.eq_false_iff.mpr c31
     subst c31
     rw [if_neg zh] at H
     by_cases c32 : x5_1.length < 2513169434916
     ·rw [if_pos c32] at H
      have LMc32 := zi c32
      clear c32
      obtain ⟨y671, hy671⟩ : ∃ y_ : List (S35), y_ = (x5_1 ++ [(⟨a1_0, (⟨a1_1, a1_2, a1_3, a1_4⟩ : S25)⟩ : S35)]) := ⟨_, rfl⟩
      replace H : (some y671) = some r := by first | (rw [hy671]; with_reducible exact H) | (have H2_ := (Option.bind_some _ _).symm.trans H; rw [hy671]; with_reducible exact H2_) | (have H2_ := (Option.bind_some _ _).symm.trans H; with_reducible exact H2_) | with_reducible exact H | (rw [hy671]; exact H) | exact H
      have Ny671 := zi hy671
      clear hy671
      obtain rfl := Option.some.inj H
      obtain ⟨hcz33_0, hcz33_1, hcz33_2, hcz33_3, hcz33_4, hfz33_0, hfz33_1, hfz33_2, hfz33_3, hfz33_4⟩ := zf BK667.out
      go_wp2_with (first | ((with_reducible refine gate_builtin (b := .append) (xs := #[.tmp 48, .tmp 50]) rfl ?_); at_builtin; refine Kd.R_append k35 (w0 := w) w.heap.size rfl (.tmp 48) (.tmp 50) 26 35 (.agg #[(.string ⟨#[]⟩), (.int .i64 0), (.int .i64 0), (.int .i64 0), (.string ⟨#[]⟩)]) 56 rfl Tryz.underlying26 info35 rfl zt zp u5 x5_1 (⟨a1_0, (⟨a1_1, a1_2, a1_3, a1_4⟩ : S25)⟩ : S35) [.string a1_0, .int .i64 a1_1, .int .i64 a1_2, .int .i64 a1_3, .string a1_4] (fun k_ => k_ ≠ gb667) (fun _ => False) rfl rfl ?aP (fun _ hk => hk.elim) ?aF ?aO ?aB ?aS ?aL ?_; (case aP => exact k35_mkM _ _ _ (⟨a1_0, (⟨a1_1, a1_2, a1_3, a1_4⟩ : S25)⟩ : S35)); (case aB => exact z4m); (case aF => exact (fun k_ hk => Kd.freshB (g := gb667) (o := .cells #[.string a1_0, .int .i64 a1_1, .int .i64 a1_2, .int .i64 a1_3, .string a1_4] 35 (0, 0)) z4l k_ hk)); (case aO => exact z2g); (case aS => exact (below_size z4m)); (case aL => have := LMc32.out; omega); intro v672 w34 ho hb hg hat; rw [← Ny671.out] at ho; have n0_ := zi (blk_grown (g := gb667) (o := .cells #[.string a1_0, .int .i64 a1_1, .int .i64 a1_2, .int .i64 a1_3, .string a1_4] 35 (0, 0)) z4l hg (Kd.R_away HO_5.out (fun _ hk => hk))); have n1_ := zi hb; have n2_ := zi ho; clear BK667; clear HB; clear HO_5; have BK667 := n0_; have HB := n1_; have HO673 := n2_; clear n0_ n1_ n2_; clear ho hb hg hat))
      repeat (go_quiet (first | ((with_reducible refine gate_builtin (b := .append) (xs := #[.tmp 48, .tmp 50]) rfl ?_); at_builtin; refine Kd.R_append k35 (w0 := w) w.heap.size rfl (.tmp 48) (.tmp 50) 26 35 (.agg #[(.string ⟨#[]⟩), (.int .i64 0), (.int .i64 0), (.int .i64 0), (.string ⟨#[]⟩)]) 56 rfl Tryz.underlying26 info35 rfl zt zp u5 x5_1 (⟨a1_0, (⟨a1_1, a1_2, a1_3, a1_4⟩ : S25)⟩ : S35) [.string a1_0, .int .i64 a1_1, .int .i64 a1_2, .int .i64 a1_3, .string a1_4] (fun k_ => k_ ≠ gb667) (fun _ => False) rfl rfl ?aP (fun _ hk => hk.elim) ?aF ?aO ?aB ?aS ?aL ?_; (case aP => exact k35_mkM _ _ _ (⟨a1_0, (⟨a1_1, a1_2, a1_3, a1_4⟩ : S25)⟩ : S35)); (case aB => exact z4m); (case aF => exact (fun k_ hk => Kd.freshB (g := gb667) (o := .cells #[.string a1_0, .int .i64 a1_1, .int .i64 a1_2, .int .i64 a1_3, .string a1_4] 35 (0, 0)) z4l k_ hk)); (case aO => exact z2g); (case aS => exact (below_size z4m)); (case aL => have := LMc32.out; omega); intro v672 w34 ho hb hg hat; rw [← Ny671.out] at ho; have n0_ := zi (blk_grown (g := gb667) (o := .cells #[.string a1_0, .int .i64 a1_1, .int .i64 a1_2, .int .i64 a1_3, .string a1_4] 35 (0, 0)) z4l hg (Kd.R_away HO_5.out (fun _ hk => hk))); have n1_ := zi hb; have n2_ := zi ho; clear BK667; clear HB; clear HO_5; have BK667 := n0_; have HB := n1_; have HO673 := n2_; clear n0_ n1_ n2_; clear ho hb hg hat)); try go_wp2_with (first | ((with_reducible refine gate_builtin (b := .append) (xs := #[.tmp 48, .tmp 50]) rfl ?_); at_builtin; refine Kd.R_append k35 (w0 := w) w.heap.size rfl (.tmp 48) (.tmp 50) 26 35 (.agg #[(.string ⟨#[]⟩), (.int .i64 0), (.int .i64 0), (.int .i64 0), (.string ⟨#[]⟩)]) 56 rfl Tryz.underlying26 info35 rfl zt zp u5 x5_1 (⟨a1_0, (⟨a1_1, a1_2, a1_3, a1_4⟩ : S25)⟩ : S35) [.string a1_0, .int .i64 a1_1, .int .i64 a1_2, .int .i64 a1_3, .string a1_4] (fun k_ => k_ ≠ gb667) (fun _ => False) rfl rfl ?aP (fun _ hk => hk.elim) ?aF ?aO ?aB ?aS ?aL ?_; (case aP => exact k35_mkM _ _ _ (⟨a1_0, (⟨a1_1, a1_2, a1_3, a1_4⟩ : S25)⟩ : S35)); (case aB => exact z4m); (case aF => exact (fun k_ hk => Kd.freshB (g := gb667) (o := .cells #[.string a1_0, .int .i64 a1_1, .int .i64 a1_2, .int .i64 a1_3, .string a1_4] 35 (0, 0)) z4l k_ hk)); (case aO => exact z2g); (case aS => exact (below_size z4m)); (case aL => have := LMc32.out; omega); intro v672 w34 ho hb hg hat; rw [← Ny671.out] at ho; have n0_ := zi (blk_grown (g := gb667) (o := .cells #[.string a1_0, .int .i64 a1_1, .int .i64 a1_2, .int .i64 a1_3, .string a1_4] 35 (0, 0)) z4l hg (Kd.R_away HO_5.out (fun _ hk => hk))); have n1_ := zi hb; have n2_ := zi ho; clear BK667; clear HB; clear HO_5; have BK667 := n0_; have HB := n1_; have HO673 := n2_; clear n0_ n1_ n2_; clear ho hb hg hat)))
      go_ret
      exact ⟨_, z1b, by (with_reducible repeat (first | apply Kd.R_alloc | apply Kd.R_drewN | apply Kd.R_drew)); exact Kd.R_mono HO673.out (fun _ hk => trivial), z4m⟩
     ·rw [if_neg c32] at H
      exact absurd H (by simp)
end Go.Proofs.YtgdknepphkhnlaaGreatDoor.X
