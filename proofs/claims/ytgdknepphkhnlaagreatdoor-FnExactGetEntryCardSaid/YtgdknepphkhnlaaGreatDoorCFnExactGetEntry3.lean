/- The law FnExactGetEntry, as a plain statement: the program's GetEntry answers as the reference's, and shares no memory with another call's answer. Conditions: those of the row's reading alone. -/
/- Part 4 of 13 of this claim's texts. -/
import Derived.Shelf.Strings.Cut
import Derived.Test.YtgdknepphkhnlaaGreatDoorCFnExactGetEntry0
import Derived.Test.YtgdknepphkhnlaaGreatDoorCFnExactGetEntry1
import Derived.Test.YtgdknepphkhnlaaGreatDoorCFnExactGetEntry2
namespace Go.Proofs.YtgdknepphkhnlaaGreatDoor.X
open Go.RowKit Go.Proofs.YtgdknepphkhnlaaGreatDoorW.PrintWords Go.Proofs.YtgdknepphkhnlaaGreatDoorW.PrintLast Go.Proofs.YtgdknepphkhnlaaGreatDoorW.PrintMore
attribute [local go_sem] max2_int min2_int max_two min_two max_three min_three max_four min_four
set_option linter.unusedVariables false
set_option linter.unusedSimpArgs false
def impl_EntryOk.l0 : Nat → List (S35) → Int → Int → ByteArray → Int → Int → Int → ByteArray → List (S35) → Option (Bool)
 | 0, _, _, _, _, _, _, _, _, _ => none
 | k + 1, x6, x7, x8, x166000, x166001, x166002, x166003, x166004, x166005 => if x8 < x7 then (if 0 ≤ x8 then (if x8 < (x6.length : Int) then (if ((rd_T35 x6 x8).f0).toList = x166000.toList then (some false) else (impl_EntryOk.l0 k x6 x7 (wrap64 (x8 + 1)) x166000 x166001 x166002 x166003 x166004 x166005)) else (none)) else (none)) else ((impl_Fits.f k x166000 x166001 x166002 x166003 x166004).bind fun t168 => (if t168 = true then ((impl_ascending.f k x166005 8).bind fun t169 => (some t169)) else (some false)))
def impl_EntryOk.f (k : Nat) (a0_0 : ByteArray) (a0_1 : Int) (a0_2 : Int) (a0_3 : Int) (a0_4 : ByteArray) (l0_5 : List (S35)) : Option (Bool) := impl_EntryOk.l0 k l0_5 (l0_5.length : Int) 0 a0_0 a0_1 a0_2 a0_3 a0_4 l0_5
set_option maxHeartbeats 8000000 in
set_option maxRecDepth 100000 in
theorem impl_EntryOk.calls (k : Nat) (a0_0 : ByteArray) (a0_1 : Int) (a0_2 : Int) (a0_3 : Int) (a0_4 : ByteArray) (A0_5 : Option Addr) (c0_5 : Nat) (l0_5 : List (S35)) (r : Bool) (w : World) (hr0_5 : Kd.C k35 w A0_5 l0_5.length l0_5) (hc0_5 : l0_5.length ≤ c0_5) (h : impl_EntryOk.f k a0_0 a0_1 a0_2 a0_3 a0_4 l0_5 = some r) :
  Calls Tryz.prog 11 #[.agg #[.string a0_0, .int .i64 a0_1, .int .i64 a0_2, .int .i64 a0_3, .string a0_4, .slice A0_5 l0_5.length c0_5]] w fun e w' => e = .returned (.bool r) ∧ Below w.heap.size w w' := by
 have hu28 := Tryz.underlying28
 have hu35 := Tryz.underlying35
 have hu25 := Tryz.underlying25
 have HR0_5 := zi hr0_5
 have HC0_5 := zi hc0_5
 clear hr0_5 hc0_5
 have HB := zi (Below.refl w.heap.size w)
 have H := h
 unfold impl_EntryOk.f at H
 clear h
 have H' := zi H
 clear H
 go_enter Tryz.func11, Tryz.ntmps11
 go_wp2_with (first | ((with_reducible refine gate_dst (N := 1) rfl ?_); refine box_event zr (N := 1) zr (cs := #[.string a0_0, .int .i64 a0_1, .int .i64 a0_2, .int .i64 a0_3, .string a0_4, .slice A0_5 l0_5.length c0_5]) (t := 28) zs ?_; intro gb165 hg w2 hbox hb; have n0_ := zi (below_step zt hb); have n1_ := zi hbox; have n2_ := zi ((z5s : w.heap.size ≤ gb165)); have n3_ := zi ((z5s : w.heap.size ≤ gb165)); clear HB; have HB := n0_; have BK165 := n1_; have GW165 := n2_; have GE165 := n3_; clear n0_ n1_ n2_ n3_; clear hb hbox hg; obtain ⟨hcz3_0, hcz3_1, hcz3_2, hcz3_3, hcz3_4, hcz3_5, hfz3_0, hfz3_1, hfz3_2, hfz3_3, hfz3_4, hfz3_5⟩ := zg BK165.out))
 go_loopg [8] k (fun kq v8 w' => ∃ (x8_1 : Int), v8 = .int .i64 x8_1 ∧ Aside0 (impl_EntryOk.l0 kq l0_5 (l0_5.length : Int) x8_1 a0_0 a0_1 a0_2 a0_3 a0_4 l0_5 = some r) ∧ Aside0 (kq ≤ k) ∧ Aside0 (w'.heap[gb165]? = some (.cells #[.string a0_0, .int .i64 a0_1, .int .i64 a0_2, .int .i64 a0_3, .string a0_4, (.slice A0_5 l0_5.length c0_5)] 28 (0, 0))) ∧ Aside0 (Below w.heap.size w w'))
 case atStart => exact ⟨(0), z1d, H', ⟨Nat.le_refl _⟩, ⟨z2a⟩, ⟨z2b⟩⟩
 case round =>
  clear H'
  try clear c1
  try clear p2
  try clear hcz3_0
  try clear hcz3_1
  try clear hcz3_2
  try clear hcz3_3
  try clear hcz3_4
  try clear hcz3_5
  try clear hfz3_0
  try clear hfz3_1
  try clear hfz3_2
  try clear hfz3_3
  try clear hfz3_4
  try clear hfz3_5
  obtain ⟨x8_1, rfl, HA, HK1, BK165, HB⟩ := hrel
  cases gk with
  | zero => exact absurd HA.out (by simp [impl_EntryOk.l0])
  | succ k1 =>
   have H := HA.out
   clear HA
   simp only [impl_EntryOk.l0] at H
   by_cases c4 : x8_1 < (l0_5.length : Int)
   ·rw [if_pos c4] at H
    have c4b0 := decide_eq_true c4
    clear c4
    by_cases c5 : 0 ≤ x8_1
    ·rw [if_pos c5] at H
     have c5b0 := decide_eq_true c5
     clear c5
     by_cases c6 : x8_1 < (l0_5.length : Int)
     ·rw [if_pos c6] at H
      have c6b0 := decide_eq_true c6
      clear c6
      by_cases c7 : ((rd_T35 l0_5 x8_1).f0).toList = a0_0.toList
      ·rw [if_pos c7] at H
       have c7b0 : (((rd_T35 l0_5 x8_1).f0).toList == a0_0.toList) = true := beq_iff_eq.mpr c7
       have c7b1 : (((rd_T35 l0_5 x8_1).f0).toList != a0_0.toList) = false := bne_eq_false_iff_eq.mpr c7
       clear c7
       obtain rfl := Option.some.inj H
       have p166 : 0 ≤ (x8_1 : Int) := of_decide_eq_true z1e
       have q166 : x8_1 < (l0_5.length : Int) := of_decide_eq_true z1e
       obtain ⟨ad166, e166, hx166_0, hx166_1, hx166_2, hx166_3, hx166_4⟩ := at_T35 HR0_5.out x8_1 p166 q166
       cases e166
       replace hx166_0 := zo HB.out hx166_0
       replace hx166_1 := zo HB.out hx166_1
       replace hx166_2 := zo HB.out hx166_2
       replace hx166_3 := zo HB.out hx166_3
       replace hx166_4 := zo HB.out hx166_4
       replace p166 := eq_true p166
       replace q166 := eq_true q166
       go_wp2_with (first | ((with_reducible refine gate_dst (N := 4) rfl ?_); refine box_event zr (N := 4) zr (cs := #[.string (⟨#[]⟩ : ByteArray), .int .i64 0, .int .i64 0, .int .i64 0, .string (⟨#[]⟩ : ByteArray)]) (t := 35) zs ?_; intro gb167 hg w8 hbox hb; have n0_ := zi (blk_below (g := gb165) (o := .cells #[.string a0_0, .int .i64 a0_1, .int .i64 a0_2, .int .i64 a0_3, .string a0_4, .slice (some ad166) l0_5.length c0_5] 28 (0, 0)) z2a hb); have n1_ := zi (below_step z2b hb); have n2_ := zi hbox; have n3_ := zi ((z6c : w.heap.size ≤ gb167)); have n4_ := zi ((z6c : w.heap.size ≤ gb167)); have n5_ := zi ((by rw [hg]; exact Nat.ne_of_lt (blk_lt (g := gb165) (o := .cells #[.string a0_0, .int .i64 a0_1, .int .i64 a0_2, .int .i64 a0_3, .string a0_4, .slice (some ad166) l0_5.length c0_5] 28 (0, 0)) z2a) : gb165 ≠ gb167)); have n6_ := zi ((by rw [hg]; exact Nat.ne_of_gt (blk_lt (g := gb165) (o := .cells #[.string a0_0, .int .i64 a0_1, .int .i64 a0_2, .int .i64 a0_3, .string a0_4, .slice (some ad166) l0_5.length c0_5] 28 (0, 0)) z2a) : gb167 ≠ gb165)); clear BK165; clear HB; have BK165 := n0_; have HB := n1_; have BK167 := n2_; have GW167 := n3_; have GE167 := n4_; have NB165_167 := n5_; have NB167_165 := n6_; clear n0_ n1_ n2_ n3_ n4_ n5_ n6_; clear hb hbox hg; have hnb9 := NB167_165.out; have hnc9 := NB165_167.out; obtain ⟨hcz10_0, hcz10_1, hcz10_2, hcz10_3, hcz10_4, hfz10_0, hfz10_1, hfz10_2, hfz10_3, hfz10_4⟩ := zf BK167.out; obtain ⟨hcz11_0, hcz11_1, hcz11_2, hcz11_3, hcz11_4, hcz11_5, hfz11_0, hfz11_1, hfz11_2, hfz11_3, hfz11_4, hfz11_5⟩ := zg BK165.out))
       go_ret
       exact ⟨zw, by repeat (first | (with_reducible first | exact HB.out | apply below_alloc | apply pw_below_drewN | apply below_drew1 | refine below_set ?_ GE165.out | refine below_set ?_ GE167.out) | exact HB.out)⟩
      ·rw [if_neg c7] at H
       have c7b0 : (((rd_T35 l0_5 x8_1).f0).toList == a0_0.toList) = false := beq_eq_false_iff_ne.mpr c7
       have c7b1 : (((rd_T35 l0_5 x8_1).f0).toList != a0_0.toList) = true := bne_iff_ne.mpr c7
       have H' := zi H
       clear H
       have p166 : 0 ≤ (x8_1 : Int) := of_decide_eq_true z1e
       have q166 : x8_1 < (l0_5.length : Int) := of_decide_eq_true z1e
       obtain ⟨ad166, e166, hx166_0, hx166_1, hx166_2, hx166_3, hx166_4⟩ := at_T35 HR0_5.out x8_1 p166 q166
       cases e166
       replace hx166_0 := zo HB.out hx166_0
       replace hx166_1 := zo HB.out hx166_1
       replace hx166_2 := zo HB.out hx166_2
       replace hx166_3 := zo HB.out hx166_3
       replace hx166_4 := zo HB.out hx166_4
       replace p166 := eq_true p166
       replace q166 := eq_true q166
       go_wp2_with (first | ((with_reducible refine gate_dst (N := 4) rfl ?_); refine box_event zr (N := 4) zr (cs := #[.string (⟨#[]⟩ : ByteArray), .int .i64 0, .int .i64 0, .int .i64 0, .string (⟨#[]⟩ : ByteArray)]) (t := 35) zs ?_; intro gb167 hg w12 hbox hb; have n0_ := zi (blk_below (g := gb165) (o := .cells #[.string a0_0, .int .i64 a0_1, .int .i64 a0_2, .int .i64 a0_3, .string a0_4, .slice (some ad166) l0_5.length c0_5] 28 (0, 0)) z2a hb); have n1_ := zi (below_step z2b hb); have n2_ := zi hbox; have n3_ := zi ((z6c : w.heap.size ≤ gb167)); have n4_ := zi ((z6c : w.heap.size ≤ gb167)); have n5_ := zi ((by rw [hg]; exact Nat.ne_of_lt (blk_lt (g := gb165) (o := .cells #[.string a0_0, .int .i64 a0_1, .int .i64 a0_2, .int .i64 a0_3, .string a0_4, .slice (some ad166) l0_5.length c0_5] 28 (0, 0)) z2a) : gb165 ≠ gb167)); have n6_ := zi ((by rw [hg]; exact Nat.ne_of_gt (blk_lt (g := gb165) (o := .cells #[.string a0_0, .int .i64 a0_1, .int .i64 a0_2, .int .i64 a0_3, .string a0_4, .slice (some ad166) l0_5.length c0_5] 28 (0, 0)) z2a) : gb167 ≠ gb165)); clear BK165; clear HB; have BK165 := n0_; have HB := n1_; have BK167 := n2_; have GW167 := n3_; have GE167 := n4_; have NB165_167 := n5_; have NB167_165 := n6_; clear n0_ n1_ n2_ n3_ n4_ n5_ n6_; clear hb hbox hg; have hnb13 := NB167_165.out; have hnc13 := NB165_167.out; obtain ⟨hcz14_0, hcz14_1, hcz14_2, hcz14_3, hcz14_4, hfz14_0, hfz14_1, hfz14_2, hfz14_3, hfz14_4⟩ := zf BK167.out; obtain ⟨hcz15_0, hcz15_1, hcz15_2, hcz15_3, hcz15_4, hcz15_5, hfz15_0, hfz15_1, hfz15_2, hfz15_3, hfz15_4, hfz15_5⟩ := zg BK165.out))
       go_roundg k1
       case measure => have := HK1.out; omega
       case rel => exact ⟨(wrap64 (x8_1 + 1)), z1d, H', ⟨z1h⟩, ⟨by (repeat refine zh ?_); refine blk_far ?_ NB165_167.out _; (repeat refine zh ?_); refine blk_far ?_ NB165_167.out _; (repeat refine zh ?_); refine blk_far ?_ NB165_167.out _; (repeat refine zh ?_); refine blk_far ?_ NB165_167.out _; (repeat refine zh ?_); refine blk_far ?_ NB165_167.out _; (repeat refine zh ?_); exact BK165.out⟩, ⟨by repeat (first | (with_reducible first | exact HB.out | apply below_alloc | apply pw_below_drewN | apply below_drew1 | refine below_set ?_ GE165.out | refine below_set ?_ GE167.out) | exact HB.out)⟩⟩
     ·rw [if_neg c6] at H
      exact absurd H (by simp)
    ·rw [if_neg c5] at H
     exact absurd H (by simp)
   ·rw [if_neg c4] at H
    have c4b0 := decide_eq_false c4
    clear c4
    replace H := Option.bind_eq_some_iff.mp H
    obtain ⟨t168, A160, H⟩ := H
    try dsimp only at H
    have A16 := zi A160
    clear A160
    by_cases c17 : t168 = true
    ·subst c17
     rw [if_pos rfl] at H
     replace H := Option.bind_eq_some_iff.mp H
     obtain ⟨t169, A180, H⟩ := H
     try dsimp only at H
     have A18 := zi A180
     clear A180
     obtain rfl := Option.some.inj H
     obtain ⟨hcz19_0, hcz19_1, hcz19_2, hcz19_3, hcz19_4, hcz19_5, hfz19_0, hfz19_1, hfz19_2, hfz19_3, hfz19_4, hfz19_5⟩ := zg BK165.out
     go_wp2_with (first | ((with_reducible refine gate_callee (f := 35) rfl ?_); refine goesL_ (some 22) rfl rfl Tryz.func35 z1a rfl #[.string a0_0, .agg #[.int .i64 a0_1, .int .i64 a0_2, .int .i64 a0_3, .string a0_4]] rfl z1b ?_; (with_reducible refine (impl_Fits.calls k1 a0_0 a0_1 a0_2 a0_3 a0_4 true _ A16.out).mono ?_); rintro e w20 ⟨rfl, hb⟩; refine ⟨_, rfl, ?_⟩; have n0_ := zi (blk_below (g := gb165) (o := .cells #[.string a0_0, .int .i64 a0_1, .int .i64 a0_2, .int .i64 a0_3, .string a0_4, .slice A0_5 l0_5.length c0_5] 28 (0, 0)) z2a hb); have n1_ := zi (below_step z2b hb); clear BK165; clear HB; have BK165 := n0_; have HB := n1_; clear n0_ n1_; (try clear hb); (try clear hb2); (try clear hk); (try clear hi); obtain ⟨hcz21_0, hcz21_1, hcz21_2, hcz21_3, hcz21_4, hcz21_5, hfz21_0, hfz21_1, hfz21_2, hfz21_3, hfz21_4, hfz21_5⟩ := zg BK165.out) | (go_at_call 36; (with_reducible refine (impl_ascending.calls k1 _ _ l0_5 8 t169 _ ?side1 ?side2 A18.out).mono ?_); (case side1 => exact z1m); (case side2 => exact HC0_5.out); rintro e w22 ⟨rfl, hb⟩; have n0_ := zi (blk_below (g := gb165) (o := .cells #[.string a0_0, .int .i64 a0_1, .int .i64 a0_2, .int .i64 a0_3, .string a0_4, .slice A0_5 l0_5.length c0_5] 28 (0, 0)) z2a hb); have n1_ := zi (below_step z2b hb); clear BK165; clear HB; have BK165 := n0_; have HB := n1_; clear n0_ n1_; (try clear hb); (try clear hb2); (try clear hk); (try clear hi)))
     go_ret
     exact ⟨zw, z2b⟩
    ·replace c17 := Bool.eq_false_iff.mpr c17
     subst c17
     rw [if_neg zj] at H
     obtain rfl := Option.some.inj H
     obtain ⟨hcz23_0, hcz23_1, hcz23_2, hcz23_3, hcz23_4, hcz23_5, hfz23_0, hfz23_1, hfz23_2, hfz23_3, hfz23_4, hfz23_5⟩ := zg BK165.out
     go_wp2_with (first | ((with_reducible refine gate_callee (f := 35) rfl ?_); refine goesL_ (some 22) rfl rfl Tryz.func35 z1a rfl #[.string a0_0, .agg #[.int .i64 a0_1, .int .i64 a0_2, .int .i64 a0_3, .string a0_4]] rfl z1b ?_; (with_reducible refine (impl_Fits.calls k1 a0_0 a0_1 a0_2 a0_3 a0_4 false _ A16.out).mono ?_); rintro e w24 ⟨rfl, hb⟩; refine ⟨_, rfl, ?_⟩; have n0_ := zi (blk_below (g := gb165) (o := .cells #[.string a0_0, .int .i64 a0_1, .int .i64 a0_2, .int .i64 a0_3, .string a0_4, .slice A0_5 l0_5.length c0_5] 28 (0, 0)) z2a hb); have n1_ := zi (below_step z2b hb); clear BK165; clear HB; have BK165 := n0_; have HB := n1_; clear n0_ n1_; (try clear hb); (try clear hb2); (try clear hk); (try clear hi)))
     go_ret
     exact ⟨zw, z2b⟩
def impl_VersionText.f (k : Nat) (a0_0 : Int) (a0_1 : Int) (a0_2 : Int) (a0_3 : ByteArray) : Option (ByteArray) := (impl_VersionOk.f k a0_0 a0_1 a0_2 a0_3).bind fun t171 => (if t171 = true then ((strconv_Itoa.f a0_0).bind fun t172 => (if 1 + t172.size ≤ 9223372036854775807 then (if ((⟨#[118]⟩ : ByteArray) ++ t172).size + 1 ≤ 9223372036854775807 then ((strconv_Itoa.f a0_1).bind fun t173 => (if (((⟨#[118]⟩ : ByteArray) ++ t172) ++ (⟨#[46]⟩ : ByteArray)).size + t173.size ≤ 9223372036854775807 then (if ((((⟨#[118]⟩ : ByteArray) ++ t172) ++ (⟨#[46]⟩ : ByteArray)) ++ t173).size + 1 ≤ 9223372036854775807 then ((strconv_Itoa.f a0_2).bind fun t174 => (if (((((⟨#[118]⟩ : ByteArray) ++ t172) ++ (⟨#[46]⟩ : ByteArray)) ++ t173) ++ (⟨#[46]⟩ : ByteArray)).size + t174.size ≤ 9223372036854775807 then (if a0_3.toList = ([] : List UInt8) then (some ((((((⟨#[118]⟩ : ByteArray) ++ t172) ++ (⟨#[46]⟩ : ByteArray)) ++ t173) ++ (⟨#[46]⟩ : ByteArray)) ++ t174)) else (if 1 + a0_3.size ≤ 9223372036854775807 then (if ((((((⟨#[118]⟩ : ByteArray) ++ t172) ++ (⟨#[46]⟩ : ByteArray)) ++ t173) ++ (⟨#[46]⟩ : ByteArray)) ++ t174).size + ((⟨#[45]⟩ : ByteArray) ++ a0_3).size ≤ 9223372036854775807 then (some (((((((⟨#[118]⟩ : ByteArray) ++ t172) ++ (⟨#[46]⟩ : ByteArray)) ++ t173) ++ (⟨#[46]⟩ : ByteArray)) ++ t174) ++ ((⟨#[45]⟩ : ByteArray) ++ a0_3))) else (none)) else (none))) else (none))) else (none)) else (none))) else (none)) else (none))) else (some (⟨#[]⟩ : ByteArray)))
def impl_VersionText.T3 : Bool × List (List Nat × List Nat) := (true, [([], []), ([0], [0]), ([1], [1]), ([2], [2]), ([3], [3]), ([], []), ([5], [5]), ([6, 2], [6]), ([4, 7], [4, 7]), ([8], [8]), ([], []), ([10], [10]), ([11, 7], [11]), ([9, 12], [9, 12]), ([13, 12, 0, 1, 2, 3, 4, 5, 6, 7, 8, 9, 10, 11, 12, 13], [13])])
def impl_VersionText.B3 : List Nat := [0, 1, 3, 7, 15, 0, 32, 103, 255, 511, 0, 1024, 3303, 8191, 16383]
theorem impl_VersionText.tab3 : rtab .any (opsOf Tryz.f41 3) = impl_VersionText.T3 := by kernel_rfl
theorem impl_VersionText.bits3 : waitsOk impl_VersionText.T3.2 impl_VersionText.B3 = true := by kernel_rfl
set_option maxHeartbeats 8000000 in
set_option maxRecDepth 100000 in
theorem impl_VersionText.calls (k : Nat) (a0_0 : Int) (a0_1 : Int) (a0_2 : Int) (a0_3 : ByteArray) (r : ByteArray) (w : World) (hG_ : GlobI w) (h : impl_VersionText.f k a0_0 a0_1 a0_2 a0_3 = some r) :
  Calls Tryz.prog 41 #[.agg #[.int .i64 a0_0, .int .i64 a0_1, .int .i64 a0_2, .string a0_3]] w fun e w' => e = .returned (.string r) ∧ Below w.heap.size w w' := by
 have HG_ := zi hG_
 clear hG_
 have hu25 := Tryz.underlying25
 have HB := zi (Below.refl w.heap.size w)
 have H := h
 unfold impl_VersionText.f at H
 clear h
 replace H := Option.bind_eq_some_iff.mp H
 obtain ⟨t171, A20, H⟩ := H
 try dsimp only at H
 have A2 := zi A20
 clear A20
 by_cases c3 : t171 = true
 ·subst c3
  rw [if_pos rfl] at H
  replace H := Option.bind_eq_some_iff.mp H
  obtain ⟨t172, A40, H⟩ := H
  try dsimp only at H
  have A4 := zi A40
  clear A40
  by_cases c5 : 1 + t172.size ≤ 9223372036854775807
  ·rw [if_pos c5] at H
   have c5b0 := eq_true c5
   have c5b1 := decide_eq_true c5
   try have c5b2 : (9223372036854775807 < 1 + t172.size) = False := eq_false (Nat.not_lt.2 c5)
   by_cases c6 : ((⟨#[118]⟩ : ByteArray) ++ t172).size + 1 ≤ 9223372036854775807
   ·rw [if_pos c6] at H
    have c6s0 : (9223372036854775807 < 1 + t172.size + 1) = False := eq_false (Nat.not_lt.2 (by have h_ := c6; simp only [ByteArray.size_append] at h_; exact h_))
    have c6b0 := eq_true c6
    have c6b1 := decide_eq_true c6
    try have c6b2 : (9223372036854775807 < ((⟨#[118]⟩ : ByteArray) ++ t172).size + 1) = False := eq_false (Nat.not_lt.2 c6)
    replace H := Option.bind_eq_some_iff.mp H
    obtain ⟨t173, A70, H⟩ := H
    try dsimp only at H
    have A7 := zi A70
    clear A70
    by_cases c8 : (((⟨#[118]⟩ : ByteArray) ++ t172) ++ (⟨#[46]⟩ : ByteArray)).size + t173.size ≤ 9223372036854775807
    ·rw [if_pos c8] at H
     have c8s0 : (9223372036854775807 < 1 + t172.size + 1 + t173.size) = False := eq_false (Nat.not_lt.2 (by have h_ := c8; simp only [ByteArray.size_append] at h_; exact h_))
     have c8b0 := eq_true c8
     have c8b1 := decide_eq_true c8
     try have c8b2 : (9223372036854775807 < (((⟨#[118]⟩ : ByteArray) ++ t172) ++ (⟨#[46]⟩ : ByteArray)).size + t173.size) = False := eq_false (Nat.not_lt.2 c8)
     by_cases c9 : ((((⟨#[118]⟩ : ByteArray) ++ t172) ++ (⟨#[46]⟩ : ByteArray)) ++ t173).size + 1 ≤ 9223372036854775807
     ·rw [if_pos c9] at H
      have c9s0 : (9223372036854775807 < 1 + t172.size + 1 + t173.size + 1) = False := eq_false (Nat.not_lt.2 (by have h_ := c9; simp only [ByteArray.size_append] at h_; exact h_))
      have c9b0 := eq_true c9
      have c9b1 := decide_eq_true c9
      try have c9b2 : (9223372036854775807 < ((((⟨#[118]⟩ : ByteArray) ++ t172) ++ (⟨#[46]⟩ : ByteArray)) ++ t173).size + 1) = False := eq_false (Nat.not_lt.2 c9)
      replace H := Option.bind_eq_some_iff.mp H
      obtain ⟨t174, A100, H⟩ := H
      try dsimp only at H
      have A10 := zi A100
      clear A100
      by_cases c11 : (((((⟨#[118]⟩ : ByteArray) ++ t172) ++ (⟨#[46]⟩ : ByteArray)) ++ t173) ++ (⟨#[46]⟩ : ByteArray)).size + t174.size ≤ 9223372036854775807
      ·rw [if_pos c11] at H
       have c11s0 : (9223372036854775807 < 1 + t172.size + 1 + t173.size + 1 + t174.size) = False := eq_false (Nat.not_lt.2 (by have h_ := c11; simp only [ByteArray.size_append] at h_; exact h_))
       have c11b0 := eq_true c11
       have c11b1 := decide_eq_true c11
       try have c11b2 : (9223372036854775807 < (((((⟨#[118]⟩ : ByteArray) ++ t172) ++ (⟨#[46]⟩ : ByteArray)) ++ t173) ++ (⟨#[46]⟩ : ByteArray)).size + t174.size) = False := eq_false (Nat.not_lt.2 c11)
       by_cases c12 : a0_3.toList = ([] : List UInt8)
       ·rw [if_pos c12] at H
        have c12b0 : (a0_3.toList == ([] : List UInt8)) = true := beq_iff_eq.mpr c12
        have c12b1 : (a0_3.toList != ([] : List UInt8)) = false := bne_eq_false_iff_eq.mpr c12
        clear c12
        obtain rfl := Option.some.inj H
        go_enter Tryz.func41, Tryz.ntmps41
        try go_wp2_with (first | ((with_reducible refine gate_dst (N := 1) rfl ?_); refine box_event zr (N := 1) zr (cs := #[.int .i64 a0_0, .int .i64 a0_1, .int .i64 a0_2, .string a0_3]) (t := 25) zs ?_; intro gb170 hg w13 hbox hb; have n0_ := zi (below_step zt hb); have n1_ := zi hbox; have n2_ := zi ((z5s : w.heap.size ≤ gb170)); have n3_ := zi ((z5s : w.heap.size ≤ gb170)); clear HB; have HB := n0_; have BK170 := n1_; have GW170 := n2_; have GE170 := n3_; clear n0_ n1_ n2_ n3_; clear hb hbox hg; obtain ⟨hcz14_0, hcz14_1, hcz14_2, hcz14_3, hfz14_0, hfz14_1, hfz14_2, hfz14_3⟩ := ze BK170.out) | ((with_reducible refine gate_callee (f := 71) rfl ?_); refine goesL_ (some 5) rfl rfl Tryz.func71 z1a rfl #[.agg #[.int .i64 a0_0, .int .i64 a0_1, .int .i64 a0_2, .string a0_3]] rfl z1b ?_; (with_reducible refine (impl_VersionOk.calls k a0_0 a0_1 a0_2 a0_3 true _ A2.out).mono ?_); rintro e w15 ⟨rfl, hb⟩; refine ⟨_, rfl, ?_⟩; have n0_ := zi (blk_below (g := gb170) (o := .cells #[.int .i64 a0_0, .int .i64 a0_1, .int .i64 a0_2, .string a0_3] 25 (0, 0)) z2c hb); have n1_ := zi (below_step z2d hb); clear BK170; clear HB; have BK170 := n0_; have HB := n1_; clear n0_ n1_; (try clear hb); (try clear hb2); (try clear hk); (try clear hi)))
        have n0_ := zi (blk_drew BK170.out)
        have n1_ := zi (below_drew1 HB.out)
        clear BK170
        clear HB
        have BK170 := n0_
        have HB := n1_
        clear n0_ n1_
        refine start_ (n := 15) (S := fun w' => w'.cell? ⟨gb170, 0, none⟩ = some (.int .i64 a0_0) ∧ w'.cell? ⟨gb170, 1, none⟩ = some (.int .i64 a0_1) ∧ w'.cell? ⟨gb170, 2, none⟩ = some (.int .i64 a0_2) ∧ w'.cell? ⟨gb170, 3, none⟩ = some (.string a0_3)) (ds := []) #[z7f, z7f, z7f, z7f, z7f, z7f, z7f, z7f, z7f, z7f, z7f, z7f, z7f, z7f, z7f] z1a rfl rfl ⟨(blk_cell BK170.out 0).trans rfl, (blk_cell BK170.out 1).trans rfl, (blk_cell BK170.out 2).trans rfl, (blk_cell BK170.out 3).trans rfl⟩ (fun hHeld => ?_); refine with_tabW impl_VersionText.tab3 impl_VersionText.bits3 (fun HT_ HW_ => ?_)
        generalize w15.drew = w16 at BK170 HB hHeld ⊢
        refine zk 0 (some 7) #[z7e, z7f, z7f, z7f, z7f, z7f, z7f, z7f, z7f, z7f, z7f, z7f, z7f, z7f, z7f] rfl rfl ?_
        refine zk 5 (some 12) #[z7e, z7f, z7f, z7f, z7f, z7e, z7f, z7f, z7f, z7f, z7f, z7f, z7f, z7f, z7f] rfl rfl ?_
        refine zk 10 (some 17) #[z7e, z7f, z7f, z7f, z7f, z7e, z7f, z7f, z7f, z7f, z7e, z7f, z7f, z7f, z7f] rfl rfl ?_
        refine zm 1 (some 8) #[z7e, z7e, z7f, z7f, z7f, z7e, z7f, z7f, z7f, z7f, z7e, z7f, z7f, z7f, z7f] rfl rfl (Or.inl ⟨zr, z2e⟩) hHeld ?_
        refine zm 6 (some 13) #[z7e, z7e, z7f, z7f, z7f, z7e, z7e, z7f, z7f, z7f, z7e, z7f, z7f, z7f, z7f] rfl rfl (Or.inl ⟨zr, z2e⟩) hHeld ?_
        refine zm 11 (some 18) #[z7e, z7e, z7f, z7f, z7f, z7e, z7e, z7f, z7f, z7f, z7e, z7e, z7f, z7f, z7f] rfl rfl (Or.inl ⟨zr, z2e⟩) hHeld ?_
        refine one_ (i := 2) (N := some 9) #[z7e, z7e, z7e, z7f, z7f, z7e, z7e, z7f, z7f, z7f, z7e, z7e, z7f, z7f, z7f] rfl rfl (one_of HT_.out z1a) z1g (fun K hK => ?_)
        refine goes_ Tryz.func78 z1a rfl #[.int .i64 a0_0] zr rfl rfl z1b ?_
        with_reducible refine (strconv_Itoa.calls (hG_ := globI_on HG_.out z2f) a0_0 t172 _ A4.out).mono ?_
        rintro e w17 ⟨rfl, hb⟩
        refine ⟨_, rfl, ?_⟩
        have n0_ := zi (blk_below (g := gb170) (o := .cells #[.int .i64 a0_0, .int .i64 a0_1, .int .i64 a0_2, .string a0_3] 25 (0, 0)) z2c hb)
        have n1_ := zi (below_step z2d hb)
        clear BK170
        clear HB
        have BK170 := n0_
        have HB := n1_
        clear n0_ n1_
        (try clear hb)
        (try clear hb2)
        (try clear hk)
        (try clear hi)
        refine hK.out _ _ ⟨(blk_cell BK170.out 0).trans rfl, (blk_cell BK170.out 1).trans rfl, (blk_cell BK170.out 2).trans rfl, (blk_cell BK170.out 3).trans rfl⟩ (fun hHeld => ?_)
        clear hK K
        refine zn (some 9) rfl ?_
        refine zk 3 (some 10) #[z7e, z7e, z7e, z7e, z7f, z7e, z7e, z7f, z7f, z7f, z7e, z7e, z7f, z7f, z7f] rfl rfl ?_
        refine zk 4 (some 11) #[z7e, z7e, z7e, z7e, z7e, z7e, z7e, z7f, z7f, z7f, z7e, z7e, z7f, z7f, z7f] rfl rfl ?_
        refine one_ (i := 7) (N := some 14) #[z7e, z7e, z7e, z7e, z7e, z7e, z7e, z7e, z7f, z7f, z7e, z7e, z7f, z7f, z7f] rfl rfl (one_of HT_.out z1a) z1g (fun K hK => ?_)
        refine goes_ Tryz.func78 z1a rfl #[.int .i64 a0_1] zr rfl rfl z1b ?_
        with_reducible refine (strconv_Itoa.calls (hG_ := globI_on HG_.out z2f) a0_1 t173 _ A7.out).mono ?_
        rintro e w18 ⟨rfl, hb⟩
        refine ⟨_, rfl, ?_⟩
        have n0_ := zi (blk_below (g := gb170) (o := .cells #[.int .i64 a0_0, .int .i64 a0_1, .int .i64 a0_2, .string a0_3] 25 (0, 0)) z2c hb)
        have n1_ := zi (below_step z2d hb)
        clear BK170
        clear HB
        have BK170 := n0_
        have HB := n1_
        clear n0_ n1_
        (try clear hb)
        (try clear hb2)
        (try clear hk)
        (try clear hi)
        refine hK.out _ _ ⟨(blk_cell BK170.out 0).trans rfl, (blk_cell BK170.out 1).trans rfl, (blk_cell BK170.out 2).trans rfl, (blk_cell BK170.out 3).trans rfl⟩ (fun hHeld => ?_)
        clear hK K
        refine zn (some 14) rfl ?_
        refine zk 8 (some 15) #[z7e, z7e, z7e, z7e, z7e, z7e, z7e, z7e, z7e, z7f, z7e, z7e, z7f, z7f, z7f] rfl rfl ?_
        refine zk 9 (some 16) #[z7e, z7e, z7e, z7e, z7e, z7e, z7e, z7e, z7e, z7e, z7e, z7e, z7f, z7f, z7f] rfl rfl ?_
        refine one_ (i := 12) (N := some 19) #[z7e, z7e, z7e, z7e, z7e, z7e, z7e, z7e, z7e, z7e, z7e, z7e, z7e, z7f, z7f] rfl rfl (one_of HT_.out z1a) z1g (fun K hK => ?_)
        refine goes_ Tryz.func78 z1a rfl #[.int .i64 a0_2] zr rfl rfl z1b ?_
        with_reducible refine (strconv_Itoa.calls (hG_ := globI_on HG_.out z2f) a0_2 t174 _ A10.out).mono ?_
        rintro e w19 ⟨rfl, hb⟩
        refine ⟨_, rfl, ?_⟩
        have n0_ := zi (blk_below (g := gb170) (o := .cells #[.int .i64 a0_0, .int .i64 a0_1, .int .i64 a0_2, .string a0_3] 25 (0, 0)) z2c hb)
        have n1_ := zi (below_step z2d hb)
        clear BK170
        clear HB
        have BK170 := n0_
        have HB := n1_
        clear n0_ n1_
        (try clear hb)
        (try clear hb2)
        (try clear hk)
        (try clear hi)
        refine hK.out _ _ ⟨(blk_cell BK170.out 0).trans rfl, (blk_cell BK170.out 1).trans rfl, (blk_cell BK170.out 2).trans rfl, (blk_cell BK170.out 3).trans rfl⟩ (fun hHeld => ?_)
        clear hK K
        refine zn (some 19) rfl ?_
        refine zk 13 (some 20) #[z7e, z7e, z7e, z7e, z7e, z7e, z7e, z7e, z7e, z7e, z7e, z7e, z7e, z7e, z7f] rfl rfl ?_
        refine zk 14 (some 3) #[z7e, z7e, z7e, z7e, z7e, z7e, z7e, z7e, z7e, z7e, z7e, z7e, z7e, z7e, z7e] rfl rfl ?_
        refine done_ (done_of HT_.out z1a) ?_
        obtain ⟨hcz20_0, hcz20_1, hcz20_2, hcz20_3, hfz20_0, hfz20_1, hfz20_2, hfz20_3⟩ := ze BK170.out
        try go_wp2
        go_ret
        exact ⟨zw, z2d⟩
       ·rw [if_neg c12] at H
        have c12b0 : (a0_3.toList == ([] : List UInt8)) = false := beq_eq_false_iff_ne.mpr c12
        have c12b1 : (a0_3.toList != ([] : List UInt8)) = true := bne_iff_ne.mpr c12
        by_cases c21 : 1 + a0_3.size ≤ 9223372036854775807
        ·rw [if_pos c21] at H
         have c21b0 := eq_true c21
         have c21b1 := decide_eq_true c21
         try have c21b2 : (9223372036854775807 < 1 + a0_3.size) = False := eq_false (Nat.not_lt.2 c21)
         by_cases c22 : ((((((⟨#[118]⟩ : ByteArray) ++ t172) ++ (⟨#[46]⟩ : ByteArray)) ++ t173) ++ (⟨#[46]⟩ : ByteArray)) ++ t174).size + ((⟨#[45]⟩ : ByteArray) ++ a0_3).size ≤ 9223372036854775807
         ·rw [if_pos c22] at H
          have c22s0 : (9223372036854775807 < 1 + t172.size + 1 + t173.size + 1 + t174.size + (1 + a0_3.size)) = False := eq_false (Nat.not_lt.2 (by have h_ := c22; simp only [ByteArray.size_append] at h_; exact h_))
          have c22b0 := eq_true c22
          have c22b1 := decide_eq_true c22
          try have c22b2 : (9223372036854775807 < ((((((⟨#[118]⟩ : ByteArray) ++ t172) ++ (⟨#[46]⟩ : ByteArray)) ++ t173) ++ (⟨#[46]⟩ : ByteArray)) ++ t174).size + ((⟨#[45]⟩ : ByteArray) ++ a0_3).size) = False := eq_false (Nat.not_lt.2 c22)
          obtain rfl := Option.some.inj H
          go_enter Tryz.func41, Tryz.ntmps41
          try go_wp2_with (first | ((with_reducible refine gate_dst (N := 1) rfl ?_); refine box_event zr (N := 1) zr (cs := #[.int .i64 a0_0, .int .i64 a0_1, .int .i64 a0_2, .string a0_3]) (t := 25) zs ?_; intro gb170 hg w23 hbox hb; have n0_ := zi (below_step zt hb); have n1_ := zi hbox; have n2_ := zi ((z5s : w.heap.size ≤ gb170)); have n3_ := zi ((z5s : w.heap.size ≤ gb170)); clear HB; have HB := n0_; have BK170 := n1_; have GW170 := n2_; have GE170 := n3_; clear n0_ n1_ n2_ n3_; clear hb hbox hg; obtain ⟨hcz24_0, hcz24_1, hcz24_2, hcz24_3, hfz24_0, hfz24_1, hfz24_2, hfz24_3⟩ := ze BK170.out) | ((with_reducible refine gate_callee (f := 71) rfl ?_); refine goesL_ (some 5) rfl rfl Tryz.func71 z1a rfl #[.agg #[.int .i64 a0_0, .int .i64 a0_1, .int .i64 a0_2, .string a0_3]] rfl z1b ?_; (with_reducible refine (impl_VersionOk.calls k a0_0 a0_1 a0_2 a0_3 true _ A2.out).mono ?_); rintro e w25 ⟨rfl, hb⟩; refine ⟨_, rfl, ?_⟩; have n0_ := zi (blk_below (g := gb170) (o := .cells #[.int .i64 a0_0, .int .i64 a0_1, .int .i64 a0_2, .string a0_3] 25 (0, 0)) z2c hb); have n1_ := zi (below_step z2d hb); clear BK170; clear HB; have BK170 := n0_; have HB := n1_; clear n0_ n1_; (try clear hb); (try clear hb2); (try clear hk); (try clear hi)))
          have n0_ := zi (blk_drew BK170.out)
          have n1_ := zi (below_drew1 HB.out)
          clear BK170
          clear HB
          have BK170 := n0_
          have HB := n1_
          clear n0_ n1_
          refine start_ (n := 15) (S := fun w' => w'.cell? ⟨gb170, 0, none⟩ = some (.int .i64 a0_0) ∧ w'.cell? ⟨gb170, 1, none⟩ = some (.int .i64 a0_1) ∧ w'.cell? ⟨gb170, 2, none⟩ = some (.int .i64 a0_2) ∧ w'.cell? ⟨gb170, 3, none⟩ = some (.string a0_3)) (ds := []) #[z7f, z7f, z7f, z7f, z7f, z7f, z7f, z7f, z7f, z7f, z7f, z7f, z7f, z7f, z7f] z1a rfl rfl ⟨(blk_cell BK170.out 0).trans rfl, (blk_cell BK170.out 1).trans rfl, (blk_cell BK170.out 2).trans rfl, (blk_cell BK170.out 3).trans rfl⟩ (fun hHeld => ?_); refine with_tabW impl_VersionText.tab3 impl_VersionText.bits3 (fun HT_ HW_ => ?_)
          generalize w25.drew = w26 at BK170 HB hHeld ⊢
          refine zk 0 (some 7) #[z7e, z7f, z7f, z7f, z7f, z7f, z7f, z7f, z7f, z7f, z7f, z7f, z7f, z7f, z7f] rfl rfl ?_
          refine zk 5 (some 12) #[z7e, z7f, z7f, z7f, z7f, z7e, z7f, z7f, z7f, z7f, z7f, z7f, z7f, z7f, z7f] rfl rfl ?_
          refine zk 10 (some 17) #[z7e, z7f, z7f, z7f, z7f, z7e, z7f, z7f, z7f, z7f, z7e, z7f, z7f, z7f, z7f] rfl rfl ?_
          refine zm 1 (some 8) #[z7e, z7e, z7f, z7f, z7f, z7e, z7f, z7f, z7f, z7f, z7e, z7f, z7f, z7f, z7f] rfl rfl (Or.inl ⟨zr, z2e⟩) hHeld ?_
          refine zm 6 (some 13) #[z7e, z7e, z7f, z7f, z7f, z7e, z7e, z7f, z7f, z7f, z7e, z7f, z7f, z7f, z7f] rfl rfl (Or.inl ⟨zr, z2e⟩) hHeld ?_
          refine zm 11 (some 18) #[z7e, z7e, z7f, z7f, z7f, z7e, z7e, z7f, z7f, z7f, z7e, z7e, z7f, z7f, z7f] rfl rfl (Or.inl ⟨zr, z2e⟩) hHeld ?_
          refine one_ (i := 2) (N := some 9) #[z7e, z7e, z7e, z7f, z7f, z7e, z7e, z7f, z7f, z7f, z7e, z7e, z7f, z7f, z7f] rfl rfl (one_of HT_.out z1a) z1g (fun K hK => ?_)
          refine goes_ Tryz.func78 z1a rfl #[.int .i64 a0_0] zr rfl rfl z1b ?_
          with_reducible refine (strconv_Itoa.calls (hG_ := globI_on HG_.out z2f) a0_0 t172 _ A4.out).mono ?_
          rintro e w27 ⟨rfl, hb⟩
          refine ⟨_, rfl, ?_⟩
          have n0_ := zi (blk_below (g := gb170) (o := .cells #[.int .i64 a0_0, .int .i64 a0_1, .int .i64 a0_2, .string a0_3] 25 (0, 0)) z2c hb)
          have n1_ := zi (below_step z2d hb)
          clear BK170
          clear HB
          have BK170 := n0_
          have HB := n1_
          clear n0_ n1_
          (try clear hb)
          (try clear hb2)
          (try clear hk)
          (try clear hi)
          refine hK.out _ _ ⟨(blk_cell BK170.out 0).trans rfl, (blk_cell BK170.out 1).trans rfl, (blk_cell BK170.out 2).trans rfl, (blk_cell BK170.out 3).trans rfl⟩ (fun hHeld => ?_)
          clear hK K
          refine zn (some 9) rfl ?_
          refine zk 3 (some 10) #[z7e, z7e, z7e, z7e, z7f, z7e, z7e, z7f, z7f, z7f, z7e, z7e, z7f, z7f, z7f] rfl rfl ?_
          refine zk 4 (some 11) #[z7e, z7e, z7e, z7e, z7e, z7e, z7e, z7f, z7f, z7f, z7e, z7e, z7f, z7f, z7f] rfl rfl ?_
          refine one_ (i := 7) (N := some 14) #[z7e, z7e, z7e, z7e, z7e, z7e, z7e, z7e, z7f, z7f, z7e, z7e, z7f, z7f, z7f] rfl rfl (one_of HT_.out z1a) z1g (fun K hK => ?_)
          refine goes_ Tryz.func78 z1a rfl #[.int .i64 a0_1] zr rfl rfl z1b ?_
          with_reducible refine (strconv_Itoa.calls (hG_ := globI_on HG_.out z2f) a0_1 t173 _ A7.out).mono ?_
          rintro e w28 ⟨rfl, hb⟩
          refine ⟨_, rfl, ?_⟩
          have n0_ := zi (blk_below (g := gb170) (o := .cells #[.int .i64 a0_0, .int .i64 a0_1, .int .i64 a0_2, .string a0_3] 25 (0, 0)) z2c hb)
          have n1_ := zi (below_step z2d hb)
          clear BK170
          clear HB
          have BK170 := n0_
          have HB := n1_
          clear n0_ n1_
          (try clear hb)
          (try clear hb2)
          (try clear hk)
          (try clear hi)
          refine hK.out _ _ ⟨(blk_cell BK170.out 0).trans rfl, (blk_cell BK170.out 1).trans rfl, (blk_cell BK170.out 2).trans rfl, (blk_cell BK170.out 3).trans rfl⟩ (fun hHeld => ?_)
          clear hK K
          refine zn (some 14) rfl ?_
          refine zk 8 (some 15) #[z7e, z7e, z7e, z7e, z7e, z7e, z7e, z7e, z7e, z7f, z7e, z7e, z7f, z7f, z7f] rfl rfl ?_
          refine zk 9 (some 16) #[z7e, z7e, z7e, z7e, z7e, z7e, z7e, z7e, z7e, z7e, z7e, z7e, z7f, z7f, z7f] rfl rfl ?_
          refine one_ (i := 12) (N := some 19) #[z7e, z7e, z7e, z7e, z7e, z7e, z7e, z7e, z7e, z7e, z7e, z7e, z7e, z7f, z7f] rfl rfl (one_of HT_.out z1a) z1g (fun K hK => ?_)
          refine goes_ Tryz.func78 z1a rfl #[.int .i64 a0_2] zr rfl rfl z1b ?_
          with_reducible refine (strconv_Itoa.calls (hG_ := globI_on HG_.out z2f) a0_2 t174 _ A10.out).mono ?_
          rintro e w29 ⟨rfl, hb⟩
          refine ⟨_, rfl, ?_⟩
          have n0_ := zi (blk_below (g := gb170) (o := .cells #[.int .i64 a0_0, .int .i64 a0_1, .int .i64 a0_2, .string a0_3] 25 (0, 0)) z2c hb)
          have n1_ := zi (below_step z2d hb)
          clear BK170
          clear HB
          have BK170 := n0_
          have HB := n1_
          clear n0_ n1_
          (try clear hb)
          (try clear hb2)
          (try clear hk)
          (try clear hi)
          refine hK.out _ _ ⟨(blk_cell BK170.out 0).trans rfl, (blk_cell BK170.out 1).trans rfl, (blk_cell BK170.out 2).trans rfl, (blk_cell BK170.out 3).trans rfl⟩ (fun hHeld => ?_)
          clear hK K
          refine zn (some 19) rfl ?_
          refine zk 13 (some 20) #[z7e, z7e, z7e, z7e, z7e, z7e, z7e, z7e, z7e, z7e, z7e, z7e, z7e, z7e, z7f] rfl rfl ?_
          refine zk 14 (some 3) #[z7e, z7e, z7e, z7e, z7e, z7e, z7e, z7e, z7e, z7e, z7e, z7e, z7e, z7e, z7e] rfl rfl ?_
          refine done_ (done_of HT_.out z1a) ?_
          obtain ⟨hcz30_0, hcz30_1, hcz30_2, hcz30_3, hfz30_0, hfz30_1, hfz30_2, hfz30_3⟩ := ze BK170.out
          try go_wp2
          go_ret
          exact ⟨zw, z2d⟩
         ·rw [if_neg c22] at H
          exact absurd H (by simp)
        ·rw [if_neg c21] at H
         exact absurd H (by simp)
      ·rw [if_neg c11] at H
       exact absurd H (by simp)
     ·rw [if_neg c9] at H
      exact absurd H (by simp)
    ·rw [if_neg c8] at H
     exact absurd H (by simp)
   ·rw [if_neg c6] at H
    exact absurd H (by simp)
  ·rw [if_neg c5] at H
   exact absurd H (by simp)
 ·replace c3 := Bool.eq_false_iff.mpr c3
  subst c3
  rw [if_neg zj] at H
  obtain rfl := Option.some.inj H
  go_enter Tryz.func41, Tryz.ntmps41
  go_wp2_with (first | ((with_reducible refine gate_dst (N := 1) rfl ?_); refine box_event zr (N := 1) zr (cs := #[.int .i64 a0_0, .int .i64 a0_1, .int .i64 a0_2, .string a0_3]) (t := 25) zs ?_; intro gb170 hg w31 hbox hb; have n0_ := zi (below_step zt hb); have n1_ := zi hbox; have n2_ := zi ((z5s : w.heap.size ≤ gb170)); have n3_ := zi ((z5s : w.heap.size ≤ gb170)); clear HB; have HB := n0_; have BK170 := n1_; have GW170 := n2_; have GE170 := n3_; clear n0_ n1_ n2_ n3_; clear hb hbox hg; obtain ⟨hcz32_0, hcz32_1, hcz32_2, hcz32_3, hfz32_0, hfz32_1, hfz32_2, hfz32_3⟩ := ze BK170.out) | ((with_reducible refine gate_callee (f := 71) rfl ?_); refine goesL_ (some 5) rfl rfl Tryz.func71 z1a rfl #[.agg #[.int .i64 a0_0, .int .i64 a0_1, .int .i64 a0_2, .string a0_3]] rfl z1b ?_; (with_reducible refine (impl_VersionOk.calls k a0_0 a0_1 a0_2 a0_3 false _ A2.out).mono ?_); rintro e w33 ⟨rfl, hb⟩; refine ⟨_, rfl, ?_⟩; have n0_ := zi (blk_below (g := gb170) (o := .cells #[.int .i64 a0_0, .int .i64 a0_1, .int .i64 a0_2, .string a0_3] 25 (0, 0)) z2c hb); have n1_ := zi (below_step z2d hb); clear BK170; clear HB; have BK170 := n0_; have HB := n1_; clear n0_ n1_; (try clear hb); (try clear hb2); (try clear hk); (try clear hi)))
  go_ret
  exact ⟨zw, z2d⟩
def impl_EntryName.f (k : Nat) (a0 : ByteArray) (a1_0 : Int) (a1_1 : Int) (a1_2 : Int) (a1_3 : ByteArray) : Option (ByteArray) := (impl_Fits.f k a0 a1_0 a1_1 a1_2 a1_3).bind fun t176 => (if t176 = true then (if a0.size + 1 ≤ 9223372036854775807 then ((impl_VersionText.f k a1_0 a1_1 a1_2 a1_3).bind fun t177 => (if (a0 ++ (⟨#[64]⟩ : ByteArray)).size + t177.size ≤ 9223372036854775807 then (some ((a0 ++ (⟨#[64]⟩ : ByteArray)) ++ t177)) else (none))) else (none)) else (some (⟨#[]⟩ : ByteArray)))
set_option maxHeartbeats 8000000 in
set_option maxRecDepth 100000 in
theorem impl_EntryName.calls (k : Nat) (a0 : ByteArray) (a1_0 : Int) (a1_1 : Int) (a1_2 : Int) (a1_3 : ByteArray) (r : ByteArray) (w : World) (hG_ : GlobI w) (h : impl_EntryName.f k a0 a1_0 a1_1 a1_2 a1_3 = some r) :
  Calls Tryz.prog 14 #[.string a0, .agg #[.int .i64 a1_0, .int .i64 a1_1, .int .i64 a1_2, .string a1_3]] w fun e w' => e = .returned (.string r) ∧ Below w.heap.size w w' := by
 have HG_ := zi hG_
 clear hG_
 have hu25 := Tryz.underlying25
 have HB := zi (Below.refl w.heap.size w)
 have H := h
 unfold impl_EntryName.f at H
 clear h
 replace H := Option.bind_eq_some_iff.mp H
 obtain ⟨t176, A30, H⟩ := H
 try dsimp only at H
 have A3 := zi A30
 clear A30
 by_cases c4 : t176 = true
 ·subst c4
  rw [if_pos rfl] at H
  by_cases c5 : a0.size + 1 ≤ 9223372036854775807
  ·rw [if_pos c5] at H
   have c5b0 := eq_true c5
   have c5b1 := decide_eq_true c5
   try have c5b2 : (9223372036854775807 < a0.size + 1) = False := eq_false (Nat.not_lt.2 c5)
   replace H := Option.bind_eq_some_iff.mp H
   obtain ⟨t177, A60, H⟩ := H
   try dsimp only at H
   have A6 := zi A60
   clear A60
   by_cases c7 : (a0 ++ (⟨#[64]⟩ : ByteArray)).size + t177.size ≤ 9223372036854775807
   ·rw [if_pos c7] at H
    have c7s0 : (9223372036854775807 < a0.size + 1 + t177.size) = False := eq_false (Nat.not_lt.2 (by have h_ := c7; simp only [ByteArray.size_append] at h_; exact h_))
    have c7b0 := eq_true c7
    have c7b1 := decide_eq_true c7
    try have c7b2 : (9223372036854775807 < (a0 ++ (⟨#[64]⟩ : ByteArray)).size + t177.size) = False := eq_false (Nat.not_lt.2 c7)
    obtain rfl := Option.some.inj H
    go_enter Tryz.func14, Tryz.ntmps14
    go_wp2_with (first | ((with_reducible refine gate_dst (N := 3) rfl ?_); refine box_event zr (N := 3) zr (cs := #[.int .i64 a1_0, .int .i64 a1_1, .int .i64 a1_2, .string a1_3]) (t := 25) zs ?_; intro gb175 hg w8 hbox hb; have n0_ := zi (below_step zt hb); have n1_ := zi hbox; have n2_ := zi ((z5s : w.heap.size ≤ gb175)); have n3_ := zi ((z5s : w.heap.size ≤ gb175)); clear HB; have HB := n0_; have BK175 := n1_; have GW175 := n2_; have GE175 := n3_; clear n0_ n1_ n2_ n3_; clear hb hbox hg; obtain ⟨hcz9_0, hcz9_1, hcz9_2, hcz9_3, hfz9_0, hfz9_1, hfz9_2, hfz9_3⟩ := ze BK175.out) | ((with_reducible refine gate_callee (f := 35) rfl ?_); refine goesL_ (some 7) rfl rfl Tryz.func35 z1a rfl #[.string a0, .agg #[.int .i64 a1_0, .int .i64 a1_1, .int .i64 a1_2, .string a1_3]] rfl z1b ?_; (with_reducible refine (impl_Fits.calls k a0 a1_0 a1_1 a1_2 a1_3 true _ A3.out).mono ?_); rintro e w10 ⟨rfl, hb⟩; refine ⟨_, rfl, ?_⟩; have n0_ := zi (blk_below (g := gb175) (o := .cells #[.int .i64 a1_0, .int .i64 a1_1, .int .i64 a1_2, .string a1_3] 25 (0, 0)) z2g hb); have n1_ := zi (below_step z2h hb); clear BK175; clear HB; have BK175 := n0_; have HB := n1_; clear n0_ n1_; (try clear hb); (try clear hb2); (try clear hk); (try clear hi); obtain ⟨hcz11_0, hcz11_1, hcz11_2, hcz11_3, hfz11_0, hfz11_1, hfz11_2, hfz11_3⟩ := ze BK175.out) | ((with_reducible refine gate_callee (f := 41) rfl ?_); refine goesL_ (some 12) rfl rfl Tryz.func41 z1a rfl #[.agg #[.int .i64 a1_0, .int .i64 a1_1, .int .i64 a1_2, .string a1_3]] rfl z1b ?_; (with_reducible refine (impl_VersionText.calls (hG_ := globI_on HG_.out z2f) k a1_0 a1_1 a1_2 a1_3 t177 _ A6.out).mono ?_); rintro e w12 ⟨rfl, hb⟩; refine ⟨_, rfl, ?_⟩; have n0_ := zi (blk_below (g := gb175) (o := .cells #[.int .i64 a1_0, .int .i64 a1_1, .int .i64 a1_2, .string a1_3] 25 (0, 0)) z2g hb); have n1_ := zi (below_step z2h hb); clear BK175; clear HB; have BK175 := n0_; have HB := n1_; clear n0_ n1_; (try clear hb); (try clear hb2); (try clear hk); (try clear hi)))
    go_ret
    exact ⟨zw, z2h⟩
   ·rw [if_neg c7] at H
    exact absurd H (by simp)
  ·rw [if_neg c5] at H
   exact absurd H (by simp)
 ·replace c4 := Bool.eq_false_iff.mpr c4
  subst c4
  rw [if_neg zj] at H
  obtain rfl := Option.some.inj H
  go_enter Tryz.func14, Tryz.ntmps14
  go_wp2_with (first | ((with_reducible refine gate_dst (N := 3) rfl ?_); refine box_event zr (N := 3) zr (cs := #[.int .i64 a1_0, .int .i64 a1_1, .int .i64 a1_2, .string a1_3]) (t := 25) zs ?_; intro gb175 hg w13 hbox hb; have n0_ := zi (below_step zt hb); have n1_ := zi hbox; have n2_ := zi ((z5s : w.heap.size ≤ gb175)); have n3_ := zi ((z5s : w.heap.size ≤ gb175)); clear HB; have HB := n0_; have BK175 := n1_; have GW175 := n2_; have GE175 := n3_; clear n0_ n1_ n2_ n3_; clear hb hbox hg; obtain ⟨hcz14_0, hcz14_1, hcz14_2, hcz14_3, hfz14_0, hfz14_1, hfz14_2, hfz14_3⟩ := ze BK175.out) | ((with_reducible refine gate_callee (f := 35) rfl ?_); refine goesL_ (some 7) rfl rfl Tryz.func35 z1a rfl #[.string a0, .agg #[.int .i64 a1_0, .int .i64 a1_1, .int .i64 a1_2, .string a1_3]] rfl z1b ?_; (with_reducible refine (impl_Fits.calls k a0 a1_0 a1_1 a1_2 a1_3 false _ A3.out).mono ?_); rintro e w15 ⟨rfl, hb⟩; refine ⟨_, rfl, ?_⟩; have n0_ := zi (blk_below (g := gb175) (o := .cells #[.int .i64 a1_0, .int .i64 a1_1, .int .i64 a1_2, .string a1_3] 25 (0, 0)) z2g hb); have n1_ := zi (below_step z2h hb); clear BK175; clear HB; have BK175 := n0_; have HB := n1_; clear n0_ n1_; (try clear hb); (try clear hb2); (try clear hk); (try clear hi)))
  go_ret
  exact ⟨zw, z2h⟩
def impl_nameOf.f (k : Nat) (a0_0 : ByteArray) (a0_1 : Int) (a0_2 : Int) (a0_3 : Int) (a0_4 : ByteArray) : Option (ByteArray) := (impl_EntryName.f k a0_0 a0_1 a0_2 a0_3 a0_4).bind fun t179 => (some t179)
set_option maxHeartbeats 8000000 in
set_option maxRecDepth 100000 in
theorem impl_nameOf.calls (k : Nat) (a0_0 : ByteArray) (a0_1 : Int) (a0_2 : Int) (a0_3 : Int) (a0_4 : ByteArray) (r : ByteArray) (w : World) (hG_ : GlobI w) (h : impl_nameOf.f k a0_0 a0_1 a0_2 a0_3 a0_4 = some r) :
  Calls Tryz.prog 30 #[.agg #[.string a0_0, .int .i64 a0_1, .int .i64 a0_2, .int .i64 a0_3, .string a0_4]] w fun e w' => e = .returned (.string r) ∧ Below w.heap.size w w' := by
 have HG_ := zi hG_
 clear hG_
 have hu35 := Tryz.underlying35
 have hu25 := Tryz.underlying25
 have HB := zi (Below.refl w.heap.size w)
 have H := h
 unfold impl_nameOf.f at H
 clear h
 replace H := Option.bind_eq_some_iff.mp H
 obtain ⟨t179, A20, H⟩ := H
 try dsimp only at H
 have A2 := zi A20
 clear A20
 obtain rfl := Option.some.inj H
 go_enter Tryz.func30, Tryz.ntmps30
 go_wp2_with (first | ((with_reducible refine gate_dst (N := 1) rfl ?_); refine box_event zr (N := 1) zr (cs := #[.string a0_0, .int .i64 a0_1, .int .i64 a0_2, .int .i64 a0_3, .string a0_4]) (t := 35) zs ?_; intro gb178 hg w3 hbox hb; have n0_ := zi (below_step zt hb); have n1_ := zi hbox; have n2_ := zi ((z5s : w.heap.size ≤ gb178)); have n3_ := zi ((z5s : w.heap.size ≤ gb178)); clear HB; have HB := n0_; have BK178 := n1_; have GW178 := n2_; have GE178 := n3_; clear n0_ n1_ n2_ n3_; clear hb hbox hg; obtain ⟨hcz4_0, hcz4_1, hcz4_2, hcz4_3, hcz4_4, hfz4_0, hfz4_1, hfz4_2, hfz4_3, hfz4_4⟩ := zf BK178.out) | ((with_reducible refine gate_callee (f := 14) rfl ?_); refine goesL_ (some 7) rfl rfl Tryz.func14 z1a rfl #[.string a0_0, .agg #[.int .i64 a0_1, .int .i64 a0_2, .int .i64 a0_3, .string a0_4]] rfl z1b ?_; (with_reducible refine (impl_EntryName.calls (hG_ := globI_on HG_.out z2f) k a0_0 a0_1 a0_2 a0_3 a0_4 t179 _ A2.out).mono ?_); rintro e w5 ⟨rfl, hb⟩; refine ⟨_, rfl, ?_⟩; have n0_ := zi (blk_below (g := gb178) (o := .cells #[.string a0_0, .int .i64 a0_1, .int .i64 a0_2, .int .i64 a0_3, .string a0_4] 35 (0, 0)) (by (repeat refine zh ?_); exact BK178.out) hb); have n1_ := zi (below_step (by repeat (first | (with_reducible first | exact HB.out | apply below_alloc | apply pw_below_drewN | apply below_drew1 | refine below_set ?_ GE178.out) | exact HB.out)) hb); clear BK178; clear HB; have BK178 := n0_; have HB := n1_; clear n0_ n1_; (try clear hb); (try clear hb2); (try clear hk); (try clear hi)))
 go_ret
 exact ⟨zw, by repeat (first | (with_reducible first | exact HB.out | apply below_alloc | apply pw_below_drewN | apply below_drew1 | refine below_set ?_ GE178.out) | exact HB.out)⟩
def impl_putNum.l0 : Nat → List Int → Int → Option (List Int)
 | 0, _, _ => none
 | k + 1, x0, x1 => if x1 > 127 then (if x0.length < 140737488355328 then (impl_putNum.l0 k (x0 ++ [(Go.bits .or .i64 128 (Go.bits .and .i64 x1 127)) % 256]) (x1 / 128)) else (none)) else (if x0.length < 140737488355328 then (some (x0 ++ [(x1) % 256])) else (none))
def impl_putNum.f (k : Nat) (l0 : List Int) (a1 : Int) : Option (List Int) := impl_putNum.l0 k l0 (mx 0 (mn a1 1000000000))
set_option maxHeartbeats 8000000 in
set_option maxRecDepth 100000 in
theorem impl_putNum.calls (k : Nat) (P0_ : Nat → Prop) (u9000_ : Value) (l0 : List Int) (a1 : Int) (r : List Int) (w0 w : World) (hB : Below w0.heap.size w0 w) (ho0 : Kd.R (Kd.int .u8) 5 w w0.heap.size P0_ u9000_ l0) (h : impl_putNum.f k l0 a1 = some r) :
  Calls Tryz.prog 66 #[u9000_, .int .i64 a1] w fun e w' => ∃ v0_ : Value, e = .returned (v0_) ∧ Kd.R (Kd.int .u8) 5 w' w0.heap.size (fun k_ => (P0_ k_ ∨ w.heap.size ≤ k_)) v0_ r ∧ Below w0.heap.size w0 w' ∧ Kept w w' (fun k_ => P0_ k_) := by
 have HO0 := zi (show Kd.R (Kd.int .u8) 5 w w0.heap.size (fun k_ => (P0_ k_ ∨ w.heap.size ≤ k_)) u9000_ l0 from Kd.R_mono ho0 (fun k_ hk => (.inl hk)))
 have HK := zi (Kept.refl w (fun k_ => P0_ k_))
 have HW0 := zi hB.size
 have HB := zi hB
 clear hB
 have H := h
 unfold impl_putNum.f at H
 clear h
 obtain ⟨ji3, hji3⟩ : ∃ j_ : Int, (mn a1 1000000000) = j_ := ⟨_, rfl⟩
 replace H : (impl_putNum.l0 k l0 (mx 0 (ji3))) = some r := by first | (rw [hji3] at H; exact H) | (simp only [hji3] at H ⊢; exact H)
 (try (have hji3h : ji3 ≤ 1000000000 := by (rw [← hji3]; unfold mn; (repeat' split) <;> omega)))
 (try (have hji3g : ji3 ≤ 64 := by omega))
 have hji3_ : (if 1000000000 < a1 then 1000000000 else a1) = ji3 := hji3
 obtain ⟨ji4, hji4⟩ : ∃ j_ : Int, (mx 0 (ji3)) = j_ := ⟨_, rfl⟩
 replace H : (impl_putNum.l0 k l0 ji4) = some r := by first | (rw [hji4] at H; exact H) | (simp only [hji4] at H ⊢; exact H)
 have hji4_ : (if 0 < (ji3) then (ji3) else 0) = ji4 := hji4
 have H' := zi H
 clear H
 go_enter Tryz.func66, Tryz.ntmps66
 go_wp2
 go_loopg [0, 1] k (fun kq v0 v1 w' => ∃ (x0_1 : List Int) (x1_1 : Int), v1 = .int .i64 x1_1 ∧ Aside0 (impl_putNum.l0 kq x0_1 x1_1 = some r) ∧ Aside0 (kq ≤ k) ∧ Aside0 (Kd.R (Kd.int .u8) 5 w' w0.heap.size (fun k_ => (P0_ k_ ∨ w.heap.size ≤ k_)) v0 x0_1) ∧ Aside0 (Kept w w' (fun k_ => P0_ k_)) ∧ Aside0 (Below w0.heap.size w0 w'))
 case atStart => exact ⟨(l0), (ji4), (by first | rfl | (simp; done) | (simp only [← hji4] <;> (first | rfl | simp)) | (simp [*]; done)), H', ⟨Nat.le_refl _⟩, ⟨by (with_reducible repeat (first | apply Kd.R_alloc | apply Kd.R_drewN | apply Kd.R_drew)); exact HO0.out⟩, ⟨z2i⟩, ⟨zt⟩⟩
 case round =>
  clear H'
  try clear p2
  obtain ⟨x0_1, x1_1, rfl, HA, HK1, HO_0, HK, HB⟩ := hrel
  cases gk with
  | zero => exact absurd HA.out (by simp [impl_putNum.l0])
  | succ k1 =>
   have H := HA.out
   clear HA
   simp only [impl_putNum.l0] at H
   by_cases c5 : x1_1 > 127
   ·rw [if_pos c5] at H
    have c5b0 := decide_eq_true c5
    clear c5
    by_cases c6 : x0_1.length < 140737488355328
    ·rw [if_pos c6] at H
     have LMc6 := zi c6
     clear c6
     obtain ⟨y180, hy180⟩ : ∃ y_ : List Int, y_ = (x0_1 ++ [(Go.bits .or .i64 128 (Go.bits .and .i64 x1_1 127)) % 256]) := ⟨_, rfl⟩
     replace H : (impl_putNum.l0 k1 y180 (x1_1 / 128)) = some r := by first | (rw [hy180]; with_reducible exact H) | (have H2_ := (Option.bind_some _ _).symm.trans H; rw [hy180]; with_reducible exact H2_) | (have H2_ := (Option.bind_some _ _).symm.trans H; with_reducible exact H2_) | with_reducible exact H | (rw [hy180]; exact H) | exact H
     have Ny180 := zi hy180
     clear hy180
     have H' := zi H
     clear H
     go_wp2_with (first | ((with_reducible refine gate_builtin (b := .append) (xs := #[.tmp 10, .tmp 15]) rfl ?_); at_builtin; refine Kd.R_append (Kd.int .u8) (w0 := w0) w0.heap.size rfl (.tmp 10) (.tmp 15) 22 5 (.int .u8 0) 1 rfl Tryz.underlying22 info5 rfl z1g zq u0 x0_1 ((Go.bits .or .i64 128 (Go.bits .and .i64 x1_1 127)) % 256) [.int .u8 ((Go.bits .or .i64 128 (Go.bits .and .i64 x1_1 127)) % 256)] (fun k_ => (P0_ k_ ∨ w.heap.size ≤ k_)) (fun _ => False) rfl rfl ?aP (fun _ hk => hk.elim) ?aF ?aO ?aB ?aS ?aL ?_; (case aP => exact rfl); (case aB => exact zt); (case aF => exact (fun k_ hk => (.inr (Nat.le_trans z2j hk)))); (case aO => exact z2k); (case aS => exact (below_size zt)); (case aL => have := LMc6.out; omega); intro v181 w7 ho hb hg hat; rw [← Ny180.out] at ho; have n0_ := zi hb; have n1_ := zi (Kept.of_grown (S := (fun k_ => P0_ k_)) hg z2i (fun k_ e_ => (HO_0.out.1 k_ e_))); have n2_ := zi ho; clear HB; clear HK; clear HO_0; have HB := n0_; have HK := n1_; have HO182 := n2_; clear n0_ n1_ n2_; clear ho hb hg hat))
     go_roundg k1
     case measure => have := HK1.out; omega
     case rel => exact ⟨(y180), (x1_1 / 128), z1d, H', ⟨z1h⟩, ⟨by (with_reducible repeat (first | apply Kd.R_alloc | apply Kd.R_drewN | apply Kd.R_drew)); exact HO182.out⟩, ⟨z2i⟩, ⟨zt⟩⟩
    ·rw [if_neg c6] at H
     exact absurd H (by simp)
   ·rw [if_neg c5] at H
    have c5b0 := decide_eq_false c5
    clear c5
    by_cases c8 : x0_1.length < 140737488355328
    ·rw [if_pos c8] at H
     have LMc8 := zi c8
     clear c8
     obtain ⟨y183, hy183⟩ : ∃ y_ : List Int, y_ = (x0_1 ++ [(x1_1) % 256]) := ⟨_, rfl⟩
     replace H : (some y183) = some r := by first | (rw [hy183]; with_reducible exact H) | (have H2_ := (Option.bind_some _ _).symm.trans H; rw [hy183]; with_reducible exact H2_) | (have H2_ := (Option.bind_some _ _).symm.trans H; with_reducible exact H2_) | with_reducible exact H | (rw [hy183]; exact H) | exact H
     have Ny183 := zi hy183
     clear hy183
     obtain rfl := Option.some.inj H
     go_wp2_with (first | ((with_reducible refine gate_builtin (b := .append) (xs := #[.tmp 19, .tmp 22]) rfl ?_); at_builtin; refine Kd.R_append (Kd.int .u8) (w0 := w0) w0.heap.size rfl (.tmp 19) (.tmp 22) 22 5 (.int .u8 0) 1 rfl Tryz.underlying22 info5 rfl z1g zq u0 x0_1 ((x1_1) % 256) [.int .u8 ((x1_1) % 256)] (fun k_ => (P0_ k_ ∨ w.heap.size ≤ k_)) (fun _ => False) rfl rfl ?aP (fun _ hk => hk.elim) ?aF ?aO ?aB ?aS ?aL ?_; (case aP => exact rfl); (case aB => exact zt); (case aF => exact (fun k_ hk => (.inr (Nat.le_trans z2j hk)))); (case aO => exact z2k); (case aS => exact (below_size zt)); (case aL => have := LMc8.out; omega); intro v184 w9 ho hb hg hat; rw [← Ny183.out] at ho; have n0_ := zi hb; have n1_ := zi (Kept.of_grown (S := (fun k_ => P0_ k_)) hg z2i (fun k_ e_ => (HO_0.out.1 k_ e_))); have n2_ := zi ho; clear HB; clear HK; clear HO_0; have HB := n0_; have HK := n1_; have HO185 := n2_; clear n0_ n1_ n2_; clear ho hb hg hat))
     go_ret
     exact ⟨_, by first | rfl | (simp [errW_none, errW_some] <;> rfl) | (simp only [← hji3, ← hji4]; first | rfl | (simp [errW_none, errW_some] <;> rfl)) | (simp [*, errW_none, errW_some] <;> rfl), by (with_reducible repeat (first | apply Kd.R_alloc | apply Kd.R_drewN | apply Kd.R_drew)); exact HO185.out, zt, z2i⟩
    ·rw [if_neg c8] at H
     exact absurd H (by simp)
def impl_putText.f (k : Nat) (l0 : List Int) (a1 : ByteArray) : Option (List Int) := (impl_putNum.f k l0 (a1.size : Int)).bind fun t186 => (if t186.length + a1.size < 140737488355328 then (some (t186 ++ bytesOf a1)) else (none))
set_option maxHeartbeats 8000000 in
set_option maxRecDepth 100000 in
theorem impl_putText.calls (k : Nat) (P0_ : Nat → Prop) (u9000_ : Value) (l0 : List Int) (a1 : ByteArray) (r : List Int) (w0 w : World) (hB : Below w0.heap.size w0 w) (ho0 : Kd.R (Kd.int .u8) 5 w w0.heap.size P0_ u9000_ l0) (h : impl_putText.f k l0 a1 = some r) :
  Calls Tryz.prog 32 #[u9000_, .string a1] w fun e w' => ∃ v0_ : Value, e = .returned (v0_) ∧ Kd.R (Kd.int .u8) 5 w' w0.heap.size (fun k_ => (P0_ k_ ∨ w.heap.size ≤ k_)) v0_ r ∧ Below w0.heap.size w0 w' ∧ Kept w w' (fun k_ => P0_ k_) := by
 have HO0 := zi (show Kd.R (Kd.int .u8) 5 w w0.heap.size (fun k_ => (P0_ k_ ∨ w.heap.size ≤ k_)) u9000_ l0 from Kd.R_mono ho0 (fun k_ hk => (.inl hk)))
 have HK := zi (Kept.refl w (fun k_ => P0_ k_))
 have HW0 := zi hB.size
 have HB := zi hB
 clear hB
 have H := h
 unfold impl_putText.f at H
 clear h
 replace H := Option.bind_eq_some_iff.mp H
 obtain ⟨t186, A30, H⟩ := H
 try dsimp only at H
 have A3 := zi A30
 clear A30
 by_cases c4 : t186.length + a1.size < 140737488355328
 ·rw [if_pos c4] at H
  have LMc4 := zi c4
  clear c4
  obtain ⟨y189, hy189⟩ : ∃ y_ : List Int, y_ = (t186 ++ bytesOf a1) := ⟨_, rfl⟩
  replace H : (some y189) = some r := by first | (rw [hy189]; with_reducible exact H) | (have H2_ := (Option.bind_some _ _).symm.trans H; rw [hy189]; with_reducible exact H2_) | (have H2_ := (Option.bind_some _ _).symm.trans H; with_reducible exact H2_) | with_reducible exact H | (rw [hy189]; exact H) | exact H
  have Ny189 := zi hy189
  clear hy189
  obtain rfl := Option.some.inj H
  obtain ⟨Ao5, co5, eo5⟩ := Kd.R_slice HO0.out
  subst eo5
  go_enter Tryz.func32, Tryz.ntmps32
  go_wp2_with (first | ((with_reducible refine gate_callee (f := 66) rfl ?_); refine goesL_ (some 8) rfl rfl Tryz.func66 z1a rfl #[.slice Ao5 l0.length co5, .int .i64 (a1.size : Int)] rfl z1b ?_; (with_reducible refine (impl_putNum.calls k (fun k_ => some k_ = (.slice Ao5 l0.length co5 : Value).ownBlock) (.slice Ao5 l0.length co5) l0 (a1.size : Int) t186 w0 _ ?side1 ?side2 A3.out).mono ?_); (case side1 => exact zt); (case side2 => exact Kd.R_tight rfl HO0.out); rintro e w6 ⟨v187, rfl, ho0, hb, hkp⟩; refine ⟨_, rfl, ?_⟩; have n0_ := zi (Kd.R_mono (ok' := fun k_ => (P0_ k_ ∨ w.heap.size ≤ k_)) ho0 (fun k_ hk_ => Or.elim hk_ (fun hs_ => (HO0.out.1 k_ (hs_).symm)) (fun hn_ => (.inr (Nat.le_trans z2j hn_))))); have n1_ := zi (Kept.then_ (S := (fun k_ => P0_ k_)) z2i hkp (fun k_ hs_ => (fun e_ => (HO0.out.1 k_ e_.symm)) hs_)); have n2_ := zi hb; clear HK; clear HB; clear HO0; have HO188 := n0_; have HK := n1_; have HB := n2_; clear n0_ n1_ n2_; (try clear hb); (try clear hkp); (try clear ho0)) | (at_builtin; refine Y.R_append_str (w0 := w0) w0.heap.size rfl (.tmp 8) _ 22 9 5 rfl Tryz.underlying22 Tryz.underlying9 info5 v187 t186 a1 (fun k_ => (P0_ k_ ∨ w.heap.size ≤ k_)) rfl rfl ?aF ?aO ?aB ?aS ?aL ?_; (case aB => exact zt); (case aF => exact (fun k_ hk => (.inr (Nat.le_trans z2j hk)))); (case aO => exact (by (with_reducible repeat (first | apply Kd.R_alloc | apply Kd.R_drewN | apply Kd.R_drew)); exact HO188.out)); (case aS => exact (below_size zt)); (case aL => have := LMc4.out; omega); intro v190 w7 ho hb hg hat; rw [← Ny189.out] at ho; have n0_ := zi hb; have n1_ := zi (Kept.of_grown (S := (fun k_ => P0_ k_)) hg z2i (fun k_ e_ => (HO188.out.1 k_ e_))); have n2_ := zi ho; clear HB; clear HK; clear HO188; have HB := n0_; have HK := n1_; have HO191 := n2_; clear n0_ n1_ n2_; clear ho hb hg hat))
  go_ret
  exact ⟨_, zw, by (with_reducible repeat (first | apply Kd.R_alloc | apply Kd.R_drewN | apply Kd.R_drew)); exact HO191.out, zt, z2i⟩
 ·rw [if_neg c4] at H
  exact absurd H (by simp)
def impl_putTexts.l0 : Nat → List Int → List ByteArray → Int → Int → Option (List Int)
 | 0, _, _, _, _ => none
 | k + 1, x0, x11, x12, x13 => if x13 < x12 then (if 0 ≤ x13 then (if x13 < (x11.length : Int) then ((impl_putText.f k x0 (rdOf ByteArray.empty x11 x13)).bind fun t196 => (impl_putTexts.l0 k t196 x11 x12 (wrap64 (x13 + 1)))) else (none)) else (none)) else (some x0)
def impl_putTexts.f (k : Nat) (l0 : List Int) (l1 : List ByteArray) : Option (List Int) := (impl_putNum.f k l0 (l1.length : Int)).bind fun t192 => (impl_putTexts.l0 k t192 l1 (l1.length : Int) 0)
set_option maxHeartbeats 8000000 in
set_option maxRecDepth 100000 in
theorem impl_putTexts.calls (k : Nat) (P0_ : Nat → Prop) (u9000_ : Value) (l0 : List Int) (A1 : Option Addr) (c1 : Nat) (l1 : List ByteArray) (r : List Int) (w0 w : World) (hB : Below w0.heap.size w0 w) (ho0 : Kd.R (Kd.int .u8) 5 w w0.heap.size P0_ u9000_ l0) (hr1 : ∀ W_, Kept w W_ (fun k_ => P0_ k_) → Kd.C Kd.string W_ A1 l1.length l1) (hc1 : l1.length ≤ c1) (h : impl_putTexts.f k l0 l1 = some r) :
  Calls Tryz.prog 31 #[u9000_, .slice A1 l1.length c1] w fun e w' => ∃ v0_ : Value, e = .returned (v0_) ∧ Kd.R (Kd.int .u8) 5 w' w0.heap.size (fun k_ => (P0_ k_ ∨ w.heap.size ≤ k_)) v0_ r ∧ Below w0.heap.size w0 w' ∧ Kept w w' (fun k_ => P0_ k_) := by
 have HO0 := zi (show Kd.R (Kd.int .u8) 5 w w0.heap.size (fun k_ => (P0_ k_ ∨ w.heap.size ≤ k_)) u9000_ l0 from Kd.R_mono ho0 (fun k_ hk => (.inl hk)))
 have HR1 := zi hr1
 have HC1 := zi hc1
 clear hr1 hc1
 have HK := zi (Kept.refl w (fun k_ => P0_ k_))
 have HW0 := zi hB.size
 have HB := zi hB
 clear hB
 have H := h
 unfold impl_putTexts.f at H
 clear h
 replace H := Option.bind_eq_some_iff.mp H
 obtain ⟨t192, A30, H⟩ := H
 try dsimp only at H
 have A3 := zi A30
 clear A30
 have H' := zi H
 clear H
 obtain ⟨Ao4, co4, eo4⟩ := Kd.R_slice HO0.out
 subst eo4
 go_enter Tryz.func31, Tryz.ntmps31
 go_wp2_with (first | ((with_reducible refine gate_callee (f := 66) rfl ?_); refine goesL_ (some 10) rfl rfl Tryz.func66 z1a rfl #[.slice Ao4 l0.length co4, .int .i64 (l1.length : Int)] rfl z1b ?_; (with_reducible refine (impl_putNum.calls k (fun k_ => some k_ = (.slice Ao4 l0.length co4 : Value).ownBlock) (.slice Ao4 l0.length co4) l0 (l1.length : Int) t192 w0 _ ?side1 ?side2 A3.out).mono ?_); (case side1 => exact zt); (case side2 => exact Kd.R_tight rfl HO0.out); rintro e w5 ⟨v193, rfl, ho0, hb, hkp⟩; refine ⟨_, rfl, ?_⟩; have n0_ := zi (Kd.R_mono (ok' := fun k_ => (P0_ k_ ∨ w.heap.size ≤ k_)) ho0 (fun k_ hk_ => Or.elim hk_ (fun hs_ => (HO0.out.1 k_ (hs_).symm)) (fun hn_ => (.inr (Nat.le_trans z2j hn_))))); have n1_ := zi (Kept.then_ (S := (fun k_ => P0_ k_)) z2i hkp (fun k_ hs_ => (fun e_ => (HO0.out.1 k_ e_.symm)) hs_)); have n2_ := zi hb; clear HK; clear HB; clear HO0; have HO194 := n0_; have HK := n1_; have HB := n2_; clear n0_ n1_ n2_; (try clear hb); (try clear hkp); (try clear ho0)))
 go_loopg [0, 13] k (fun kq v0 v13 w' => ∃ (x0_1 : List Int) (x13_1 : Int), v13 = .int .i64 x13_1 ∧ Aside0 (impl_putTexts.l0 kq x0_1 l1 (l1.length : Int) x13_1 = some r) ∧ Aside0 (kq ≤ k) ∧ Aside0 (Kd.R (Kd.int .u8) 5 w' w0.heap.size (fun k_ => (P0_ k_ ∨ w.heap.size ≤ k_)) v0 x0_1) ∧ Aside0 (Kept w w' (fun k_ => P0_ k_)) ∧ Aside0 (Below w0.heap.size w0 w'))
 case atStart => exact ⟨(t192), (0), z1d, H', ⟨Nat.le_refl _⟩, ⟨by (with_reducible repeat (first | apply Kd.R_alloc | apply Kd.R_drewN | apply Kd.R_drew)); exact HO194.out⟩, ⟨z2i⟩, ⟨zt⟩⟩
 case round =>
  clear H'
  try clear c1
  try clear p2
  try clear c3
  obtain ⟨x0_1, x13_1, rfl, HA, HK1, HO_0, HK, HB⟩ := hrel
  cases gk with
  | zero => exact absurd HA.out (by simp [impl_putTexts.l0])
  | succ k1 =>
   have H := HA.out
   clear HA
   simp only [impl_putTexts.l0] at H
   by_cases c6 : x13_1 < (l1.length : Int)
   ·rw [if_pos c6] at H
    have c6b0 := decide_eq_true c6
    clear c6
    by_cases c7 : 0 ≤ x13_1
    ·rw [if_pos c7] at H
     have c7b0 := decide_eq_true c7
     clear c7
     by_cases c8 : x13_1 < (l1.length : Int)
     ·rw [if_pos c8] at H
      have c8b0 := decide_eq_true c8
      clear c8
      replace H := Option.bind_eq_some_iff.mp H
      obtain ⟨t196, A90, H⟩ := H
      try dsimp only at H
      have A9 := zi A90
      clear A90
      have H' := zi H
      clear H
      have p195 : 0 ≤ (x13_1 : Int) := of_decide_eq_true z1e
      have q195 : x13_1 < (l1.length : Int) := of_decide_eq_true z1e
      obtain ⟨ad195, e195, hx195_0⟩ := Kd.at_string (Kd.C_kept_now HR1.out HK.out) x13_1 p195 q195
      cases e195
      replace p195 := eq_true p195
      replace q195 := eq_true q195
      obtain ⟨Ao10, co10, eo10⟩ := Kd.R_slice HO_0.out
      subst eo10
      go_wp2_with (first | ((with_reducible refine gate_callee (f := 32) rfl ?_); refine goesL_ (some 19) rfl rfl Tryz.func32 z1a rfl #[.slice Ao10 x0_1.length co10, .string (rdOf ByteArray.empty l1 x13_1)] rfl z1b ?_; (with_reducible refine (impl_putText.calls k1 (fun k_ => some k_ = (.slice Ao10 x0_1.length co10 : Value).ownBlock) (.slice Ao10 x0_1.length co10) x0_1 (rdOf ByteArray.empty l1 x13_1) t196 w0 _ ?side1 ?side2 A9.out).mono ?_); (case side1 => exact zt); (case side2 => exact Kd.R_tight rfl HO_0.out); rintro e w11 ⟨v197, rfl, ho0, hb, hkp⟩; refine ⟨_, rfl, ?_⟩; have n0_ := zi (Kd.R_mono (ok' := fun k_ => (P0_ k_ ∨ w.heap.size ≤ k_)) ho0 (fun k_ hk_ => Or.elim hk_ (fun hs_ => (HO_0.out.1 k_ (hs_).symm)) (fun hn_ => (.inr (Nat.le_trans z2j hn_))))); have n1_ := zi (Kept.then_ (S := (fun k_ => P0_ k_)) z2i hkp (fun k_ hs_ => (fun e_ => (HO_0.out.1 k_ e_.symm)) hs_)); have n2_ := zi hb; clear HK; clear HB; clear HO_0; have HO198 := n0_; have HK := n1_; have HB := n2_; clear n0_ n1_ n2_; (try clear hb); (try clear hkp); (try clear ho0)))
      go_roundg k1
      case measure => have := HK1.out; omega
      case rel => exact ⟨(t196), (wrap64 (x13_1 + 1)), z1d, H', ⟨z1h⟩, ⟨by (with_reducible repeat (first | apply Kd.R_alloc | apply Kd.R_drewN | apply Kd.R_drew)); exact HO198.out⟩, ⟨z2i⟩, ⟨zt⟩⟩
     ·rw [if_neg c8] at H
      exact absurd H (by simp)
    ·rw [if_neg c7] at H
     exact absurd H (by simp)
   ·rw [if_neg c6] at H
    have c6b0 := decide_eq_false c6
    clear c6
    obtain rfl := Option.some.inj H
    go_wp2
    go_ret
    exact ⟨_, zw, z2k, zt, z2i⟩
def impl_PutEntry.l0 : Nat → List ByteArray → List (S35) → Int → Int → ByteArray → Int → Int → Int → ByteArray → List (S35) → Option (ByteArray)
 | 0, _, _, _, _, _, _, _, _, _, _ => none
 | k + 1, x3, x10, x11, x12, x200000, x200001, x200002, x200003, x200004, x200005 => if x12 < x11 then (if 0 ≤ x12 then (if x12 < (x10.length : Int) then ((impl_nameOf.f k ((rd_T35 x10 x12).f0) ((rd_T35 x10 x12).f1.f0) ((rd_T35 x10 x12).f1.f1) ((rd_T35 x10 x12).f1.f2) ((rd_T35 x10 x12).f1.f3)).bind fun t203 => (if x3.length < 8796093022208 then (impl_PutEntry.l0 k (x3 ++ [t203]) x10 x11 (wrap64 (x12 + 1)) x200000 x200001 x200002 x200003 x200004 x200005) else (none))) else (none)) else (none)) else ((impl_EntryName.f k x200000 x200001 x200002 x200003 x200004).bind fun t207 => ((impl_putText.f k ([] : List Int) t207).bind fun t208 => ((impl_putTexts.f k t208 x3).bind fun t211 => (some (strOfNums t211)))))
def impl_PutEntry.f (k : Nat) (a0_0 : ByteArray) (a0_1 : Int) (a0_2 : Int) (a0_3 : Int) (a0_4 : ByteArray) (l0_5 : List (S35)) : Option (ByteArray) := (impl_EntryOk.f k a0_0 a0_1 a0_2 a0_3 a0_4 l0_5).bind fun t200 => (if t200 = true then (impl_PutEntry.l0 k ([] : List ByteArray) l0_5 (l0_5.length : Int) 0 a0_0 a0_1 a0_2 a0_3 a0_4 l0_5) else (some (⟨#[]⟩ : ByteArray)))
set_option maxHeartbeats 8000000 in
set_option maxRecDepth 100000 in
theorem impl_PutEntry.calls (k : Nat) (a0_0 : ByteArray) (a0_1 : Int) (a0_2 : Int) (a0_3 : Int) (a0_4 : ByteArray) (A0_5 : Option Addr) (c0_5 : Nat) (l0_5 : List (S35)) (r : ByteArray) (w : World) (hG_ : GlobI w) (hr0_5 : Kd.C k35 w A0_5 l0_5.length l0_5) (hc0_5 : l0_5.length ≤ c0_5) (h : impl_PutEntry.f k a0_0 a0_1 a0_2 a0_3 a0_4 l0_5 = some r) :
  Calls Tryz.prog 9 #[.agg #[.string a0_0, .int .i64 a0_1, .int .i64 a0_2, .int .i64 a0_3, .string a0_4, .slice A0_5 l0_5.length c0_5]] w fun e w' => e = .returned (.string r) ∧ Below w.heap.size w w' := by
 have HG_ := zi hG_
 clear hG_
 have hu28 := Tryz.underlying28
 have hu35 := Tryz.underlying35
 have hu25 := Tryz.underlying25
 have HR0_5 := zi hr0_5
 have HC0_5 := zi hc0_5
 clear hr0_5 hc0_5
 have HB := zi (Below.refl w.heap.size w)
 have H := h
 unfold impl_PutEntry.f at H
 clear h
 replace H := Option.bind_eq_some_iff.mp H
 obtain ⟨t200, A20, H⟩ := H
 try dsimp only at H
 have A2 := zi A20
 clear A20
 by_cases c3 : t200 = true
 ·subst c3
  rw [if_pos rfl] at H
  have H' := zi H
  clear H
  go_enter Tryz.func9, Tryz.ntmps9
  go_wp2_with (first | ((with_reducible refine gate_dst (N := 1) rfl ?_); refine box_event zr (N := 1) zr (cs := #[.string a0_0, .int .i64 a0_1, .int .i64 a0_2, .int .i64 a0_3, .string a0_4, .slice A0_5 l0_5.length c0_5]) (t := 28) zs ?_; intro gb199 hg w4 hbox hb; have n0_ := zi (below_step zt hb); have n1_ := zi hbox; have n2_ := zi ((z5s : w.heap.size ≤ gb199)); have n3_ := zi ((z5s : w.heap.size ≤ gb199)); clear HB; have HB := n0_; have BK199 := n1_; have GW199 := n2_; have GE199 := n3_; clear n0_ n1_ n2_ n3_; clear hb hbox hg; obtain ⟨hcz5_0, hcz5_1, hcz5_2, hcz5_3, hcz5_4, hcz5_5, hfz5_0, hfz5_1, hfz5_2, hfz5_3, hfz5_4, hfz5_5⟩ := zg BK199.out) | ((with_reducible refine gate_callee (f := 11) rfl ?_); refine goesL_ (some 7) rfl rfl Tryz.func11 z1a rfl #[.agg #[.string a0_0, .int .i64 a0_1, .int .i64 a0_2, .int .i64 a0_3, .string a0_4, .slice A0_5 l0_5.length c0_5]] rfl z1b ?_; (with_reducible refine (impl_EntryOk.calls k a0_0 a0_1 a0_2 a0_3 a0_4 _ _ l0_5 true _ ?side1 ?side2 A2.out).mono ?_); (case side1 => exact z1m); (case side2 => exact HC0_5.out); rintro e w6 ⟨rfl, hb⟩; refine ⟨_, rfl, ?_⟩; have n0_ := zi (blk_below (g := gb199) (o := .cells #[.string a0_0, .int .i64 a0_1, .int .i64 a0_2, .int .i64 a0_3, .string a0_4, .slice A0_5 l0_5.length c0_5] 28 (0, 0)) z2l hb); have n1_ := zi (below_step z2m hb); clear BK199; clear HB; have BK199 := n0_; have HB := n1_; clear n0_ n1_; (try clear hb); (try clear hb2); (try clear hk); (try clear hi); obtain ⟨hcz7_0, hcz7_1, hcz7_2, hcz7_3, hcz7_4, hcz7_5, hfz7_0, hfz7_1, hfz7_2, hfz7_3, hfz7_4, hfz7_5⟩ := zg BK199.out))
  go_loopg [3, 12] k (fun kq v3 v12 w' => ∃ (x3_1 : List ByteArray) (x12_1 : Int), v12 = .int .i64 x12_1 ∧ Aside0 (impl_PutEntry.l0 kq x3_1 l0_5 (l0_5.length : Int) x12_1 a0_0 a0_1 a0_2 a0_3 a0_4 l0_5 = some r) ∧ Aside0 (kq ≤ k) ∧ Aside0 (Kd.R Kd.string 9 w' w.heap.size (fun _ => True) v3 x3_1) ∧ Aside0 (w'.heap[gb199]? = some (.cells #[.string a0_0, .int .i64 a0_1, .int .i64 a0_2, .int .i64 a0_3, .string a0_4, (.slice A0_5 l0_5.length c0_5)] 28 (0, 0))) ∧ Aside0 (Below w.heap.size w w'))
  case atStart => exact ⟨(([] : List ByteArray)), (0), z1d, H', ⟨Nat.le_refl _⟩, ⟨z2n⟩, ⟨z2l⟩, ⟨z2m⟩⟩
  case round =>
   clear H'
   try clear c1
   try clear p2
   try clear c3
   try clear hcz5_0
   try clear hcz5_1
   try clear hcz5_2
   try clear hcz5_3
   try clear hcz5_4
   try clear hcz5_5
   try clear hcz7_0
   try clear hcz7_1
   try clear hcz7_2
   try clear hcz7_3
   try clear hcz7_4
   try clear hcz7_5
   try clear hfz5_0
   try clear hfz5_1
   try clear hfz5_2
   try clear hfz5_3
   try clear hfz5_4
   try clear hfz5_5
   try clear hfz7_0
   try clear hfz7_1
   try clear hfz7_2
   try clear hfz7_3
   try clear hfz7_4
   try clear hfz7_5
   obtain ⟨x3_1, x12_1, rfl, HA, HK1, HO_3, BK199, HB⟩ := hrel
   cases gk with
   | zero => exact absurd HA.out (by simp [impl_PutEntry.l0])
   | succ k1 =>
    have H := HA.out
    clear HA
    simp only [impl_PutEntry.l0] at H
    by_cases c8 : x12_1 < (l0_5.length : Int)
    ·rw [if_pos c8] at H
     have c8b0 := decide_eq_true c8
     clear c8
     by_cases c9 : 0 ≤ x12_1
     ·rw [if_pos c9] at H
      have c9b0 := decide_eq_true c9
      clear c9
      by_cases c10 : x12_1 < (l0_5.length : Int)
      ·rw [if_pos c10] at H
       have c10b0 := decide_eq_true c10
       clear c10
       replace H := Option.bind_eq_some_iff.mp H
       obtain ⟨t203, A110, H⟩ := H
       try dsimp only at H
       have A11 := zi A110
       clear A110
       by_cases c12 : x3_1.length < 8796093022208
       ·rw [if_pos c12] at H
        have LMc12 := zi c12
        clear c12
        obtain ⟨y204, hy204⟩ : ∃ y_ : List ByteArray, y_ = (x3_1 ++ [t203]) := ⟨_, rfl⟩
        replace H : (impl_PutEntry.l0 k1 y204 l0_5 (l0_5.length : Int) (wrap64 (x12_1 + 1)) a0_0 a0_1 a0_2 a0_3 a0_4 l0_5) = some r := by first | (rw [hy204]; with_reducible exact H) | (have H2_ := (Option.bind_some _ _).symm.trans H; rw [hy204]; with_reducible exact H2_) | (have H2_ := (Option.bind_some _ _).symm.trans H; with_reducible exact H2_) | with_reducible exact H | (rw [hy204]; exact H) | exact H
        have Ny204 := zi hy204
        clear hy204
        have H' := zi H
        clear H
        have p201 : 0 ≤ (x12_1 : Int) := of_decide_eq_true z1e
        have q201 : x12_1 < (l0_5.length : Int) := of_decide_eq_true z1e
        obtain ⟨ad201, e201, hx201_0, hx201_1, hx201_2, hx201_3, hx201_4⟩ := at_T35 HR0_5.out x12_1 p201 q201
        cases e201
        replace hx201_0 := zo HB.out hx201_0
        replace hx201_1 := zo HB.out hx201_1
        replace hx201_2 := zo HB.out hx201_2
        replace hx201_3 := zo HB.out hx201_3
        replace hx201_4 := zo HB.out hx201_4
        replace p201 := eq_true p201
        replace q201 := eq_true q201
        go_wp2_with (first | ((with_reducible refine gate_dst (N := 5) rfl ?_); refine box_event zr (N := 5) zr (cs := #[.string (⟨#[]⟩ : ByteArray), .int .i64 0, .int .i64 0, .int .i64 0, .string (⟨#[]⟩ : ByteArray)]) (t := 35) zs ?_; intro gb202 hg w13 hbox hb; have n0_ := zi (Kd.R_below z1o hb); have n1_ := zi (blk_below (g := gb199) (o := .cells #[.string a0_0, .int .i64 a0_1, .int .i64 a0_2, .int .i64 a0_3, .string a0_4, .slice (some ad201) l0_5.length c0_5] 28 (0, 0)) z2l hb); have n2_ := zi (below_step z2m hb); have n3_ := zi hbox; have n4_ := zi ((by rw [hg]; exact (below_size z2m) : w.heap.size ≤ gb202)); have n5_ := zi ((by rw [hg]; exact (below_size z2m) : w.heap.size ≤ gb202)); have n6_ := zi ((by rw [hg]; exact Nat.ne_of_lt (blk_lt (g := gb199) (o := .cells #[.string a0_0, .int .i64 a0_1, .int .i64 a0_2, .int .i64 a0_3, .string a0_4, .slice (some ad201) l0_5.length c0_5] 28 (0, 0)) z2l) : gb199 ≠ gb202)); have n7_ := zi ((by rw [hg]; exact Nat.ne_of_gt (blk_lt (g := gb199) (o := .cells #[.string a0_0, .int .i64 a0_1, .int .i64 a0_2, .int .i64 a0_3, .string a0_4, .slice (some ad201) l0_5.length c0_5] 28 (0, 0)) z2l) : gb202 ≠ gb199)); clear HO_3; clear BK199; clear HB; have HO_3 := n0_; have BK199 := n1_; have HB := n2_; have BK202 := n3_; have GW202 := n4_; have GE202 := n5_; have NB199_202 := n6_; have NB202_199 := n7_; clear n0_ n1_ n2_ n3_ n4_ n5_ n6_ n7_; clear hb hbox hg; have hnb14 := NB202_199.out; have hnc14 := NB199_202.out; obtain ⟨hcz15_0, hcz15_1, hcz15_2, hcz15_3, hcz15_4, hfz15_0, hfz15_1, hfz15_2, hfz15_3, hfz15_4⟩ := zf BK202.out) | ((with_reducible refine gate_callee (f := 30) rfl ?_); refine goesL_ (some 18) rfl rfl Tryz.func30 z1a rfl #[.agg #[.string ((rd_T35 l0_5 x12_1).f0), .int .i64 ((rd_T35 l0_5 x12_1).f1.f0), .int .i64 ((rd_T35 l0_5 x12_1).f1.f1), .int .i64 ((rd_T35 l0_5 x12_1).f1.f2), .string ((rd_T35 l0_5 x12_1).f1.f3)]] rfl z1b ?_; (with_reducible refine (impl_nameOf.calls (hG_ := globI_on HG_.out z2f) k1 ((rd_T35 l0_5 x12_1).f0) ((rd_T35 l0_5 x12_1).f1.f0) ((rd_T35 l0_5 x12_1).f1.f1) ((rd_T35 l0_5 x12_1).f1.f2) ((rd_T35 l0_5 x12_1).f1.f3) t203 _ A11.out).mono ?_); rintro e w16 ⟨rfl, hb⟩; refine ⟨_, rfl, ?_⟩; have n0_ := zi (Kd.R_below (by (with_reducible repeat (first | apply Kd.R_alloc | apply Kd.R_drewN | apply Kd.R_drew)); exact (Kd.R_mono (Kd.R_far (p := ⟨gb202, 4, none⟩) (Kd.R_far (p := ⟨gb202, 3, none⟩) (Kd.R_far (p := ⟨gb202, 2, none⟩) (Kd.R_far (p := ⟨gb202, 1, none⟩) (Kd.R_far (p := ⟨gb202, 0, none⟩) (Kd.R_types HO_3.out BK202.out z1g) (fun _ hk => hk.2) (.string ((rd_T35 l0_5 x12_1).f0))) (fun _ hk => hk.2) (.int .i64 ((rd_T35 l0_5 x12_1).f1.f0))) (fun _ hk => hk.2) (.int .i64 ((rd_T35 l0_5 x12_1).f1.f1))) (fun _ hk => hk.2) (.int .i64 ((rd_T35 l0_5 x12_1).f1.f2))) (fun _ hk => hk.2) (.string ((rd_T35 l0_5 x12_1).f1.f3))) (fun _ h_ => h_.1))) hb); have n1_ := zi (blk_below (g := gb199) (o := .cells #[.string a0_0, .int .i64 a0_1, .int .i64 a0_2, .int .i64 a0_3, .string a0_4, .slice (some ad201) l0_5.length c0_5] 28 (0, 0)) (by (repeat refine zh ?_); refine blk_far ?_ NB199_202.out _; (repeat refine zh ?_); refine blk_far ?_ NB199_202.out _; (repeat refine zh ?_); refine blk_far ?_ NB199_202.out _; (repeat refine zh ?_); refine blk_far ?_ NB199_202.out _; (repeat refine zh ?_); refine blk_far ?_ NB199_202.out _; (repeat refine zh ?_); exact BK199.out) hb); have n2_ := zi (blk_below (g := gb202) (o := .cells #[.string ((rd_T35 l0_5 x12_1).f0), .int .i64 ((rd_T35 l0_5 x12_1).f1.f0), .int .i64 ((rd_T35 l0_5 x12_1).f1.f1), .int .i64 ((rd_T35 l0_5 x12_1).f1.f2), .string ((rd_T35 l0_5 x12_1).f1.f3)] 35 (0, 0)) (by (repeat refine zh ?_); refine blk_put (cs := #[.string ((rd_T35 l0_5 x12_1).f0), .int .i64 ((rd_T35 l0_5 x12_1).f1.f0), .int .i64 ((rd_T35 l0_5 x12_1).f1.f1), .int .i64 ((rd_T35 l0_5 x12_1).f1.f2), .string (⟨#[]⟩ : ByteArray)]) ?_ 4 _ rfl; (repeat refine zh ?_); refine blk_put (cs := #[.string ((rd_T35 l0_5 x12_1).f0), .int .i64 ((rd_T35 l0_5 x12_1).f1.f0), .int .i64 ((rd_T35 l0_5 x12_1).f1.f1), .int .i64 0, .string (⟨#[]⟩ : ByteArray)]) ?_ 3 _ rfl; (repeat refine zh ?_); refine blk_put (cs := #[.string ((rd_T35 l0_5 x12_1).f0), .int .i64 ((rd_T35 l0_5 x12_1).f1.f0), .int .i64 0, .int .i64 0, .string (⟨#[]⟩ : ByteArray)]) ?_ 2 _ rfl; (repeat refine zh ?_); refine blk_put (cs := #[.string ((rd_T35 l0_5 x12_1).f0), .int .i64 0, .int .i64 0, .int .i64 0, .string (⟨#[]⟩ : ByteArray)]) ?_ 1 _ rfl; (repeat refine zh ?_); refine blk_put (cs := #[.string (⟨#[]⟩ : ByteArray), .int .i64 0, .int .i64 0, .int .i64 0, .string (⟨#[]⟩ : ByteArray)]) ?_ 0 _ rfl; (repeat refine zh ?_); exact BK202.out) hb); have n3_ := zi (below_step z2o hb); clear HO_3; clear BK199; clear BK202; clear HB; have HO_3 := n0_; have BK199 := n1_; have BK202 := n2_; have HB := n3_; clear n0_ n1_ n2_ n3_; (try clear hb); (try clear hb2); (try clear hk); (try clear hi)) | ((with_reducible refine gate_builtin (b := .append) (xs := #[.tmp 16, .tmp 19]) rfl ?_); at_builtin; refine Kd.R_append Kd.string (w0 := w) w.heap.size rfl (.tmp 16) (.tmp 19) 55 9 (.string ⟨#[]⟩) 16 rfl Tryz.underlying55 info9 rfl z1g zq u3 x3_1 t203 [.string t203] (fun _ => True) (fun _ => False) rfl rfl ?aP (fun _ hk => hk.elim) ?aF ?aO ?aB ?aS ?aL ?_; (case aP => exact rfl); (case aB => exact z2o); (case aF => exact (fun _ _ => trivial)); (case aO => exact z1o); (case aS => exact (below_size z2o)); (case aL => have := LMc12.out; omega); intro v205 w17 ho hb hg hat; rw [← Ny204.out] at ho; have n0_ := zi (blk_grown (g := gb199) (o := .cells #[.string a0_0, .int .i64 a0_1, .int .i64 a0_2, .int .i64 a0_3, .string a0_4, .slice (some ad201) l0_5.length c0_5] 28 (0, 0)) z2l hg (Kd.R_ne HO_3.out BK199.out z1g)); have n1_ := zi (blk_grown (g := gb202) (o := .cells #[.string ((rd_T35 l0_5 x12_1).f0), .int .i64 ((rd_T35 l0_5 x12_1).f1.f0), .int .i64 ((rd_T35 l0_5 x12_1).f1.f1), .int .i64 ((rd_T35 l0_5 x12_1).f1.f2), .string ((rd_T35 l0_5 x12_1).f1.f3)] 35 (0, 0)) (by (repeat refine zh ?_); exact BK202.out) hg (Kd.R_ne HO_3.out BK202.out z1g)); have n2_ := zi hb; have n3_ := zi ho; clear BK199; clear BK202; clear HB; clear HO_3; have BK199 := n0_; have BK202 := n1_; have HB := n2_; have HO206 := n3_; clear n0_ n1_ n2_ n3_; clear ho hb hg hat))
        go_roundg k1
        case measure => have := HK1.out; omega
        case rel => exact ⟨(y204), (wrap64 (x12_1 + 1)), z1d, H', ⟨z1h⟩, ⟨by (with_reducible repeat (first | apply Kd.R_alloc | apply Kd.R_drewN | apply Kd.R_drew)); exact HO206.out⟩, ⟨z2l⟩, ⟨z2o⟩⟩
       ·rw [if_neg c12] at H
        exact absurd H (by simp)
      ·rw [if_neg c10] at H
       exact absurd H (by simp)
     ·rw [if_neg c9] at H
      exact absurd H (by simp)
    ·rw [if_neg c8] at H
     have c8b0 := decide_eq_false c8
     clear c8
     replace H := Option.bind_eq_some_iff.mp H
     obtain ⟨t207, A180, H⟩ := H
     try dsimp only at H
     have A18 := zi A180
     clear A180
     replace H := Option.bind_eq_some_iff.mp H
     obtain ⟨t208, A190, H⟩ := H
     try dsimp only at H
     have A19 := zi A190
     clear A190
     replace H := Option.bind_eq_some_iff.mp H
     obtain ⟨t211, A200, H⟩ := H
     try dsimp only at H
     have A20 := zi A200
     clear A200
     obtain rfl := Option.some.inj H
     obtain ⟨hcz21_0, hcz21_1, hcz21_2, hcz21_3, hcz21_4, hcz21_5, hfz21_0, hfz21_1, hfz21_2, hfz21_3, hfz21_4, hfz21_5⟩ := zg BK199.out
     go_wp2_with (first | ((with_reducible refine gate_callee (f := 14) rfl ?_); refine goesL_ (some 26) rfl rfl Tryz.func14 z1a rfl #[.string a0_0, .agg #[.int .i64 a0_1, .int .i64 a0_2, .int .i64 a0_3, .string a0_4]] rfl z1b ?_; (with_reducible refine (impl_EntryName.calls (hG_ := globI_on HG_.out z2f) k1 a0_0 a0_1 a0_2 a0_3 a0_4 t207 _ A18.out).mono ?_); rintro e w22 ⟨rfl, hb⟩; refine ⟨_, rfl, ?_⟩; have n0_ := zi (Kd.R_below z1o hb); have n1_ := zi (blk_below (g := gb199) (o := .cells #[.string a0_0, .int .i64 a0_1, .int .i64 a0_2, .int .i64 a0_3, .string a0_4, .slice A0_5 l0_5.length c0_5] 28 (0, 0)) z2l hb); have n2_ := zi (below_step z2m hb); clear HO_3; clear BK199; clear HB; have HO_3 := n0_; have BK199 := n1_; have HB := n2_; clear n0_ n1_ n2_; (try clear hb); (try clear hb2); (try clear hk); (try clear hi)) | ((with_reducible refine gate_callee (f := 32) rfl ?_); refine goesL_ (some 27) rfl rfl Tryz.func32 z1a rfl #[.slice none 0 0, .string t207] rfl z1b ?_; (refine (impl_putText.calls k1 (fun k_ => some k_ = (.slice none 0 0 : Value).ownBlock) (.slice none 0 0) ([] : List Int) t207 t208 w _ ?side1 ?side2 A19.out).mono ?_); (case side1 => exact z2m); (case side2 => exact Kd.R_nil _ _ _ _ _); rintro e w23 ⟨v209, rfl, ho0, hb, hkp⟩; refine ⟨_, rfl, ?_⟩; have n0_ := zi (Kd.R_mono (ok' := fun k_ => True) (Kd.R_keptB (HO_3.out) hkp (fun k_ hk_ hs_ => (fun e_ => by simp [Value.ownBlock] at e_) hs_)) (fun k_ hk_ => trivial)); have n1_ := zi (blk_kept z2l hkp (fun hs_ => (fun e_ => by simp [Value.ownBlock] at e_) hs_)); have n2_ := zi (Kd.R_mono (ok' := fun k_ => True) ho0 (fun k_ hk_ => trivial)); have n3_ := zi hb; clear HO_3; clear BK199; clear HB; have HO_3 := n0_; have BK199 := n1_; have HO210 := n2_; have HB := n3_; clear n0_ n1_ n2_ n3_; (try clear hb); (try clear hkp); (try clear ho0); obtain ⟨Ao24, co24, eo24⟩ := Kd.R_slice HO210.out; subst eo24; obtain ⟨Ao25, co25, eo25⟩ := Kd.R_slice HO_3.out; subst eo25) | ((with_reducible refine gate_callee (f := 31) rfl ?_); refine goesL_ (some 29) rfl rfl Tryz.func31 z1a rfl #[.slice Ao24 t208.length co24, .slice Ao25 x3_1.length co25] rfl z1b ?_; (with_reducible refine (impl_putTexts.calls k1 (fun k_ => some k_ = (.slice Ao24 t208.length co24 : Value).ownBlock) (.slice Ao24 t208.length co24) t208 _ _ x3_1 t211 w _ ?side1 ?side2 ?side3 ?side4 A20.out).mono ?_); (case side1 => exact z2m); (case side2 => exact Kd.R_tight rfl HO210.out); (case side3 => exact Kd.C_kept_own ((Kd.R_apart' HO_3.out (Kd.R_typed HO210.out) z1g)) (fun k_ hk_ hs_ => (hk_.2) hs_)); (case side4 => exact (Kd.R_reads' HO_3.out).2.1); rintro e w26 ⟨v212, rfl, ho0, hb, hkp⟩; refine ⟨_, rfl, ?_⟩; have n0_ := zi (Kd.R_mono (ok' := fun k_ => True) (Kd.R_keptB ((Kd.R_apart' HO_3.out (Kd.R_typed HO210.out) z1g)) hkp (fun k_ hk_ hs_ => (hk_.2) hs_)) (fun k_ hk_ => trivial)); have n1_ := zi (blk_kept z2l hkp (fun hs_ => (fun e_ => (Kd.R_ne HO210.out BK199.out z1g) e_) hs_)); have n2_ := zi (Kd.R_mono (ok' := fun k_ => True) ho0 (fun k_ hk_ => trivial)); have n3_ := zi hb; clear HO_3; clear BK199; clear HB; clear HO210; have HO_3 := n0_; have BK199 := n1_; have HO213 := n2_; have HB := n3_; clear n0_ n1_ n2_ n3_; (try clear hb); (try clear hkp); (try clear ho0); have hcv27 := own_string (P := Tryz.prog) Tryz.underlying22 Tryz.underlying5 Tryz.underlying9 (Kd.own_of_R HO213.out)))
     go_ret
     exact ⟨zw, z2m⟩
 ·replace c3 := Bool.eq_false_iff.mpr c3
  subst c3
  rw [if_neg zj] at H
  obtain rfl := Option.some.inj H
  go_enter Tryz.func9, Tryz.ntmps9
  go_wp2_with (first | ((with_reducible refine gate_dst (N := 1) rfl ?_); refine box_event zr (N := 1) zr (cs := #[.string a0_0, .int .i64 a0_1, .int .i64 a0_2, .int .i64 a0_3, .string a0_4, .slice A0_5 l0_5.length c0_5]) (t := 28) zs ?_; intro gb199 hg w28 hbox hb; have n0_ := zi (below_step zt hb); have n1_ := zi hbox; have n2_ := zi ((z5s : w.heap.size ≤ gb199)); have n3_ := zi ((z5s : w.heap.size ≤ gb199)); clear HB; have HB := n0_; have BK199 := n1_; have GW199 := n2_; have GE199 := n3_; clear n0_ n1_ n2_ n3_; clear hb hbox hg; obtain ⟨hcz29_0, hcz29_1, hcz29_2, hcz29_3, hcz29_4, hcz29_5, hfz29_0, hfz29_1, hfz29_2, hfz29_3, hfz29_4, hfz29_5⟩ := zg BK199.out) | ((with_reducible refine gate_callee (f := 11) rfl ?_); refine goesL_ (some 7) rfl rfl Tryz.func11 z1a rfl #[.agg #[.string a0_0, .int .i64 a0_1, .int .i64 a0_2, .int .i64 a0_3, .string a0_4, .slice A0_5 l0_5.length c0_5]] rfl z1b ?_; (with_reducible refine (impl_EntryOk.calls k a0_0 a0_1 a0_2 a0_3 a0_4 _ _ l0_5 false _ ?side1 ?side2 A2.out).mono ?_); (case side1 => exact z1m); (case side2 => exact HC0_5.out); rintro e w30 ⟨rfl, hb⟩; refine ⟨_, rfl, ?_⟩; have n0_ := zi (blk_below (g := gb199) (o := .cells #[.string a0_0, .int .i64 a0_1, .int .i64 a0_2, .int .i64 a0_3, .string a0_4, .slice A0_5 l0_5.length c0_5] 28 (0, 0)) z2l hb); have n1_ := zi (below_step z2m hb); clear BK199; clear HB; have BK199 := n0_; have HB := n1_; clear n0_ n1_; (try clear hb); (try clear hb2); (try clear hk); (try clear hi)))
  go_ret
  exact ⟨zw, z2m⟩
end Go.Proofs.YtgdknepphkhnlaaGreatDoor.X

/- strings.Cut at a separator of one byte: no variable of the library is read there. By the shelf's contracts and walk, turned. Conditions: the text has fewer than 4294967281 bytes. -/
namespace Go.Proofs.YtgdknepphkhnlaaGreatDoor.Sp
open Go.Shelf Go.RowKit Go.Lib Go.Proofs Go.Proofs.YtgdknepphkhnlaaGreatDoorW.PrintWords
set_option linter.unusedVariables false
set_option maxHeartbeats 2000000 in
set_option maxRecDepth 100000 in
theorem cut_lite_one {P : Program} {ρ : Ren} (L : Lays.n220 P ρ) (s : ByteArray) (c : UInt8) (w : World) (hs : s.size < 4294967281) :
  Calls P (ρ.f 220) #[.string s, .string ⟨#[c]⟩] w fun e w' => e = .returned (.tuple #[.string ⟨(Lib.cut s.data.toList [c]).1.toArray⟩, .string ⟨(Lib.cut s.data.toList [c]).2.1.toArray⟩, .bool (Lib.cut s.data.toList [c]).2.2]) ∧ ∃ n, w' = w.drewN n := by
 obtain ⟨sep, hsep⟩ : ∃ sep : ByteArray, sep = ⟨#[c]⟩ := ⟨_, rfl⟩
 have hd : [c] = sep.data.toList := by rw [hsep]
 have hI : ∀ W, Calls P (ρ.f 219) #[.string s, .string sep] W fun e w' => e = .returned (.int .i64 (Lib.indexB s sep)) ∧ w' = W := by
  intro W
  rw [hsep]
  refine (Any.stringslite_Index_one { L with } s c W).mono ?_
  rintro e w' ⟨he, hw⟩
  refine ⟨?_, hw⟩
  rw [he]
  show _ = Ending.returned (Value.int .i64 (Lib.index s.data.toList [c]))
  rw [Lib.index_one]
 rw [← hsep, hd]
 clear hd hsep
 rcases Lib.indexB_cases s sep with hix | ⟨i, hix, hroom⟩
 ·obtain ⟨e1, e2, e3⟩ := Lib.cutB_miss s sep hix
  rw [e1, e2, e3]
  have t3 := L.t3; have t4 := L.t4; have t9 := L.t9
  have a3 : ∀ w, (isAgg (ρ.t 3)).run P w = .ok false w := run_isAgg_plain L.t3 rfl; have a4 : ∀ w, (isAgg (ρ.t 4)).run P w = .ok false w := run_isAgg_plain L.t4 rfl; have a9 : ∀ w, (isAgg (ρ.t 9)).run P w = .ok false w := run_isAgg_plain L.t9 rfl
  have e219 : ∀ args w, (callFunc (ρ.f 219) args).run P w = .ok (.enter (ρ.f 219) args) w := enters_of L.f219 z1a rfl
  have mixed := L.mixed; have z3 := L.z3; have v3 := L.v3; have z4 := L.z4; have v4 := L.v4; have z9 := L.z9; have v9 := L.v9
  have HI := zi hI
  clear hI
  go_enter L.f220, Body.n220_ntmps ρ
  go_wp2_with (go_at_fn (ρ.f 219); refine (HI.out _).mono ?_; rintro e w' ⟨rfl, rfl⟩; rw [hix])
  go_ret3
  exact ⟨rfl, 0, rfl⟩
 ·obtain ⟨e1, e2, e3⟩ := Lib.cutB_hit s sep i hix
  rw [e1, e2, e3]
  have c1 : (0 : Int) ≤ ↑i := by omega
  have c2 : (↑i : Int) ≤ ↑s.size := by omega
  have c3 : (0 : Int) ≤ ↑i + ↑sep.size := by omega
  have c4 : (↑i + ↑sep.size : Int) ≤ ↑s.size := by omega
  have t3 := L.t3; have t4 := L.t4; have t9 := L.t9
  have a3 : ∀ w, (isAgg (ρ.t 3)).run P w = .ok false w := run_isAgg_plain L.t3 rfl; have a4 : ∀ w, (isAgg (ρ.t 4)).run P w = .ok false w := run_isAgg_plain L.t4 rfl; have a9 : ∀ w, (isAgg (ρ.t 9)).run P w = .ok false w := run_isAgg_plain L.t9 rfl
  have e219 : ∀ args w, (callFunc (ρ.f 219) args).run P w = .ok (.enter (ρ.f 219) args) w := enters_of L.f219 z1a rfl
  have mixed := L.mixed; have z3 := L.z3; have v3 := L.v3; have z4 := L.z4; have v4 := L.v4; have z9 := L.z9; have v9 := L.v9
  have HI := zi hI
  clear hI
  go_enter L.f220, Body.n220_ntmps ρ
  go_wp2_with (go_at_fn (ρ.f 219); refine (HI.out _).mono ?_; rintro e w' ⟨rfl, rfl⟩; rw [hix])
  go_region_o
  go_wp2
  go_ret3
  exact ⟨rfl, 1, rfl⟩
set_option maxHeartbeats 1000000 in
theorem cut_one {P : Program} {ρ : Ren} (L : Lays.n145 P ρ) (s : ByteArray) (c : UInt8) (w : World) (hs : s.size < 4294967281) :
  Calls P (ρ.f 145) #[.string s, .string ⟨#[c]⟩] w fun e w' => e = .returned (.tuple #[.string ⟨(Lib.cut s.data.toList [c]).1.toArray⟩, .string ⟨(Lib.cut s.data.toList [c]).2.1.toArray⟩, .bool (Lib.cut s.data.toList [c]).2.2]) ∧ ∃ n, w' = w.drewN n := by
 have t4 := L.t4; have t9 := L.t9; have t59 := L.t59
 have a4 : ∀ w, (isAgg (ρ.t 4)).run P w = .ok false w := run_isAgg_plain L.t4 rfl; have a9 : ∀ w, (isAgg (ρ.t 9)).run P w = .ok false w := run_isAgg_plain L.t9 rfl; have a59 : ∀ w, (isAgg (ρ.t 59)).run P w = .ok false w := run_isAgg_plain L.t59 rfl
 have e220 : ∀ args w, (callFunc (ρ.f 220) args).run P w = .ok (.enter (ρ.f 220) args) w := enters_of L.f220 z1a rfl
 have mixed := L.mixed; have z4 := L.z4; have v4 := L.v4; have z9 := L.z9; have v9 := L.v9; have z59 := L.z59; have v59 := L.v59
 obtain ⟨sep, hsep⟩ : ∃ sep : ByteArray, sep = ⟨#[c]⟩ := ⟨_, rfl⟩
 have hc := fun W => cut_lite_one { L with } s c W hs
 rw [← hsep] at hc ⊢
 have HC := zi hc
 clear hc hsep
 obtain ⟨x1, hx1⟩ : ∃ x, x = (⟨(Lib.cut s.data.toList [c]).1.toArray⟩ : ByteArray) := ⟨_, rfl⟩
 obtain ⟨x2, hx2⟩ : ∃ x, x = (⟨(Lib.cut s.data.toList [c]).2.1.toArray⟩ : ByteArray) := ⟨_, rfl⟩
 obtain ⟨x3, hx3⟩ : ∃ x, x = (Lib.cut s.data.toList [c]).2.2 := ⟨_, rfl⟩
 rw [← hx1, ← hx2, ← hx3] at HC ⊢
 clear hx1 hx2 hx3
 go_enter L.f145, Body.n145_ntmps ρ
 go_wp2_with (go_at_fn (ρ.f 220); refine (HC.out _).mono ?_; rintro e w' ⟨rfl, n, rfl⟩)
 go_ret3
 exact ⟨rfl, n, rfl⟩
end Go.Proofs.YtgdknepphkhnlaaGreatDoor.Sp

namespace Go.Proofs.YtgdknepphkhnlaaGreatDoor.X
open Go.RowKit Go.Proofs.YtgdknepphkhnlaaGreatDoorW.PrintWords Go.Proofs.YtgdknepphkhnlaaGreatDoorW.PrintLast Go.Proofs.YtgdknepphkhnlaaGreatDoorW.PrintMore
attribute [local go_sem] max2_int min2_int max_two min_two max_three min_three max_four min_four
set_option linter.unusedVariables false
set_option linter.unusedSimpArgs false
def cutB_ (c : UInt8) (s : ByteArray) : ByteArray × ByteArray × Bool := (⟨(Lib.cut s.data.toList [c]).1.toArray⟩, ⟨(Lib.cut s.data.toList [c]).2.1.toArray⟩, (Lib.cut s.data.toList [c]).2.2)
def strings_Cut.f (l0 l1 : ByteArray) : Option (ByteArray × ByteArray × Bool) := if l0.size < 4294967281 ∧ l1.size = 1 then some (cutB_ (l1.data.toList.headD 0) l0) else none
theorem strings_Cut.calls (l0 l1 : ByteArray) (r1 r2 : ByteArray) (r3 : Bool) (w : World) (h : strings_Cut.f l0 l1 = some (r1, r2, r3)) :
  Calls Tryz.prog 39 #[.string l0, .string l1] w fun e w' => e = .returned (.tuple #[.string r1, .string r2, .bool r3]) ∧ Drawn0 w w' := by
 unfold strings_Cut.f at h
 split at h
 ·rename_i hc
  obtain ⟨h0, h1⟩ := hc
  have h2 := Option.some.inj h
  obtain ⟨c, rfl⟩ := Lib.one_byte l1 h1
  have h3 : cutB_ c l0 = (r1, r2, r3) := h2
  unfold cutB_ at h3
  simp only [Prod.mk.injEq] at h3
  obtain ⟨rfl, rfl, rfl⟩ := h3
  refine (Go.Proofs.YtgdknepphkhnlaaGreatDoor.Sp.cut_one Tryz.lays145 l0 c w h0).mono ?_
  rintro e w' ⟨rfl, n, rfl⟩
  exact ⟨rfl, (Drawn0.refl w).step n⟩
 ·cases h
def stringslite_HasPrefix.f (a0 : ByteArray) (a1 : ByteArray) : Option (Bool) := if (a0.size : Int) ≥ (a1.size : Int) then (if 0 ≤ (a1.size : Int) then (if (a1.size : Int) ≤ (a0.size : Int) then (some ((a0.extract 0 ((a1.size : Int) : Int).toNat).toList == a1.toList)) else (none)) else (none)) else (some false)
set_option maxHeartbeats 8000000 in
set_option maxRecDepth 100000 in
theorem stringslite_HasPrefix.calls (a0 : ByteArray) (a1 : ByteArray) (r : Bool) (w : World) (h : stringslite_HasPrefix.f a0 a1 = some r) :
  Calls Tryz.prog 118 #[.string a0, .string a1] w fun e w' => e = .returned (.bool r) ∧ Drawn0 w w' := by
 have H := h
 unfold stringslite_HasPrefix.f at H
 clear h
 by_cases c3 : (a0.size : Int) ≥ (a1.size : Int)
 ·rw [if_pos c3] at H
  have c3b0 := decide_eq_true c3
  have c3b1 : decide (a1.size ≤ a0.size) = true := decide_eq_true (Int.ofNat_le.mp c3)
  clear c3
  by_cases c4 : 0 ≤ (a1.size : Int)
  ·rw [if_pos c4] at H
   have c4b0 := eq_true c4
   have c4b1 := decide_eq_true c4
   clear c4
   by_cases c5 : (a1.size : Int) ≤ (a0.size : Int)
   ·rw [if_pos c5] at H
    have c5b0 := eq_true c5
    have c5b1 := decide_eq_true c5
    clear c5
    obtain rfl := Option.some.inj H
    go_enter Tryz.func118, Tryz.ntmps118
    go_wp2
    go_ret
    exact ⟨z1d, z1n⟩
   ·rw [if_neg c5] at H
    exact absurd H (by simp)
  ·rw [if_neg c4] at H
   exact absurd H (by simp)
 ·rw [if_neg c3] at H
  have c3b0 := decide_eq_false c3
  have c3b1 : decide (a1.size ≤ a0.size) = false := decide_eq_false (fun h => c3 (Int.ofNat_le.mpr h))
  clear c3
  obtain rfl := Option.some.inj H
  go_enter Tryz.func118, Tryz.ntmps118
  go_wp2
  go_ret
  exact ⟨z1d, z1n⟩
def stringslite_TrimPrefix.f (a0 : ByteArray) (a1 : ByteArray) : Option (ByteArray) := (stringslite_HasPrefix.f a0 a1).bind fun t411 => (if t411 = true then (if 0 ≤ (a1.size : Int) then (if (a1.size : Int) ≤ (a0.size : Int) then (some (a0.extract ((a1.size : Int) : Int).toNat a0.size)) else (none)) else (none)) else (some a0))
set_option maxHeartbeats 8000000 in
set_option maxRecDepth 100000 in
theorem stringslite_TrimPrefix.calls (a0 : ByteArray) (a1 : ByteArray) (r : ByteArray) (w : World) (h : stringslite_TrimPrefix.f a0 a1 = some r) :
  Calls Tryz.prog 101 #[.string a0, .string a1] w fun e w' => e = .returned (.string r) ∧ Drawn0 w w' := by
 have H := h
 unfold stringslite_TrimPrefix.f at H
 clear h
 replace H := Option.bind_eq_some_iff.mp H
 obtain ⟨t411, A30, H⟩ := H
 try dsimp only at H
 have A3 := zi A30
 clear A30
 by_cases c4 : t411 = true
 ·subst c4
  rw [if_pos rfl] at H
  by_cases c5 : 0 ≤ (a1.size : Int)
  ·rw [if_pos c5] at H
   have c5b0 := eq_true c5
   have c5b1 := decide_eq_true c5
   clear c5
   by_cases c6 : (a1.size : Int) ≤ (a0.size : Int)
   ·rw [if_pos c6] at H
    have c6b0 := eq_true c6
    have c6b1 := decide_eq_true c6
    clear c6
    obtain rfl := Option.some.inj H
    go_enter Tryz.func101, Tryz.ntmps101
    go_wp2_with (first | ((with_reducible refine gate_callee (f := 118) rfl ?_); refine goesL_ (some 7) rfl rfl Tryz.func118 z1a rfl #[.string a0, .string a1] rfl z1b ?_; (with_reducible refine (stringslite_HasPrefix.calls a0 a1 true _ A3.out).mono ?_); rintro e w' ⟨rfl, ⟨nd, rfl⟩⟩; refine ⟨_, rfl, ?_⟩))
    go_ret
    exact ⟨z1d, z1n⟩
   ·rw [if_neg c6] at H
    exact absurd H (by simp)
  ·rw [if_neg c5] at H
   exact absurd H (by simp)
 ·replace c4 := Bool.eq_false_iff.mpr c4
  subst c4
  rw [if_neg zj] at H
  obtain rfl := Option.some.inj H
  go_enter Tryz.func101, Tryz.ntmps101
  go_wp2_with (first | ((with_reducible refine gate_callee (f := 118) rfl ?_); refine goesL_ (some 7) rfl rfl Tryz.func118 z1a rfl #[.string a0, .string a1] rfl z1b ?_; (with_reducible refine (stringslite_HasPrefix.calls a0 a1 false _ A3.out).mono ?_); rintro e w' ⟨rfl, ⟨nd, rfl⟩⟩; refine ⟨_, rfl, ?_⟩))
  go_ret
  exact ⟨z1d, z1n⟩
def strings_TrimPrefix.f (a0 : ByteArray) (a1 : ByteArray) : Option (ByteArray) := (stringslite_TrimPrefix.f a0 a1).bind fun t412 => (some t412)
set_option maxHeartbeats 8000000 in
set_option maxRecDepth 100000 in
theorem strings_TrimPrefix.calls (a0 : ByteArray) (a1 : ByteArray) (r : ByteArray) (w : World) (h : strings_TrimPrefix.f a0 a1 = some r) :
  Calls Tryz.prog 75 #[.string a0, .string a1] w fun e w' => e = .returned (.string r) ∧ Drawn0 w w' := by
 have H := h
 unfold strings_TrimPrefix.f at H
 clear h
 replace H := Option.bind_eq_some_iff.mp H
 obtain ⟨t412, A30, H⟩ := H
 try dsimp only at H
 have A3 := zi A30
 clear A30
 obtain rfl := Option.some.inj H
 go_enter Tryz.func75, Tryz.ntmps75
 go_wp2_with (first | ((with_reducible refine gate_callee (f := 101) rfl ?_); refine goesL_ (some 7) rfl rfl Tryz.func101 z1a rfl #[.string a0, .string a1] rfl z1b ?_; (with_reducible refine (stringslite_TrimPrefix.calls a0 a1 t412 _ A3.out).mono ?_); rintro e w' ⟨rfl, ⟨nd, rfl⟩⟩; refine ⟨_, rfl, ?_⟩))
 go_ret
 exact ⟨z1d, z1n⟩
def impl_ParseVersion.n3 (k : Nat) (s p : ByteArray) (a b c : Int) : Option (Int × Int × Int × ByteArray × Bool) := (impl_VersionText.f k a b c p).bind fun t => (if t.toList = s.toList then (some (a, b, c, p, true)) else (some (0, 0, 0, (⟨#[]⟩ : ByteArray), false)))
def impl_ParseVersion.n2 (k : Nat) (s p z : ByteArray) (a b : Int) : Option (Int × Int × Int × ByteArray × Bool) := (impl_numberOf.f k z 7).bind fun q => (if q.2 = true then (impl_ParseVersion.n3 k s p a b q.1) else (some (0, 0, 0, (⟨#[]⟩ : ByteArray), false)))
def impl_ParseVersion.n1 (k : Nat) (s p y z : ByteArray) (a : Int) : Option (Int × Int × Int × ByteArray × Bool) := (impl_numberOf.f k y 7).bind fun q => (if q.2 = true then (impl_ParseVersion.n2 k s p z a q.1) else (some (0, 0, 0, (⟨#[]⟩ : ByteArray), false)))
def impl_ParseVersion.n0 (k : Nat) (s p x y z : ByteArray) : Option (Int × Int × Int × ByteArray × Bool) := (impl_numberOf.f k x 7).bind fun q => (if q.2 = true then (impl_ParseVersion.n1 k s p y z q.1) else (some (0, 0, 0, (⟨#[]⟩ : ByteArray), false)))
def impl_ParseVersion.f (k : Nat) (s : ByteArray) : Option (Int × Int × Int × ByteArray × Bool) := (strings_TrimPrefix.f s (⟨#[118]⟩ : ByteArray)).bind fun t => (strings_Cut.f t (⟨#[45]⟩ : ByteArray)).bind fun c => (strings_Split.f c.1 (⟨#[46]⟩ : ByteArray)).bind fun l => (if l.length = 3 then (impl_ParseVersion.n0 k s c.2.1 (rdOf ByteArray.empty l 0) (rdOf ByteArray.empty l 1) (rdOf ByteArray.empty l 2)) else (some (0, 0, 0, (⟨#[]⟩ : ByteArray), false)))
theorem impl_ParseVersion.four {w : World} {g : Nat} {T : TypeId} {x0 x1 x2 x3 : Value} (h : w.heap[g]? = some (.cells #[x0, x1, x2, x3] T (0, 0))) (y0 y1 y2 y3 : Value) :
  ((((w.setCell ⟨g, 0, none⟩ y0).setCell ⟨g, 1, none⟩ y1).setCell ⟨g, 2, none⟩ y2).setCell ⟨g, 3, none⟩ y3).heap[g]? = some (.cells #[y0, y1, y2, y3] T (0, 0)) := blk_put (blk_put (blk_put (blk_put h 0 _ rfl) 1 _ rfl) 2 _ rfl) 3 _ rfl
theorem impl_ParseVersion.fourB {B : Nat} {a w : World} {g : Nat} (h : Below B a w) (hg : B ≤ g) (y0 y1 y2 y3 : Value) :
  Below B a ((((w.setCell ⟨g, 0, none⟩ y0).setCell ⟨g, 1, none⟩ y1).setCell ⟨g, 2, none⟩ y2).setCell ⟨g, 3, none⟩ y3) := (((h.setCell (p := ⟨g, 0, none⟩) hg _).setCell (p := ⟨g, 1, none⟩) hg _).setCell (p := ⟨g, 2, none⟩) hg _).setCell (p := ⟨g, 3, none⟩) hg _
theorem impl_ParseVersion.fourF {w : World} {g g2 : Nat} {T : TypeId} {cs : Array Value} (h : w.heap[g]? = some (.cells cs T (0, 0))) (hne : g ≠ g2) (y0 y1 y2 y3 : Value) :
  ((((w.setCell ⟨g2, 0, none⟩ y0).setCell ⟨g2, 1, none⟩ y1).setCell ⟨g2, 2, none⟩ y2).setCell ⟨g2, 3, none⟩ y3).heap[g]? = some (.cells cs T (0, 0)) := blk_far (p := ⟨g2, 3, none⟩) (blk_far (p := ⟨g2, 2, none⟩) (blk_far (p := ⟨g2, 1, none⟩) (blk_far (p := ⟨g2, 0, none⟩) h hne _) hne _) hne _) hne _
theorem impl_ParseVersion.fourO {w : World} {g base : Nat} {v : Value} {l : List ByteArray} {x0 x1 x2 x3 : Value} (h : Kd.R Kd.string 9 w base (fun _ => True) v l) (hb : w.heap[g]? = some (.cells #[x0, x1, x2, x3] 25 (0, 0))) (y0 y1 y2 y3 : Value) :
  Kd.R Kd.string 9 ((((w.setCell ⟨g, 0, none⟩ y0).setCell ⟨g, 1, none⟩ y1).setCell ⟨g, 2, none⟩ y2).setCell ⟨g, 3, none⟩ y3) base (fun _ => True) v l :=
 Kd.R_set (Kd.R_set (Kd.R_set (Kd.R_set h hb z1g 0 y0) (blk_put hb 0 _ rfl) z1g 1 y1) (blk_put (blk_put hb 0 _ rfl) 1 _ rfl) z1g 2 y2) (blk_put (blk_put (blk_put hb 0 _ rfl) 1 _ rfl) 2 _ rfl) z1g 3 y3
set_option maxHeartbeats 8000000 in
set_option maxRecDepth 100000 in
theorem impl_ParseVersion.calls (k : Nat) (a0 : ByteArray) (r1 : Int) (r2 : Int) (r3 : Int) (r4 : ByteArray) (r5 : Bool) (w : World) (hG_ : GlobI w) (h : impl_ParseVersion.f k a0 = some (r1, r2, r3, r4, r5)) :
  Calls Tryz.prog 40 #[.string a0] w fun e w' => e = .returned (.tuple #[.agg #[.int .i64 r1, .int .i64 r2, .int .i64 r3, .string r4], .bool r5]) ∧ Below w.heap.size w w' := by
 have hu27 := Tryz.underlying25
 have HG_ := zi hG_
 clear hG_
 have HB := zi (Below.refl w.heap.size w)
 obtain ⟨t, A10, h2⟩ := Option.bind_eq_some_iff.mp h
 obtain ⟨⟨c1, c2, c3⟩, A20, h3⟩ := Option.bind_eq_some_iff.mp h2
 obtain ⟨l, A30, h4⟩ := Option.bind_eq_some_iff.mp h3
 have A1 := zi A10
 have A2 := zi A20
 have A3 := zi (show strings_Split.f c1 (⟨#[46]⟩ : ByteArray) = some l from A30)
 have H0 : (if l.length = 3 then (impl_ParseVersion.n0 k a0 c2 (rdOf ByteArray.empty l 0) (rdOf ByteArray.empty l 1) (rdOf ByteArray.empty l 2)) else (some (0, 0, 0, (⟨#[]⟩ : ByteArray), false))) = some (r1, r2, r3, r4, r5) := h4
 clear h h2 h3 h4 A10 A20 A30
 by_cases c5 : l.length = 3
 ·rw [if_pos c5] at H0
  have H := zi H0
  clear H0
  have c5b : ((l.length : Int) != 3) = false := bne_eq_false_iff_eq.mpr zq
  go_enter Tryz.func40, Tryz.ntmps40
  go_wp2_with (first | ((with_reducible refine gate_dst (N := 2) rfl ?_); refine box_event zr (N := 2) zr (cs := #[.int .i64 0, .int .i64 0, .int .i64 0, .string (⟨#[]⟩ : ByteArray)]) (t := 25) zs ?_; intro g2 hg w4 hbox hb; have n0_ := zi (below_step zt hb); have n1_ := zi hbox; have n2_ := zi (z5s : w.heap.size ≤ g2); clear HB; have HB := n0_; have BK2 := n1_; have GE2 := n2_; clear n0_ n1_ n2_; clear hb hbox hg) | ((with_reducible refine gate_callee (f := 75) rfl ?_); refine goesL_ (some 15) rfl rfl Tryz.func75 z1a rfl #[.string a0, .string (⟨#[118]⟩ : ByteArray)] rfl z2p ?_; (with_reducible refine (strings_TrimPrefix.calls a0 (⟨#[118]⟩ : ByteArray) t _ A1.out).mono ?_); rintro e w' ⟨rfl, ⟨nd, rfl⟩⟩; refine ⟨_, rfl, ?_⟩) | ((with_reducible refine gate_callee (f := 39) rfl ?_); refine goesL_ (some 16) rfl rfl Tryz.func39 z1a rfl #[.string t, .string (⟨#[45]⟩ : ByteArray)] rfl z2p ?_; (with_reducible refine (strings_Cut.calls t (⟨#[45]⟩ : ByteArray) c1 c2 c3 _ A2.out).mono ?_); rintro e w' ⟨rfl, ⟨nd, rfl⟩⟩; refine ⟨_, rfl, ?_⟩) | ((with_reducible refine gate_callee (f := 76) rfl ?_); refine goesL_ (some 21) rfl rfl Tryz.func76 z1a rfl #[.string c1, .string (⟨#[46]⟩ : ByteArray)] rfl z2p ?_; (with_reducible refine (strings_Split.calls c1 (⟨#[46]⟩ : ByteArray) l _ A3.out).mono ?_); rintro e w3 ⟨v122, rfl, ho0, hb⟩; refine ⟨_, rfl, ?_⟩; have n0_ := zi (Kd.R_lower ho0 (below_size z2q)); have n2_ := zi (blk_below (g := g2) (o := .cells #[.int .i64 0, .int .i64 0, .int .i64 0, .string (⟨#[]⟩ : ByteArray)] 25 (0, 0)) z2r hb); have n1_ := zi (below_step z2q hb); clear HB BK2; have HO := n0_; have HB := n1_; have BK2 := n2_; clear n0_ n1_ n2_; (try clear hb); (try clear ho0); obtain ⟨Ao4, co4, eo4⟩ := Kd.R_slice HO.out; subst eo4; have d0 : w3.cell? ⟨g2, 0, none⟩ = some (.int .i64 0) := (blk_cell BK2.out 0).trans rfl; have d1 : w3.cell? ⟨g2, 1, none⟩ = some (.int .i64 0) := (blk_cell BK2.out 1).trans rfl; have d2 : w3.cell? ⟨g2, 2, none⟩ = some (.int .i64 0) := (blk_cell BK2.out 2).trans rfl; have d3 : w3.cell? ⟨g2, 3, none⟩ = some (.string (⟨#[]⟩ : ByteArray)) := (blk_cell BK2.out 3).trans rfl; have f0 := blk_frozen BK2.out 0; have f1 := blk_frozen BK2.out 1; have f2 := blk_frozen BK2.out 2; have f3 := blk_frozen BK2.out 3) | ((with_reducible refine gate_dst (N := 8) rfl ?_); refine box_event zr (N := 8) zr (cs := #[.int .i64 0, .int .i64 0, .int .i64 0, .string (⟨#[]⟩ : ByteArray)]) (t := 25) zs ?_; intro g8 hg w4 hbox hb; have n5_ := zi ((by rw [hg]; exact (Nat.ne_of_lt (blk_lt (w := _) (g := g2) (o := .cells #[.int .i64 0, .int .i64 0, .int .i64 0, .string (⟨#[]⟩ : ByteArray)] 25 (0, 0)) z2r))) : g2 ≠ g8); have n4_ := zi (Kd.R_below z1t hb); have n3_ := zi (blk_below (g := g2) (o := .cells #[.int .i64 0, .int .i64 0, .int .i64 0, .string (⟨#[]⟩ : ByteArray)] 25 (0, 0)) z2r hb); have n0_ := zi (below_step z2q hb); have n1_ := zi hbox; have n2_ := zi ((by rw [hg]; exact (below_size z2q)) : w.heap.size ≤ g8); clear HB BK2 HO; have HB := n0_; have BK2 := n3_; have BK8 := n1_; have GE8 := n2_; have HO := n4_; have NE28 := n5_; clear n0_ n1_ n2_ n3_ n4_ n5_; clear hb hbox hg; have e0 : w4.cell? ⟨g8, 0, none⟩ = some (.int .i64 0) := (blk_cell BK8.out 0).trans rfl; have e1 : w4.cell? ⟨g8, 1, none⟩ = some (.int .i64 0) := (blk_cell BK8.out 1).trans rfl; have e2 : w4.cell? ⟨g8, 2, none⟩ = some (.int .i64 0) := (blk_cell BK8.out 2).trans rfl; have e3 : w4.cell? ⟨g8, 3, none⟩ = some (.string (⟨#[]⟩ : ByteArray)) := (blk_cell BK8.out 3).trans rfl; have q0 := blk_frozen BK8.out 0; have q1 := blk_frozen BK8.out 1; have q2 := blk_frozen BK8.out 2; have q3 := blk_frozen BK8.out 3))
  have ix0 : ∀ W, (Instr.index 99 (.agg #[.pointer (some ⟨g8, 0, none⟩), .pointer (some ⟨g8, 1, none⟩), .pointer (some ⟨g8, 2, none⟩)]) (.int .i64 0)).run Tryz.prog W = .ok (.pointer (some ⟨g8, 0, none⟩)) W := fun W => by simp [Instr.index, run_underlying Tryz.underlying99, asIntOf, go_sem]
  have ix1 : ∀ W, (Instr.index 99 (.agg #[.pointer (some ⟨g8, 0, none⟩), .pointer (some ⟨g8, 1, none⟩), .pointer (some ⟨g8, 2, none⟩)]) (.int .i64 1)).run Tryz.prog W = .ok (.pointer (some ⟨g8, 1, none⟩)) W := fun W => by simp [Instr.index, run_underlying Tryz.underlying99, asIntOf, go_sem]
  have ix2 : ∀ W, (Instr.index 99 (.agg #[.pointer (some ⟨g8, 0, none⟩), .pointer (some ⟨g8, 1, none⟩), .pointer (some ⟨g8, 2, none⟩)]) (.int .i64 2)).run Tryz.prog W = .ok (.pointer (some ⟨g8, 2, none⟩)) W := fun W => by simp [Instr.index, run_underlying Tryz.underlying99, asIntOf, go_sem]
  clear d0 d1 d2 d3 f0 f1 f2 f3 e0 e1 e2 e3 q0 q1 q2 q3 A1 A2 A3
  go_loopw [32] (fun v32 wr => ∃ (i : Nat) (x y z : Int), v32 = .int .i64 (i : Int) ∧ i ≤ 3 ∧ Aside0 (wr.heap[g8]? = some (.cells #[.int .i64 x, .int .i64 y, .int .i64 z, .string c2] 25 (0, 0))) ∧ Aside0 (wr.heap[g2]? = some (.cells #[.int .i64 0, .int .i64 0, .int .i64 0, .string (⟨#[]⟩ : ByteArray)] 25 (0, 0))) ∧ Aside0 (Kd.R Kd.string 9 wr w.heap.size (fun _ => True) (.slice Ao4 l.length co4) l) ∧ Aside0 (Below w.heap.size w wr) ∧ Aside0 (i = 0 ∧ impl_ParseVersion.n0 k a0 c2 (rdOf ByteArray.empty l 0) (rdOf ByteArray.empty l 1) (rdOf ByteArray.empty l 2) = some (r1, r2, r3, r4, r5) ∨ i = 1 ∧ impl_ParseVersion.n1 k a0 c2 (rdOf ByteArray.empty l 1) (rdOf ByteArray.empty l 2) x = some (r1, r2, r3, r4, r5) ∨ i = 2 ∧ impl_ParseVersion.n2 k a0 c2 (rdOf ByteArray.empty l 2) x y = some (r1, r2, r3, r4, r5) ∨ i = 3 ∧ impl_ParseVersion.n3 k a0 c2 x y z = some (r1, r2, r3, r4, r5)))
   (fun v32 _ => 3 - (intOf v32).toNat)
  case atStart => exact ⟨0, 0, 0, 0, rfl, zq, ⟨impl_ParseVersion.four BK8.out _ _ _ _⟩, ⟨impl_ParseVersion.fourF BK2.out NE28.out _ _ _ _⟩, ⟨impl_ParseVersion.fourO HO.out BK8.out _ _ _ _⟩, ⟨impl_ParseVersion.fourB HB.out GE8.out _ _ _ _⟩, ⟨.inl ⟨rfl, H.out⟩⟩⟩
  case round =>
  clear H BK2 BK8 HO HB
  obtain ⟨i, x, y, z, rfl, hi, BK8, BK2, HO, HB, HA⟩ := hrel
  rcases HA.out with ⟨rfl, h⟩ | ⟨rfl, h⟩ | ⟨rfl, h⟩ | ⟨rfl, h⟩
  ·obtain ⟨⟨n, OK⟩, A0, h2⟩ := Option.bind_eq_some_iff.mp h
   have AN := zi A0
   clear A0 HA h
   have p1 : (0 : Int) < (l.length : Int) := by omega
   obtain ⟨ad, e, hx⟩ := Kd.at_string (Kd.R_reads' HO.out).2.2 (0 : Int) z1g p1
   replace hx : wr.cell? ad = some (.string (rdOf ByteArray.empty l 0)) := hx
   cases e
   replace p1 := eq_true p1
   have hu27 := Tryz.underlying25
   cases OK with
   | true =>
    have HT := zi (show impl_ParseVersion.n1 k a0 c2 (rdOf ByteArray.empty l 1) (rdOf ByteArray.empty l 2) n = some (r1, r2, r3, r4, r5) from h2)
    clear h2
    go_wp2_with (first | ((with_reducible refine gate_callee (f := 77) rfl ?_); refine goesL_ (some 41) rfl rfl Tryz.func77 z1a rfl #[.string (rdOf ByteArray.empty l 0), .int .i64 7] rfl z2p ?_; (with_reducible refine (impl_numberOf.calls k (rdOf ByteArray.empty l 0) 7 n true _ AN.out).mono ?_); rintro e w5 ⟨rfl, hb⟩; refine ⟨_, rfl, ?_⟩; have n0_ := zi (below_step zt hb); have n1_ := zi (blk_below (g := g2) (o := .cells #[.int .i64 0, .int .i64 0, .int .i64 0, .string (⟨#[]⟩ : ByteArray)] 25 (0, 0)) z2r hb); have n2_ := zi (blk_below (g := g8) (o := .cells #[.int .i64 x, .int .i64 y, .int .i64 z, .string c2] 25 (0, 0)) z2s hb); have n3_ := zi (Kd.R_below z1t hb); clear HB BK2 BK8 HO hb; have HB := n0_; have BK2 := n1_; have BK8 := n2_; have HO := n3_; clear n0_ n1_ n2_ n3_; have e0 : w5.cell? ⟨g8, 0, none⟩ = some (.int .i64 x) := (blk_cell BK8.out 0).trans rfl; have e1 : w5.cell? ⟨g8, 1, none⟩ = some (.int .i64 y) := (blk_cell BK8.out 1).trans rfl; have e2 : w5.cell? ⟨g8, 2, none⟩ = some (.int .i64 z) := (blk_cell BK8.out 2).trans rfl; have e3 : w5.cell? ⟨g8, 3, none⟩ = some (.string c2) := (blk_cell BK8.out 3).trans rfl; have q0 := blk_frozen BK8.out 0; have q1 := blk_frozen BK8.out 1; have q2 := blk_frozen BK8.out 2; have q3 := blk_frozen BK8.out 3))
    exact ⟨⟨1, n, y, z, rfl, zq, ⟨blk_put BK8.out 0 _ rfl⟩, ⟨blk_far BK2.out NE28.out _⟩, ⟨Kd.R_set HO.out BK8.out z1g _ _⟩, ⟨below_set HB.out GE8.out⟩, ⟨.inr (.inl ⟨rfl, HT.out⟩)⟩⟩, z1g⟩
   | false =>
    have h3 : some (0, 0, 0, (⟨#[]⟩ : ByteArray), false) = some (r1, r2, r3, r4, r5) := h2
    simp only [Option.some.injEq, Prod.mk.injEq] at h3
    obtain ⟨rfl, rfl, rfl, rfl, rfl⟩ := h3
    clear h2
    go_wp2_with (first | ((with_reducible refine gate_callee (f := 77) rfl ?_); refine goesL_ (some 41) rfl rfl Tryz.func77 z1a rfl #[.string (rdOf ByteArray.empty l 0), .int .i64 7] rfl z2p ?_; (with_reducible refine (impl_numberOf.calls k (rdOf ByteArray.empty l 0) 7 n false _ AN.out).mono ?_); rintro e w5 ⟨rfl, hb⟩; refine ⟨_, rfl, ?_⟩; have n0_ := zi (below_step zt hb); have n1_ := zi (blk_below (g := g2) (o := .cells #[.int .i64 0, .int .i64 0, .int .i64 0, .string (⟨#[]⟩ : ByteArray)] 25 (0, 0)) z2r hb); have n2_ := zi (blk_below (g := g8) (o := .cells #[.int .i64 x, .int .i64 y, .int .i64 z, .string c2] 25 (0, 0)) z2s hb); have n3_ := zi (Kd.R_below z1t hb); clear HB BK2 BK8 HO hb; have HB := n0_; have BK2 := n1_; have BK8 := n2_; have HO := n3_; clear n0_ n1_ n2_ n3_; have d0 : w5.cell? ⟨g2, 0, none⟩ = some (.int .i64 0) := (blk_cell BK2.out 0).trans rfl; have d1 : w5.cell? ⟨g2, 1, none⟩ = some (.int .i64 0) := (blk_cell BK2.out 1).trans rfl; have d2 : w5.cell? ⟨g2, 2, none⟩ = some (.int .i64 0) := (blk_cell BK2.out 2).trans rfl; have d3 : w5.cell? ⟨g2, 3, none⟩ = some (.string (⟨#[]⟩ : ByteArray)) := (blk_cell BK2.out 3).trans rfl; have f0 := blk_frozen BK2.out 0; have f1 := blk_frozen BK2.out 1; have f2 := blk_frozen BK2.out 2; have f3 := blk_frozen BK2.out 3))
    refine bodyPost_ret (results_ct rfl _ _ g2 25 #[.int .i64 0, .int .i64 0, .int .i64 0, .string (⟨#[]⟩ : ByteArray)] (0, 0) _ rfl (impl_ParseVersion.four BK2.out _ _ _ _) hu27 rfl z1a) rfl ?_
    exact ⟨rfl, impl_ParseVersion.fourB zt GE2.out _ _ _ _⟩
  ·obtain ⟨⟨n, OK⟩, A0, h2⟩ := Option.bind_eq_some_iff.mp h
   have AN := zi A0
   clear A0 HA h
   have p1 : (1 : Int) < (l.length : Int) := by omega
   obtain ⟨ad, e, hx⟩ := Kd.at_string (Kd.R_reads' HO.out).2.2 (1 : Int) z1g p1
   replace hx : wr.cell? (⟨ad.block, ad.off + 1, none⟩ : Addr) = some (.string (rdOf ByteArray.empty l 1)) := hx
   cases e
   replace p1 := eq_true p1
   have hu27 := Tryz.underlying25
   cases OK with
   | true =>
    have HT := zi (show impl_ParseVersion.n2 k a0 c2 (rdOf ByteArray.empty l 2) x n = some (r1, r2, r3, r4, r5) from h2)
    clear h2
    go_wp2_with (first | ((with_reducible refine gate_callee (f := 77) rfl ?_); refine goesL_ (some 41) rfl rfl Tryz.func77 z1a rfl #[.string (rdOf ByteArray.empty l 1), .int .i64 7] rfl z2p ?_; (with_reducible refine (impl_numberOf.calls k (rdOf ByteArray.empty l 1) 7 n true _ AN.out).mono ?_); rintro e w5 ⟨rfl, hb⟩; refine ⟨_, rfl, ?_⟩; have n0_ := zi (below_step zt hb); have n1_ := zi (blk_below (g := g2) (o := .cells #[.int .i64 0, .int .i64 0, .int .i64 0, .string (⟨#[]⟩ : ByteArray)] 25 (0, 0)) z2r hb); have n2_ := zi (blk_below (g := g8) (o := .cells #[.int .i64 x, .int .i64 y, .int .i64 z, .string c2] 25 (0, 0)) z2s hb); have n3_ := zi (Kd.R_below z1t hb); clear HB BK2 BK8 HO hb; have HB := n0_; have BK2 := n1_; have BK8 := n2_; have HO := n3_; clear n0_ n1_ n2_ n3_; have e0 : w5.cell? ⟨g8, 0, none⟩ = some (.int .i64 x) := (blk_cell BK8.out 0).trans rfl; have e1 : w5.cell? ⟨g8, 1, none⟩ = some (.int .i64 y) := (blk_cell BK8.out 1).trans rfl; have e2 : w5.cell? ⟨g8, 2, none⟩ = some (.int .i64 z) := (blk_cell BK8.out 2).trans rfl; have e3 : w5.cell? ⟨g8, 3, none⟩ = some (.string c2) := (blk_cell BK8.out 3).trans rfl; have q0 := blk_frozen BK8.out 0; have q1 := blk_frozen BK8.out 1; have q2 := blk_frozen BK8.out 2; have q3 := blk_frozen BK8.out 3))
    exact ⟨⟨2, x, n, z, rfl, zq, ⟨blk_put BK8.out 1 _ rfl⟩, ⟨blk_far BK2.out NE28.out _⟩, ⟨Kd.R_set HO.out BK8.out z1g _ _⟩, ⟨below_set HB.out GE8.out⟩, ⟨.inr (.inr (.inl ⟨rfl, HT.out⟩))⟩⟩, z1g⟩
   | false =>
    have h3 : some (0, 0, 0, (⟨#[]⟩ : ByteArray), false) = some (r1, r2, r3, r4, r5) := h2
    simp only [Option.some.injEq, Prod.mk.injEq] at h3
    obtain ⟨rfl, rfl, rfl, rfl, rfl⟩ := h3
    clear h2
    go_wp2_with (first | ((with_reducible refine gate_callee (f := 77) rfl ?_); refine goesL_ (some 41) rfl rfl Tryz.func77 z1a rfl #[.string (rdOf ByteArray.empty l 1), .int .i64 7] rfl z2p ?_; (with_reducible refine (impl_numberOf.calls k (rdOf ByteArray.empty l 1) 7 n false _ AN.out).mono ?_); rintro e w5 ⟨rfl, hb⟩; refine ⟨_, rfl, ?_⟩; have n0_ := zi (below_step zt hb); have n1_ := zi (blk_below (g := g2) (o := .cells #[.int .i64 0, .int .i64 0, .int .i64 0, .string (⟨#[]⟩ : ByteArray)] 25 (0, 0)) z2r hb); have n2_ := zi (blk_below (g := g8) (o := .cells #[.int .i64 x, .int .i64 y, .int .i64 z, .string c2] 25 (0, 0)) z2s hb); have n3_ := zi (Kd.R_below z1t hb); clear HB BK2 BK8 HO hb; have HB := n0_; have BK2 := n1_; have BK8 := n2_; have HO := n3_; clear n0_ n1_ n2_ n3_; have d0 : w5.cell? ⟨g2, 0, none⟩ = some (.int .i64 0) := (blk_cell BK2.out 0).trans rfl; have d1 : w5.cell? ⟨g2, 1, none⟩ = some (.int .i64 0) := (blk_cell BK2.out 1).trans rfl; have d2 : w5.cell? ⟨g2, 2, none⟩ = some (.int .i64 0) := (blk_cell BK2.out 2).trans rfl; have d3 : w5.cell? ⟨g2, 3, none⟩ = some (.string (⟨#[]⟩ : ByteArray)) := (blk_cell BK2.out 3).trans rfl; have f0 := blk_frozen BK2.out 0; have f1 := blk_frozen BK2.out 1; have f2 := blk_frozen BK2.out 2; have f3 := blk_frozen BK2.out 3))
    refine bodyPost_ret (results_ct rfl _ _ g2 25 #[.int .i64 0, .int .i64 0, .int .i64 0, .string (⟨#[]⟩ : ByteArray)] (0, 0) _ rfl (impl_ParseVersion.four BK2.out _ _ _ _) hu27 rfl z1a) rfl ?_
    exact ⟨rfl, impl_ParseVersion.fourB zt GE2.out _ _ _ _⟩
  ·obtain ⟨⟨n, OK⟩, A0, h2⟩ := Option.bind_eq_some_iff.mp h
   have AN := zi A0
   clear A0 HA h
   have p1 : (2 : Int) < (l.length : Int) := by omega
   obtain ⟨ad, e, hx⟩ := Kd.at_string (Kd.R_reads' HO.out).2.2 (2 : Int) z1g p1
   replace hx : wr.cell? (⟨ad.block, ad.off + 2, none⟩ : Addr) = some (.string (rdOf ByteArray.empty l 2)) := hx
   cases e
   replace p1 := eq_true p1
   have hu27 := Tryz.underlying25
   cases OK with
   | true =>
    have HT := zi (show impl_ParseVersion.n3 k a0 c2 x y n = some (r1, r2, r3, r4, r5) from h2)
    clear h2
    go_wp2_with (first | ((with_reducible refine gate_callee (f := 77) rfl ?_); refine goesL_ (some 41) rfl rfl Tryz.func77 z1a rfl #[.string (rdOf ByteArray.empty l 2), .int .i64 7] rfl z2p ?_; (with_reducible refine (impl_numberOf.calls k (rdOf ByteArray.empty l 2) 7 n true _ AN.out).mono ?_); rintro e w5 ⟨rfl, hb⟩; refine ⟨_, rfl, ?_⟩; have n0_ := zi (below_step zt hb); have n1_ := zi (blk_below (g := g2) (o := .cells #[.int .i64 0, .int .i64 0, .int .i64 0, .string (⟨#[]⟩ : ByteArray)] 25 (0, 0)) z2r hb); have n2_ := zi (blk_below (g := g8) (o := .cells #[.int .i64 x, .int .i64 y, .int .i64 z, .string c2] 25 (0, 0)) z2s hb); have n3_ := zi (Kd.R_below z1t hb); clear HB BK2 BK8 HO hb; have HB := n0_; have BK2 := n1_; have BK8 := n2_; have HO := n3_; clear n0_ n1_ n2_ n3_; have e0 : w5.cell? ⟨g8, 0, none⟩ = some (.int .i64 x) := (blk_cell BK8.out 0).trans rfl; have e1 : w5.cell? ⟨g8, 1, none⟩ = some (.int .i64 y) := (blk_cell BK8.out 1).trans rfl; have e2 : w5.cell? ⟨g8, 2, none⟩ = some (.int .i64 z) := (blk_cell BK8.out 2).trans rfl; have e3 : w5.cell? ⟨g8, 3, none⟩ = some (.string c2) := (blk_cell BK8.out 3).trans rfl; have q0 := blk_frozen BK8.out 0; have q1 := blk_frozen BK8.out 1; have q2 := blk_frozen BK8.out 2; have q3 := blk_frozen BK8.out 3))
    exact ⟨⟨3, x, y, n, rfl, zq, ⟨blk_put BK8.out 2 _ rfl⟩, ⟨blk_far BK2.out NE28.out _⟩, ⟨Kd.R_set HO.out BK8.out z1g _ _⟩, ⟨below_set HB.out GE8.out⟩, ⟨.inr (.inr (.inr ⟨rfl, HT.out⟩))⟩⟩, z1g⟩
   | false =>
    have h3 : some (0, 0, 0, (⟨#[]⟩ : ByteArray), false) = some (r1, r2, r3, r4, r5) := h2
    simp only [Option.some.injEq, Prod.mk.injEq] at h3
    obtain ⟨rfl, rfl, rfl, rfl, rfl⟩ := h3
    clear h2
    go_wp2_with (first | ((with_reducible refine gate_callee (f := 77) rfl ?_); refine goesL_ (some 41) rfl rfl Tryz.func77 z1a rfl #[.string (rdOf ByteArray.empty l 2), .int .i64 7] rfl z2p ?_; (with_reducible refine (impl_numberOf.calls k (rdOf ByteArray.empty l 2) 7 n false _ AN.out).mono ?_); rintro e w5 ⟨rfl, hb⟩; refine ⟨_, rfl, ?_⟩; have n0_ := zi (below_step zt hb); have n1_ := zi (blk_below (g := g2) (o := .cells #[.int .i64 0, .int .i64 0, .int .i64 0, .string (⟨#[]⟩ : ByteArray)] 25 (0, 0)) z2r hb); have n2_ := zi (blk_below (g := g8) (o := .cells #[.int .i64 x, .int .i64 y, .int .i64 z, .string c2] 25 (0, 0)) z2s hb); have n3_ := zi (Kd.R_below z1t hb); clear HB BK2 BK8 HO hb; have HB := n0_; have BK2 := n1_; have BK8 := n2_; have HO := n3_; clear n0_ n1_ n2_ n3_; have d0 : w5.cell? ⟨g2, 0, none⟩ = some (.int .i64 0) := (blk_cell BK2.out 0).trans rfl; have d1 : w5.cell? ⟨g2, 1, none⟩ = some (.int .i64 0) := (blk_cell BK2.out 1).trans rfl; have d2 : w5.cell? ⟨g2, 2, none⟩ = some (.int .i64 0) := (blk_cell BK2.out 2).trans rfl; have d3 : w5.cell? ⟨g2, 3, none⟩ = some (.string (⟨#[]⟩ : ByteArray)) := (blk_cell BK2.out 3).trans rfl; have f0 := blk_frozen BK2.out 0; have f1 := blk_frozen BK2.out 1; have f2 := blk_frozen BK2.out 2; have f3 := blk_frozen BK2.out 3))
    refine bodyPost_ret (results_ct rfl _ _ g2 25 #[.int .i64 0, .int .i64 0, .int .i64 0, .string (⟨#[]⟩ : ByteArray)] (0, 0) _ rfl (impl_ParseVersion.four BK2.out _ _ _ _) hu27 rfl z1a) rfl ?_
    exact ⟨rfl, impl_ParseVersion.fourB zt GE2.out _ _ _ _⟩
  ·obtain ⟨tx, A0, h2⟩ := Option.bind_eq_some_iff.mp h
   have AT := zi A0
   clear A0 HA h ix0 ix1 ix2
   have hu27 := Tryz.underlying25
   have e0 : wr.cell? ⟨g8, 0, none⟩ = some (.int .i64 x) := (blk_cell BK8.out 0).trans rfl; have e1 : wr.cell? ⟨g8, 1, none⟩ = some (.int .i64 y) := (blk_cell BK8.out 1).trans rfl; have e2 : wr.cell? ⟨g8, 2, none⟩ = some (.int .i64 z) := (blk_cell BK8.out 2).trans rfl; have e3 : wr.cell? ⟨g8, 3, none⟩ = some (.string c2) := (blk_cell BK8.out 3).trans rfl; have q0 := blk_frozen BK8.out 0; have q1 := blk_frozen BK8.out 1; have q2 := blk_frozen BK8.out 2; have q3 := blk_frozen BK8.out 3
   by_cases c9 : tx.toList = a0.toList
   ·have c9b0 : (tx.toList == a0.toList) = true := beq_iff_eq.mpr c9
    have c9b1 : (tx.toList != a0.toList) = false := bne_eq_false_iff_eq.mpr c9
    have h3 : some (x, y, z, c2, true) = some (r1, r2, r3, r4, r5) := by have h4 : (if tx.toList = a0.toList then (some (x, y, z, c2, true)) else (some (0, 0, 0, (⟨#[]⟩ : ByteArray), false))) = some (r1, r2, r3, r4, r5) := h2; rw [if_pos c9] at h4; exact h4
    simp only [Option.some.injEq, Prod.mk.injEq] at h3
    obtain ⟨rfl, rfl, rfl, rfl, rfl⟩ := h3
    clear h2 c9
    go_wp2_with (first | ((with_reducible refine gate_callee (f := 41) rfl ?_); refine goesL_ (some 52) rfl rfl Tryz.func41 z1a rfl #[.agg #[.int .i64 x, .int .i64 y, .int .i64 z, .string c2]] rfl z2p ?_; (with_reducible refine (impl_VersionText.calls k x y z c2 tx _ (globI_on HG_.out zt) AT.out).mono ?_); rintro e w5 ⟨rfl, hb⟩; refine ⟨_, rfl, ?_⟩; have n0_ := zi (below_step zt hb); have n1_ := zi (blk_below (g := g2) (o := .cells #[.int .i64 0, .int .i64 0, .int .i64 0, .string (⟨#[]⟩ : ByteArray)] 25 (0, 0)) z2r hb); have n2_ := zi (blk_below (g := g8) (o := .cells #[.int .i64 x, .int .i64 y, .int .i64 z, .string c2] 25 (0, 0)) z2s hb); clear HB BK2 BK8 hb e0 e1 e2 e3 q0 q1 q2 q3; have HB := n0_; have BK2 := n1_; have BK8 := n2_; clear n0_ n1_ n2_; have d0 : w5.cell? ⟨g2, 0, none⟩ = some (.int .i64 0) := (blk_cell BK2.out 0).trans rfl; have d1 : w5.cell? ⟨g2, 1, none⟩ = some (.int .i64 0) := (blk_cell BK2.out 1).trans rfl; have d2 : w5.cell? ⟨g2, 2, none⟩ = some (.int .i64 0) := (blk_cell BK2.out 2).trans rfl; have d3 : w5.cell? ⟨g2, 3, none⟩ = some (.string (⟨#[]⟩ : ByteArray)) := (blk_cell BK2.out 3).trans rfl; have f0 := blk_frozen BK2.out 0; have f1 := blk_frozen BK2.out 1; have f2 := blk_frozen BK2.out 2; have f3 := blk_frozen BK2.out 3; have e0 : w5.cell? ⟨g8, 0, none⟩ = some (.int .i64 x) := (blk_cell BK8.out 0).trans rfl; have e1 : w5.cell? ⟨g8, 1, none⟩ = some (.int .i64 y) := (blk_cell BK8.out 1).trans rfl; have e2 : w5.cell? ⟨g8, 2, none⟩ = some (.int .i64 z) := (blk_cell BK8.out 2).trans rfl; have e3 : w5.cell? ⟨g8, 3, none⟩ = some (.string c2) := (blk_cell BK8.out 3).trans rfl; have q0 := blk_frozen BK8.out 0; have q1 := blk_frozen BK8.out 1; have q2 := blk_frozen BK8.out 2; have q3 := blk_frozen BK8.out 3))
    refine bodyPost_ret (results_ct rfl _ _ g2 25 #[.int .i64 x, .int .i64 y, .int .i64 z, .string c2] (0, 0) _ rfl (impl_ParseVersion.four BK2.out _ _ _ _) hu27 rfl z1a) rfl ?_
    exact ⟨rfl, impl_ParseVersion.fourB zt GE2.out _ _ _ _⟩
   ·have c9b0 : (tx.toList == a0.toList) = false := beq_eq_false_iff_ne.mpr c9
    have c9b1 : (tx.toList != a0.toList) = true := bne_iff_ne.mpr c9
    have h3 : some (0, 0, 0, (⟨#[]⟩ : ByteArray), false) = some (r1, r2, r3, r4, r5) := by have h4 : (if tx.toList = a0.toList then (some (x, y, z, c2, true)) else (some (0, 0, 0, (⟨#[]⟩ : ByteArray), false))) = some (r1, r2, r3, r4, r5) := h2; rw [if_neg c9] at h4; exact h4
    simp only [Option.some.injEq, Prod.mk.injEq] at h3
    obtain ⟨rfl, rfl, rfl, rfl, rfl⟩ := h3
    clear h2 c9
    go_wp2_with (first | ((with_reducible refine gate_callee (f := 41) rfl ?_); refine goesL_ (some 52) rfl rfl Tryz.func41 z1a rfl #[.agg #[.int .i64 x, .int .i64 y, .int .i64 z, .string c2]] rfl z2p ?_; (with_reducible refine (impl_VersionText.calls k x y z c2 tx _ (globI_on HG_.out zt) AT.out).mono ?_); rintro e w5 ⟨rfl, hb⟩; refine ⟨_, rfl, ?_⟩; have n0_ := zi (below_step zt hb); have n1_ := zi (blk_below (g := g2) (o := .cells #[.int .i64 0, .int .i64 0, .int .i64 0, .string (⟨#[]⟩ : ByteArray)] 25 (0, 0)) z2r hb); have n2_ := zi (blk_below (g := g8) (o := .cells #[.int .i64 x, .int .i64 y, .int .i64 z, .string c2] 25 (0, 0)) z2s hb); clear HB BK2 BK8 hb e0 e1 e2 e3 q0 q1 q2 q3; have HB := n0_; have BK2 := n1_; have BK8 := n2_; clear n0_ n1_ n2_; have d0 : w5.cell? ⟨g2, 0, none⟩ = some (.int .i64 0) := (blk_cell BK2.out 0).trans rfl; have d1 : w5.cell? ⟨g2, 1, none⟩ = some (.int .i64 0) := (blk_cell BK2.out 1).trans rfl; have d2 : w5.cell? ⟨g2, 2, none⟩ = some (.int .i64 0) := (blk_cell BK2.out 2).trans rfl; have d3 : w5.cell? ⟨g2, 3, none⟩ = some (.string (⟨#[]⟩ : ByteArray)) := (blk_cell BK2.out 3).trans rfl; have f0 := blk_frozen BK2.out 0; have f1 := blk_frozen BK2.out 1; have f2 := blk_frozen BK2.out 2; have f3 := blk_frozen BK2.out 3; have e0 : w5.cell? ⟨g8, 0, none⟩ = some (.int .i64 x) := (blk_cell BK8.out 0).trans rfl; have e1 : w5.cell? ⟨g8, 1, none⟩ = some (.int .i64 y) := (blk_cell BK8.out 1).trans rfl; have e2 : w5.cell? ⟨g8, 2, none⟩ = some (.int .i64 z) := (blk_cell BK8.out 2).trans rfl; have e3 : w5.cell? ⟨g8, 3, none⟩ = some (.string c2) := (blk_cell BK8.out 3).trans rfl; have q0 := blk_frozen BK8.out 0; have q1 := blk_frozen BK8.out 1; have q2 := blk_frozen BK8.out 2; have q3 := blk_frozen BK8.out 3))
    refine bodyPost_ret (results_ct rfl _ _ g2 25 #[.int .i64 0, .int .i64 0, .int .i64 0, .string (⟨#[]⟩ : ByteArray)] (0, 0) _ rfl (impl_ParseVersion.four BK2.out _ _ _ _) hu27 rfl z1a) rfl ?_
    exact ⟨rfl, impl_ParseVersion.fourB zt GE2.out _ _ _ _⟩
 ·rw [if_neg c5] at H0
  simp only [Option.some.injEq, Prod.mk.injEq] at H0
  obtain ⟨rfl, rfl, rfl, rfl, rfl⟩ := H0
  have c5b : ((l.length : Int) != 3) = true := bne_iff_ne.mpr zq
  clear c5
  go_enter Tryz.func40, Tryz.ntmps40
  go_wp2_with (first | ((with_reducible refine gate_dst (N := 2) rfl ?_); refine box_event zr (N := 2) zr (cs := #[.int .i64 0, .int .i64 0, .int .i64 0, .string (⟨#[]⟩ : ByteArray)]) (t := 25) zs ?_; intro g2 hg w4 hbox hb; have n0_ := zi (below_step zt hb); have n1_ := zi hbox; have n2_ := zi (z5s : w.heap.size ≤ g2); clear HB; have HB := n0_; have BK2 := n1_; have GE2 := n2_; clear n0_ n1_ n2_; clear hb hbox hg) | ((with_reducible refine gate_callee (f := 75) rfl ?_); refine goesL_ (some 15) rfl rfl Tryz.func75 z1a rfl #[.string a0, .string (⟨#[118]⟩ : ByteArray)] rfl z2p ?_; (with_reducible refine (strings_TrimPrefix.calls a0 (⟨#[118]⟩ : ByteArray) t _ A1.out).mono ?_); rintro e w' ⟨rfl, ⟨nd, rfl⟩⟩; refine ⟨_, rfl, ?_⟩) | ((with_reducible refine gate_callee (f := 39) rfl ?_); refine goesL_ (some 16) rfl rfl Tryz.func39 z1a rfl #[.string t, .string (⟨#[45]⟩ : ByteArray)] rfl z2p ?_; (with_reducible refine (strings_Cut.calls t (⟨#[45]⟩ : ByteArray) c1 c2 c3 _ A2.out).mono ?_); rintro e w' ⟨rfl, ⟨nd, rfl⟩⟩; refine ⟨_, rfl, ?_⟩) | ((with_reducible refine gate_callee (f := 76) rfl ?_); refine goesL_ (some 21) rfl rfl Tryz.func76 z1a rfl #[.string c1, .string (⟨#[46]⟩ : ByteArray)] rfl z2p ?_; (with_reducible refine (strings_Split.calls c1 (⟨#[46]⟩ : ByteArray) l _ A3.out).mono ?_); rintro e w3 ⟨v122, rfl, ho0, hb⟩; refine ⟨_, rfl, ?_⟩; have n0_ := zi (Kd.R_lower ho0 (below_size z2q)); have n2_ := zi (blk_below (g := g2) (o := .cells #[.int .i64 0, .int .i64 0, .int .i64 0, .string (⟨#[]⟩ : ByteArray)] 25 (0, 0)) z2r hb); have n1_ := zi (below_step z2q hb); clear HB BK2; have HO := n0_; have HB := n1_; have BK2 := n2_; clear n0_ n1_ n2_; (try clear hb); (try clear ho0); obtain ⟨Ao4, co4, eo4⟩ := Kd.R_slice HO.out; subst eo4; have d0 : w3.cell? ⟨g2, 0, none⟩ = some (.int .i64 0) := (blk_cell BK2.out 0).trans rfl; have d1 : w3.cell? ⟨g2, 1, none⟩ = some (.int .i64 0) := (blk_cell BK2.out 1).trans rfl; have d2 : w3.cell? ⟨g2, 2, none⟩ = some (.int .i64 0) := (blk_cell BK2.out 2).trans rfl; have d3 : w3.cell? ⟨g2, 3, none⟩ = some (.string (⟨#[]⟩ : ByteArray)) := (blk_cell BK2.out 3).trans rfl; have f0 := blk_frozen BK2.out 0; have f1 := blk_frozen BK2.out 1; have f2 := blk_frozen BK2.out 2; have f3 := blk_frozen BK2.out 3))
  refine bodyPost_ret (results_ct rfl _ _ g2 25 #[.int .i64 0, .int .i64 0, .int .i64 0, .string (⟨#[]⟩ : ByteArray)] (0, 0) _ rfl (impl_ParseVersion.four BK2.out _ _ _ _) hu27 rfl z1a) rfl ?_
  exact ⟨rfl, impl_ParseVersion.fourB z2q GE2.out _ _ _ _⟩
end Go.Proofs.YtgdknepphkhnlaaGreatDoor.X
