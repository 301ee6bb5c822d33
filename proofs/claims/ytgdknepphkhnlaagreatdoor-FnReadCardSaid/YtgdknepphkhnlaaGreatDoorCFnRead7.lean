/- The law FnRead, as a plain statement: what is read of a drawn text as an entry is right, and has that text; what is read as a name has that name. Conditions: those of the row's reading alone. -/
/- Part 8 of 13 of this claim's texts. -/
import Derived.Test.YtgdknepphkhnlaaGreatDoorCFnRead1
import Derived.Test.YtgdknepphkhnlaaGreatDoorCFnRead4
import Derived.Test.YtgdknepphkhnlaaGreatDoorCFnRead5
import Derived.Test.YtgdknepphkhnlaaGreatDoorCFnRead6
namespace Go.Proofs.YtgdknepphkhnlaaGreatDoor.X
open Go.RowKit Go.Proofs.YtgdknepphkhnlaaGreatDoorW.PrintWords Go.Proofs.YtgdknepphkhnlaaGreatDoorW.PrintLast Go.Proofs.YtgdknepphkhnlaaGreatDoorW.PrintMore
attribute [local go_sem] max2_int min2_int max_two min_two max_three min_three max_four min_four
set_option linter.unusedVariables false
set_option linter.unusedSimpArgs false
def laws_big.f (l0 : List Int) : Option (Bool) := some (decide ((l0.length : Int) > 1048576))
set_option maxHeartbeats 8000000 in
set_option maxRecDepth 100000 in
theorem laws_big.calls (A0 : Option Addr) (c0 : Nat) (l0 : List Int) (r : Bool) (w : World) (hr0 : Kd.C (Kd.int .u8) w A0 l0.length l0) (hc0 : l0.length ≤ c0) (h : laws_big.f l0 = some r) :
  Calls Tryz.prog 7 #[.slice A0 l0.length c0] w fun e w' => e = .returned (.bool r) ∧ Drawn0 w w' := by
 have HR0 := zn hr0
 have HC0 := zn hc0
 clear hr0 hc0
 have H := h
 unfold laws_big.f at H
 clear h
 obtain rfl := Option.some.inj H
 go_enter Tryz.func7, Tryz.ntmps7
 go_wp2
 go_ret
 exact ⟨z1n, z1o⟩
def spec_EntryName.f (k : Nat) (a0 : ByteArray) (a1_0 : Int) (a1_1 : Int) (a1_2 : Int) (a1_3 : ByteArray) : Option (ByteArray) := (spec_Fits.f k a0 a1_0 a1_1 a1_2 a1_3).bind fun t303 => (if t303 = true then (if a0.size + 1 ≤ 9223372036854775807 then ((spec_VersionText.f k a1_0 a1_1 a1_2 a1_3).bind fun t304 => (if (a0 ++ (⟨#[64]⟩ : ByteArray)).size + t304.size ≤ 9223372036854775807 then (some ((a0 ++ (⟨#[64]⟩ : ByteArray)) ++ t304)) else (none))) else (none)) else (some (⟨#[]⟩ : ByteArray)))
set_option maxHeartbeats 8000000 in
set_option maxRecDepth 100000 in
theorem spec_EntryName.calls (k : Nat) (a0 : ByteArray) (a1_0 : Int) (a1_1 : Int) (a1_2 : Int) (a1_3 : ByteArray) (r : ByteArray) (w : World) (h : spec_EntryName.f k a0 a1_0 a1_1 a1_2 a1_3 = some r) :
  Calls Tryz.prog 55 #[.string a0, .agg #[.int .i64 a1_0, .int .i64 a1_1, .int .i64 a1_2, .string a1_3]] w fun e w' => e = .returned (.string r) ∧ Below w.heap.size w w' := by
 have hu25 := Tryz.underlying25
 have HB := zn (Below.refl w.heap.size w)
 have H := h
 unfold spec_EntryName.f at H
 clear h
 obtain ⟨t303, A3, H⟩ := zm H
 try dsimp only at H
 by_cases c4 : t303 = true
 ·subst c4
  rw [if_pos rfl] at H
  by_cases c5 : a0.size + 1 ≤ 9223372036854775807
  ·rw [if_pos c5] at H
   have c5b0 := eq_true c5
   have c5b1 := decide_eq_true c5
   try have c5b2 : (9223372036854775807 < a0.size + 1) = False := eq_false (Nat.not_lt.2 c5)
   obtain ⟨t304, A6, H⟩ := zm H
   try dsimp only at H
   by_cases c7 : (a0 ++ (⟨#[64]⟩ : ByteArray)).size + t304.size ≤ 9223372036854775807
   ·rw [if_pos c7] at H
    have c7s0 : (9223372036854775807 < a0.size + 1 + t304.size) = False := eq_false (Nat.not_lt.2 (by have h_ := c7; simp only [ByteArray.size_append] at h_; exact h_))
    have c7b0 := eq_true c7
    have c7b1 := decide_eq_true c7
    try have c7b2 : (9223372036854775807 < (a0 ++ (⟨#[64]⟩ : ByteArray)).size + t304.size) = False := eq_false (Nat.not_lt.2 c7)
    obtain rfl := Option.some.inj H
    go_enter Tryz.func55, Tryz.ntmps55
    go_wp2_with (first | ((with_reducible refine zr 3 rfl ?_); refine zt 25 #[.int .i64 a1_0, .int .i64 a1_1, .int .i64 a1_2, .string a1_3] ?_; intro gb302 hg w8 hbox hb; have n_ := zv (below_step z1r hb) hbox (z8j : w.heap.size ≤ gb302) (z8j : w.heap.size ≤ gb302); clear HB; obtain ⟨HB, BK302, GW302, GE302⟩ := n_; clear hb hbox hg; obtain ⟨hcz9_0, hcz9_1, hcz9_2, hcz9_3, hfz9_0, hfz9_1, hfz9_2, hfz9_3⟩ := zf BK302.out) | ((with_reducible refine zi 33 rfl ?_); refine zj (some 7) Tryz.func33 #[.string a0, .agg #[.int .i64 a1_0, .int .i64 a1_1, .int .i64 a1_2, .string a1_3]] rfl ?_; (with_reducible refine (spec_Fits.calls k a0 a1_0 a1_1 a1_2 a1_3 true _ A3.out).mono ?_); rintro e w10 ⟨rfl, hb⟩; refine ⟨_, rfl, ?_⟩; have n_ := zo (blk_below (zu BK302.out) hb) (below_step z5g hb); clear BK302 HB; obtain ⟨BK302, HB⟩ := n_; (try clear hb); obtain ⟨hcz11_0, hcz11_1, hcz11_2, hcz11_3, hfz11_0, hfz11_1, hfz11_2, hfz11_3⟩ := zf BK302.out) | ((with_reducible refine zi 86 rfl ?_); refine zj (some 12) Tryz.func86 #[.agg #[.int .i64 a1_0, .int .i64 a1_1, .int .i64 a1_2, .string a1_3]] rfl ?_; (with_reducible refine (spec_VersionText.calls k a1_0 a1_1 a1_2 a1_3 t304 _ A6.out).mono ?_); rintro e w12 ⟨rfl, hb⟩; refine ⟨_, rfl, ?_⟩; have n_ := zo (blk_below (zu BK302.out) hb) (below_step z5g hb); clear BK302 HB; obtain ⟨BK302, HB⟩ := n_; (try clear hb)))
    go_ret
    exact ⟨z1t, z5g⟩
   ·rw [if_neg c7] at H
    exact absurd H (by simp)
  ·rw [if_neg c5] at H
   exact absurd H (by simp)
 ·replace c4 := Bool.eq_false_iff.mpr c4
  subst c4
  rw [if_neg zk] at H
  obtain rfl := Option.some.inj H
  go_enter Tryz.func55, Tryz.ntmps55
  go_wp2_with (first | ((with_reducible refine zr 3 rfl ?_); refine zt 25 #[.int .i64 a1_0, .int .i64 a1_1, .int .i64 a1_2, .string a1_3] ?_; intro gb302 hg w13 hbox hb; have n_ := zv (below_step z1r hb) hbox (z8j : w.heap.size ≤ gb302) (z8j : w.heap.size ≤ gb302); clear HB; obtain ⟨HB, BK302, GW302, GE302⟩ := n_; clear hb hbox hg; obtain ⟨hcz14_0, hcz14_1, hcz14_2, hcz14_3, hfz14_0, hfz14_1, hfz14_2, hfz14_3⟩ := zf BK302.out) | ((with_reducible refine zi 33 rfl ?_); refine zj (some 7) Tryz.func33 #[.string a0, .agg #[.int .i64 a1_0, .int .i64 a1_1, .int .i64 a1_2, .string a1_3]] rfl ?_; (with_reducible refine (spec_Fits.calls k a0 a1_0 a1_1 a1_2 a1_3 false _ A3.out).mono ?_); rintro e w15 ⟨rfl, hb⟩; refine ⟨_, rfl, ?_⟩; have n_ := zo (blk_below (zu BK302.out) hb) (below_step z5g hb); clear BK302 HB; obtain ⟨BK302, HB⟩ := n_; (try clear hb)))
  go_ret
  exact ⟨z1t, z5g⟩
mutual
def spec_PutNum.j0 : Nat → Int → List Int → Option (List Int)
 | 0, _, _ => none
 | k + 1, x1, x5 => if x1 < 0 then (spec_PutNum.j1 k 0 x5) else (spec_PutNum.j1 k x1 x5)
def spec_PutNum.j1 : Nat → Int → List Int → Option (List Int)
 | 0, _, _ => none
 | k + 1, x1, x5 => spec_PutNum.l0 k x1 x5
def spec_PutNum.l0 : Nat → Int → List Int → Option (List Int)
 | 0, _, _ => none
 | k + 1, x1, x5 => if x1 > 127 then (if x5.length < 140737488355328 then (spec_PutNum.l0 k (x1 / 128) (x5 ++ [(Go.bits .or .i64 (Go.bits .and .i64 x1 127) 128) % 256])) else (none)) else (if x5.length < 140737488355328 then (some (x5 ++ [(x1) % 256])) else (none))
end
def spec_PutNum.f (k : Nat) (l0 : List Int) (a1 : Int) : Option (List Int) := (some (([] : List Int) : List Int)).bind fun y305 => (if y305.length + l0.length < 140737488355328 then ((some (y305 ++ l0 : List Int)).bind fun y308 => (if a1 > 1000000000 then (spec_PutNum.j0 k 1000000000 y308) else (spec_PutNum.j0 k a1 y308))) else (none))
set_option maxHeartbeats 8000000 in
set_option maxRecDepth 100000 in
theorem spec_PutNum.calls (k : Nat) (A0 : Option Addr) (c0 : Nat) (l0 : List Int) (a1 : Int) (r : List Int) (w : World) (hr0 : Kd.C (Kd.int .u8) w A0 l0.length l0) (hc0 : l0.length ≤ c0) (h : spec_PutNum.f k l0 a1 = some r) :
  Calls Tryz.prog 89 #[.slice A0 l0.length c0, .int .i64 a1] w fun e w' => ∃ v0_ : Value, e = .returned (v0_) ∧ Kd.R (Kd.int .u8) 5 w' w.heap.size (fun _ => True) v0_ r ∧ Below w.heap.size w w' := by
 have HR0 := zn hr0
 have HC0 := zn hc0
 clear hr0 hc0
 have HB := zn (Below.refl w.heap.size w)
 have H := h
 unfold spec_PutNum.f at H
 clear h
 obtain ⟨y305, hy305⟩ : ∃ y_ : List Int, y_ = (([] : List Int)) := ⟨_, rfl⟩
 replace H : (if y305.length + l0.length < 140737488355328 then ((some (y305 ++ l0 : List Int)).bind fun y308 => (if a1 > 1000000000 then (spec_PutNum.j0 k 1000000000 y308) else (spec_PutNum.j0 k a1 y308))) else (none)) = some r := by first | (rw [hy305]; with_reducible exact H) | (have H2_ := (Option.bind_some _ _).symm.trans H; rw [hy305]; with_reducible exact H2_) | (have H2_ := (Option.bind_some _ _).symm.trans H; with_reducible exact H2_) | with_reducible exact H | (rw [hy305]; exact H) | exact H
 have Ny305 := zn hy305
 clear hy305
 by_cases c3 : y305.length + l0.length < 140737488355328
 ·rw [if_pos c3] at H
  have LMc3 := zn c3
  clear c3
  obtain ⟨y308, hy308⟩ : ∃ y_ : List Int, y_ = (y305 ++ l0) := ⟨_, rfl⟩
  replace H : (if a1 > 1000000000 then (spec_PutNum.j0 k 1000000000 y308) else (spec_PutNum.j0 k a1 y308)) = some r := by first | (rw [hy308]; with_reducible exact H) | (have H2_ := (Option.bind_some _ _).symm.trans H; rw [hy308]; with_reducible exact H2_) | (have H2_ := (Option.bind_some _ _).symm.trans H; with_reducible exact H2_) | with_reducible exact H | (rw [hy308]; exact H) | exact H
  have Ny308 := zn hy308
  clear hy308
  have HC4 := zn H
  clear H
  go_enter Tryz.func89, Tryz.ntmps89
  go_upto_if 10 with (first | ((with_reducible refine zr 6 rfl ?_); refine Kd.R_lit (Kd.int .u8) _ 5 ?hg (N := 6) ?hd (xs := ([] : List Int)) (inner := []) (ok := fun _ => True) (okp := fun _ => True) ?hr ?hp (fun _ hk => hk) trivial (Below.refl _ _) (Nat.le_refl _) (by simp) ?_; (case hd => exact z2b); (case hg => exact z2b); (case hr => exact z3t); (case hp => exact (Reps.none _ _)); intro v306 w5 ho6 hb hg_ hnew_; clear hg_ hnew_; (first | rw [← Ny305.out] at ho6 | (simp only [Int.reduceToNat] at ho6; rw [← Ny305.out] at ho6)); have n_ := zo (Kd.R_lower ho6 (below_size z1r)) (below_step z1r hb); clear HB; obtain ⟨HO307, HB⟩ := n_; clear hb ho6) | ((with_reducible refine gate_builtin (b := .append) (xs := #[.tmp 6, .tmp 7]) rfl ?_); at_builtin; refine Kd.R_append_rows (Kd.int .u8) (w0 := w) w.heap.size rfl (.tmp 6) (.tmp 7) 22 5 (.int .u8 0) 1 rfl Tryz.underlying22 info5 rfl z1l z1k v306 y305 l0 _ _ _ (fun _ => True) (fun _ => False) rfl rfl ?aO ?aR (fun _ _ h => h) (fun _ h => h.elim) ?aF ?aB ?aS ?aL ?_; (case aR => exact z3g); (case aB => exact z1r); (case aF => exact (fun _ _ => trivial)); (case aO => exact (by (with_reducible repeat (first | apply Kd.R_alloc | apply Kd.R_drewN | apply Kd.R_drew)); exact HO307.out)); (case aS => exact (below_size z1r)); (case aL => have := LMc3.out; omega); intro v309 w7 ho hb hg hat; rw [← Ny308.out] at ho; have n_ := zo hb ho; clear HB HO307; obtain ⟨HB, HO310⟩ := n_; clear ho hb hg hat))
  (try simp only [Act.put, z9e, z9f, z9g])
  go_cut [1] (fun v1 wc => ∃ (kq : Nat) (x1_3 : Int), v1 = .int .i64 x1_3 ∧ Aside0 (spec_PutNum.j0 kq x1_3 y308 = some r) ∧ Aside0 (kq ≤ k) ∧ Aside0 (Kd.R (Kd.int .u8) 5 wc w.heap.size (fun _ => True) v309 y308) ∧ Aside0 (Below w.heap.size w wc))
  case first =>
   have H := HC4.out
   clear HC4
   by_cases c8 : a1 > 1000000000
   ·rw [if_pos c8] at H
    have c8b0 := decide_eq_true c8
    clear c8
    (first | rw [c8b0] | (simp only [i64_w, i32_w]; rw [c8b0]) | skip)
    have H' := zn H
    clear H
    go_wp2
    go_meet
    case rel => exact ⟨_, (1000000000), z1n, H', ⟨z1v⟩, ⟨by (with_reducible repeat (first | apply Kd.R_alloc | apply Kd.R_drewN | apply Kd.R_drew)); exact HO310.out⟩, ⟨z1r⟩⟩
   ·rw [if_neg c8] at H
    have c8b0 := decide_eq_false c8
    clear c8
    (first | rw [c8b0] | (simp only [i64_w, i32_w]; rw [c8b0]) | skip)
    have H' := zn H
    clear H
    go_wp2
    go_meet
    case rel => exact ⟨_, (a1), z1n, H', ⟨z1v⟩, ⟨by (with_reducible repeat (first | apply Kd.R_alloc | apply Kd.R_drewN | apply Kd.R_drew)); exact HO310.out⟩, ⟨z1r⟩⟩
  case rest =>
   clear HC4
   try clear p2
   try clear c3
   try clear c8
   try clear c8b0
   obtain ⟨kq, x1_3, rfl, HA, HJ3, HO_5, HB⟩ := hcut
   cases kq with
   | zero => exact absurd HA.out (by simp [spec_PutNum.j0])
   | succ kj3 =>
    have H := HA.out
    clear HA
    simp only [spec_PutNum.j0] at H
    have HC9 := zn H
    clear H
    go_upto_if 12 with (fail)
    go_cut [1] (fun v1 wc => ∃ (kq : Nat) (x1_8 : Int), v1 = .int .i64 x1_8 ∧ Aside0 (spec_PutNum.j1 kq x1_8 y308 = some r) ∧ Aside0 (kq ≤ kj3) ∧ Aside0 (Kd.R (Kd.int .u8) 5 wc w.heap.size (fun _ => True) v309 y308) ∧ Aside0 (Below w.heap.size w wc))
    case first =>
     have H := HC9.out
     clear HC9
     by_cases c10 : x1_3 < 0
     ·rw [if_pos c10] at H
      have c10b0 := decide_eq_true c10
      clear c10
      (first | rw [c10b0] | (simp only [i64_w, i32_w]; rw [c10b0]) | skip)
      have H' := zn H
      clear H
      go_wp2
      go_meet
      case rel => exact ⟨_, (0), z1n, H', ⟨by have := HJ3.out; first | omega | exact Nat.le_refl _⟩, ⟨z3v⟩, ⟨z1r⟩⟩
     ·rw [if_neg c10] at H
      have c10b0 := decide_eq_false c10
      clear c10
      (first | rw [c10b0] | (simp only [i64_w, i32_w]; rw [c10b0]) | skip)
      have H' := zn H
      clear H
      go_wp2
      go_meet
      case rel => exact ⟨_, (x1_3), z1n, H', ⟨by have := HJ3.out; first | omega | exact Nat.le_refl _⟩, ⟨z3v⟩, ⟨z1r⟩⟩
    case rest =>
     clear HC9
     try clear c1
     try clear p2
     try clear c3
     try clear c8
     try clear c8b0
     try clear c10
     try clear c10b0
     try clear p2
     obtain ⟨kq, x1_8, rfl, HA, HJ8, HO_5, HB⟩ := hcut
     cases kq with
     | zero => exact absurd HA.out (by simp [spec_PutNum.j1])
     | succ kj8 =>
      have H := HA.out
      clear HA
      simp only [spec_PutNum.j1] at H
      have H' := zn H
      clear H
      go_wp2
      go_loopg [1, 5] kj8 (fun kq v1 v5 w' => ∃ (x1_3 : Int) (x5_3 : List Int), v1 = .int .i64 x1_3 ∧ Aside0 (spec_PutNum.l0 kq x1_3 x5_3 = some r) ∧ Aside0 (kq ≤ kj8) ∧ Aside0 (Kd.R (Kd.int .u8) 5 w' w.heap.size (fun _ => True) v5 x5_3) ∧ Aside0 (Below w.heap.size w w'))
      case atStart => exact ⟨(x1_8), (y308), z1n, H', ⟨Nat.le_refl _⟩, ⟨z3v⟩, ⟨z1r⟩⟩
      case round =>
       clear H'
       try clear c1
       try clear p2
       try clear c3
       try clear c8
       try clear c8b0
       try clear c10
       try clear c10b0
       try clear p2
       obtain ⟨x1_3, x5_3, rfl, HA, HK3, HO_5, HB⟩ := hrel
       cases gk with
       | zero => exact absurd HA.out (by simp [spec_PutNum.l0])
       | succ k3 =>
        have H := HA.out
        clear HA
        simp only [spec_PutNum.l0] at H
        by_cases c11 : x1_3 > 127
        ·rw [if_pos c11] at H
         have c11b0 := decide_eq_true c11
         clear c11
         by_cases c12 : x5_3.length < 140737488355328
         ·rw [if_pos c12] at H
          have LMc12 := zn c12
          clear c12
          obtain ⟨y311, hy311⟩ : ∃ y_ : List Int, y_ = (x5_3 ++ [(Go.bits .or .i64 (Go.bits .and .i64 x1_3 127) 128) % 256]) := ⟨_, rfl⟩
          replace H : (spec_PutNum.l0 k3 (x1_3 / 128) y311) = some r := by first | (rw [hy311]; with_reducible exact H) | (have H2_ := (Option.bind_some _ _).symm.trans H; rw [hy311]; with_reducible exact H2_) | (have H2_ := (Option.bind_some _ _).symm.trans H; with_reducible exact H2_) | with_reducible exact H | (rw [hy311]; exact H) | exact H
          have Ny311 := zn hy311
          clear hy311
          have H' := zn H
          clear H
          go_wp2_with (first | ((with_reducible refine gate_builtin (b := .append) (xs := #[.tmp 15, .tmp 20]) rfl ?_); at_builtin; refine Kd.R_append (Kd.int .u8) (w0 := w) w.heap.size rfl (.tmp 15) (.tmp 20) 22 5 (.int .u8 0) 1 rfl Tryz.underlying22 info5 rfl z1l z1k u5 x5_3 ((Go.bits .or .i64 (Go.bits .and .i64 x1_3 127) 128) % 256) [.int .u8 ((Go.bits .or .i64 (Go.bits .and .i64 x1_3 127) 128) % 256)] (fun _ => True) (fun _ => False) rfl rfl ?aP (fun _ hk => hk.elim) ?aF ?aO ?aB ?aS ?aL ?_; (case aP => exact rfl); (case aB => exact z1r); (case aF => exact (fun _ _ => trivial)); (case aO => exact z3v); (case aS => exact (below_size z1r)); (case aL => exact z2s); intro v312 w13 ho hb hg hat; rw [← Ny311.out] at ho; have n_ := zo hb ho; clear HB HO_5; obtain ⟨HB, HO313⟩ := n_; clear ho hb hg hat))
          go_roundg k3
          case measure => have := HJ3.out; have := HJ8.out; have := HK3.out; omega
          case rel => exact ⟨(x1_3 / 128), (y311), z1n, H', ⟨by have := HJ3.out; have := HJ8.out; have := HK3.out; omega⟩, ⟨by (with_reducible repeat (first | apply Kd.R_alloc | apply Kd.R_drewN | apply Kd.R_drew)); exact HO313.out⟩, ⟨z1r⟩⟩
         ·rw [if_neg c12] at H
          exact absurd H (by simp)
        ·rw [if_neg c11] at H
         have c11b0 := decide_eq_false c11
         clear c11
         by_cases c14 : x5_3.length < 140737488355328
         ·rw [if_pos c14] at H
          have LMc14 := zn c14
          clear c14
          obtain ⟨y314, hy314⟩ : ∃ y_ : List Int, y_ = (x5_3 ++ [(x1_3) % 256]) := ⟨_, rfl⟩
          replace H : (some y314) = some r := by first | (rw [hy314]; with_reducible exact H) | (have H2_ := (Option.bind_some _ _).symm.trans H; rw [hy314]; with_reducible exact H2_) | (have H2_ := (Option.bind_some _ _).symm.trans H; with_reducible exact H2_) | with_reducible exact H | (rw [hy314]; exact H) | exact H
          have Ny314 := zn hy314
          clear hy314
          obtain rfl := Option.some.inj H
          go_wp2_with (first | ((with_reducible refine gate_builtin (b := .append) (xs := #[.tmp 24, .tmp 27]) rfl ?_); at_builtin; refine Kd.R_append (Kd.int .u8) (w0 := w) w.heap.size rfl (.tmp 24) (.tmp 27) 22 5 (.int .u8 0) 1 rfl Tryz.underlying22 info5 rfl z1l z1k u5 x5_3 ((x1_3) % 256) [.int .u8 ((x1_3) % 256)] (fun _ => True) (fun _ => False) rfl rfl ?aP (fun _ hk => hk.elim) ?aF ?aO ?aB ?aS ?aL ?_; (case aP => exact rfl); (case aB => exact z1r); (case aF => exact (fun _ _ => trivial)); (case aO => exact z3v); (case aS => exact (below_size z1r)); (case aL => have := LMc14.out; omega); intro v315 w15 ho hb hg hat; rw [← Ny314.out] at ho; have n_ := zo hb ho; clear HB HO_5; obtain ⟨HB, HO316⟩ := n_; clear ho hb hg hat))
          go_ret
          exact ⟨_, z1t, by (with_reducible repeat (first | apply Kd.R_alloc | apply Kd.R_drewN | apply Kd.R_drew)); exact HO316.out, z1r⟩
         ·rw [if_neg c14] at H
          exact absurd H (by simp)
 ·rw [if_neg c3] at H
  exact absurd H (by simp)
def spec_PutText.f (k : Nat) (l0 : List Int) (a1 : ByteArray) : Option (List Int) := (spec_PutNum.f k l0 (a1.size : Int)).bind fun t317 => (if t317.length + a1.size < 140737488355328 then (some (t317 ++ bytesOf a1)) else (none))
set_option maxHeartbeats 8000000 in
set_option maxRecDepth 100000 in
theorem spec_PutText.calls (k : Nat) (A0 : Option Addr) (c0 : Nat) (l0 : List Int) (a1 : ByteArray) (r : List Int) (w : World) (hr0 : Kd.C (Kd.int .u8) w A0 l0.length l0) (hc0 : l0.length ≤ c0) (h : spec_PutText.f k l0 a1 = some r) :
  Calls Tryz.prog 61 #[.slice A0 l0.length c0, .string a1] w fun e w' => ∃ v0_ : Value, e = .returned (v0_) ∧ Kd.R (Kd.int .u8) 5 w' w.heap.size (fun _ => True) v0_ r ∧ Below w.heap.size w w' := by
 have HR0 := zn hr0
 have HC0 := zn hc0
 clear hr0 hc0
 have HB := zn (Below.refl w.heap.size w)
 have H := h
 unfold spec_PutText.f at H
 clear h
 obtain ⟨t317, A3, H⟩ := zm H
 try dsimp only at H
 by_cases c4 : t317.length + a1.size < 140737488355328
 ·rw [if_pos c4] at H
  have LMc4 := zn c4
  clear c4
  obtain ⟨y320, hy320⟩ : ∃ y_ : List Int, y_ = (t317 ++ bytesOf a1) := ⟨_, rfl⟩
  replace H : (some y320) = some r := by first | (rw [hy320]; with_reducible exact H) | (have H2_ := (Option.bind_some _ _).symm.trans H; rw [hy320]; with_reducible exact H2_) | (have H2_ := (Option.bind_some _ _).symm.trans H; with_reducible exact H2_) | with_reducible exact H | (rw [hy320]; exact H) | exact H
  have Ny320 := zn hy320
  clear hy320
  obtain rfl := Option.some.inj H
  go_enter Tryz.func61, Tryz.ntmps61
  go_wp2_with (first | ((with_reducible refine zi 89 rfl ?_); refine zj (some 8) Tryz.func89 #[.slice A0 l0.length c0, .int .i64 (a1.size : Int)] rfl ?_; (with_reducible refine (spec_PutNum.calls k _ _ l0 (a1.size : Int) t317 _ ?side1 ?side2 A3.out).mono ?_); (case side1 => exact z3d); (case side2 => exact HC0.out); rintro e w5 ⟨v318, rfl, ho0, hb⟩; refine ⟨_, rfl, ?_⟩; have n_ := zo (Kd.R_lower ho0 (below_size z1r)) (below_step z1r hb); clear HB; obtain ⟨HO319, HB⟩ := n_; (try clear hb); (try clear ho0)) | (at_builtin; refine Y.R_append_str (w0 := w) w.heap.size rfl (.tmp 8) _ 22 9 5 rfl Tryz.underlying22 Tryz.underlying9 info5 v318 t317 a1 (fun _ => True) rfl rfl ?aF ?aO ?aB ?aS ?aL ?_; (case aB => exact z1r); (case aF => exact (fun _ _ => trivial)); (case aO => exact (by (with_reducible repeat (first | apply Kd.R_alloc | apply Kd.R_drewN | apply Kd.R_drew)); exact HO319.out)); (case aS => exact (below_size z1r)); (case aL => have := LMc4.out; omega); intro v321 w6 ho hb hg hat; rw [← Ny320.out] at ho; have n_ := zo hb ho; clear HB HO319; obtain ⟨HB, HO322⟩ := n_; clear ho hb hg hat))
  go_ret
  exact ⟨_, z1t, by (with_reducible repeat (first | apply Kd.R_alloc | apply Kd.R_drewN | apply Kd.R_drew)); exact HO322.out, z1r⟩
 ·rw [if_neg c4] at H
  exact absurd H (by simp)
def spec_PutTexts.l0 : Nat → List ByteArray → List Int → Int → Option (List Int)
 | 0, _, _, _ => none
 | k + 1, x1, x5, x6 => if x6 < (x1.length : Int) then (if 0 ≤ x6 then ((spec_PutText.f k x5 (rdOf ByteArray.empty x1 x6)).bind fun t327 => (spec_PutTexts.l0 k x1 t327 (wrap64 (x6 + 1)))) else (none)) else (some x5)
def spec_PutTexts.f (k : Nat) (l0 : List Int) (l1 : List ByteArray) : Option (List Int) := (spec_PutNum.f k l0 (l1.length : Int)).bind fun t323 => (spec_PutTexts.l0 k l1 t323 0)
set_option maxHeartbeats 8000000 in
set_option maxRecDepth 100000 in
theorem spec_PutTexts.calls (k : Nat) (A0 : Option Addr) (c0 : Nat) (l0 : List Int) (A1 : Option Addr) (c1 : Nat) (l1 : List ByteArray) (r : List Int) (w : World) (hr0 : Kd.C (Kd.int .u8) w A0 l0.length l0) (hc0 : l0.length ≤ c0) (hr1 : Kd.C Kd.string w A1 l1.length l1) (hc1 : l1.length ≤ c1) (h : spec_PutTexts.f k l0 l1 = some r) :
  Calls Tryz.prog 60 #[.slice A0 l0.length c0, .slice A1 l1.length c1] w fun e w' => ∃ v0_ : Value, e = .returned (v0_) ∧ Kd.R (Kd.int .u8) 5 w' w.heap.size (fun _ => True) v0_ r ∧ Below w.heap.size w w' := by
 have HR0 := zn hr0
 have HC0 := zn hc0
 clear hr0 hc0
 have HR1 := zn hr1
 have HC1 := zn hc1
 clear hr1 hc1
 have HB := zn (Below.refl w.heap.size w)
 have H := h
 unfold spec_PutTexts.f at H
 clear h
 obtain ⟨t323, A3, H⟩ := zm H
 try dsimp only at H
 have H' := zn H
 clear H
 go_enter Tryz.func60, Tryz.ntmps60
 go_wp2_with (first | ((with_reducible refine zi 89 rfl ?_); refine zj (some 10) Tryz.func89 #[.slice A0 l0.length c0, .int .i64 (l1.length : Int)] rfl ?_; (with_reducible refine (spec_PutNum.calls k _ _ l0 (l1.length : Int) t323 _ ?side1 ?side2 A3.out).mono ?_); (case side1 => exact z3d); (case side2 => exact HC0.out); rintro e w4 ⟨v324, rfl, ho0, hb⟩; refine ⟨_, rfl, ?_⟩; have n_ := zo (Kd.R_lower ho0 (below_size z1r)) (below_step z1r hb); clear HB; obtain ⟨HO325, HB⟩ := n_; (try clear hb); (try clear ho0)))
 go_loopg [5, 6] k (fun kq v5 v6 w' => ∃ (x5_1 : List Int) (x6_1 : Int), v6 = .int .i64 x6_1 ∧ Aside0 (spec_PutTexts.l0 kq l1 x5_1 x6_1 = some r) ∧ Aside0 (kq ≤ k) ∧ Aside0 (Kd.R (Kd.int .u8) 5 w' w.heap.size (fun _ => True) v5 x5_1) ∧ Aside0 (Below w.heap.size w w'))
 case atStart => exact ⟨(t323), (0), z1n, H', ⟨Nat.le_refl _⟩, ⟨by (with_reducible repeat (first | apply Kd.R_alloc | apply Kd.R_drewN | apply Kd.R_drew)); exact HO325.out⟩, ⟨z1r⟩⟩
 case round =>
  clear H'
  try clear c1
  try clear p2
  obtain ⟨x5_1, x6_1, rfl, HA, HK1, HO_5, HB⟩ := hrel
  cases gk with
  | zero => exact absurd HA.out (by simp [spec_PutTexts.l0])
  | succ k1 =>
   have H := HA.out
   clear HA
   simp only [spec_PutTexts.l0] at H
   by_cases c5 : x6_1 < (l1.length : Int)
   ·rw [if_pos c5] at H
    have c5b0 := decide_eq_true c5
    clear c5
    by_cases c6 : 0 ≤ x6_1
    ·rw [if_pos c6] at H
     have c6b0 := decide_eq_true c6
     clear c6
     obtain ⟨t327, A7, H⟩ := zm H
     try dsimp only at H
     have H' := zn H
     clear H
     have p326 : 0 ≤ (x6_1 : Int) := of_decide_eq_true z1p
     have q326 : x6_1 < (l1.length : Int) := of_decide_eq_true z1p
     obtain ⟨ad326, e326, hx326_0⟩ := Kd.at_string HR1.out x6_1 p326 q326
     cases e326
     replace hx326_0 := zz HB.out hx326_0
     replace p326 := eq_true p326
     replace q326 := eq_true q326
     obtain ⟨Ao8, co8, eo8⟩ := Kd.R_slice HO_5.out
     subst eo8
     go_wp2_with (first | ((with_reducible refine zi 61 rfl ?_); refine zj (some 22) Tryz.func61 #[.slice Ao8 x5_1.length co8, .string (rdOf ByteArray.empty l1 x6_1)] rfl ?_; (with_reducible refine (spec_PutText.calls k1 _ _ x5_1 (rdOf ByteArray.empty l1 x6_1) t327 _ ?side1 ?side2 A7.out).mono ?_); (case side1 => repeat (first | exact (Kd.R_reads' HO_5.out).2.2 | (with_reducible refine Kd.C_alloc ?_ _) | (with_reducible refine Kd.C_drewN ?_ _) | (with_reducible refine Kd.C_drew ?_))); (case side2 => exact (Kd.R_reads' HO_5.out).2.1); rintro e w9 ⟨v328, rfl, ho0, hb⟩; refine ⟨_, rfl, ?_⟩; have n_ := z1c (Kd.R_elder' z3v (Kd.R_base ho0) hb) (Kd.R_lower (Kd.R_new' ho0 (Kd.R_lt z3v)) (below_size z1r)) (below_step z1r hb); clear HO_5 HB; obtain ⟨HO_5, HO329, HB⟩ := n_; (try clear hb); (try clear ho0)))
     go_roundg k1
     case measure => have := HK1.out; omega
     case rel => exact ⟨(t327), (wrap64 (x6_1 + 1)), z1n, H', ⟨z1q⟩, ⟨by (with_reducible repeat (first | apply Kd.R_alloc | apply Kd.R_drewN | apply Kd.R_drew)); exact Kd.R_mono HO329.out (fun _ hk => trivial)⟩, ⟨z1r⟩⟩
    ·rw [if_neg c6] at H
     exact absurd H (by simp)
   ·rw [if_neg c5] at H
    have c5b0 := decide_eq_false c5
    clear c5
    obtain rfl := Option.some.inj H
    go_wp2
    go_ret
    exact ⟨_, z1t, z3v, z1r⟩
def spec_PutEntry.l0 : Nat → List ByteArray → Int → ByteArray → Int → Int → Int → ByteArray → List (S35) → Option (ByteArray)
 | 0, _, _, _, _, _, _, _, _ => none
 | k + 1, x3, x4, x331000, x331001, x331002, x331003, x331004, x331005 => if x4 < (x331005.length : Int) then (if 0 ≤ x4 then ((spec_EntryName.f k ((rd_T35 x331005 x4).f0) ((rd_T35 x331005 x4).f1.f0) ((rd_T35 x331005 x4).f1.f1) ((rd_T35 x331005 x4).f1.f2) ((rd_T35 x331005 x4).f1.f3)).bind fun t337 => (if x3.length < 8796093022208 then (spec_PutEntry.l0 k (x3 ++ [t337]) (wrap64 (x4 + 1)) x331000 x331001 x331002 x331003 x331004 x331005) else (none))) else (none)) else ((spec_EntryName.f k x331000 x331001 x331002 x331003 x331004).bind fun t344 => ((spec_PutText.f k (([] : List Int)) t344).bind fun t345 => ((spec_PutTexts.f k t345 x3).bind fun t348 => (some (strOfNums t348)))))
def spec_PutEntry.f (k : Nat) (a0_0 : ByteArray) (a0_1 : Int) (a0_2 : Int) (a0_3 : Int) (a0_4 : ByteArray) (l0_5 : List (S35)) : Option (ByteArray) := (spec_EntryOk.f k a0_0 a0_1 a0_2 a0_3 a0_4 l0_5).bind fun t331 => (if t331 = true then (spec_PutEntry.l0 k (([] : List ByteArray)) 0 a0_0 a0_1 a0_2 a0_3 a0_4 l0_5) else (some (⟨#[]⟩ : ByteArray)))
def spec_PutEntry.T7 : Bool × List (List Nat × List Nat) := (true, [([], []), ([], []), ([1], [1]), ([], []), ([2, 3], [2, 3]), ([4], [4]), ([5], [5]), ([], []), ([7], [7]), ([], []), ([8, 9], [8, 9]), ([10], [10]), ([11], [11]), ([6, 12], [6, 12]), ([13], [13]), ([0, 14, 13], [0, 14]), ([15, 15, 0, 1, 2, 3, 4, 5, 6, 7, 8, 9, 10, 11, 12, 13, 14, 15], [0, 15])])
def spec_PutEntry.B7 : List Nat := [0, 0, 2, 0, 14, 30, 62, 0, 128, 0, 896, 1920, 3968, 8190, 16382, 32767, 65535]
theorem spec_PutEntry.tab7 : rtab .any (opsOf Tryz.f26 7) = spec_PutEntry.T7 := by kernel_rfl
theorem spec_PutEntry.bits7 : waitsOk spec_PutEntry.T7.2 spec_PutEntry.B7 = true := by kernel_rfl
set_option maxHeartbeats 8000000 in
set_option maxRecDepth 100000 in
theorem spec_PutEntry.calls (k : Nat) (a0_0 : ByteArray) (a0_1 : Int) (a0_2 : Int) (a0_3 : Int) (a0_4 : ByteArray) (A0_5 : Option Addr) (c0_5 : Nat) (l0_5 : List (S35)) (r : ByteArray) (w : World) (hr0_5 : Kd.C k35 w A0_5 l0_5.length l0_5) (hc0_5 : l0_5.length ≤ c0_5) (h : spec_PutEntry.f k a0_0 a0_1 a0_2 a0_3 a0_4 l0_5 = some r) :
  Calls Tryz.prog 26 #[.agg #[.string a0_0, .int .i64 a0_1, .int .i64 a0_2, .int .i64 a0_3, .string a0_4, .slice A0_5 l0_5.length c0_5]] w fun e w' => e = .returned (.string r) ∧ Below w.heap.size w w' := by
 have hu28 := Tryz.underlying28
 have hu25 := Tryz.underlying25
 have HR0_5 := zn hr0_5
 have HC0_5 := zn hc0_5
 clear hr0_5 hc0_5
 have HB := zn (Below.refl w.heap.size w)
 have H := h
 unfold spec_PutEntry.f at H
 clear h
 obtain ⟨t331, A2, H⟩ := zm H
 try dsimp only at H
 by_cases c3 : t331 = true
 ·subst c3
  rw [if_pos rfl] at H
  obtain ⟨y332, hy332⟩ : ∃ y_ : List ByteArray, y_ = (([] : List ByteArray)) := ⟨_, rfl⟩
  replace H : (spec_PutEntry.l0 k y332 0 a0_0 a0_1 a0_2 a0_3 a0_4 l0_5) = some r := by first | (rw [hy332]; with_reducible exact H) | (have H2_ := (Option.bind_some _ _).symm.trans H; rw [hy332]; with_reducible exact H2_) | (have H2_ := (Option.bind_some _ _).symm.trans H; with_reducible exact H2_) | with_reducible exact H | (rw [hy332]; exact H) | exact H
  have Ny332 := zn hy332
  clear hy332
  have H' := zn H
  clear H
  go_enter Tryz.func26, Tryz.ntmps26
  go_wp2_with (first | ((with_reducible refine zr 1 rfl ?_); refine zt 28 #[.string a0_0, .int .i64 a0_1, .int .i64 a0_2, .int .i64 a0_3, .string a0_4, .slice A0_5 l0_5.length c0_5] ?_; intro gb330 hg w4 hbox hb; have n_ := zv (below_step z1r hb) hbox (z8j : w.heap.size ≤ gb330) (z8j : w.heap.size ≤ gb330); clear HB; obtain ⟨HB, BK330, GW330, GE330⟩ := n_; clear hb hbox hg; obtain ⟨hcz5_0, hcz5_1, hcz5_2, hcz5_3, hcz5_4, hcz5_5, hfz5_0, hfz5_1, hfz5_2, hfz5_3, hfz5_4, hfz5_5⟩ := zh BK330.out) | ((with_reducible refine zi 10 rfl ?_); refine zj (some 6) Tryz.func10 #[.agg #[.string a0_0, .int .i64 a0_1, .int .i64 a0_2, .int .i64 a0_3, .string a0_4, .slice A0_5 l0_5.length c0_5]] rfl ?_; (with_reducible refine (spec_EntryOk.calls k a0_0 a0_1 a0_2 a0_3 a0_4 _ _ l0_5 true _ ?side1 ?side2 A2.out).mono ?_); (case side1 => exact z2g); (case side2 => exact HC0_5.out); rintro e w6 ⟨rfl, hb⟩; refine ⟨_, rfl, ?_⟩; have n_ := zo (blk_below (zu BK330.out) hb) (below_step z5h hb); clear BK330 HB; obtain ⟨BK330, HB⟩ := n_; (try clear hb)) | ((with_reducible refine zr 8 rfl ?_); refine Kd.R_lit Kd.string _ 9 ?hg (N := 8) ?hd (xs := ([] : List ByteArray)) (inner := []) (ok := fun _ => True) (okp := fun _ => True) ?hr ?hp (fun _ hk => hk) trivial (Below.refl _ _) (Nat.le_refl _) (by simp) ?_; (case hd => exact z2b); (case hg => exact z2b); (case hr => exact z3t); (case hp => exact (Reps.none _ _)); intro v333 w7 ho8 hb hg_ hnew_; clear hg_ hnew_; (first | rw [← Ny332.out] at ho8 | (simp only [Int.reduceToNat] at ho8; rw [← Ny332.out] at ho8)); have n_ := z1c (Kd.R_lower ho8 (below_size z5h)) (blk_below (zu BK330.out) hb) (below_step z5h hb); clear BK330 HB; obtain ⟨HO334, BK330, HB⟩ := n_; clear hb ho8))
  go_loopg [3, 4] k (fun kq v3 v4 w' => ∃ (x3_1 : List ByteArray) (x4_1 : Int), v4 = .int .i64 x4_1 ∧ Aside0 (spec_PutEntry.l0 kq x3_1 x4_1 a0_0 a0_1 a0_2 a0_3 a0_4 l0_5 = some r) ∧ Aside0 (kq ≤ k) ∧ Aside0 (Kd.R Kd.string 9 w' w.heap.size (fun _ => True) v3 x3_1) ∧ Aside0 (w'.heap[gb330]? = some (.cells #[.string a0_0, .int .i64 a0_1, .int .i64 a0_2, .int .i64 a0_3, .string a0_4, (.slice A0_5 l0_5.length c0_5)] 28 (0, 0))) ∧ Aside0 (Below w.heap.size w w'))
  case atStart => exact ⟨(y332), (0), z1n, H', ⟨Nat.le_refl _⟩, ⟨by (with_reducible repeat (first | apply Kd.R_alloc | apply Kd.R_drewN | apply Kd.R_drew)); exact HO334.out⟩, ⟨by (repeat refine z1a ?_); exact BK330.out⟩, ⟨z5h⟩⟩
  case round =>
   clear H'
   try clear c1
   try clear c2
   try clear p2
   try clear c3
   try clear hcz5_0
   try clear hcz5_1
   try clear hcz5_2
   try clear hcz5_3
   try clear hcz5_4
   try clear hcz5_5
   try clear hfz5_0
   try clear hfz5_1
   try clear hfz5_2
   try clear hfz5_3
   try clear hfz5_4
   try clear hfz5_5
   obtain ⟨x3_1, x4_1, rfl, HA, HK1, HO_3, BK330, HB⟩ := hrel
   cases gk with
   | zero => exact absurd HA.out (by simp [spec_PutEntry.l0])
   | succ k1 =>
    have H := HA.out
    clear HA
    simp only [spec_PutEntry.l0] at H
    by_cases c9 : x4_1 < (l0_5.length : Int)
    ·rw [if_pos c9] at H
     have c9b0 := decide_eq_true c9
     clear c9
     by_cases c10 : 0 ≤ x4_1
     ·rw [if_pos c10] at H
      have c10b0 := decide_eq_true c10
      clear c10
      obtain ⟨t337, A11, H⟩ := zm H
      try dsimp only at H
      by_cases c12 : x3_1.length < 8796093022208
      ·rw [if_pos c12] at H
       have LMc12 := zn c12
       clear c12
       obtain ⟨y338, hy338⟩ : ∃ y_ : List ByteArray, y_ = (x3_1 ++ [t337]) := ⟨_, rfl⟩
       replace H : (spec_PutEntry.l0 k1 y338 (wrap64 (x4_1 + 1)) a0_0 a0_1 a0_2 a0_3 a0_4 l0_5) = some r := by first | (rw [hy338]; with_reducible exact H) | (have H2_ := (Option.bind_some _ _).symm.trans H; rw [hy338]; with_reducible exact H2_) | (have H2_ := (Option.bind_some _ _).symm.trans H; with_reducible exact H2_) | with_reducible exact H | (rw [hy338]; exact H) | exact H
       have Ny338 := zn hy338
       clear hy338
       have H' := zn H
       clear H
       obtain ⟨hcz13_0, hcz13_1, hcz13_2, hcz13_3, hcz13_4, hcz13_5, hfz13_0, hfz13_1, hfz13_2, hfz13_3, hfz13_4, hfz13_5⟩ := zh BK330.out
       try go_wp2
       have n_ := z1c (Kd.R_drew HO_3.out) (blk_drew BK330.out) (below_drew1 HB.out)
       clear HO_3 BK330 HB
       obtain ⟨HO_3, BK330, HB⟩ := n_
       have p335 : 0 ≤ (x4_1 : Int) := of_decide_eq_true z1p
       have q335 : x4_1 < (l0_5.length : Int) := of_decide_eq_true z1p
       obtain ⟨ad335, e335, hx335_0, hx335_1, hx335_2, hx335_3, hx335_4⟩ := at_T35 HR0_5.out x4_1 p335 q335
       have hw335_4 := hx335_4
       have hw335_3 := hx335_3
       have hw335_2 := hx335_2
       have hw335_1 := hx335_1
       have hw335_0 := hx335_0
       cases e335
       replace hx335_0 := zz HB.out hx335_0
       replace hx335_1 := zz HB.out hx335_1
       replace hx335_2 := zz HB.out hx335_2
       replace hx335_3 := zz HB.out hx335_3
       replace hx335_4 := zz HB.out hx335_4
       replace p335 := eq_true p335
       replace q335 := eq_true q335
       have p336 : 0 ≤ (x4_1 : Int) := of_decide_eq_true z1p
       have q336 : x4_1 < (l0_5.length : Int) := of_decide_eq_true z1p
       obtain ⟨ad336, e336, hx336_0, hx336_1, hx336_2, hx336_3, hx336_4⟩ := at_T35 HR0_5.out x4_1 p336 q336
       have hw336_4 := hx336_4
       have hw336_3 := hx336_3
       have hw336_2 := hx336_2
       have hw336_1 := hx336_1
       have hw336_0 := hx336_0
       obtain rfl : ad335 = ad336 := (by injection e336)
       replace hx336_0 := zz HB.out hx336_0
       replace hx336_1 := zz HB.out hx336_1
       replace hx336_2 := zz HB.out hx336_2
       replace hx336_3 := zz HB.out hx336_3
       replace hx336_4 := zz HB.out hx336_4
       replace p336 := eq_true p336
       replace q336 := eq_true q336
       refine start_ (n := 17) (S := fun w' => w'.cell? ⟨gb330, 0, none⟩ = some (.string a0_0) ∧ w'.cell? ⟨gb330, 1, none⟩ = some (.int .i64 a0_1) ∧ w'.cell? ⟨gb330, 2, none⟩ = some (.int .i64 a0_2) ∧ w'.cell? ⟨gb330, 3, none⟩ = some (.int .i64 a0_3) ∧ w'.cell? ⟨gb330, 4, none⟩ = some (.string a0_4) ∧ w'.cell? ⟨gb330, 5, none⟩ = some (.slice (some ad335) l0_5.length c0_5) ∧ w'.cell? (ad335.add ((x4_1).toNat * 5)) = some (.string ((rd_T35 l0_5 x4_1).f0)) ∧ w'.cell? ⟨(ad335.add ((x4_1).toNat * 5)).block, (ad335.add ((x4_1).toNat * 5)).off + 1, none⟩ = some (.int .i64 ((rd_T35 l0_5 x4_1).f1.f0)) ∧ w'.cell? ⟨(ad335.add ((x4_1).toNat * 5)).block, (ad335.add ((x4_1).toNat * 5)).off + 2, none⟩ = some (.int .i64 ((rd_T35 l0_5 x4_1).f1.f1)) ∧ w'.cell? ⟨(ad335.add ((x4_1).toNat * 5)).block, (ad335.add ((x4_1).toNat * 5)).off + 3, none⟩ = some (.int .i64 ((rd_T35 l0_5 x4_1).f1.f2)) ∧ w'.cell? ⟨(ad335.add ((x4_1).toNat * 5)).block, (ad335.add ((x4_1).toNat * 5)).off + 4, none⟩ = some (.string ((rd_T35 l0_5 x4_1).f1.f3)) ∧ w'.cell? (ad335.add ((x4_1).toNat * 5)) = some (.string ((rd_T35 l0_5 x4_1).f0)) ∧ w'.cell? ⟨(ad335.add ((x4_1).toNat * 5)).block, (ad335.add ((x4_1).toNat * 5)).off + 1, none⟩ = some (.int .i64 ((rd_T35 l0_5 x4_1).f1.f0)) ∧ w'.cell? ⟨(ad335.add ((x4_1).toNat * 5)).block, (ad335.add ((x4_1).toNat * 5)).off + 2, none⟩ = some (.int .i64 ((rd_T35 l0_5 x4_1).f1.f1)) ∧ w'.cell? ⟨(ad335.add ((x4_1).toNat * 5)).block, (ad335.add ((x4_1).toNat * 5)).off + 3, none⟩ = some (.int .i64 ((rd_T35 l0_5 x4_1).f1.f2)) ∧ w'.cell? ⟨(ad335.add ((x4_1).toNat * 5)).block, (ad335.add ((x4_1).toNat * 5)).off + 4, none⟩ = some (.string ((rd_T35 l0_5 x4_1).f1.f3))) (ds := []) #[z9d, z9d, z9d, z9d, z9d, z9d, z9d, z9d, z9d, z9d, z9d, z9d, z9d, z9d, z9d, z9d, z9d] z1m rfl rfl ⟨(blk_cell BK330.out 0).trans rfl, (blk_cell BK330.out 1).trans rfl, (blk_cell BK330.out 2).trans rfl, (blk_cell BK330.out 3).trans rfl, (blk_cell BK330.out 4).trans rfl, (blk_cell BK330.out 5).trans rfl, (zz HB.out hw335_0), (zz HB.out hw335_1), (zz HB.out hw335_2), (zz HB.out hw335_3), (zz HB.out hw335_4), (zz HB.out hw336_0), (zz HB.out hw336_1), (zz HB.out hw336_2), (zz HB.out hw336_3), (zz HB.out hw336_4)⟩ (fun hHeld => ?_); refine with_tabW spec_PutEntry.tab7 spec_PutEntry.bits7 (fun HT_ HW_ => ?_)
       generalize wr.drew = w14 at HO_3 BK330 HB hx335_0 hx335_1 hx335_2 hx335_3 hx335_4 hx336_0 hx336_1 hx336_2 hx336_3 hx336_4 hHeld ⊢
       refine zw 0 (some 16) #[z9c, z9d, z9d, z9d, z9d, z9d, z9d, z9d, z9d, z9d, z9d, z9d, z9d, z9d, z9d, z9d, z9d] rfl rfl ?_
       refine zw 1 (some 17) #[z9c, z9c, z9d, z9d, z9d, z9d, z9d, z9d, z9d, z9d, z9d, z9d, z9d, z9d, z9d, z9d, z9d] rfl rfl ?_
       refine zw 3 (some 19) #[z9c, z9c, z9d, z9c, z9d, z9d, z9d, z9d, z9d, z9d, z9d, z9d, z9d, z9d, z9d, z9d, z9d] rfl rfl ?_
       refine zw 7 (some 23) #[z9c, z9c, z9d, z9c, z9d, z9d, z9d, z9c, z9d, z9d, z9d, z9d, z9d, z9d, z9d, z9d, z9d] rfl rfl ?_
       refine zw 9 (some 25) #[z9c, z9c, z9d, z9c, z9d, z9d, z9d, z9c, z9d, z9c, z9d, z9d, z9d, z9d, z9d, z9d, z9d] rfl rfl ?_
       refine zx 2 (some 18) #[z9c, z9c, z9c, z9c, z9d, z9d, z9d, z9c, z9d, z9c, z9d, z9d, z9d, z9d, z9d, z9d, z9d] rfl rfl (Or.inl ⟨z2b, z5i⟩) hHeld ?_
       refine zw 4 (some 20) #[z9c, z9c, z9c, z9c, z9c, z9d, z9d, z9c, z9d, z9c, z9d, z9d, z9d, z9d, z9d, z9d, z9d] rfl rfl ?_
       refine zw 5 (some 21) #[z9c, z9c, z9c, z9c, z9c, z9c, z9d, z9c, z9d, z9c, z9d, z9d, z9d, z9d, z9d, z9d, z9d] rfl rfl ?_
       refine zx 6 (some 22) #[z9c, z9c, z9c, z9c, z9c, z9c, z9c, z9c, z9d, z9c, z9d, z9d, z9d, z9d, z9d, z9d, z9d] rfl rfl (Or.inl ⟨z2b, z5i⟩) hHeld ?_
       refine zx 8 (some 24) #[z9c, z9c, z9c, z9c, z9c, z9c, z9c, z9c, z9c, z9c, z9d, z9d, z9d, z9d, z9d, z9d, z9d] rfl rfl (Or.inl ⟨z2b, z5i⟩) hHeld ?_
       refine zw 10 (some 26) #[z9c, z9c, z9c, z9c, z9c, z9c, z9c, z9c, z9c, z9c, z9c, z9d, z9d, z9d, z9d, z9d, z9d] rfl rfl ?_
       refine zw 11 (some 27) #[z9c, z9c, z9c, z9c, z9c, z9c, z9c, z9c, z9c, z9c, z9c, z9c, z9d, z9d, z9d, z9d, z9d] rfl rfl ?_
       refine zx 12 (some 28) #[z9c, z9c, z9c, z9c, z9c, z9c, z9c, z9c, z9c, z9c, z9c, z9c, z9c, z9d, z9d, z9d, z9d] rfl rfl (Or.inl ⟨z2b, z5i⟩) hHeld ?_
       refine one_ (i := 13) (N := some 29) #[z9c, z9c, z9c, z9c, z9c, z9c, z9c, z9c, z9c, z9c, z9c, z9c, z9c, z9c, z9d, z9d, z9d] rfl rfl (one_of HT_.out z1m) z1l (fun K hK => ?_)
       refine goes_ Tryz.func55 z1m rfl #[.string ((rd_T35 l0_5 x4_1).f0), .agg #[.int .i64 ((rd_T35 l0_5 x4_1).f1.f0), .int .i64 ((rd_T35 l0_5 x4_1).f1.f1), .int .i64 ((rd_T35 l0_5 x4_1).f1.f2), .string ((rd_T35 l0_5 x4_1).f1.f3)]] z2b rfl rfl z2d ?_
       with_reducible refine (spec_EntryName.calls k1 ((rd_T35 l0_5 x4_1).f0) ((rd_T35 l0_5 x4_1).f1.f0) ((rd_T35 l0_5 x4_1).f1.f1) ((rd_T35 l0_5 x4_1).f1.f2) ((rd_T35 l0_5 x4_1).f1.f3) t337 _ A11.out).mono ?_
       rintro e w15 ⟨rfl, hb⟩
       refine ⟨_, rfl, ?_⟩
       have n_ := z1c (Kd.R_below z1s hb) (blk_below (zu BK330.out) hb) (below_step z5h hb)
       clear HO_3 BK330 HB
       obtain ⟨HO_3, BK330, HB⟩ := n_
       (try clear hb)
       (try clear hb2)
       (try clear hk)
       (try clear hi)
       refine hK.out _ _ ⟨(blk_cell BK330.out 0).trans rfl, (blk_cell BK330.out 1).trans rfl, (blk_cell BK330.out 2).trans rfl, (blk_cell BK330.out 3).trans rfl, (blk_cell BK330.out 4).trans rfl, (blk_cell BK330.out 5).trans rfl, (zz HB.out hw335_0), (zz HB.out hw335_1), (zz HB.out hw335_2), (zz HB.out hw335_3), (zz HB.out hw335_4), (zz HB.out hw336_0), (zz HB.out hw336_1), (zz HB.out hw336_2), (zz HB.out hw336_3), (zz HB.out hw336_4)⟩ (fun hHeld => ?_)
       clear hK K
       refine zy (some 29) rfl ?_
       refine one_ (i := 14) (N := some 30) #[z9c, z9c, z9c, z9c, z9c, z9c, z9c, z9c, z9c, z9c, z9c, z9c, z9c, z9c, z9c, z9d, z9d] rfl rfl (one_of HT_.out z1m) z1l (fun K hK => ?_)
       refine value_ (w1 := ?_) (v := ?_) z2b rfl ?_ ?_
       rotate_left 2
       ·go_simp
        constructor
        ·rfl
        ·rfl
       refine hK.out _ _ ⟨(blk_cell (blk_alloc BK330.out _) 0).trans rfl, (blk_cell (blk_alloc BK330.out _) 1).trans rfl, (blk_cell (blk_alloc BK330.out _) 2).trans rfl, (blk_cell (blk_alloc BK330.out _) 3).trans rfl, (blk_cell (blk_alloc BK330.out _) 4).trans rfl, (blk_cell (blk_alloc BK330.out _) 5).trans rfl, (World.cell?_alloc_lt _ _ _ (World.block_lt_of_cell? _ _ ((zz HB.out hw335_0)))).trans ((zz HB.out hw335_0)), (World.cell?_alloc_lt _ _ _ (World.block_lt_of_cell? _ _ ((zz HB.out hw335_1)))).trans ((zz HB.out hw335_1)), (World.cell?_alloc_lt _ _ _ (World.block_lt_of_cell? _ _ ((zz HB.out hw335_2)))).trans ((zz HB.out hw335_2)), (World.cell?_alloc_lt _ _ _ (World.block_lt_of_cell? _ _ ((zz HB.out hw335_3)))).trans ((zz HB.out hw335_3)), (World.cell?_alloc_lt _ _ _ (World.block_lt_of_cell? _ _ ((zz HB.out hw335_4)))).trans ((zz HB.out hw335_4)), (World.cell?_alloc_lt _ _ _ (World.block_lt_of_cell? _ _ ((zz HB.out hw336_0)))).trans ((zz HB.out hw336_0)), (World.cell?_alloc_lt _ _ _ (World.block_lt_of_cell? _ _ ((zz HB.out hw336_1)))).trans ((zz HB.out hw336_1)), (World.cell?_alloc_lt _ _ _ (World.block_lt_of_cell? _ _ ((zz HB.out hw336_2)))).trans ((zz HB.out hw336_2)), (World.cell?_alloc_lt _ _ _ (World.block_lt_of_cell? _ _ ((zz HB.out hw336_3)))).trans ((zz HB.out hw336_3)), (World.cell?_alloc_lt _ _ _ (World.block_lt_of_cell? _ _ ((zz HB.out hw336_4)))).trans ((zz HB.out hw336_4))⟩ (fun hHeld => ?_)
       clear hK K
       refine zy (some 30) rfl ?_
       refine one_ (i := 15) (N := some 31) #[z9c, z9c, z9c, z9c, z9c, z9c, z9c, z9c, z9c, z9c, z9c, z9c, z9c, z9c, z9c, z9c, z9d] rfl rfl (one_of HT_.out z1m) z1l (fun K hK => ?_)
       refine Kd.R_append_step Kd.string (w0 := w) w.heap.size z2b (.tmp 16) (.tmp 30) 55 9 (.string ⟨#[]⟩) 16 rfl Tryz.underlying55 info9 rfl z1l z1k u3 x3_1 t337 [.string t337] (fun _ => True) (fun _ => False) rfl rfl ?aP (fun _ hk => hk.elim) ?aF ?aO ?aB ?aS ?aL ?_
       (case aP => exact rfl)
       (case aB => exact z5h)
       (case aF => exact (fun _ _ => trivial))
       (case aO => exact z1s)
       (case aS => exact (below_size z5h))
       (case aL => exact z2s)
       intro v339 w16 ho hb hg hat
       rw [← Ny338.out] at ho
       have n_ := z1c (blk_grown (zu BK330.out) hg (Kd.R_ne HO_3.out BK330.out z1l)) hb ho
       clear BK330 HB HO_3
       obtain ⟨BK330, HB, HO340⟩ := n_
       clear ho hb hg hat
       refine hK.out _ _ ⟨(blk_cell BK330.out 0).trans rfl, (blk_cell BK330.out 1).trans rfl, (blk_cell BK330.out 2).trans rfl, (blk_cell BK330.out 3).trans rfl, (blk_cell BK330.out 4).trans rfl, (blk_cell BK330.out 5).trans rfl, (zz HB.out hw335_0), (zz HB.out hw335_1), (zz HB.out hw335_2), (zz HB.out hw335_3), (zz HB.out hw335_4), (zz HB.out hw336_0), (zz HB.out hw336_1), (zz HB.out hw336_2), (zz HB.out hw336_3), (zz HB.out hw336_4)⟩ (fun hHeld => ?_)
       clear hK K
       refine zy (some 31) rfl ?_
       refine zw 16 (some 3) #[z9c, z9c, z9c, z9c, z9c, z9c, z9c, z9c, z9c, z9c, z9c, z9c, z9c, z9c, z9c, z9c, z9c] rfl rfl ?_
       refine done_ (done_of HT_.out z1m) ?_
       try go_wp2
       go_roundg k1
       case measure => have := HK1.out; omega
       case rel => exact ⟨(y338), (wrap64 (x4_1 + 1)), z1n, H', ⟨z1q⟩, ⟨by (with_reducible repeat (first | apply Kd.R_alloc | apply Kd.R_drewN | apply Kd.R_drew)); exact HO340.out⟩, ⟨by (repeat refine z1a ?_); exact BK330.out⟩, ⟨z5h⟩⟩
      ·rw [if_neg c12] at H
       exact absurd H (by simp)
     ·rw [if_neg c10] at H
      exact absurd H (by simp)
    ·rw [if_neg c9] at H
     have c9b0 := decide_eq_false c9
     clear c9
     obtain ⟨y341, hy341⟩ : ∃ y_ : List Int, y_ = (([] : List Int)) := ⟨_, rfl⟩
     replace H : ((spec_EntryName.f k1 a0_0 a0_1 a0_2 a0_3 a0_4).bind fun t344 => ((spec_PutText.f k1 y341 t344).bind fun t345 => ((spec_PutTexts.f k1 t345 x3_1).bind fun t348 => (some (strOfNums t348))))) = some r := by first | (rw [hy341]; with_reducible exact H) | (have H2_ := (Option.bind_some _ _).symm.trans H; rw [hy341]; with_reducible exact H2_) | (have H2_ := (Option.bind_some _ _).symm.trans H; with_reducible exact H2_) | with_reducible exact H | (rw [hy341]; exact H) | exact H
     have Ny341 := zn hy341
     clear hy341
     obtain ⟨t344, A17, H⟩ := zm H
     try dsimp only at H
     obtain ⟨t345, A18, H⟩ := zm H
     try dsimp only at H
     obtain ⟨t348, A19, H⟩ := zm H
     try dsimp only at H
     obtain rfl := Option.some.inj H
     obtain ⟨hcz20_0, hcz20_1, hcz20_2, hcz20_3, hcz20_4, hcz20_5, hfz20_0, hfz20_1, hfz20_2, hfz20_3, hfz20_4, hfz20_5⟩ := zh BK330.out
     go_wp2_with (first | ((with_reducible refine zr 32 rfl ?_); refine Kd.R_lit (Kd.int .u8) _ 5 ?hg (N := 32) ?hd (xs := ([] : List Int)) (inner := []) (ok := fun _ => True) (okp := fun _ => True) ?hr ?hp (fun _ hk => hk) trivial (Below.refl _ _) (Nat.le_refl _) (by simp) ?_; (case hd => exact z2b); (case hg => exact z2b); (case hr => exact z3t); (case hp => exact (Reps.none _ _)); intro v342 w21 ho22 hb hg_ hnew_; clear hg_ hnew_; (first | rw [← Ny341.out] at ho22 | (simp only [Int.reduceToNat] at ho22; rw [← Ny341.out] at ho22)); have n_ := zv (Kd.R_below z1s hb) (Kd.R_lower ho22 (below_size z5h)) (blk_below (zu BK330.out) hb) (below_step z5h hb); clear HO_3 BK330 HB; obtain ⟨HO_3, HO343, BK330, HB⟩ := n_; clear hb ho22; obtain ⟨hcz23_0, hcz23_1, hcz23_2, hcz23_3, hcz23_4, hcz23_5, hfz23_0, hfz23_1, hfz23_2, hfz23_3, hfz23_4, hfz23_5⟩ := zh BK330.out) | ((with_reducible refine zi 55 rfl ?_); refine zj (some 37) Tryz.func55 #[.string a0_0, .agg #[.int .i64 a0_1, .int .i64 a0_2, .int .i64 a0_3, .string a0_4]] rfl ?_; (with_reducible refine (spec_EntryName.calls k1 a0_0 a0_1 a0_2 a0_3 a0_4 t344 _ A17.out).mono ?_); rintro e w24 ⟨rfl, hb⟩; refine ⟨_, rfl, ?_⟩; have n_ := zv (Kd.R_below z1s hb) (Kd.R_below z5j hb) (blk_below (zu BK330.out) hb) (below_step z5h hb); clear HO_3 HO343 BK330 HB; obtain ⟨HO_3, HO343, BK330, HB⟩ := n_; (try clear hb); obtain ⟨Ao25, co25, eo25⟩ := Kd.R_slice HO343.out; subst eo25) | ((with_reducible refine zi 61 rfl ?_); refine zj (some 38) Tryz.func61 #[.slice Ao25 y341.length co25, .string t344] rfl ?_; (with_reducible refine (spec_PutText.calls k1 _ _ y341 t344 t345 _ ?side1 ?side2 A18.out).mono ?_); (case side1 => repeat (first | exact (Kd.R_reads' HO343.out).2.2 | (with_reducible refine Kd.C_alloc ?_ _) | (with_reducible refine Kd.C_drewN ?_ _) | (with_reducible refine Kd.C_drew ?_))); (case side2 => exact (Kd.R_reads' HO343.out).2.1); rintro e w26 ⟨v346, rfl, ho0, hb⟩; refine ⟨_, rfl, ?_⟩; have n_ := z1h (Kd.R_below z1s hb) (Kd.R_elder' z5j (Kd.R_base ho0) hb) (Kd.R_lower (Kd.R_new' ho0 (Kd.R_lt z5j)) (below_size z5h)) (blk_below (zu BK330.out) hb) (below_step z5h hb); clear HO_3 HO343 BK330 HB; obtain ⟨HO_3, HO343, HO347, BK330, HB⟩ := n_; (try clear hb); (try clear ho0); obtain ⟨Ao27, co27, eo27⟩ := Kd.R_slice HO347.out; subst eo27; obtain ⟨Ao28, co28, eo28⟩ := Kd.R_slice HO_3.out; subst eo28) | ((with_reducible refine zi 60 rfl ?_); refine zj (some 40) Tryz.func60 #[.slice Ao27 t345.length co27, .slice Ao28 x3_1.length co28] rfl ?_; (with_reducible refine (spec_PutTexts.calls k1 _ _ t345 _ _ x3_1 t348 _ ?side1 ?side2 ?side3 ?side4 A19.out).mono ?_); (case side1 => repeat (first | exact (Kd.R_reads' HO347.out).2.2 | (with_reducible refine Kd.C_alloc ?_ _) | (with_reducible refine Kd.C_drewN ?_ _) | (with_reducible refine Kd.C_drew ?_))); (case side2 => exact (Kd.R_reads' HO347.out).2.1); (case side3 => repeat (first | exact (Kd.R_reads' HO_3.out).2.2 | (with_reducible refine Kd.C_alloc ?_ _) | (with_reducible refine Kd.C_drewN ?_ _) | (with_reducible refine Kd.C_drew ?_))); (case side4 => exact (Kd.R_reads' HO_3.out).2.1); rintro e w29 ⟨v349, rfl, ho0, hb⟩; refine ⟨_, rfl, ?_⟩; have n_ := z1i (Kd.R_below z1s hb) (Kd.R_elder' z5j (Kd.R_base ho0) hb) (Kd.R_elder' (by (with_reducible repeat (first | apply Kd.R_alloc | apply Kd.R_drewN | apply Kd.R_drew)); exact HO347.out) (Kd.R_base ho0) hb) (Kd.R_lower (Kd.R_new' (Kd.R_new' ho0 (Kd.R_lt z5j)) (Kd.R_lt (by (with_reducible repeat (first | apply Kd.R_alloc | apply Kd.R_drewN | apply Kd.R_drew)); exact HO347.out))) (below_size z5h)) (blk_below (zu BK330.out) hb) (below_step z5h hb); clear HO_3 HO343 HO347 BK330 HB; obtain ⟨HO_3, HO343, HO347, HO350, BK330, HB⟩ := n_; (try clear hb); (try clear ho0); have hcv30 := own_string (P := Tryz.prog) Tryz.underlying22 Tryz.underlying5 Tryz.underlying9 (Kd.own_of_R HO350.out)))
     go_ret
     exact ⟨z1t, z5h⟩
 ·replace c3 := Bool.eq_false_iff.mpr c3
  subst c3
  rw [if_neg zk] at H
  obtain rfl := Option.some.inj H
  go_enter Tryz.func26, Tryz.ntmps26
  go_wp2_with (first | ((with_reducible refine zr 1 rfl ?_); refine zt 28 #[.string a0_0, .int .i64 a0_1, .int .i64 a0_2, .int .i64 a0_3, .string a0_4, .slice A0_5 l0_5.length c0_5] ?_; intro gb330 hg w31 hbox hb; have n_ := zv (below_step z1r hb) hbox (z8j : w.heap.size ≤ gb330) (z8j : w.heap.size ≤ gb330); clear HB; obtain ⟨HB, BK330, GW330, GE330⟩ := n_; clear hb hbox hg; obtain ⟨hcz32_0, hcz32_1, hcz32_2, hcz32_3, hcz32_4, hcz32_5, hfz32_0, hfz32_1, hfz32_2, hfz32_3, hfz32_4, hfz32_5⟩ := zh BK330.out) | ((with_reducible refine zi 10 rfl ?_); refine zj (some 6) Tryz.func10 #[.agg #[.string a0_0, .int .i64 a0_1, .int .i64 a0_2, .int .i64 a0_3, .string a0_4, .slice A0_5 l0_5.length c0_5]] rfl ?_; (with_reducible refine (spec_EntryOk.calls k a0_0 a0_1 a0_2 a0_3 a0_4 _ _ l0_5 false _ ?side1 ?side2 A2.out).mono ?_); (case side1 => exact z2g); (case side2 => exact HC0_5.out); rintro e w33 ⟨rfl, hb⟩; refine ⟨_, rfl, ?_⟩; have n_ := zo (blk_below (zu BK330.out) hb) (below_step z5h hb); clear BK330 HB; obtain ⟨BK330, HB⟩ := n_; (try clear hb)))
  go_ret
  exact ⟨z1t, z5h⟩
def IsS89 (w0 W : World) (g : Nat) (f0 : List Int) (f1 : Int) (f2 : Int) : Prop := ∃ A0 c0, W.heap[g]? = some (.cells #[.slice A0 f0.length c0, .int .i64 f1, .int .i64 f2] 89 (0, 0)) ∧ w0.heap.size ≤ g ∧ Kd.C (Kd.int .u8) w0 A0 f0.length f0
theorem IsS89.grown {w0 W : World} {g : Nat} {f0 : List Int} {f1 : Int} {f2 : Int} {W1 : World} {row : Option Nat} (h : IsS89 w0 W g f0 f1 f2) (hw : W.grownBy W1 row) (hne : some g ≠ row) : IsS89 w0 W1 g f0 f1 f2 := by
 obtain ⟨A0, c0, hb, hg, hr0⟩ := h
 exact ⟨A0, c0, blk_grown hb hw hne, hg, hr0⟩
theorem IsS89.below {w0 W : World} {g : Nat} {f0 : List Int} {f1 : Int} {f2 : Int} {W1 : World} (h : IsS89 w0 W g f0 f1 f2) (hw : Below W.heap.size W W1) : IsS89 w0 W1 g f0 f1 f2 := h.grown (grown_of_below hw none) (by simp)
theorem IsS89.drewN {w0 W : World} {g : Nat} {f0 : List Int} {f1 : Int} {f2 : Int} (h : IsS89 w0 W g f0 f1 f2) (m : Nat) : IsS89 w0 (W.drewN m) g f0 f1 f2 := h
theorem IsS89.apart {w0 W : World} {g : Nat} {f0 : List Int} {f1 : Int} {f2 : Int} {α : Type} {d : Kd α} {e : Nat} {base : Nat} {ok : Nat → Prop} {v : Value} {xs : List α} (h : IsS89 w0 W g f0 f1 f2) (ho : d.R e W base ok v xs) (ht : ∀ q, q ∈ e :: d.E → q ≠ 89) : d.R e W base (fun k => ok k ∧ k ≠ g) v xs := by
 obtain ⟨A0, c0, hb, hg, hr0⟩ := h
 exact Kd.R_types ho hb ht
theorem IsS89.own_ne {w0 W : World} {g : Nat} {f0 : List Int} {f1 : Int} {f2 : Int} {α : Type} {d : Kd α} {e : Nat} {base : Nat} {ok : Nat → Prop} {v : Value} {xs : List α} (h : IsS89 w0 W g f0 f1 f2) (ho : d.R e W base ok v xs) (ht : e ≠ 89) : some g ≠ v.ownBlock := by
 obtain ⟨A0, c0, hb, hg, hr0⟩ := h
 exact Kd.R_ne ho hb ht
theorem IsS89.lt {w0 W : World} {g : Nat} {f0 : List Int} {f1 : Int} {f2 : Int} (h : IsS89 w0 W g f0 f1 f2) : g < W.heap.size := by
 obtain ⟨A0, c0, hb, hg, hr0⟩ := h
 exact blk_lt hb
theorem IsS89.ge {w0 W : World} {g : Nat} {f0 : List Int} {f1 : Int} {f2 : Int} (h : IsS89 w0 W g f0 f1 f2) : w0.heap.size ≤ g := by
 obtain ⟨A0, c0, hb, hg, hr0⟩ := h
 exact hg
theorem IsS89.ne_blk {w0 W : World} {g : Nat} {f0 : List Int} {f1 : Int} {f2 : Int} {a : Nat} {cs : Array Value} {t : TypeId} {fr : Nat × Nat} (h : IsS89 w0 W g f0 f1 f2) (hb2 : W.heap[a]? = some (.cells cs t fr)) (ht : t ≠ 89) : g ≠ a := by
 obtain ⟨A0, c0, hb, hg, hr0⟩ := h
 rintro rfl
 rw [hb] at hb2
 injection hb2 with hb2
 injection hb2 with _ ht2
 exact ht ht2.symm
theorem IsS89.far {w0 W : World} {g : Nat} {f0 : List Int} {f1 : Int} {f2 : Int} {p : Addr} (h : IsS89 w0 W g f0 f1 f2) (hne : g ≠ p.block) (u : Value) : IsS89 w0 (W.setCell p u) g f0 f1 f2 := by
 obtain ⟨A0, c0, hb, hg, hr0⟩ := h
 exact ⟨A0, c0, blk_far hb hne u, hg, hr0⟩
theorem cellS89_0 {W : World} {g : Nat} {A0 : Option Addr} {c0 : Nat} {f0 : List Int} {f1 : Int} {f2 : Int} (h : W.heap[g]? = some (.cells #[.slice A0 f0.length c0, .int .i64 f1, .int .i64 f2] 89 (0, 0))) : W.cell? ⟨g, 0, none⟩ = some (.slice A0 f0.length c0) := (blk_cell h 0).trans rfl
theorem cellS89_1 {W : World} {g : Nat} {A0 : Option Addr} {c0 : Nat} {f0 : List Int} {f1 : Int} {f2 : Int} (h : W.heap[g]? = some (.cells #[.slice A0 f0.length c0, .int .i64 f1, .int .i64 f2] 89 (0, 0))) : W.cell? ⟨g, 1, none⟩ = some (.int .i64 f1) := (blk_cell h 1).trans rfl
theorem IsS89.set_1 {w0 W : World} {g : Nat} {f0 : List Int} {f1 : Int} {f2 : Int} (h : IsS89 w0 W g f0 f1 f2) (x : Int) : IsS89 w0 (W.setCell ⟨g, 1, none⟩ (.int .i64 x)) g f0 x f2 := by
 obtain ⟨A0, c0, hb, hg, hr0⟩ := h
 exact ⟨A0, c0, by simpa using blk_set hb 1 (.int .i64 x), hg, hr0⟩
theorem cellS89_2 {W : World} {g : Nat} {A0 : Option Addr} {c0 : Nat} {f0 : List Int} {f1 : Int} {f2 : Int} (h : W.heap[g]? = some (.cells #[.slice A0 f0.length c0, .int .i64 f1, .int .i64 f2] 89 (0, 0))) : W.cell? ⟨g, 2, none⟩ = some (.int .i64 f2) := (blk_cell h 2).trans rfl
theorem IsS89.set_2 {w0 W : World} {g : Nat} {f0 : List Int} {f1 : Int} {f2 : Int} (h : IsS89 w0 W g f0 f1 f2) (x : Int) : IsS89 w0 (W.setCell ⟨g, 2, none⟩ (.int .i64 x)) g f0 f1 x := by
 obtain ⟨A0, c0, hb, hg, hr0⟩ := h
 exact ⟨A0, c0, by simpa using blk_set hb 2 (.int .i64 x), hg, hr0⟩
def spec_l1New.l0 : Nat → List Int → Int → Int → Option (List Int × Int × Int)
 | 0, _, _, _ => none
 | k + 1, x0, x3, x4 => if x4 < (x0.length : Int) then (if x4 < 4000 then (if 0 ≤ x4 then (spec_l1New.l0 k x0 (Go.bits .and .i64 (wrap64 ((wrap64 ((wrap64 (x3 * 137)) + (wrap64 (rd x0 x4)))) + 11)) 1073741823) (wrap64 (x4 + 1))) else (none)) else (some (x0, 0, x3))) else (some (x0, 0, x3))
def spec_l1New.f (k : Nat) (l0 : List Int) : Option (List Int × Int × Int) := spec_l1New.l0 k l0 (wrap64 (372372 + (l0.length : Int))) 0
set_option maxHeartbeats 8000000 in
set_option maxRecDepth 100000 in
theorem spec_l1New.calls (k : Nat) (A0 : Option Addr) (c0 : Nat) (l0 : List Int) (r1 : List Int) (r2 : Int) (r3 : Int) (w0 w : World) (hB : Below w0.heap.size w0 w) (hr0 : Kd.C (Kd.int .u8) w0 A0 l0.length l0) (hc0 : l0.length ≤ c0) (h : spec_l1New.f k l0 = some (r1, r2, r3)) :
  Calls Tryz.prog 28 #[.slice A0 l0.length c0] w fun e w' => ∃ g_ : Nat, e = .returned (.pointer (some ⟨g_, 0, none⟩)) ∧ IsS89 w0 w' g_ r1 r2 r3 ∧ Below w0.heap.size w0 w' ∧ Below w.heap.size w w' := by
 have hu89 := Tryz.underlying89
 have HR0 := zn hr0
 have HC0 := zn hc0
 clear hr0 hc0
 have HBW := zn (Below.refl w.heap.size w)
 have HW0 := zn hB.size
 have HB := zn hB
 clear hB
 have H := h
 unfold spec_l1New.f at H
 clear h
 have H' := zn H
 clear H
 go_enter Tryz.func28, Tryz.ntmps28
 go_wp2
 go_loopg [3, 4] k (fun kq v3 v4 w' => ∃ (x3_1 : Int) (x4_1 : Int), v3 = .int .i64 x3_1 ∧ v4 = .int .i64 x4_1 ∧ Aside0 (spec_l1New.l0 kq l0 x3_1 x4_1 = some (r1, r2, r3)) ∧ Aside0 (kq ≤ k) ∧ Aside0 (Below w0.heap.size w0 w') ∧ Aside0 (Below w.heap.size w w'))
 case atStart => exact ⟨(wrap64 (372372 + (l0.length : Int))), (0), z1n, z1n, H', ⟨Nat.le_refl _⟩, ⟨z1r⟩, ⟨z5k⟩⟩
 case round =>
  clear H'
  obtain ⟨x3_1, x4_1, rfl, rfl, HA, HK1, HB, HBW⟩ := hrel
  cases gk with
  | zero => exact absurd HA.out (by simp [spec_l1New.l0])
  | succ k1 =>
   have H := HA.out
   clear HA
   simp only [spec_l1New.l0] at H
   by_cases c2 : x4_1 < (l0.length : Int)
   ·rw [if_pos c2] at H
    have c2b0 := decide_eq_true c2
    clear c2
    by_cases c3 : x4_1 < 4000
    ·rw [if_pos c3] at H
     have c3b0 := decide_eq_true c3
     clear c3
     by_cases c4 : 0 ≤ x4_1
     ·rw [if_pos c4] at H
      have c4b0 := decide_eq_true c4
      clear c4
      have H' := zn H
      clear H
      have p600 : 0 ≤ (x4_1 : Int) := of_decide_eq_true z1p
      have q600 : x4_1 < (l0.length : Int) := of_decide_eq_true z1p
      obtain ⟨ad600, e600, hx600_0⟩ := Kd.at_int HR0.out x4_1 p600 q600
      cases e600
      replace hx600_0 := pw_cell_below HB.out hx600_0
      replace p600 := eq_true p600
      replace q600 := eq_true q600
      go_wp2
      go_roundg k1
      case measure => have := HK1.out; omega
      case rel => exact ⟨(Go.bits .and .i64 (wrap64 ((wrap64 ((wrap64 (x3_1 * 137)) + (wrap64 (rd l0 x4_1)))) + 11)) 1073741823), (wrap64 (x4_1 + 1)), z1n, z1n, H', ⟨z1q⟩, ⟨z1r⟩, ⟨z5k⟩⟩
     ·rw [if_neg c4] at H
      exact absurd H (by simp)
    ·rw [if_neg c3] at H
     have c3b0 := decide_eq_false c3
     clear c3
     simp only [Option.some.injEq, Prod.mk.injEq] at H
     obtain ⟨rfl, rfl, rfl⟩ := H
     go_wp2_with (first | ((with_reducible refine zr 31 rfl ?_); refine zt 89 #[.slice A0 l0.length c0, .int .i64 0, .int .i64 x3_1] ?_; intro gb601 hg w5 hbox hb; have n_ := z1h (below_step HBW.out hb) (below_step z1r hb) hbox (z8u : w.heap.size ≤ gb601) ((Nat.le_trans HW0.out (z8u : w.heap.size ≤ gb601) : w0.heap.size ≤ gb601)); clear HBW HB; obtain ⟨HBW, HB, BK601, GW601, GE601⟩ := n_; clear hb hbox hg))
     go_ret
     exact ⟨_, rfl, (show IsS89 w0 _ gb601 l0 0 x3_1 from ⟨_, _, by (repeat refine z1a ?_); exact BK601.out, GE601.out, HR0.out⟩), by repeat (first | (with_reducible first | exact HB.out | apply below_alloc | apply pw_below_drewN | apply below_drew1 | refine below_set ?_ GE601.out) | exact HB.out), by repeat (first | (with_reducible first | exact HBW.out | apply below_alloc | apply pw_below_drewN | apply below_drew1 | refine below_set ?_ GW601.out) | exact HBW.out)⟩
   ·rw [if_neg c2] at H
    have c2b0 := decide_eq_false c2
    clear c2
    simp only [Option.some.injEq, Prod.mk.injEq] at H
    obtain ⟨rfl, rfl, rfl⟩ := H
    go_wp2_with (first | ((with_reducible refine zr 31 rfl ?_); refine zt 89 #[.slice A0 l0.length c0, .int .i64 0, .int .i64 x3_1] ?_; intro gb602 hg w6 hbox hb; have n_ := z1h (below_step HBW.out hb) (below_step z1r hb) hbox (z8u : w.heap.size ≤ gb602) ((Nat.le_trans HW0.out (z8u : w.heap.size ≤ gb602) : w0.heap.size ≤ gb602)); clear HBW HB; obtain ⟨HBW, HB, BK602, GW602, GE602⟩ := n_; clear hb hbox hg))
    go_ret
    exact ⟨_, rfl, (show IsS89 w0 _ gb602 l0 0 x3_1 from ⟨_, _, by (repeat refine z1a ?_); exact BK602.out, GE602.out, HR0.out⟩), by repeat (first | (with_reducible first | exact HB.out | apply below_alloc | apply pw_below_drewN | apply below_drew1 | refine below_set ?_ GE602.out) | exact HB.out), by repeat (first | (with_reducible first | exact HBW.out | apply below_alloc | apply pw_below_drewN | apply below_drew1 | refine below_set ?_ GW602.out) | exact HBW.out)⟩
def spec_l1Byte.f (s0_0 : List Int) (s0_1 : Int) (s0_2 : Int) : Option (Int × Int × Int) := if s0_1 < (s0_0.length : Int) then (if 0 ≤ s0_1 then (some (Go.bits .and .i64 (wrap64 ((Go.bits .and .i64 (Go.bits .xor .i64 ((wrap64 ((wrap64 (s0_2 * 6364136223846793005)) + 1442695040888963407)) / 8589934592) ((wrap64 ((wrap64 (s0_2 * 6364136223846793005)) + 1442695040888963407)) / 140737488355328)) 255) + (wrap64 (rd s0_0 s0_1)))) 255, wrap64 (s0_1 + 1), wrap64 ((wrap64 (s0_2 * 6364136223846793005)) + 1442695040888963407))) else (none)) else (some (Go.bits .and .i64 (Go.bits .xor .i64 ((wrap64 ((wrap64 (s0_2 * 6364136223846793005)) + 1442695040888963407)) / 8589934592) ((wrap64 ((wrap64 (s0_2 * 6364136223846793005)) + 1442695040888963407)) / 140737488355328)) 255, s0_1, wrap64 ((wrap64 (s0_2 * 6364136223846793005)) + 1442695040888963407)))
set_option maxHeartbeats 8000000 in
set_option maxRecDepth 100000 in
theorem spec_l1Byte.calls (g : Nat) (s0_0 : List Int) (s0_1 : Int) (s0_2 : Int) (r1 : Int) (r2 : Int) (r3 : Int) (w0 w : World) (hI : IsS89 w0 w g s0_0 s0_1 s0_2) (hB : Below w0.heap.size w0 w) (h : spec_l1Byte.f s0_0 s0_1 s0_2 = some (r1, r2, r3)) :
  Calls Tryz.prog 83 #[.pointer (some ⟨g, 0, none⟩)] w fun e w' => e = .returned (.int .i64 r1) ∧ IsS89 w0 w' g s0_0 r2 r3 ∧ Below w0.heap.size w0 w' ∧ KeepBut w w' g none := by
 have HI0 := zn hI
 have HK := zn (KeepBut.refl w g none)
 have HL := zn hB.size
 clear hI
 have HW0 := zn hB.size
 have HB := zn hB
 clear hB
 have H := h
 unfold spec_l1Byte.f at H
 clear h
 by_cases c2 : s0_1 < (s0_0.length : Int)
 ·rw [if_pos c2] at H
  have c2b0 := decide_eq_true c2
  clear c2
  by_cases c3 : 0 ≤ s0_1
  ·rw [if_pos c3] at H
   have c3b0 := decide_eq_true c3
   clear c3
   simp only [Option.some.injEq, Prod.mk.injEq] at H
   obtain ⟨rfl, rfl, rfl⟩ := H
   obtain ⟨ASz4_0, cSz4_0, HGz4, hgz4, HSz4_0⟩ := HI0.out
   have hcz4_0 := cellS89_0 HGz4
   have hcz4_1 := cellS89_1 HGz4
   have hcz4_2 := cellS89_2 HGz4
   have hfz4_1 := blk_frozen HGz4 1
   have hfz4_2 := blk_frozen HGz4 2
   clear HGz4 hgz4
   have p603 : 0 ≤ (s0_1 : Int) := of_decide_eq_true z1p
   have q603 : s0_1 < (s0_0.length : Int) := of_decide_eq_true z1p
   obtain ⟨ad603, e603, hx603_0⟩ := Kd.at_int HSz4_0 s0_1 p603 q603
   cases e603
   have hn603_0 : ad603.block ≠ g := Nat.ne_of_lt (Nat.lt_of_lt_of_le (by have := World.block_lt_of_cell? _ _ hx603_0; first | rwa [add_block] at this | exact this) (IsS89.ge HI0.out))
   replace hx603_0 := pw_cell_below HB.out hx603_0
   replace hx603_0 := (cell_far (p := ⟨g, 2, none⟩) (by first | (rw [add_block]; exact hn603_0) | (show (Addr.add _ _).block ≠ _; rw [add_block]; exact hn603_0) | exact hn603_0) (.int .i64 (wrap64 ((wrap64 (s0_2 * 6364136223846793005)) + 1442695040888963407)))).trans hx603_0
   (try have hy603_0 := fun (n_ : Nat) => (show (((w.drewN n_).setCell ⟨g, 2, none⟩ (.int .i64 (wrap64 ((wrap64 (s0_2 * 6364136223846793005)) + 1442695040888963407))))).cell? _ = some _ from hx603_0))
   clear hn603_0
   replace p603 := eq_true p603
   replace q603 := eq_true q603
   go_enter Tryz.func83, Tryz.ntmps83
   go_wp2
   repeat (go_quiet (fail); try go_wp2)
   go_ret
   exact ⟨z1t, z5l, z5m, z5n⟩
  ·rw [if_neg c3] at H
   exact absurd H (by simp)
 ·rw [if_neg c2] at H
  have c2b0 := decide_eq_false c2
  clear c2
  simp only [Option.some.injEq, Prod.mk.injEq] at H
  obtain ⟨rfl, rfl, rfl⟩ := H
  obtain ⟨ASz5_0, cSz5_0, HGz5, hgz5, HSz5_0⟩ := HI0.out
  have hcz5_0 := cellS89_0 HGz5
  have hcz5_1 := cellS89_1 HGz5
  have hcz5_2 := cellS89_2 HGz5
  have hfz5_1 := blk_frozen HGz5 1
  have hfz5_2 := blk_frozen HGz5 2
  clear HGz5 hgz5
  go_enter Tryz.func83, Tryz.ntmps83
  go_wp2
  repeat (go_quiet (fail); try go_wp2)
  go_ret
  exact ⟨z1t, z5l, z5m, z5n⟩
def spec_l1Below.f (s0_0 : List Int) (s0_1 : Int) (s0_2 : Int) (a1 : Int) : Option (Int × Int × Int) := if a1 ≤ 0 then (some (0, s0_1, s0_2)) else (if a1 ≤ 256 then ((spec_l1Byte.f s0_0 s0_1 s0_2).bind fun bt604 => (if a1 = 0 then (none) else (some (Int.tmod bt604.1 a1, bt604.2.1, bt604.2.2)))) else ((spec_l1Byte.f s0_0 s0_1 s0_2).bind fun bt607 => ((spec_l1Byte.f s0_0 bt607.2.1 bt607.2.2).bind fun bt610 => ((spec_l1Byte.f s0_0 bt610.2.1 bt610.2.2).bind fun bt613 => (if a1 = 0 then (none) else (some (Int.tmod (wrap64 ((wrap64 ((wrap64 (bt607.1 * 65536)) + (wrap64 (bt610.1 * 256)))) + bt613.1)) a1, bt613.2.1, bt613.2.2)))))))
set_option maxHeartbeats 8000000 in
set_option maxRecDepth 100000 in
theorem spec_l1Below.calls (g : Nat) (s0_0 : List Int) (s0_1 : Int) (s0_2 : Int) (a1 : Int) (r1 : Int) (r2 : Int) (r3 : Int) (w0 w : World) (hI : IsS89 w0 w g s0_0 s0_1 s0_2) (hB : Below w0.heap.size w0 w) (h : spec_l1Below.f s0_0 s0_1 s0_2 a1 = some (r1, r2, r3)) :
  Calls Tryz.prog 50 #[.pointer (some ⟨g, 0, none⟩), .int .i64 a1] w fun e w' => e = .returned (.int .i64 r1) ∧ IsS89 w0 w' g s0_0 r2 r3 ∧ Below w0.heap.size w0 w' ∧ KeepBut w w' g none := by
 have HI0 := zn hI
 have HK := zn (KeepBut.refl w g none)
 have HL := zn hB.size
 clear hI
 have HW0 := zn hB.size
 have HB := zn hB
 clear hB
 have H := h
 unfold spec_l1Below.f at H
 clear h
 by_cases c3 : a1 ≤ 0
 ·rw [if_pos c3] at H
  have c3b0 := decide_eq_true c3
  clear c3
  simp only [Option.some.injEq, Prod.mk.injEq] at H
  obtain ⟨rfl, rfl, rfl⟩ := H
  go_enter Tryz.func50, Tryz.ntmps50
  go_wp2
  go_ret
  exact ⟨z1t, z5l, z5m, z5n⟩
 ·rw [if_neg c3] at H
  have c3b0 := decide_eq_false c3
  clear c3
  by_cases c4 : a1 ≤ 256
  ·rw [if_pos c4] at H
   have c4b0 := decide_eq_true c4
   clear c4
   obtain ⟨⟨t604, t605, t606⟩, A5, H⟩ := zm H
   try dsimp only at H
   by_cases c6 : a1 = 0
   ·rw [if_pos c6] at H
    exact absurd H (by simp)
   ·rw [if_neg c6] at H
    have c6b0 := beq_eq_false_iff_ne.mpr c6
    have c6b1 := bne_iff_ne.mpr c6
    simp only [Option.some.injEq, Prod.mk.injEq] at H
    obtain ⟨rfl, rfl, rfl⟩ := H
    go_enter Tryz.func50, Tryz.ntmps50
    go_wp2_with (first | ((with_reducible refine zi 83 rfl ?_); refine zj (some 13) Tryz.func83 #[.pointer (some ⟨g, 0, none⟩)] rfl ?_; (with_reducible refine (spec_l1Byte.calls g s0_0 s0_1 s0_2 t604 t605 t606 w0 _ ?side1 ?side2 A5.out).mono ?_); (case side1 => exact z5l); (case side2 => exact z5m); rintro e w7 ⟨rfl, hi, hb, hk⟩; refine ⟨_, rfl, ?_⟩; have n_ := z1c (KeepBut.trans z5n hk (.inl rfl)) hb hi; clear HK HB HI0; obtain ⟨HK, HB, HI0⟩ := n_; (try clear hb); (try clear hk); (try clear hi)))
    go_ret
    exact ⟨z1t, z5l, z5m, z5n⟩
  ·rw [if_neg c4] at H
   have c4b0 := decide_eq_false c4
   clear c4
   obtain ⟨⟨t607, t608, t609⟩, A8, H⟩ := zm H
   try dsimp only at H
   obtain ⟨⟨t610, t611, t612⟩, A9, H⟩ := zm H
   try dsimp only at H
   obtain ⟨⟨t613, t614, t615⟩, A10, H⟩ := zm H
   try dsimp only at H
   by_cases c11 : a1 = 0
   ·rw [if_pos c11] at H
    exact absurd H (by simp)
   ·rw [if_neg c11] at H
    have c11b0 := beq_eq_false_iff_ne.mpr c11
    have c11b1 := bne_iff_ne.mpr c11
    simp only [Option.some.injEq, Prod.mk.injEq] at H
    obtain ⟨rfl, rfl, rfl⟩ := H
    go_enter Tryz.func50, Tryz.ntmps50
    go_wp2_with (first | ((with_reducible refine zi 83 rfl ?_); refine zj (some 17) Tryz.func83 #[.pointer (some ⟨g, 0, none⟩)] rfl ?_; (with_reducible refine (spec_l1Byte.calls g s0_0 s0_1 s0_2 t607 t608 t609 w0 _ ?side1 ?side2 A8.out).mono ?_); (case side1 => exact z5l); (case side2 => exact z5m); rintro e w12 ⟨rfl, hi, hb, hk⟩; refine ⟨_, rfl, ?_⟩; have n_ := z1c (KeepBut.trans z5n hk (.inl rfl)) hb hi; clear HK HB HI0; obtain ⟨HK, HB, HI0⟩ := n_; (try clear hb); (try clear hk); (try clear hi)) | ((with_reducible refine zi 83 rfl ?_); refine zj (some 19) Tryz.func83 #[.pointer (some ⟨g, 0, none⟩)] rfl ?_; (with_reducible refine (spec_l1Byte.calls g s0_0 t608 t609 t610 t611 t612 w0 _ ?side1 ?side2 A9.out).mono ?_); (case side1 => exact z5l); (case side2 => exact z5m); rintro e w13 ⟨rfl, hi, hb, hk⟩; refine ⟨_, rfl, ?_⟩; have n_ := z1c (KeepBut.trans z5n hk (.inl rfl)) hb hi; clear HK HB HI0; obtain ⟨HK, HB, HI0⟩ := n_; (try clear hb); (try clear hk); (try clear hi)) | ((with_reducible refine zi 83 rfl ?_); refine zj (some 21) Tryz.func83 #[.pointer (some ⟨g, 0, none⟩)] rfl ?_; (with_reducible refine (spec_l1Byte.calls g s0_0 t611 t612 t613 t614 t615 w0 _ ?side1 ?side2 A10.out).mono ?_); (case side1 => exact z5l); (case side2 => exact z5m); rintro e w14 ⟨rfl, hi, hb, hk⟩; refine ⟨_, rfl, ?_⟩; have n_ := z1c (KeepBut.trans z5n hk (.inl rfl)) hb hi; clear HK HB HI0; obtain ⟨HK, HB, HI0⟩ := n_; (try clear hb); (try clear hk); (try clear hi)))
    go_ret
    exact ⟨z1t, z5l, z5m, z5n⟩
def spec_l1Int.f (s0_0 : List Int) (s0_1 : Int) (s0_2 : Int) (l1 : List Int) : Option (Int × Int × Int) := (spec_l1Below.f s0_0 s0_1 s0_2 (l1.length : Int)).bind fun bt629 => (if 0 ≤ bt629.1 then (if bt629.1 < (l1.length : Int) then (some (rd l1 bt629.1, bt629.2.1, bt629.2.2)) else (none)) else (none))
set_option maxHeartbeats 8000000 in
set_option maxRecDepth 100000 in
theorem spec_l1Int.calls (g : Nat) (s0_0 : List Int) (s0_1 : Int) (s0_2 : Int) (A1 : Option Addr) (c1 : Nat) (l1 : List Int) (r1 : Int) (r2 : Int) (r3 : Int) (w0 w : World) (hI : IsS89 w0 w g s0_0 s0_1 s0_2) (hB : Below w0.heap.size w0 w) (hr1 : Kd.C (Kd.int .i64) w A1 l1.length l1) (hc1 : l1.length ≤ c1) (hf1 : ∀ ad, A1 = some ad → 0 < l1.length → ad.block ≠ g) (h : spec_l1Int.f s0_0 s0_1 s0_2 l1 = some (r1, r2, r3)) :
  Calls Tryz.prog 51 #[.pointer (some ⟨g, 0, none⟩), .slice A1 l1.length c1] w fun e w' => e = .returned (.int .i64 r1) ∧ IsS89 w0 w' g s0_0 r2 r3 ∧ Below w0.heap.size w0 w' ∧ KeepBut w w' g none := by
 have HR1 := zn hr1
 have HC1 := zn hc1
 clear hr1 hc1
 have HI0 := zn hI
 have HK := zn (KeepBut.refl w g none)
 have HL := zn hB.size
 clear hI
 have HW0 := zn hB.size
 have HB := zn hB
 clear hB
 have H := h
 unfold spec_l1Int.f at H
 clear h
 obtain ⟨⟨t629, t630, t631⟩, A3, H⟩ := zm H
 try dsimp only at H
 by_cases c4 : 0 ≤ t629
 ·rw [if_pos c4] at H
  have c4b0 := decide_eq_true c4
  clear c4
  by_cases c5 : t629 < (l1.length : Int)
  ·rw [if_pos c5] at H
   have c5b0 := decide_eq_true c5
   clear c5
   simp only [Option.some.injEq, Prod.mk.injEq] at H
   obtain ⟨rfl, rfl, rfl⟩ := H
   go_enter Tryz.func51, Tryz.ntmps51
   go_wp2_with (first | ((with_reducible refine zi 50 rfl ?_); refine zj (some 9) Tryz.func50 #[.pointer (some ⟨g, 0, none⟩), .int .i64 (l1.length : Int)] rfl ?_; (with_reducible refine (spec_l1Below.calls g s0_0 s0_1 s0_2 (l1.length : Int) t629 t630 t631 w0 _ ?side1 ?side2 A3.out).mono ?_); (case side1 => exact z5l); (case side2 => exact z5m); rintro e w6 ⟨rfl, hi, hb, hk⟩; refine ⟨_, rfl, ?_⟩; have n_ := z1c (KeepBut.trans z5n hk (.inl rfl)) hb hi; clear HK HB HI0; obtain ⟨HK, HB, HI0⟩ := n_; (try clear hb); (try clear hk); (try clear hi); have p632 : 0 ≤ (t629 : Int) := of_decide_eq_true z1p; have q632 : t629 < (l1.length : Int) := of_decide_eq_true z1p; obtain ⟨ad632, e632, hx632_0⟩ := Kd.at_int HR1.out t629 p632 q632; cases e632; replace hx632_0 := keep_cell HK.out hx632_0 (by first | (rw [add_block]; exact hf1 _ rfl z1k) | exact hf1 _ rfl z1k | exact hf1 ad632 rfl z1k); replace p632 := eq_true p632; replace q632 := eq_true q632))
   go_ret
   exact ⟨z1t, z5l, z5m, z5n⟩
  ·rw [if_neg c5] at H
   exact absurd H (by simp)
 ·rw [if_neg c4] at H
  exact absurd H (by simp)
def spec_l1Once.f (s0_0 : List Int) (s0_1 : Int) (s0_2 : Int) (a1 : Int) : Option (Bool × Int × Int) := (spec_l1Below.f s0_0 s0_1 s0_2 a1).bind fun bt616 => (some ((bt616.1 == 0), bt616.2.1, bt616.2.2))
set_option maxHeartbeats 8000000 in
set_option maxRecDepth 100000 in
theorem spec_l1Once.calls (g : Nat) (s0_0 : List Int) (s0_1 : Int) (s0_2 : Int) (a1 : Int) (r1 : Bool) (r2 : Int) (r3 : Int) (w0 w : World) (hI : IsS89 w0 w g s0_0 s0_1 s0_2) (hB : Below w0.heap.size w0 w) (h : spec_l1Once.f s0_0 s0_1 s0_2 a1 = some (r1, r2, r3)) :
  Calls Tryz.prog 53 #[.pointer (some ⟨g, 0, none⟩), .int .i64 a1] w fun e w' => e = .returned (.bool r1) ∧ IsS89 w0 w' g s0_0 r2 r3 ∧ Below w0.heap.size w0 w' ∧ KeepBut w w' g none := by
 have HI0 := zn hI
 have HK := zn (KeepBut.refl w g none)
 have HL := zn hB.size
 clear hI
 have HW0 := zn hB.size
 have HB := zn hB
 clear hB
 have H := h
 unfold spec_l1Once.f at H
 clear h
 obtain ⟨⟨t616, t617, t618⟩, A3, H⟩ := zm H
 try dsimp only at H
 simp only [Option.some.injEq, Prod.mk.injEq] at H
 obtain ⟨rfl, rfl, rfl⟩ := H
 go_enter Tryz.func53, Tryz.ntmps53
 go_wp2_with (first | ((with_reducible refine zi 50 rfl ?_); refine zj (some 7) Tryz.func50 #[.pointer (some ⟨g, 0, none⟩), .int .i64 a1] rfl ?_; (with_reducible refine (spec_l1Below.calls g s0_0 s0_1 s0_2 a1 t616 t617 t618 w0 _ ?side1 ?side2 A3.out).mono ?_); (case side1 => exact z5l); (case side2 => exact z5m); rintro e w4 ⟨rfl, hi, hb, hk⟩; refine ⟨_, rfl, ?_⟩; have n_ := z1c (KeepBut.trans z5n hk (.inl rfl)) hb hi; clear HK HB HI0; obtain ⟨HK, HB, HI0⟩ := n_; (try clear hb); (try clear hk); (try clear hi)))
 go_ret
 exact ⟨z1t, z5l, z5m, z5n⟩
def spec_l1Str.f (s0_0 : List Int) (s0_1 : Int) (s0_2 : Int) (l1 : List ByteArray) : Option (ByteArray × Int × Int) := (spec_l1Below.f s0_0 s0_1 s0_2 (l1.length : Int)).bind fun bt619 => (if 0 ≤ bt619.1 then (if bt619.1 < (l1.length : Int) then (some (rdOf ByteArray.empty l1 bt619.1, bt619.2.1, bt619.2.2)) else (none)) else (none))
set_option maxHeartbeats 8000000 in
set_option maxRecDepth 100000 in
theorem spec_l1Str.calls (g : Nat) (s0_0 : List Int) (s0_1 : Int) (s0_2 : Int) (A1 : Option Addr) (c1 : Nat) (l1 : List ByteArray) (r1 : ByteArray) (r2 : Int) (r3 : Int) (w0 w : World) (hI : IsS89 w0 w g s0_0 s0_1 s0_2) (hB : Below w0.heap.size w0 w) (hr1 : Kd.C Kd.string w A1 l1.length l1) (hc1 : l1.length ≤ c1) (hf1 : ∀ ad, A1 = some ad → 0 < l1.length → ad.block ≠ g) (h : spec_l1Str.f s0_0 s0_1 s0_2 l1 = some (r1, r2, r3)) :
  Calls Tryz.prog 54 #[.pointer (some ⟨g, 0, none⟩), .slice A1 l1.length c1] w fun e w' => e = .returned (.string r1) ∧ IsS89 w0 w' g s0_0 r2 r3 ∧ Below w0.heap.size w0 w' ∧ KeepBut w w' g none := by
 have HR1 := zn hr1
 have HC1 := zn hc1
 clear hr1 hc1
 have HI0 := zn hI
 have HK := zn (KeepBut.refl w g none)
 have HL := zn hB.size
 clear hI
 have HW0 := zn hB.size
 have HB := zn hB
 clear hB
 have H := h
 unfold spec_l1Str.f at H
 clear h
 obtain ⟨⟨t619, t620, t621⟩, A3, H⟩ := zm H
 try dsimp only at H
 by_cases c4 : 0 ≤ t619
 ·rw [if_pos c4] at H
  have c4b0 := decide_eq_true c4
  clear c4
  by_cases c5 : t619 < (l1.length : Int)
  ·rw [if_pos c5] at H
   have c5b0 := decide_eq_true c5
   clear c5
   simp only [Option.some.injEq, Prod.mk.injEq] at H
   obtain ⟨rfl, rfl, rfl⟩ := H
   go_enter Tryz.func54, Tryz.ntmps54
   go_wp2_with (first | ((with_reducible refine zi 50 rfl ?_); refine zj (some 9) Tryz.func50 #[.pointer (some ⟨g, 0, none⟩), .int .i64 (l1.length : Int)] rfl ?_; (with_reducible refine (spec_l1Below.calls g s0_0 s0_1 s0_2 (l1.length : Int) t619 t620 t621 w0 _ ?side1 ?side2 A3.out).mono ?_); (case side1 => exact z5l); (case side2 => exact z5m); rintro e w6 ⟨rfl, hi, hb, hk⟩; refine ⟨_, rfl, ?_⟩; have n_ := z1c (KeepBut.trans z5n hk (.inl rfl)) hb hi; clear HK HB HI0; obtain ⟨HK, HB, HI0⟩ := n_; (try clear hb); (try clear hk); (try clear hi); have p622 : 0 ≤ (t619 : Int) := of_decide_eq_true z1p; have q622 : t619 < (l1.length : Int) := of_decide_eq_true z1p; obtain ⟨ad622, e622, hx622_0⟩ := Kd.at_string HR1.out t619 p622 q622; cases e622; replace hx622_0 := keep_cell HK.out hx622_0 (by first | (rw [add_block]; exact hf1 _ rfl z1k) | exact hf1 _ rfl z1k | exact hf1 ad622 rfl z1k); replace p622 := eq_true p622; replace q622 := eq_true q622))
   go_ret
   exact ⟨z1t, z5l, z5m, z5n⟩
  ·rw [if_neg c5] at H
   exact absurd H (by simp)
 ·rw [if_neg c4] at H
  exact absurd H (by simp)
def spec_l4Path.f (s0_0 : List Int) (s0_1 : Int) (s0_2 : Int) : Option (ByteArray × Int × Int) := (spec_l1Str.f s0_0 s0_1 s0_2 (([(⟨#[97, 46, 111, 114, 103, 47, 120]⟩ : ByteArray), (⟨#[97, 46, 111, 114, 103, 47, 121]⟩ : ByteArray), (⟨#[98, 46, 105, 111, 47, 122]⟩ : ByteArray), (⟨#[98, 46, 105, 111, 47, 122, 47, 118, 50]⟩ : ByteArray), (⟨#[99]⟩ : ByteArray), (⟨#[97, 46, 111, 114, 103, 47, 119]⟩ : ByteArray)] : List ByteArray))).bind fun bt626 => (some (bt626.1, bt626.2.1, bt626.2.2))
set_option maxHeartbeats 8000000 in
set_option maxRecDepth 100000 in
theorem spec_l4Path.calls (g : Nat) (s0_0 : List Int) (s0_1 : Int) (s0_2 : Int) (r1 : ByteArray) (r2 : Int) (r3 : Int) (w0 w : World) (hI : IsS89 w0 w g s0_0 s0_1 s0_2) (hB : Below w0.heap.size w0 w) (h : spec_l4Path.f s0_0 s0_1 s0_2 = some (r1, r2, r3)) :
  Calls Tryz.prog 84 #[.pointer (some ⟨g, 0, none⟩)] w fun e w' => e = .returned (.string r1) ∧ IsS89 w0 w' g s0_0 r2 r3 ∧ Below w0.heap.size w0 w' ∧ KeepBut w w' g none := by
 have HI0 := zn hI
 have HK := zn (KeepBut.refl w g none)
 have HL := zn hB.size
 clear hI
 have HW0 := zn hB.size
 have HB := zn hB
 clear hB
 have H := h
 unfold spec_l4Path.f at H
 clear h
 obtain ⟨y623, hy623⟩ : ∃ y_ : List ByteArray, y_ = (([(⟨#[97, 46, 111, 114, 103, 47, 120]⟩ : ByteArray), (⟨#[97, 46, 111, 114, 103, 47, 121]⟩ : ByteArray), (⟨#[98, 46, 105, 111, 47, 122]⟩ : ByteArray), (⟨#[98, 46, 105, 111, 47, 122, 47, 118, 50]⟩ : ByteArray), (⟨#[99]⟩ : ByteArray), (⟨#[97, 46, 111, 114, 103, 47, 119]⟩ : ByteArray)] : List ByteArray)) := ⟨_, rfl⟩
 replace H : ((spec_l1Str.f s0_0 s0_1 s0_2 y623).bind fun bt626 => (some (bt626.1, bt626.2.1, bt626.2.2))) = some (r1, r2, r3) := by first | (rw [hy623]; with_reducible exact H) | (have H2_ := (Option.bind_some _ _).symm.trans H; rw [hy623]; with_reducible exact H2_) | (have H2_ := (Option.bind_some _ _).symm.trans H; with_reducible exact H2_) | with_reducible exact H | (rw [hy623]; exact H) | exact H
 have Ny623 := zn hy623
 clear hy623
 obtain ⟨⟨t626, t627, t628⟩, A2, H⟩ := zm H
 try dsimp only at H
 simp only [Option.some.injEq, Prod.mk.injEq] at H
 obtain ⟨rfl, rfl, rfl⟩ := H
 go_enter Tryz.func84, Tryz.ntmps84
 go_wp2_with (first | ((with_reducible refine zr 4 rfl ?_); refine Kd.R_lit Kd.string _ 9 ?hg (N := 4) ?hd (xs := ([(⟨#[97, 46, 111, 114, 103, 47, 120]⟩ : ByteArray), (⟨#[97, 46, 111, 114, 103, 47, 121]⟩ : ByteArray), (⟨#[98, 46, 105, 111, 47, 122]⟩ : ByteArray), (⟨#[98, 46, 105, 111, 47, 122, 47, 118, 50]⟩ : ByteArray), (⟨#[99]⟩ : ByteArray), (⟨#[97, 46, 111, 114, 103, 47, 119]⟩ : ByteArray)] : List ByteArray)) (inner := [.string ⟨#[97, 46, 111, 114, 103, 47, 120]⟩, .string ⟨#[97, 46, 111, 114, 103, 47, 121]⟩, .string ⟨#[98, 46, 105, 111, 47, 122]⟩, .string ⟨#[98, 46, 105, 111, 47, 122, 47, 118, 50]⟩, .string ⟨#[99]⟩, .string ⟨#[97, 46, 111, 114, 103, 47, 119]⟩]) (ok := fun _ => True) (okp := fun _ => True) ?hr ?hp (fun _ hk => hk) trivial (Below.refl _ _) (Nat.le_refl _) (by simp) ?_; (case hd => exact z2b); (case hg => exact z2b); (case hr => exact z3t); (case hp => exact (Reps.one (show Kd.M Kd.string _ _ _ (⟨#[97, 46, 111, 114, 103, 47, 120]⟩ : ByteArray) [.string ⟨#[97, 46, 111, 114, 103, 47, 120]⟩] from rfl) (Reps.one (show Kd.M Kd.string _ _ _ (⟨#[97, 46, 111, 114, 103, 47, 121]⟩ : ByteArray) [.string ⟨#[97, 46, 111, 114, 103, 47, 121]⟩] from rfl) (Reps.one (show Kd.M Kd.string _ _ _ (⟨#[98, 46, 105, 111, 47, 122]⟩ : ByteArray) [.string ⟨#[98, 46, 105, 111, 47, 122]⟩] from rfl) (Reps.one (show Kd.M Kd.string _ _ _ (⟨#[98, 46, 105, 111, 47, 122, 47, 118, 50]⟩ : ByteArray) [.string ⟨#[98, 46, 105, 111, 47, 122, 47, 118, 50]⟩] from rfl) (Reps.one (show Kd.M Kd.string _ _ _ (⟨#[99]⟩ : ByteArray) [.string ⟨#[99]⟩] from rfl) (Reps.one (show Kd.M Kd.string _ _ _ (⟨#[97, 46, 111, 114, 103, 47, 119]⟩ : ByteArray) [.string ⟨#[97, 46, 111, 114, 103, 47, 119]⟩] from rfl) (Reps.none _ _)))))))); intro v624 w3 ho4 hb hg_ hnew_; clear hg_ hnew_; (first | rw [← Ny623.out] at ho4 | (simp only [Int.reduceToNat] at ho4; rw [← Ny623.out] at ho4)); have n_ := zv (Kd.R_lower ho4 (keep_size (w := w) (g := g) (row := none) z5n)) (IsS89.below z5l hb) (KeepBut.trans z5n (KeepBut.of_below hb g none) (.inl rfl)) (below_step z5m hb); clear HI0 HK HB; obtain ⟨HO625, HI0, HK, HB⟩ := n_; clear hb ho4; obtain ⟨Ao5, co5, eo5⟩ := Kd.R_slice HO625.out; subst eo5) | ((with_reducible refine zi 54 rfl ?_); refine zj (some 5) Tryz.func54 #[.pointer (some ⟨g, 0, none⟩), .slice Ao5 y623.length co5] rfl ?_; (with_reducible refine (spec_l1Str.calls g s0_0 s0_1 s0_2 _ _ y623 t626 t627 t628 w0 _ ?side1 ?side2 ?side3 ?side4 ?side5 A2.out).mono ?_); (case side1 => exact z5l); (case side2 => exact z5m); (case side3 => repeat (first | exact (Kd.R_reads' HO625.out).2.2 | (with_reducible refine Kd.C_alloc ?_ _) | (with_reducible refine Kd.C_drewN ?_ _) | (with_reducible refine Kd.C_drew ?_))); (case side4 => exact (Kd.R_reads' HO625.out).2.1); (case side5 => exact far_slice (IsS89.own_ne HI0.out HO625.out z1l)); rintro e w6 ⟨rfl, hi, hb, hk⟩; refine ⟨_, rfl, ?_⟩; have n_ := zv (Kd.R_mono (Kd.R_keep (IsS89.apart (show IsS89 w0 _ g s0_0 s0_1 s0_2 from by repeat (first | (with_reducible first | exact HI0.out | apply IsS89.alloc | apply IsS89.drewN | apply IsS89.drew | apply IsS89.set_1 | apply IsS89.set_2) | exact HI0.out)) (by (with_reducible repeat (first | apply Kd.R_alloc | apply Kd.R_drewN | apply Kd.R_drew)); exact HO625.out) z1l) hk (fun _ h => h.2)) (fun _ h => h.1)) (KeepBut.trans z5n hk (.inl rfl)) hb hi; clear HO625 HK HB HI0; obtain ⟨HO625, HK, HB, HI0⟩ := n_; (try clear hb); (try clear hk); (try clear hi)))
 go_ret
 exact ⟨z1t, z5l, z5m, z5n⟩
def spec_l3Draw.f (s0_0 : List Int) (s0_1 : Int) (s0_2 : Int) : Option (Int × Int × Int × ByteArray × Int × Int) := (spec_l1Int.f s0_0 s0_1 s0_2 (([1, 0, 1, 2] : List Int))).bind fun bt637 => ((spec_l1Below.f s0_0 bt637.2.1 bt637.2.2 4).bind fun bt640 => ((spec_l1Below.f s0_0 bt640.2.1 bt640.2.2 3).bind fun bt643 => ((spec_l1Str.f s0_0 bt643.2.1 bt643.2.2 (([(⟨#[]⟩ : ByteArray), (⟨#[]⟩ : ByteArray), (⟨#[]⟩ : ByteArray), (⟨#[114, 99, 46, 49]⟩ : ByteArray), (⟨#[97, 108, 112, 104, 97]⟩ : ByteArray), (⟨#[114, 99, 46, 50]⟩ : ByteArray), (⟨#[49]⟩ : ByteArray), (⟨#[50, 46, 120]⟩ : ByteArray), (⟨#[98, 101, 116, 97, 45, 49]⟩ : ByteArray), (⟨#[114, 99]⟩ : ByteArray)] : List ByteArray))).bind fun bt649 => (some (bt637.1, bt640.1, bt643.1, bt649.1, bt649.2.1, bt649.2.2)))))
set_option maxHeartbeats 8000000 in
set_option maxRecDepth 100000 in
theorem spec_l3Draw.calls (g : Nat) (s0_0 : List Int) (s0_1 : Int) (s0_2 : Int) (r1 : Int) (r2 : Int) (r3 : Int) (r4 : ByteArray) (r5 : Int) (r6 : Int) (w0 w : World) (hI : IsS89 w0 w g s0_0 s0_1 s0_2) (hB : Below w0.heap.size w0 w) (h : spec_l3Draw.f s0_0 s0_1 s0_2 = some (r1, r2, r3, r4, r5, r6)) :
  Calls Tryz.prog 85 #[.pointer (some ⟨g, 0, none⟩)] w fun e w' => e = .returned (.agg #[.int .i64 r1, .int .i64 r2, .int .i64 r3, .string r4]) ∧ IsS89 w0 w' g s0_0 r5 r6 ∧ Below w0.heap.size w0 w' ∧ KeepBut w w' g none := by
 have hu25 := Tryz.underlying25
 have HI0 := zn hI
 have HK := zn (KeepBut.refl w g none)
 have HL := zn hB.size
 clear hI
 have HW0 := zn hB.size
 have HB := zn hB
 clear hB
 have H := h
 unfold spec_l3Draw.f at H
 clear h
 obtain ⟨y634, hy634⟩ : ∃ y_ : List Int, y_ = (([1, 0, 1, 2] : List Int)) := ⟨_, rfl⟩
 replace H : ((spec_l1Int.f s0_0 s0_1 s0_2 y634).bind fun bt637 => ((spec_l1Below.f s0_0 bt637.2.1 bt637.2.2 4).bind fun bt640 => ((spec_l1Below.f s0_0 bt640.2.1 bt640.2.2 3).bind fun bt643 => ((spec_l1Str.f s0_0 bt643.2.1 bt643.2.2 (([(⟨#[]⟩ : ByteArray), (⟨#[]⟩ : ByteArray), (⟨#[]⟩ : ByteArray), (⟨#[114, 99, 46, 49]⟩ : ByteArray), (⟨#[97, 108, 112, 104, 97]⟩ : ByteArray), (⟨#[114, 99, 46, 50]⟩ : ByteArray), (⟨#[49]⟩ : ByteArray), (⟨#[50, 46, 120]⟩ : ByteArray), (⟨#[98, 101, 116, 97, 45, 49]⟩ : ByteArray), (⟨#[114, 99]⟩ : ByteArray)] : List ByteArray))).bind fun bt649 => (some (bt637.1, bt640.1, bt643.1, bt649.1, bt649.2.1, bt649.2.2)))))) = some (r1, r2, r3, r4, r5, r6) := by first | (rw [hy634]; with_reducible exact H) | (have H2_ := (Option.bind_some _ _).symm.trans H; rw [hy634]; with_reducible exact H2_) | (have H2_ := (Option.bind_some _ _).symm.trans H; with_reducible exact H2_) | with_reducible exact H | (rw [hy634]; exact H) | exact H
 have Ny634 := zn hy634
 clear hy634
 obtain ⟨⟨t637, t638, t639⟩, A2, H⟩ := zm H
 try dsimp only at H
 obtain ⟨⟨t640, t641, t642⟩, A3, H⟩ := zm H
 try dsimp only at H
 obtain ⟨⟨t643, t644, t645⟩, A4, H⟩ := zm H
 try dsimp only at H
 obtain ⟨y646, hy646⟩ : ∃ y_ : List ByteArray, y_ = (([(⟨#[]⟩ : ByteArray), (⟨#[]⟩ : ByteArray), (⟨#[]⟩ : ByteArray), (⟨#[114, 99, 46, 49]⟩ : ByteArray), (⟨#[97, 108, 112, 104, 97]⟩ : ByteArray), (⟨#[114, 99, 46, 50]⟩ : ByteArray), (⟨#[49]⟩ : ByteArray), (⟨#[50, 46, 120]⟩ : ByteArray), (⟨#[98, 101, 116, 97, 45, 49]⟩ : ByteArray), (⟨#[114, 99]⟩ : ByteArray)] : List ByteArray)) := ⟨_, rfl⟩
 replace H : ((spec_l1Str.f s0_0 t644 t645 y646).bind fun bt649 => (some (t637, t640, t643, bt649.1, bt649.2.1, bt649.2.2))) = some (r1, r2, r3, r4, r5, r6) := by first | (rw [hy646]; with_reducible exact H) | (have H2_ := (Option.bind_some _ _).symm.trans H; rw [hy646]; with_reducible exact H2_) | (have H2_ := (Option.bind_some _ _).symm.trans H; with_reducible exact H2_) | with_reducible exact H | (rw [hy646]; exact H) | exact H
 have Ny646 := zn hy646
 clear hy646
 obtain ⟨⟨t649, t650, t651⟩, A5, H⟩ := zm H
 try dsimp only at H
 simp only [Option.some.injEq, Prod.mk.injEq] at H
 obtain ⟨rfl, rfl, rfl, rfl, rfl, rfl⟩ := H
 go_enter Tryz.func85, Tryz.ntmps85
 go_wp2_with (first | ((with_reducible refine zr 2 rfl ?_); refine zt 25 #[.int .i64 0, .int .i64 0, .int .i64 0, .string ⟨#[]⟩] ?_; intro gb633 hg w6 hbox hb; have n_ := z1e (IsS89.below z5l hb) (KeepBut.trans z5n (KeepBut.of_below hb g none) (.inl rfl)) (below_step z5m hb) hbox (z8v : w.heap.size ≤ gb633) ((Nat.le_trans HW0.out (z8v : w.heap.size ≤ gb633) : w0.heap.size ≤ gb633)) (z5o : g ≠ gb633) (z5p : gb633 ≠ g); clear HI0 HK HB; obtain ⟨HI0, HK, HB, BK633, GW633, GE633, NB0_633, NB633_0⟩ := n_; clear hb hbox hg) | ((with_reducible refine zr 4 rfl ?_); refine Kd.R_lit (Kd.int .i64) _ 3 ?hg (N := 4) ?hd (xs := ([1, 0, 1, 2] : List Int)) (inner := [.int .i64 1, .int .i64 0, .int .i64 1, .int .i64 2]) (ok := fun _ => True) (okp := fun _ => True) ?hr ?hp (fun _ hk => hk) trivial (Below.refl _ _) (Nat.le_refl _) (by simp) ?_; (case hd => exact z2b); (case hg => exact z2b); (case hr => exact z3t); (case hp => exact (Reps.one (show Kd.M (Kd.int .i64) _ _ _ 1 [.int .i64 1] from rfl) (Reps.one (show Kd.M (Kd.int .i64) _ _ _ 0 [.int .i64 0] from rfl) (Reps.one (show Kd.M (Kd.int .i64) _ _ _ 1 [.int .i64 1] from rfl) (Reps.one (show Kd.M (Kd.int .i64) _ _ _ 2 [.int .i64 2] from rfl) (Reps.none _ _)))))); intro v635 w7 ho8 hb hg_ hnew_; clear hg_ hnew_; (first | rw [← Ny634.out] at ho8 | (simp only [Int.reduceToNat] at ho8; rw [← Ny634.out] at ho8)); have n_ := z1h (Kd.R_lower ho8 (keep_size (w := w) (g := g) (row := none) z5q)) (IsS89.below z5r hb) (blk_below (zu BK633.out) hb) (KeepBut.trans z5q (KeepBut.of_below hb g none) (.inl rfl)) (below_step z5s hb); clear HI0 BK633 HK HB; obtain ⟨HO636, HI0, BK633, HK, HB⟩ := n_; clear hb ho8; obtain ⟨Ao9, co9, eo9⟩ := Kd.R_slice HO636.out; subst eo9) | ((with_reducible refine zi 51 rfl ?_); refine zj (some 5) Tryz.func51 #[.pointer (some ⟨g, 0, none⟩), .slice Ao9 y634.length co9] rfl ?_; (with_reducible refine (spec_l1Int.calls g s0_0 s0_1 s0_2 _ _ y634 t637 t638 t639 w0 _ ?side1 ?side2 ?side3 ?side4 ?side5 A2.out).mono ?_); (case side1 => exact z5r); (case side2 => exact z5s); (case side3 => repeat (first | exact (Kd.R_reads' HO636.out).2.2 | (with_reducible refine Kd.C_alloc ?_ _) | (with_reducible refine Kd.C_drewN ?_ _) | (with_reducible refine Kd.C_drew ?_))); (case side4 => exact (Kd.R_reads' HO636.out).2.1); (case side5 => exact far_slice (IsS89.own_ne HI0.out HO636.out z1l)); rintro e w10 ⟨rfl, hi, hb, hk⟩; refine ⟨_, rfl, ?_⟩; have n_ := z1h (KeepBut.blk hk (zu BK633.out) NB633_0.out (by simp)) (Kd.R_mono (Kd.R_keep (IsS89.apart (show IsS89 w0 _ g s0_0 s0_1 s0_2 from by repeat (first | (with_reducible first | exact HI0.out | apply IsS89.alloc | apply IsS89.drewN | apply IsS89.drew | apply IsS89.set_1 | apply IsS89.set_2 | refine IsS89.far ?_ NB0_633.out _) | exact HI0.out)) z5t z1l) hk (fun _ h => h.2)) (fun _ h => h.1)) (KeepBut.trans z5q hk (.inl rfl)) hb hi; clear BK633 HO636 HK HB HI0; obtain ⟨BK633, HO636, HK, HB, HI0⟩ := n_; (try clear hb); (try clear hk); (try clear hi)) | ((with_reducible refine zi 50 rfl ?_); refine zj (some 7) Tryz.func50 #[.pointer (some ⟨g, 0, none⟩), .int .i64 4] rfl ?_; (with_reducible refine (spec_l1Below.calls g s0_0 t638 t639 4 t640 t641 t642 w0 _ ?side1 ?side2 A3.out).mono ?_); (case side1 => exact z5r); (case side2 => exact z5s); rintro e w11 ⟨rfl, hi, hb, hk⟩; refine ⟨_, rfl, ?_⟩; have n_ := z1h (KeepBut.blk hk (zu BK633.out) NB633_0.out (by simp)) (Kd.R_mono (Kd.R_keep (IsS89.apart (show IsS89 w0 _ g s0_0 t638 t639 from by repeat (first | (with_reducible first | exact HI0.out | apply IsS89.alloc | apply IsS89.drewN | apply IsS89.drew | apply IsS89.set_1 | apply IsS89.set_2 | refine IsS89.far ?_ NB0_633.out _) | exact HI0.out)) z5t z1l) hk (fun _ h => h.2)) (fun _ h => h.1)) (KeepBut.trans z5q hk (.inl rfl)) hb hi; clear BK633 HO636 HK HB HI0; obtain ⟨BK633, HO636, HK, HB, HI0⟩ := n_; (try clear hb); (try clear hk); (try clear hi)) | ((with_reducible refine zi 50 rfl ?_); refine zj (some 9) Tryz.func50 #[.pointer (some ⟨g, 0, none⟩), .int .i64 3] rfl ?_; (with_reducible refine (spec_l1Below.calls g s0_0 t641 t642 3 t643 t644 t645 w0 _ ?side1 ?side2 A4.out).mono ?_); (case side1 => exact z5r); (case side2 => exact z5s); rintro e w12 ⟨rfl, hi, hb, hk⟩; refine ⟨_, rfl, ?_⟩; have n_ := z1h (KeepBut.blk hk (zu BK633.out) NB633_0.out (by simp)) (Kd.R_mono (Kd.R_keep (IsS89.apart (show IsS89 w0 _ g s0_0 t641 t642 from by repeat (first | (with_reducible first | exact HI0.out | apply IsS89.alloc | apply IsS89.drewN | apply IsS89.drew | apply IsS89.set_1 | apply IsS89.set_2 | refine IsS89.far ?_ NB0_633.out _) | exact HI0.out)) z5t z1l) hk (fun _ h => h.2)) (fun _ h => h.1)) (KeepBut.trans z5q hk (.inl rfl)) hb hi; clear BK633 HO636 HK HB HI0; obtain ⟨BK633, HO636, HK, HB, HI0⟩ := n_; (try clear hb); (try clear hk); (try clear hi)) | ((with_reducible refine zr 11 rfl ?_); refine Kd.R_lit Kd.string _ 9 ?hg (N := 11) ?hd (xs := ([(⟨#[]⟩ : ByteArray), (⟨#[]⟩ : ByteArray), (⟨#[]⟩ : ByteArray), (⟨#[114, 99, 46, 49]⟩ : ByteArray), (⟨#[97, 108, 112, 104, 97]⟩ : ByteArray), (⟨#[114, 99, 46, 50]⟩ : ByteArray), (⟨#[49]⟩ : ByteArray), (⟨#[50, 46, 120]⟩ : ByteArray), (⟨#[98, 101, 116, 97, 45, 49]⟩ : ByteArray), (⟨#[114, 99]⟩ : ByteArray)] : List ByteArray)) (inner := [.string ⟨#[]⟩, .string ⟨#[]⟩, .string ⟨#[]⟩, .string ⟨#[114, 99, 46, 49]⟩, .string ⟨#[97, 108, 112, 104, 97]⟩, .string ⟨#[114, 99, 46, 50]⟩, .string ⟨#[49]⟩, .string ⟨#[50, 46, 120]⟩, .string ⟨#[98, 101, 116, 97, 45, 49]⟩, .string ⟨#[114, 99]⟩]) (ok := fun _ => True) (okp := fun _ => True) ?hr ?hp (fun _ hk => hk) trivial (Below.refl _ _) (Nat.le_refl _) (by simp) ?_; (case hd => exact z2b); (case hg => exact z2b); (case hr => exact z3t); (case hp => exact (Reps.one (show Kd.M Kd.string _ _ _ (⟨#[]⟩ : ByteArray) [.string ⟨#[]⟩] from rfl) (Reps.one (show Kd.M Kd.string _ _ _ (⟨#[]⟩ : ByteArray) [.string ⟨#[]⟩] from rfl) (Reps.one (show Kd.M Kd.string _ _ _ (⟨#[]⟩ : ByteArray) [.string ⟨#[]⟩] from rfl) (Reps.one (show Kd.M Kd.string _ _ _ (⟨#[114, 99, 46, 49]⟩ : ByteArray) [.string ⟨#[114, 99, 46, 49]⟩] from rfl) (Reps.one (show Kd.M Kd.string _ _ _ (⟨#[97, 108, 112, 104, 97]⟩ : ByteArray) [.string ⟨#[97, 108, 112, 104, 97]⟩] from rfl) (Reps.one (show Kd.M Kd.string _ _ _ (⟨#[114, 99, 46, 50]⟩ : ByteArray) [.string ⟨#[114, 99, 46, 50]⟩] from rfl) (Reps.one (show Kd.M Kd.string _ _ _ (⟨#[49]⟩ : ByteArray) [.string ⟨#[49]⟩] from rfl) (Reps.one (show Kd.M Kd.string _ _ _ (⟨#[50, 46, 120]⟩ : ByteArray) [.string ⟨#[50, 46, 120]⟩] from rfl) (Reps.one (show Kd.M Kd.string _ _ _ (⟨#[98, 101, 116, 97, 45, 49]⟩ : ByteArray) [.string ⟨#[98, 101, 116, 97, 45, 49]⟩] from rfl) (Reps.one (show Kd.M Kd.string _ _ _ (⟨#[114, 99]⟩ : ByteArray) [.string ⟨#[114, 99]⟩] from rfl) (Reps.none _ _)))))))))))); intro v647 w13 ho14 hb hg_ hnew_; clear hg_ hnew_; (first | rw [← Ny646.out] at ho14 | (simp only [Int.reduceToNat] at ho14; rw [← Ny646.out] at ho14)); have n_ := z1i (Kd.R_below z5t hb) (Kd.R_lower ho14 (keep_size (w := w) (g := g) (row := none) z5q)) (IsS89.below z5r hb) (blk_below (zu BK633.out) hb) (KeepBut.trans z5q (KeepBut.of_below hb g none) (.inl rfl)) (below_step z5s hb); clear HO636 HI0 BK633 HK HB; obtain ⟨HO636, HO648, HI0, BK633, HK, HB⟩ := n_; clear hb ho14; obtain ⟨Ao15, co15, eo15⟩ := Kd.R_slice HO648.out; subst eo15) | ((with_reducible refine zi 54 rfl ?_); refine zj (some 12) Tryz.func54 #[.pointer (some ⟨g, 0, none⟩), .slice Ao15 y646.length co15] rfl ?_; (with_reducible refine (spec_l1Str.calls g s0_0 t644 t645 _ _ y646 t649 t650 t651 w0 _ ?side1 ?side2 ?side3 ?side4 ?side5 A5.out).mono ?_); (case side1 => exact z5r); (case side2 => exact z5s); (case side3 => repeat (first | exact (Kd.R_reads' HO648.out).2.2 | (with_reducible refine Kd.C_alloc ?_ _) | (with_reducible refine Kd.C_drewN ?_ _) | (with_reducible refine Kd.C_drew ?_))); (case side4 => exact (Kd.R_reads' HO648.out).2.1); (case side5 => exact far_slice (IsS89.own_ne HI0.out HO648.out z1l)); rintro e w16 ⟨rfl, hi, hb, hk⟩; refine ⟨_, rfl, ?_⟩; have n_ := z1i (KeepBut.blk hk (zu BK633.out) NB633_0.out (by simp)) (Kd.R_mono (Kd.R_keep (IsS89.apart (show IsS89 w0 _ g s0_0 t644 t645 from by repeat (first | (with_reducible first | exact HI0.out | apply IsS89.alloc | apply IsS89.drewN | apply IsS89.drew | apply IsS89.set_1 | apply IsS89.set_2 | refine IsS89.far ?_ NB0_633.out _) | exact HI0.out)) z5t z1l) hk (fun _ h => h.2)) (fun _ h => h.1)) (Kd.R_mono (Kd.R_keep (IsS89.apart (show IsS89 w0 _ g s0_0 t644 t645 from by repeat (first | (with_reducible first | exact HI0.out | apply IsS89.alloc | apply IsS89.drewN | apply IsS89.drew | apply IsS89.set_1 | apply IsS89.set_2 | refine IsS89.far ?_ NB0_633.out _) | exact HI0.out)) (by (with_reducible repeat (first | apply Kd.R_alloc | apply Kd.R_drewN | apply Kd.R_drew)); exact HO648.out) z1l) hk (fun _ h => h.2)) (fun _ h => h.1)) (KeepBut.trans z5q hk (.inl rfl)) hb hi; clear BK633 HO636 HO648 HK HB HI0; obtain ⟨BK633, HO636, HO648, HK, HB, HI0⟩ := n_; (try clear hb); (try clear hk); (try clear hi); have hnb17 := NB633_0.out; have hnc17 := NB0_633.out; obtain ⟨hcz18_0, hcz18_1, hcz18_2, hcz18_3, hfz18_0, hfz18_1, hfz18_2, hfz18_3⟩ := zf BK633.out))
 refine bodyPost_ret (results_cell_row rfl _ _ gb633 25 #[.int .i64 t637, .int .i64 t640, .int .i64 t643, .string t649] (0, 0) _ rfl (by (repeat refine z1a ?_); refine blk_put (cs := #[.int .i64 t637, .int .i64 t640, .int .i64 t643, .string ⟨#[]⟩]) ?_ 3 _ rfl; (repeat refine z1a ?_); refine blk_put (cs := #[.int .i64 t637, .int .i64 t640, .int .i64 0, .string ⟨#[]⟩]) ?_ 2 _ rfl; (repeat refine z1a ?_); refine blk_put (cs := #[.int .i64 t637, .int .i64 0, .int .i64 0, .string ⟨#[]⟩]) ?_ 1 _ rfl; (repeat refine z1a ?_); refine blk_put (cs := #[.int .i64 0, .int .i64 0, .int .i64 0, .string ⟨#[]⟩]) ?_ 0 _ rfl; (repeat refine z1a ?_); exact BK633.out) Tryz.underlying25 rfl z1m) rfl ?_
 exact ⟨z1t, z5r, z5s, z5q⟩
def spec_l5Need.f (k : Nat) (s0_0 : List Int) (s0_1 : Int) (s0_2 : Int) : Option (ByteArray × Int × Int × Int × ByteArray × Int × Int) := (spec_l4Path.f s0_0 s0_1 s0_2).bind fun bt653 => ((spec_l3Draw.f s0_0 bt653.2.1 bt653.2.2).bind fun bt656 => ((spec_MajorOf.f k bt653.1).bind fun t663 => (if t663 = 1 then ((spec_l1Once.f s0_0 bt656.2.2.2.2.1 bt656.2.2.2.2.2 4).bind fun bt664 => (if bt664.1 = true then (some (bt653.1, 0, bt656.2.1, bt656.2.2.1, bt656.2.2.2.1, bt664.2.1, bt664.2.2)) else (some (bt653.1, t663, bt656.2.1, bt656.2.2.1, bt656.2.2.2.1, bt664.2.1, bt664.2.2)))) else (some (bt653.1, t663, bt656.2.1, bt656.2.2.1, bt656.2.2.2.1, bt656.2.2.2.2.1, bt656.2.2.2.2.2)))))
set_option maxHeartbeats 8000000 in
set_option maxRecDepth 100000 in
theorem spec_l5Need.calls (k : Nat) (g : Nat) (s0_0 : List Int) (s0_1 : Int) (s0_2 : Int) (r1 : ByteArray) (r2 : Int) (r3 : Int) (r4 : Int) (r5 : ByteArray) (r6 : Int) (r7 : Int) (w0 w : World) (hI : IsS89 w0 w g s0_0 s0_1 s0_2) (hB : Below w0.heap.size w0 w) (h : spec_l5Need.f k s0_0 s0_1 s0_2 = some (r1, r2, r3, r4, r5, r6, r7)) :
  Calls Tryz.prog 52 #[.pointer (some ⟨g, 0, none⟩)] w fun e w' => e = .returned (.agg #[.string r1, .int .i64 r2, .int .i64 r3, .int .i64 r4, .string r5]) ∧ IsS89 w0 w' g s0_0 r6 r7 ∧ Below w0.heap.size w0 w' ∧ KeepBut w w' g none := by
 have hu35 := Tryz.underlying35
 have HI0 := zn hI
 have HK := zn (KeepBut.refl w g none)
 have HL := zn hB.size
 clear hI
 have HW0 := zn hB.size
 have HB := zn hB
 clear hB
 have H := h
 unfold spec_l5Need.f at H
 clear h
 obtain ⟨⟨t653, t654, t655⟩, A2, H⟩ := zm H
 try dsimp only at H
 obtain ⟨⟨t656, t657, t658, t659, t660, t661⟩, A3, H⟩ := zm H
 try dsimp only at H
 obtain ⟨t663, A4, H⟩ := zm H
 try dsimp only at H
 by_cases c5 : t663 = 1
 ·rw [if_pos c5] at H
  have c5b0 := beq_iff_eq.mpr c5
  have c5b1 := bne_eq_false_iff_eq.mpr c5
  clear c5
  obtain ⟨⟨t664, t665, t666⟩, A6, H⟩ := zm H
  try dsimp only at H
  by_cases c7 : t664 = true
  ·subst c7
   rw [if_pos rfl] at H
   simp only [Option.some.injEq, Prod.mk.injEq] at H
   obtain ⟨rfl, rfl, rfl, rfl, rfl, rfl, rfl⟩ := H
   go_enter Tryz.func52, Tryz.ntmps52
   go_wp2_with (first | ((with_reducible refine zr 2 rfl ?_); refine zt 35 #[.string ⟨#[]⟩, .int .i64 0, .int .i64 0, .int .i64 0, .string ⟨#[]⟩] ?_; intro gb652 hg w8 hbox hb; have n_ := z1e (IsS89.below z5l hb) (KeepBut.trans z5n (KeepBut.of_below hb g none) (.inl rfl)) (below_step z5m hb) hbox (z8v : w.heap.size ≤ gb652) ((Nat.le_trans HW0.out (z8v : w.heap.size ≤ gb652) : w0.heap.size ≤ gb652)) (z5o : g ≠ gb652) (z5p : gb652 ≠ g); clear HI0 HK HB; obtain ⟨HI0, HK, HB, BK652, GW652, GE652, NB0_652, NB652_0⟩ := n_; clear hb hbox hg) | ((with_reducible refine zi 84 rfl ?_); refine zj (some 5) Tryz.func84 #[.pointer (some ⟨g, 0, none⟩)] rfl ?_; (with_reducible refine (spec_l4Path.calls g s0_0 s0_1 s0_2 t653 t654 t655 w0 _ ?side1 ?side2 A2.out).mono ?_); (case side1 => exact z5v); (case side2 => exact z5w); rintro e w9 ⟨rfl, hi, hb, hk⟩; refine ⟨_, rfl, ?_⟩; have n_ := zv (KeepBut.blk hk (zu BK652.out) NB652_0.out (by simp)) (KeepBut.trans z5u hk (.inl rfl)) hb hi; clear BK652 HK HB HI0; obtain ⟨BK652, HK, HB, HI0⟩ := n_; (try clear hb); (try clear hk); (try clear hi)) | ((with_reducible refine zi 85 rfl ?_); refine zj (some 7) Tryz.func85 #[.pointer (some ⟨g, 0, none⟩)] rfl ?_; (with_reducible refine (spec_l3Draw.calls g s0_0 t654 t655 t656 t657 t658 t659 t660 t661 w0 _ ?side1 ?side2 A3.out).mono ?_); (case side1 => exact z5v); (case side2 => exact z5w); rintro e w10 ⟨rfl, hi, hb, hk⟩; refine ⟨_, rfl, ?_⟩; have n_ := zv (KeepBut.blk hk (zu BK652.out) NB652_0.out (by simp)) (KeepBut.trans z5u hk (.inl rfl)) hb hi; clear BK652 HK HB HI0; obtain ⟨BK652, HK, HB, HI0⟩ := n_; (try clear hb); (try clear hk); (try clear hi)) | ((with_reducible refine zr 3 rfl ?_); refine zt 35 #[.string ⟨#[]⟩, .int .i64 0, .int .i64 0, .int .i64 0, .string ⟨#[]⟩] ?_; intro gb662 hg w11 hbox hb; have n_ := z1g (IsS89.below z5v hb) (z1g (blk_below (zu BK652.out) hb) (z1g (KeepBut.trans z5u (KeepBut.of_below hb g none) (.inl rfl)) (z1e (below_step z5w hb) hbox (z8w : w.heap.size ≤ gb662) ((Nat.le_trans HW0.out (z8w : w.heap.size ≤ gb662) : w0.heap.size ≤ gb662)) (z5x : gb652 ≠ gb662) (z5y : gb662 ≠ gb652) (z5z : g ≠ gb662) (z6a : gb662 ≠ g)))); clear HI0 BK652 HK HB; obtain ⟨HI0, BK652, HK, HB, BK662, GW662, GE662, NB652_662, NB662_652, NB0_662, NB662_0⟩ := n_; clear hb hbox hg; have hnb12 := NB662_652.out; have hnc12 := NB652_662.out; have hnb13 := NB662_0.out; have hnc13 := NB0_662.out; obtain ⟨hcz14_0, hcz14_1, hcz14_2, hcz14_3, hcz14_4, hfz14_0, hfz14_1, hfz14_2, hfz14_3, hfz14_4⟩ := zg BK662.out) | ((with_reducible refine zi 67 rfl ?_); refine zj (some 11) Tryz.func67 #[.string t653] rfl ?_; (with_reducible refine (spec_MajorOf.calls k t653 t663 _ A4.out).mono ?_); rintro e w15 ⟨rfl, hb⟩; refine ⟨_, rfl, ?_⟩; have n_ := z1h (IsS89.below (show IsS89 w0 (((((w11.setCell ⟨gb662, 0, none⟩ (.string t653)).setCell ⟨gb662, 1, none⟩ (.int .i64 t656)).setCell ⟨gb662, 2, none⟩ (.int .i64 t657)).setCell ⟨gb662, 3, none⟩ (.int .i64 t658)).setCell ⟨gb662, 4, none⟩ (.string t659)) g s0_0 t660 t661 from by repeat (first | (with_reducible first | exact HI0.out | apply IsS89.alloc | apply IsS89.drewN | apply IsS89.drew | apply IsS89.set_1 | apply IsS89.set_2 | refine IsS89.far ?_ NB0_652.out _ | refine IsS89.far ?_ NB0_662.out _) | exact HI0.out)) hb) (blk_below (g := gb652) (o := .cells #[.string ⟨#[]⟩, .int .i64 0, .int .i64 0, .int .i64 0, .string ⟨#[]⟩] 35 (0, 0)) z6b hb) (blk_below (g := gb662) (o := .cells #[.string t653, .int .i64 t656, .int .i64 t657, .int .i64 t658, .string t659] 35 (0, 0)) z6c hb) (KeepBut.trans z6d (KeepBut.of_below hb g none) (.inl rfl)) (below_step z6e hb); clear HI0 BK652 BK662 HK HB; obtain ⟨HI0, BK652, BK662, HK, HB⟩ := n_; (try clear hb); obtain ⟨hcz16_0, hcz16_1, hcz16_2, hcz16_3, hcz16_4, hfz16_0, hfz16_1, hfz16_2, hfz16_3, hfz16_4⟩ := zg BK662.out) | (go_at_call 53; (with_reducible refine (spec_l1Once.calls g s0_0 t660 t661 4 true t665 t666 w0 _ ?side1 ?side2 A6.out).mono ?_); (case side1 => exact z6f); (case side2 => exact z6e); rintro e w17 ⟨rfl, hi, hb, hk⟩; have n_ := z1h (KeepBut.blk hk (g' := gb652) (o := .cells #[.string ⟨#[]⟩, .int .i64 0, .int .i64 0, .int .i64 0, .string ⟨#[]⟩] 35 (0, 0)) (by (repeat refine z1a ?_); refine blk_far ?_ NB652_662.out _; (repeat refine z1a ?_); exact BK652.out) NB652_0.out (by simp)) (KeepBut.blk hk (g' := gb662) (o := .cells #[.string t653, .int .i64 t663, .int .i64 t657, .int .i64 t658, .string t659] 35 (0, 0)) (by (repeat refine z1a ?_); refine blk_put (cs := #[.string t653, .int .i64 t656, .int .i64 t657, .int .i64 t658, .string t659]) ?_ 1 _ rfl; (repeat refine z1a ?_); exact BK662.out) NB662_0.out (by simp)) (KeepBut.trans z6d hk (.inl rfl)) hb hi; clear BK652 BK662 HK HB HI0; obtain ⟨BK652, BK662, HK, HB, HI0⟩ := n_; (try clear hb); (try clear hk); (try clear hi); obtain ⟨hcz18_0, hcz18_1, hcz18_2, hcz18_3, hcz18_4, hfz18_0, hfz18_1, hfz18_2, hfz18_3, hfz18_4⟩ := zg BK662.out; have hnb19 := NB652_0.out; have hnc19 := NB0_652.out; obtain ⟨hcz20_0, hcz20_1, hcz20_2, hcz20_3, hcz20_4, hfz20_0, hfz20_1, hfz20_2, hfz20_3, hfz20_4⟩ := zg BK652.out))
   refine bodyPost_ret (results_cell_row rfl _ _ gb652 35 #[.string t653, .int .i64 0, .int .i64 t657, .int .i64 t658, .string t659] (0, 0) _ rfl (by (repeat refine z1a ?_); refine blk_put (cs := #[.string t653, .int .i64 0, .int .i64 t657, .int .i64 t658, .string ⟨#[]⟩]) ?_ 4 _ rfl; (repeat refine z1a ?_); refine blk_put (cs := #[.string t653, .int .i64 0, .int .i64 t657, .int .i64 0, .string ⟨#[]⟩]) ?_ 3 _ rfl; (repeat refine z1a ?_); refine blk_put (cs := #[.string t653, .int .i64 0, .int .i64 0, .int .i64 0, .string ⟨#[]⟩]) ?_ 2 _ rfl; (repeat refine z1a ?_); refine blk_put (cs := #[.string t653, .int .i64 0, .int .i64 0, .int .i64 0, .string ⟨#[]⟩]) ?_ 1 _ rfl; (repeat refine z1a ?_); refine blk_put (cs := #[.string ⟨#[]⟩, .int .i64 0, .int .i64 0, .int .i64 0, .string ⟨#[]⟩]) ?_ 0 _ rfl; (repeat refine z1a ?_); refine blk_far ?_ NB652_662.out _; (repeat refine z1a ?_); exact BK652.out) Tryz.underlying35 rfl z1m) rfl ?_
   exact ⟨z1t, z6f, z6e, z6d⟩
  ·replace c7 := Bool.eq_false_iff.mpr c7
   subst c7
   rw [if_neg zk] at H
   simp only [Option.some.injEq, Prod.mk.injEq] at H
   obtain ⟨rfl, rfl, rfl, rfl, rfl, rfl, rfl⟩ := H
   go_enter Tryz.func52, Tryz.ntmps52
   go_wp2_with (first | ((with_reducible refine zr 2 rfl ?_); refine zt 35 #[.string ⟨#[]⟩, .int .i64 0, .int .i64 0, .int .i64 0, .string ⟨#[]⟩] ?_; intro gb652 hg w21 hbox hb; have n_ := z1e (IsS89.below z5l hb) (KeepBut.trans z5n (KeepBut.of_below hb g none) (.inl rfl)) (below_step z5m hb) hbox (z8v : w.heap.size ≤ gb652) ((Nat.le_trans HW0.out (z8v : w.heap.size ≤ gb652) : w0.heap.size ≤ gb652)) (z5o : g ≠ gb652) (z5p : gb652 ≠ g); clear HI0 HK HB; obtain ⟨HI0, HK, HB, BK652, GW652, GE652, NB0_652, NB652_0⟩ := n_; clear hb hbox hg) | ((with_reducible refine zi 84 rfl ?_); refine zj (some 5) Tryz.func84 #[.pointer (some ⟨g, 0, none⟩)] rfl ?_; (with_reducible refine (spec_l4Path.calls g s0_0 s0_1 s0_2 t653 t654 t655 w0 _ ?side1 ?side2 A2.out).mono ?_); (case side1 => exact z5v); (case side2 => exact z5w); rintro e w22 ⟨rfl, hi, hb, hk⟩; refine ⟨_, rfl, ?_⟩; have n_ := zv (KeepBut.blk hk (zu BK652.out) NB652_0.out (by simp)) (KeepBut.trans z5u hk (.inl rfl)) hb hi; clear BK652 HK HB HI0; obtain ⟨BK652, HK, HB, HI0⟩ := n_; (try clear hb); (try clear hk); (try clear hi)) | ((with_reducible refine zi 85 rfl ?_); refine zj (some 7) Tryz.func85 #[.pointer (some ⟨g, 0, none⟩)] rfl ?_; (with_reducible refine (spec_l3Draw.calls g s0_0 t654 t655 t656 t657 t658 t659 t660 t661 w0 _ ?side1 ?side2 A3.out).mono ?_); (case side1 => exact z5v); (case side2 => exact z5w); rintro e w23 ⟨rfl, hi, hb, hk⟩; refine ⟨_, rfl, ?_⟩; have n_ := zv (KeepBut.blk hk (zu BK652.out) NB652_0.out (by simp)) (KeepBut.trans z5u hk (.inl rfl)) hb hi; clear BK652 HK HB HI0; obtain ⟨BK652, HK, HB, HI0⟩ := n_; (try clear hb); (try clear hk); (try clear hi)) | ((with_reducible refine zr 3 rfl ?_); refine zt 35 #[.string ⟨#[]⟩, .int .i64 0, .int .i64 0, .int .i64 0, .string ⟨#[]⟩] ?_; intro gb662 hg w24 hbox hb; have n_ := z1g (IsS89.below z5v hb) (z1g (blk_below (zu BK652.out) hb) (z1g (KeepBut.trans z5u (KeepBut.of_below hb g none) (.inl rfl)) (z1e (below_step z5w hb) hbox (z8w : w.heap.size ≤ gb662) ((Nat.le_trans HW0.out (z8w : w.heap.size ≤ gb662) : w0.heap.size ≤ gb662)) (z5x : gb652 ≠ gb662) (z5y : gb662 ≠ gb652) (z5z : g ≠ gb662) (z6a : gb662 ≠ g)))); clear HI0 BK652 HK HB; obtain ⟨HI0, BK652, HK, HB, BK662, GW662, GE662, NB652_662, NB662_652, NB0_662, NB662_0⟩ := n_; clear hb hbox hg; have hnb25 := NB662_652.out; have hnc25 := NB652_662.out; have hnb26 := NB662_0.out; have hnc26 := NB0_662.out; obtain ⟨hcz27_0, hcz27_1, hcz27_2, hcz27_3, hcz27_4, hfz27_0, hfz27_1, hfz27_2, hfz27_3, hfz27_4⟩ := zg BK662.out) | ((with_reducible refine zi 67 rfl ?_); refine zj (some 11) Tryz.func67 #[.string t653] rfl ?_; (with_reducible refine (spec_MajorOf.calls k t653 t663 _ A4.out).mono ?_); rintro e w28 ⟨rfl, hb⟩; refine ⟨_, rfl, ?_⟩; have n_ := z1h (IsS89.below (show IsS89 w0 (((((w24.setCell ⟨gb662, 0, none⟩ (.string t653)).setCell ⟨gb662, 1, none⟩ (.int .i64 t656)).setCell ⟨gb662, 2, none⟩ (.int .i64 t657)).setCell ⟨gb662, 3, none⟩ (.int .i64 t658)).setCell ⟨gb662, 4, none⟩ (.string t659)) g s0_0 t660 t661 from by repeat (first | (with_reducible first | exact HI0.out | apply IsS89.alloc | apply IsS89.drewN | apply IsS89.drew | apply IsS89.set_1 | apply IsS89.set_2 | refine IsS89.far ?_ NB0_652.out _ | refine IsS89.far ?_ NB0_662.out _) | exact HI0.out)) hb) (blk_below (g := gb652) (o := .cells #[.string ⟨#[]⟩, .int .i64 0, .int .i64 0, .int .i64 0, .string ⟨#[]⟩] 35 (0, 0)) z6b hb) (blk_below (g := gb662) (o := .cells #[.string t653, .int .i64 t656, .int .i64 t657, .int .i64 t658, .string t659] 35 (0, 0)) z6c hb) (KeepBut.trans z6d (KeepBut.of_below hb g none) (.inl rfl)) (below_step z6e hb); clear HI0 BK652 BK662 HK HB; obtain ⟨HI0, BK652, BK662, HK, HB⟩ := n_; (try clear hb); obtain ⟨hcz29_0, hcz29_1, hcz29_2, hcz29_3, hcz29_4, hfz29_0, hfz29_1, hfz29_2, hfz29_3, hfz29_4⟩ := zg BK662.out) | (go_at_call 53; (with_reducible refine (spec_l1Once.calls g s0_0 t660 t661 4 false t665 t666 w0 _ ?side1 ?side2 A6.out).mono ?_); (case side1 => exact z6f); (case side2 => exact z6e); rintro e w30 ⟨rfl, hi, hb, hk⟩; have n_ := z1h (KeepBut.blk hk (g' := gb652) (o := .cells #[.string ⟨#[]⟩, .int .i64 0, .int .i64 0, .int .i64 0, .string ⟨#[]⟩] 35 (0, 0)) (by (repeat refine z1a ?_); refine blk_far ?_ NB652_662.out _; (repeat refine z1a ?_); exact BK652.out) NB652_0.out (by simp)) (KeepBut.blk hk (g' := gb662) (o := .cells #[.string t653, .int .i64 t663, .int .i64 t657, .int .i64 t658, .string t659] 35 (0, 0)) (by (repeat refine z1a ?_); refine blk_put (cs := #[.string t653, .int .i64 t656, .int .i64 t657, .int .i64 t658, .string t659]) ?_ 1 _ rfl; (repeat refine z1a ?_); exact BK662.out) NB662_0.out (by simp)) (KeepBut.trans z6d hk (.inl rfl)) hb hi; clear BK652 BK662 HK HB HI0; obtain ⟨BK652, BK662, HK, HB, HI0⟩ := n_; (try clear hb); (try clear hk); (try clear hi); obtain ⟨hcz31_0, hcz31_1, hcz31_2, hcz31_3, hcz31_4, hfz31_0, hfz31_1, hfz31_2, hfz31_3, hfz31_4⟩ := zg BK662.out; have hnb32 := NB652_0.out; have hnc32 := NB0_652.out; obtain ⟨hcz33_0, hcz33_1, hcz33_2, hcz33_3, hcz33_4, hfz33_0, hfz33_1, hfz33_2, hfz33_3, hfz33_4⟩ := zg BK652.out))
   refine bodyPost_ret (results_cell_row rfl _ _ gb652 35 #[.string t653, .int .i64 t663, .int .i64 t657, .int .i64 t658, .string t659] (0, 0) _ rfl (by (repeat refine z1a ?_); refine blk_put (cs := #[.string t653, .int .i64 t663, .int .i64 t657, .int .i64 t658, .string ⟨#[]⟩]) ?_ 4 _ rfl; (repeat refine z1a ?_); refine blk_put (cs := #[.string t653, .int .i64 t663, .int .i64 t657, .int .i64 0, .string ⟨#[]⟩]) ?_ 3 _ rfl; (repeat refine z1a ?_); refine blk_put (cs := #[.string t653, .int .i64 t663, .int .i64 0, .int .i64 0, .string ⟨#[]⟩]) ?_ 2 _ rfl; (repeat refine z1a ?_); refine blk_put (cs := #[.string t653, .int .i64 0, .int .i64 0, .int .i64 0, .string ⟨#[]⟩]) ?_ 1 _ rfl; (repeat refine z1a ?_); refine blk_put (cs := #[.string ⟨#[]⟩, .int .i64 0, .int .i64 0, .int .i64 0, .string ⟨#[]⟩]) ?_ 0 _ rfl; (repeat refine z1a ?_); exact BK652.out) Tryz.underlying35 rfl z1m) rfl ?_
   exact ⟨z1t, z6f, z6e, z6d⟩
 ·rw [if_neg c5] at H
  have c5b0 := beq_eq_false_iff_ne.mpr c5
  have c5b1 := bne_iff_ne.mpr c5
  simp only [Option.some.injEq, Prod.mk.injEq] at H
  obtain ⟨rfl, rfl, rfl, rfl, rfl, rfl, rfl⟩ := H
  go_enter Tryz.func52, Tryz.ntmps52
  go_wp2_with (first | ((with_reducible refine zr 2 rfl ?_); refine zt 35 #[.string ⟨#[]⟩, .int .i64 0, .int .i64 0, .int .i64 0, .string ⟨#[]⟩] ?_; intro gb652 hg w34 hbox hb; have n_ := z1e (IsS89.below z5l hb) (KeepBut.trans z5n (KeepBut.of_below hb g none) (.inl rfl)) (below_step z5m hb) hbox (z8v : w.heap.size ≤ gb652) ((Nat.le_trans HW0.out (z8v : w.heap.size ≤ gb652) : w0.heap.size ≤ gb652)) (z5o : g ≠ gb652) (z5p : gb652 ≠ g); clear HI0 HK HB; obtain ⟨HI0, HK, HB, BK652, GW652, GE652, NB0_652, NB652_0⟩ := n_; clear hb hbox hg) | ((with_reducible refine zi 84 rfl ?_); refine zj (some 5) Tryz.func84 #[.pointer (some ⟨g, 0, none⟩)] rfl ?_; (with_reducible refine (spec_l4Path.calls g s0_0 s0_1 s0_2 t653 t654 t655 w0 _ ?side1 ?side2 A2.out).mono ?_); (case side1 => exact z5v); (case side2 => exact z5w); rintro e w35 ⟨rfl, hi, hb, hk⟩; refine ⟨_, rfl, ?_⟩; have n_ := zv (KeepBut.blk hk (zu BK652.out) NB652_0.out (by simp)) (KeepBut.trans z5u hk (.inl rfl)) hb hi; clear BK652 HK HB HI0; obtain ⟨BK652, HK, HB, HI0⟩ := n_; (try clear hb); (try clear hk); (try clear hi)) | ((with_reducible refine zi 85 rfl ?_); refine zj (some 7) Tryz.func85 #[.pointer (some ⟨g, 0, none⟩)] rfl ?_; (with_reducible refine (spec_l3Draw.calls g s0_0 t654 t655 t656 t657 t658 t659 t660 t661 w0 _ ?side1 ?side2 A3.out).mono ?_); (case side1 => exact z5v); (case side2 => exact z5w); rintro e w36 ⟨rfl, hi, hb, hk⟩; refine ⟨_, rfl, ?_⟩; have n_ := zv (KeepBut.blk hk (zu BK652.out) NB652_0.out (by simp)) (KeepBut.trans z5u hk (.inl rfl)) hb hi; clear BK652 HK HB HI0; obtain ⟨BK652, HK, HB, HI0⟩ := n_; (try clear hb); (try clear hk); (try clear hi)) | ((with_reducible refine zr 3 rfl ?_); refine zt 35 #[.string ⟨#[]⟩, .int .i64 0, .int .i64 0, .int .i64 0, .string ⟨#[]⟩] ?_; intro gb662 hg w37 hbox hb; have n_ := z1g (IsS89.below z5v hb) (z1g (blk_below (zu BK652.out) hb) (z1g (KeepBut.trans z5u (KeepBut.of_below hb g none) (.inl rfl)) (z1e (below_step z5w hb) hbox (z8w : w.heap.size ≤ gb662) ((Nat.le_trans HW0.out (z8w : w.heap.size ≤ gb662) : w0.heap.size ≤ gb662)) (z5x : gb652 ≠ gb662) (z5y : gb662 ≠ gb652) (z5z : g ≠ gb662) (z6a : gb662 ≠ g)))); clear HI0 BK652 HK HB; obtain ⟨HI0, BK652, HK, HB, BK662, GW662, GE662, NB652_662, NB662_652, NB0_662, NB662_0⟩ := n_; clear hb hbox hg; have hnb38 := NB662_652.out; have hnc38 := NB652_662.out; have hnb39 := NB662_0.out; have hnc39 := NB0_662.out; obtain ⟨hcz40_0, hcz40_1, hcz40_2, hcz40_3, hcz40_4, hfz40_0, hfz40_1, hfz40_2, hfz40_3, hfz40_4⟩ := zg BK662.out) | ((with_reducible refine zi 67 rfl ?_); refine zj (some 11) Tryz.func67 #[.string t653] rfl ?_; (with_reducible refine (spec_MajorOf.calls k t653 t663 _ A4.out).mono ?_); rintro e w41 ⟨rfl, hb⟩; refine ⟨_, rfl, ?_⟩; have n_ := z1h (IsS89.below (show IsS89 w0 (((((w37.setCell ⟨gb662, 0, none⟩ (.string t653)).setCell ⟨gb662, 1, none⟩ (.int .i64 t656)).setCell ⟨gb662, 2, none⟩ (.int .i64 t657)).setCell ⟨gb662, 3, none⟩ (.int .i64 t658)).setCell ⟨gb662, 4, none⟩ (.string t659)) g s0_0 t660 t661 from by repeat (first | (with_reducible first | exact HI0.out | apply IsS89.alloc | apply IsS89.drewN | apply IsS89.drew | apply IsS89.set_1 | apply IsS89.set_2 | refine IsS89.far ?_ NB0_652.out _ | refine IsS89.far ?_ NB0_662.out _) | exact HI0.out)) hb) (blk_below (g := gb652) (o := .cells #[.string ⟨#[]⟩, .int .i64 0, .int .i64 0, .int .i64 0, .string ⟨#[]⟩] 35 (0, 0)) z6b hb) (blk_below (g := gb662) (o := .cells #[.string t653, .int .i64 t656, .int .i64 t657, .int .i64 t658, .string t659] 35 (0, 0)) z6c hb) (KeepBut.trans z6d (KeepBut.of_below hb g none) (.inl rfl)) (below_step z6e hb); clear HI0 BK652 BK662 HK HB; obtain ⟨HI0, BK652, BK662, HK, HB⟩ := n_; (try clear hb); obtain ⟨hcz42_0, hcz42_1, hcz42_2, hcz42_3, hcz42_4, hfz42_0, hfz42_1, hfz42_2, hfz42_3, hfz42_4⟩ := zg BK662.out; have hnb43 := NB652_0.out; have hnc43 := NB0_652.out; obtain ⟨hcz44_0, hcz44_1, hcz44_2, hcz44_3, hcz44_4, hfz44_0, hfz44_1, hfz44_2, hfz44_3, hfz44_4⟩ := zg BK652.out))
  refine bodyPost_ret (results_cell_row rfl _ _ gb652 35 #[.string t653, .int .i64 t663, .int .i64 t657, .int .i64 t658, .string t659] (0, 0) _ rfl (by (repeat refine z1a ?_); refine blk_put (cs := #[.string t653, .int .i64 t663, .int .i64 t657, .int .i64 t658, .string ⟨#[]⟩]) ?_ 4 _ rfl; (repeat refine z1a ?_); refine blk_put (cs := #[.string t653, .int .i64 t663, .int .i64 t657, .int .i64 0, .string ⟨#[]⟩]) ?_ 3 _ rfl; (repeat refine z1a ?_); refine blk_put (cs := #[.string t653, .int .i64 t663, .int .i64 0, .int .i64 0, .string ⟨#[]⟩]) ?_ 2 _ rfl; (repeat refine z1a ?_); refine blk_put (cs := #[.string t653, .int .i64 0, .int .i64 0, .int .i64 0, .string ⟨#[]⟩]) ?_ 1 _ rfl; (repeat refine z1a ?_); refine blk_put (cs := #[.string ⟨#[]⟩, .int .i64 0, .int .i64 0, .int .i64 0, .string ⟨#[]⟩]) ?_ 0 _ rfl; (repeat refine z1a ?_); refine blk_far ?_ NB652_662.out _; (repeat refine z1a ?_); exact BK652.out) Tryz.underlying35 rfl z1m) rfl ?_
  exact ⟨z1t, z6f, z6e, z6d⟩
end Go.Proofs.YtgdknepphkhnlaaGreatDoor.X
