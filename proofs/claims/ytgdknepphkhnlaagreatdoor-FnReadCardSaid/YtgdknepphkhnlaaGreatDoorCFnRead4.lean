/- The law FnRead, as a plain statement: what is read of a drawn text as an entry is right, and has that text; what is read as a name has that name. Conditions: those of the row's reading alone. -/
/- Part 5 of 13 of this claim's texts. -/
import Derived.Test.YtgdknepphkhnlaaGreatDoorCFnRead1
import Derived.Test.YtgdknepphkhnlaaGreatDoorCFnRead3
namespace Go.Proofs.YtgdknepphkhnlaaGreatDoor.X
open Go.RowKit Go.Proofs.YtgdknepphkhnlaaGreatDoorW.PrintWords Go.Proofs.YtgdknepphkhnlaaGreatDoorW.PrintLast Go.Proofs.YtgdknepphkhnlaaGreatDoorW.PrintMore
attribute [local go_sem] max2_int min2_int max_two min_two max_three min_three max_four min_four
set_option linter.unusedVariables false
set_option linter.unusedSimpArgs false
mutual
def impl_GetEntry.j0 : Nat → ByteArray → List ByteArray → Bool → ByteArray → Int → Int → Int → ByteArray → Option (ByteArray × Int × Int × Int × ByteArray × (List (S35)) × Bool)
 | 0, _, _, _, _, _, _, _, _ => none
 | k + 1, x0, x6, x29, x459000, x459001, x459002, x459003, x459004 => if x29 = true then (some ((⟨#[]⟩ : ByteArray), 0, 0, 0, (⟨#[]⟩ : ByteArray), ([] : List (S35)), false)) else (impl_GetEntry.l0 k x0 x6 (x6.length : Int) 0 x459000 x459001 x459002 x459003 x459004 ([] : List (S35)))
def impl_GetEntry.l0 : Nat → ByteArray → List ByteArray → Int → Int → ByteArray → Int → Int → Int → ByteArray → List (S35) → Option (ByteArray × Int × Int × Int × ByteArray × (List (S35)) × Bool)
 | 0, _, _, _, _, _, _, _, _, _, _ => none
 | k + 1, x0, x36, x37, x38, x460000, x460001, x460002, x460003, x460004, x460005 => if x38 < x37 then (if 0 ≤ x38 then (if x38 < (x36.length : Int) then ((impl_ParseName.f k (rdOf ByteArray.empty x36 x38)).bind fun bt461 => (if bt461.2.2.2.2.2 = true then (if x460005.length < 2513169434916 then (impl_GetEntry.l0 k x0 x36 x37 (wrap64 (x38 + 1)) x460000 x460001 x460002 x460003 x460004 (x460005 ++ [(⟨bt461.1, (⟨bt461.2.1, bt461.2.2.1, bt461.2.2.2.1, bt461.2.2.2.2.1⟩ : S25)⟩ : S35)])) else (none)) else (some ((⟨#[]⟩ : ByteArray), 0, 0, 0, (⟨#[]⟩ : ByteArray), ([] : List (S35)), false)))) else (none)) else (none)) else ((impl_PutEntry.f k x460000 x460001 x460002 x460003 x460004 x460005).bind fun t471 => (if t471.toList = x0.toList then (some (x460000, x460001, x460002, x460003, x460004, x460005, true)) else (some ((⟨#[]⟩ : ByteArray), 0, 0, 0, (⟨#[]⟩ : ByteArray), ([] : List (S35)), false))))
end
def impl_GetEntry.f (k : Nat) (a0 : ByteArray) : Option (ByteArray × Int × Int × Int × ByteArray × (List (S35)) × Bool) := if a0.size ≤ 9223372036854775807 then ((some (bytesOf a0 : List Int)).bind fun y440 => ((impl_getter_text.f k y440 0 false).bind fun bt444 => ((impl_getter_texts.f k y440 bt444.2.1 bt444.2.2).bind fun bt447 => ((impl_ParseName.f k bt444.1).bind fun bt452 => (if bt447.2.2 = true then (impl_GetEntry.j0 k a0 bt447.1 true bt452.1 bt452.2.1 bt452.2.2.1 bt452.2.2.2.1 bt452.2.2.2.2.1) else (impl_GetEntry.j0 k a0 bt447.1 (!bt452.2.2.2.2.2) bt452.1 bt452.2.1 bt452.2.2.1 bt452.2.2.2.1 bt452.2.2.2.2.1)))))) else (none)
set_option maxHeartbeats 8000000 in
set_option maxRecDepth 100000 in
theorem impl_GetEntry.calls (k : Nat) (a0 : ByteArray) (r1 : ByteArray) (r2 : Int) (r3 : Int) (r4 : Int) (r5 : ByteArray) (r6 : List (S35)) (r7 : Bool) (w : World) (hG_ : GlobI w) (h : impl_GetEntry.f k a0 = some (r1, r2, r3, r4, r5, r6, r7)) :
  Calls Tryz.prog 12 #[.string a0] w fun e w' => ∃ v5_ : Value, e = .returned (.tuple #[.agg #[.string r1, .int .i64 r2, .int .i64 r3, .int .i64 r4, .string r5, v5_], .bool r7]) ∧ Kd.R k35 35 w' w.heap.size (fun _ => True) v5_ r6 ∧ Below w.heap.size w w' := by
 have HG_ := zn hG_
 clear hG_
 have hu28 := Tryz.underlying28
 have hu62 := Tryz.underlying62
 have hu35 := Tryz.underlying35
 have hu25 := Tryz.underlying25
 have HB := zn (Below.refl w.heap.size w)
 have H := h
 unfold impl_GetEntry.f at H
 clear h
 by_cases c2 : a0.size ≤ 9223372036854775807
 ·rw [if_pos c2] at H
  have c2b0 := eq_true c2
  have c2b1 := decide_eq_true c2
  try have c2b2 : (9223372036854775807 < a0.size) = False := eq_false (Nat.not_lt.2 c2)
  clear c2
  obtain ⟨y440, hy440⟩ : ∃ y_ : List Int, y_ = (bytesOf a0) := ⟨_, rfl⟩
  replace H : ((impl_getter_text.f k y440 0 false).bind fun bt444 => ((impl_getter_texts.f k y440 bt444.2.1 bt444.2.2).bind fun bt447 => ((impl_ParseName.f k bt444.1).bind fun bt452 => (if bt447.2.2 = true then (impl_GetEntry.j0 k a0 bt447.1 true bt452.1 bt452.2.1 bt452.2.2.1 bt452.2.2.2.1 bt452.2.2.2.2.1) else (impl_GetEntry.j0 k a0 bt447.1 (!bt452.2.2.2.2.2) bt452.1 bt452.2.1 bt452.2.2.1 bt452.2.2.2.1 bt452.2.2.2.2.1))))) = some (r1, r2, r3, r4, r5, r6, r7) := by first | (rw [hy440]; with_reducible exact H) | (have H2_ := (Option.bind_some _ _).symm.trans H; rw [hy440]; with_reducible exact H2_) | (have H2_ := (Option.bind_some _ _).symm.trans H; with_reducible exact H2_) | with_reducible exact H | (rw [hy440]; exact H) | exact H
  have Ny440 := zn hy440
  clear hy440
  obtain ⟨⟨t444, t445, t446⟩, A3, H⟩ := zm H
  try dsimp only at H
  obtain ⟨⟨t447, t450, t451⟩, A4, H⟩ := zm H
  try dsimp only at H
  obtain ⟨⟨t452, t453, t454, t455, t456, t457⟩, A5, H⟩ := zm H
  try dsimp only at H
  have HC6 := zn H
  clear H
  go_enter Tryz.func12, Tryz.ntmps12
  go_upto_region 5 with (first | ((with_reducible refine zr 2 rfl ?_); refine zt 28 #[.string ⟨#[]⟩, .int .i64 0, .int .i64 0, .int .i64 0, .string ⟨#[]⟩, .slice none 0 0] ?_; intro gb439 hg w7 hbox hb; have n_ := zv (below_step z1r hb) hbox (z8j : w.heap.size ≤ gb439) (z8j : w.heap.size ≤ gb439); clear HB; obtain ⟨HB, BK439, GW439, GE439⟩ := n_; clear hb hbox hg) | ((with_reducible refine zr 15 rfl ?_); refine Y.conv_event ?hg (N := 15) ?hd 9 22 5 (.tmp 14) ?ho a0 ?hx Tryz.underlying9 Tryz.underlying22 Tryz.underlying5 y440 Ny440.out (of_decide_eq_true z1p) ?_; (case hd => exact z2b); (case hg => exact z2b); (case ho => exact z2b); (case hx => exact z2b); intro Av440 cv440 w8 hC hcap hb; have n_ := zv (blk_below (zu BK439.out) hb) (below_step z3h hb) hC hcap; clear BK439 HB; obtain ⟨BK439, HB, HRv440, HCv440⟩ := n_; clear hb hC hcap) | ((with_reducible refine zr 4 rfl ?_); refine zt 62 #[.slice none 0 0, .int .i64 0, .bool false] ?_; intro gb443 hg w9 hbox hb; have n_ := z1g (blk_below (zu BK439.out) hb) (z1g (Kd.C_below z3i hb) (z1e (below_step z3h hb) hbox ((by rw [hg]; exact (below_size z3h) : w.heap.size ≤ gb443)) ((by rw [hg]; exact (below_size z3h) : w.heap.size ≤ gb443)) (z3j : gb439 ≠ gb443) (z3k : gb443 ≠ gb439) ((by rw [hg]; exact blk_lt (zu BK439.out) : gb439 < gb443)) ((by rw [hg]; exact Y.conv_far z3i : ∀ ad, Av440 = some ad → 0 < y440.length → ad.block < gb443)))); clear BK439 HRv440 HB; obtain ⟨BK439, HRv440, HB, BK443, GW443, GE443, NB439_443, NB443_439, NL439_443, HFv440⟩ := n_; clear hb hbox hg; have hnb10 := NB443_439.out; have hnc10 := NB439_443.out; obtain ⟨hcz11_0, hcz11_1, hcz11_2, hfz11_0, hfz11_1, hfz11_2⟩ := ze BK443.out) | (go_at_call 37; (with_reducible refine (impl_getter_text.calls k gb443 Av440 cv440 y440 0 false t444 t445 t446 _ ?side1 ?side2 ?side3 A3.out).mono ?_); (case side1 => exact (by (repeat refine z1a ?_); refine blk_put (cs := #[.slice Av440 y440.length cv440, .int .i64 0, .bool false]) ?_ 2 _ rfl; (repeat refine z1a ?_); refine blk_put (cs := #[.slice Av440 y440.length cv440, .int .i64 0, .bool false]) ?_ 1 _ rfl; (repeat refine z1a ?_); refine blk_put (cs := #[.slice none 0 0, .int .i64 0, .bool false]) ?_ 0 _ rfl; (repeat refine z1a ?_); exact BK443.out)); (case side2 => exact z3l); (case side3 => exact HCv440.out); rintro e w12 ⟨rfl, hbk, hb⟩; have n_ := zv (Gt.blk_low (o := .cells #[.string ⟨#[]⟩, .int .i64 0, .int .i64 0, .int .i64 0, .string ⟨#[]⟩, .slice none 0 0] 28 (0, 0)) hb (by (repeat (first | refine z1a ?_ | refine blk_far ?_ NB439_443.out _)); exact BK439.out) NL439_443.out) hbk (Gt.C_low (xs := y440) z3l HFv440.out hb) (Gt.below_low z3m GW443.out hb); clear BK439 BK443 HRv440 HB; obtain ⟨BK439, BK443, HRv440, HB⟩ := n_; (try clear hb); (try clear hbk); (try clear ho0)) | (go_at_call 38; (with_reducible refine (impl_getter_texts.calls k gb443 Av440 cv440 y440 t445 t446 t447 t450 t451 _ ?side1 ?side2 ?side3 A4.out).mono ?_); (case side1 => exact (by (repeat refine z1a ?_); exact BK443.out)); (case side2 => exact z3l); (case side3 => exact HCv440.out); rintro e w13 ⟨v448, rfl, ho0, hbk, hb⟩; have n_ := z1h (Gt.blk_low (o := .cells #[.string ⟨#[]⟩, .int .i64 0, .int .i64 0, .int .i64 0, .string ⟨#[]⟩, .slice none 0 0] 28 (0, 0)) hb (by (repeat refine z1a ?_); exact BK439.out) NL439_443.out) hbk (Gt.C_low (xs := y440) z3l HFv440.out hb) (Kd.R_lower ho0 (below_size z3m)) (Gt.below_low z3m GW443.out hb); clear BK439 BK443 HRv440 HB; obtain ⟨BK439, BK443, HRv440, HO449, HB⟩ := n_; (try clear hb); (try clear hbk); (try clear ho0)) | ((with_reducible refine zi 13 rfl ?_); refine zj (some 21) Tryz.func13 #[.string t444] rfl ?_; (with_reducible refine (impl_ParseName.calls (hG_ := globI_on HG_.out z2j) k t444 t452 t453 t454 t455 t456 t457 _ A5.out).mono ?_); rintro e w14 ⟨rfl, hb⟩; refine ⟨_, rfl, ?_⟩; have n_ := z1h (Kd.R_below (by (with_reducible repeat (first | apply Kd.R_alloc | apply Kd.R_drewN | apply Kd.R_drew)); exact HO449.out) hb) (blk_below (zu BK439.out) hb) (Kd.C_below z3i hb) (blk_below (zu BK443.out) hb) (below_step z3m hb); clear HO449 BK439 HRv440 BK443 HB; obtain ⟨HO449, BK439, HRv440, BK443, HB⟩ := n_; (try clear hb)) | ((with_reducible refine zr 7 rfl ?_); refine zt 35 #[.string ⟨#[]⟩, .int .i64 0, .int .i64 0, .int .i64 0, .string ⟨#[]⟩] ?_; intro gb458 hg w15 hbox hb; have n_ := z1g (Kd.R_below (by (with_reducible repeat (first | apply Kd.R_alloc | apply Kd.R_drewN | apply Kd.R_drew)); exact HO449.out) hb) (z1g (blk_below (zu BK439.out) hb) (z1g (Kd.C_below z3i hb) (z1g (blk_below (zu BK443.out) hb) (z1g (below_step z3m hb) (z1g hbox (z1g ((by rw [hg]; exact (below_size z3m) : w.heap.size ≤ gb458)) (z1e ((by rw [hg]; exact (below_size z3m) : w.heap.size ≤ gb458)) (z3j : gb439 ≠ gb458) (z3k : gb458 ≠ gb439) ((by rw [hg]; exact Nat.ne_of_lt (blk_lt (zu BK443.out)) : gb443 ≠ gb458)) ((by rw [hg]; exact Nat.ne_of_gt (blk_lt (zu BK443.out)) : gb458 ≠ gb443)) ((by rw [hg]; exact blk_lt (zu BK439.out) : gb439 < gb458)) ((by rw [hg]; exact blk_lt (zu BK443.out) : gb443 < gb458)) ((by rw [hg]; exact Y.conv_far z3i : ∀ ad, Av440 = some ad → 0 < y440.length → ad.block < gb458))))))))); clear HO449 BK439 HRv440 BK443 HB; obtain ⟨HO449, BK439, HRv440, BK443, HB, BK458, GW458, GE458, NB439_458, NB458_439, NB443_458, NB458_443, NL439_458, NL443_458, HFv440⟩ := n_; clear hb hbox hg; have hnb16 := NB458_439.out; have hnc16 := NB439_458.out; have hnb17 := NB458_443.out; have hnc17 := NB443_458.out; obtain ⟨hcz18_0, hcz18_1, hcz18_2, hcz18_3, hcz18_4, hfz18_0, hfz18_1, hfz18_2, hfz18_3, hfz18_4⟩ := zg BK458.out))
  (try simp only [Act.put, z9e, z9f, z9g])
  go_cut [29] (fun v29 wc => ∃ (kq : Nat) (x29_5 : Bool), v29 = .bool x29_5 ∧ Aside0 (impl_GetEntry.j0 kq a0 t447 x29_5 t452 t453 t454 t455 t456 = some (r1, r2, r3, r4, r5, r6, r7)) ∧ Aside0 (kq ≤ k) ∧ Aside0 (Kd.R Kd.string 9 wc w.heap.size (fun _ => True) v448 t447) ∧ Aside0 (wc.heap[gb439]? = some (.cells #[.string ⟨#[]⟩, .int .i64 0, .int .i64 0, .int .i64 0, .string ⟨#[]⟩, (.slice none 0 0)] 28 (0, 0))) ∧ Aside0 (wc.heap[gb458]? = some (.cells #[.string t452, .int .i64 t453, .int .i64 t454, .int .i64 t455, .string t456] 35 (0, 0))) ∧ Aside0 (Below w.heap.size w wc))
  case first =>
   have H := HC6.out
   clear HC6
   by_cases c19 : t451 = true
   ·subst c19
    rw [if_pos rfl] at H
    have H' := zn H
    clear H
    have hnb20 := NB443_439.out
    have hnc20 := NB439_443.out
    have hnb21 := NB443_458.out
    have hnc21 := NB458_443.out
    obtain ⟨hcz22_0, hcz22_1, hcz22_2, hfz22_0, hfz22_1, hfz22_2⟩ := ze BK443.out
    go_wp2
    go_meet
    case rel => exact ⟨_, (true), z1n, H', ⟨z1v⟩, ⟨by (with_reducible repeat (first | apply Kd.R_alloc | apply Kd.R_drewN | apply Kd.R_drew)); exact Kd.R_mono (z1d gb458 4 (z1d gb458 3 (z1d gb458 2 (z1d gb458 1 (z1d gb458 0 (Kd.R_types HO449.out BK458.out z1l) (.string t452)) (.int .i64 t453)) (.int .i64 t454)) (.int .i64 t455)) (.string t456)) (fun _ hk => trivial)⟩, ⟨by (repeat (first | refine z1a ?_ | refine blk_far ?_ NB439_458.out _)); exact BK439.out⟩, ⟨by (repeat refine z1a ?_); refine blk_put (cs := #[.string t452, .int .i64 t453, .int .i64 t454, .int .i64 t455, .string ⟨#[]⟩]) ?_ 4 _ rfl; (repeat refine z1a ?_); refine blk_put (cs := #[.string t452, .int .i64 t453, .int .i64 t454, .int .i64 0, .string ⟨#[]⟩]) ?_ 3 _ rfl; (repeat refine z1a ?_); refine blk_put (cs := #[.string t452, .int .i64 t453, .int .i64 0, .int .i64 0, .string ⟨#[]⟩]) ?_ 2 _ rfl; (repeat refine z1a ?_); refine blk_put (cs := #[.string t452, .int .i64 0, .int .i64 0, .int .i64 0, .string ⟨#[]⟩]) ?_ 1 _ rfl; (repeat refine z1a ?_); refine blk_put (cs := #[.string ⟨#[]⟩, .int .i64 0, .int .i64 0, .int .i64 0, .string ⟨#[]⟩]) ?_ 0 _ rfl; (repeat refine z1a ?_); exact BK458.out⟩, ⟨by repeat (first | (with_reducible first | exact HB.out | apply below_alloc | apply pw_below_drewN | apply below_drew1 | refine below_set ?_ GE439.out | refine below_set ?_ GE443.out | refine below_set ?_ GE458.out) | exact HB.out)⟩⟩
   ·replace c19 := Bool.eq_false_iff.mpr c19
    subst c19
    rw [if_neg zk] at H
    have H' := zn H
    clear H
    have hnb23 := NB443_439.out
    have hnc23 := NB439_443.out
    have hnb24 := NB443_458.out
    have hnc24 := NB458_443.out
    obtain ⟨hcz25_0, hcz25_1, hcz25_2, hfz25_0, hfz25_1, hfz25_2⟩ := ze BK443.out
    go_wp2
    go_meet
    case rel => exact ⟨_, (!t457), z1n, H', ⟨z1v⟩, ⟨by (with_reducible repeat (first | apply Kd.R_alloc | apply Kd.R_drewN | apply Kd.R_drew)); exact Kd.R_mono (z1d gb458 4 (z1d gb458 3 (z1d gb458 2 (z1d gb458 1 (z1d gb458 0 (Kd.R_types HO449.out BK458.out z1l) (.string t452)) (.int .i64 t453)) (.int .i64 t454)) (.int .i64 t455)) (.string t456)) (fun _ hk => trivial)⟩, ⟨by (repeat (first | refine z1a ?_ | refine blk_far ?_ NB439_458.out _)); exact BK439.out⟩, ⟨by (repeat refine z1a ?_); refine blk_put (cs := #[.string t452, .int .i64 t453, .int .i64 t454, .int .i64 t455, .string ⟨#[]⟩]) ?_ 4 _ rfl; (repeat refine z1a ?_); refine blk_put (cs := #[.string t452, .int .i64 t453, .int .i64 t454, .int .i64 0, .string ⟨#[]⟩]) ?_ 3 _ rfl; (repeat refine z1a ?_); refine blk_put (cs := #[.string t452, .int .i64 t453, .int .i64 0, .int .i64 0, .string ⟨#[]⟩]) ?_ 2 _ rfl; (repeat refine z1a ?_); refine blk_put (cs := #[.string t452, .int .i64 0, .int .i64 0, .int .i64 0, .string ⟨#[]⟩]) ?_ 1 _ rfl; (repeat refine z1a ?_); refine blk_put (cs := #[.string ⟨#[]⟩, .int .i64 0, .int .i64 0, .int .i64 0, .string ⟨#[]⟩]) ?_ 0 _ rfl; (repeat refine z1a ?_); exact BK458.out⟩, ⟨by repeat (first | (with_reducible first | exact HB.out | apply below_alloc | apply pw_below_drewN | apply below_drew1 | refine below_set ?_ GE439.out | refine below_set ?_ GE443.out | refine below_set ?_ GE458.out) | exact HB.out)⟩⟩
  case rest =>
   clear HC6
   try clear c1
   try clear c2
   try clear c2b0
   try clear c2b1
   try clear c2b2
   try clear p2
   try clear c10
   try clear c12
   try clear c13
   try clear c16
   try clear c17
   try clear c19
   try clear c20
   try clear c21
   try clear c23
   try clear c24
   try clear hcz11_0
   try clear hcz11_1
   try clear hcz11_2
   try clear hcz18_0
   try clear hcz18_1
   try clear hcz18_2
   try clear hcz18_3
   try clear hcz18_4
   try clear hcz22_0
   try clear hcz22_1
   try clear hcz22_2
   try clear hcz25_0
   try clear hcz25_1
   try clear hcz25_2
   try clear hfz11_0
   try clear hfz11_1
   try clear hfz11_2
   try clear hfz18_0
   try clear hfz18_1
   try clear hfz18_2
   try clear hfz18_3
   try clear hfz18_4
   try clear hfz22_0
   try clear hfz22_1
   try clear hfz22_2
   try clear hfz25_0
   try clear hfz25_1
   try clear hfz25_2
   obtain ⟨kq, x29_5, rfl, HA, HJ5, HO_6, BK439, BK458, HB⟩ := hcut
   cases kq with
   | zero => exact absurd HA.out (by simp [impl_GetEntry.j0])
   | succ kj5 =>
    have H := HA.out
    clear HA
    simp only [impl_GetEntry.j0] at H
    by_cases c26 : x29_5 = true
    ·subst c26
     rw [if_pos rfl] at H
     simp only [Option.some.injEq, Prod.mk.injEq] at H
     obtain ⟨rfl, rfl, rfl, rfl, rfl, rfl, rfl⟩ := H
     have hnb27 := NB439_458.out
     have hnc27 := NB458_439.out
     obtain ⟨hcz28_0, hcz28_1, hcz28_2, hcz28_3, hcz28_4, hcz28_5, hfz28_0, hfz28_1, hfz28_2, hfz28_3, hfz28_4, hfz28_5⟩ := zh BK439.out
     go_wp2
     refine bodyPost_ret (results_ct rfl _ _ gb439 28 #[.string ⟨#[]⟩, .int .i64 0, .int .i64 0, .int .i64 0, .string ⟨#[]⟩, .slice none 0 0] (0, 0) _ rfl (by (repeat refine z1a ?_); refine blk_put (cs := #[.string ⟨#[]⟩, .int .i64 0, .int .i64 0, .int .i64 0, .string ⟨#[]⟩, .slice none 0 0]) ?_ 5 _ rfl; (repeat refine z1a ?_); refine blk_put (cs := #[.string ⟨#[]⟩, .int .i64 0, .int .i64 0, .int .i64 0, .string ⟨#[]⟩, .slice none 0 0]) ?_ 4 _ rfl; (repeat refine z1a ?_); refine blk_put (cs := #[.string ⟨#[]⟩, .int .i64 0, .int .i64 0, .int .i64 0, .string ⟨#[]⟩, .slice none 0 0]) ?_ 3 _ rfl; (repeat refine z1a ?_); refine blk_put (cs := #[.string ⟨#[]⟩, .int .i64 0, .int .i64 0, .int .i64 0, .string ⟨#[]⟩, .slice none 0 0]) ?_ 2 _ rfl; (repeat refine z1a ?_); refine blk_put (cs := #[.string ⟨#[]⟩, .int .i64 0, .int .i64 0, .int .i64 0, .string ⟨#[]⟩, .slice none 0 0]) ?_ 1 _ rfl; (repeat refine z1a ?_); refine blk_put (cs := #[.string ⟨#[]⟩, .int .i64 0, .int .i64 0, .int .i64 0, .string ⟨#[]⟩, .slice none 0 0]) ?_ 0 _ rfl; (repeat refine z1a ?_); exact BK439.out) Tryz.underlying28 rfl z1m) rfl ?_
     exact ⟨_, z1t, z2p, z3n⟩
    ·replace c26 := Bool.eq_false_iff.mpr c26
     subst c26
     rw [if_neg zk] at H
     have H' := zn H
     clear H
     have hnb29 := NB458_439.out
     have hnc29 := NB439_458.out
     obtain ⟨hcz30_0, hcz30_1, hcz30_2, hcz30_3, hcz30_4, hfz30_0, hfz30_1, hfz30_2, hfz30_3, hfz30_4⟩ := zg BK458.out
     go_wp2_with (first | ((with_reducible refine zr 9 rfl ?_); refine zt 28 #[.string ⟨#[]⟩, .int .i64 0, .int .i64 0, .int .i64 0, .string ⟨#[]⟩, .slice none 0 0] ?_; intro gb459 hg w31 hbox hb; have n_ := z1g (Kd.R_below (by (with_reducible repeat (first | apply Kd.R_alloc | apply Kd.R_drewN | apply Kd.R_drew)); exact HO_6.out) hb) (z1g (blk_below (zu BK439.out) hb) (z1g (blk_below (zu BK458.out) hb) (z1e (below_step z3n hb) hbox ((by rw [hg]; exact (below_size z3n) : w.heap.size ≤ gb459)) ((by rw [hg]; exact (below_size z3n) : w.heap.size ≤ gb459)) (z3j : gb439 ≠ gb459) (z3k : gb459 ≠ gb439) (z3o : gb458 ≠ gb459) (z3p : gb459 ≠ gb458)))); clear HO_6 BK439 BK458 HB; obtain ⟨HO_6, BK439, BK458, HB, BK459, GW459, GE459, NB439_459, NB459_439, NB458_459, NB459_458⟩ := n_; clear hb hbox hg; have hnb32 := NB459_439.out; have hnc32 := NB439_459.out; have hnb33 := NB459_458.out; have hnc33 := NB458_459.out; obtain ⟨hcz34_0, hcz34_1, hcz34_2, hcz34_3, hcz34_4, hcz34_5, hfz34_0, hfz34_1, hfz34_2, hfz34_3, hfz34_4, hfz34_5⟩ := zh BK459.out; obtain ⟨Ao35, co35, eo35⟩ := Kd.R_slice HO_6.out; subst eo35))
     go_loopg [38] kj5 (fun kq v38 w' => ∃ (x38_2 : Int) (x440000_2 : ByteArray) (x440001_2 : Int) (x440002_2 : Int) (x440003_2 : Int) (x440004_2 : ByteArray) (x460005_2 : List (S35)) (u460005 : Value), v38 = .int .i64 x38_2 ∧ Aside0 (impl_GetEntry.l0 kq a0 t447 (t447.length : Int) x38_2 t452 t453 t454 t455 t456 x460005_2 = some (r1, r2, r3, r4, r5, r6, r7)) ∧ Aside0 (kq ≤ kj5) ∧ Aside0 (Kd.R Kd.string 9 w' w.heap.size (fun _ => True) (.slice Ao35 t447.length co35) t447) ∧ Aside0 (Kd.R k35 35 w' w.heap.size (fun k_ => k_ ≠ gb458) u460005 x460005_2) ∧ Aside0 (w'.heap[gb439]? = some (.cells #[.string x440000_2, .int .i64 x440001_2, .int .i64 x440002_2, .int .i64 x440003_2, .string x440004_2, (.slice none 0 0)] 28 (0, 0))) ∧ Aside0 (w'.heap[gb458]? = some (.cells #[.string t452, .int .i64 t453, .int .i64 t454, .int .i64 t455, .string t456] 35 (0, 0))) ∧ Aside0 (w'.heap[gb459]? = some (.cells #[.string t452, .int .i64 t453, .int .i64 t454, .int .i64 t455, .string t456, u460005] 28 (0, 0))) ∧ Aside0 (Below w.heap.size w w'))
     case atStart => exact ⟨(0), ((⟨#[]⟩ : ByteArray)), (0), (0), (0), ((⟨#[]⟩ : ByteArray)), (([] : List (S35))), (.slice none 0 0), z1n, H', ⟨Nat.le_refl _⟩, ⟨by (with_reducible repeat (first | apply Kd.R_alloc | apply Kd.R_drewN | apply Kd.R_drew)); exact Kd.R_mono (z1d gb459 5 (z1d gb459 4 (z1d gb459 3 (z1d gb459 2 (z1d gb459 1 (z1d gb459 0 (Kd.R_types HO_6.out BK459.out z1l) (.string t452)) (.int .i64 t453)) (.int .i64 t454)) (.int .i64 t455)) (.string t456)) (.slice none 0 0)) (fun _ hk => trivial)⟩, ⟨z2p⟩, ⟨by (repeat (first | refine z1a ?_ | refine blk_far ?_ NB439_459.out _)); exact BK439.out⟩, ⟨by (repeat (first | refine z1a ?_ | refine blk_far ?_ NB458_459.out _)); exact BK458.out⟩, ⟨by (repeat refine z1a ?_); refine blk_put (cs := #[.string t452, .int .i64 t453, .int .i64 t454, .int .i64 t455, .string t456, .slice none 0 0]) ?_ 5 _ rfl; (repeat refine z1a ?_); refine blk_put (cs := #[.string t452, .int .i64 t453, .int .i64 t454, .int .i64 t455, .string ⟨#[]⟩, .slice none 0 0]) ?_ 4 _ rfl; (repeat refine z1a ?_); refine blk_put (cs := #[.string t452, .int .i64 t453, .int .i64 t454, .int .i64 0, .string ⟨#[]⟩, .slice none 0 0]) ?_ 3 _ rfl; (repeat refine z1a ?_); refine blk_put (cs := #[.string t452, .int .i64 t453, .int .i64 0, .int .i64 0, .string ⟨#[]⟩, .slice none 0 0]) ?_ 2 _ rfl; (repeat refine z1a ?_); refine blk_put (cs := #[.string t452, .int .i64 0, .int .i64 0, .int .i64 0, .string ⟨#[]⟩, .slice none 0 0]) ?_ 1 _ rfl; (repeat refine z1a ?_); refine blk_put (cs := #[.string ⟨#[]⟩, .int .i64 0, .int .i64 0, .int .i64 0, .string ⟨#[]⟩, .slice none 0 0]) ?_ 0 _ rfl; (repeat refine z1a ?_); exact BK459.out⟩, ⟨z3q⟩⟩
     case round =>
      clear H'
      try clear c1
      try clear c2
      try clear c2b0
      try clear c2b1
      try clear c2b2
      try clear p2
      try clear c3
      try clear c10
      try clear c12
      try clear c13
      try clear c16
      try clear c17
      try clear c19
      try clear c20
      try clear c21
      try clear c23
      try clear c24
      try clear c26
      try clear c27
      try clear c29
      try clear c32
      try clear c33
      try clear hcz11_0
      try clear hcz11_1
      try clear hcz11_2
      try clear hcz18_0
      try clear hcz18_1
      try clear hcz18_2
      try clear hcz18_3
      try clear hcz18_4
      try clear hcz22_0
      try clear hcz22_1
      try clear hcz22_2
      try clear hcz25_0
      try clear hcz25_1
      try clear hcz25_2
      try clear hcz28_0
      try clear hcz28_1
      try clear hcz28_2
      try clear hcz28_3
      try clear hcz28_4
      try clear hcz28_5
      try clear hcz30_0
      try clear hcz30_1
      try clear hcz30_2
      try clear hcz30_3
      try clear hcz30_4
      try clear hcz34_0
      try clear hcz34_1
      try clear hcz34_2
      try clear hcz34_3
      try clear hcz34_4
      try clear hcz34_5
      try clear hfz11_0
      try clear hfz11_1
      try clear hfz11_2
      try clear hfz18_0
      try clear hfz18_1
      try clear hfz18_2
      try clear hfz18_3
      try clear hfz18_4
      try clear hfz22_0
      try clear hfz22_1
      try clear hfz22_2
      try clear hfz25_0
      try clear hfz25_1
      try clear hfz25_2
      try clear hfz28_0
      try clear hfz28_1
      try clear hfz28_2
      try clear hfz28_3
      try clear hfz28_4
      try clear hfz28_5
      try clear hfz30_0
      try clear hfz30_1
      try clear hfz30_2
      try clear hfz30_3
      try clear hfz30_4
      try clear hfz34_0
      try clear hfz34_1
      try clear hfz34_2
      try clear hfz34_3
      try clear hfz34_4
      try clear hfz34_5
      try clear p2
      obtain ⟨x38_2, x440000_2, x440001_2, x440002_2, x440003_2, x440004_2, x460005_2, u460005, rfl, HA, HK2, HO_36, HO_460005, BK439, BK458, BK459, HB⟩ := hrel
      cases gk with
      | zero => exact absurd HA.out (by simp [impl_GetEntry.l0])
      | succ k2 =>
       have H := HA.out
       clear HA
       simp only [impl_GetEntry.l0] at H
       by_cases c36 : x38_2 < (t447.length : Int)
       ·rw [if_pos c36] at H
        have c36b0 := decide_eq_true c36
        clear c36
        by_cases c37 : 0 ≤ x38_2
        ·rw [if_pos c37] at H
         have c37b0 := decide_eq_true c37
         clear c37
         by_cases c38 : x38_2 < (t447.length : Int)
         ·rw [if_pos c38] at H
          have c38b0 := decide_eq_true c38
          clear c38
          obtain ⟨⟨t461, t462, t463, t464, t465, t466⟩, A39, H⟩ := zm H
          try dsimp only at H
          by_cases c40 : t466 = true
          ·subst c40
           rw [if_pos rfl] at H
           by_cases c41 : x460005_2.length < 2513169434916
           ·rw [if_pos c41] at H
            have LMc41 := zn c41
            clear c41
            obtain ⟨y468, hy468⟩ : ∃ y_ : List (S35), y_ = (x460005_2 ++ [(⟨t461, (⟨t462, t463, t464, t465⟩ : S25)⟩ : S35)]) := ⟨_, rfl⟩
            replace H : (impl_GetEntry.l0 k2 a0 t447 (t447.length : Int) (wrap64 (x38_2 + 1)) t452 t453 t454 t455 t456 y468) = some (r1, r2, r3, r4, r5, r6, r7) := by first | (rw [hy468]; with_reducible exact H) | (have H2_ := (Option.bind_some _ _).symm.trans H; rw [hy468]; with_reducible exact H2_) | (have H2_ := (Option.bind_some _ _).symm.trans H; with_reducible exact H2_) | with_reducible exact H | (rw [hy468]; exact H) | exact H
            have Ny468 := zn hy468
            clear hy468
            have H' := zn H
            clear H
            have p460 : 0 ≤ (x38_2 : Int) := of_decide_eq_true z1p
            have q460 : x38_2 < (t447.length : Int) := of_decide_eq_true z1p
            obtain ⟨ad460, e460, hx460_0⟩ := Kd.at_string (Kd.R_reads' HO_36.out).2.2 x38_2 p460 q460
            cases e460
            replace p460 := eq_true p460
            replace q460 := eq_true q460
            go_wp2_with (first | ((with_reducible refine zi 13 rfl ?_); refine zj (some 44) Tryz.func13 #[.string (rdOf ByteArray.empty t447 x38_2)] rfl ?_; (with_reducible refine (impl_ParseName.calls (hG_ := globI_on HG_.out z2j) k2 (rdOf ByteArray.empty t447 x38_2) t461 t462 t463 t464 t465 true _ A39.out).mono ?_); rintro e w42 ⟨rfl, hb⟩; refine ⟨_, rfl, ?_⟩; have n_ := z1i (Kd.R_below z3r hb) (Kd.R_below z3s hb) (blk_below (zu BK439.out) hb) (blk_below (zu BK458.out) hb) (blk_below (zu BK459.out) hb) (below_step z3q hb); clear HO_36 HO_460005 BK439 BK458 BK459 HB; obtain ⟨HO_36, HO_460005, BK439, BK458, BK459, HB⟩ := n_; (try clear hb)) | ((with_reducible refine zr 12 rfl ?_); refine zt 35 #[.string ⟨#[]⟩, .int .i64 0, .int .i64 0, .int .i64 0, .string ⟨#[]⟩] ?_; intro gb467 hg w43 hbox hb; have n_ := z1g (Kd.R_below z3r hb) (z1g (Kd.R_below (Kd.R_elderB z3s gb467 (Nat.le_of_eq hg.symm)) hb) (z1g (blk_below (zu BK439.out) hb) (z1g (blk_below (zu BK458.out) hb) (z1g (blk_below (zu BK459.out) hb) (z1g (below_step z3q hb) (z1g hbox (z1e (z8o : w.heap.size ≤ gb467) (z8o : w.heap.size ≤ gb467) (z3j : gb439 ≠ gb467) (z3k : gb467 ≠ gb439) (z3o : gb458 ≠ gb467) (z3p : gb467 ≠ gb458) ((by rw [hg]; exact Nat.ne_of_lt (blk_lt (zu BK459.out)) : gb459 ≠ gb467)) ((by rw [hg]; exact Nat.ne_of_gt (blk_lt (zu BK459.out)) : gb467 ≠ gb459))))))))); clear HO_36 HO_460005 BK439 BK458 BK459 HB; obtain ⟨HO_36, HO_460005, BK439, BK458, BK459, HB, BK467, GW467, GE467, NB439_467, NB467_439, NB458_467, NB467_458, NB459_467, NB467_459⟩ := n_; clear hb hbox hg; have hnb44 := NB467_439.out; have hnc44 := NB439_467.out; have hnb45 := NB467_458.out; have hnc45 := NB458_467.out; have hnb46 := NB467_459.out; have hnc46 := NB459_467.out; obtain ⟨hcz47_0, hcz47_1, hcz47_2, hcz47_3, hcz47_4, hfz47_0, hfz47_1, hfz47_2, hfz47_3, hfz47_4⟩ := zg BK467.out; have hnb48 := NB459_439.out; have hnc48 := NB439_459.out; have hnb49 := NB459_458.out; have hnc49 := NB458_459.out; obtain ⟨hcz50_0, hcz50_1, hcz50_2, hcz50_3, hcz50_4, hcz50_5, hfz50_0, hfz50_1, hfz50_2, hfz50_3, hfz50_4, hfz50_5⟩ := zh BK459.out) | ((with_reducible refine gate_builtin (b := .append) (xs := #[.tmp 51, .tmp 53]) rfl ?_); at_builtin; refine Kd.R_append k35 (w0 := w) w.heap.size rfl (.tmp 51) (.tmp 53) 26 35 (.agg #[(.string ⟨#[]⟩), (.int .i64 0), (.int .i64 0), (.int .i64 0), (.string ⟨#[]⟩)]) 56 rfl Tryz.underlying26 info35 rfl z1l z1k u460005 x460005_2 (⟨t461, (⟨t462, t463, t464, t465⟩ : S25)⟩ : S35) [.string t461, .int .i64 t462, .int .i64 t463, .int .i64 t464, .string t465] (fun k_ => k_ ≠ gb458 ∧ k_ ≠ gb467) (fun _ => False) rfl z3t ?aP (fun _ hk => hk.elim) ?aF ?aO ?aB ?aS ?aL ?_; (case aP => exact k35_mkM _ _ _ (⟨t461, (⟨t462, t463, t464, t465⟩ : S25)⟩ : S35)); (case aB => exact z3u); (case aF => exact (fun k_ hk => ⟨Kd.freshB (g := gb458) (o := .cells #[.string t452, .int .i64 t453, .int .i64 t454, .int .i64 t455, .string t456] 35 (0, 0)) (by (repeat (first | refine z1a ?_ | refine blk_far ?_ NB458_467.out _)); exact BK458.out) k_ hk, Kd.freshB (g := gb467) (o := .cells #[.string t461, .int .i64 t462, .int .i64 t463, .int .i64 t464, .string t465] 35 (0, 0)) (by (repeat refine z1a ?_); refine blk_put (cs := #[.string t461, .int .i64 t462, .int .i64 t463, .int .i64 t464, .string ⟨#[]⟩]) ?_ 4 _ rfl; (repeat refine z1a ?_); refine blk_put (cs := #[.string t461, .int .i64 t462, .int .i64 t463, .int .i64 0, .string ⟨#[]⟩]) ?_ 3 _ rfl; (repeat refine z1a ?_); refine blk_put (cs := #[.string t461, .int .i64 t462, .int .i64 0, .int .i64 0, .string ⟨#[]⟩]) ?_ 2 _ rfl; (repeat refine z1a ?_); refine blk_put (cs := #[.string t461, .int .i64 0, .int .i64 0, .int .i64 0, .string ⟨#[]⟩]) ?_ 1 _ rfl; (repeat refine z1a ?_); refine blk_put (cs := #[.string ⟨#[]⟩, .int .i64 0, .int .i64 0, .int .i64 0, .string ⟨#[]⟩]) ?_ 0 _ rfl; (repeat refine z1a ?_); exact BK467.out) k_ hk⟩)); (case aO => exact (by (with_reducible repeat (first | apply Kd.R_alloc | apply Kd.R_drewN | apply Kd.R_drew)); exact Kd.R_mono (z1d gb467 4 (z1d gb467 3 (z1d gb467 2 (z1d gb467 1 (z1d gb467 0 (Kd.R_mono HO_460005.out (fun k_ hk => (⟨hk, hk.2⟩ : _ ∧ k_ ≠ gb467))) (.string t461)) (.int .i64 t462)) (.int .i64 t463)) (.int .i64 t464)) (.string t465)) (fun _ hk => ⟨hk.1.1, hk.1.2⟩))); (case aS => exact (below_size z3u)); (case aL => have := LMc41.out; omega); intro v469 w51 ho hb hg hat; rw [← Ny468.out] at ho; have n_ := z1b (Kd.R_over' (by (with_reducible repeat (first | apply Kd.R_alloc | apply Kd.R_drewN | apply Kd.R_drew)); exact (Kd.R_mono (z1d gb467 4 (z1d gb467 3 (z1d gb467 2 (z1d gb467 1 (z1d gb467 0 (Kd.R_types HO_36.out BK467.out z1l) (.string t461)) (.int .i64 t462)) (.int .i64 t463)) (.int .i64 t464)) (.string t465)) (fun _ h_ => h_.1))) (Kd.R_typed (by (with_reducible repeat (first | apply Kd.R_alloc | apply Kd.R_drewN | apply Kd.R_drew)); exact (Kd.R_mono (z1d gb467 4 (z1d gb467 3 (z1d gb467 2 (z1d gb467 1 (z1d gb467 0 (Kd.R_mono HO_460005.out (fun k_ hk => (⟨hk, hk.2⟩ : _ ∧ k_ ≠ gb467))) (.string t461)) (.int .i64 t462)) (.int .i64 t463)) (.int .i64 t464)) (.string t465)) (fun _ h_ => h_.1)))) z1l hg) (blk_grown (g := gb439) (o := .cells #[.string x440000_2, .int .i64 x440001_2, .int .i64 x440002_2, .int .i64 x440003_2, .string x440004_2, .slice none 0 0] 28 (0, 0)) (by (repeat (first | refine z1a ?_ | refine blk_far ?_ NB439_467.out _)); exact BK439.out) hg (Kd.R_ne HO_460005.out BK439.out z1l)) (blk_grown (g := gb458) (o := .cells #[.string t452, .int .i64 t453, .int .i64 t454, .int .i64 t455, .string t456] 35 (0, 0)) (by (repeat (first | refine z1a ?_ | refine blk_far ?_ NB458_467.out _)); exact BK458.out) hg (Kd.R_away HO_460005.out (fun _ hk => hk.1))) (blk_grown (g := gb459) (o := .cells #[.string t452, .int .i64 t453, .int .i64 t454, .int .i64 t455, .string t456, u460005] 28 (0, 0)) (by (repeat (first | refine z1a ?_ | refine blk_far ?_ NB459_467.out _)); exact BK459.out) hg (Kd.R_ne HO_460005.out BK459.out z1l)) (blk_grown (g := gb467) (o := .cells #[.string t461, .int .i64 t462, .int .i64 t463, .int .i64 t464, .string t465] 35 (0, 0)) (by (repeat refine z1a ?_); refine blk_put (cs := #[.string t461, .int .i64 t462, .int .i64 t463, .int .i64 t464, .string ⟨#[]⟩]) ?_ 4 _ rfl; (repeat refine z1a ?_); refine blk_put (cs := #[.string t461, .int .i64 t462, .int .i64 t463, .int .i64 0, .string ⟨#[]⟩]) ?_ 3 _ rfl; (repeat refine z1a ?_); refine blk_put (cs := #[.string t461, .int .i64 t462, .int .i64 0, .int .i64 0, .string ⟨#[]⟩]) ?_ 2 _ rfl; (repeat refine z1a ?_); refine blk_put (cs := #[.string t461, .int .i64 0, .int .i64 0, .int .i64 0, .string ⟨#[]⟩]) ?_ 1 _ rfl; (repeat refine z1a ?_); refine blk_put (cs := #[.string ⟨#[]⟩, .int .i64 0, .int .i64 0, .int .i64 0, .string ⟨#[]⟩]) ?_ 0 _ rfl; (repeat refine z1a ?_); exact BK467.out) hg (Kd.R_away HO_460005.out (fun _ hk => hk.2))) hb ho; clear HO_36 BK439 BK458 BK459 BK467 HB HO_460005; obtain ⟨HO_36, BK439, BK458, BK459, BK467, HB, HO470⟩ := n_; clear ho hb hg hat; obtain ⟨Ao52, co52, eo52⟩ := Kd.R_slice HO470.out; subst eo52; obtain ⟨hcz53_0, hcz53_1, hcz53_2, hcz53_3, hcz53_4, hcz53_5, hfz53_0, hfz53_1, hfz53_2, hfz53_3, hfz53_4, hfz53_5⟩ := zh BK459.out))
            go_roundg k2
            case measure => have := HJ5.out; have := HK2.out; omega
            case rel => exact ⟨(wrap64 (x38_2 + 1)), (x440000_2), (x440001_2), (x440002_2), (x440003_2), (x440004_2), (y468), (.slice Ao52 y468.length co52), z1n, H', ⟨by have := HJ5.out; have := HK2.out; omega⟩, ⟨by (with_reducible repeat (first | apply Kd.R_alloc | apply Kd.R_drewN | apply Kd.R_drew)); exact Kd.R_mono (z1d gb459 5 (Kd.R_types HO_36.out BK459.out z1l) (.slice Ao52 y468.length co52)) (fun _ hk => trivial)⟩, ⟨by (with_reducible repeat (first | apply Kd.R_alloc | apply Kd.R_drewN | apply Kd.R_drew)); exact Kd.R_mono (z1d gb459 5 (Kd.R_types HO470.out BK459.out z1l) (.slice Ao52 y468.length co52)) (fun _ hk => hk.1.1)⟩, ⟨by (repeat refine z1a ?_); refine blk_far ?_ NB439_459.out _; (repeat refine z1a ?_); exact BK439.out⟩, ⟨by (repeat refine z1a ?_); refine blk_far ?_ NB458_459.out _; (repeat refine z1a ?_); exact BK458.out⟩, ⟨by (repeat refine z1a ?_); refine blk_put (cs := #[.string t452, .int .i64 t453, .int .i64 t454, .int .i64 t455, .string t456, u460005]) ?_ 5 _ rfl; (repeat refine z1a ?_); exact BK459.out⟩, ⟨z3u⟩⟩
           ·rw [if_neg c41] at H
            exact absurd H (by simp)
          ·replace c40 := Bool.eq_false_iff.mpr c40
           subst c40
           rw [if_neg zk] at H
           simp only [Option.some.injEq, Prod.mk.injEq] at H
           obtain ⟨rfl, rfl, rfl, rfl, rfl, rfl, rfl⟩ := H
           have p460 : 0 ≤ (x38_2 : Int) := of_decide_eq_true z1p
           have q460 : x38_2 < (t447.length : Int) := of_decide_eq_true z1p
           obtain ⟨ad460, e460, hx460_0⟩ := Kd.at_string (Kd.R_reads' HO_36.out).2.2 x38_2 p460 q460
           cases e460
           replace p460 := eq_true p460
           replace q460 := eq_true q460
           go_wp2_with (first | ((with_reducible refine zi 13 rfl ?_); refine zj (some 44) Tryz.func13 #[.string (rdOf ByteArray.empty t447 x38_2)] rfl ?_; (with_reducible refine (impl_ParseName.calls (hG_ := globI_on HG_.out z2j) k2 (rdOf ByteArray.empty t447 x38_2) t461 t462 t463 t464 t465 false _ A39.out).mono ?_); rintro e w54 ⟨rfl, hb⟩; refine ⟨_, rfl, ?_⟩; have n_ := z1i (Kd.R_below z3r hb) (Kd.R_below z3s hb) (blk_below (zu BK439.out) hb) (blk_below (zu BK458.out) hb) (blk_below (zu BK459.out) hb) (below_step z3q hb); clear HO_36 HO_460005 BK439 BK458 BK459 HB; obtain ⟨HO_36, HO_460005, BK439, BK458, BK459, HB⟩ := n_; (try clear hb)) | ((with_reducible refine zr 12 rfl ?_); refine zt 35 #[.string ⟨#[]⟩, .int .i64 0, .int .i64 0, .int .i64 0, .string ⟨#[]⟩] ?_; intro gb467 hg w55 hbox hb; have n_ := z1g (Kd.R_below z3r hb) (z1g (Kd.R_below (Kd.R_elderB z3s gb467 (Nat.le_of_eq hg.symm)) hb) (z1g (blk_below (zu BK439.out) hb) (z1g (blk_below (zu BK458.out) hb) (z1g (blk_below (zu BK459.out) hb) (z1g (below_step z3q hb) (z1g hbox (z1e (z8o : w.heap.size ≤ gb467) (z8o : w.heap.size ≤ gb467) (z3j : gb439 ≠ gb467) (z3k : gb467 ≠ gb439) (z3o : gb458 ≠ gb467) (z3p : gb467 ≠ gb458) ((by rw [hg]; exact Nat.ne_of_lt (blk_lt (zu BK459.out)) : gb459 ≠ gb467)) ((by rw [hg]; exact Nat.ne_of_gt (blk_lt (zu BK459.out)) : gb467 ≠ gb459))))))))); clear HO_36 HO_460005 BK439 BK458 BK459 HB; obtain ⟨HO_36, HO_460005, BK439, BK458, BK459, HB, BK467, GW467, GE467, NB439_467, NB467_439, NB458_467, NB467_458, NB459_467, NB467_459⟩ := n_; clear hb hbox hg; have hnb56 := NB467_439.out; have hnc56 := NB439_467.out; have hnb57 := NB467_458.out; have hnc57 := NB458_467.out; have hnb58 := NB467_459.out; have hnc58 := NB459_467.out; obtain ⟨hcz59_0, hcz59_1, hcz59_2, hcz59_3, hcz59_4, hfz59_0, hfz59_1, hfz59_2, hfz59_3, hfz59_4⟩ := zg BK467.out; have hnb60 := NB439_458.out; have hnc60 := NB458_439.out; have hnb61 := NB439_459.out; have hnc61 := NB459_439.out; obtain ⟨hcz62_0, hcz62_1, hcz62_2, hcz62_3, hcz62_4, hcz62_5, hfz62_0, hfz62_1, hfz62_2, hfz62_3, hfz62_4, hfz62_5⟩ := zh BK439.out))
           refine bodyPost_ret (results_ct rfl _ _ gb439 28 #[.string ⟨#[]⟩, .int .i64 0, .int .i64 0, .int .i64 0, .string ⟨#[]⟩, .slice none 0 0] (0, 0) _ rfl (by (repeat refine z1a ?_); refine blk_put (cs := #[.string ⟨#[]⟩, .int .i64 0, .int .i64 0, .int .i64 0, .string ⟨#[]⟩, .slice none 0 0]) ?_ 5 _ rfl; (repeat refine z1a ?_); refine blk_put (cs := #[.string ⟨#[]⟩, .int .i64 0, .int .i64 0, .int .i64 0, .string x440004_2, .slice none 0 0]) ?_ 4 _ rfl; (repeat refine z1a ?_); refine blk_put (cs := #[.string ⟨#[]⟩, .int .i64 0, .int .i64 0, .int .i64 x440003_2, .string x440004_2, .slice none 0 0]) ?_ 3 _ rfl; (repeat refine z1a ?_); refine blk_put (cs := #[.string ⟨#[]⟩, .int .i64 0, .int .i64 x440002_2, .int .i64 x440003_2, .string x440004_2, .slice none 0 0]) ?_ 2 _ rfl; (repeat refine z1a ?_); refine blk_put (cs := #[.string ⟨#[]⟩, .int .i64 x440001_2, .int .i64 x440002_2, .int .i64 x440003_2, .string x440004_2, .slice none 0 0]) ?_ 1 _ rfl; (repeat refine z1a ?_); refine blk_put (cs := #[.string x440000_2, .int .i64 x440001_2, .int .i64 x440002_2, .int .i64 x440003_2, .string x440004_2, .slice none 0 0]) ?_ 0 _ rfl; (repeat (first | refine z1a ?_ | refine blk_far ?_ NB439_467.out _)); exact BK439.out) Tryz.underlying28 rfl z1m) rfl ?_
           exact ⟨_, z1t, z2p, z3u⟩
         ·rw [if_neg c38] at H
          exact absurd H (by simp)
        ·rw [if_neg c37] at H
         exact absurd H (by simp)
       ·rw [if_neg c36] at H
        have c36b0 := decide_eq_false c36
        clear c36
        obtain ⟨t471, A63, H⟩ := zm H
        try dsimp only at H
        by_cases c64 : t471.toList = a0.toList
        ·rw [if_pos c64] at H
         have c64b0 := beq_iff_eq.mpr c64
         have c64b1 := bne_eq_false_iff_eq.mpr c64
         clear c64
         simp only [Option.some.injEq, Prod.mk.injEq] at H
         obtain ⟨rfl, rfl, rfl, rfl, rfl, rfl, rfl⟩ := H
         have hnb65 := NB459_439.out
         have hnc65 := NB439_459.out
         have hnb66 := NB459_458.out
         have hnc66 := NB458_459.out
         obtain ⟨hcz67_0, hcz67_1, hcz67_2, hcz67_3, hcz67_4, hcz67_5, hfz67_0, hfz67_1, hfz67_2, hfz67_3, hfz67_4, hfz67_5⟩ := zh BK459.out
         obtain ⟨Ao68, co68, eo68⟩ := Kd.R_slice HO_460005.out
         subst eo68
         go_wp2_with (first | ((with_reducible refine zi 9 rfl ?_); refine zj (some 58) Tryz.func9 #[.agg #[.string t452, .int .i64 t453, .int .i64 t454, .int .i64 t455, .string t456, .slice Ao68 x460005_2.length co68]] rfl ?_; (with_reducible refine (impl_PutEntry.calls (hG_ := globI_on HG_.out z2j) k2 t452 t453 t454 t455 t456 _ _ x460005_2 t471 _ ?side1 ?side2 A63.out).mono ?_); (case side1 => repeat (first | exact (Kd.R_reads' HO_460005.out).2.2 | (with_reducible refine Kd.C_alloc ?_ _) | (with_reducible refine Kd.C_drewN ?_ _) | (with_reducible refine Kd.C_drew ?_))); (case side2 => exact (Kd.R_reads' HO_460005.out).2.1); rintro e w69 ⟨rfl, hb⟩; refine ⟨_, rfl, ?_⟩; have n_ := z1i (Kd.R_below z3r hb) (Kd.R_below z3s hb) (blk_below (zu BK439.out) hb) (blk_below (zu BK458.out) hb) (blk_below (zu BK459.out) hb) (below_step z3q hb); clear HO_36 HO_460005 BK439 BK458 BK459 HB; obtain ⟨HO_36, HO_460005, BK439, BK458, BK459, HB⟩ := n_; (try clear hb); obtain ⟨hcz70_0, hcz70_1, hcz70_2, hcz70_3, hcz70_4, hcz70_5, hfz70_0, hfz70_1, hfz70_2, hfz70_3, hfz70_4, hfz70_5⟩ := zh BK459.out; have hnb71 := NB439_458.out; have hnc71 := NB458_439.out; obtain ⟨hcz72_0, hcz72_1, hcz72_2, hcz72_3, hcz72_4, hcz72_5, hfz72_0, hfz72_1, hfz72_2, hfz72_3, hfz72_4, hfz72_5⟩ := zh BK439.out))
         refine bodyPost_ret (results_ct rfl _ _ gb439 28 #[.string t452, .int .i64 t453, .int .i64 t454, .int .i64 t455, .string t456, .slice Ao68 x460005_2.length co68] (0, 0) _ rfl (by (repeat refine z1a ?_); refine blk_put (cs := #[.string t452, .int .i64 t453, .int .i64 t454, .int .i64 t455, .string t456, .slice none 0 0]) ?_ 5 _ rfl; (repeat refine z1a ?_); refine blk_put (cs := #[.string t452, .int .i64 t453, .int .i64 t454, .int .i64 t455, .string x440004_2, .slice none 0 0]) ?_ 4 _ rfl; (repeat refine z1a ?_); refine blk_put (cs := #[.string t452, .int .i64 t453, .int .i64 t454, .int .i64 x440003_2, .string x440004_2, .slice none 0 0]) ?_ 3 _ rfl; (repeat refine z1a ?_); refine blk_put (cs := #[.string t452, .int .i64 t453, .int .i64 x440002_2, .int .i64 x440003_2, .string x440004_2, .slice none 0 0]) ?_ 2 _ rfl; (repeat refine z1a ?_); refine blk_put (cs := #[.string t452, .int .i64 x440001_2, .int .i64 x440002_2, .int .i64 x440003_2, .string x440004_2, .slice none 0 0]) ?_ 1 _ rfl; (repeat refine z1a ?_); refine blk_put (cs := #[.string x440000_2, .int .i64 x440001_2, .int .i64 x440002_2, .int .i64 x440003_2, .string x440004_2, .slice none 0 0]) ?_ 0 _ rfl; (repeat refine z1a ?_); exact BK439.out) Tryz.underlying28 rfl z1m) rfl ?_
         exact ⟨_, z1t, by (with_reducible repeat (first | apply Kd.R_alloc | apply Kd.R_drewN | apply Kd.R_drew)); exact Kd.R_mono (z1d gb439 5 (z1d gb439 4 (z1d gb439 3 (z1d gb439 2 (z1d gb439 1 (z1d gb439 0 (Kd.R_types HO_460005.out BK439.out z1l) (.string t452)) (.int .i64 t453)) (.int .i64 t454)) (.int .i64 t455)) (.string t456)) (.slice Ao68 x460005_2.length co68)) (fun _ hk => trivial), z3q⟩
        ·rw [if_neg c64] at H
         have c64b0 := beq_eq_false_iff_ne.mpr c64
         have c64b1 := bne_iff_ne.mpr c64
         simp only [Option.some.injEq, Prod.mk.injEq] at H
         obtain ⟨rfl, rfl, rfl, rfl, rfl, rfl, rfl⟩ := H
         have hnb73 := NB459_439.out
         have hnc73 := NB439_459.out
         have hnb74 := NB459_458.out
         have hnc74 := NB458_459.out
         obtain ⟨hcz75_0, hcz75_1, hcz75_2, hcz75_3, hcz75_4, hcz75_5, hfz75_0, hfz75_1, hfz75_2, hfz75_3, hfz75_4, hfz75_5⟩ := zh BK459.out
         obtain ⟨Ao76, co76, eo76⟩ := Kd.R_slice HO_460005.out
         subst eo76
         go_wp2_with (first | ((with_reducible refine zi 9 rfl ?_); refine zj (some 58) Tryz.func9 #[.agg #[.string t452, .int .i64 t453, .int .i64 t454, .int .i64 t455, .string t456, .slice Ao76 x460005_2.length co76]] rfl ?_; (with_reducible refine (impl_PutEntry.calls (hG_ := globI_on HG_.out z2j) k2 t452 t453 t454 t455 t456 _ _ x460005_2 t471 _ ?side1 ?side2 A63.out).mono ?_); (case side1 => repeat (first | exact (Kd.R_reads' HO_460005.out).2.2 | (with_reducible refine Kd.C_alloc ?_ _) | (with_reducible refine Kd.C_drewN ?_ _) | (with_reducible refine Kd.C_drew ?_))); (case side2 => exact (Kd.R_reads' HO_460005.out).2.1); rintro e w77 ⟨rfl, hb⟩; refine ⟨_, rfl, ?_⟩; have n_ := z1i (Kd.R_below z3r hb) (Kd.R_below z3s hb) (blk_below (zu BK439.out) hb) (blk_below (zu BK458.out) hb) (blk_below (zu BK459.out) hb) (below_step z3q hb); clear HO_36 HO_460005 BK439 BK458 BK459 HB; obtain ⟨HO_36, HO_460005, BK439, BK458, BK459, HB⟩ := n_; (try clear hb); have hnb78 := NB439_458.out; have hnc78 := NB458_439.out; obtain ⟨hcz79_0, hcz79_1, hcz79_2, hcz79_3, hcz79_4, hcz79_5, hfz79_0, hfz79_1, hfz79_2, hfz79_3, hfz79_4, hfz79_5⟩ := zh BK439.out))
         refine bodyPost_ret (results_ct rfl _ _ gb439 28 #[.string ⟨#[]⟩, .int .i64 0, .int .i64 0, .int .i64 0, .string ⟨#[]⟩, .slice none 0 0] (0, 0) _ rfl (by (repeat refine z1a ?_); refine blk_put (cs := #[.string ⟨#[]⟩, .int .i64 0, .int .i64 0, .int .i64 0, .string ⟨#[]⟩, .slice none 0 0]) ?_ 5 _ rfl; (repeat refine z1a ?_); refine blk_put (cs := #[.string ⟨#[]⟩, .int .i64 0, .int .i64 0, .int .i64 0, .string x440004_2, .slice none 0 0]) ?_ 4 _ rfl; (repeat refine z1a ?_); refine blk_put (cs := #[.string ⟨#[]⟩, .int .i64 0, .int .i64 0, .int .i64 x440003_2, .string x440004_2, .slice none 0 0]) ?_ 3 _ rfl; (repeat refine z1a ?_); refine blk_put (cs := #[.string ⟨#[]⟩, .int .i64 0, .int .i64 x440002_2, .int .i64 x440003_2, .string x440004_2, .slice none 0 0]) ?_ 2 _ rfl; (repeat refine z1a ?_); refine blk_put (cs := #[.string ⟨#[]⟩, .int .i64 x440001_2, .int .i64 x440002_2, .int .i64 x440003_2, .string x440004_2, .slice none 0 0]) ?_ 1 _ rfl; (repeat refine z1a ?_); refine blk_put (cs := #[.string x440000_2, .int .i64 x440001_2, .int .i64 x440002_2, .int .i64 x440003_2, .string x440004_2, .slice none 0 0]) ?_ 0 _ rfl; (repeat refine z1a ?_); exact BK439.out) Tryz.underlying28 rfl z1m) rfl ?_
         exact ⟨_, z1t, z2p, z3q⟩
 ·rw [if_neg c2] at H
  exact absurd H (by simp)
def spec_l3Split.l0 : Nat → ByteArray → Int → List ByteArray → Int → Int → Option (List ByteArray)
 | 0, _, _, _, _, _ => none
 | k + 1, x0, x1, x5, x6, x7 => if x7 ≤ (x0.size : Int) then (if x7 = (x0.size : Int) then (if 0 ≤ x6 then (if x6 ≤ x7 then (if x5.length < 8796093022208 then (spec_l3Split.l0 k x0 x1 (x5 ++ [x0.extract (x6 : Int).toNat (x7 : Int).toNat]) (wrap64 (x7 + 1)) (wrap64 (x7 + 1))) else (none)) else (none)) else (none)) else (if 0 ≤ x7 then (if x7 < (x0.size : Int) then (if (bt x0 x7) = x1 then (if 0 ≤ x6 then (if x6 ≤ x7 then (if x5.length < 8796093022208 then (spec_l3Split.l0 k x0 x1 (x5 ++ [x0.extract (x6 : Int).toNat (x7 : Int).toNat]) (wrap64 (x7 + 1)) (wrap64 (x7 + 1))) else (none)) else (none)) else (none)) else (spec_l3Split.l0 k x0 x1 x5 x6 (wrap64 (x7 + 1)))) else (none)) else (none))) else (some x5)
def spec_l3Split.f (k : Nat) (a0 : ByteArray) (a1 : Int) : Option (List ByteArray) := spec_l3Split.l0 k a0 a1 (([] : List ByteArray)) 0 0
theorem spec_l3Split.mono_l : ∀ k, (∀ y0 y1 y2 y3 y4, LeO (spec_l3Split.l0 k y0 y1 y2 y3 y4) (spec_l3Split.l0 (k + 1) y0 y1 y2 y3 y4))
 | 0 => fun _ _ _ _ _ r h => by simp [spec_l3Split.l0] at h
 | k + 1 => by
  have ih0 := spec_l3Split.mono_l k
  ·intro y0 y1 y2 y3 y4
   unfold spec_l3Split.l0
   repeat' first
   | (with_reducible exact ih0 _ _ _ _ _)
   | (with_reducible exact LeO.refl _)
   | (with_reducible exact LeO.none _)
   | (with_reducible refine LeO.ite ?_ ?_)
   | (with_reducible refine LeO.bind ?_ (fun _ => ?_))
theorem spec_l3Split.mono : ∀ a0 a1 k, LeO (spec_l3Split.f k a0 a1) (spec_l3Split.f (k + 1) a0 a1) := by
 intro a0 a1 k
 have ih0 := spec_l3Split.mono_l k
 unfold spec_l3Split.f
 repeat' first
   | (with_reducible exact ih0 _ _ _ _ _)
   | (with_reducible exact LeO.refl _)
   | (with_reducible exact LeO.none _)
   | (with_reducible refine LeO.ite ?_ ?_)
   | (with_reducible refine LeO.bind ?_ (fun _ => ?_))
set_option maxHeartbeats 8000000 in
set_option maxRecDepth 100000 in
theorem spec_l3Split.calls (k : Nat) (a0 : ByteArray) (a1 : Int) (r : List ByteArray) (w : World) (h : spec_l3Split.f k a0 a1 = some r) :
  Calls Tryz.prog 56 #[.string a0, .int .u8 a1] w fun e w' => ∃ v0_ : Value, e = .returned (v0_) ∧ Kd.R Kd.string 9 w' w.heap.size (fun _ => True) v0_ r ∧ Below w.heap.size w w' := by
 have HB := zn (Below.refl w.heap.size w)
 have H := h
 unfold spec_l3Split.f at H
 clear h
 obtain ⟨y234, hy234⟩ : ∃ y_ : List ByteArray, y_ = (([] : List ByteArray)) := ⟨_, rfl⟩
 replace H : (spec_l3Split.l0 k a0 a1 y234 0 0) = some r := by first | (rw [hy234]; with_reducible exact H) | (have H2_ := (Option.bind_some _ _).symm.trans H; rw [hy234]; with_reducible exact H2_) | (have H2_ := (Option.bind_some _ _).symm.trans H; with_reducible exact H2_) | with_reducible exact H | (rw [hy234]; exact H) | exact H
 have Ny234 := zn hy234
 clear hy234
 have H' := zn H
 clear H
 go_enter Tryz.func56, Tryz.ntmps56
 go_wp2_with (first | ((with_reducible refine zr 8 rfl ?_); refine Kd.R_lit Kd.string _ 9 ?hg (N := 8) ?hd (xs := ([] : List ByteArray)) (inner := []) (ok := fun _ => True) (okp := fun _ => True) ?hr ?hp (fun _ hk => hk) trivial (Below.refl _ _) (Nat.le_refl _) (by simp) ?_; (case hd => exact z2b); (case hg => exact z2b); (case hr => exact z3t); (case hp => exact (Reps.none _ _)); intro v235 w3 ho4 hb hg_ hnew_; clear hg_ hnew_; (first | rw [← Ny234.out] at ho4 | (simp only [Int.reduceToNat] at ho4; rw [← Ny234.out] at ho4)); have n_ := zo (Kd.R_lower ho4 (below_size z1r)) (below_step z1r hb); clear HB; obtain ⟨HO236, HB⟩ := n_; clear hb ho4))
 go_loopg [5, 6, 7] k (fun kq v5 v6 v7 w' => ∃ (x5_1 : List ByteArray) (x6_1 : Int) (x7_1 : Int), v6 = .int .i64 x6_1 ∧ v7 = .int .i64 x7_1 ∧ Aside0 (spec_l3Split.l0 kq a0 a1 x5_1 x6_1 x7_1 = some r) ∧ Aside0 (kq ≤ k) ∧ Aside0 (Kd.R Kd.string 9 w' w.heap.size (fun _ => True) v5 x5_1) ∧ Aside0 (Below w.heap.size w w'))
 case atStart => exact ⟨(y234), (0), (0), z1n, z1n, H', ⟨Nat.le_refl _⟩, ⟨by (with_reducible repeat (first | apply Kd.R_alloc | apply Kd.R_drewN | apply Kd.R_drew)); exact HO236.out⟩, ⟨z1r⟩⟩
 case round =>
  clear H'
  try clear p2
  obtain ⟨x5_1, x6_1, x7_1, rfl, rfl, HA, HK1, HO_5, HB⟩ := hrel
  cases gk with
  | zero => exact absurd HA.out (by simp [spec_l3Split.l0])
  | succ k1 =>
   have H := HA.out
   clear HA
   simp only [spec_l3Split.l0] at H
   by_cases c5 : x7_1 ≤ (a0.size : Int)
   ·rw [if_pos c5] at H
    have c5b0 := decide_eq_true c5
    clear c5
    by_cases c6 : x7_1 = (a0.size : Int)
    ·rw [if_pos c6] at H
     have c6b0 := beq_iff_eq.mpr c6
     have c6b1 := bne_eq_false_iff_eq.mpr c6
     clear c6
     by_cases c7 : 0 ≤ x6_1
     ·rw [if_pos c7] at H
      have c7b0 := eq_true c7
      have c7b1 := decide_eq_true c7
      clear c7
      by_cases c8 : x6_1 ≤ x7_1
      ·rw [if_pos c8] at H
       have c8b0 := eq_true c8
       have c8b1 := decide_eq_true c8
       clear c8
       have c9b0 := eq_true (of_decide_eq_true z1p : x7_1 ≤ (a0.size : Int))
       by_cases c10 : x5_1.length < 8796093022208
       ·rw [if_pos c10] at H
        have LMc10 := zn c10
        clear c10
        obtain ⟨y237, hy237⟩ : ∃ y_ : List ByteArray, y_ = (x5_1 ++ [a0.extract (x6_1 : Int).toNat (x7_1 : Int).toNat]) := ⟨_, rfl⟩
        replace H : (spec_l3Split.l0 k1 a0 a1 y237 (wrap64 (x7_1 + 1)) (wrap64 (x7_1 + 1))) = some r := by first | (rw [hy237]; with_reducible exact H) | (have H2_ := (Option.bind_some _ _).symm.trans H; rw [hy237]; with_reducible exact H2_) | (have H2_ := (Option.bind_some _ _).symm.trans H; with_reducible exact H2_) | with_reducible exact H | (rw [hy237]; exact H) | exact H
        have Ny237 := zn hy237
        clear hy237
        have H' := zn H
        clear H
        go_wp2_with (first | ((with_reducible refine gate_builtin (b := .append) (xs := #[.tmp 26, .tmp 31]) rfl ?_); at_builtin; refine Kd.R_append Kd.string (w0 := w) w.heap.size rfl (.tmp 26) (.tmp 31) 55 9 (.string ⟨#[]⟩) 16 rfl Tryz.underlying55 info9 rfl z1l z1k u5 x5_1 (a0.extract (x6_1 : Int).toNat (x7_1 : Int).toNat) [.string (a0.extract (x6_1 : Int).toNat (x7_1 : Int).toNat)] (fun _ => True) (fun _ => False) rfl rfl ?aP (fun _ hk => hk.elim) ?aF ?aO ?aB ?aS ?aL ?_; (case aP => exact rfl); (case aB => exact z1r); (case aF => exact (fun _ _ => trivial)); (case aO => exact z3v); (case aS => exact (below_size z1r)); (case aL => have := LMc10.out; omega); intro v238 w11 ho hb hg hat; rw [← Ny237.out] at ho; have n_ := zo hb ho; clear HB HO_5; obtain ⟨HB, HO239⟩ := n_; clear ho hb hg hat))
        go_roundg k1
        case measure => have := HK1.out; omega
        case rel => exact ⟨(y237), (wrap64 (x7_1 + 1)), (wrap64 (x7_1 + 1)), z1n, z1n, H', ⟨z1q⟩, ⟨by (with_reducible repeat (first | apply Kd.R_alloc | apply Kd.R_drewN | apply Kd.R_drew)); exact HO239.out⟩, ⟨z1r⟩⟩
       ·rw [if_neg c10] at H
        exact absurd H (by simp)
      ·rw [if_neg c8] at H
       exact absurd H (by simp)
     ·rw [if_neg c7] at H
      exact absurd H (by simp)
    ·rw [if_neg c6] at H
     have c6b0 := beq_eq_false_iff_ne.mpr c6
     have c6b1 := bne_iff_ne.mpr c6
     by_cases c12 : 0 ≤ x7_1
     ·rw [if_pos c12] at H
      have c12b0 := decide_eq_true c12
      clear c12
      by_cases c13 : x7_1 < (a0.size : Int)
      ·rw [if_pos c13] at H
       have c13b0 := decide_eq_true c13
       clear c13
       by_cases c15 : (bt a0 x7_1) = a1
       ·rw [if_pos c15] at H
        have c15b0 := beq_iff_eq.mpr c15
        have c15b1 := bne_eq_false_iff_eq.mpr c15
        clear c15
        by_cases c16 : 0 ≤ x6_1
        ·rw [if_pos c16] at H
         have c16b0 := eq_true c16
         have c16b1 := decide_eq_true c16
         clear c16
         by_cases c17 : x6_1 ≤ x7_1
         ·rw [if_pos c17] at H
          have c17b0 := eq_true c17
          have c17b1 := decide_eq_true c17
          clear c17
          have c18b0 := eq_true (of_decide_eq_true z1p : x7_1 ≤ (a0.size : Int))
          by_cases c19 : x5_1.length < 8796093022208
          ·rw [if_pos c19] at H
           have LMc19 := zn c19
           clear c19
           obtain ⟨y240, hy240⟩ : ∃ y_ : List ByteArray, y_ = (x5_1 ++ [a0.extract (x6_1 : Int).toNat (x7_1 : Int).toNat]) := ⟨_, rfl⟩
           replace H : (spec_l3Split.l0 k1 a0 a1 y240 (wrap64 (x7_1 + 1)) (wrap64 (x7_1 + 1))) = some r := by first | (rw [hy240]; with_reducible exact H) | (have H2_ := (Option.bind_some _ _).symm.trans H; rw [hy240]; with_reducible exact H2_) | (have H2_ := (Option.bind_some _ _).symm.trans H; with_reducible exact H2_) | with_reducible exact H | (rw [hy240]; exact H) | exact H
           have Ny240 := zn hy240
           clear hy240
           have H' := zn H
           clear H
           have p14 : 0 ≤ (x7_1 : Int) := of_decide_eq_true z1p
           have q14 : x7_1 < (a0.size : Int) := of_decide_eq_true z1p
           have hx14 := bt_at a0 x7_1
           replace p14 := eq_true p14
           replace q14 := eq_true q14
           go_wp2_with (first | ((with_reducible refine gate_builtin (b := .append) (xs := #[.tmp 26, .tmp 31]) rfl ?_); at_builtin; refine Kd.R_append Kd.string (w0 := w) w.heap.size rfl (.tmp 26) (.tmp 31) 55 9 (.string ⟨#[]⟩) 16 rfl Tryz.underlying55 info9 rfl z1l z1k u5 x5_1 (a0.extract (x6_1 : Int).toNat (x7_1 : Int).toNat) [.string (a0.extract (x6_1 : Int).toNat (x7_1 : Int).toNat)] (fun _ => True) (fun _ => False) rfl rfl ?aP (fun _ hk => hk.elim) ?aF ?aO ?aB ?aS ?aL ?_; (case aP => exact rfl); (case aB => exact z1r); (case aF => exact (fun _ _ => trivial)); (case aO => exact z3v); (case aS => exact (below_size z1r)); (case aL => exact z3w); intro v241 w20 ho hb hg hat; rw [← Ny240.out] at ho; have n_ := zo hb ho; clear HB HO_5; obtain ⟨HB, HO242⟩ := n_; clear ho hb hg hat))
           go_roundg k1
           case measure => have := HK1.out; omega
           case rel => exact ⟨(y240), (wrap64 (x7_1 + 1)), (wrap64 (x7_1 + 1)), z1n, z1n, H', ⟨z1q⟩, ⟨by (with_reducible repeat (first | apply Kd.R_alloc | apply Kd.R_drewN | apply Kd.R_drew)); exact HO242.out⟩, ⟨z1r⟩⟩
          ·rw [if_neg c19] at H
           exact absurd H (by simp)
         ·rw [if_neg c17] at H
          exact absurd H (by simp)
        ·rw [if_neg c16] at H
         exact absurd H (by simp)
       ·rw [if_neg c15] at H
        have c15b0 := beq_eq_false_iff_ne.mpr c15
        have c15b1 := bne_iff_ne.mpr c15
        have H' := zn H
        clear H
        have p14 : 0 ≤ (x7_1 : Int) := of_decide_eq_true z1p
        have q14 : x7_1 < (a0.size : Int) := of_decide_eq_true z1p
        have hx14 := bt_at a0 x7_1
        replace p14 := eq_true p14
        replace q14 := eq_true q14
        go_wp2
        go_roundg k1
        case measure => have := HK1.out; omega
        case rel => exact ⟨(x5_1), (x6_1), (wrap64 (x7_1 + 1)), z1n, z1n, H', ⟨z1q⟩, ⟨z3v⟩, ⟨z1r⟩⟩
      ·rw [if_neg c13] at H
       exact absurd H (by simp)
     ·rw [if_neg c12] at H
      exact absurd H (by simp)
   ·rw [if_neg c5] at H
    have c5b0 := decide_eq_false c5
    clear c5
    obtain rfl := Option.some.inj H
    go_wp2
    go_ret
    exact ⟨_, z1t, z3v, z1r⟩
def spec_l1In.f (a0 : Int) (a1 : Int) (a2 : Int) : Option (Bool) := if a0 ≥ a1 then (some (decide (a0 ≤ a2))) else (some false)
set_option maxHeartbeats 8000000 in
set_option maxRecDepth 100000 in
theorem spec_l1In.calls (a0 : Int) (a1 : Int) (a2 : Int) (r : Bool) (w : World) (h : spec_l1In.f a0 a1 a2 = some r) :
  Calls Tryz.prog 93 #[.int .i64 a0, .int .i64 a1, .int .i64 a2] w fun e w' => e = .returned (.bool r) ∧ Drawn0 w w' := by
 have H := h
 unfold spec_l1In.f at H
 clear h
 by_cases c4 : a0 ≥ a1
 ·rw [if_pos c4] at H
  have c4b0 := decide_eq_true c4
  clear c4
  obtain rfl := Option.some.inj H
  go_enter Tryz.func93, Tryz.ntmps93
  go_wp2
  go_ret
  exact ⟨z1n, z1o⟩
 ·rw [if_neg c4] at H
  have c4b0 := decide_eq_false c4
  clear c4
  obtain rfl := Option.some.inj H
  go_enter Tryz.func93, Tryz.ntmps93
  go_wp2
  go_ret
  exact ⟨z1n, z1o⟩
def spec_l4Part.l0 : Nat → ByteArray → Int → Option (Bool)
 | 0, _, _ => none
 | k + 1, x0, x3 => if x3 < (x0.size : Int) then (if 0 ≤ x3 then ((spec_l1In.f (wrap64 (bt x0 x3)) 97 122).bind fun t244 => (if t244 = true then (spec_l4Part.l0 k x0 (wrap64 (x3 + 1))) else ((spec_l1In.f (wrap64 (bt x0 x3)) 48 57).bind fun t245 => (if t245 = true then (spec_l4Part.l0 k x0 (wrap64 (x3 + 1))) else (if x3 = 0 then (some false) else (if (wrap64 (bt x0 x3)) = 45 then (spec_l4Part.l0 k x0 (wrap64 (x3 + 1))) else (if (wrap64 (bt x0 x3)) = 46 then (spec_l4Part.l0 k x0 (wrap64 (x3 + 1))) else (if (wrap64 (bt x0 x3)) = 95 then (spec_l4Part.l0 k x0 (wrap64 (x3 + 1))) else (some false))))))))) else (none)) else ((spec_l1In.f (x0.size : Int) 1 20).bind fun t243 => (some t243))
def spec_l4Part.f (k : Nat) (a0 : ByteArray) : Option (Bool) := spec_l4Part.l0 k a0 0
theorem spec_l4Part.mono_l : ∀ k, (∀ y0 y1, LeO (spec_l4Part.l0 k y0 y1) (spec_l4Part.l0 (k + 1) y0 y1))
 | 0 => fun _ _ r h => by simp [spec_l4Part.l0] at h
 | k + 1 => by
  have ih0 := spec_l4Part.mono_l k
  ·intro y0 y1
   unfold spec_l4Part.l0
   repeat' first
   | (with_reducible exact ih0 _ _)
   | (with_reducible exact LeO.refl _)
   | (with_reducible exact LeO.none _)
   | (with_reducible refine LeO.ite ?_ ?_)
   | (with_reducible refine LeO.bind ?_ (fun _ => ?_))
theorem spec_l4Part.mono : ∀ a0 k, LeO (spec_l4Part.f k a0) (spec_l4Part.f (k + 1) a0) := by
 intro a0 k
 have ih0 := spec_l4Part.mono_l k
 unfold spec_l4Part.f
 repeat' first
   | (with_reducible exact ih0 _ _)
   | (with_reducible exact LeO.refl _)
   | (with_reducible exact LeO.none _)
   | (with_reducible refine LeO.ite ?_ ?_)
   | (with_reducible refine LeO.bind ?_ (fun _ => ?_))
set_option maxHeartbeats 8000000 in
set_option maxRecDepth 100000 in
theorem spec_l4Part.calls (k : Nat) (a0 : ByteArray) (r : Bool) (w : World) (h : spec_l4Part.f k a0 = some r) :
  Calls Tryz.prog 108 #[.string a0] w fun e w' => e = .returned (.bool r) ∧ Drawn0 w w' := by
 have H := h
 unfold spec_l4Part.f at H
 clear h
 have H' := zn H
 clear H
 go_enter Tryz.func108, Tryz.ntmps108
 go_wp2
 go_loopg [3] k (fun kq v3 w' => ∃ (x3_1 : Int), v3 = .int .i64 x3_1 ∧ Aside0 (spec_l4Part.l0 kq a0 x3_1 = some r) ∧ Aside0 (kq ≤ k) ∧ Drawn0 w w')
 case atStart => exact ⟨(0), z1n, H', ⟨Nat.le_refl _⟩, z1o⟩
 case round =>
  clear H'
  try clear c1
  obtain ⟨x3_1, rfl, HA, HK1, ⟨m1, rfl⟩⟩ := hrel
  cases gk with
  | zero => exact absurd HA.out (by simp [spec_l4Part.l0])
  | succ k1 =>
   have H := HA.out
   clear HA
   simp only [spec_l4Part.l0] at H
   by_cases c2 : x3_1 < (a0.size : Int)
   ·rw [if_pos c2] at H
    have c2b0 := decide_eq_true c2
    clear c2
    by_cases c3 : 0 ≤ x3_1
    ·rw [if_pos c3] at H
     have c3b0 := decide_eq_true c3
     clear c3
     obtain ⟨t244, A5, H⟩ := zm H
     try dsimp only at H
     by_cases c6 : t244 = true
     ·subst c6
      rw [if_pos rfl] at H
      have H' := zn H
      clear H
      have p4 : 0 ≤ (x3_1 : Int) := of_decide_eq_true z1p
      have q4 : x3_1 < (a0.size : Int) := of_decide_eq_true z1p
      have hx4 := bt_at a0 x3_1
      replace p4 := eq_true p4
      replace q4 := eq_true q4
      go_wp2_with (first | ((with_reducible refine zi 93 rfl ?_); refine zj (some 17) Tryz.func93 #[.int .i64 (wrap64 (bt a0 x3_1)), .int .i64 97, .int .i64 122] rfl ?_; (with_reducible refine (spec_l1In.calls (wrap64 (bt a0 x3_1)) 97 122 true _ A5.out).mono ?_); rintro e w' ⟨rfl, ⟨nd, rfl⟩⟩; refine ⟨_, rfl, ?_⟩))
      go_roundg k1
      case measure => have := HK1.out; omega
      case rel => exact ⟨(wrap64 (x3_1 + 1)), z1n, H', ⟨z1q⟩, z1o⟩
     ·replace c6 := Bool.eq_false_iff.mpr c6
      subst c6
      rw [if_neg zk] at H
      obtain ⟨t245, A7, H⟩ := zm H
      try dsimp only at H
      by_cases c8 : t245 = true
      ·subst c8
       rw [if_pos rfl] at H
       have H' := zn H
       clear H
       have p4 : 0 ≤ (x3_1 : Int) := of_decide_eq_true z1p
       have q4 : x3_1 < (a0.size : Int) := of_decide_eq_true z1p
       have hx4 := bt_at a0 x3_1
       replace p4 := eq_true p4
       replace q4 := eq_true q4
       go_wp2_with (first | ((with_reducible refine zi 93 rfl ?_); refine zj (some 17) Tryz.func93 #[.int .i64 (wrap64 (bt a0 x3_1)), .int .i64 97, .int .i64 122] rfl ?_; (with_reducible refine (spec_l1In.calls (wrap64 (bt a0 x3_1)) 97 122 false _ A5.out).mono ?_); rintro e w' ⟨rfl, ⟨nd, rfl⟩⟩; refine ⟨_, rfl, ?_⟩) | (go_at_call 93; (with_reducible refine (spec_l1In.calls (wrap64 (bt a0 x3_1)) 48 57 true _ A7.out).mono ?_); rintro e w' ⟨rfl, ⟨nd, rfl⟩⟩))
       go_roundg k1
       case measure => have := HK1.out; omega
       case rel => exact ⟨(wrap64 (x3_1 + 1)), z1n, H', ⟨z1q⟩, z1o⟩
      ·replace c8 := Bool.eq_false_iff.mpr c8
       subst c8
       rw [if_neg zk] at H
       by_cases c9 : x3_1 = 0
       ·rw [if_pos c9] at H
        have c9b0 := beq_iff_eq.mpr c9
        have c9b1 := bne_eq_false_iff_eq.mpr c9
        clear c9
        obtain rfl := Option.some.inj H
        have p4 : 0 ≤ (x3_1 : Int) := of_decide_eq_true z1p
        have q4 : x3_1 < (a0.size : Int) := of_decide_eq_true z1p
        have hx4 := bt_at a0 x3_1
        replace p4 := eq_true p4
        replace q4 := eq_true q4
        go_wp2_with (first | ((with_reducible refine zi 93 rfl ?_); refine zj (some 17) Tryz.func93 #[.int .i64 (wrap64 (bt a0 x3_1)), .int .i64 97, .int .i64 122] rfl ?_; (with_reducible refine (spec_l1In.calls (wrap64 (bt a0 x3_1)) 97 122 false _ A5.out).mono ?_); rintro e w' ⟨rfl, ⟨nd, rfl⟩⟩; refine ⟨_, rfl, ?_⟩) | (go_at_call 93; (with_reducible refine (spec_l1In.calls (wrap64 (bt a0 x3_1)) 48 57 false _ A7.out).mono ?_); rintro e w' ⟨rfl, ⟨nd, rfl⟩⟩))
        go_ret
        exact ⟨z1n, z1o⟩
       ·rw [if_neg c9] at H
        have c9b0 := beq_eq_false_iff_ne.mpr c9
        have c9b1 := bne_iff_ne.mpr c9
        by_cases c10 : (wrap64 (bt a0 x3_1)) = 45
        ·rw [if_pos c10] at H
         have c10b0 := beq_iff_eq.mpr c10
         have c10b1 := bne_eq_false_iff_eq.mpr c10
         clear c10
         have H' := zn H
         clear H
         have p4 : 0 ≤ (x3_1 : Int) := of_decide_eq_true z1p
         have q4 : x3_1 < (a0.size : Int) := of_decide_eq_true z1p
         have hx4 := bt_at a0 x3_1
         replace p4 := eq_true p4
         replace q4 := eq_true q4
         go_wp2_with (first | ((with_reducible refine zi 93 rfl ?_); refine zj (some 17) Tryz.func93 #[.int .i64 (wrap64 (bt a0 x3_1)), .int .i64 97, .int .i64 122] rfl ?_; (with_reducible refine (spec_l1In.calls (wrap64 (bt a0 x3_1)) 97 122 false _ A5.out).mono ?_); rintro e w' ⟨rfl, ⟨nd, rfl⟩⟩; refine ⟨_, rfl, ?_⟩) | (go_at_call 93; (with_reducible refine (spec_l1In.calls (wrap64 (bt a0 x3_1)) 48 57 false _ A7.out).mono ?_); rintro e w' ⟨rfl, ⟨nd, rfl⟩⟩))
         go_roundg k1
         case measure => have := HK1.out; omega
         case rel => exact ⟨(wrap64 (x3_1 + 1)), z1n, H', ⟨z1q⟩, z1o⟩
        ·rw [if_neg c10] at H
         have c10b0 := beq_eq_false_iff_ne.mpr c10
         have c10b1 := bne_iff_ne.mpr c10
         by_cases c11 : (wrap64 (bt a0 x3_1)) = 46
         ·rw [if_pos c11] at H
          have c11b0 := beq_iff_eq.mpr c11
          have c11b1 := bne_eq_false_iff_eq.mpr c11
          clear c11
          have H' := zn H
          clear H
          have p4 : 0 ≤ (x3_1 : Int) := of_decide_eq_true z1p
          have q4 : x3_1 < (a0.size : Int) := of_decide_eq_true z1p
          have hx4 := bt_at a0 x3_1
          replace p4 := eq_true p4
          replace q4 := eq_true q4
          go_wp2_with (first | ((with_reducible refine zi 93 rfl ?_); refine zj (some 17) Tryz.func93 #[.int .i64 (wrap64 (bt a0 x3_1)), .int .i64 97, .int .i64 122] rfl ?_; (with_reducible refine (spec_l1In.calls (wrap64 (bt a0 x3_1)) 97 122 false _ A5.out).mono ?_); rintro e w' ⟨rfl, ⟨nd, rfl⟩⟩; refine ⟨_, rfl, ?_⟩) | (go_at_call 93; (with_reducible refine (spec_l1In.calls (wrap64 (bt a0 x3_1)) 48 57 false _ A7.out).mono ?_); rintro e w' ⟨rfl, ⟨nd, rfl⟩⟩))
          go_roundg k1
          case measure => have := HK1.out; omega
          case rel => exact ⟨(wrap64 (x3_1 + 1)), z1n, H', ⟨z1q⟩, z1o⟩
         ·rw [if_neg c11] at H
          have c11b0 := beq_eq_false_iff_ne.mpr c11
          have c11b1 := bne_iff_ne.mpr c11
          by_cases c12 : (wrap64 (bt a0 x3_1)) = 95
          ·rw [if_pos c12] at H
           have c12b0 := beq_iff_eq.mpr c12
           have c12b1 := bne_eq_false_iff_eq.mpr c12
           clear c12
           have H' := zn H
           clear H
           have p4 : 0 ≤ (x3_1 : Int) := of_decide_eq_true z1p
           have q4 : x3_1 < (a0.size : Int) := of_decide_eq_true z1p
           have hx4 := bt_at a0 x3_1
           replace p4 := eq_true p4
           replace q4 := eq_true q4
           go_wp2_with (first | ((with_reducible refine zi 93 rfl ?_); refine zj (some 17) Tryz.func93 #[.int .i64 (wrap64 (bt a0 x3_1)), .int .i64 97, .int .i64 122] rfl ?_; (with_reducible refine (spec_l1In.calls (wrap64 (bt a0 x3_1)) 97 122 false _ A5.out).mono ?_); rintro e w' ⟨rfl, ⟨nd, rfl⟩⟩; refine ⟨_, rfl, ?_⟩) | (go_at_call 93; (with_reducible refine (spec_l1In.calls (wrap64 (bt a0 x3_1)) 48 57 false _ A7.out).mono ?_); rintro e w' ⟨rfl, ⟨nd, rfl⟩⟩))
           go_roundg k1
           case measure => have := HK1.out; omega
           case rel => exact ⟨(wrap64 (x3_1 + 1)), z1n, H', ⟨z1q⟩, z1o⟩
          ·rw [if_neg c12] at H
           have c12b0 := beq_eq_false_iff_ne.mpr c12
           have c12b1 := bne_iff_ne.mpr c12
           obtain rfl := Option.some.inj H
           have p4 : 0 ≤ (x3_1 : Int) := of_decide_eq_true z1p
           have q4 : x3_1 < (a0.size : Int) := of_decide_eq_true z1p
           have hx4 := bt_at a0 x3_1
           replace p4 := eq_true p4
           replace q4 := eq_true q4
           go_wp2_with (first | ((with_reducible refine zi 93 rfl ?_); refine zj (some 17) Tryz.func93 #[.int .i64 (wrap64 (bt a0 x3_1)), .int .i64 97, .int .i64 122] rfl ?_; (with_reducible refine (spec_l1In.calls (wrap64 (bt a0 x3_1)) 97 122 false _ A5.out).mono ?_); rintro e w' ⟨rfl, ⟨nd, rfl⟩⟩; refine ⟨_, rfl, ?_⟩) | (go_at_call 93; (with_reducible refine (spec_l1In.calls (wrap64 (bt a0 x3_1)) 48 57 false _ A7.out).mono ?_); rintro e w' ⟨rfl, ⟨nd, rfl⟩⟩))
           go_ret
           exact ⟨z1n, z1o⟩
    ·rw [if_neg c3] at H
     exact absurd H (by simp)
   ·rw [if_neg c2] at H
    have c2b0 := decide_eq_false c2
    clear c2
    obtain ⟨t243, A13, H⟩ := zm H
    try dsimp only at H
    obtain rfl := Option.some.inj H
    go_wp2_with (first | ((with_reducible refine zi 93 rfl ?_); refine zj (some 42) Tryz.func93 #[.int .i64 (a0.size : Int), .int .i64 1, .int .i64 20] rfl ?_; (with_reducible refine (spec_l1In.calls (a0.size : Int) 1 20 t243 _ A13.out).mono ?_); rintro e w' ⟨rfl, ⟨nd, rfl⟩⟩; refine ⟨_, rfl, ?_⟩))
    go_ret
    exact ⟨z1n, z1o⟩
def spec_PathOk.l0 : Nat → ByteArray → List ByteArray → Int → Option (Bool)
 | 0, _, _, _ => none
 | k + 1, x0, x3, x4 => if x4 < (x3.length : Int) then (if 0 ≤ x4 then ((spec_l4Part.f k (rdOf ByteArray.empty x3 x4)).bind fun t250 => (if t250 = true then (spec_PathOk.l0 k x0 x3 (wrap64 (x4 + 1))) else (some false))) else (none)) else (if (x3.length : Int) ≤ 6 then (some (decide ((x0.size : Int) ≤ 60))) else (some false))
def spec_PathOk.f (k : Nat) (a0 : ByteArray) : Option (Bool) := (spec_l3Split.f k a0 47).bind fun t246 => (spec_PathOk.l0 k a0 t246 0)
theorem spec_PathOk.mono_l : ∀ k, (∀ y0 y1 y2, LeO (spec_PathOk.l0 k y0 y1 y2) (spec_PathOk.l0 (k + 1) y0 y1 y2))
 | 0 => fun _ _ _ r h => by simp [spec_PathOk.l0] at h
 | k + 1 => by
  have ih0 := spec_PathOk.mono_l k
  ·intro y0 y1 y2
   unfold spec_PathOk.l0
   repeat' first
   | (with_reducible exact ih0 _ _ _)
   | (with_reducible exact spec_l3Split.mono _ _ _)
   | (with_reducible exact spec_l4Part.mono _ _)
   | (with_reducible exact LeO.refl _)
   | (with_reducible exact LeO.none _)
   | (with_reducible refine LeO.ite ?_ ?_)
   | (with_reducible refine LeO.bind ?_ (fun _ => ?_))
theorem spec_PathOk.mono : ∀ a0 k, LeO (spec_PathOk.f k a0) (spec_PathOk.f (k + 1) a0) := by
 intro a0 k
 have ih0 := spec_PathOk.mono_l k
 unfold spec_PathOk.f
 repeat' first
   | (with_reducible exact ih0 _ _ _)
   | (with_reducible exact spec_l3Split.mono _ _ _)
   | (with_reducible exact spec_l4Part.mono _ _)
   | (with_reducible exact LeO.refl _)
   | (with_reducible exact LeO.none _)
   | (with_reducible refine LeO.ite ?_ ?_)
   | (with_reducible refine LeO.bind ?_ (fun _ => ?_))
set_option maxHeartbeats 8000000 in
set_option maxRecDepth 100000 in
theorem spec_PathOk.calls (k : Nat) (a0 : ByteArray) (r : Bool) (w : World) (h : spec_PathOk.f k a0 = some r) :
  Calls Tryz.prog 91 #[.string a0] w fun e w' => e = .returned (.bool r) ∧ Below w.heap.size w w' := by
 have HB := zn (Below.refl w.heap.size w)
 have H := h
 unfold spec_PathOk.f at H
 clear h
 obtain ⟨t246, A2, H⟩ := zm H
 try dsimp only at H
 have H' := zn H
 clear H
 go_enter Tryz.func91, Tryz.ntmps91
 go_wp2_with (first | ((with_reducible refine zi 56 rfl ?_); refine zj (some 6) Tryz.func56 #[.string a0, .int .u8 47] rfl ?_; (with_reducible refine (spec_l3Split.calls k a0 47 t246 _ A2.out).mono ?_); rintro e w3 ⟨v247, rfl, ho0, hb⟩; refine ⟨_, rfl, ?_⟩; have n_ := zo (Kd.R_lower ho0 (below_size z1r)) (below_step z1r hb); clear HB; obtain ⟨HO248, HB⟩ := n_; (try clear hb); (try clear ho0)))
 go_loopg [4] k (fun kq v4 w' => ∃ (x4_1 : Int), v4 = .int .i64 x4_1 ∧ Aside0 (spec_PathOk.l0 kq a0 t246 x4_1 = some r) ∧ Aside0 (kq ≤ k) ∧ Aside0 (Kd.R Kd.string 9 w' w.heap.size (fun _ => True) v247 t246) ∧ Aside0 (Below w.heap.size w w'))
 case atStart => exact ⟨(0), z1n, H', ⟨Nat.le_refl _⟩, ⟨by (with_reducible repeat (first | apply Kd.R_alloc | apply Kd.R_drewN | apply Kd.R_drew)); exact HO248.out⟩, ⟨z1r⟩⟩
 case round =>
  clear H'
  try clear p2
  obtain ⟨x4_1, rfl, HA, HK1, HO_3, HB⟩ := hrel
  cases gk with
  | zero => exact absurd HA.out (by simp [spec_PathOk.l0])
  | succ k1 =>
   have H := HA.out
   clear HA
   simp only [spec_PathOk.l0] at H
   by_cases c4 : x4_1 < (t246.length : Int)
   ·rw [if_pos c4] at H
    have c4b0 := decide_eq_true c4
    clear c4
    by_cases c5 : 0 ≤ x4_1
    ·rw [if_pos c5] at H
     have c5b0 := decide_eq_true c5
     clear c5
     obtain ⟨t250, A6, H⟩ := zm H
     try dsimp only at H
     by_cases c7 : t250 = true
     ·subst c7
      rw [if_pos rfl] at H
      have H' := zn H
      clear H
      obtain ⟨Ao8, co8, eo8⟩ := Kd.R_slice HO_3.out
      subst eo8
      have p249 : 0 ≤ (x4_1 : Int) := of_decide_eq_true z1p
      have q249 : x4_1 < (t246.length : Int) := of_decide_eq_true z1p
      obtain ⟨ad249, e249, hx249_0⟩ := Kd.at_string (Kd.R_reads' HO_3.out).2.2 x4_1 p249 q249
      cases e249
      replace p249 := eq_true p249
      replace q249 := eq_true q249
      go_wp2_with (first | ((with_reducible refine zi 108 rfl ?_); refine zj (some 17) Tryz.func108 #[.string (rdOf ByteArray.empty t246 x4_1)] rfl ?_; (with_reducible refine (spec_l4Part.calls k1 (rdOf ByteArray.empty t246 x4_1) true _ A6.out).mono ?_); rintro e w' ⟨rfl, ⟨nd, rfl⟩⟩; refine ⟨_, rfl, ?_⟩))
      go_roundg k1
      case measure => have := HK1.out; omega
      case rel => exact ⟨(wrap64 (x4_1 + 1)), z1n, H', ⟨z1q⟩, ⟨z1s⟩, ⟨z1r⟩⟩
     ·replace c7 := Bool.eq_false_iff.mpr c7
      subst c7
      rw [if_neg zk] at H
      obtain rfl := Option.some.inj H
      obtain ⟨Ao9, co9, eo9⟩ := Kd.R_slice HO_3.out
      subst eo9
      have p249 : 0 ≤ (x4_1 : Int) := of_decide_eq_true z1p
      have q249 : x4_1 < (t246.length : Int) := of_decide_eq_true z1p
      obtain ⟨ad249, e249, hx249_0⟩ := Kd.at_string (Kd.R_reads' HO_3.out).2.2 x4_1 p249 q249
      cases e249
      replace p249 := eq_true p249
      replace q249 := eq_true q249
      go_wp2_with (first | ((with_reducible refine zi 108 rfl ?_); refine zj (some 17) Tryz.func108 #[.string (rdOf ByteArray.empty t246 x4_1)] rfl ?_; (with_reducible refine (spec_l4Part.calls k1 (rdOf ByteArray.empty t246 x4_1) false _ A6.out).mono ?_); rintro e w' ⟨rfl, ⟨nd, rfl⟩⟩; refine ⟨_, rfl, ?_⟩))
      go_ret
      exact ⟨z1t, z1r⟩
    ·rw [if_neg c5] at H
     exact absurd H (by simp)
   ·rw [if_neg c4] at H
    have c4b0 := decide_eq_false c4
    clear c4
    by_cases c10 : (t246.length : Int) ≤ 6
    ·rw [if_pos c10] at H
     have c10b0 := decide_eq_true c10
     have c10b1 : decide (t246.length ≤ 6) = true := decide_eq_true z1k
     clear c10
     obtain rfl := Option.some.inj H
     obtain ⟨Ao11, co11, eo11⟩ := Kd.R_slice HO_3.out
     subst eo11
     go_wp2
     go_ret
     exact ⟨z1t, z1r⟩
    ·rw [if_neg c10] at H
     have c10b0 := decide_eq_false c10
     have c10b1 : decide (t246.length ≤ 6) = false := decide_eq_false z1k
     clear c10
     obtain rfl := Option.some.inj H
     obtain ⟨Ao12, co12, eo12⟩ := Kd.R_slice HO_3.out
     subst eo12
     go_wp2
     go_ret
     exact ⟨z1t, z1r⟩
def spec_l3Digits.l0 : Nat → ByteArray → Int → Option (Bool)
 | 0, _, _ => none
 | k + 1, x0, x3 => if x3 < (x0.size : Int) then (if 0 ≤ x3 then ((spec_l1In.f (wrap64 (bt x0 x3)) 48 57).bind fun t251 => (if t251 = true then (spec_l3Digits.l0 k x0 (wrap64 (x3 + 1))) else (some false))) else (none)) else (some (x0.toList != ([] : List UInt8)))
def spec_l3Digits.f (k : Nat) (a0 : ByteArray) : Option (Bool) := spec_l3Digits.l0 k a0 0
theorem spec_l3Digits.mono_l : ∀ k, (∀ y0 y1, LeO (spec_l3Digits.l0 k y0 y1) (spec_l3Digits.l0 (k + 1) y0 y1))
 | 0 => fun _ _ r h => by simp [spec_l3Digits.l0] at h
 | k + 1 => by
  have ih0 := spec_l3Digits.mono_l k
  ·intro y0 y1
   unfold spec_l3Digits.l0
   repeat' first
   | (with_reducible exact ih0 _ _)
   | (with_reducible exact LeO.refl _)
   | (with_reducible exact LeO.none _)
   | (with_reducible refine LeO.ite ?_ ?_)
   | (with_reducible refine LeO.bind ?_ (fun _ => ?_))
theorem spec_l3Digits.mono : ∀ a0 k, LeO (spec_l3Digits.f k a0) (spec_l3Digits.f (k + 1) a0) := by
 intro a0 k
 have ih0 := spec_l3Digits.mono_l k
 unfold spec_l3Digits.f
 repeat' first
   | (with_reducible exact ih0 _ _)
   | (with_reducible exact LeO.refl _)
   | (with_reducible exact LeO.none _)
   | (with_reducible refine LeO.ite ?_ ?_)
   | (with_reducible refine LeO.bind ?_ (fun _ => ?_))
set_option maxHeartbeats 8000000 in
set_option maxRecDepth 100000 in
theorem spec_l3Digits.calls (k : Nat) (a0 : ByteArray) (r : Bool) (w : World) (h : spec_l3Digits.f k a0 = some r) :
  Calls Tryz.prog 107 #[.string a0] w fun e w' => e = .returned (.bool r) ∧ Drawn0 w w' := by
 have H := h
 unfold spec_l3Digits.f at H
 clear h
 have H' := zn H
 clear H
 go_enter Tryz.func107, Tryz.ntmps107
 go_wp2
 go_loopg [3] k (fun kq v3 w' => ∃ (x3_1 : Int), v3 = .int .i64 x3_1 ∧ Aside0 (spec_l3Digits.l0 kq a0 x3_1 = some r) ∧ Aside0 (kq ≤ k) ∧ Drawn0 w w')
 case atStart => exact ⟨(0), z1n, H', ⟨Nat.le_refl _⟩, z1o⟩
 case round =>
  clear H'
  try clear c1
  obtain ⟨x3_1, rfl, HA, HK1, ⟨m1, rfl⟩⟩ := hrel
  cases gk with
  | zero => exact absurd HA.out (by simp [spec_l3Digits.l0])
  | succ k1 =>
   have H := HA.out
   clear HA
   simp only [spec_l3Digits.l0] at H
   by_cases c2 : x3_1 < (a0.size : Int)
   ·rw [if_pos c2] at H
    have c2b0 := decide_eq_true c2
    clear c2
    by_cases c3 : 0 ≤ x3_1
    ·rw [if_pos c3] at H
     have c3b0 := decide_eq_true c3
     clear c3
     obtain ⟨t251, A5, H⟩ := zm H
     try dsimp only at H
     by_cases c6 : t251 = true
     ·subst c6
      rw [if_pos rfl] at H
      have H' := zn H
      clear H
      have p4 : 0 ≤ (x3_1 : Int) := of_decide_eq_true z1p
      have q4 : x3_1 < (a0.size : Int) := of_decide_eq_true z1p
      have hx4 := bt_at a0 x3_1
      replace p4 := eq_true p4
      replace q4 := eq_true q4
      go_wp2_with (first | ((with_reducible refine zi 93 rfl ?_); refine zj (some 14) Tryz.func93 #[.int .i64 (wrap64 (bt a0 x3_1)), .int .i64 48, .int .i64 57] rfl ?_; (with_reducible refine (spec_l1In.calls (wrap64 (bt a0 x3_1)) 48 57 true _ A5.out).mono ?_); rintro e w' ⟨rfl, ⟨nd, rfl⟩⟩; refine ⟨_, rfl, ?_⟩))
      go_roundg k1
      case measure => have := HK1.out; omega
      case rel => exact ⟨(wrap64 (x3_1 + 1)), z1n, H', ⟨z1q⟩, z1o⟩
     ·replace c6 := Bool.eq_false_iff.mpr c6
      subst c6
      rw [if_neg zk] at H
      obtain rfl := Option.some.inj H
      have p4 : 0 ≤ (x3_1 : Int) := of_decide_eq_true z1p
      have q4 : x3_1 < (a0.size : Int) := of_decide_eq_true z1p
      have hx4 := bt_at a0 x3_1
      replace p4 := eq_true p4
      replace q4 := eq_true q4
      go_wp2_with (first | ((with_reducible refine zi 93 rfl ?_); refine zj (some 14) Tryz.func93 #[.int .i64 (wrap64 (bt a0 x3_1)), .int .i64 48, .int .i64 57] rfl ?_; (with_reducible refine (spec_l1In.calls (wrap64 (bt a0 x3_1)) 48 57 false _ A5.out).mono ?_); rintro e w' ⟨rfl, ⟨nd, rfl⟩⟩; refine ⟨_, rfl, ?_⟩))
      go_ret
      exact ⟨z1u, z1o⟩
    ·rw [if_neg c3] at H
     exact absurd H (by simp)
   ·rw [if_neg c2] at H
    have c2b0 := decide_eq_false c2
    clear c2
    obtain rfl := Option.some.inj H
    go_wp2
    go_ret
    exact ⟨z1u, z1o⟩
mutual
def spec_l3Number.j0 : Nat → ByteArray → Bool → Option (Int)
 | 0, _, _ => none
 | k + 1, x0, x22 => if x22 = true then (some (-1)) else (spec_l3Number.l0 k x0 0 0)
def spec_l3Number.l0 : Nat → ByteArray → Int → Int → Option (Int)
 | 0, _, _, _ => none
 | k + 1, x0, x3, x4 => if x4 < (x0.size : Int) then (if 0 ≤ x4 then (spec_l3Number.l0 k x0 (wrap64 ((wrap64 (x3 * 10)) + (((bt x0 x4) - 48) % 256))) (wrap64 (x4 + 1))) else (none)) else (some x3)
end
def spec_l3Number.f (k : Nat) (a0 : ByteArray) : Option (Int) := (spec_l3Digits.f k a0).bind fun t252 => (if t252 = true then (if (a0.size : Int) > 8 then (spec_l3Number.j0 k a0 true) else (if (a0.size : Int) > 1 then (if 0 < (a0.size : Int) then (spec_l3Number.j0 k a0 ((bt a0 0) == 48)) else (none)) else (spec_l3Number.j0 k a0 false))) else (spec_l3Number.j0 k a0 true))
theorem spec_l3Number.mono_l : ∀ k, (∀ y0 y1, LeO (spec_l3Number.j0 k y0 y1) (spec_l3Number.j0 (k + 1) y0 y1)) ∧ (∀ y0 y1 y2, LeO (spec_l3Number.l0 k y0 y1 y2) (spec_l3Number.l0 (k + 1) y0 y1 y2))
 | 0 => ⟨fun _ _ r h => by simp [spec_l3Number.j0] at h, fun _ _ _ r h => by simp [spec_l3Number.l0] at h⟩
 | k + 1 => by
  obtain ⟨ih0, ih1⟩ := spec_l3Number.mono_l k
  refine ⟨?_, ?_⟩
  ·intro y0 y1
   unfold spec_l3Number.j0
   repeat' first
   | (with_reducible exact ih0 _ _)
   | (with_reducible exact ih1 _ _ _)
   | (with_reducible exact spec_l3Digits.mono _ _)
   | (with_reducible exact LeO.refl _)
   | (with_reducible exact LeO.none _)
   | (with_reducible refine LeO.ite ?_ ?_)
   | (with_reducible refine LeO.bind ?_ (fun _ => ?_))
  ·intro y0 y1 y2
   unfold spec_l3Number.l0
   repeat' first
   | (with_reducible exact ih0 _ _)
   | (with_reducible exact ih1 _ _ _)
   | (with_reducible exact spec_l3Digits.mono _ _)
   | (with_reducible exact LeO.refl _)
   | (with_reducible exact LeO.none _)
   | (with_reducible refine LeO.ite ?_ ?_)
   | (with_reducible refine LeO.bind ?_ (fun _ => ?_))
theorem spec_l3Number.mono : ∀ a0 k, LeO (spec_l3Number.f k a0) (spec_l3Number.f (k + 1) a0) := by
 intro a0 k
 obtain ⟨ih0, ih1⟩ := spec_l3Number.mono_l k
 unfold spec_l3Number.f
 repeat' first
   | (with_reducible exact ih0 _ _)
   | (with_reducible exact ih1 _ _ _)
   | (with_reducible exact spec_l3Digits.mono _ _)
   | (with_reducible exact LeO.refl _)
   | (with_reducible exact LeO.none _)
   | (with_reducible refine LeO.ite ?_ ?_)
   | (with_reducible refine LeO.bind ?_ (fun _ => ?_))
set_option maxHeartbeats 8000000 in
set_option maxRecDepth 100000 in
theorem spec_l3Number.calls (k : Nat) (a0 : ByteArray) (r : Int) (w : World) (h : spec_l3Number.f k a0 = some r) :
  Calls Tryz.prog 87 #[.string a0] w fun e w' => e = .returned (.int .i64 r) ∧ Drawn0 w w' := by
 have H := h
 unfold spec_l3Number.f at H
 clear h
 have HC2 := zn H
 clear H
 go_enter Tryz.func87, Tryz.ntmps87
 go_upto_region 1 with (fail)
 go_cut [22] (fun v22 wc => ∃ (kq : Nat) (x22_1 : Bool), v22 = .bool x22_1 ∧ Aside0 (spec_l3Number.j0 kq a0 x22_1 = some r) ∧ Aside0 (kq ≤ k) ∧ Drawn0 w wc)
 case first =>
  have H := HC2.out
  clear HC2
  obtain ⟨t252, A3, H⟩ := zm H
  try dsimp only at H
  by_cases c4 : t252 = true
  ·subst c4
   rw [if_pos rfl] at H
   by_cases c5 : (a0.size : Int) > 8
   ·rw [if_pos c5] at H
    have c5b0 := decide_eq_true c5
    have c5b1 : decide (8 < a0.size) = true := decide_eq_true z1k
    clear c5
    (first | rw [c5b0] | (simp only [i64_w, i32_w]; rw [c5b0]) | skip)
    have H' := zn H
    clear H
    go_wp2_with (first | ((with_reducible refine zi 107 rfl ?_); refine zj (some 6) Tryz.func107 #[.string a0] rfl ?_; (with_reducible refine (spec_l3Digits.calls k a0 true _ A3.out).mono ?_); rintro e w' ⟨rfl, ⟨nd, rfl⟩⟩; refine ⟨_, rfl, ?_⟩))
    go_meet
    case rel => exact ⟨_, (true), z1n, H', ⟨z1v⟩, z1o⟩
   ·rw [if_neg c5] at H
    have c5b0 := decide_eq_false c5
    have c5b1 : decide (8 < a0.size) = false := decide_eq_false z1k
    clear c5
    (first | rw [c5b0] | (simp only [i64_w, i32_w]; rw [c5b0]) | skip)
    by_cases c6 : (a0.size : Int) > 1
    ·rw [if_pos c6] at H
     have c6b0 := decide_eq_true c6
     have c6b1 : decide (1 < a0.size) = true := decide_eq_true z1k
     clear c6
     by_cases c7 : 0 < (a0.size : Int)
     ·rw [if_pos c7] at H
      have c7b0 := decide_eq_true c7
      have c7b1 : decide (0 < a0.size) = true := decide_eq_true z1k
      clear c7
      have H' := zn H
      clear H
      go_wp2_with (first | ((with_reducible refine zi 107 rfl ?_); refine zj (some 6) Tryz.func107 #[.string a0] rfl ?_; (with_reducible refine (spec_l3Digits.calls k a0 true _ A3.out).mono ?_); rintro e w' ⟨rfl, ⟨nd, rfl⟩⟩; refine ⟨_, rfl, ?_⟩; have p8 : 0 ≤ (0 : Int) := z1k; have q8 : 0 < a0.size := (by have : (0 : Int) < (a0.size : Int) := of_decide_eq_true z1p; omega); have hx8 : ∀ h : 0 < a0.size, ((a0[0]'h).toNat : Int) = bt a0 0 := bt_at a0 0; clear p8; have qi8 : (0 < (a0.size : Int)) = True := eq_true (of_decide_eq_true z1p); replace q8 := eq_true q8))
      go_meet
      case rel => exact ⟨_, (((bt a0 0) == 48)), z1n, H', ⟨z1v⟩, z1o⟩
     ·rw [if_neg c7] at H
      exact absurd H (by simp)
    ·rw [if_neg c6] at H
     have c6b0 := decide_eq_false c6
     have c6b1 : decide (1 < a0.size) = false := decide_eq_false z1k
     clear c6
     have H' := zn H
     clear H
     go_wp2_with (first | ((with_reducible refine zi 107 rfl ?_); refine zj (some 6) Tryz.func107 #[.string a0] rfl ?_; (with_reducible refine (spec_l3Digits.calls k a0 true _ A3.out).mono ?_); rintro e w' ⟨rfl, ⟨nd, rfl⟩⟩; refine ⟨_, rfl, ?_⟩))
     go_meet
     case rel => exact ⟨_, (false), z1n, H', ⟨z1v⟩, z1o⟩
  ·replace c4 := Bool.eq_false_iff.mpr c4
   subst c4
   rw [if_neg zk] at H
   have H' := zn H
   clear H
   go_wp2_with (first | ((with_reducible refine zi 107 rfl ?_); refine zj (some 6) Tryz.func107 #[.string a0] rfl ?_; (with_reducible refine (spec_l3Digits.calls k a0 false _ A3.out).mono ?_); rintro e w' ⟨rfl, ⟨nd, rfl⟩⟩; refine ⟨_, rfl, ?_⟩))
   go_meet
   case rel => exact ⟨_, (true), z1n, H', ⟨z1v⟩, z1o⟩
 case rest =>
  clear HC2
  try clear c1
  try clear p2
  try clear c4
  try clear c5
  try clear c5b0
  try clear c5b1
  try clear c6
  try clear c6b0
  try clear c6b1
  try clear c7
  try clear c7b0
  try clear c7b1
  try clear c8
  try clear p8
  try clear q8
  try clear hx8
  try clear qi8
  try clear p8
  try clear q8
  obtain ⟨kq, x22_1, rfl, HA, HJ1, ⟨mc1, rfl⟩⟩ := hcut
  cases kq with
  | zero => exact absurd HA.out (by simp [spec_l3Number.j0])
  | succ kj1 =>
   have H := HA.out
   clear HA
   simp only [spec_l3Number.j0] at H
   by_cases c9 : x22_1 = true
   ·subst c9
    rw [if_pos rfl] at H
    obtain rfl := Option.some.inj H
    go_wp2
    go_ret
    exact ⟨z1n, z1o⟩
   ·replace c9 := Bool.eq_false_iff.mpr c9
    subst c9
    rw [if_neg zk] at H
    have H' := zn H
    clear H
    go_wp2
    go_loopg [3, 4] kj1 (fun kq v3 v4 w' => ∃ (x3_2 : Int) (x4_2 : Int), v3 = .int .i64 x3_2 ∧ v4 = .int .i64 x4_2 ∧ Aside0 (spec_l3Number.l0 kq a0 x3_2 x4_2 = some r) ∧ Aside0 (kq ≤ kj1) ∧ Drawn0 w w')
    case atStart => exact ⟨(0), (0), z1n, z1n, H', ⟨Nat.le_refl _⟩, z1o⟩
    case round =>
     clear H'
     try clear c1
     try clear p2
     try clear c4
     try clear c5
     try clear c5b0
     try clear c5b1
     try clear c6
     try clear c6b0
     try clear c6b1
     try clear c7
     try clear c7b0
     try clear c7b1
     try clear c8
     try clear p8
     try clear q8
     try clear hx8
     try clear qi8
     try clear c9
     try clear p2
     try clear p8
     try clear q8
     obtain ⟨x3_2, x4_2, rfl, rfl, HA, HK2, ⟨m2, rfl⟩⟩ := hrel
     cases gk with
     | zero => exact absurd HA.out (by simp [spec_l3Number.l0])
     | succ k2 =>
      have H := HA.out
      clear HA
      simp only [spec_l3Number.l0] at H
      by_cases c10 : x4_2 < (a0.size : Int)
      ·rw [if_pos c10] at H
       have c10b0 := decide_eq_true c10
       clear c10
       by_cases c11 : 0 ≤ x4_2
       ·rw [if_pos c11] at H
        have c11b0 := decide_eq_true c11
        clear c11
        have H' := zn H
        clear H
        have p12 : 0 ≤ (x4_2 : Int) := of_decide_eq_true z1p
        have q12 : x4_2 < (a0.size : Int) := of_decide_eq_true z1p
        have hx12 := bt_at a0 x4_2
        replace p12 := eq_true p12
        replace q12 := eq_true q12
        go_wp2
        go_roundg k2
        case measure => have := HJ1.out; have := HK2.out; omega
        case rel => exact ⟨(wrap64 ((wrap64 (x3_2 * 10)) + (((bt a0 x4_2) - 48) % 256))), (wrap64 (x4_2 + 1)), z1n, z1n, H', ⟨by have := HJ1.out; have := HK2.out; omega⟩, z1o⟩
       ·rw [if_neg c11] at H
        exact absurd H (by simp)
      ·rw [if_neg c10] at H
       have c10b0 := decide_eq_false c10
       clear c10
       obtain rfl := Option.some.inj H
       go_wp2
       go_ret
       exact ⟨z1n, z1o⟩
def spec_l4Major.j0 : Nat → ByteArray → Bool → Option (Int)
 | 0, _, _ => none
 | k + 1, x4, x25 => if x25 = true then (some 0) else (if 1 ≤ (x4.size : Int) then ((spec_l3Number.f k (x4.extract 1 x4.size)).bind fun t257 => ((spec_l1In.f t257 2 1000).bind fun t258 => (if t258 = true then (some t257) else (some 0)))) else (none))
def spec_l4Major.f (k : Nat) (a0 : ByteArray) : Option (Int) := (spec_l3Split.f k a0 47).bind fun t253 => (if 0 ≤ (wrap64 ((t253.length : Int) - 1)) then (if (wrap64 ((t253.length : Int) - 1)) < (t253.length : Int) then (if (t253.length : Int) < 2 then (spec_l4Major.j0 k (rdOf ByteArray.empty t253 (wrap64 ((t253.length : Int) - 1))) true) else (if (rdOf ByteArray.empty t253 (wrap64 ((t253.length : Int) - 1))).toList = ([] : List UInt8) then (spec_l4Major.j0 k (rdOf ByteArray.empty t253 (wrap64 ((t253.length : Int) - 1))) true) else (if 0 < ((rdOf ByteArray.empty t253 (wrap64 ((t253.length : Int) - 1))).size : Int) then (spec_l4Major.j0 k (rdOf ByteArray.empty t253 (wrap64 ((t253.length : Int) - 1))) ((bt (rdOf ByteArray.empty t253 (wrap64 ((t253.length : Int) - 1))) 0) != 118)) else (none)))) else (none)) else (none))
theorem spec_l4Major.mono_l : ∀ k, (∀ y0 y1, LeO (spec_l4Major.j0 k y0 y1) (spec_l4Major.j0 (k + 1) y0 y1))
 | 0 => fun _ _ r h => by simp [spec_l4Major.j0] at h
 | k + 1 => by
  have ih0 := spec_l4Major.mono_l k
  ·intro y0 y1
   unfold spec_l4Major.j0
   repeat' first
   | (with_reducible exact ih0 _ _)
   | (with_reducible exact spec_l3Number.mono _ _)
   | (with_reducible exact spec_l3Split.mono _ _ _)
   | (with_reducible exact LeO.refl _)
   | (with_reducible exact LeO.none _)
   | (with_reducible refine LeO.ite ?_ ?_)
   | (with_reducible refine LeO.bind ?_ (fun _ => ?_))
theorem spec_l4Major.mono : ∀ a0 k, LeO (spec_l4Major.f k a0) (spec_l4Major.f (k + 1) a0) := by
 intro a0 k
 have ih0 := spec_l4Major.mono_l k
 unfold spec_l4Major.f
 repeat' first
   | (with_reducible exact ih0 _ _)
   | (with_reducible exact spec_l3Number.mono _ _)
   | (with_reducible exact spec_l3Split.mono _ _ _)
   | (with_reducible exact LeO.refl _)
   | (with_reducible exact LeO.none _)
   | (with_reducible refine LeO.ite ?_ ?_)
   | (with_reducible refine LeO.bind ?_ (fun _ => ?_))
set_option maxHeartbeats 8000000 in
set_option maxRecDepth 100000 in
theorem spec_l4Major.calls (k : Nat) (a0 : ByteArray) (r : Int) (w : World) (h : spec_l4Major.f k a0 = some r) :
  Calls Tryz.prog 92 #[.string a0] w fun e w' => e = .returned (.int .i64 r) ∧ Below w.heap.size w w' := by
 have HB := zn (Below.refl w.heap.size w)
 have H := h
 unfold spec_l4Major.f at H
 clear h
 obtain ⟨t253, A2, H⟩ := zm H
 try dsimp only at H
 obtain ⟨ji3, hji3⟩ : ∃ j_ : Int, (wrap64 ((t253.length : Int) - 1)) = j_ := ⟨_, rfl⟩
 replace H : (if 0 ≤ (ji3) then (if (ji3) < (t253.length : Int) then (if (t253.length : Int) < 2 then (spec_l4Major.j0 k (rdOf ByteArray.empty t253 (ji3)) true) else (if (rdOf ByteArray.empty t253 (ji3)).toList = ([] : List UInt8) then (spec_l4Major.j0 k (rdOf ByteArray.empty t253 (ji3)) true) else (if 0 < ((rdOf ByteArray.empty t253 (ji3)).size : Int) then (spec_l4Major.j0 k (rdOf ByteArray.empty t253 (ji3)) ((bt (rdOf ByteArray.empty t253 (ji3)) 0) != 118)) else (none)))) else (none)) else (none)) = some r := by first | (rw [hji3] at H; exact H) | (simp only [hji3] at H ⊢; exact H)
 (try rw [hji3] at A2)
 have hji3w : (IntKind.i64.wrap ((t253.length : Int) - 1)) = ji3 := (i64_w _).trans hji3
 by_cases c4 : 0 ≤ (ji3)
 ·rw [if_pos c4] at H
  have c4b0 := decide_eq_true c4
  clear c4
  by_cases c5 : (ji3) < (t253.length : Int)
  ·rw [if_pos c5] at H
   have c5b0 := decide_eq_true c5
   clear c5
   have HC6 := zn H
   clear H
   go_enter Tryz.func92, Tryz.ntmps92
   go_upto_region 3 with (first | ((with_reducible refine zi 56 rfl ?_); refine zj (some 7) Tryz.func56 #[.string a0, .int .u8 47] rfl ?_; (with_reducible refine (spec_l3Split.calls k a0 47 t253 _ A2.out).mono ?_); rintro e w7 ⟨v254, rfl, ho0, hb⟩; refine ⟨_, rfl, ?_⟩; have n_ := zo (Kd.R_lower ho0 (below_size z1r)) (below_step z1r hb); clear HB; obtain ⟨HO255, HB⟩ := n_; (try clear hb); (try clear ho0); obtain ⟨Ao8, co8, eo8⟩ := Kd.R_slice HO255.out; subst eo8; have p256 : 0 ≤ ((ji3) : Int) := of_decide_eq_true z1p; have q256 : (ji3) < (t253.length : Int) := of_decide_eq_true z1p; obtain ⟨ad256, e256, hx256_0⟩ := Kd.at_string (Kd.R_reads' HO255.out).2.2 (ji3) p256 q256; cases e256; replace p256 := eq_true p256; replace q256 := eq_true q256))
   (try simp only [Act.put, z9e, z9f, z9g])
   go_cut [25] (fun v25 wc => ∃ (kq : Nat) (x25_5 : Bool), v25 = .bool x25_5 ∧ Aside0 (spec_l4Major.j0 kq (rdOf ByteArray.empty t253 (ji3)) x25_5 = some r) ∧ Aside0 (kq ≤ k) ∧ Aside0 (Below w.heap.size w wc))
   case first =>
    have H := HC6.out
    clear HC6
    by_cases c9 : (t253.length : Int) < 2
    ·rw [if_pos c9] at H
     have c9b0 := decide_eq_true c9
     have c9b1 : decide (t253.length < 2) = true := decide_eq_true z1k
     clear c9
     (first | rw [c9b0] | (simp only [i64_w, i32_w]; rw [c9b0]) | skip)
     have H' := zn H
     clear H
     go_wp2
     go_meet
     case rel => exact ⟨_, (true), z1n, H', ⟨z1v⟩, ⟨z1r⟩⟩
    ·rw [if_neg c9] at H
     have c9b0 := decide_eq_false c9
     have c9b1 : decide (t253.length < 2) = false := decide_eq_false z1k
     clear c9
     (first | rw [c9b0] | (simp only [i64_w, i32_w]; rw [c9b0]) | skip)
     by_cases c10 : (rdOf ByteArray.empty t253 (ji3)).toList = ([] : List UInt8)
     ·rw [if_pos c10] at H
      have c10b0 := beq_iff_eq.mpr c10
      have c10b1 := bne_eq_false_iff_eq.mpr c10
      clear c10
      have H' := zn H
      clear H
      go_wp2
      go_meet
      case rel => exact ⟨_, (true), z1n, H', ⟨z1v⟩, ⟨z1r⟩⟩
     ·rw [if_neg c10] at H
      have c10b0 := beq_eq_false_iff_ne.mpr c10
      have c10b1 := bne_iff_ne.mpr c10
      by_cases c11 : 0 < ((rdOf ByteArray.empty t253 (ji3)).size : Int)
      ·rw [if_pos c11] at H
       have c11b0 := decide_eq_true c11
       have c11b1 : decide (0 < (rdOf ByteArray.empty t253 (ji3)).size) = true := decide_eq_true z1k
       clear c11
       have H' := zn H
       clear H
       have p12 : 0 ≤ (0 : Int) := z1k
       have q12 : 0 < (rdOf ByteArray.empty t253 (ji3)).size := (by have : (0 : Int) < ((rdOf ByteArray.empty t253 (ji3)).size : Int) := of_decide_eq_true z1p; omega)
       have hx12 : ∀ h : 0 < (rdOf ByteArray.empty t253 (ji3)).size, (((rdOf ByteArray.empty t253 (ji3))[0]'h).toNat : Int) = bt (rdOf ByteArray.empty t253 (ji3)) 0 := bt_at (rdOf ByteArray.empty t253 (ji3)) 0
       clear p12
       have qi12 : (0 < ((rdOf ByteArray.empty t253 (ji3)).size : Int)) = True := eq_true (of_decide_eq_true z1p)
       replace q12 := eq_true q12
       go_wp2
       go_meet
       case rel => exact ⟨_, (((bt (rdOf ByteArray.empty t253 (ji3)) 0) != 118)), (by first | rfl | (simp; done) | (simp only [← hji3] <;> (first | rfl | simp)) | (simp [*]; done)), H', ⟨z1v⟩, ⟨z1r⟩⟩
      ·rw [if_neg c11] at H
       exact absurd H (by simp)
   case rest =>
    clear HC6
    try clear c1
    try clear p1
    try clear q1
    try clear hx1
    try clear qi1
    try clear p2
    try clear q2
    try clear hx2
    try clear c4
    try clear c4b0
    try clear c5
    try clear c5b0
    try clear p6
    try clear c9
    try clear c9b0
    try clear c9b1
    try clear c10
    try clear c10b0
    try clear c10b1
    try clear c11
    try clear c11b0
    try clear c11b1
    try clear p12
    try clear q12
    try clear hx12
    try clear qi12
    try clear hx256_0
    try clear p12
    try clear p256
    try clear q12
    try clear q256
    obtain ⟨kq, x25_5, rfl, HA, HJ5, HB⟩ := hcut
    cases kq with
    | zero => exact absurd HA.out (by simp [spec_l4Major.j0])
    | succ kj5 =>
     have H := HA.out
     clear HA
     simp only [spec_l4Major.j0] at H
     by_cases c13 : x25_5 = true
     ·subst c13
      rw [if_pos rfl] at H
      obtain rfl := Option.some.inj H
      go_wp2
      go_ret
      exact ⟨z3x, z1r⟩
     ·replace c13 := Bool.eq_false_iff.mpr c13
      subst c13
      rw [if_neg zk] at H
      by_cases c14 : 1 ≤ ((rdOf ByteArray.empty t253 (ji3)).size : Int)
      ·rw [if_pos c14] at H
       have c14b0 := eq_true c14
       have c14b1 := decide_eq_true c14
       clear c14
       obtain ⟨t257, A15, H⟩ := zm H
       try dsimp only at H
       obtain ⟨t258, A16, H⟩ := zm H
       try dsimp only at H
       by_cases c17 : t258 = true
       ·subst c17
        rw [if_pos rfl] at H
        obtain rfl := Option.some.inj H
        go_wp2_with (first | ((with_reducible refine zi 87 rfl ?_); refine z1j (some 28) Tryz.func87 #[.string ((rdOf ByteArray.empty t253 (ji3)).extract 1 (rdOf ByteArray.empty t253 (ji3)).size)] rfl ?_; (with_reducible refine (spec_l3Number.calls kj5 ((rdOf ByteArray.empty t253 (ji3)).extract 1 (rdOf ByteArray.empty t253 (ji3)).size) t257 _ A15.out).mono ?_); rintro e w' ⟨rfl, ⟨nd, rfl⟩⟩; refine ⟨_, rfl, ?_⟩) | ((with_reducible refine zi 93 rfl ?_); refine zj (some 30) Tryz.func93 #[.int .i64 t257, .int .i64 2, .int .i64 1000] rfl ?_; (with_reducible refine (spec_l1In.calls t257 2 1000 true _ A16.out).mono ?_); rintro e w' ⟨rfl, ⟨nd, rfl⟩⟩; refine ⟨_, rfl, ?_⟩))
        go_ret
        exact ⟨z3x, z1r⟩
       ·replace c17 := Bool.eq_false_iff.mpr c17
        subst c17
        rw [if_neg zk] at H
        obtain rfl := Option.some.inj H
        go_wp2_with (first | ((with_reducible refine zi 87 rfl ?_); refine z1j (some 28) Tryz.func87 #[.string ((rdOf ByteArray.empty t253 (ji3)).extract 1 (rdOf ByteArray.empty t253 (ji3)).size)] rfl ?_; (with_reducible refine (spec_l3Number.calls kj5 ((rdOf ByteArray.empty t253 (ji3)).extract 1 (rdOf ByteArray.empty t253 (ji3)).size) t257 _ A15.out).mono ?_); rintro e w' ⟨rfl, ⟨nd, rfl⟩⟩; refine ⟨_, rfl, ?_⟩) | ((with_reducible refine zi 93 rfl ?_); refine zj (some 30) Tryz.func93 #[.int .i64 t257, .int .i64 2, .int .i64 1000] rfl ?_; (with_reducible refine (spec_l1In.calls t257 2 1000 false _ A16.out).mono ?_); rintro e w' ⟨rfl, ⟨nd, rfl⟩⟩; refine ⟨_, rfl, ?_⟩))
        go_ret
        exact ⟨z3x, z1r⟩
      ·rw [if_neg c14] at H
       exact absurd H (by simp)
  ·rw [if_neg c5] at H
   exact absurd H (by simp)
 ·rw [if_neg c4] at H
  exact absurd H (by simp)
def spec_MajorOf.f (k : Nat) (a0 : ByteArray) : Option (Int) := (spec_PathOk.f k a0).bind fun t259 => (if t259 = true then ((spec_l4Major.f k a0).bind fun t260 => (if t260 = 0 then (some 1) else (some t260))) else (some 0))
theorem spec_MajorOf.mono : ∀ a0 k, LeO (spec_MajorOf.f k a0) (spec_MajorOf.f (k + 1) a0) := by
 intro a0 k
 unfold spec_MajorOf.f
 repeat' first
   | (with_reducible exact spec_PathOk.mono _ _)
   | (with_reducible exact spec_l4Major.mono _ _)
   | (with_reducible exact LeO.refl _)
   | (with_reducible exact LeO.none _)
   | (with_reducible refine LeO.ite ?_ ?_)
   | (with_reducible refine LeO.bind ?_ (fun _ => ?_))
set_option maxHeartbeats 8000000 in
set_option maxRecDepth 100000 in
theorem spec_MajorOf.calls (k : Nat) (a0 : ByteArray) (r : Int) (w : World) (h : spec_MajorOf.f k a0 = some r) :
  Calls Tryz.prog 67 #[.string a0] w fun e w' => e = .returned (.int .i64 r) ∧ Below w.heap.size w w' := by
 have HB := zn (Below.refl w.heap.size w)
 have H := h
 unfold spec_MajorOf.f at H
 clear h
 obtain ⟨t259, A2, H⟩ := zm H
 try dsimp only at H
 by_cases c3 : t259 = true
 ·subst c3
  rw [if_pos rfl] at H
  obtain ⟨t260, A4, H⟩ := zm H
  try dsimp only at H
  by_cases c5 : t260 = 0
  ·rw [if_pos c5] at H
   have c5b0 := beq_iff_eq.mpr c5
   have c5b1 := bne_eq_false_iff_eq.mpr c5
   clear c5
   obtain rfl := Option.some.inj H
   go_enter Tryz.func67, Tryz.ntmps67
   go_wp2_with (first | ((with_reducible refine zi 91 rfl ?_); refine zj (some 5) Tryz.func91 #[.string a0] rfl ?_; (with_reducible refine (spec_PathOk.calls k a0 true _ A2.out).mono ?_); rintro e w6 ⟨rfl, hb⟩; refine ⟨_, rfl, ?_⟩; replace HB := zn (below_step z1r hb); (try clear hb)) | ((with_reducible refine zi 92 rfl ?_); refine zj (some 8) Tryz.func92 #[.string a0] rfl ?_; (with_reducible refine (spec_l4Major.calls k a0 t260 _ A4.out).mono ?_); rintro e w7 ⟨rfl, hb⟩; refine ⟨_, rfl, ?_⟩; replace HB := zn (below_step z1r hb); (try clear hb)))
   go_ret
   exact ⟨z1t, z1r⟩
  ·rw [if_neg c5] at H
   have c5b0 := beq_eq_false_iff_ne.mpr c5
   have c5b1 := bne_iff_ne.mpr c5
   obtain rfl := Option.some.inj H
   go_enter Tryz.func67, Tryz.ntmps67
   go_wp2_with (first | ((with_reducible refine zi 91 rfl ?_); refine zj (some 5) Tryz.func91 #[.string a0] rfl ?_; (with_reducible refine (spec_PathOk.calls k a0 true _ A2.out).mono ?_); rintro e w8 ⟨rfl, hb⟩; refine ⟨_, rfl, ?_⟩; replace HB := zn (below_step z1r hb); (try clear hb)) | ((with_reducible refine zi 92 rfl ?_); refine zj (some 8) Tryz.func92 #[.string a0] rfl ?_; (with_reducible refine (spec_l4Major.calls k a0 t260 _ A4.out).mono ?_); rintro e w9 ⟨rfl, hb⟩; refine ⟨_, rfl, ?_⟩; replace HB := zn (below_step z1r hb); (try clear hb)))
   go_ret
   exact ⟨z1t, z1r⟩
 ·replace c3 := Bool.eq_false_iff.mpr c3
  subst c3
  rw [if_neg zk] at H
  obtain rfl := Option.some.inj H
  go_enter Tryz.func67, Tryz.ntmps67
  go_wp2_with (first | ((with_reducible refine zi 91 rfl ?_); refine zj (some 5) Tryz.func91 #[.string a0] rfl ?_; (with_reducible refine (spec_PathOk.calls k a0 false _ A2.out).mono ?_); rintro e w10 ⟨rfl, hb⟩; refine ⟨_, rfl, ?_⟩; replace HB := zn (below_step z1r hb); (try clear hb)))
  go_ret
  exact ⟨z1t, z1r⟩
def spec_l3Part.l0 : Nat → ByteArray → Int → Option (Bool)
 | 0, _, _ => none
 | k + 1, x0, x3 => if x3 < (x0.size : Int) then (if 0 ≤ x3 then ((spec_l1In.f (wrap64 (bt x0 x3)) 97 122).bind fun t264 => (if t264 = true then (spec_l3Part.l0 k x0 (wrap64 (x3 + 1))) else ((spec_l1In.f (wrap64 (bt x0 x3)) 65 90).bind fun t265 => (if t265 = true then (spec_l3Part.l0 k x0 (wrap64 (x3 + 1))) else ((spec_l1In.f (wrap64 (bt x0 x3)) 48 57).bind fun t266 => (if t266 = true then (spec_l3Part.l0 k x0 (wrap64 (x3 + 1))) else (if (wrap64 (bt x0 x3)) = 45 then (spec_l3Part.l0 k x0 (wrap64 (x3 + 1))) else (some false)))))))) else (none)) else ((spec_l1In.f (x0.size : Int) 1 8).bind fun t261 => (if t261 = true then ((spec_l3Digits.f k x0).bind fun t262 => (if t262 = true then ((spec_l3Number.f k x0).bind fun t263 => (some (decide (t263 ≥ 0)))) else (some true))) else (some false)))
def spec_l3Part.f (k : Nat) (a0 : ByteArray) : Option (Bool) := spec_l3Part.l0 k a0 0
set_option maxHeartbeats 8000000 in
set_option maxRecDepth 100000 in
theorem spec_l3Part.calls (k : Nat) (a0 : ByteArray) (r : Bool) (w : World) (h : spec_l3Part.f k a0 = some r) :
  Calls Tryz.prog 109 #[.string a0] w fun e w' => e = .returned (.bool r) ∧ Drawn0 w w' := by
 have H := h
 unfold spec_l3Part.f at H
 clear h
 have H' := zn H
 clear H
 go_enter Tryz.func109, Tryz.ntmps109
 go_wp2
 go_loopg [3] k (fun kq v3 w' => ∃ (x3_1 : Int), v3 = .int .i64 x3_1 ∧ Aside0 (spec_l3Part.l0 kq a0 x3_1 = some r) ∧ Aside0 (kq ≤ k) ∧ Drawn0 w w')
 case atStart => exact ⟨(0), z1n, H', ⟨Nat.le_refl _⟩, z1o⟩
 case round =>
  clear H'
  try clear c1
  obtain ⟨x3_1, rfl, HA, HK1, ⟨m1, rfl⟩⟩ := hrel
  cases gk with
  | zero => exact absurd HA.out (by simp [spec_l3Part.l0])
  | succ k1 =>
   have H := HA.out
   clear HA
   simp only [spec_l3Part.l0] at H
   by_cases c2 : x3_1 < (a0.size : Int)
   ·rw [if_pos c2] at H
    have c2b0 := decide_eq_true c2
    clear c2
    by_cases c3 : 0 ≤ x3_1
    ·rw [if_pos c3] at H
     have c3b0 := decide_eq_true c3
     clear c3
     obtain ⟨t264, A5, H⟩ := zm H
     try dsimp only at H
     by_cases c6 : t264 = true
     ·subst c6
      rw [if_pos rfl] at H
      have H' := zn H
      clear H
      have p4 : 0 ≤ (x3_1 : Int) := of_decide_eq_true z1p
      have q4 : x3_1 < (a0.size : Int) := of_decide_eq_true z1p
      have hx4 := bt_at a0 x3_1
      replace p4 := eq_true p4
      replace q4 := eq_true q4
      go_wp2_with (first | ((with_reducible refine zi 93 rfl ?_); refine zj (some 16) Tryz.func93 #[.int .i64 (wrap64 (bt a0 x3_1)), .int .i64 97, .int .i64 122] rfl ?_; (with_reducible refine (spec_l1In.calls (wrap64 (bt a0 x3_1)) 97 122 true _ A5.out).mono ?_); rintro e w' ⟨rfl, ⟨nd, rfl⟩⟩; refine ⟨_, rfl, ?_⟩))
      go_roundg k1
      case measure => have := HK1.out; omega
      case rel => exact ⟨(wrap64 (x3_1 + 1)), z1n, H', ⟨z1q⟩, z1o⟩
     ·replace c6 := Bool.eq_false_iff.mpr c6
      subst c6
      rw [if_neg zk] at H
      obtain ⟨t265, A7, H⟩ := zm H
      try dsimp only at H
      by_cases c8 : t265 = true
      ·subst c8
       rw [if_pos rfl] at H
       have H' := zn H
       clear H
       have p4 : 0 ≤ (x3_1 : Int) := of_decide_eq_true z1p
       have q4 : x3_1 < (a0.size : Int) := of_decide_eq_true z1p
       have hx4 := bt_at a0 x3_1
       replace p4 := eq_true p4
       replace q4 := eq_true q4
       go_wp2_with (first | ((with_reducible refine zi 93 rfl ?_); refine zj (some 16) Tryz.func93 #[.int .i64 (wrap64 (bt a0 x3_1)), .int .i64 97, .int .i64 122] rfl ?_; (with_reducible refine (spec_l1In.calls (wrap64 (bt a0 x3_1)) 97 122 false _ A5.out).mono ?_); rintro e w' ⟨rfl, ⟨nd, rfl⟩⟩; refine ⟨_, rfl, ?_⟩) | (go_at_call 93; (with_reducible refine (spec_l1In.calls (wrap64 (bt a0 x3_1)) 65 90 true _ A7.out).mono ?_); rintro e w' ⟨rfl, ⟨nd, rfl⟩⟩))
       go_roundg k1
       case measure => have := HK1.out; omega
       case rel => exact ⟨(wrap64 (x3_1 + 1)), z1n, H', ⟨z1q⟩, z1o⟩
      ·replace c8 := Bool.eq_false_iff.mpr c8
       subst c8
       rw [if_neg zk] at H
       obtain ⟨t266, A9, H⟩ := zm H
       try dsimp only at H
       by_cases c10 : t266 = true
       ·subst c10
        rw [if_pos rfl] at H
        have H' := zn H
        clear H
        have p4 : 0 ≤ (x3_1 : Int) := of_decide_eq_true z1p
        have q4 : x3_1 < (a0.size : Int) := of_decide_eq_true z1p
        have hx4 := bt_at a0 x3_1
        replace p4 := eq_true p4
        replace q4 := eq_true q4
        go_wp2_with (first | ((with_reducible refine zi 93 rfl ?_); refine zj (some 16) Tryz.func93 #[.int .i64 (wrap64 (bt a0 x3_1)), .int .i64 97, .int .i64 122] rfl ?_; (with_reducible refine (spec_l1In.calls (wrap64 (bt a0 x3_1)) 97 122 false _ A5.out).mono ?_); rintro e w' ⟨rfl, ⟨nd, rfl⟩⟩; refine ⟨_, rfl, ?_⟩) | (go_at_call 93; (with_reducible refine (spec_l1In.calls (wrap64 (bt a0 x3_1)) 65 90 false _ A7.out).mono ?_); rintro e w' ⟨rfl, ⟨nd, rfl⟩⟩) | (go_at_call 93; (with_reducible refine (spec_l1In.calls (wrap64 (bt a0 x3_1)) 48 57 true _ A9.out).mono ?_); rintro e w' ⟨rfl, ⟨nd, rfl⟩⟩))
        go_roundg k1
        case measure => have := HK1.out; omega
        case rel => exact ⟨(wrap64 (x3_1 + 1)), z1n, H', ⟨z1q⟩, z1o⟩
       ·replace c10 := Bool.eq_false_iff.mpr c10
        subst c10
        rw [if_neg zk] at H
        by_cases c11 : (wrap64 (bt a0 x3_1)) = 45
        ·rw [if_pos c11] at H
         have c11b0 := beq_iff_eq.mpr c11
         have c11b1 := bne_eq_false_iff_eq.mpr c11
         clear c11
         have H' := zn H
         clear H
         have p4 : 0 ≤ (x3_1 : Int) := of_decide_eq_true z1p
         have q4 : x3_1 < (a0.size : Int) := of_decide_eq_true z1p
         have hx4 := bt_at a0 x3_1
         replace p4 := eq_true p4
         replace q4 := eq_true q4
         go_wp2_with (first | ((with_reducible refine zi 93 rfl ?_); refine zj (some 16) Tryz.func93 #[.int .i64 (wrap64 (bt a0 x3_1)), .int .i64 97, .int .i64 122] rfl ?_; (with_reducible refine (spec_l1In.calls (wrap64 (bt a0 x3_1)) 97 122 false _ A5.out).mono ?_); rintro e w' ⟨rfl, ⟨nd, rfl⟩⟩; refine ⟨_, rfl, ?_⟩) | (go_at_call 93; (with_reducible refine (spec_l1In.calls (wrap64 (bt a0 x3_1)) 65 90 false _ A7.out).mono ?_); rintro e w' ⟨rfl, ⟨nd, rfl⟩⟩) | (go_at_call 93; (with_reducible refine (spec_l1In.calls (wrap64 (bt a0 x3_1)) 48 57 false _ A9.out).mono ?_); rintro e w' ⟨rfl, ⟨nd, rfl⟩⟩))
         go_roundg k1
         case measure => have := HK1.out; omega
         case rel => exact ⟨(wrap64 (x3_1 + 1)), z1n, H', ⟨z1q⟩, z1o⟩
        ·rw [if_neg c11] at H
         have c11b0 := beq_eq_false_iff_ne.mpr c11
         have c11b1 := bne_iff_ne.mpr c11
         obtain rfl := Option.some.inj H
         have p4 : 0 ≤ (x3_1 : Int) := of_decide_eq_true z1p
         have q4 : x3_1 < (a0.size : Int) := of_decide_eq_true z1p
         have hx4 := bt_at a0 x3_1
         replace p4 := eq_true p4
         replace q4 := eq_true q4
         go_wp2_with (first | ((with_reducible refine zi 93 rfl ?_); refine zj (some 16) Tryz.func93 #[.int .i64 (wrap64 (bt a0 x3_1)), .int .i64 97, .int .i64 122] rfl ?_; (with_reducible refine (spec_l1In.calls (wrap64 (bt a0 x3_1)) 97 122 false _ A5.out).mono ?_); rintro e w' ⟨rfl, ⟨nd, rfl⟩⟩; refine ⟨_, rfl, ?_⟩) | (go_at_call 93; (with_reducible refine (spec_l1In.calls (wrap64 (bt a0 x3_1)) 65 90 false _ A7.out).mono ?_); rintro e w' ⟨rfl, ⟨nd, rfl⟩⟩) | (go_at_call 93; (with_reducible refine (spec_l1In.calls (wrap64 (bt a0 x3_1)) 48 57 false _ A9.out).mono ?_); rintro e w' ⟨rfl, ⟨nd, rfl⟩⟩))
         go_ret
         exact ⟨z1n, z1o⟩
    ·rw [if_neg c3] at H
     exact absurd H (by simp)
   ·rw [if_neg c2] at H
    have c2b0 := decide_eq_false c2
    clear c2
    obtain ⟨t261, A12, H⟩ := zm H
    try dsimp only at H
    by_cases c13 : t261 = true
    ·subst c13
     rw [if_pos rfl] at H
     obtain ⟨t262, A14, H⟩ := zm H
     try dsimp only at H
     by_cases c15 : t262 = true
     ·subst c15
      rw [if_pos rfl] at H
      obtain ⟨t263, A16, H⟩ := zm H
      try dsimp only at H
      obtain rfl := Option.some.inj H
      go_wp2_with (first | ((with_reducible refine zi 93 rfl ?_); refine zj (some 34) Tryz.func93 #[.int .i64 (a0.size : Int), .int .i64 1, .int .i64 8] rfl ?_; (with_reducible refine (spec_l1In.calls (a0.size : Int) 1 8 true _ A12.out).mono ?_); rintro e w' ⟨rfl, ⟨nd, rfl⟩⟩; refine ⟨_, rfl, ?_⟩) | (go_at_call 107; (with_reducible refine (spec_l3Digits.calls k1 a0 true _ A14.out).mono ?_); rintro e w' ⟨rfl, ⟨nd, rfl⟩⟩) | (go_at_call 87; (with_reducible refine (spec_l3Number.calls k1 a0 t263 _ A16.out).mono ?_); rintro e w' ⟨rfl, ⟨nd, rfl⟩⟩))
      go_ret
      exact ⟨z1n, z1o⟩
     ·replace c15 := Bool.eq_false_iff.mpr c15
      subst c15
      rw [if_neg zk] at H
      obtain rfl := Option.some.inj H
      go_wp2_with (first | ((with_reducible refine zi 93 rfl ?_); refine zj (some 34) Tryz.func93 #[.int .i64 (a0.size : Int), .int .i64 1, .int .i64 8] rfl ?_; (with_reducible refine (spec_l1In.calls (a0.size : Int) 1 8 true _ A12.out).mono ?_); rintro e w' ⟨rfl, ⟨nd, rfl⟩⟩; refine ⟨_, rfl, ?_⟩) | (go_at_call 107; (with_reducible refine (spec_l3Digits.calls k1 a0 false _ A14.out).mono ?_); rintro e w' ⟨rfl, ⟨nd, rfl⟩⟩))
      go_ret
      exact ⟨z1n, z1o⟩
    ·replace c13 := Bool.eq_false_iff.mpr c13
     subst c13
     rw [if_neg zk] at H
     obtain rfl := Option.some.inj H
     go_wp2_with (first | ((with_reducible refine zi 93 rfl ?_); refine zj (some 34) Tryz.func93 #[.int .i64 (a0.size : Int), .int .i64 1, .int .i64 8] rfl ?_; (with_reducible refine (spec_l1In.calls (a0.size : Int) 1 8 false _ A12.out).mono ?_); rintro e w' ⟨rfl, ⟨nd, rfl⟩⟩; refine ⟨_, rfl, ?_⟩))
     go_ret
     exact ⟨z1n, z1o⟩
def spec_l3Pre.l0 : Nat → List ByteArray → Int → Option (Bool)
 | 0, _, _ => none
 | k + 1, x3, x4 => if x4 < (x3.length : Int) then (if 0 ≤ x4 then ((spec_l3Part.f k (rdOf ByteArray.empty x3 x4)).bind fun t271 => (if t271 = true then (spec_l3Pre.l0 k x3 (wrap64 (x4 + 1))) else (some false))) else (none)) else (some (decide ((x3.length : Int) ≤ 4)))
def spec_l3Pre.f (k : Nat) (a0 : ByteArray) : Option (Bool) := (spec_l3Split.f k a0 46).bind fun t267 => (spec_l3Pre.l0 k t267 0)
set_option maxHeartbeats 8000000 in
set_option maxRecDepth 100000 in
theorem spec_l3Pre.calls (k : Nat) (a0 : ByteArray) (r : Bool) (w : World) (h : spec_l3Pre.f k a0 = some r) :
  Calls Tryz.prog 94 #[.string a0] w fun e w' => e = .returned (.bool r) ∧ Below w.heap.size w w' := by
 have HB := zn (Below.refl w.heap.size w)
 have H := h
 unfold spec_l3Pre.f at H
 clear h
 obtain ⟨t267, A2, H⟩ := zm H
 try dsimp only at H
 have H' := zn H
 clear H
 go_enter Tryz.func94, Tryz.ntmps94
 go_wp2_with (first | ((with_reducible refine zi 56 rfl ?_); refine zj (some 6) Tryz.func56 #[.string a0, .int .u8 46] rfl ?_; (with_reducible refine (spec_l3Split.calls k a0 46 t267 _ A2.out).mono ?_); rintro e w3 ⟨v268, rfl, ho0, hb⟩; refine ⟨_, rfl, ?_⟩; have n_ := zo (Kd.R_lower ho0 (below_size z1r)) (below_step z1r hb); clear HB; obtain ⟨HO269, HB⟩ := n_; (try clear hb); (try clear ho0)))
 go_loopg [4] k (fun kq v4 w' => ∃ (x4_1 : Int), v4 = .int .i64 x4_1 ∧ Aside0 (spec_l3Pre.l0 kq t267 x4_1 = some r) ∧ Aside0 (kq ≤ k) ∧ Aside0 (Kd.R Kd.string 9 w' w.heap.size (fun _ => True) v268 t267) ∧ Aside0 (Below w.heap.size w w'))
 case atStart => exact ⟨(0), z1n, H', ⟨Nat.le_refl _⟩, ⟨by (with_reducible repeat (first | apply Kd.R_alloc | apply Kd.R_drewN | apply Kd.R_drew)); exact HO269.out⟩, ⟨z1r⟩⟩
 case round =>
  clear H'
  try clear p2
  obtain ⟨x4_1, rfl, HA, HK1, HO_3, HB⟩ := hrel
  cases gk with
  | zero => exact absurd HA.out (by simp [spec_l3Pre.l0])
  | succ k1 =>
   have H := HA.out
   clear HA
   simp only [spec_l3Pre.l0] at H
   by_cases c4 : x4_1 < (t267.length : Int)
   ·rw [if_pos c4] at H
    have c4b0 := decide_eq_true c4
    clear c4
    by_cases c5 : 0 ≤ x4_1
    ·rw [if_pos c5] at H
     have c5b0 := decide_eq_true c5
     clear c5
     obtain ⟨t271, A6, H⟩ := zm H
     try dsimp only at H
     by_cases c7 : t271 = true
     ·subst c7
      rw [if_pos rfl] at H
      have H' := zn H
      clear H
      obtain ⟨Ao8, co8, eo8⟩ := Kd.R_slice HO_3.out
      subst eo8
      have p270 : 0 ≤ (x4_1 : Int) := of_decide_eq_true z1p
      have q270 : x4_1 < (t267.length : Int) := of_decide_eq_true z1p
      obtain ⟨ad270, e270, hx270_0⟩ := Kd.at_string (Kd.R_reads' HO_3.out).2.2 x4_1 p270 q270
      cases e270
      replace p270 := eq_true p270
      replace q270 := eq_true q270
      go_wp2_with (first | ((with_reducible refine zi 109 rfl ?_); refine zj (some 17) Tryz.func109 #[.string (rdOf ByteArray.empty t267 x4_1)] rfl ?_; (with_reducible refine (spec_l3Part.calls k1 (rdOf ByteArray.empty t267 x4_1) true _ A6.out).mono ?_); rintro e w' ⟨rfl, ⟨nd, rfl⟩⟩; refine ⟨_, rfl, ?_⟩))
      go_roundg k1
      case measure => have := HK1.out; omega
      case rel => exact ⟨(wrap64 (x4_1 + 1)), z1n, H', ⟨z1q⟩, ⟨z1s⟩, ⟨z1r⟩⟩
     ·replace c7 := Bool.eq_false_iff.mpr c7
      subst c7
      rw [if_neg zk] at H
      obtain rfl := Option.some.inj H
      obtain ⟨Ao9, co9, eo9⟩ := Kd.R_slice HO_3.out
      subst eo9
      have p270 : 0 ≤ (x4_1 : Int) := of_decide_eq_true z1p
      have q270 : x4_1 < (t267.length : Int) := of_decide_eq_true z1p
      obtain ⟨ad270, e270, hx270_0⟩ := Kd.at_string (Kd.R_reads' HO_3.out).2.2 x4_1 p270 q270
      cases e270
      replace p270 := eq_true p270
      replace q270 := eq_true q270
      go_wp2_with (first | ((with_reducible refine zi 109 rfl ?_); refine zj (some 17) Tryz.func109 #[.string (rdOf ByteArray.empty t267 x4_1)] rfl ?_; (with_reducible refine (spec_l3Part.calls k1 (rdOf ByteArray.empty t267 x4_1) false _ A6.out).mono ?_); rintro e w' ⟨rfl, ⟨nd, rfl⟩⟩; refine ⟨_, rfl, ?_⟩))
      go_ret
      exact ⟨z1t, z1r⟩
    ·rw [if_neg c5] at H
     exact absurd H (by simp)
   ·rw [if_neg c4] at H
    have c4b0 := decide_eq_false c4
    clear c4
    obtain rfl := Option.some.inj H
    obtain ⟨Ao10, co10, eo10⟩ := Kd.R_slice HO_3.out
    subst eo10
    go_wp2
    go_ret
    exact ⟨z1t, z1r⟩
def spec_VersionOk.f (k : Nat) (a0_0 : Int) (a0_1 : Int) (a0_2 : Int) (a0_3 : ByteArray) : Option (Bool) := (spec_l1In.f a0_0 0 1000000).bind fun t273 => (if t273 = true then ((spec_l1In.f a0_1 0 1000000).bind fun t274 => (if t274 = true then ((spec_l1In.f a0_2 0 1000000).bind fun t275 => (if t275 = true then (if a0_3.toList = ([] : List UInt8) then (some true) else ((spec_l3Pre.f k a0_3).bind fun t276 => (some t276))) else (some false))) else (some false))) else (some false))
set_option maxHeartbeats 8000000 in
set_option maxRecDepth 100000 in
theorem spec_VersionOk.calls (k : Nat) (a0_0 : Int) (a0_1 : Int) (a0_2 : Int) (a0_3 : ByteArray) (r : Bool) (w : World) (h : spec_VersionOk.f k a0_0 a0_1 a0_2 a0_3 = some r) :
  Calls Tryz.prog 68 #[.agg #[.int .i64 a0_0, .int .i64 a0_1, .int .i64 a0_2, .string a0_3]] w fun e w' => e = .returned (.bool r) ∧ Below w.heap.size w w' := by
 have hu25 := Tryz.underlying25
 have HB := zn (Below.refl w.heap.size w)
 have H := h
 unfold spec_VersionOk.f at H
 clear h
 obtain ⟨t273, A2, H⟩ := zm H
 try dsimp only at H
 by_cases c3 : t273 = true
 ·subst c3
  rw [if_pos rfl] at H
  obtain ⟨t274, A4, H⟩ := zm H
  try dsimp only at H
  by_cases c5 : t274 = true
  ·subst c5
   rw [if_pos rfl] at H
   obtain ⟨t275, A6, H⟩ := zm H
   try dsimp only at H
   by_cases c7 : t275 = true
   ·subst c7
    rw [if_pos rfl] at H
    by_cases c8 : a0_3.toList = ([] : List UInt8)
    ·rw [if_pos c8] at H
     have c8b0 := beq_iff_eq.mpr c8
     have c8b1 := bne_eq_false_iff_eq.mpr c8
     clear c8
     obtain rfl := Option.some.inj H
     go_enter Tryz.func68, Tryz.ntmps68
     go_wp2_with (first | ((with_reducible refine zr 1 rfl ?_); refine zt 25 #[.int .i64 a0_0, .int .i64 a0_1, .int .i64 a0_2, .string a0_3] ?_; intro gb272 hg w9 hbox hb; have n_ := zv (below_step z1r hb) hbox (z8j : w.heap.size ≤ gb272) (z8j : w.heap.size ≤ gb272); clear HB; obtain ⟨HB, BK272, GW272, GE272⟩ := n_; clear hb hbox hg; obtain ⟨hcz10_0, hcz10_1, hcz10_2, hcz10_3, hfz10_0, hfz10_1, hfz10_2, hfz10_3⟩ := zf BK272.out) | ((with_reducible refine zi 93 rfl ?_); refine zj (some 5) Tryz.func93 #[.int .i64 a0_0, .int .i64 0, .int .i64 1000000] rfl ?_; (with_reducible refine (spec_l1In.calls a0_0 0 1000000 true _ A2.out).mono ?_); rintro e w' ⟨rfl, ⟨nd, rfl⟩⟩; refine ⟨_, rfl, ?_⟩) | (go_at_call 93; (with_reducible refine (spec_l1In.calls a0_1 0 1000000 true _ A4.out).mono ?_); rintro e w' ⟨rfl, ⟨nd, rfl⟩⟩) | (go_at_call 93; (with_reducible refine (spec_l1In.calls a0_2 0 1000000 true _ A6.out).mono ?_); rintro e w' ⟨rfl, ⟨nd, rfl⟩⟩))
     go_ret
     exact ⟨z1t, z3y⟩
    ·rw [if_neg c8] at H
     have c8b0 := beq_eq_false_iff_ne.mpr c8
     have c8b1 := bne_iff_ne.mpr c8
     obtain ⟨t276, A11, H⟩ := zm H
     try dsimp only at H
     obtain rfl := Option.some.inj H
     go_enter Tryz.func68, Tryz.ntmps68
     go_wp2_with (first | ((with_reducible refine zr 1 rfl ?_); refine zt 25 #[.int .i64 a0_0, .int .i64 a0_1, .int .i64 a0_2, .string a0_3] ?_; intro gb272 hg w12 hbox hb; have n_ := zv (below_step z1r hb) hbox (z8j : w.heap.size ≤ gb272) (z8j : w.heap.size ≤ gb272); clear HB; obtain ⟨HB, BK272, GW272, GE272⟩ := n_; clear hb hbox hg; obtain ⟨hcz13_0, hcz13_1, hcz13_2, hcz13_3, hfz13_0, hfz13_1, hfz13_2, hfz13_3⟩ := zf BK272.out) | ((with_reducible refine zi 93 rfl ?_); refine zj (some 5) Tryz.func93 #[.int .i64 a0_0, .int .i64 0, .int .i64 1000000] rfl ?_; (with_reducible refine (spec_l1In.calls a0_0 0 1000000 true _ A2.out).mono ?_); rintro e w' ⟨rfl, ⟨nd, rfl⟩⟩; refine ⟨_, rfl, ?_⟩) | (go_at_call 93; (with_reducible refine (spec_l1In.calls a0_1 0 1000000 true _ A4.out).mono ?_); rintro e w' ⟨rfl, ⟨nd, rfl⟩⟩) | (go_at_call 93; (with_reducible refine (spec_l1In.calls a0_2 0 1000000 true _ A6.out).mono ?_); rintro e w' ⟨rfl, ⟨nd, rfl⟩⟩) | (go_at_call 94; (with_reducible refine (spec_l3Pre.calls k a0_3 t276 _ A11.out).mono ?_); rintro e w14 ⟨rfl, hb⟩; have n_ := zo (blk_below (zu BK272.out) hb) (below_step z3y hb); clear BK272 HB; obtain ⟨BK272, HB⟩ := n_; (try clear hb)))
     go_ret
     exact ⟨z1t, z3y⟩
   ·replace c7 := Bool.eq_false_iff.mpr c7
    subst c7
    rw [if_neg zk] at H
    obtain rfl := Option.some.inj H
    go_enter Tryz.func68, Tryz.ntmps68
    go_wp2_with (first | ((with_reducible refine zr 1 rfl ?_); refine zt 25 #[.int .i64 a0_0, .int .i64 a0_1, .int .i64 a0_2, .string a0_3] ?_; intro gb272 hg w15 hbox hb; have n_ := zv (below_step z1r hb) hbox (z8j : w.heap.size ≤ gb272) (z8j : w.heap.size ≤ gb272); clear HB; obtain ⟨HB, BK272, GW272, GE272⟩ := n_; clear hb hbox hg; obtain ⟨hcz16_0, hcz16_1, hcz16_2, hcz16_3, hfz16_0, hfz16_1, hfz16_2, hfz16_3⟩ := zf BK272.out) | ((with_reducible refine zi 93 rfl ?_); refine zj (some 5) Tryz.func93 #[.int .i64 a0_0, .int .i64 0, .int .i64 1000000] rfl ?_; (with_reducible refine (spec_l1In.calls a0_0 0 1000000 true _ A2.out).mono ?_); rintro e w' ⟨rfl, ⟨nd, rfl⟩⟩; refine ⟨_, rfl, ?_⟩) | (go_at_call 93; (with_reducible refine (spec_l1In.calls a0_1 0 1000000 true _ A4.out).mono ?_); rintro e w' ⟨rfl, ⟨nd, rfl⟩⟩) | (go_at_call 93; (with_reducible refine (spec_l1In.calls a0_2 0 1000000 false _ A6.out).mono ?_); rintro e w' ⟨rfl, ⟨nd, rfl⟩⟩))
    go_ret
    exact ⟨z1t, z3y⟩
  ·replace c5 := Bool.eq_false_iff.mpr c5
   subst c5
   rw [if_neg zk] at H
   obtain rfl := Option.some.inj H
   go_enter Tryz.func68, Tryz.ntmps68
   go_wp2_with (first | ((with_reducible refine zr 1 rfl ?_); refine zt 25 #[.int .i64 a0_0, .int .i64 a0_1, .int .i64 a0_2, .string a0_3] ?_; intro gb272 hg w17 hbox hb; have n_ := zv (below_step z1r hb) hbox (z8j : w.heap.size ≤ gb272) (z8j : w.heap.size ≤ gb272); clear HB; obtain ⟨HB, BK272, GW272, GE272⟩ := n_; clear hb hbox hg; obtain ⟨hcz18_0, hcz18_1, hcz18_2, hcz18_3, hfz18_0, hfz18_1, hfz18_2, hfz18_3⟩ := zf BK272.out) | ((with_reducible refine zi 93 rfl ?_); refine zj (some 5) Tryz.func93 #[.int .i64 a0_0, .int .i64 0, .int .i64 1000000] rfl ?_; (with_reducible refine (spec_l1In.calls a0_0 0 1000000 true _ A2.out).mono ?_); rintro e w' ⟨rfl, ⟨nd, rfl⟩⟩; refine ⟨_, rfl, ?_⟩) | (go_at_call 93; (with_reducible refine (spec_l1In.calls a0_1 0 1000000 false _ A4.out).mono ?_); rintro e w' ⟨rfl, ⟨nd, rfl⟩⟩))
   go_ret
   exact ⟨z1t, z3y⟩
 ·replace c3 := Bool.eq_false_iff.mpr c3
  subst c3
  rw [if_neg zk] at H
  obtain rfl := Option.some.inj H
  go_enter Tryz.func68, Tryz.ntmps68
  go_wp2_with (first | ((with_reducible refine zr 1 rfl ?_); refine zt 25 #[.int .i64 a0_0, .int .i64 a0_1, .int .i64 a0_2, .string a0_3] ?_; intro gb272 hg w19 hbox hb; have n_ := zv (below_step z1r hb) hbox (z8j : w.heap.size ≤ gb272) (z8j : w.heap.size ≤ gb272); clear HB; obtain ⟨HB, BK272, GW272, GE272⟩ := n_; clear hb hbox hg; obtain ⟨hcz20_0, hcz20_1, hcz20_2, hcz20_3, hfz20_0, hfz20_1, hfz20_2, hfz20_3⟩ := zf BK272.out) | ((with_reducible refine zi 93 rfl ?_); refine zj (some 5) Tryz.func93 #[.int .i64 a0_0, .int .i64 0, .int .i64 1000000] rfl ?_; (with_reducible refine (spec_l1In.calls a0_0 0 1000000 false _ A2.out).mono ?_); rintro e w' ⟨rfl, ⟨nd, rfl⟩⟩; refine ⟨_, rfl, ?_⟩))
  go_ret
  exact ⟨z1t, z3y⟩
def spec_Fits.f (k : Nat) (a0 : ByteArray) (a1_0 : Int) (a1_1 : Int) (a1_2 : Int) (a1_3 : ByteArray) : Option (Bool) := (spec_MajorOf.f k a0).bind fun t278 => (if t278 > 0 then ((spec_VersionOk.f k a1_0 a1_1 a1_2 a1_3).bind fun t279 => (if t279 = true then (if a1_0 = t278 then (some true) else (if t278 = 1 then (some (a1_0 == 0)) else (some false))) else (some false))) else (some false))
set_option maxHeartbeats 8000000 in
set_option maxRecDepth 100000 in
theorem spec_Fits.calls (k : Nat) (a0 : ByteArray) (a1_0 : Int) (a1_1 : Int) (a1_2 : Int) (a1_3 : ByteArray) (r : Bool) (w : World) (h : spec_Fits.f k a0 a1_0 a1_1 a1_2 a1_3 = some r) :
  Calls Tryz.prog 33 #[.string a0, .agg #[.int .i64 a1_0, .int .i64 a1_1, .int .i64 a1_2, .string a1_3]] w fun e w' => e = .returned (.bool r) ∧ Below w.heap.size w w' := by
 have hu25 := Tryz.underlying25
 have HB := zn (Below.refl w.heap.size w)
 have H := h
 unfold spec_Fits.f at H
 clear h
 obtain ⟨t278, A3, H⟩ := zm H
 try dsimp only at H
 by_cases c4 : t278 > 0
 ·rw [if_pos c4] at H
  have c4b0 := decide_eq_true c4
  clear c4
  obtain ⟨t279, A5, H⟩ := zm H
  try dsimp only at H
  by_cases c6 : t279 = true
  ·subst c6
   rw [if_pos rfl] at H
   by_cases c7 : a1_0 = t278
   ·rw [if_pos c7] at H
    have c7b0 := beq_iff_eq.mpr c7
    have c7b1 := bne_eq_false_iff_eq.mpr c7
    clear c7
    obtain rfl := Option.some.inj H
    go_enter Tryz.func33, Tryz.ntmps33
    go_wp2_with (first | ((with_reducible refine zr 3 rfl ?_); refine zt 25 #[.int .i64 a1_0, .int .i64 a1_1, .int .i64 a1_2, .string a1_3] ?_; intro gb277 hg w8 hbox hb; have n_ := zv (below_step z1r hb) hbox (z8j : w.heap.size ≤ gb277) (z8j : w.heap.size ≤ gb277); clear HB; obtain ⟨HB, BK277, GW277, GE277⟩ := n_; clear hb hbox hg) | ((with_reducible refine zi 67 rfl ?_); refine zj (some 7) Tryz.func67 #[.string a0] rfl ?_; (with_reducible refine (spec_MajorOf.calls k a0 t278 _ A3.out).mono ?_); rintro e w9 ⟨rfl, hb⟩; refine ⟨_, rfl, ?_⟩; have n_ := zo (blk_below (zu BK277.out) hb) (below_step z3z hb); clear BK277 HB; obtain ⟨BK277, HB⟩ := n_; (try clear hb); obtain ⟨hcz10_0, hcz10_1, hcz10_2, hcz10_3, hfz10_0, hfz10_1, hfz10_2, hfz10_3⟩ := zf BK277.out) | (go_at_call 68; (with_reducible refine (spec_VersionOk.calls k a1_0 a1_1 a1_2 a1_3 true _ A5.out).mono ?_); rintro e w11 ⟨rfl, hb⟩; have n_ := zo (blk_below (zu BK277.out) hb) (below_step z3z hb); clear BK277 HB; obtain ⟨BK277, HB⟩ := n_; (try clear hb); obtain ⟨hcz12_0, hcz12_1, hcz12_2, hcz12_3, hfz12_0, hfz12_1, hfz12_2, hfz12_3⟩ := zf BK277.out))
    go_ret
    exact ⟨z1t, z3z⟩
   ·rw [if_neg c7] at H
    have c7b0 := beq_eq_false_iff_ne.mpr c7
    have c7b1 := bne_iff_ne.mpr c7
    by_cases c13 : t278 = 1
    ·rw [if_pos c13] at H
     have c13b0 := beq_iff_eq.mpr c13
     have c13b1 := bne_eq_false_iff_eq.mpr c13
     clear c13
     obtain rfl := Option.some.inj H
     go_enter Tryz.func33, Tryz.ntmps33
     go_wp2_with (first | ((with_reducible refine zr 3 rfl ?_); refine zt 25 #[.int .i64 a1_0, .int .i64 a1_1, .int .i64 a1_2, .string a1_3] ?_; intro gb277 hg w14 hbox hb; have n_ := zv (below_step z1r hb) hbox (z8j : w.heap.size ≤ gb277) (z8j : w.heap.size ≤ gb277); clear HB; obtain ⟨HB, BK277, GW277, GE277⟩ := n_; clear hb hbox hg) | ((with_reducible refine zi 67 rfl ?_); refine zj (some 7) Tryz.func67 #[.string a0] rfl ?_; (with_reducible refine (spec_MajorOf.calls k a0 t278 _ A3.out).mono ?_); rintro e w15 ⟨rfl, hb⟩; refine ⟨_, rfl, ?_⟩; have n_ := zo (blk_below (zu BK277.out) hb) (below_step z3z hb); clear BK277 HB; obtain ⟨BK277, HB⟩ := n_; (try clear hb); obtain ⟨hcz16_0, hcz16_1, hcz16_2, hcz16_3, hfz16_0, hfz16_1, hfz16_2, hfz16_3⟩ := zf BK277.out) | (go_at_call 68; (with_reducible refine (spec_VersionOk.calls k a1_0 a1_1 a1_2 a1_3 true _ A5.out).mono ?_); rintro e w17 ⟨rfl, hb⟩; have n_ := zo (blk_below (zu BK277.out) hb) (below_step z3z hb); clear BK277 HB; obtain ⟨BK277, HB⟩ := n_; (try clear hb); obtain ⟨hcz18_0, hcz18_1, hcz18_2, hcz18_3, hfz18_0, hfz18_1, hfz18_2, hfz18_3⟩ := zf BK277.out))
     go_ret
     exact ⟨z1t, z3z⟩
    ·rw [if_neg c13] at H
     have c13b0 := beq_eq_false_iff_ne.mpr c13
     have c13b1 := bne_iff_ne.mpr c13
     obtain rfl := Option.some.inj H
     go_enter Tryz.func33, Tryz.ntmps33
     go_wp2_with (first | ((with_reducible refine zr 3 rfl ?_); refine zt 25 #[.int .i64 a1_0, .int .i64 a1_1, .int .i64 a1_2, .string a1_3] ?_; intro gb277 hg w19 hbox hb; have n_ := zv (below_step z1r hb) hbox (z8j : w.heap.size ≤ gb277) (z8j : w.heap.size ≤ gb277); clear HB; obtain ⟨HB, BK277, GW277, GE277⟩ := n_; clear hb hbox hg) | ((with_reducible refine zi 67 rfl ?_); refine zj (some 7) Tryz.func67 #[.string a0] rfl ?_; (with_reducible refine (spec_MajorOf.calls k a0 t278 _ A3.out).mono ?_); rintro e w20 ⟨rfl, hb⟩; refine ⟨_, rfl, ?_⟩; have n_ := zo (blk_below (zu BK277.out) hb) (below_step z3z hb); clear BK277 HB; obtain ⟨BK277, HB⟩ := n_; (try clear hb); obtain ⟨hcz21_0, hcz21_1, hcz21_2, hcz21_3, hfz21_0, hfz21_1, hfz21_2, hfz21_3⟩ := zf BK277.out) | (go_at_call 68; (with_reducible refine (spec_VersionOk.calls k a1_0 a1_1 a1_2 a1_3 true _ A5.out).mono ?_); rintro e w22 ⟨rfl, hb⟩; have n_ := zo (blk_below (zu BK277.out) hb) (below_step z3z hb); clear BK277 HB; obtain ⟨BK277, HB⟩ := n_; (try clear hb); obtain ⟨hcz23_0, hcz23_1, hcz23_2, hcz23_3, hfz23_0, hfz23_1, hfz23_2, hfz23_3⟩ := zf BK277.out))
     go_ret
     exact ⟨z1t, z3z⟩
  ·replace c6 := Bool.eq_false_iff.mpr c6
   subst c6
   rw [if_neg zk] at H
   obtain rfl := Option.some.inj H
   go_enter Tryz.func33, Tryz.ntmps33
   go_wp2_with (first | ((with_reducible refine zr 3 rfl ?_); refine zt 25 #[.int .i64 a1_0, .int .i64 a1_1, .int .i64 a1_2, .string a1_3] ?_; intro gb277 hg w24 hbox hb; have n_ := zv (below_step z1r hb) hbox (z8j : w.heap.size ≤ gb277) (z8j : w.heap.size ≤ gb277); clear HB; obtain ⟨HB, BK277, GW277, GE277⟩ := n_; clear hb hbox hg) | ((with_reducible refine zi 67 rfl ?_); refine zj (some 7) Tryz.func67 #[.string a0] rfl ?_; (with_reducible refine (spec_MajorOf.calls k a0 t278 _ A3.out).mono ?_); rintro e w25 ⟨rfl, hb⟩; refine ⟨_, rfl, ?_⟩; have n_ := zo (blk_below (zu BK277.out) hb) (below_step z3z hb); clear BK277 HB; obtain ⟨BK277, HB⟩ := n_; (try clear hb); obtain ⟨hcz26_0, hcz26_1, hcz26_2, hcz26_3, hfz26_0, hfz26_1, hfz26_2, hfz26_3⟩ := zf BK277.out) | (go_at_call 68; (with_reducible refine (spec_VersionOk.calls k a1_0 a1_1 a1_2 a1_3 false _ A5.out).mono ?_); rintro e w27 ⟨rfl, hb⟩; have n_ := zo (blk_below (zu BK277.out) hb) (below_step z3z hb); clear BK277 HB; obtain ⟨BK277, HB⟩ := n_; (try clear hb)))
   go_ret
   exact ⟨z1t, z3z⟩
 ·rw [if_neg c4] at H
  have c4b0 := decide_eq_false c4
  clear c4
  obtain rfl := Option.some.inj H
  go_enter Tryz.func33, Tryz.ntmps33
  go_wp2_with (first | ((with_reducible refine zr 3 rfl ?_); refine zt 25 #[.int .i64 a1_0, .int .i64 a1_1, .int .i64 a1_2, .string a1_3] ?_; intro gb277 hg w28 hbox hb; have n_ := zv (below_step z1r hb) hbox (z8j : w.heap.size ≤ gb277) (z8j : w.heap.size ≤ gb277); clear HB; obtain ⟨HB, BK277, GW277, GE277⟩ := n_; clear hb hbox hg) | ((with_reducible refine zi 67 rfl ?_); refine zj (some 7) Tryz.func67 #[.string a0] rfl ?_; (with_reducible refine (spec_MajorOf.calls k a0 t278 _ A3.out).mono ?_); rintro e w29 ⟨rfl, hb⟩; refine ⟨_, rfl, ?_⟩; have n_ := zo (blk_below (zu BK277.out) hb) (below_step z3z hb); clear BK277 HB; obtain ⟨BK277, HB⟩ := n_; (try clear hb)))
  go_ret
  exact ⟨z1t, z3z⟩
end Go.Proofs.YtgdknepphkhnlaaGreatDoor.X
