/- The law FnRead, as a plain statement: what is read of a drawn text as an entry is right, and has that text; what is read as a name has that name. Conditions: those of the row's reading alone. -/
/- Part 10 of 13 of this claim's texts. -/
import Derived.Laws.BitsLemmas
import Derived.Lib.Atoi
import Derived.Lib.ItoaNum
import Derived.Test.YtgdknepphkhnlaaGreatDoorCFnRead0
import Derived.Test.YtgdknepphkhnlaaGreatDoorCFnRead1
import Derived.Test.YtgdknepphkhnlaaGreatDoorCFnRead2
import Derived.Test.YtgdknepphkhnlaaGreatDoorCFnRead3
import Derived.Test.YtgdknepphkhnlaaGreatDoorCFnRead4
import Derived.Test.YtgdknepphkhnlaaGreatDoorCFnRead5
import Derived.Test.YtgdknepphkhnlaaGreatDoorCFnRead6
import Derived.Test.YtgdknepphkhnlaaGreatDoorCFnRead7
import Derived.Test.YtgdknepphkhnlaaGreatDoorCFnRead8
namespace Go.Proofs.YtgdknepphkhnlaaGreatDoor.X
open Go.RowKit Go.Proofs.YtgdknepphkhnlaaGreatDoorW.PrintWords Go.Proofs.YtgdknepphkhnlaaGreatDoorW.PrintLast Go.Proofs.YtgdknepphkhnlaaGreatDoorW.PrintMore
attribute [local go_sem] max2_int min2_int max_two min_two max_three min_three max_four min_four
set_option linter.unusedVariables false
set_option linter.unusedSimpArgs false
def laws_FnRead.f (k : Nat) (l0 : List Int) : Option (Bool) := (laws_big.f l0).bind fun t864 => (if t864 = true then (some true) else ((spec_DrawGetEntry.f k l0).bind fun t865 => ((impl_GetEntry.f k t865).bind fun bt866 => ((spec_GetEntry.f k t865).bind fun bt876 => ((spec_DrawParseName.f k l0).bind fun t886 => ((impl_ParseName.f k t886).bind fun bt887 => ((spec_ParseName.f k t886).bind fun bt894 => (if (bt866.2.2.2.2.2.2 == bt876.2.2.2.2.2.2) = true then (if (bt887.2.2.2.2.2 == bt894.2.2.2.2.2) = true then (if bt866.2.2.2.2.2.2 = true then ((impl_EntryOk.f k bt866.1 bt866.2.1 bt866.2.2.1 bt866.2.2.2.1 bt866.2.2.2.2.1 bt866.2.2.2.2.2.1).bind fun t901 => (if t901 = true then ((impl_PutEntry.f k bt866.1 bt866.2.1 bt866.2.2.1 bt866.2.2.2.1 bt866.2.2.2.2.1 bt866.2.2.2.2.2.1).bind fun t902 => (if t902.toList = t865.toList then (if bt887.2.2.2.2.2 = true then ((impl_EntryName.f k bt887.1 bt887.2.1 bt887.2.2.1 bt887.2.2.2.1 bt887.2.2.2.2.1).bind fun t903 => (some (t903.toList == t886.toList))) else (some true)) else (some false))) else (some false))) else (if bt887.2.2.2.2.2 = true then ((impl_EntryName.f k bt887.1 bt887.2.1 bt887.2.2.1 bt887.2.2.2.1 bt887.2.2.2.2.1).bind fun t904 => (some (t904.toList == t886.toList))) else (some true))) else (some false)) else (some false)))))))))
set_option maxHeartbeats 8000000 in
set_option maxRecDepth 100000 in
theorem laws_FnRead.calls (k : Nat) (A0 : Option Addr) (c0 : Nat) (l0 : List Int) (w : World) (hG_ : GlobI w) (hr0 : Kd.C (Kd.int .u8) w A0 l0.length l0) (hc0 : l0.length ≤ c0) (h : laws_FnRead.f k l0 = some true) :
  Calls Tryz.prog 5 #[.slice A0 l0.length c0] w fun e w' => e = .returned (.bool true) ∧ Below w.heap.size w w' := by
 have HG_ := zn hG_
 clear hG_
 have hu28 := Tryz.underlying28
 have hu35 := Tryz.underlying35
 have hu25 := Tryz.underlying25
 have HR0 := zn hr0
 have HC0 := zn hc0
 clear hr0 hc0
 have HB := zn (Below.refl w.heap.size w)
 have H := h
 unfold laws_FnRead.f at H
 clear h
 obtain ⟨t864, A2, H⟩ := zm H
 try dsimp only at H
 by_cases c3 : t864 = true
 ·subst c3
  have H1 : (some true) = some true := rfl
  clear H
  have H := H1
  clear H1
  skip
  go_enter Tryz.func5, Tryz.ntmps5
  go_wp2_with (first | ((with_reducible refine zi 7 rfl ?_); refine zj (some 14) Tryz.func7 #[.slice A0 l0.length c0] rfl ?_; (with_reducible refine (laws_big.calls _ _ l0 true _ ?side1 ?side2 A2.out).mono ?_); (case side1 => exact z3d); (case side2 => exact HC0.out); rintro e w' ⟨rfl, ⟨nd, rfl⟩⟩; refine ⟨_, rfl, ?_⟩))
  go_ret
  exact ⟨z1t, z1r⟩
 ·replace c3 := Bool.eq_false_iff.mpr c3
  subst c3
  rw [if_neg zk] at H
  obtain ⟨t865, A4, H⟩ := zm H
  try dsimp only at H
  obtain ⟨⟨t866, t867, t868, t869, t870, t871, t874⟩, A5, H⟩ := zm H
  try dsimp only at H
  obtain ⟨⟨t876, t877, t878, t879, t880, t881, t884⟩, A6, H⟩ := zm H
  try dsimp only at H
  obtain ⟨t886, A7, H⟩ := zm H
  try dsimp only at H
  obtain ⟨⟨t887, t888, t889, t890, t891, t892⟩, A8, H⟩ := zm H
  try dsimp only at H
  obtain ⟨⟨t894, t895, t896, t897, t898, t899⟩, A9, H⟩ := zm H
  try dsimp only at H
  by_cases c10 : (t874 == t884) = true
  ·rw [if_pos c10] at H
   have c10b0 : (t874 == t884) = true := c10
   (try (have c10b1 : decide (t874 = t884) = true := by simpa using c10))
   (try (have c10b2 : (t874 == t884) = true := by simpa using c10))
   clear c10
   by_cases c11 : (t892 == t899) = true
   ·rw [if_pos c11] at H
    have c11b0 : (t892 == t899) = true := c11
    (try (have c11b1 : decide (t892 = t899) = true := by simpa using c11))
    (try (have c11b2 : (t892 == t899) = true := by simpa using c11))
    clear c11
    by_cases c12 : t874 = true
    ·subst c12
     rw [if_pos rfl] at H
     obtain ⟨t901, A13, H⟩ := zm H
     try dsimp only at H
     by_cases c14 : t901 = true
     ·subst c14
      rw [if_pos rfl] at H
      obtain ⟨t902, A15, H⟩ := zm H
      try dsimp only at H
      by_cases c16 : t902.toList = t865.toList
      ·rw [if_pos c16] at H
       have c16b0 := beq_iff_eq.mpr c16
       have c16b1 := bne_eq_false_iff_eq.mpr c16
       clear c16
       by_cases c17 : t892 = true
       ·subst c17
        rw [if_pos rfl] at H
        obtain ⟨t903, A18, H⟩ := zm H
        try dsimp only at H
        have hleaf := Option.some.inj H
        go_enter Tryz.func5, Tryz.ntmps5
        go_wp2_with (first | ((with_reducible refine zi 7 rfl ?_); refine zj (some 14) Tryz.func7 #[.slice A0 l0.length c0] rfl ?_; (with_reducible refine (laws_big.calls _ _ l0 false _ ?side1 ?side2 A2.out).mono ?_); (case side1 => exact z3d); (case side2 => exact HC0.out); rintro e w' ⟨rfl, ⟨nd, rfl⟩⟩; refine ⟨_, rfl, ?_⟩) | ((with_reducible refine zi 22 rfl ?_); refine zj (some 16) Tryz.func22 #[.slice A0 l0.length c0] rfl ?_; (with_reducible refine (spec_DrawGetEntry.calls k _ _ l0 t865 _ ?side1 ?side2 A4.out).mono ?_); (case side1 => exact z3d); (case side2 => exact HC0.out); rintro e w19 ⟨rfl, hb⟩; refine ⟨_, rfl, ?_⟩; replace HB := zn (below_step z1r hb); (try clear hb)) | ((with_reducible refine zi 12 rfl ?_); refine zj (some 19) Tryz.func12 #[.string t865] rfl ?_; (with_reducible refine (impl_GetEntry.calls (hG_ := globI_on HG_.out z2j) k t865 t866 t867 t868 t869 t870 t871 true _ A5.out).mono ?_); rintro e w20 ⟨v872, rfl, ho0, hb⟩; refine ⟨_, rfl, ?_⟩; have n_ := zo (Kd.R_lower ho0 (below_size z1r)) (below_step z1r hb); clear HB; obtain ⟨HO873, HB⟩ := n_; (try clear hb); (try clear ho0)) | ((with_reducible refine zr 4 rfl ?_); refine zt 28 #[.string ⟨#[]⟩, .int .i64 0, .int .i64 0, .int .i64 0, .string ⟨#[]⟩, .slice none 0 0] ?_; intro gb875 hg w21 hbox hb; have n_ := z1h (Kd.R_below z7g hb) (below_step z1r hb) hbox (z8j : w.heap.size ≤ gb875) (z8j : w.heap.size ≤ gb875); clear HO873 HB; obtain ⟨HO873, HB, BK875, GW875, GE875⟩ := n_; clear hb hbox hg; obtain ⟨hcz22_0, hcz22_1, hcz22_2, hcz22_3, hcz22_4, hcz22_5, hfz22_0, hfz22_1, hfz22_2, hfz22_3, hfz22_4, hfz22_5⟩ := zh BK875.out; obtain ⟨Ao23, co23, eo23⟩ := Kd.R_slice HO873.out; subst eo23) | ((with_reducible refine zi 18 rfl ?_); refine zj (some 24) Tryz.func18 #[.string t865] rfl ?_; (with_reducible refine (spec_GetEntry.calls k t865 t876 t877 t878 t879 t880 t881 t884 _ A6.out).mono ?_); rintro e w24 ⟨v882, rfl, ho0, hb⟩; refine ⟨_, rfl, ?_⟩; have n_ := zv (Kd.R_elder' (by (with_reducible repeat (first | apply Kd.R_alloc | apply Kd.R_drewN | apply Kd.R_drew)); exact (Kd.R_mono (z1d gb875 5 (z1d gb875 4 (z1d gb875 3 (z1d gb875 2 (z1d gb875 1 (z1d gb875 0 (Kd.R_types HO873.out BK875.out z1l) (.string t866)) (.int .i64 t867)) (.int .i64 t868)) (.int .i64 t869)) (.string t870)) (.slice Ao23 t871.length co23)) (fun _ h_ => h_.1))) (Kd.R_base ho0) hb) (Kd.R_lower (Kd.R_new' ho0 (Kd.R_lt (by (with_reducible repeat (first | apply Kd.R_alloc | apply Kd.R_drewN | apply Kd.R_drew)); exact (Kd.R_mono (z1d gb875 5 (z1d gb875 4 (z1d gb875 3 (z1d gb875 2 (z1d gb875 1 (z1d gb875 0 (Kd.R_types HO873.out BK875.out z1l) (.string t866)) (.int .i64 t867)) (.int .i64 t868)) (.int .i64 t869)) (.string t870)) (.slice Ao23 t871.length co23)) (fun _ h_ => h_.1))))) (below_size z7h)) (blk_below (g := gb875) (o := .cells #[.string t866, .int .i64 t867, .int .i64 t868, .int .i64 t869, .string t870, .slice Ao23 t871.length co23] 28 (0, 0)) z7i hb) (below_step z7h hb); clear HO873 BK875 HB; obtain ⟨HO873, HO883, BK875, HB⟩ := n_; (try clear hb); (try clear ho0)) | ((with_reducible refine zr 6 rfl ?_); refine zt 28 #[.string ⟨#[]⟩, .int .i64 0, .int .i64 0, .int .i64 0, .string ⟨#[]⟩, .slice none 0 0] ?_; intro gb885 hg w25 hbox hb; have n_ := z1g (Kd.R_below z7g hb) (z1e (Kd.R_below z7j hb) (blk_below (zu BK875.out) hb) (below_step z7h hb) hbox (z8z : w.heap.size ≤ gb885) (z8z : w.heap.size ≤ gb885) (z7k : gb875 ≠ gb885) (z7l : gb885 ≠ gb875)); clear HO873 HO883 BK875 HB; obtain ⟨HO873, HO883, BK875, HB, BK885, GW885, GE885, NB875_885, NB885_875⟩ := n_; clear hb hbox hg; have hnb26 := NB885_875.out; have hnc26 := NB875_885.out; obtain ⟨hcz27_0, hcz27_1, hcz27_2, hcz27_3, hcz27_4, hcz27_5, hfz27_0, hfz27_1, hfz27_2, hfz27_3, hfz27_4, hfz27_5⟩ := zh BK885.out; obtain ⟨Ao28, co28, eo28⟩ := Kd.R_slice HO883.out; subst eo28) | ((with_reducible refine zi 23 rfl ?_); refine zj (some 28) Tryz.func23 #[.slice A0 l0.length c0] rfl ?_; (with_reducible refine (spec_DrawParseName.calls k _ _ l0 t886 _ ?side1 ?side2 A7.out).mono ?_); (case side1 => exact Kd.C_below HR0.out z7m); (case side2 => exact HC0.out); rintro e w29 ⟨rfl, hb⟩; refine ⟨_, rfl, ?_⟩; have n_ := z1h (Kd.R_below (by (with_reducible repeat (first | apply Kd.R_alloc | apply Kd.R_drewN | apply Kd.R_drew)); exact (Kd.R_mono (z1d gb885 5 (z1d gb885 4 (z1d gb885 3 (z1d gb885 2 (z1d gb885 1 (z1d gb885 0 (Kd.R_types HO873.out BK885.out z1l) (.string t876)) (.int .i64 t877)) (.int .i64 t878)) (.int .i64 t879)) (.string t880)) (.slice Ao28 t881.length co28)) (fun _ h_ => h_.1))) hb) (Kd.R_below (by (with_reducible repeat (first | apply Kd.R_alloc | apply Kd.R_drewN | apply Kd.R_drew)); exact (Kd.R_mono (z1d gb885 5 (z1d gb885 4 (z1d gb885 3 (z1d gb885 2 (z1d gb885 1 (z1d gb885 0 (Kd.R_types HO883.out BK885.out z1l) (.string t876)) (.int .i64 t877)) (.int .i64 t878)) (.int .i64 t879)) (.string t880)) (.slice Ao28 t881.length co28)) (fun _ h_ => h_.1))) hb) (blk_below (g := gb875) (o := .cells #[.string t866, .int .i64 t867, .int .i64 t868, .int .i64 t869, .string t870, .slice Ao23 t871.length co23] 28 (0, 0)) z7n hb) (blk_below (g := gb885) (o := .cells #[.string t876, .int .i64 t877, .int .i64 t878, .int .i64 t879, .string t880, .slice Ao28 t881.length co28] 28 (0, 0)) z7o hb) (below_step z7m hb); clear HO873 HO883 BK875 BK885 HB; obtain ⟨HO873, HO883, BK875, BK885, HB⟩ := n_; (try clear hb)) | ((with_reducible refine zi 13 rfl ?_); refine zj (some 31) Tryz.func13 #[.string t886] rfl ?_; (with_reducible refine (impl_ParseName.calls (hG_ := globI_on HG_.out z2j) k t886 t887 t888 t889 t890 t891 true _ A8.out).mono ?_); rintro e w30 ⟨rfl, hb⟩; refine ⟨_, rfl, ?_⟩; have n_ := z1h (Kd.R_below z7g hb) (Kd.R_below z7j hb) (blk_below (zu BK875.out) hb) (blk_below (zu BK885.out) hb) (below_step z7m hb); clear HO873 HO883 BK875 BK885 HB; obtain ⟨HO873, HO883, BK875, BK885, HB⟩ := n_; (try clear hb)) | ((with_reducible refine zr 9 rfl ?_); refine zt 35 #[.string ⟨#[]⟩, .int .i64 0, .int .i64 0, .int .i64 0, .string ⟨#[]⟩] ?_; intro gb893 hg w31 hbox hb; have n_ := z1g (Kd.R_below (Kd.R_elderB z7g gb893 (Nat.le_of_eq hg.symm)) hb) (z1g (Kd.R_below (Kd.R_elderB z7j gb893 (Nat.le_of_eq hg.symm)) hb) (z1g (blk_below (zu BK875.out) hb) (z1g (blk_below (zu BK885.out) hb) (z1e (below_step z7m hb) hbox (z9a : w.heap.size ≤ gb893) (z9a : w.heap.size ≤ gb893) (z7k : gb875 ≠ gb893) (z7l : gb893 ≠ gb875) (z7p : gb885 ≠ gb893) (z7q : gb893 ≠ gb885))))); clear HO873 HO883 BK875 BK885 HB; obtain ⟨HO873, HO883, BK875, BK885, HB, BK893, GW893, GE893, NB875_893, NB893_875, NB885_893, NB893_885⟩ := n_; clear hb hbox hg; have hnb32 := NB893_875.out; have hnc32 := NB875_893.out; have hnb33 := NB893_885.out; have hnc33 := NB885_893.out; obtain ⟨hcz34_0, hcz34_1, hcz34_2, hcz34_3, hcz34_4, hfz34_0, hfz34_1, hfz34_2, hfz34_3, hfz34_4⟩ := zg BK893.out) | ((with_reducible refine zi 24 rfl ?_); refine zj (some 36) Tryz.func24 #[.string t886] rfl ?_; (with_reducible refine (spec_ParseName.calls k t886 t894 t895 t896 t897 t898 t899 _ A9.out).mono ?_); rintro e w35 ⟨rfl, hb⟩; refine ⟨_, rfl, ?_⟩; have n_ := z1i (Kd.R_below z7r hb) (Kd.R_below z7s hb) (blk_below (g := gb875) (o := .cells #[.string t866, .int .i64 t867, .int .i64 t868, .int .i64 t869, .string t870, .slice Ao23 t871.length co23] 28 (0, 0)) z7t hb) (blk_below (g := gb885) (o := .cells #[.string t876, .int .i64 t877, .int .i64 t878, .int .i64 t879, .string t880, .slice Ao28 t881.length co28] 28 (0, 0)) z7u hb) (blk_below (g := gb893) (o := .cells #[.string t887, .int .i64 t888, .int .i64 t889, .int .i64 t890, .string t891] 35 (0, 0)) z7v hb) (below_step z7w hb); clear HO873 HO883 BK875 BK885 BK893 HB; obtain ⟨HO873, HO883, BK875, BK885, BK893, HB⟩ := n_; (try clear hb)) | ((with_reducible refine zr 11 rfl ?_); refine zt 35 #[.string ⟨#[]⟩, .int .i64 0, .int .i64 0, .int .i64 0, .string ⟨#[]⟩] ?_; intro gb900 hg w36 hbox hb; have n_ := z1g (Kd.R_below (Kd.R_elderB z7g gb900 (Nat.le_of_eq hg.symm)) hb) (z1g (Kd.R_below (Kd.R_elderB z7j gb900 (Nat.le_of_eq hg.symm)) hb) (z1g (blk_below (zu BK875.out) hb) (z1g (blk_below (zu BK885.out) hb) (z1g (blk_below (zu BK893.out) hb) (z1g (below_step z7w hb) (z1g hbox (z1e (z9b : w.heap.size ≤ gb900) (z9b : w.heap.size ≤ gb900) (z7k : gb875 ≠ gb900) (z7l : gb900 ≠ gb875) (z7p : gb885 ≠ gb900) (z7q : gb900 ≠ gb885) (z7x : gb893 ≠ gb900) (z7y : gb900 ≠ gb893)))))))); clear HO873 HO883 BK875 BK885 BK893 HB; obtain ⟨HO873, HO883, BK875, BK885, BK893, HB, BK900, GW900, GE900, NB875_900, NB900_875, NB885_900, NB900_885, NB893_900, NB900_893⟩ := n_; clear hb hbox hg; have hnb37 := NB900_875.out; have hnc37 := NB875_900.out; have hnb38 := NB900_885.out; have hnc38 := NB885_900.out; have hnb39 := NB900_893.out; have hnc39 := NB893_900.out; obtain ⟨hcz40_0, hcz40_1, hcz40_2, hcz40_3, hcz40_4, hfz40_0, hfz40_1, hfz40_2, hfz40_3, hfz40_4⟩ := zg BK900.out; obtain ⟨hcz41_0, hcz41_1, hcz41_2, hcz41_3, hcz41_4, hcz41_5, hfz41_0, hfz41_1, hfz41_2, hfz41_3, hfz41_4, hfz41_5⟩ := zh BK875.out) | (go_at_call 11; (with_reducible refine (impl_EntryOk.calls k t866 t867 t868 t869 t870 _ _ t871 true _ ?side1 ?side2 A13.out).mono ?_); (case side1 => refine (Kd.R_reads' (e := 35) (base := w.heap.size) (ok := fun k_ => (((True ∧ some k_ ≠ (.slice Ao28 t881.length co28 : Value).ownBlock) ∧ k_ ≠ gb893) ∧ k_ ≠ gb900)) (n := t871.length) (c := co23) ?_).2.2; exact z7z); (case side2 => exact (Kd.R_reads' HO873.out).2.1); rintro e w42 ⟨rfl, hb⟩; have n_ := z1b (Kd.R_below z7z hb) (Kd.R_below z8a hb) (blk_below (g := gb875) (o := .cells #[.string t866, .int .i64 t867, .int .i64 t868, .int .i64 t869, .string t870, .slice Ao23 t871.length co23] 28 (0, 0)) z8b hb) (blk_below (g := gb885) (o := .cells #[.string t876, .int .i64 t877, .int .i64 t878, .int .i64 t879, .string t880, .slice Ao28 t881.length co28] 28 (0, 0)) z8c hb) (blk_below (g := gb893) (o := .cells #[.string t887, .int .i64 t888, .int .i64 t889, .int .i64 t890, .string t891] 35 (0, 0)) z8d hb) (blk_below (g := gb900) (o := .cells #[.string t894, .int .i64 t895, .int .i64 t896, .int .i64 t897, .string t898] 35 (0, 0)) z8e hb) (below_step z8f hb); clear HO873 HO883 BK875 BK885 BK893 BK900 HB; obtain ⟨HO873, HO883, BK875, BK885, BK893, BK900, HB⟩ := n_; (try clear hb); obtain ⟨hcz43_0, hcz43_1, hcz43_2, hcz43_3, hcz43_4, hcz43_5, hfz43_0, hfz43_1, hfz43_2, hfz43_3, hfz43_4, hfz43_5⟩ := zh BK875.out) | (go_at_call 9; (with_reducible refine (impl_PutEntry.calls (hG_ := globI_on HG_.out z2j) k t866 t867 t868 t869 t870 _ _ t871 t902 _ ?side1 ?side2 A15.out).mono ?_); (case side1 => repeat (first | exact (Kd.R_reads' HO873.out).2.2 | (with_reducible refine Kd.C_alloc ?_ _) | (with_reducible refine Kd.C_drewN ?_ _) | (with_reducible refine Kd.C_drew ?_))); (case side2 => exact (Kd.R_reads' HO873.out).2.1); rintro e w44 ⟨rfl, hb⟩; have n_ := z1b (Kd.R_below z7g hb) (Kd.R_below z7j hb) (blk_below (zu BK875.out) hb) (blk_below (zu BK885.out) hb) (blk_below (zu BK893.out) hb) (blk_below (zu BK900.out) hb) (below_step z8f hb); clear HO873 HO883 BK875 BK885 BK893 BK900 HB; obtain ⟨HO873, HO883, BK875, BK885, BK893, BK900, HB⟩ := n_; (try clear hb); obtain ⟨hcz45_0, hcz45_1, hcz45_2, hcz45_3, hcz45_4, hfz45_0, hfz45_1, hfz45_2, hfz45_3, hfz45_4⟩ := zg BK893.out) | (go_at_call 14; (with_reducible refine (impl_EntryName.calls (hG_ := globI_on HG_.out z2j) k t887 t888 t889 t890 t891 t903 _ A18.out).mono ?_); rintro e w46 ⟨rfl, hb⟩; have n_ := z1b (Kd.R_below z7g hb) (Kd.R_below z7j hb) (blk_below (zu BK875.out) hb) (blk_below (zu BK885.out) hb) (blk_below (zu BK893.out) hb) (blk_below (zu BK900.out) hb) (below_step z8f hb); clear HO873 HO883 BK875 BK885 BK893 BK900 HB; obtain ⟨HO873, HO883, BK875, BK885, BK893, BK900, HB⟩ := n_; (try clear hb)))
        go_ret
        exact ⟨z1t, z8f⟩
       ·replace c17 := Bool.eq_false_iff.mpr c17
        subst c17
        have H1 : (some true) = some true := rfl
        clear H
        have H := H1
        clear H1
        skip
        go_enter Tryz.func5, Tryz.ntmps5
        go_wp2_with (first | ((with_reducible refine zi 7 rfl ?_); refine zj (some 14) Tryz.func7 #[.slice A0 l0.length c0] rfl ?_; (with_reducible refine (laws_big.calls _ _ l0 false _ ?side1 ?side2 A2.out).mono ?_); (case side1 => exact z3d); (case side2 => exact HC0.out); rintro e w' ⟨rfl, ⟨nd, rfl⟩⟩; refine ⟨_, rfl, ?_⟩) | ((with_reducible refine zi 22 rfl ?_); refine zj (some 16) Tryz.func22 #[.slice A0 l0.length c0] rfl ?_; (with_reducible refine (spec_DrawGetEntry.calls k _ _ l0 t865 _ ?side1 ?side2 A4.out).mono ?_); (case side1 => exact z3d); (case side2 => exact HC0.out); rintro e w47 ⟨rfl, hb⟩; refine ⟨_, rfl, ?_⟩; replace HB := zn (below_step z1r hb); (try clear hb)) | ((with_reducible refine zi 12 rfl ?_); refine zj (some 19) Tryz.func12 #[.string t865] rfl ?_; (with_reducible refine (impl_GetEntry.calls (hG_ := globI_on HG_.out z2j) k t865 t866 t867 t868 t869 t870 t871 true _ A5.out).mono ?_); rintro e w48 ⟨v872, rfl, ho0, hb⟩; refine ⟨_, rfl, ?_⟩; have n_ := zo (Kd.R_lower ho0 (below_size z1r)) (below_step z1r hb); clear HB; obtain ⟨HO873, HB⟩ := n_; (try clear hb); (try clear ho0)) | ((with_reducible refine zr 4 rfl ?_); refine zt 28 #[.string ⟨#[]⟩, .int .i64 0, .int .i64 0, .int .i64 0, .string ⟨#[]⟩, .slice none 0 0] ?_; intro gb875 hg w49 hbox hb; have n_ := z1h (Kd.R_below z7g hb) (below_step z1r hb) hbox (z8j : w.heap.size ≤ gb875) (z8j : w.heap.size ≤ gb875); clear HO873 HB; obtain ⟨HO873, HB, BK875, GW875, GE875⟩ := n_; clear hb hbox hg; obtain ⟨hcz50_0, hcz50_1, hcz50_2, hcz50_3, hcz50_4, hcz50_5, hfz50_0, hfz50_1, hfz50_2, hfz50_3, hfz50_4, hfz50_5⟩ := zh BK875.out; obtain ⟨Ao51, co51, eo51⟩ := Kd.R_slice HO873.out; subst eo51) | ((with_reducible refine zi 18 rfl ?_); refine zj (some 24) Tryz.func18 #[.string t865] rfl ?_; (with_reducible refine (spec_GetEntry.calls k t865 t876 t877 t878 t879 t880 t881 t884 _ A6.out).mono ?_); rintro e w52 ⟨v882, rfl, ho0, hb⟩; refine ⟨_, rfl, ?_⟩; have n_ := zv (Kd.R_elder' (by (with_reducible repeat (first | apply Kd.R_alloc | apply Kd.R_drewN | apply Kd.R_drew)); exact (Kd.R_mono (z1d gb875 5 (z1d gb875 4 (z1d gb875 3 (z1d gb875 2 (z1d gb875 1 (z1d gb875 0 (Kd.R_types HO873.out BK875.out z1l) (.string t866)) (.int .i64 t867)) (.int .i64 t868)) (.int .i64 t869)) (.string t870)) (.slice Ao51 t871.length co51)) (fun _ h_ => h_.1))) (Kd.R_base ho0) hb) (Kd.R_lower (Kd.R_new' ho0 (Kd.R_lt (by (with_reducible repeat (first | apply Kd.R_alloc | apply Kd.R_drewN | apply Kd.R_drew)); exact (Kd.R_mono (z1d gb875 5 (z1d gb875 4 (z1d gb875 3 (z1d gb875 2 (z1d gb875 1 (z1d gb875 0 (Kd.R_types HO873.out BK875.out z1l) (.string t866)) (.int .i64 t867)) (.int .i64 t868)) (.int .i64 t869)) (.string t870)) (.slice Ao51 t871.length co51)) (fun _ h_ => h_.1))))) (below_size z7h)) (blk_below (g := gb875) (o := .cells #[.string t866, .int .i64 t867, .int .i64 t868, .int .i64 t869, .string t870, .slice Ao51 t871.length co51] 28 (0, 0)) z7i hb) (below_step z7h hb); clear HO873 BK875 HB; obtain ⟨HO873, HO883, BK875, HB⟩ := n_; (try clear hb); (try clear ho0)) | ((with_reducible refine zr 6 rfl ?_); refine zt 28 #[.string ⟨#[]⟩, .int .i64 0, .int .i64 0, .int .i64 0, .string ⟨#[]⟩, .slice none 0 0] ?_; intro gb885 hg w53 hbox hb; have n_ := z1g (Kd.R_below z7g hb) (z1e (Kd.R_below z7j hb) (blk_below (zu BK875.out) hb) (below_step z7h hb) hbox (z8z : w.heap.size ≤ gb885) (z8z : w.heap.size ≤ gb885) (z7k : gb875 ≠ gb885) (z7l : gb885 ≠ gb875)); clear HO873 HO883 BK875 HB; obtain ⟨HO873, HO883, BK875, HB, BK885, GW885, GE885, NB875_885, NB885_875⟩ := n_; clear hb hbox hg; have hnb54 := NB885_875.out; have hnc54 := NB875_885.out; obtain ⟨hcz55_0, hcz55_1, hcz55_2, hcz55_3, hcz55_4, hcz55_5, hfz55_0, hfz55_1, hfz55_2, hfz55_3, hfz55_4, hfz55_5⟩ := zh BK885.out; obtain ⟨Ao56, co56, eo56⟩ := Kd.R_slice HO883.out; subst eo56) | ((with_reducible refine zi 23 rfl ?_); refine zj (some 28) Tryz.func23 #[.slice A0 l0.length c0] rfl ?_; (with_reducible refine (spec_DrawParseName.calls k _ _ l0 t886 _ ?side1 ?side2 A7.out).mono ?_); (case side1 => exact Kd.C_below HR0.out z7m); (case side2 => exact HC0.out); rintro e w57 ⟨rfl, hb⟩; refine ⟨_, rfl, ?_⟩; have n_ := z1h (Kd.R_below (by (with_reducible repeat (first | apply Kd.R_alloc | apply Kd.R_drewN | apply Kd.R_drew)); exact (Kd.R_mono (z1d gb885 5 (z1d gb885 4 (z1d gb885 3 (z1d gb885 2 (z1d gb885 1 (z1d gb885 0 (Kd.R_types HO873.out BK885.out z1l) (.string t876)) (.int .i64 t877)) (.int .i64 t878)) (.int .i64 t879)) (.string t880)) (.slice Ao56 t881.length co56)) (fun _ h_ => h_.1))) hb) (Kd.R_below (by (with_reducible repeat (first | apply Kd.R_alloc | apply Kd.R_drewN | apply Kd.R_drew)); exact (Kd.R_mono (z1d gb885 5 (z1d gb885 4 (z1d gb885 3 (z1d gb885 2 (z1d gb885 1 (z1d gb885 0 (Kd.R_types HO883.out BK885.out z1l) (.string t876)) (.int .i64 t877)) (.int .i64 t878)) (.int .i64 t879)) (.string t880)) (.slice Ao56 t881.length co56)) (fun _ h_ => h_.1))) hb) (blk_below (g := gb875) (o := .cells #[.string t866, .int .i64 t867, .int .i64 t868, .int .i64 t869, .string t870, .slice Ao51 t871.length co51] 28 (0, 0)) z7n hb) (blk_below (g := gb885) (o := .cells #[.string t876, .int .i64 t877, .int .i64 t878, .int .i64 t879, .string t880, .slice Ao56 t881.length co56] 28 (0, 0)) z7o hb) (below_step z7m hb); clear HO873 HO883 BK875 BK885 HB; obtain ⟨HO873, HO883, BK875, BK885, HB⟩ := n_; (try clear hb)) | ((with_reducible refine zi 13 rfl ?_); refine zj (some 31) Tryz.func13 #[.string t886] rfl ?_; (with_reducible refine (impl_ParseName.calls (hG_ := globI_on HG_.out z2j) k t886 t887 t888 t889 t890 t891 false _ A8.out).mono ?_); rintro e w58 ⟨rfl, hb⟩; refine ⟨_, rfl, ?_⟩; have n_ := z1h (Kd.R_below z7g hb) (Kd.R_below z7j hb) (blk_below (zu BK875.out) hb) (blk_below (zu BK885.out) hb) (below_step z7m hb); clear HO873 HO883 BK875 BK885 HB; obtain ⟨HO873, HO883, BK875, BK885, HB⟩ := n_; (try clear hb)) | ((with_reducible refine zr 9 rfl ?_); refine zt 35 #[.string ⟨#[]⟩, .int .i64 0, .int .i64 0, .int .i64 0, .string ⟨#[]⟩] ?_; intro gb893 hg w59 hbox hb; have n_ := z1g (Kd.R_below (Kd.R_elderB z7g gb893 (Nat.le_of_eq hg.symm)) hb) (z1g (Kd.R_below (Kd.R_elderB z7j gb893 (Nat.le_of_eq hg.symm)) hb) (z1g (blk_below (zu BK875.out) hb) (z1g (blk_below (zu BK885.out) hb) (z1e (below_step z7m hb) hbox (z9a : w.heap.size ≤ gb893) (z9a : w.heap.size ≤ gb893) (z7k : gb875 ≠ gb893) (z7l : gb893 ≠ gb875) (z7p : gb885 ≠ gb893) (z7q : gb893 ≠ gb885))))); clear HO873 HO883 BK875 BK885 HB; obtain ⟨HO873, HO883, BK875, BK885, HB, BK893, GW893, GE893, NB875_893, NB893_875, NB885_893, NB893_885⟩ := n_; clear hb hbox hg; have hnb60 := NB893_875.out; have hnc60 := NB875_893.out; have hnb61 := NB893_885.out; have hnc61 := NB885_893.out; obtain ⟨hcz62_0, hcz62_1, hcz62_2, hcz62_3, hcz62_4, hfz62_0, hfz62_1, hfz62_2, hfz62_3, hfz62_4⟩ := zg BK893.out) | ((with_reducible refine zi 24 rfl ?_); refine zj (some 36) Tryz.func24 #[.string t886] rfl ?_; (with_reducible refine (spec_ParseName.calls k t886 t894 t895 t896 t897 t898 t899 _ A9.out).mono ?_); rintro e w63 ⟨rfl, hb⟩; refine ⟨_, rfl, ?_⟩; have n_ := z1i (Kd.R_below z7r hb) (Kd.R_below z7s hb) (blk_below (g := gb875) (o := .cells #[.string t866, .int .i64 t867, .int .i64 t868, .int .i64 t869, .string t870, .slice Ao51 t871.length co51] 28 (0, 0)) z7t hb) (blk_below (g := gb885) (o := .cells #[.string t876, .int .i64 t877, .int .i64 t878, .int .i64 t879, .string t880, .slice Ao56 t881.length co56] 28 (0, 0)) z7u hb) (blk_below (g := gb893) (o := .cells #[.string t887, .int .i64 t888, .int .i64 t889, .int .i64 t890, .string t891] 35 (0, 0)) z7v hb) (below_step z7w hb); clear HO873 HO883 BK875 BK885 BK893 HB; obtain ⟨HO873, HO883, BK875, BK885, BK893, HB⟩ := n_; (try clear hb)) | ((with_reducible refine zr 11 rfl ?_); refine zt 35 #[.string ⟨#[]⟩, .int .i64 0, .int .i64 0, .int .i64 0, .string ⟨#[]⟩] ?_; intro gb900 hg w64 hbox hb; have n_ := z1g (Kd.R_below (Kd.R_elderB z7g gb900 (Nat.le_of_eq hg.symm)) hb) (z1g (Kd.R_below (Kd.R_elderB z7j gb900 (Nat.le_of_eq hg.symm)) hb) (z1g (blk_below (zu BK875.out) hb) (z1g (blk_below (zu BK885.out) hb) (z1g (blk_below (zu BK893.out) hb) (z1g (below_step z7w hb) (z1g hbox (z1e (z9b : w.heap.size ≤ gb900) (z9b : w.heap.size ≤ gb900) (z7k : gb875 ≠ gb900) (z7l : gb900 ≠ gb875) (z7p : gb885 ≠ gb900) (z7q : gb900 ≠ gb885) (z7x : gb893 ≠ gb900) (z7y : gb900 ≠ gb893)))))))); clear HO873 HO883 BK875 BK885 BK893 HB; obtain ⟨HO873, HO883, BK875, BK885, BK893, HB, BK900, GW900, GE900, NB875_900, NB900_875, NB885_900, NB900_885, NB893_900, NB900_893⟩ := n_; clear hb hbox hg; have hnb65 := NB900_875.out; have hnc65 := NB875_900.out; have hnb66 := NB900_885.out; have hnc66 := NB885_900.out; have hnb67 := NB900_893.out; have hnc67 := NB893_900.out; obtain ⟨hcz68_0, hcz68_1, hcz68_2, hcz68_3, hcz68_4, hfz68_0, hfz68_1, hfz68_2, hfz68_3, hfz68_4⟩ := zg BK900.out; obtain ⟨hcz69_0, hcz69_1, hcz69_2, hcz69_3, hcz69_4, hcz69_5, hfz69_0, hfz69_1, hfz69_2, hfz69_3, hfz69_4, hfz69_5⟩ := zh BK875.out) | (go_at_call 11; (with_reducible refine (impl_EntryOk.calls k t866 t867 t868 t869 t870 _ _ t871 true _ ?side1 ?side2 A13.out).mono ?_); (case side1 => refine (Kd.R_reads' (e := 35) (base := w.heap.size) (ok := fun k_ => (((True ∧ some k_ ≠ (.slice Ao56 t881.length co56 : Value).ownBlock) ∧ k_ ≠ gb893) ∧ k_ ≠ gb900)) (n := t871.length) (c := co51) ?_).2.2; exact z7z); (case side2 => exact (Kd.R_reads' HO873.out).2.1); rintro e w70 ⟨rfl, hb⟩; have n_ := z1b (Kd.R_below z7z hb) (Kd.R_below z8a hb) (blk_below (g := gb875) (o := .cells #[.string t866, .int .i64 t867, .int .i64 t868, .int .i64 t869, .string t870, .slice Ao51 t871.length co51] 28 (0, 0)) z8b hb) (blk_below (g := gb885) (o := .cells #[.string t876, .int .i64 t877, .int .i64 t878, .int .i64 t879, .string t880, .slice Ao56 t881.length co56] 28 (0, 0)) z8c hb) (blk_below (g := gb893) (o := .cells #[.string t887, .int .i64 t888, .int .i64 t889, .int .i64 t890, .string t891] 35 (0, 0)) z8d hb) (blk_below (g := gb900) (o := .cells #[.string t894, .int .i64 t895, .int .i64 t896, .int .i64 t897, .string t898] 35 (0, 0)) z8e hb) (below_step z8f hb); clear HO873 HO883 BK875 BK885 BK893 BK900 HB; obtain ⟨HO873, HO883, BK875, BK885, BK893, BK900, HB⟩ := n_; (try clear hb); obtain ⟨hcz71_0, hcz71_1, hcz71_2, hcz71_3, hcz71_4, hcz71_5, hfz71_0, hfz71_1, hfz71_2, hfz71_3, hfz71_4, hfz71_5⟩ := zh BK875.out) | (go_at_call 9; (with_reducible refine (impl_PutEntry.calls (hG_ := globI_on HG_.out z2j) k t866 t867 t868 t869 t870 _ _ t871 t902 _ ?side1 ?side2 A15.out).mono ?_); (case side1 => repeat (first | exact (Kd.R_reads' HO873.out).2.2 | (with_reducible refine Kd.C_alloc ?_ _) | (with_reducible refine Kd.C_drewN ?_ _) | (with_reducible refine Kd.C_drew ?_))); (case side2 => exact (Kd.R_reads' HO873.out).2.1); rintro e w72 ⟨rfl, hb⟩; have n_ := z1b (Kd.R_below z7g hb) (Kd.R_below z7j hb) (blk_below (zu BK875.out) hb) (blk_below (zu BK885.out) hb) (blk_below (zu BK893.out) hb) (blk_below (zu BK900.out) hb) (below_step z8f hb); clear HO873 HO883 BK875 BK885 BK893 BK900 HB; obtain ⟨HO873, HO883, BK875, BK885, BK893, BK900, HB⟩ := n_; (try clear hb)))
        go_ret
        exact ⟨z1t, z8f⟩
      ·rw [if_neg c16] at H
       have c16b0 := beq_eq_false_iff_ne.mpr c16
       have c16b1 := bne_iff_ne.mpr c16
       exact absurd H z1l
     ·replace c14 := Bool.eq_false_iff.mpr c14
      subst c14
      rw [if_neg zk] at H
      exact absurd H z1l
    ·replace c12 := Bool.eq_false_iff.mpr c12
     subst c12
     rw [if_neg zk] at H
     by_cases c123 : t892 = true
     ·subst c123
      rw [if_pos rfl] at H
      obtain ⟨t904, A124, H⟩ := zm H
      try dsimp only at H
      have hleaf := Option.some.inj H
      go_enter Tryz.func5, Tryz.ntmps5
      go_wp2_with (first | ((with_reducible refine zi 7 rfl ?_); refine zj (some 14) Tryz.func7 #[.slice A0 l0.length c0] rfl ?_; (with_reducible refine (laws_big.calls _ _ l0 false _ ?side1 ?side2 A2.out).mono ?_); (case side1 => exact z3d); (case side2 => exact HC0.out); rintro e w' ⟨rfl, ⟨nd, rfl⟩⟩; refine ⟨_, rfl, ?_⟩) | ((with_reducible refine zi 22 rfl ?_); refine zj (some 16) Tryz.func22 #[.slice A0 l0.length c0] rfl ?_; (with_reducible refine (spec_DrawGetEntry.calls k _ _ l0 t865 _ ?side1 ?side2 A4.out).mono ?_); (case side1 => exact z3d); (case side2 => exact HC0.out); rintro e w125 ⟨rfl, hb⟩; refine ⟨_, rfl, ?_⟩; replace HB := zn (below_step z1r hb); (try clear hb)) | ((with_reducible refine zi 12 rfl ?_); refine zj (some 19) Tryz.func12 #[.string t865] rfl ?_; (with_reducible refine (impl_GetEntry.calls (hG_ := globI_on HG_.out z2j) k t865 t866 t867 t868 t869 t870 t871 false _ A5.out).mono ?_); rintro e w126 ⟨v872, rfl, ho0, hb⟩; refine ⟨_, rfl, ?_⟩; have n_ := zo (Kd.R_lower ho0 (below_size z1r)) (below_step z1r hb); clear HB; obtain ⟨HO873, HB⟩ := n_; (try clear hb); (try clear ho0)) | ((with_reducible refine zr 4 rfl ?_); refine zt 28 #[.string ⟨#[]⟩, .int .i64 0, .int .i64 0, .int .i64 0, .string ⟨#[]⟩, .slice none 0 0] ?_; intro gb875 hg w127 hbox hb; have n_ := z1h (Kd.R_below z7g hb) (below_step z1r hb) hbox (z8j : w.heap.size ≤ gb875) (z8j : w.heap.size ≤ gb875); clear HO873 HB; obtain ⟨HO873, HB, BK875, GW875, GE875⟩ := n_; clear hb hbox hg; obtain ⟨hcz128_0, hcz128_1, hcz128_2, hcz128_3, hcz128_4, hcz128_5, hfz128_0, hfz128_1, hfz128_2, hfz128_3, hfz128_4, hfz128_5⟩ := zh BK875.out; obtain ⟨Ao129, co129, eo129⟩ := Kd.R_slice HO873.out; subst eo129) | ((with_reducible refine zi 18 rfl ?_); refine zj (some 24) Tryz.func18 #[.string t865] rfl ?_; (with_reducible refine (spec_GetEntry.calls k t865 t876 t877 t878 t879 t880 t881 t884 _ A6.out).mono ?_); rintro e w130 ⟨v882, rfl, ho0, hb⟩; refine ⟨_, rfl, ?_⟩; have n_ := zv (Kd.R_elder' (by (with_reducible repeat (first | apply Kd.R_alloc | apply Kd.R_drewN | apply Kd.R_drew)); exact (Kd.R_mono (z1d gb875 5 (z1d gb875 4 (z1d gb875 3 (z1d gb875 2 (z1d gb875 1 (z1d gb875 0 (Kd.R_types HO873.out BK875.out z1l) (.string t866)) (.int .i64 t867)) (.int .i64 t868)) (.int .i64 t869)) (.string t870)) (.slice Ao129 t871.length co129)) (fun _ h_ => h_.1))) (Kd.R_base ho0) hb) (Kd.R_lower (Kd.R_new' ho0 (Kd.R_lt (by (with_reducible repeat (first | apply Kd.R_alloc | apply Kd.R_drewN | apply Kd.R_drew)); exact (Kd.R_mono (z1d gb875 5 (z1d gb875 4 (z1d gb875 3 (z1d gb875 2 (z1d gb875 1 (z1d gb875 0 (Kd.R_types HO873.out BK875.out z1l) (.string t866)) (.int .i64 t867)) (.int .i64 t868)) (.int .i64 t869)) (.string t870)) (.slice Ao129 t871.length co129)) (fun _ h_ => h_.1))))) (below_size z7h)) (blk_below (g := gb875) (o := .cells #[.string t866, .int .i64 t867, .int .i64 t868, .int .i64 t869, .string t870, .slice Ao129 t871.length co129] 28 (0, 0)) z7i hb) (below_step z7h hb); clear HO873 BK875 HB; obtain ⟨HO873, HO883, BK875, HB⟩ := n_; (try clear hb); (try clear ho0)) | ((with_reducible refine zr 6 rfl ?_); refine zt 28 #[.string ⟨#[]⟩, .int .i64 0, .int .i64 0, .int .i64 0, .string ⟨#[]⟩, .slice none 0 0] ?_; intro gb885 hg w131 hbox hb; have n_ := z1g (Kd.R_below z7g hb) (z1e (Kd.R_below z7j hb) (blk_below (zu BK875.out) hb) (below_step z7h hb) hbox (z8z : w.heap.size ≤ gb885) (z8z : w.heap.size ≤ gb885) (z7k : gb875 ≠ gb885) (z7l : gb885 ≠ gb875)); clear HO873 HO883 BK875 HB; obtain ⟨HO873, HO883, BK875, HB, BK885, GW885, GE885, NB875_885, NB885_875⟩ := n_; clear hb hbox hg; have hnb132 := NB885_875.out; have hnc132 := NB875_885.out; obtain ⟨hcz133_0, hcz133_1, hcz133_2, hcz133_3, hcz133_4, hcz133_5, hfz133_0, hfz133_1, hfz133_2, hfz133_3, hfz133_4, hfz133_5⟩ := zh BK885.out; obtain ⟨Ao134, co134, eo134⟩ := Kd.R_slice HO883.out; subst eo134) | ((with_reducible refine zi 23 rfl ?_); refine zj (some 28) Tryz.func23 #[.slice A0 l0.length c0] rfl ?_; (with_reducible refine (spec_DrawParseName.calls k _ _ l0 t886 _ ?side1 ?side2 A7.out).mono ?_); (case side1 => exact Kd.C_below HR0.out z7m); (case side2 => exact HC0.out); rintro e w135 ⟨rfl, hb⟩; refine ⟨_, rfl, ?_⟩; have n_ := z1h (Kd.R_below (by (with_reducible repeat (first | apply Kd.R_alloc | apply Kd.R_drewN | apply Kd.R_drew)); exact (Kd.R_mono (z1d gb885 5 (z1d gb885 4 (z1d gb885 3 (z1d gb885 2 (z1d gb885 1 (z1d gb885 0 (Kd.R_types HO873.out BK885.out z1l) (.string t876)) (.int .i64 t877)) (.int .i64 t878)) (.int .i64 t879)) (.string t880)) (.slice Ao134 t881.length co134)) (fun _ h_ => h_.1))) hb) (Kd.R_below (by (with_reducible repeat (first | apply Kd.R_alloc | apply Kd.R_drewN | apply Kd.R_drew)); exact (Kd.R_mono (z1d gb885 5 (z1d gb885 4 (z1d gb885 3 (z1d gb885 2 (z1d gb885 1 (z1d gb885 0 (Kd.R_types HO883.out BK885.out z1l) (.string t876)) (.int .i64 t877)) (.int .i64 t878)) (.int .i64 t879)) (.string t880)) (.slice Ao134 t881.length co134)) (fun _ h_ => h_.1))) hb) (blk_below (g := gb875) (o := .cells #[.string t866, .int .i64 t867, .int .i64 t868, .int .i64 t869, .string t870, .slice Ao129 t871.length co129] 28 (0, 0)) z7n hb) (blk_below (g := gb885) (o := .cells #[.string t876, .int .i64 t877, .int .i64 t878, .int .i64 t879, .string t880, .slice Ao134 t881.length co134] 28 (0, 0)) z7o hb) (below_step z7m hb); clear HO873 HO883 BK875 BK885 HB; obtain ⟨HO873, HO883, BK875, BK885, HB⟩ := n_; (try clear hb)) | ((with_reducible refine zi 13 rfl ?_); refine zj (some 31) Tryz.func13 #[.string t886] rfl ?_; (with_reducible refine (impl_ParseName.calls (hG_ := globI_on HG_.out z2j) k t886 t887 t888 t889 t890 t891 true _ A8.out).mono ?_); rintro e w136 ⟨rfl, hb⟩; refine ⟨_, rfl, ?_⟩; have n_ := z1h (Kd.R_below z7g hb) (Kd.R_below z7j hb) (blk_below (zu BK875.out) hb) (blk_below (zu BK885.out) hb) (below_step z7m hb); clear HO873 HO883 BK875 BK885 HB; obtain ⟨HO873, HO883, BK875, BK885, HB⟩ := n_; (try clear hb)) | ((with_reducible refine zr 9 rfl ?_); refine zt 35 #[.string ⟨#[]⟩, .int .i64 0, .int .i64 0, .int .i64 0, .string ⟨#[]⟩] ?_; intro gb893 hg w137 hbox hb; have n_ := z1g (Kd.R_below (Kd.R_elderB z7g gb893 (Nat.le_of_eq hg.symm)) hb) (z1g (Kd.R_below (Kd.R_elderB z7j gb893 (Nat.le_of_eq hg.symm)) hb) (z1g (blk_below (zu BK875.out) hb) (z1g (blk_below (zu BK885.out) hb) (z1e (below_step z7m hb) hbox (z9a : w.heap.size ≤ gb893) (z9a : w.heap.size ≤ gb893) (z7k : gb875 ≠ gb893) (z7l : gb893 ≠ gb875) (z7p : gb885 ≠ gb893) (z7q : gb893 ≠ gb885))))); clear HO873 HO883 BK875 BK885 HB; obtain ⟨HO873, HO883, BK875, BK885, HB, BK893, GW893, GE893, NB875_893, NB893_875, NB885_893, NB893_885⟩ := n_; clear hb hbox hg; have hnb138 := NB893_875.out; have hnc138 := NB875_893.out; have hnb139 := NB893_885.out; have hnc139 := NB885_893.out; obtain ⟨hcz140_0, hcz140_1, hcz140_2, hcz140_3, hcz140_4, hfz140_0, hfz140_1, hfz140_2, hfz140_3, hfz140_4⟩ := zg BK893.out) | ((with_reducible refine zi 24 rfl ?_); refine zj (some 36) Tryz.func24 #[.string t886] rfl ?_; (with_reducible refine (spec_ParseName.calls k t886 t894 t895 t896 t897 t898 t899 _ A9.out).mono ?_); rintro e w141 ⟨rfl, hb⟩; refine ⟨_, rfl, ?_⟩; have n_ := z1i (Kd.R_below z7r hb) (Kd.R_below z7s hb) (blk_below (g := gb875) (o := .cells #[.string t866, .int .i64 t867, .int .i64 t868, .int .i64 t869, .string t870, .slice Ao129 t871.length co129] 28 (0, 0)) z7t hb) (blk_below (g := gb885) (o := .cells #[.string t876, .int .i64 t877, .int .i64 t878, .int .i64 t879, .string t880, .slice Ao134 t881.length co134] 28 (0, 0)) z7u hb) (blk_below (g := gb893) (o := .cells #[.string t887, .int .i64 t888, .int .i64 t889, .int .i64 t890, .string t891] 35 (0, 0)) z7v hb) (below_step z7w hb); clear HO873 HO883 BK875 BK885 BK893 HB; obtain ⟨HO873, HO883, BK875, BK885, BK893, HB⟩ := n_; (try clear hb)) | ((with_reducible refine zr 11 rfl ?_); refine zt 35 #[.string ⟨#[]⟩, .int .i64 0, .int .i64 0, .int .i64 0, .string ⟨#[]⟩] ?_; intro gb900 hg w142 hbox hb; have n_ := z1g (Kd.R_below (Kd.R_elderB z7g gb900 (Nat.le_of_eq hg.symm)) hb) (z1g (Kd.R_below (Kd.R_elderB z7j gb900 (Nat.le_of_eq hg.symm)) hb) (z1g (blk_below (zu BK875.out) hb) (z1g (blk_below (zu BK885.out) hb) (z1g (blk_below (zu BK893.out) hb) (z1g (below_step z7w hb) (z1g hbox (z1e (z9b : w.heap.size ≤ gb900) (z9b : w.heap.size ≤ gb900) (z7k : gb875 ≠ gb900) (z7l : gb900 ≠ gb875) (z7p : gb885 ≠ gb900) (z7q : gb900 ≠ gb885) (z7x : gb893 ≠ gb900) (z7y : gb900 ≠ gb893)))))))); clear HO873 HO883 BK875 BK885 BK893 HB; obtain ⟨HO873, HO883, BK875, BK885, BK893, HB, BK900, GW900, GE900, NB875_900, NB900_875, NB885_900, NB900_885, NB893_900, NB900_893⟩ := n_; clear hb hbox hg; have hnb143 := NB900_875.out; have hnc143 := NB875_900.out; have hnb144 := NB900_885.out; have hnc144 := NB885_900.out; have hnb145 := NB900_893.out; have hnc145 := NB893_900.out; obtain ⟨hcz146_0, hcz146_1, hcz146_2, hcz146_3, hcz146_4, hfz146_0, hfz146_1, hfz146_2, hfz146_3, hfz146_4⟩ := zg BK900.out; obtain ⟨hcz147_0, hcz147_1, hcz147_2, hcz147_3, hcz147_4, hfz147_0, hfz147_1, hfz147_2, hfz147_3, hfz147_4⟩ := zg BK893.out) | (go_at_call 14; (with_reducible refine (impl_EntryName.calls (hG_ := globI_on HG_.out z2j) k t887 t888 t889 t890 t891 t904 _ A124.out).mono ?_); rintro e w148 ⟨rfl, hb⟩; have n_ := z1b (Kd.R_below z7z hb) (Kd.R_below z8a hb) (blk_below (g := gb875) (o := .cells #[.string t866, .int .i64 t867, .int .i64 t868, .int .i64 t869, .string t870, .slice Ao129 t871.length co129] 28 (0, 0)) z8b hb) (blk_below (g := gb885) (o := .cells #[.string t876, .int .i64 t877, .int .i64 t878, .int .i64 t879, .string t880, .slice Ao134 t881.length co134] 28 (0, 0)) z8c hb) (blk_below (g := gb893) (o := .cells #[.string t887, .int .i64 t888, .int .i64 t889, .int .i64 t890, .string t891] 35 (0, 0)) z8d hb) (blk_below (g := gb900) (o := .cells #[.string t894, .int .i64 t895, .int .i64 t896, .int .i64 t897, .string t898] 35 (0, 0)) z8e hb) (below_step z8f hb); clear HO873 HO883 BK875 BK885 BK893 BK900 HB; obtain ⟨HO873, HO883, BK875, BK885, BK893, BK900, HB⟩ := n_; (try clear hb)))
      go_ret
      exact ⟨z1t, z8f⟩
     ·replace c123 := Bool.eq_false_iff.mpr c123
      subst c123
      have H1 : (some true) = some true := rfl
      clear H
      have H := H1
      clear H1
      skip
      go_enter Tryz.func5, Tryz.ntmps5
      go_wp2_with (first | ((with_reducible refine zi 7 rfl ?_); refine zj (some 14) Tryz.func7 #[.slice A0 l0.length c0] rfl ?_; (with_reducible refine (laws_big.calls _ _ l0 false _ ?side1 ?side2 A2.out).mono ?_); (case side1 => exact z3d); (case side2 => exact HC0.out); rintro e w' ⟨rfl, ⟨nd, rfl⟩⟩; refine ⟨_, rfl, ?_⟩) | ((with_reducible refine zi 22 rfl ?_); refine zj (some 16) Tryz.func22 #[.slice A0 l0.length c0] rfl ?_; (with_reducible refine (spec_DrawGetEntry.calls k _ _ l0 t865 _ ?side1 ?side2 A4.out).mono ?_); (case side1 => exact z3d); (case side2 => exact HC0.out); rintro e w149 ⟨rfl, hb⟩; refine ⟨_, rfl, ?_⟩; replace HB := zn (below_step z1r hb); (try clear hb)) | ((with_reducible refine zi 12 rfl ?_); refine zj (some 19) Tryz.func12 #[.string t865] rfl ?_; (with_reducible refine (impl_GetEntry.calls (hG_ := globI_on HG_.out z2j) k t865 t866 t867 t868 t869 t870 t871 false _ A5.out).mono ?_); rintro e w150 ⟨v872, rfl, ho0, hb⟩; refine ⟨_, rfl, ?_⟩; have n_ := zo (Kd.R_lower ho0 (below_size z1r)) (below_step z1r hb); clear HB; obtain ⟨HO873, HB⟩ := n_; (try clear hb); (try clear ho0)) | ((with_reducible refine zr 4 rfl ?_); refine zt 28 #[.string ⟨#[]⟩, .int .i64 0, .int .i64 0, .int .i64 0, .string ⟨#[]⟩, .slice none 0 0] ?_; intro gb875 hg w151 hbox hb; have n_ := z1h (Kd.R_below z7g hb) (below_step z1r hb) hbox (z8j : w.heap.size ≤ gb875) (z8j : w.heap.size ≤ gb875); clear HO873 HB; obtain ⟨HO873, HB, BK875, GW875, GE875⟩ := n_; clear hb hbox hg; obtain ⟨hcz152_0, hcz152_1, hcz152_2, hcz152_3, hcz152_4, hcz152_5, hfz152_0, hfz152_1, hfz152_2, hfz152_3, hfz152_4, hfz152_5⟩ := zh BK875.out; obtain ⟨Ao153, co153, eo153⟩ := Kd.R_slice HO873.out; subst eo153) | ((with_reducible refine zi 18 rfl ?_); refine zj (some 24) Tryz.func18 #[.string t865] rfl ?_; (with_reducible refine (spec_GetEntry.calls k t865 t876 t877 t878 t879 t880 t881 t884 _ A6.out).mono ?_); rintro e w154 ⟨v882, rfl, ho0, hb⟩; refine ⟨_, rfl, ?_⟩; have n_ := zv (Kd.R_elder' (by (with_reducible repeat (first | apply Kd.R_alloc | apply Kd.R_drewN | apply Kd.R_drew)); exact (Kd.R_mono (z1d gb875 5 (z1d gb875 4 (z1d gb875 3 (z1d gb875 2 (z1d gb875 1 (z1d gb875 0 (Kd.R_types HO873.out BK875.out z1l) (.string t866)) (.int .i64 t867)) (.int .i64 t868)) (.int .i64 t869)) (.string t870)) (.slice Ao153 t871.length co153)) (fun _ h_ => h_.1))) (Kd.R_base ho0) hb) (Kd.R_lower (Kd.R_new' ho0 (Kd.R_lt (by (with_reducible repeat (first | apply Kd.R_alloc | apply Kd.R_drewN | apply Kd.R_drew)); exact (Kd.R_mono (z1d gb875 5 (z1d gb875 4 (z1d gb875 3 (z1d gb875 2 (z1d gb875 1 (z1d gb875 0 (Kd.R_types HO873.out BK875.out z1l) (.string t866)) (.int .i64 t867)) (.int .i64 t868)) (.int .i64 t869)) (.string t870)) (.slice Ao153 t871.length co153)) (fun _ h_ => h_.1))))) (below_size z7h)) (blk_below (g := gb875) (o := .cells #[.string t866, .int .i64 t867, .int .i64 t868, .int .i64 t869, .string t870, .slice Ao153 t871.length co153] 28 (0, 0)) z7i hb) (below_step z7h hb); clear HO873 BK875 HB; obtain ⟨HO873, HO883, BK875, HB⟩ := n_; (try clear hb); (try clear ho0)) | ((with_reducible refine zr 6 rfl ?_); refine zt 28 #[.string ⟨#[]⟩, .int .i64 0, .int .i64 0, .int .i64 0, .string ⟨#[]⟩, .slice none 0 0] ?_; intro gb885 hg w155 hbox hb; have n_ := z1g (Kd.R_below z7g hb) (z1e (Kd.R_below z7j hb) (blk_below (zu BK875.out) hb) (below_step z7h hb) hbox (z8z : w.heap.size ≤ gb885) (z8z : w.heap.size ≤ gb885) (z7k : gb875 ≠ gb885) (z7l : gb885 ≠ gb875)); clear HO873 HO883 BK875 HB; obtain ⟨HO873, HO883, BK875, HB, BK885, GW885, GE885, NB875_885, NB885_875⟩ := n_; clear hb hbox hg; have hnb156 := NB885_875.out; have hnc156 := NB875_885.out; obtain ⟨hcz157_0, hcz157_1, hcz157_2, hcz157_3, hcz157_4, hcz157_5, hfz157_0, hfz157_1, hfz157_2, hfz157_3, hfz157_4, hfz157_5⟩ := zh BK885.out; obtain ⟨Ao158, co158, eo158⟩ := Kd.R_slice HO883.out; subst eo158) | ((with_reducible refine zi 23 rfl ?_); refine zj (some 28) Tryz.func23 #[.slice A0 l0.length c0] rfl ?_; (with_reducible refine (spec_DrawParseName.calls k _ _ l0 t886 _ ?side1 ?side2 A7.out).mono ?_); (case side1 => exact Kd.C_below HR0.out z7m); (case side2 => exact HC0.out); rintro e w159 ⟨rfl, hb⟩; refine ⟨_, rfl, ?_⟩; have n_ := z1h (Kd.R_below (by (with_reducible repeat (first | apply Kd.R_alloc | apply Kd.R_drewN | apply Kd.R_drew)); exact (Kd.R_mono (z1d gb885 5 (z1d gb885 4 (z1d gb885 3 (z1d gb885 2 (z1d gb885 1 (z1d gb885 0 (Kd.R_types HO873.out BK885.out z1l) (.string t876)) (.int .i64 t877)) (.int .i64 t878)) (.int .i64 t879)) (.string t880)) (.slice Ao158 t881.length co158)) (fun _ h_ => h_.1))) hb) (Kd.R_below (by (with_reducible repeat (first | apply Kd.R_alloc | apply Kd.R_drewN | apply Kd.R_drew)); exact (Kd.R_mono (z1d gb885 5 (z1d gb885 4 (z1d gb885 3 (z1d gb885 2 (z1d gb885 1 (z1d gb885 0 (Kd.R_types HO883.out BK885.out z1l) (.string t876)) (.int .i64 t877)) (.int .i64 t878)) (.int .i64 t879)) (.string t880)) (.slice Ao158 t881.length co158)) (fun _ h_ => h_.1))) hb) (blk_below (g := gb875) (o := .cells #[.string t866, .int .i64 t867, .int .i64 t868, .int .i64 t869, .string t870, .slice Ao153 t871.length co153] 28 (0, 0)) z7n hb) (blk_below (g := gb885) (o := .cells #[.string t876, .int .i64 t877, .int .i64 t878, .int .i64 t879, .string t880, .slice Ao158 t881.length co158] 28 (0, 0)) z7o hb) (below_step z7m hb); clear HO873 HO883 BK875 BK885 HB; obtain ⟨HO873, HO883, BK875, BK885, HB⟩ := n_; (try clear hb)) | ((with_reducible refine zi 13 rfl ?_); refine zj (some 31) Tryz.func13 #[.string t886] rfl ?_; (with_reducible refine (impl_ParseName.calls (hG_ := globI_on HG_.out z2j) k t886 t887 t888 t889 t890 t891 false _ A8.out).mono ?_); rintro e w160 ⟨rfl, hb⟩; refine ⟨_, rfl, ?_⟩; have n_ := z1h (Kd.R_below z7g hb) (Kd.R_below z7j hb) (blk_below (zu BK875.out) hb) (blk_below (zu BK885.out) hb) (below_step z7m hb); clear HO873 HO883 BK875 BK885 HB; obtain ⟨HO873, HO883, BK875, BK885, HB⟩ := n_; (try clear hb)) | ((with_reducible refine zr 9 rfl ?_); refine zt 35 #[.string ⟨#[]⟩, .int .i64 0, .int .i64 0, .int .i64 0, .string ⟨#[]⟩] ?_; intro gb893 hg w161 hbox hb; have n_ := z1g (Kd.R_below (Kd.R_elderB z7g gb893 (Nat.le_of_eq hg.symm)) hb) (z1g (Kd.R_below (Kd.R_elderB z7j gb893 (Nat.le_of_eq hg.symm)) hb) (z1g (blk_below (zu BK875.out) hb) (z1g (blk_below (zu BK885.out) hb) (z1e (below_step z7m hb) hbox (z9a : w.heap.size ≤ gb893) (z9a : w.heap.size ≤ gb893) (z7k : gb875 ≠ gb893) (z7l : gb893 ≠ gb875) (z7p : gb885 ≠ gb893) (z7q : gb893 ≠ gb885))))); clear HO873 HO883 BK875 BK885 HB; obtain ⟨HO873, HO883, BK875, BK885, HB, BK893, GW893, GE893, NB875_893, NB893_875, NB885_893, NB893_885⟩ := n_; clear hb hbox hg; have hnb162 := NB893_875.out; have hnc162 := NB875_893.out; have hnb163 := NB893_885.out; have hnc163 := NB885_893.out; obtain ⟨hcz164_0, hcz164_1, hcz164_2, hcz164_3, hcz164_4, hfz164_0, hfz164_1, hfz164_2, hfz164_3, hfz164_4⟩ := zg BK893.out) | ((with_reducible refine zi 24 rfl ?_); refine zj (some 36) Tryz.func24 #[.string t886] rfl ?_; (with_reducible refine (spec_ParseName.calls k t886 t894 t895 t896 t897 t898 t899 _ A9.out).mono ?_); rintro e w165 ⟨rfl, hb⟩; refine ⟨_, rfl, ?_⟩; have n_ := z1i (Kd.R_below z7r hb) (Kd.R_below z7s hb) (blk_below (g := gb875) (o := .cells #[.string t866, .int .i64 t867, .int .i64 t868, .int .i64 t869, .string t870, .slice Ao153 t871.length co153] 28 (0, 0)) z7t hb) (blk_below (g := gb885) (o := .cells #[.string t876, .int .i64 t877, .int .i64 t878, .int .i64 t879, .string t880, .slice Ao158 t881.length co158] 28 (0, 0)) z7u hb) (blk_below (g := gb893) (o := .cells #[.string t887, .int .i64 t888, .int .i64 t889, .int .i64 t890, .string t891] 35 (0, 0)) z7v hb) (below_step z7w hb); clear HO873 HO883 BK875 BK885 BK893 HB; obtain ⟨HO873, HO883, BK875, BK885, BK893, HB⟩ := n_; (try clear hb)) | ((with_reducible refine zr 11 rfl ?_); refine zt 35 #[.string ⟨#[]⟩, .int .i64 0, .int .i64 0, .int .i64 0, .string ⟨#[]⟩] ?_; intro gb900 hg w166 hbox hb; have n_ := z1g (Kd.R_below (Kd.R_elderB z7g gb900 (Nat.le_of_eq hg.symm)) hb) (z1g (Kd.R_below (Kd.R_elderB z7j gb900 (Nat.le_of_eq hg.symm)) hb) (z1g (blk_below (zu BK875.out) hb) (z1g (blk_below (zu BK885.out) hb) (z1g (blk_below (zu BK893.out) hb) (z1g (below_step z7w hb) (z1g hbox (z1e (z9b : w.heap.size ≤ gb900) (z9b : w.heap.size ≤ gb900) (z7k : gb875 ≠ gb900) (z7l : gb900 ≠ gb875) (z7p : gb885 ≠ gb900) (z7q : gb900 ≠ gb885) (z7x : gb893 ≠ gb900) (z7y : gb900 ≠ gb893)))))))); clear HO873 HO883 BK875 BK885 BK893 HB; obtain ⟨HO873, HO883, BK875, BK885, BK893, HB, BK900, GW900, GE900, NB875_900, NB900_875, NB885_900, NB900_885, NB893_900, NB900_893⟩ := n_; clear hb hbox hg; have hnb167 := NB900_875.out; have hnc167 := NB875_900.out; have hnb168 := NB900_885.out; have hnc168 := NB885_900.out; have hnb169 := NB900_893.out; have hnc169 := NB893_900.out; obtain ⟨hcz170_0, hcz170_1, hcz170_2, hcz170_3, hcz170_4, hfz170_0, hfz170_1, hfz170_2, hfz170_3, hfz170_4⟩ := zg BK900.out))
      go_ret
      exact ⟨z1t, z8f⟩
   ·rw [if_neg c11] at H
    have c11b0 : (t892 == t899) = false := by simpa using c11
    (try (have c11b1 : decide (t892 = t899) = false := by simpa using c11))
    (try (have c11b2 : (t892 == t899) = false := by simpa using c11))
    (try (have c11b3 : ¬ (t892 = t899) := by simpa using c11))
    clear c11
    exact absurd H z1l
  ·rw [if_neg c10] at H
   have c10b0 : (t874 == t884) = false := by simpa using c10
   (try (have c10b1 : decide (t874 = t884) = false := by simpa using c10))
   (try (have c10b2 : (t874 == t884) = false := by simpa using c10))
   (try (have c10b3 : ¬ (t874 = t884) := by simpa using c10))
   clear c10
   exact absurd H z1l
def laws_FnRead.Pure : Prop := ∀ (l0 : List Int), l0.length ≤ maxLen → l0.length * 1 ≤ 140737488351232 → (∀ x ∈ l0, (Lit.int .u8 x).wf = true) → ∃ k, laws_FnRead.f k l0 = some true
theorem laws_FnRead.walk (P : laws_FnRead.Pure) (a0 : Option Addr) (len0 cap0 : Nat) (z0 : List Int) (w : World) (hG_ : GlobI w) (w0 : (a0 = none ∧ len0 = 0 ∧ cap0 = 0 ∧ z0 = []) ∨ ∃ x, a0 = some x ∧ len0 ≤ cap0 ∧ cap0 ≤ maxLen ∧ z0.length = cap0 ∧ (∀ i, i < z0.length → w.cell? (x.add i) = some (.int .u8 (z0.getD i 0))) ∧ ∀ n ∈ z0, (Lit.int .u8 n).wf = true) (y0 : len0 * 1 ≤ 140737488351232) :
  Calls Tryz.prog 5 #[.slice a0 len0 cap0] w fun e w' => e = .returned (.bool true) ∧ Below w.heap.size w w' := by
 obtain ⟨l0, rfl, hr0, hm0, hw0, hc0⟩ := ReadsInt.ofRowC w0
 obtain ⟨k, h⟩ := P l0 hm0 y0 hw0
 refine (laws_FnRead.calls (hG_ := hG_) k _ _ l0 w (Kd.C_of_reads (d := (0 : Int)) (h1 := fun _ => rfl) hr0) hc0 h).mono ?_
 rintro e w' ⟨rfl, hd⟩
 exact ⟨rfl, hd⟩
end Go.Proofs.YtgdknepphkhnlaaGreatDoor.X

/- Plain lemmas for what the printed functions compute: enough rounds ('Ev'), tests, bounds of whole numbers, lists. No Go, no memory. -/
set_option linter.unusedVariables false
namespace Go.Proofs.YtgdknepphkhnlaaGreatDoor.Z
open Go.RowKit Go.Proofs.YtgdknepphkhnlaaGreatDoorW.PrintWords Go.Proofs.YtgdknepphkhnlaaGreatDoorW.PrintMore
theorem evT {α : Type} {c : Prop} [Decidable c] {f g : Nat → Option α} {r : α} (h : c) (H : Ev f r) : Ev (fun k => if c then f k else g k) r := by
 obtain ⟨K, hK⟩ := H
 exact ⟨K, fun k hk => (if_pos h).trans (hK k hk)⟩
theorem evF {α : Type} {c : Prop} [Decidable c] {f g : Nat → Option α} {r : α} (h : ¬ c) (H : Ev g r) : Ev (fun k => if c then f k else g k) r := by
 obtain ⟨K, hK⟩ := H
 exact ⟨K, fun k hk => (if_neg h).trans (hK k hk)⟩
theorem evI {α : Type} {c : Prop} [Decidable c] {f g : Nat → Option α} {r : α} (H : c → Ev f r) (H' : ¬ c → Ev g r) : Ev (fun k => if c then f k else g k) r := by
 by_cases h : c
 ·exact evT h (H h)
 ·exact evF h (H' h)
theorem evB {α β : Type} {g : Nat → Option α} {f : Nat → α → Option β} {a : α} {r : β} (h : Ev g a) (k : Ev (fun n => f n a) r) : Ev (fun n => (g n).bind (f n)) r := Ev.bind h k
theorem evR {α : Type} {r r' : α} (h : r = r') : Ev (fun _ => some r) r' := h ▸ Ev.now r
theorem evC {α β : Type} {x : Option α} {f : Nat → α → Option β} {a : α} {r : β} (h : x = some a) (k : Ev (fun n => f n a) r) : Ev (fun n => x.bind (f n)) r := by
 subst h
 exact k
theorem evS {α : Type} {g f : Nat → Option α} {r : α} (h : ∀ k, g (k + 1) = f k) (k : Ev f r) : Ev g r := Ev.step h k
theorem evE {α : Type} {g : Nat → Option α} {r r' : α} (h : r = r') (k : Ev g r) : Ev g r' := h ▸ k
theorem ev_one {α : Type} {g : Nat → Option α} {r r' : α} (h : Ev g r) (h' : Ev g r') : r = r' := by
 obtain ⟨K, hK⟩ := h
 obtain ⟨L, hL⟩ := h'
 have a := hK (max K L) (Nat.le_max_left _ _)
 have b := hL (max K L) (Nat.le_max_right _ _)
 rw [a] at b
 exact Option.some.inj b
theorem w64 {x : Int} (h : -9223372036854775808 ≤ x ∧ x ≤ 9223372036854775807) : wrap64 x = x := by unfold wrap64; omega
theorem w64s {i n : Nat} (h : i < n) (hn : n ≤ 9223372036854775807) : wrap64 ((i : Int) + 1) = ((i + 1 : Nat) : Int) := by unfold wrap64; omega
theorem wu64 {x : Int} (h : 0 ≤ x ∧ x ≤ 18446744073709551615) : IntKind.u64.wrap x = x := by
 simp [IntKind.wrap, IntKind.bits, IntKind.signed]
 omega
theorem wi64 (x : Int) : IntKind.i64.wrap x = wrap64 x := by rw [Go.IntKind.wrap_i64]; unfold wrap64; rfl
theorem wraps_i64 (n : Int) (h₀ : 0 ≤ n) (h₁ : n < 2 ^ 63) : IntKind.i64.wrap n = n := by
 rw [wi64, w64]
 have : (2 : Int) ^ 63 = 9223372036854775808 := by decide
 omega
theorem rd_get {l : List Int} {i : Nat} (h : i < l.length) : l[i]? = some (rd l (i : Int)) := by
 simp [rd, List.getElem?_eq_getElem h]
theorem rdOf_get {α : Type} {d : α} {l : List α} {i : Nat} (h : i < l.length) : l[i]? = some (rdOf d l (i : Int)) := by
 simp [rdOf, List.getElem?_eq_getElem h]
end Go.Proofs.YtgdknepphkhnlaaGreatDoor.Z

/- What GetNum computes, the program's and the reference's, step by step: the same. No Go, no memory. -/
set_option linter.unusedVariables false
namespace Go.Proofs.YtgdknepphkhnlaaGreatDoor.Z
open Go.RowKit Go.Proofs.YtgdknepphkhnlaaGreatDoorW.PrintWords Go.Proofs.YtgdknepphkhnlaaGreatDoorW.PrintMore Go.Proofs.YtgdknepphkhnlaaGreatDoor.X
theorem or_comm64 (k : IntKind) (a b : Int) : Go.bits .or k a b = Go.bits .or k b a := by simp [Go.bits, BitVec.or_comm]
theorem and127 {c : Int} (hc : 0 ≤ c ∧ c ≤ 255) : Go.bits .and .i64 (wrap64 c) 127 = c % 128 := by
 rw [w64 z1k]
 exact bits_mask .i64 63 z1l wraps_i64 7 z1l c hc.1 z1k
theorem shl_at {y : Int} {i : Nat} (hi : i < 5) (hy : 0 ≤ y ∧ y < 128) : shl .i64 y (IntKind.u64.wrap (wrap64 (7 * (i : Int)))) = y * 2 ^ (7 * i) := by
 have h : i = 0 ∨ i = 1 ∨ i = 2 ∨ i = 3 ∨ i = 4 := by omega
 rcases h with rfl | rfl | rfl | rfl | rfl
 all_goals
  unfold shl
  rw [wi64]
  simp [IntKind.wrap, IntKind.bits, IntKind.signed, wrap64]
  omega
theorem gn_step {c n : Int} {i : Nat} (hi : i < 5) (hc : 0 ≤ c ∧ c ≤ 255) (hn : 0 ≤ n ∧ n < 2 ^ (7 * i)) :
  Go.bits .or .i64 n (shl .i64 (Go.bits .and .i64 (wrap64 c) 127) (IntKind.u64.wrap (wrap64 (7 * (i : Int))))) = n + (c % 128) * 2 ^ (7 * i) := by
 rw [and127 hc, shl_at hi z1k, or_comm64]
 have hm : 0 ≤ c % 128 ∧ c % 128 < 128 := by omega
 generalize c % 128 = y at hm
 have h : i = 0 ∨ i = 1 ∨ i = 2 ∨ i = 3 ∨ i = 4 := by omega
 rcases h with rfl | rfl | rfl | rfl | rfl
 all_goals
  rw [bits_join .i64 63 z1l wraps_i64 _ _ _ z1k (by simp) z1k hn.1 hn.2 z1k]
  omega
theorem pow_next {n y : Int} {i : Nat} (hi : i < 5) (hn : 0 ≤ n ∧ n < 2 ^ (7 * i)) (hy : 0 ≤ y ∧ y < 128) : 0 ≤ n + y * 2 ^ (7 * i) ∧ n + y * 2 ^ (7 * i) < 2 ^ (7 * (i + 1)) := by
 have h : i = 0 ∨ i = 1 ∨ i = 2 ∨ i = 3 ∨ i = 4 := by omega
 rcases h with rfl | rfl | rfl | rfl | rfl <;> omega
theorem u64_ok {i : Nat} (hi : i < 5) : 0 ≤ IntKind.u64.wrap (wrap64 (7 * (i : Int))) := by
 rw [w64 z1k, wu64 z1k]
 omega
def GetOk (len : Nat) (a : Int) (r : Int × Int × Bool) : Prop := r = (0, 0, false) ∨ r.2.2 = true ∧ 0 ≤ r.1 ∧ r.1 ≤ 1000000000 ∧ a < r.2.1 ∧ r.2.1 ≤ len ∧ 0 ≤ a
theorem rd_byte {b : List Int} (hb : ∀ x ∈ b, (Lit.int .u8 x).wf = true) (i : Int) : 0 ≤ rd b i ∧ rd b i ≤ 255 := by
 unfold rd
 rcases Nat.lt_or_ge i.toNat b.length with h | h
 ·have h1 := hb _ (List.getElem_mem h)
  rw [List.getD_eq_getElem?_getD, List.getElem?_eq_getElem h]
  simp [Lit.wf, IntKind.min, IntKind.max, IntKind.signed, IntKind.bits] at h1
  simp
  omega
 ·rw [List.getD_eq_getElem?_getD, List.getElem?_eq_none h]
  simp
theorem gn_both (b : List Int) (hb : ∀ x ∈ b, (Lit.int .u8 x).wf = true) (hl : b.length ≤ 140737488355328) (a : Nat) (d : Nat) : ∀ (i : Nat) (n : Int), i + d = 5 → a < b.length → 0 ≤ n ∧ n < 2 ^ (7 * i) →
  ∃ r, Ev (fun k => spec_GetNum.l0 k b (a : Int) n (i : Int)) r ∧ Ev (fun k => impl_GetNum.l0 k b ((a + i : Nat) : Int) n (i : Int)) r ∧ GetOk b.length a r := by
 induction d with
 | zero =>
  intro i n hi ha hn
  refine ⟨(0, 0, false), ?_, ?_, .inl rfl⟩
  ·exact evS (fun k => by rw [spec_GetNum.l0]) (evF z1k (evS (fun k => by rw [spec_GetNum.j1]) (evF (by simp) (evR rfl))))
  ·exact evS (fun k => by rw [impl_GetNum.l0]) (evF z1k (evS (fun k => by rw [impl_GetNum.j1]) (evF (by simp) (evR rfl))))
 | succ d ih =>
  intro i n hi ha hn
  have hw : wrap64 ((a : Int) + (i : Int)) = ((a + i : Nat) : Int) := by rw [w64 z1k]; omega
  by_cases hp : a + i < b.length
  ·have hc := rd_byte hb ((a + i : Nat) : Int)
   have hv := gn_step (i := i) z1k hc hn
   have hN := pow_next (i := i) (y := rd b ((a + i : Nat) : Int) % 128) z1k hn z1k
   have hu := u64_ok (i := i) z1k
   have hwc : wrap64 (rd b ((a + i : Nat) : Int)) = rd b ((a + i : Nat) : Int) := w64 z1k
   have hs1 : ∀ r, Ev (fun k => spec_GetNum.j1 k b (a : Int) n (i : Int) true) r → Ev (fun k => spec_GetNum.l0 k b (a : Int) n (i : Int)) r := by
    intro r h
    refine evS (fun k => by rw [spec_GetNum.l0]) (evT z1k (evT z1k (evT z1k ?_)))
    rw [hw, decide_eq_true z1k]
    exact h
   have hi1 : ∀ r, Ev (fun k => impl_GetNum.j1 k b ((a + i : Nat) : Int) n (i : Int) true) r → Ev (fun k => impl_GetNum.l0 k b ((a + i : Nat) : Int) n (i : Int)) r := by
    intro r h
    refine evS (fun k => by rw [impl_GetNum.l0]) (evT z1k ?_)
    rw [decide_eq_true z1k]
    exact h
   generalize hN' : n + rd b ((a + i : Nat) : Int) % 128 * 2 ^ (7 * i) = N at *
   by_cases h1 : rd b ((a + i : Nat) : Int) > 127
   ·obtain ⟨r, e1, e2, g⟩ := ih (i + 1) N z1k ha hN
    refine ⟨r, hs1 r ?_, hi1 r ?_, g⟩
    ·refine evS (fun k => by rw [spec_GetNum.j1]) (evT rfl ?_)
     rw [hw]
     refine evT z1k (evT z1k (evT hu ?_))
     rw [hv, hwc, w64s (show i < 6 by omega) z1k]
     exact evT h1 e1
    ·refine evS (fun k => by rw [impl_GetNum.j1]) (evT rfl (evT z1k (evT z1k (evT hu ?_))))
     rw [hv, hwc, w64s (show i < 6 by omega) z1k, w64s (show a + i < b.length by omega) z1k]
     exact evF z1k e2
   ·have hgen : ∀ r : Int × Int × Bool, (if (rd b ((a + i : Nat) : Int) = 0 ∧ 0 < i) ∨ N > 1000000000 then ((0 : Int), (0 : Int), false) else (N, ((a + i + 1 : Nat) : Int), true)) = r →
      Ev (fun k => spec_GetNum.l0 k b (a : Int) n (i : Int)) r ∧ Ev (fun k => impl_GetNum.l0 k b ((a + i : Nat) : Int) n (i : Int)) r := by
     intro r hr
     refine ⟨hs1 r ?_, hi1 r ?_⟩
     ·refine evS (fun k => by rw [spec_GetNum.j1]) (evT rfl ?_)
      rw [hw]
      refine evT z1k (evT z1k (evT hu ?_))
      rw [hv, hwc, w64s (show a + i < b.length by omega) z1k]
      refine evF h1 (evI (fun h2 => evI (fun h3 => ?_) (fun h3 => evI (fun h4 => ?_) (fun h4 => ?_))) (fun h2 => evI (fun h4 => ?_) (fun h4 => ?_)))
      ·rw [if_pos (.inl ⟨h3, z1k⟩)] at hr
       exact evR hr
      ·rw [if_pos (.inr h4)] at hr
       exact evR hr
      ·rw [if_neg z1k] at hr
       exact evR hr
      ·rw [if_pos (.inr h4)] at hr
       exact evR hr
      ·rw [if_neg z1k] at hr
       exact evR hr
     ·refine evS (fun k => by rw [impl_GetNum.j1]) (evT rfl (evT z1k (evT z1k (evT hu ?_))))
      rw [hv, hwc, w64s (show a + i < b.length by omega) z1k]
      refine evT z1k (evI (fun h3 => evI (fun h2 => ?_) (fun h2 => evI (fun h4 => ?_) (fun h4 => ?_))) (fun h3 => evI (fun h4 => ?_) (fun h4 => ?_)))
      ·rw [if_pos (.inl ⟨h3, z1k⟩)] at hr
       exact evR hr
      ·rw [if_pos (.inr h4)] at hr
       exact evR hr
      ·rw [if_neg z1k] at hr
       exact evR hr
      ·rw [if_pos (.inr h4)] at hr
       exact evR hr
      ·rw [if_neg z1k] at hr
       exact evR hr
    obtain ⟨e1, e2⟩ := hgen _ rfl
    refine ⟨_, e1, e2, ?_⟩
    split
    ·exact .inl rfl
    ·exact .inr ⟨rfl, by show 0 ≤ N; omega, by show N ≤ _; omega, by show (a : Int) < ((a + i + 1 : Nat) : Int); omega, by show ((a + i + 1 : Nat) : Int) ≤ _; omega, z1k⟩
  ·refine ⟨(0, 0, false), ?_, ?_, .inl rfl⟩
   ·refine evS (fun k => by rw [spec_GetNum.l0]) (evT z1k (evT z1k (evT z1k ?_)))
    rw [hw, decide_eq_false z1k]
    exact evS (fun k => by rw [spec_GetNum.j1]) (evF (by simp) (evR rfl))
   ·refine evS (fun k => by rw [impl_GetNum.l0]) (evT z1k ?_)
    rw [decide_eq_false z1k]
    exact evS (fun k => by rw [impl_GetNum.j1]) (evF (by simp) (evR rfl))
theorem getNum_both (b : List Int) (hb : ∀ x ∈ b, (Lit.int .u8 x).wf = true) (hl : b.length ≤ 140737488355328) (a : Int) :
  ∃ r, Ev (fun k => spec_GetNum.f k b a) r ∧ Ev (fun k => impl_GetNum.f k b a) r ∧ GetOk b.length a r := by
 have hlen : wrap64 ((b.length : Int) - 1) = (b.length : Int) - 1 := w64 z1k
 by_cases h : 0 ≤ a ∧ a < b.length
 ·obtain ⟨p, rfl⟩ := Int.eq_ofNat_of_zero_le h.1
  obtain ⟨r, e1, e2, g⟩ := gn_both b hb hl p 5 0 0 rfl z1k z1l
  refine ⟨r, e1, ?_, g⟩
  unfold impl_GetNum.f impl_inRange.f
  rw [hlen]
  refine evC (a := true) ?_ (evT rfl e2)
  rw [if_pos z1k, decide_eq_true z1k]
 ·refine ⟨(0, 0, false), ?_, ?_, .inl rfl⟩
  ·unfold spec_GetNum.f
   have hj : Ev (fun k => spec_GetNum.j1 k b a 0 0 false) ((0 : Int), (0 : Int), false) := evS (fun k => by rw [spec_GetNum.j1]) (evF (by simp) (evR rfl))
   refine evS (fun k => by rw [spec_GetNum.l0]) (evT z1k (evI (fun h0 => evF z1k hj) (fun _ => hj)))
  ·unfold impl_GetNum.f impl_inRange.f
   rw [hlen]
   refine evC (a := false) ?_ (evF (by simp) (evR rfl))
   by_cases h0 : a ≥ 0
   ·rw [if_pos h0, decide_eq_false z1k]
   ·rw [if_neg h0]
end Go.Proofs.YtgdknepphkhnlaaGreatDoor.Z

/- Strings as lists of bytes. No Go, no memory. -/
set_option linter.unusedVariables false
namespace Go.Proofs.YtgdknepphkhnlaaGreatDoor.Z
open Go.RowKit Go.Proofs.YtgdknepphkhnlaaGreatDoorW.PrintWords Go.Proofs.YtgdknepphkhnlaaGreatDoorW.PrintMore
theorem tl_loop (a : ByteArray) (d : Nat) : ∀ i r, a.size = i + d → ByteArray.toList.loop a i r = r.reverse ++ a.data.toList.drop i := by
 have h2 := data_length a
 induction d with
 | zero =>
  intro i r h
  unfold ByteArray.toList.loop
  rw [if_neg z1k, List.drop_eq_nil_of_le z1k, List.append_nil]
 | succ d ih =>
  intro i r h
  unfold ByteArray.toList.loop
  rw [if_pos z1k, ih (i + 1) _ z1k]
  have hi : i < a.data.size := by
   have : a.data.size = a.size := rfl
   omega
  rw [List.drop_eq_getElem_cons (i := i) (by simpa using hi)]
  simp [ByteArray.get!]
  exact getElem!_pos a.data i hi
theorem tl (a : ByteArray) : a.toList = a.data.toList := by
 unfold ByteArray.toList
 rw [tl_loop a a.size 0 [] z1k]
 simp
theorem tl_inj {a b : ByteArray} : a.toList = b.toList ↔ a = b := by
 constructor
 ·intro h
  rw [tl, tl] at h
  have h1 : a.data = b.data := Array.toList_inj.1 h
  cases a
  cases b
  simp_all
 ·rintro rfl
  rfl
end Go.Proofs.YtgdknepphkhnlaaGreatDoor.Z

/- What the putters compute (putNum, putText, putTexts), the program's and the reference's: the same bytes behind b; for seats without the laws' helpers. No Go, no memory. -/
set_option linter.unusedVariables false
namespace Go.Proofs.YtgdknepphkhnlaaGreatDoor.Z
open Go.RowKit Go.Proofs.YtgdknepphkhnlaaGreatDoorW.PrintWords Go.Proofs.YtgdknepphkhnlaaGreatDoorW.PrintMore Go.Proofs.YtgdknepphkhnlaaGreatDoor.X
def total (l : List ByteArray) : Nat := (l.map fun s => s.size).sum
theorem total_nil : total [] = 0 := rfl
theorem total_cons (s : ByteArray) (l : List ByteArray) : total (s :: l) = s.size + total l := by simp [total]
def encN : Nat → Nat → List Int
 | 0, n => [(n : Int) % 256]
 | d + 1, n => if n > 127 then ((n % 128 + 128 : Nat) : Int) :: encN d (n / 128) else [(n : Int) % 256]
theorem encN_length (d : Nat) : ∀ n, (encN d n).length ≤ d + 1 := by
 induction d with
 | zero => intro n; simp [encN]
 | succ d ih =>
  intro n
  unfold encN
  split
  ·have := ih (n / 128)
   simp
   omega
  ·simp
theorem encN_pos (d n : Nat) : 0 < (encN d n).length := by
 cases d with
 | zero => simp [encN]
 | succ d =>
  unfold encN
  split <;> simp
def near (n : Int) : Nat := (mx 0 (mn n 1000000000)).toNat
theorem near_eq (n : Int) : mx 0 (mn n 1000000000) = (near n : Int) := by
 unfold near mx mn
 split <;> split <;> omega
theorem near_le (n : Int) : near n ≤ 1000000000 := by
 unfold near mx mn
 split <;> split <;> omega
theorem near_of {n : Nat} (h : n ≤ 1000000000) : near (n : Int) = n := by
 unfold near mx mn
 split <;> split <;> omega
theorem orbyte {n : Nat} (hn : n ≤ 1000000000) : Go.bits .or .i64 (Go.bits .and .i64 (n : Int) 127) 128 % 256 = ((n % 128 + 128 : Nat) : Int) ∧ Go.bits .or .i64 128 (Go.bits .and .i64 (n : Int) 127) % 256 = ((n % 128 + 128 : Nat) : Int) := by
 have h1 : Go.bits .and .i64 (n : Int) 127 = (n : Int) % 128 := bits_mask .i64 63 z1l wraps_i64 7 z1l n z1k z1k
 rw [h1]
 have h2 : Go.bits .or .i64 128 ((n : Int) % 128) = 128 + (n : Int) % 128 :=
  bits_join .i64 63 z1l wraps_i64 7 _ _ z1k z1l z1l z1k z1k z1k
 rw [or_comm64, h2]
 omega
theorem specPut_l0 (d : Nat) : ∀ (n : Nat) (b : List Int), n < 128 ^ (d + 1) → n ≤ 1000000000 → b.length + d < 140737488355328 → Ev (fun k => spec_PutNum.l0 k (n : Int) b) (b ++ encN d n) := by
 induction d with
 | zero =>
  intro n b h0 h1 h2
  refine evS (fun k => by rw [spec_PutNum.l0]) ?_
  exact evF (by simp at h0; omega) (evT z1k (evR rfl))
 | succ d ih =>
  intro n b h0 h1 h2
  refine evS (fun k => by rw [spec_PutNum.l0]) ?_
  refine evI (fun h => ?_) (fun h => ?_)
  ·refine evT z1k ?_
   rw [(orbyte h1).1, show (n : Int) / 128 = ((n / 128 : Nat) : Int) by omega]
   refine evE ?_ (ih (n / 128) _ (by rw [Nat.div_lt_iff_lt_mul z1l]; rw [Nat.pow_succ] at h0; exact h0) z1k (by simp; omega))
   rw [encN, if_pos z1k]
   simp
  ·refine evT z1k (evR ?_)
   rw [encN, if_neg z1k]
theorem specPut_ev (b : List Int) (n : Int) (hb : b.length < 140737488355000) : Ev (fun k => spec_PutNum.f k b n) (b ++ encN 4 (near n)) := by
 unfold spec_PutNum.f
 have hm := near_le n
 have hfin : ∀ m : Int, m = (near n : Int) → Ev (fun k => spec_PutNum.j1 k m b) (b ++ encN 4 (near n)) := by
  intro m h
  rw [h]
  exact evS (fun k => by rw [spec_PutNum.j1]) (specPut_l0 4 (near n) b z1k hm z1k)
 have hj : ∀ m : Int, mx 0 m = (near n : Int) → Ev (fun k => spec_PutNum.j0 k m b) (b ++ encN 4 (near n)) := by
  intro m h
  refine evS (fun k => by rw [spec_PutNum.j0]) (evI (fun h0 => hfin _ ?_) (fun h0 => hfin _ ?_))
  ·rw [← h]
   unfold mx
   split <;> omega
  ·rw [← h]
   unfold mx
   split <;> omega
 refine evC rfl ?_
 refine evT (by simp; omega) ?_
 refine evC rfl ?_
 simp only [List.nil_append]
 refine evI (fun h0 => hj _ ?_) (fun h0 => hj _ ?_)
 ·rw [← near_eq]
  unfold mn
  rw [if_pos h0]
 ·rw [← near_eq]
  unfold mn
  rw [if_neg h0]
theorem implPut_l0 (d : Nat) : ∀ (n : Nat) (b : List Int), n < 128 ^ (d + 1) → n ≤ 1000000000 → b.length + d < 140737488355328 → Ev (fun k => impl_putNum.l0 k b (n : Int)) (b ++ encN d n) := by
 induction d with
 | zero =>
  intro n b h0 h1 h2
  refine evS (fun k => by rw [impl_putNum.l0]) ?_
  exact evF (by simp at h0; omega) (evT z1k (evR rfl))
 | succ d ih =>
  intro n b h0 h1 h2
  refine evS (fun k => by rw [impl_putNum.l0]) ?_
  refine evI (fun h => ?_) (fun h => ?_)
  ·refine evT z1k ?_
   rw [(orbyte h1).2, show (n : Int) / 128 = ((n / 128 : Nat) : Int) by omega]
   refine evE ?_ (ih (n / 128) _ (by rw [Nat.div_lt_iff_lt_mul z1l]; rw [Nat.pow_succ] at h0; exact h0) z1k (by simp; omega))
   rw [encN, if_pos z1k]
   simp
  ·refine evT z1k (evR ?_)
   rw [encN, if_neg z1k]
theorem implputNum_ev (b : List Int) (n : Int) (hb : b.length < 140737488355000) : Ev (fun k => impl_putNum.f k b n) (b ++ encN 4 (near n)) := by
 unfold impl_putNum.f
 rw [near_eq]
 exact implPut_l0 4 (near n) b (by have := near_le n; omega) (near_le n) z1k
def encT (s : ByteArray) : List Int := encN 4 (near (s.size : Int)) ++ bytesOf s
theorem encT_length (s : ByteArray) : (encT s).length ≤ s.size + 5 := by
 unfold encT
 rw [List.length_append, bytesOf_length]
 have := encN_length 4 (near (s.size : Int))
 omega
theorem specText_ev (b : List Int) (s : ByteArray) (hb : b.length + s.size < 140737488350000) : Ev (fun k => spec_PutText.f k b s) (b ++ encT s) := by
 unfold spec_PutText.f
 refine evB (specPut_ev b _ z1k) ?_
 have := encN_length 4 (near (s.size : Int))
 refine evT z8g (evR ?_)
 rw [encT, List.append_assoc]
theorem implputText_ev (b : List Int) (s : ByteArray) (hb : b.length + s.size < 140737488350000) : Ev (fun k => impl_putText.f k b s) (b ++ encT s) := by
 unfold impl_putText.f
 refine evB (implputNum_ev b _ z1k) ?_
 have := encN_length 4 (near (s.size : Int))
 refine evT z8g (evR ?_)
 rw [encT, List.append_assoc]
def encL (l : List ByteArray) : List Int := (l.map encT).flatten
theorem encL_cons (s : ByteArray) (l : List ByteArray) : encL (s :: l) = encT s ++ encL l := by simp [encL]
theorem encL_length (l : List ByteArray) : (encL l).length ≤ total l + 5 * l.length := by
 induction l with
 | nil => simp [encL, total_nil]
 | cons s l ih =>
  rw [encL_cons, total_cons, List.length_append, List.length_cons]
  have := encT_length s
  omega
theorem drop_rd (l : List ByteArray) (i : Nat) (h : i < l.length) : l.drop i = rdOf ByteArray.empty l (i : Int) :: l.drop (i + 1) := by
 rw [List.drop_eq_getElem_cons h]
 have := rdOf_get (d := ByteArray.empty) h
 rw [List.getElem?_eq_getElem h] at this
 rw [Option.some.inj this]
theorem specTexts_l0 (l : List ByteArray) (hn : l.length ≤ 4611686018427387904) (d : Nat) : ∀ (i : Nat) (b : List Int), i + d = l.length → b.length + total (l.drop i) + 5 * d < 140737488350000 → Ev (fun k => spec_PutTexts.l0 k l b (i : Int)) (b ++ encL (l.drop i)) := by
 induction d with
 | zero =>
  intro i b hi hb
  refine evS (fun k => by rw [spec_PutTexts.l0]) (evF z1k (evR ?_))
  rw [List.drop_eq_nil_of_le z1k]
  simp [encL]
 | succ d ih =>
  intro i b hi hb
  have hd := drop_rd l i z1k
  rw [hd, total_cons] at hb
  refine evS (fun k => by rw [spec_PutTexts.l0]) (evT z1k (evT z1k ?_))
  refine evB (specText_ev b _ z1k) ?_
  rw [w64s (show i < l.length by omega) z1k]
  have he := encT_length (rdOf ByteArray.empty l (i : Int))
  refine evE ?_ (ih (i + 1) _ z1k z8g)
  rw [hd, encL_cons, List.append_assoc]
theorem specTexts_ev (b : List Int) (l : List ByteArray) (hb : b.length + total l + 5 * l.length < 140737488340000) : Ev (fun k => spec_PutTexts.f k b l) (b ++ (encN 4 (near (l.length : Int)) ++ encL l)) := by
 unfold spec_PutTexts.f
 have := encN_length 4 (near (l.length : Int))
 refine evB (specPut_ev b _ z1k) ?_
 refine evE ?_ (specTexts_l0 l z1k l.length 0 _ z1k (by rw [List.length_append, List.drop_zero]; omega))
 rw [List.drop_zero, List.append_assoc]
theorem implTexts_l0 (l : List ByteArray) (hn : l.length ≤ 4611686018427387904) (d : Nat) : ∀ (i : Nat) (b : List Int), i + d = l.length → b.length + total (l.drop i) + 5 * d < 140737488350000 → Ev (fun k => impl_putTexts.l0 k b l (l.length : Int) (i : Int)) (b ++ encL (l.drop i)) := by
 induction d with
 | zero =>
  intro i b hi hb
  refine evS (fun k => by rw [impl_putTexts.l0]) (evF z1k (evR ?_))
  rw [List.drop_eq_nil_of_le z1k]
  simp [encL]
 | succ d ih =>
  intro i b hi hb
  have hd := drop_rd l i z1k
  rw [hd, total_cons] at hb
  refine evS (fun k => by rw [impl_putTexts.l0]) (evT z1k (evT z1k (evT z1k ?_)))
  refine evB (implputText_ev b _ z1k) ?_
  rw [w64s (show i < l.length by omega) z1k]
  have he := encT_length (rdOf ByteArray.empty l (i : Int))
  refine evE ?_ (ih (i + 1) _ z1k z8g)
  rw [hd, encL_cons, List.append_assoc]
theorem implputTexts_ev (b : List Int) (l : List ByteArray) (hb : b.length + total l + 5 * l.length < 140737488340000) : Ev (fun k => impl_putTexts.f k b l) (b ++ (encN 4 (near (l.length : Int)) ++ encL l)) := by
 unfold impl_putTexts.f
 have := encN_length 4 (near (l.length : Int))
 refine evB (implputNum_ev b _ z1k) ?_
 refine evE ?_ (implTexts_l0 l z1k l.length 0 _ z1k (by rw [List.length_append, List.drop_zero]; omega))
 rw [List.drop_zero, List.append_assoc]
end Go.Proofs.YtgdknepphkhnlaaGreatDoor.Z

/- Ranges, the program's and the reference's: the same. Plain lemmas. -/
set_option linter.unusedVariables false
namespace Go.Proofs.YtgdknepphkhnlaaGreatDoor.Z
open Go.RowKit Go.Proofs.YtgdknepphkhnlaaGreatDoorW.PrintWords Go.Proofs.YtgdknepphkhnlaaGreatDoorW.PrintMore Go.Proofs.YtgdknepphkhnlaaGreatDoor.X
theorem rng_impl (a b c : Int) : impl_inRange.f a b c = some (decide (b ≤ a ∧ a ≤ c)) := by
 unfold impl_inRange.f
 by_cases h : a ≥ b
 ·rw [if_pos h]
  simp [show b ≤ a from h]
 ·rw [if_neg h]
  simp [show ¬ b ≤ a from h]
theorem rng_spec (a b c : Int) : spec_l1In.f a b c = some (decide (b ≤ a ∧ a ≤ c)) := by
 unfold spec_l1In.f
 by_cases h : a ≥ b
 ·rw [if_pos h]
  simp [show b ≤ a from h]
 ·rw [if_neg h]
  simp [show ¬ b ≤ a from h]
end Go.Proofs.YtgdknepphkhnlaaGreatDoor.Z

/- A text's pieces, the reference's: those between the bytes. Plain lemmas. -/
set_option linter.unusedVariables false
namespace Go.Proofs.YtgdknepphkhnlaaGreatDoor.Z
open Go.RowKit Go.Proofs.YtgdknepphkhnlaaGreatDoorW.PrintWords Go.Proofs.YtgdknepphkhnlaaGreatDoorW.PrintMore Go.Proofs.YtgdknepphkhnlaaGreatDoor.X Go.Proofs.YtgdknepphkhnlaaGreatDoor.Sp
theorem byte_at (s : ByteArray) (i : Nat) (h : i < s.size) : bt s (i : Int) = ((s.data.toList[i]'(by rw [data_length]; exact h)).toNat : Int) := by
 have := rd_bytesOf s (i : Int)
 rw [← this]
 unfold rd bytesOf
 simp [List.getD_eq_getElem?_getD, h]
theorem ext_list (s : ByteArray) (f i : Nat) : s.extract f i = ⟨((s.data.toList.drop f).take (i - f)).toArray⟩ := by
 have h : (s.extract f i).data.toList = (s.data.toList.drop f).take (i - f) := by
  simp [ByteArray.data_extract, List.extract_eq_take_drop]
 cases hx : s.extract f i with
 | mk d =>
  rw [hx] at h
  congr 1
  rw [← h]
def pcsF (pre : List UInt8) (c : UInt8) (l : List UInt8) : List (List UInt8) :=
 match pcs c l with
 | [] => [pre]
 | h :: t => (pre ++ h) :: t
theorem pcs_ne (c : UInt8) (l : List UInt8) : pcs c l ≠ [] := fun h => by
 have := pcs_length c l
 rw [h] at this
 simp at this
theorem pcsF_nil (c : UInt8) (l : List UInt8) : pcsF [] c l = pcs c l := by
 unfold pcsF
 cases h : pcs c l with
 | nil => exact absurd h (pcs_ne c l)
 | cons a t => rfl
theorem pcsF_eq (pre : List UInt8) (c : UInt8) (l : List UInt8) : pcsF pre c (c :: l) = pre :: pcsF [] c l := by
 rw [pcsF_nil]
 unfold pcsF
 rw [pcs, if_pos rfl]
 simp
theorem pcsF_ne (pre : List UInt8) (b c : UInt8) (l : List UInt8) (h : b ≠ c) : pcsF pre c (b :: l) = pcsF (pre ++ [b]) c l := by
 unfold pcsF
 rw [pcs, if_neg h]
 cases hp : pcs c l with
 | nil => exact absurd hp (pcs_ne c l)
 | cons a t => simp [onto]
theorem pcsF_end (pre : List UInt8) (c : UInt8) : pcsF pre c [] = [pre] := by simp [pcsF, pcs]
def toB (l : List UInt8) : ByteArray := ⟨l.toArray⟩
theorem split_l0 (s : ByteArray) (hs : s.size ≤ 1048576) (c : UInt8) (d : Nat) : ∀ (i f : Nat) (out : List ByteArray), i + d = s.size → f ≤ i → out.length + d ≤ 1048577 →
  Ev (fun k => spec_l3Split.l0 k s (c.toNat : Int) out (f : Int) (i : Int)) (out ++ (pcsF ((s.data.toList.drop f).take (i - f)) c (s.data.toList.drop i)).map toB) := by
 induction d with
 | zero =>
  intro i f out hi hf ho
  rw [List.drop_eq_nil_of_le (show s.data.toList.length ≤ i by rw [data_length]; omega), pcsF_end]
  refine evS (fun k => by rw [spec_l3Split.l0]) ?_
  rw [w64s (show i < 1048577 by omega) z1k, show ((f : Nat) : Int).toNat = f by omega, show ((i : Nat) : Int).toNat = i by omega, ext_list]
  refine evT z1k (evT z1k (evT z1k (evT z1k (evT z1k ?_))))
  refine evS (fun k => by rw [spec_l3Split.l0]) ?_
  exact evF z1k (evR rfl)
 | succ d ih =>
  intro i f out hi hf ho
  have hl : i < s.data.toList.length := by rw [data_length]; omega
  have hb := byte_at s i z1k
  rw [List.drop_eq_getElem_cons hl]
  refine evS (fun k => by rw [spec_l3Split.l0]) ?_
  rw [w64s (show i < 1048577 by omega) z1k, show ((f : Nat) : Int).toNat = f by omega, show ((i : Nat) : Int).toNat = i by omega, hb, ext_list]
  refine evT z1k (evF z1k (evT z1k (evT z1k ?_)))
  by_cases hc : s.data.toList[i] = c
  ·refine evT (by rw [hc]) (evT z1k (evT z1k (evT z1k ?_)))
   refine evE ?_ (ih (i + 1) (i + 1) _ z1k (Nat.le_refl _) (by simp; omega))
   rw [hc, pcsF_eq, Nat.sub_self, List.take_zero]
   simp [toB]
  ·refine evF (fun e => hc (UInt8.toNat_inj.1 z1k)) ?_
   refine evE ?_ (ih (i + 1) f out z1k z1k z1k)
   rw [pcsF_ne _ _ _ _ hc]
   congr 3
   have hl2 : i - f < (s.data.toList.drop f).length := by rw [List.length_drop]; omega
   rw [show i + 1 - f = (i - f) + 1 by omega, List.take_succ_eq_append_getElem hl2]
   congr 2
   rw [List.getElem_drop]
   congr 1
   omega
theorem split_spec (s : ByteArray) (hs : s.size ≤ 1048576) (c : UInt8) : Ev (fun k => spec_l3Split.f k s (c.toNat : Int)) (pieces c s) := by
 have h := split_l0 s hs c s.size 0 0 [] z1k (Nat.le_refl _) (by simp; omega)
 rw [Nat.sub_self, List.take_zero, List.drop_zero, pcsF_nil, List.nil_append] at h
 exact h
theorem pcs_mem (c : UInt8) : ∀ (l : List UInt8) (x : List UInt8), x ∈ pcs c l → x.length ≤ l.length
 | [], x, h => by simp [pcs] at h; simp [h]
 | b :: l, x, h => by
  have ih := pcs_mem c l
  rw [pcs] at h
  split at h
  ·rcases List.mem_cons.1 h with rfl | h
   ·simp
   ·have := ih x h; simp; omega
  ·cases hp : pcs c l with
   | nil => exact absurd hp (pcs_ne c l)
   | cons a t =>
    rw [hp] at h
    rcases List.mem_cons.1 h with rfl | h
    ·have := ih a (by rw [hp]; exact List.mem_cons_self); simp; omega
    ·have := ih x (by rw [hp]; exact List.mem_cons_of_mem _ h); simp; omega
theorem pieces_mem (c : UInt8) (s : ByteArray) : ∀ x ∈ pieces c s, x.size ≤ s.size := by
 intro x hx
 obtain ⟨l, hl, rfl⟩ := List.mem_map.1 hx
 have := pcs_mem c _ l hl
 rw [data_length] at this
 show l.toArray.size ≤ _
 simpa using this
theorem pieces_count (c : UInt8) (s : ByteArray) : (pieces c s).length ≤ s.size + 1 := by
 rw [pieces, List.length_map, pcs_length]
 have := List.count_le_length (a := c) (l := s.data.toList)
 rw [data_length] at this
 omega
theorem rdOf_mem {l : List ByteArray} {i : Nat} (h : i < l.length) : rdOf ByteArray.empty l (i : Int) ∈ l := List.mem_of_getElem? (rdOf_get (d := ByteArray.empty) h)
end Go.Proofs.YtgdknepphkhnlaaGreatDoor.Z

/- Numbers in versions, the program's and the reference's. Plain lemmas. -/
set_option linter.unusedVariables false
namespace Go.Proofs.YtgdknepphkhnlaaGreatDoor.Z
open Go.RowKit Go.Proofs.YtgdknepphkhnlaaGreatDoorW.PrintWords Go.Proofs.YtgdknepphkhnlaaGreatDoorW.PrintMore Go.Proofs.YtgdknepphkhnlaaGreatDoor.X Go.Proofs.YtgdknepphkhnlaaGreatDoor.Sp
def isD (u : UInt8) : Bool := decide (48 ≤ u.toNat ∧ u.toNat ≤ 57)
def figs (s : ByteArray) : Bool := s.data.toList.all isD && decide (s.size ≠ 0)
theorem figure_ev (b : Int) : impl_isFigure.f b = some (decide (48 ≤ b ∧ b ≤ 57)) := by
 unfold impl_isFigure.f
 by_cases h : b ≥ 48
 ·rw [if_pos h]
  simp [show 48 ≤ b from h]
 ·rw [if_neg h]
  simp [show ¬ 48 ≤ b from h]
theorem ne_nil (s : ByteArray) : (s.toList != ([] : List UInt8)) = decide (s.size ≠ 0) := by
 rw [tl]
 have := data_length s
 by_cases h : s.size = 0
 ·rw [List.eq_nil_of_length_eq_zero (show s.data.toList.length = 0 by omega)]
  simp [h]
 ·have h1 : s.data.toList ≠ [] := fun e => by rw [e] at this; simp at this; omega
  simp [h1, h]
theorem figs_l0 (s : ByteArray) (hs : s.size ≤ 1048576) (d : Nat) : ∀ i : Nat, i + d = s.size → Ev (fun k => impl_isFigures.l0 k s (i : Int)) ((s.data.toList.drop i).all isD && decide (s.size ≠ 0)) ∧ Ev (fun k => spec_l3Digits.l0 k s (i : Int)) ((s.data.toList.drop i).all isD && decide (s.size ≠ 0)) := by
 induction d with
 | zero =>
  intro i hi
  rw [List.drop_eq_nil_of_le (show s.data.toList.length ≤ i by rw [data_length]; omega)]
  constructor
  ·refine evS (fun k => by rw [impl_isFigures.l0]) ?_
   exact evF z1k (evR (by rw [ne_nil]; rfl))
  ·refine evS (fun k => by rw [spec_l3Digits.l0]) ?_
   exact evF z1k (evR (by rw [ne_nil]; rfl))
 | succ d ih =>
  intro i hi
  have hl : i < s.data.toList.length := by rw [data_length]; omega
  have hb := byte_at s i z1k
  have hlt : (s.data.toList[i]).toNat < 256 := UInt8.toNat_lt _
  have hw : wrap64 (((s.data.toList[i]).toNat : Nat) : Int) = (((s.data.toList[i]).toNat : Nat) : Int) := w64 z1k
  obtain ⟨h1, h2⟩ := ih (i + 1) z1k
  have he : (s.data.toList.drop i).all isD = (isD s.data.toList[i] && (s.data.toList.drop (i + 1)).all isD) := by
   rw [List.drop_eq_getElem_cons hl]
   rfl
  have hd : decide (48 ≤ (((s.data.toList[i]).toNat : Nat) : Int) ∧ (((s.data.toList[i]).toNat : Nat) : Int) ≤ 57) = isD s.data.toList[i] := by
   unfold isD
   exact decide_eq_decide.2 z1k
  rw [he]
  constructor
  ·refine evS (fun k => by rw [impl_isFigures.l0]) ?_
   rw [hb, w64s (show i < s.size by omega) z1k]
   refine evT z1k (evT z1k (evC (figure_ev _) ?_))
   rw [hd]
   cases hx : isD s.data.toList[i] with
   | true => exact evT rfl (by simpa using h1)
   | false => exact evF Bool.false_ne_true (evR rfl)
  ·refine evS (fun k => by rw [spec_l3Digits.l0]) ?_
   rw [hb, hw, w64s (show i < s.size by omega) z1k]
   refine evT z1k (evT z1k (evC (rng_spec _ _ _) ?_))
   rw [hd]
   cases hx : isD s.data.toList[i] with
   | true => exact evT rfl (by simpa using h2)
   | false => exact evF Bool.false_ne_true (evR rfl)
theorem figs_impl (s : ByteArray) (hs : s.size ≤ 1048576) : Ev (fun k => impl_isFigures.f k s) (figs s) := (figs_l0 s hs s.size 0 z1k).1
theorem figs_spec (s : ByteArray) (hs : s.size ≤ 1048576) : Ev (fun k => spec_l3Digits.f k s) (figs s) := (figs_l0 s hs s.size 0 z1k).2
def num (s : ByteArray) : Bool := figs s && (decide (s.data.toList = [48]) || decide (bt s 0 ≠ 48))
theorem figs_size {s : ByteArray} (h : figs s = true) : 0 < s.size := by
 simp only [figs, Bool.and_eq_true, decide_eq_true_eq] at h
 have := h.2
 omega
theorem num_impl (s : ByteArray) (hs : s.size ≤ 1048576) : Ev (fun k => impl_isNumber.f k s) (num s) := by
 unfold impl_isNumber.f num
 refine evB (figs_impl s hs) ?_
 cases hf : figs s with
 | false => exact evF Bool.false_ne_true (evR rfl)
 | true =>
  have := figs_size hf
  refine evT rfl ?_
  by_cases h : s.data.toList = [48]
  ·exact evT (by rw [tl]; exact h) (evR (by simp [h]))
  ·refine evF (by rw [tl]; exact h) (evT z1k (evR ?_))
   simp [h, bne, decide_not]
   by_cases hb : bt s 0 = 48
   ·simp [hb]
   ·simp [hb]
def digit (b : UInt8) : Nat := b.toNat - 48
def valA (a : Nat) (l : List UInt8) : Nat := l.foldl (fun n b => n * 10 + digit b) a
theorem valA_nil (a : Nat) : valA a [] = a := rfl
theorem valA_cons (a : Nat) (b : UInt8) (l : List UInt8) : valA a (b :: l) = valA (a * 10 + digit b) l := by unfold valA; rw [List.foldl_cons]
def val (l : List UInt8) : Nat := valA 0 l
theorem valA_eq (l : List UInt8) : ∀ a : Nat, valA a l = a * 10 ^ l.length + valA 0 l := by
 induction l with
 | nil => intro a; simp [valA_nil]
 | cons b l ih =>
  intro a
  rw [valA_cons, ih, valA_cons, ih (0 * 10 + digit b), List.length_cons, Nat.pow_succ, Nat.add_mul, Nat.zero_mul, Nat.zero_add, Nat.mul_assoc, Nat.mul_comm 10, Nat.add_assoc]
theorem val_cons (b : UInt8) (l : List UInt8) : val (b :: l) = digit b * 10 ^ l.length + val l := by
 unfold val
 rw [valA_cons, valA_eq, Nat.zero_mul, Nat.zero_add]
theorem isD_iff (u : UInt8) : isD u = true ↔ 48 ≤ u.toNat ∧ u.toNat ≤ 57 := by unfold isD; exact decide_eq_true_iff
theorem val_l0 (s : ByteArray) (hs : s.size ≤ 8) (ha : s.data.toList.all isD = true) (d : Nat) : ∀ (i : Nat) (a : Nat), i + d = s.size → a < 10 ^ i → Ev (fun k => spec_l3Number.l0 k s (a : Int) (i : Int)) ((valA a (s.data.toList.drop i) : Nat) : Int) := by
 induction d with
 | zero =>
  intro i a hi hlt
  rw [List.drop_eq_nil_of_le (show s.data.toList.length ≤ i by rw [data_length]; omega)]
  refine evS (fun k => by rw [spec_l3Number.l0]) ?_
  exact evF z1k (evR rfl)
 | succ d ih =>
  intro i a hi hlt
  have hl : i < s.data.toList.length := by rw [data_length]; omega
  have hb := byte_at s i z1k
  have hD := (isD_iff _).1 (List.all_eq_true.1 ha _ (List.getElem_mem hl))
  have hp : 10 ^ i ≤ 10 ^ 7 := Nat.pow_le_pow_right z1l z1k
  rw [List.drop_eq_getElem_cons hl, valA_cons]
  unfold digit
  generalize (s.data.toList[i]).toNat = n at *
  have e1 : wrap64 (wrap64 ((a : Int) * 10) + ((n : Int) - 48) % 256) = ((a * 10 + (n - 48) : Nat) : Int) := by
   rw [w64 (x := (a : Int) * 10) z1k, w64 z1k]
   omega
  refine evS (fun k => by rw [spec_l3Number.l0]) ?_
  rw [hb, e1, w64s (show i < s.size by omega) z1k]
  refine evT z1k (evT z1k (ih (i + 1) _ z1k ?_))
  rw [Nat.pow_succ]
  omega
def short (s : ByteArray) : Bool := num s && decide (s.size ≤ 8)
def numS (s : ByteArray) : Int := if short s = true then ((val s.data.toList : Nat) : Int) else -1
theorem head_one (s : ByteArray) (h : s.size = 1) : s.data.toList = [48] ↔ bt s 0 = 48 := by
 have hl : s.data.toList.length = 1 := by rw [data_length]; exact h
 have hb : bt s 0 = _ := byte_at s 0 z1k
 obtain ⟨x, hx⟩ := List.length_eq_one_iff.1 hl
 rw [hb]
 simp only [hx, List.getElem_cons_zero, List.cons.injEq, and_true]
 constructor
 ·rintro rfl; rfl
 ·intro e
  exact UInt8.toNat_inj.1 (by show x.toNat = 48; omega)
theorem numS_spec (s : ByteArray) (hs : s.size ≤ 1048576) : Ev (fun k => spec_l3Number.f k s) (numS s) := by
 unfold spec_l3Number.f
 refine evB (figs_spec s hs) ?_
 cases hf : figs s with
 | false =>
  have e : numS s = -1 := by unfold numS short num; rw [hf]; rfl
  rw [e]
  refine evF Bool.false_ne_true ?_
  refine evS (fun k => by rw [spec_l3Number.j0]) ?_
  exact evT rfl (evR rfl)
 | true =>
  have hz := figs_size hf
  have ha : s.data.toList.all isD = true := by unfold figs at hf; simp at hf; simpa using hf.1
  refine evT rfl ?_
  by_cases h8 : (s.size : Int) > 8
  ·have e : numS s = -1 := by
    unfold numS short
    rw [decide_eq_false z1k, Bool.and_false, if_neg Bool.false_ne_true]
   rw [e]
   refine evT h8 ?_
   refine evS (fun k => by rw [spec_l3Number.j0]) ?_
   exact evT rfl (evR rfl)
  ·refine evF h8 ?_
   have hv := val_l0 s z1k ha s.size 0 0 z1k z1l
   have hv' : Ev (fun k => spec_l3Number.l0 k s 0 0) ((val s.data.toList : Nat) : Int) := hv
   by_cases h1 : (s.size : Int) > 1
   ·refine evT h1 (evT z1k ?_)
    have hne : ¬ s.data.toList = [48] := fun e => by
     have := data_length s
     rw [e] at this
     simp at this
     omega
    by_cases hb : bt s 0 = 48
    ·have e : numS s = -1 := by
      unfold numS short num
      rw [decide_eq_false hne, decide_eq_false (fun h => h hb)]
      simp
     rw [e, hb]
     refine evS (fun k => by rw [spec_l3Number.j0]) ?_
     exact evT rfl (evR rfl)
    ·have e : numS s = ((val s.data.toList : Nat) : Int) := by
      unfold numS short num
      rw [hf, decide_eq_true hb, decide_eq_true (show s.size ≤ 8 by omega)]
      simp
     rw [e, beq_eq_false_iff_ne.2 hb]
     refine evS (fun k => by rw [spec_l3Number.j0]) ?_
     exact evF Bool.false_ne_true hv'
   ·refine evF h1 ?_
    have h11 : s.size = 1 := by omega
    have e : numS s = ((val s.data.toList : Nat) : Int) := by
     unfold numS short num
     rw [hf, decide_eq_true (show s.size ≤ 8 by omega)]
     have := head_one s h11
     by_cases hb : bt s 0 = 48
     ·rw [decide_eq_true (this.2 hb)]; simp
     ·rw [decide_eq_true hb]; simp
    rw [e]
    refine evS (fun k => by rw [spec_l3Number.j0]) ?_
    exact evF Bool.false_ne_true hv'
end Go.Proofs.YtgdknepphkhnlaaGreatDoor.Z

/- Short numbers: their values. Plain lemmas. -/
set_option linter.unusedVariables false
namespace Go.Proofs.YtgdknepphkhnlaaGreatDoor.Z
open Go.RowKit Go.Proofs.YtgdknepphkhnlaaGreatDoorW.PrintWords Go.Proofs.YtgdknepphkhnlaaGreatDoorW.PrintMore Go.Proofs.YtgdknepphkhnlaaGreatDoor.X Go.Proofs.YtgdknepphkhnlaaGreatDoor.Sp
theorem short_all {s : ByteArray} (h : short s = true) : s.data.toList.all isD = true ∧ 0 < s.size ∧ s.size ≤ 8 ∧ (s.data.toList = [48] ∨ bt s 0 ≠ 48) := by
 simp only [short, num, figs, Bool.and_eq_true, Bool.or_eq_true, decide_eq_true_eq] at h
 exact ⟨h.1.1.1, by have := h.1.1.2; omega, h.2, h.1.2⟩
theorem short_lead {s : ByteArray} (h : short s = true) (h1 : 1 < s.size) : 10 ^ (s.size - 1) ≤ val s.data.toList := by
 obtain ⟨ha, hz, h8, hb⟩ := short_all h
 have hl := data_length s
 have hne : ¬ s.data.toList = [48] := fun e => by rw [e] at hl; simp at hl; omega
 have hb0 := hb.resolve_left hne
 have hat : bt s 0 = _ := byte_at s 0 z1k
 cases hs : s.data.toList with
 | nil => rw [hs] at hl; simp at hl; omega
 | cons b l =>
  rw [hat] at hb0
  simp only [hs, List.getElem_cons_zero] at hb0
  rw [hs] at ha hl
  simp only [List.all_cons, Bool.and_eq_true] at ha
  have hd := (isD_iff b).1 ha.1
  rw [val_cons, show s.size - 1 = l.length by simp at hl; omega]
  have : 1 * 10 ^ l.length ≤ digit b * 10 ^ l.length := Nat.mul_le_mul_right _ (by unfold digit; omega)
  omega
theorem numS_pos (s : ByteArray) : 0 ≤ numS s ↔ short s = true := by
 unfold numS
 split
 ·rename_i h; simp [h]
 ·rename_i h; simp [h]
theorem numS_val {s : ByteArray} (h : short s = true) : numS s = ((val s.data.toList : Nat) : Int) := by unfold numS; rw [if_pos h]
end Go.Proofs.YtgdknepphkhnlaaGreatDoor.Z

/- Decimal texts and their numbers. Plain lemmas. -/
set_option linter.unusedVariables false
namespace Go.Proofs.YtgdknepphkhnlaaGreatDoor.Z
open Go.RowKit Go.Proofs.YtgdknepphkhnlaaGreatDoorW.PrintWords Go.Proofs.YtgdknepphkhnlaaGreatDoorW.PrintMore Go.Proofs.YtgdknepphkhnlaaGreatDoor.X Go.Proofs.YtgdknepphkhnlaaGreatDoor.Sp
theorem val_snoc (l : List UInt8) (b : UInt8) : val (l ++ [b]) = val l * 10 + digit b := by
 unfold val valA
 rw [List.foldl_append]
 rfl
def lead (l : List UInt8) : Prop := l.head? ≠ some 48
theorem decFrom_ev (l : List UInt8) (hd : l.all isD = true) : ∀ a : Nat, Lib.decFrom a l = some (valA a l) := by
 induction l with
 | nil => intro a; rfl
 | cons b l ih =>
  intro a
  simp only [List.all_cons, Bool.and_eq_true] at hd
  have hb := (isD_iff b).1 hd.1
  rw [valA_cons]
  unfold Lib.decFrom Lib.digitVal
  rw [if_pos hb]
  exact ih hd.2 _
theorem atoi_val {s : ByteArray} (h : num s = true) : Lib.atoi s.data.toList = some ((val s.data.toList : Nat) : Int) := by
 simp only [num, figs, Bool.and_eq_true, Bool.or_eq_true, decide_eq_true_eq] at h
 obtain ⟨⟨ha, hz⟩, hb⟩ := h
 have hl := data_length s
 cases hs : s.data.toList with
 | nil => rw [hs] at hl; simp at hl; omega
 | cons b l =>
  rw [hs] at ha
  have ha' := ha
  simp only [List.all_cons, Bool.and_eq_true] at ha
  have hb := (isD_iff b).1 ha.1
  have h1 : (b == 45) = false := beq_eq_false_iff_ne.2 (fun e => by subst e; revert hb; decide)
  have h2 : (b == 43) = false := beq_eq_false_iff_ne.2 (fun e => by subst e; revert hb; decide)
  simp only [Lib.atoi, h1, h2, Bool.false_eq_true, if_false]
  unfold Lib.decNat
  rw [decFrom_ev _ ha']
  rfl
theorem text_ev (n : Nat) : n ≤ 100000000 → Ev (fun k => spec_l3Text.f k (n : Int)) ⟨(Lib.decDigits n).toArray⟩ := by
 induction n using Nat.strongRecOn with
 | ind n ih =>
  intro hn
  rw [Lib.decDigits]
  by_cases h : n < 10
  ·rw [dif_pos h]
   refine evS (fun k => by rw [spec_l3Text.f]) (evT z1k (evR ?_))
   rw [w64 z1k, show (48 + (n : Int)) % 256 = ((48 + n : Nat) : Int) by omega]
   rfl
  ·rw [dif_neg h]
   have e1 : wrap64 (Int.tdiv (n : Int) 10) = ((n / 10 : Nat) : Int) := by
    rw [Int.tdiv_eq_ediv_of_nonneg z1k, w64 z1k]
    omega
   have e2 : wrap64 (48 + Int.tmod (n : Int) 10) % 256 = ((48 + n % 10 : Nat) : Int) := by
    rw [Int.tmod_eq_emod_of_nonneg z1k, w64 z1k]
    omega
   have hsz : (Lib.decDigits (n / 10)).length ≤ n := by
    rw [Lib.decDigits_length]
    have : ∀ m : Nat, Lib.nDigits m ≤ m + 1 := by
     intro m
     induction m using Nat.strongRecOn with
     | ind m ihm =>
      rw [Lib.nDigits]
      split
      ·omega
      ·have := ihm (m / 10) z1k
       omega
    have := this (n / 10)
    omega
   refine evS (fun k => by rw [spec_l3Text.f]) ?_
   rw [e1, e2]
   refine evF z1k (evB (ih (n / 10) z1k z1k) (evC rfl (evT ?_ (evR ?_))))
   ·show (Lib.decDigits (n / 10)).toArray.size + 1 ≤ _
    rw [List.size_toArray]
    omega
   ·show (⟨(Lib.decDigits (n / 10)).toArray⟩ : ByteArray) ++ (⟨([UInt8.ofNat (48 + n % 10)] : List UInt8).toArray⟩ : ByteArray) = _
    apply ByteArray.ext
    rw [ByteArray.data_append]
    simp
end Go.Proofs.YtgdknepphkhnlaaGreatDoor.Z

/- Parts of a path, the program's and the reference's: the same. Plain lemmas. -/
set_option linter.unusedVariables false
namespace Go.Proofs.YtgdknepphkhnlaaGreatDoor.Z
open Go.RowKit Go.Proofs.YtgdknepphkhnlaaGreatDoorW.PrintWords Go.Proofs.YtgdknepphkhnlaaGreatDoorW.PrintMore Go.Proofs.YtgdknepphkhnlaaGreatDoor.X Go.Proofs.YtgdknepphkhnlaaGreatDoor.Sp
theorem fig_impl (b : Int) : impl_isFigure.f b = some (decide (48 ≤ b ∧ b ≤ 57)) := by
 unfold impl_isFigure.f
 by_cases h : b ≥ 48
 ·rw [if_pos h]
  simp [show 48 ≤ b from h]
 ·rw [if_neg h]
  simp [show ¬ 48 ≤ b from h]
theorem ev_rest {c0 : Bool} {z e1 e2 e3 : Prop} [Decidable z] [Decidable e1] [Decidable e2] [Decidable e3] {A : Nat → Option Bool} {r : Bool} (H : (c0 = true ∨ ¬ z ∧ (e1 ∨ e2 ∨ e3)) → Ev A r) (H' : ¬ (c0 = true ∨ ¬ z ∧ (e1 ∨ e2 ∨ e3)) → r = false) :
  Ev (fun k => if c0 = true then A k else if z then some false else if e1 then A k else if e2 then A k else if e3 then A k else some false) r := by
 refine evI (fun h => H (.inl h)) (fun h0 => evI (fun hz => evR (H' (by simp [h0, hz])).symm) (fun hz => evI (fun h => H (.inr ⟨hz, .inl h⟩)) (fun h1 => evI (fun h => H (.inr ⟨hz, .inr (.inl h)⟩)) (fun h2 => evI (fun h => H (.inr ⟨hz, .inr (.inr h)⟩)) (fun h3 => evR (H' ?_).symm)))))
 rintro (h | ⟨_, h | h | h⟩)
 ·exact h0 h
 ·exact h1 h
 ·exact h2 h
 ·exact h3 h
theorem part_both (s : ByteArray) (hs : s.size ≤ 1048576) (d : Nat) : ∀ i : Nat, i + d = s.size → ∃ r, Ev (fun k => impl_pathPartOk.l0 k s (i : Int)) r ∧ Ev (fun k => spec_l4Part.l0 k s (i : Int)) r := by
 induction d with
 | zero =>
  intro i hi
  refine ⟨decide ((1 : Int) ≤ s.size ∧ (s.size : Int) ≤ 20), ?_, ?_⟩
  ·refine evS (fun k => by rw [impl_pathPartOk.l0]) (evF z1k ?_)
   exact evC (rng_impl _ _ _) (evR rfl)
  ·refine evS (fun k => by rw [spec_l4Part.l0]) (evF z1k ?_)
   exact evC (rng_spec _ _ _) (evR rfl)
 | succ d ih =>
  intro i hi
  have hb := bt_range s (i : Int)
  obtain ⟨r, h1, h2⟩ := ih (i + 1) z1k
  have hw : wrap64 (bt s (i : Int)) = bt s (i : Int) := w64 z1k
  generalize hx : bt s (i : Int) = b at hb hw
  obtain ⟨r', hr⟩ : ∃ r', r' = if (97 ≤ b ∧ b ≤ 122) ∨ (48 ≤ b ∧ b ≤ 57) ∨ ¬ (i : Int) = 0 ∧ (b = 45 ∨ b = 46 ∨ b = 95) then r else false := ⟨_, rfl⟩
  have Hr : ∀ {A : Nat → Option Bool}, Ev A r → (¬ (97 ≤ b ∧ b ≤ 122)) → (decide (48 ≤ b ∧ b ≤ 57) = true ∨ ¬ (i : Int) = 0 ∧ (b = 45 ∨ b = 46 ∨ b = 95)) → Ev A r' := fun hA _ h => by
   rw [hr, if_pos (.inr (by simpa using h))]
   exact hA
  have Hn : (¬ (97 ≤ b ∧ b ≤ 122)) → ¬ (decide (48 ≤ b ∧ b ≤ 57) = true ∨ ¬ (i : Int) = 0 ∧ (b = 45 ∨ b = 46 ∨ b = 95)) → r' = false := fun ha h => by
   rw [hr, if_neg]
   rintro (h' | h')
   ·exact ha h'
   ·exact h (by simpa using h')
  have Hl : ∀ {A : Nat → Option Bool}, Ev A r → (97 ≤ b ∧ b ≤ 122) → Ev A r' := fun hA h => by
   rw [hr, if_pos (.inl h)]
   exact hA
  refine ⟨r', ?_, ?_⟩
  ·refine evS (fun k => by rw [impl_pathPartOk.l0]) ?_
   rw [hx, w64s (show i < s.size by omega) z1k]
   refine evT z1k (evT z1k ?_)
   by_cases ha : b ≥ 97
   ·refine evT ha ?_
    by_cases hc : b ≤ 122
    ·exact evT hc (Hl h1 ⟨ha, hc⟩)
    ·refine evF hc (evC (fig_impl b) ?_)
     exact ev_rest (Hr h1 (fun h => hc h.2)) (Hn (fun h => hc h.2))
   ·refine evF ha (evC (fig_impl b) ?_)
    exact ev_rest (Hr h1 (fun h => ha h.1)) (Hn (fun h => ha h.1))
  ·refine evS (fun k => by rw [spec_l4Part.l0]) ?_
   rw [hx, hw, w64s (show i < s.size by omega) z1k]
   refine evT z1k (evT z1k (evC (rng_spec _ _ _) ?_))
   by_cases ha : 97 ≤ b ∧ b ≤ 122
   ·exact evT (decide_eq_true ha) (Hl h2 ha)
   ·refine evF (by simpa using ha) (evC (rng_spec _ _ _) ?_)
    exact ev_rest (Hr h2 ha) (Hn ha)
theorem part_nil (s : ByteArray) (h : s.size = 0) : Ev (fun k => impl_pathPartOk.f k s) false := by
 show Ev (fun k => impl_pathPartOk.l0 k s 0) false
 refine evS (fun k => by rw [impl_pathPartOk.l0]) (evF z1k ?_)
 exact evC (rng_impl _ _ _) (evR (decide_eq_false z1k))
theorem path_l0 (s : ByteArray) (l : List ByteArray) (hl : l.length ≤ 1048577) (hm : ∀ x ∈ l, x.size ≤ 1048576) (d : Nat) : ∀ i : Nat, i + d = l.length → ∃ r, Ev (fun k => impl_PathOk.l0 k s l l (l.length : Int) (i : Int)) r ∧ Ev (fun k => spec_PathOk.l0 k s l (i : Int)) r ∧ (r = true → ∀ x ∈ l.drop i, 1 ≤ x.size) := by
 induction d with
 | zero =>
  intro i hi
  have hnil : ∀ b : Bool, b = true → ∀ x ∈ l.drop i, 1 ≤ x.size := fun b _ x hx => by rw [List.drop_eq_nil_of_le z1k] at hx; cases hx
  by_cases h6 : (l.length : Int) ≤ 6
  ·refine ⟨decide ((s.size : Int) ≤ 60), ?_, ?_, hnil _⟩
   ·refine evS (fun k => by rw [impl_PathOk.l0]) (evF z1k (evT h6 (evR rfl)))
   ·refine evS (fun k => by rw [spec_PathOk.l0]) (evF z1k (evT h6 (evR rfl)))
  ·refine ⟨false, ?_, ?_, hnil _⟩
   ·refine evS (fun k => by rw [impl_PathOk.l0]) (evF z1k (evF h6 (evR rfl)))
   ·refine evS (fun k => by rw [spec_PathOk.l0]) (evF z1k (evF h6 (evR rfl)))
 | succ d ih =>
  intro i hi
  have hz := hm _ (rdOf_mem (l := l) (i := i) z1k)
  obtain ⟨b, p1, p2⟩ := part_both (rdOf ByteArray.empty l (i : Int)) hz _ 0 (Nat.zero_add _)
  obtain ⟨r, h1, h2, h3⟩ := ih (i + 1) z1k
  have il : i < l.length := by omega
  have gl : rdOf ByteArray.empty l (i : Int) = l[i] := by
   have := rdOf_get (d := ByteArray.empty) il
   rw [List.getElem?_eq_getElem il] at this
   exact (Option.some.inj this).symm
  have q1 : Ev (fun k => impl_pathPartOk.f k (rdOf ByteArray.empty l (i : Int))) b := p1
  have q2 : Ev (fun k => spec_l4Part.f k (rdOf ByteArray.empty l (i : Int))) b := p2
  cases b with
  | true =>
   refine ⟨r, ?_, ?_, fun hr x hx => ?_⟩
   rotate_left 2
   ·rw [List.drop_eq_getElem_cons il] at hx
    rcases List.mem_cons.1 hx with rfl | hx
    ·rw [gl] at q1
     rcases Nat.eq_zero_or_pos l[i].size with h0 | h0
     ·have := ev_one q1 (part_nil _ h0)
      cases this
     ·exact h0
    ·exact h3 hr x hx
   ·refine evS (fun k => by rw [impl_PathOk.l0]) ?_
    rw [w64s (show i < l.length by omega) z1k]
    exact evT z1k (evT z1k (evT z1k (evB q1 (evT rfl h1))))
   ·refine evS (fun k => by rw [spec_PathOk.l0]) ?_
    rw [w64s (show i < l.length by omega) z1k]
    exact evT z1k (evT z1k (evB q2 (evT rfl h2)))
  | false =>
   refine ⟨false, ?_, ?_, fun h => by cases h⟩
   ·refine evS (fun k => by rw [impl_PathOk.l0]) ?_
    exact evT z1k (evT z1k (evT z1k (evB q1 (evF Bool.false_ne_true (evR rfl)))))
   ·refine evS (fun k => by rw [spec_PathOk.l0]) ?_
    exact evT z1k (evT z1k (evB q2 (evF Bool.false_ne_true (evR rfl))))
theorem split_impl (s : ByteArray) (hs : s.size ≤ 1048576) (c : UInt8) : strings_Split.f s (⟨#[c]⟩ : ByteArray) = some (pieces c s) := by
 unfold strings_Split.f
 rw [if_pos ⟨z1k, rfl⟩]
 rfl
theorem pathOk_both (s : ByteArray) (hs : s.size ≤ 1048576) : ∃ r, Ev (fun k => impl_PathOk.f k s) r ∧ Ev (fun k => spec_PathOk.f k s) r ∧ (r = true → ∀ x ∈ pieces 47 s, 1 ≤ x.size) := by
 have hc := pieces_count 47 s
 obtain ⟨r, h1, h2, h3⟩ := path_l0 s (pieces 47 s) z1k (fun x hx => by have := pieces_mem 47 s x hx; omega) _ 0 (Nat.zero_add _)
 have hS : Ev (fun k => spec_l3Split.f k s 47) (pieces 47 s) := split_spec s hs 47
 refine ⟨r, ?_, ?_, h3⟩
 ·unfold impl_PathOk.f
  exact evC (split_impl s hs 47) h1
 ·unfold spec_PathOk.f
  exact evB hS h2
end Go.Proofs.YtgdknepphkhnlaaGreatDoor.Z

/- A path's last part that tells a number, the program's way and the reference's. Plain lemmas. -/
set_option linter.unusedVariables false
namespace Go.Proofs.YtgdknepphkhnlaaGreatDoor.Z
open Go.RowKit Go.Proofs.YtgdknepphkhnlaaGreatDoorW.PrintWords Go.Proofs.YtgdknepphkhnlaaGreatDoorW.PrintMore Go.Proofs.YtgdknepphkhnlaaGreatDoor.X Go.Proofs.YtgdknepphkhnlaaGreatDoor.Sp
def lastIx (c : UInt8) (l : List UInt8) : Int := match l.reverse.findIdx? (· = c) with | some j => (l.length : Int) - 1 - j | none => -1
theorem lastIx_snoc_eq (c : UInt8) (l : List UInt8) : lastIx c (l ++ [c]) = l.length := by
 unfold lastIx
 rw [List.reverse_append, List.reverse_singleton, List.singleton_append, List.findIdx?_cons]
 simp
theorem lastIx_snoc_ne (b c : UInt8) (l : List UInt8) (h : b ≠ c) : lastIx c (l ++ [b]) = lastIx c l := by
 unfold lastIx
 rw [List.reverse_append, List.reverse_singleton, List.singleton_append, List.findIdx?_cons]
 simp only [h, decide_false, Bool.false_eq_true, if_false]
 cases l.reverse.findIdx? (fun x => decide (x = c)) with
 | none => rfl
 | some j => simp; omega
theorem last_l0 (s : ByteArray) (hs : s.size ≤ 1048576) (c : UInt8) : ∀ i : Nat, i ≤ s.size → Ev (fun k => bytealg_LastIndexByteString.l0 k s (c.toNat : Int) ((i : Int) - 1)) (lastIx c (s.data.toList.take i)) := by
 intro i
 induction i with
 | zero =>
  intro hi
  refine evS (fun k => by rw [bytealg_LastIndexByteString.l0]) ?_
  exact evF z1k (evR rfl)
 | succ i ih =>
  intro hi
  have hl : i < s.data.toList.length := by rw [data_length]; omega
  have hb := byte_at s i z1k
  have e0 : (((i + 1 : Nat) : Int) - 1) = (i : Int) := by omega
  rw [e0, List.take_succ_eq_append_getElem hl]
  refine evS (fun k => by rw [bytealg_LastIndexByteString.l0]) ?_
  rw [hb, w64 (x := (i : Int) - 1) z1k]
  refine evT z1k (evT z1k (evT z1k ?_))
  by_cases hc : s.data.toList[i] = c
  ·refine evT (by rw [hc]) (evR ?_)
   rw [hc, lastIx_snoc_eq, List.length_take, Nat.min_eq_left z1k]
  ·refine evF (fun e => hc (UInt8.toNat_inj.1 z1k)) ?_
   rw [lastIx_snoc_ne _ _ _ hc]
   exact ih z1k
theorem last_ev (s : ByteArray) (hs : s.size ≤ 1048576) (c : UInt8) : Ev (fun k => strings_LastIndexByte.f k s (c.toNat : Int)) (lastIx c s.data.toList) := by
 unfold strings_LastIndexByte.f
 refine evB (a := lastIx c s.data.toList) ?_ (evR rfl)
 unfold bytealg_LastIndexByteString.f
 rw [w64 (x := (s.size : Int) - 1) z1k]
 have := last_l0 s hs c s.size (Nat.le_refl _)
 rwa [List.take_of_length_le (by rw [data_length]; exact Nat.le_refl _)] at this
theorem pcs_last (c : UInt8) : ∀ l : List UInt8, (lastIx c l = -1 ∧ pcs c l = [l]) ∨ ∃ a b : List UInt8, l = a ++ c :: b ∧ lastIx c l = a.length ∧ (pcs c l).getLast? = some b ∧ 2 ≤ (pcs c l).length := by
 intro l
 induction l with
 | nil => exact .inl ⟨rfl, rfl⟩
 | cons x l ih =>
  have hap : ∀ (y : UInt8) (m : List UInt8), lastIx c (y :: m) = if lastIx c m = -1 then (if y = c then 0 else -1) else lastIx c m + 1 := by
   intro y m
   unfold lastIx
   rw [List.reverse_cons, List.findIdx?_append]
   cases hf : m.reverse.findIdx? (fun x => decide (x = c)) with
   | some j =>
    have hj := List.findIdx?_eq_some_iff_getElem.1 hf
    obtain ⟨hj1, _⟩ := hj
    rw [List.length_reverse] at hj1
    simp only [Option.some_or, List.length_cons]
    rw [if_neg z1k]
    omega
   | none =>
    by_cases hy : y = c
    ·simp [hy]
    ·simp [hy]
  rw [hap]
  rcases ih with ⟨h1, h2⟩ | ⟨a, b, h1, h2, h3, h4⟩
  ·rw [if_pos h1]
   by_cases hx : x = c
   ·right
    refine ⟨[], l, by rw [hx]; rfl, by rw [if_pos hx]; rfl, ?_, ?_⟩
    ·rw [pcs, if_pos hx, h2]
     rfl
    ·rw [pcs, if_pos hx, h2]
     simp
   ·left
    rw [if_neg hx]
    exact ⟨rfl, by rw [pcs, if_neg hx, h2]; rfl⟩
  ·rw [if_neg z1k]
   right
   refine ⟨x :: a, b, by rw [h1]; rfl, by rw [h2]; simp, ?_, ?_⟩
   ·by_cases hx : x = c
    ·rw [pcs, if_pos hx]
     cases hp : pcs c l with
     | nil => exact absurd hp (pcs_ne c l)
     | cons u v => rw [hp] at h3; rw [List.getLast?_cons_cons]; exact h3
    ·rw [pcs, if_neg hx]
     cases hp : pcs c l with
     | nil => exact absurd hp (pcs_ne c l)
     | cons u v =>
      cases v with
      | nil => rw [hp] at h4; simp at h4
      | cons p q =>
       rw [hp] at h3
       rw [List.getLast?_cons_cons] at h3
       show ((x :: u) :: p :: q).getLast? = some b
       rw [List.getLast?_cons_cons]
       exact h3
   ·by_cases hx : x = c
    ·rw [pcs, if_pos hx]; simp; omega
    ·rw [pcs, if_neg hx]
     cases hp : pcs c l with
     | nil => exact absurd hp (pcs_ne c l)
     | cons u v => rw [hp] at h4; simpa [onto] using h4
end Go.Proofs.YtgdknepphkhnlaaGreatDoor.Z

/- The number that a text is, the program's way; ends of texts. Plain lemmas. -/
set_option linter.unusedVariables false
namespace Go.Proofs.YtgdknepphkhnlaaGreatDoor.Z
open Go.RowKit Go.Proofs.YtgdknepphkhnlaaGreatDoorW.PrintWords Go.Proofs.YtgdknepphkhnlaaGreatDoorW.PrintMore Go.Proofs.YtgdknepphkhnlaaGreatDoor.X Go.Proofs.YtgdknepphkhnlaaGreatDoor.Sp
theorem ext_end (s : ByteArray) (f : Nat) : s.extract f s.size = toB (s.data.toList.drop f) := by
 rw [ext_list]
 unfold toB
 rw [List.take_of_length_le (by rw [List.length_drop, data_length]; exact Nat.le_refl _)]
theorem toB_size (l : List UInt8) : (toB l).size = l.length := by
 show l.toArray.size = _
 rw [List.size_toArray]
theorem toB_data (l : List UInt8) : (toB l).data.toList = l := by unfold toB; simp
theorem pieces_toB (c : UInt8) (s : ByteArray) : pieces c s = (pcs c s.data.toList).map toB := rfl
theorem numberOf_ev (t : ByteArray) (ht : t.size ≤ 1048576) (m : Int) (hm : m ≤ 18) : Ev (fun k => impl_numberOf.f k t m) (if num t = true ∧ (t.size : Int) ≤ m then (((val t.data.toList : Nat) : Int), true) else (0, false)) := by
 unfold impl_numberOf.f
 refine evB (num_impl t ht) ?_
 cases hn : num t with
 | false => exact evF Bool.false_ne_true (evR (by simp))
 | true =>
  refine evT rfl ?_
  by_cases h : (t.size : Int) > m
  ·exact evT h (evR (by rw [if_neg (fun e => by omega)]))
  ·refine evF h (evT z1k (evC (atoi_val hn) (evR ?_)))
   rw [if_pos ⟨rfl, z1k⟩]
theorem pow4 {n : Nat} (h : 4 ≤ n) : 10000 ≤ 10 ^ n := Nat.le_trans z1l (Nat.pow_le_pow_right (show 0 < 10 by decide) h)
theorem small4 {t : ByteArray} (hsh : short t = true) (h : ((val t.data.toList : Nat) : Int) ≤ 1000) : t.size ≤ 4 := by
 rcases Nat.lt_or_ge 4 t.size with h5 | h5
 ·have hle := short_lead hsh z1k
  have h10 := pow4 (n := t.size - 1) z1k
  generalize val t.data.toList = v at *
  generalize 10 ^ (t.size - 1) = p at *
  omega
 ·exact h5
end Go.Proofs.YtgdknepphkhnlaaGreatDoor.Z

/- A path's number, the program's way and the reference's: the same. Plain lemmas. -/
set_option linter.unusedVariables false
namespace Go.Proofs.YtgdknepphkhnlaaGreatDoor.Z
open Go.RowKit Go.Proofs.YtgdknepphkhnlaaGreatDoorW.PrintWords Go.Proofs.YtgdknepphkhnlaaGreatDoorW.PrintMore Go.Proofs.YtgdknepphkhnlaaGreatDoor.X Go.Proofs.YtgdknepphkhnlaaGreatDoor.Sp
theorem w64p1 (a : Nat) (h : a ≤ 2000000) : wrap64 ((a : Int) + 1) = ((a + 1 : Nat) : Int) := by rw [w64 z1k]; omega
theorem w64p2 (a : Nat) (h : a ≤ 2000000) : wrap64 ((a : Int) + 2) = ((a + 2 : Nat) : Int) := by rw [w64 z1k]; omega
set_option maxHeartbeats 1000000 in
theorem major_both (s : ByteArray) (hs : s.size ≤ 1048576) (hp : ∀ x ∈ pieces 47 s, 1 ≤ x.size) : ∃ (n : Int) (base : ByteArray), Ev (fun k => impl_cutMajor.f k s) (base, if n = 0 then 1 else n) ∧ Ev (fun k => spec_l4Major.f k s) n ∧
  (n = 0 ∧ base = s ∨ 2 ≤ n ∧ n ≤ 1000 ∧ ∃ (t : ByteArray) (a : Nat), num t = true ∧ n = ((val t.data.toList : Nat) : Int) ∧ base = s.extract 0 a ∧ s.size = a + 2 + t.size) := by
 have hL := last_ev s hs 47
 have hS : Ev (fun k => spec_l3Split.f k s 47) (pieces 47 s) := split_spec s hs 47
 have hcount := pieces_count 47 s
 have hlen1 : 1 ≤ (pieces 47 s).length := by rw [pieces_length]; omega
 have ew : wrap64 (((pieces 47 s).length : Int) - 1) = (((pieces 47 s).length - 1 : Nat) : Int) := by rw [w64 z1k]; omega
 rcases pcs_last 47 s.data.toList with ⟨h1, h2⟩ | ⟨a, b, h1, h2, h3, h4⟩
 ·refine ⟨0, s, ?_, ?_, .inl ⟨rfl, rfl⟩⟩
  ·unfold impl_cutMajor.f
   refine evB hL ?_
   rw [h1]
   refine evT z1k ?_
   refine evS (fun k => by rw [impl_cutMajor.j0]) ?_
   exact evT rfl (evR rfl)
  ·unfold spec_l4Major.f
   refine evB hS ?_
   have hl : (pieces 47 s).length = 1 := by rw [pieces_toB, h2]; rfl
   rw [ew]
   refine evT z1k (evT z1k (evT z1k ?_))
   refine evS (fun k => by rw [spec_l4Major.j0]) ?_
   exact evT rfl (evR rfl)
 ·have EW := zn ew
  have H2 := zn h2
  clear ew h2
  have hsz : s.size = a.length + 1 + b.length := by rw [← data_length, h1]; simp; omega
  have hl2 : 2 ≤ (pieces 47 s).length := by rw [pieces_toB, List.length_map]; exact h4
  have hlast : rdOf ByteArray.empty (pieces 47 s) (((pieces 47 s).length - 1 : Nat) : Int) = toB b := by
   have g := rdOf_get (d := ByteArray.empty) (l := pieces 47 s) (i := (pieces 47 s).length - 1) z1k
   rw [← List.getLast?_eq_getElem?, pieces_toB, List.getLast?_map, h3] at g
   exact (Option.some.inj g).symm
  have hb1 : 1 ≤ b.length := by
   have := hp _ (rdOf_mem (l := pieces 47 s) (i := (pieces 47 s).length - 1) z1k)
   rw [hlast, toB_size] at this
   exact this
  obtain ⟨x, y, hb⟩ : ∃ x y, b = x :: y := by
   cases b with
   | nil => simp at hb1
   | cons x y => exact ⟨x, y, rfl⟩
  subst hb
  have hsz' : s.size = a.length + 2 + y.length := by rw [List.length_cons] at hsz; omega
  have hy : (toB y).size ≤ 1048576 := by rw [toB_size]; omega
  have w1 := w64p1 a.length z1k
  have w2 := w64p2 a.length z1k
  have W1 := zn w1
  have W2 := zn w2
  clear w1 w2
  have hbt : bt s ((a.length + 1 : Nat) : Int) = (x.toNat : Int) := by
   have hlt : a.length + 1 < s.size := by rw [List.length_cons] at hsz; omega
   have hl' : a.length + 1 < s.data.toList.length := by rw [data_length]; exact hlt
   have h5 : s.data.toList[a.length + 1]? = some x := by
    rw [h1, List.getElem?_append_right z1k, show a.length + 1 - a.length = 1 by omega]
    rfl
   rw [List.getElem?_eq_getElem hl'] at h5
   rw [byte_at s (a.length + 1) hlt]
   exact congrArg (fun u : UInt8 => (u.toNat : Int)) (Option.some.inj h5)
  have hbl : bt (toB (x :: y)) 0 = (x.toNat : Int) := by
   have h6 := byte_at (toB (x :: y)) 0 (by rw [toB_size]; simp)
   have h7 : (toB (x :: y)).data.toList[0]? = some x := by rw [toB_data]; rfl
   rw [List.getElem?_eq_getElem (by rw [toB_data]; simp)] at h7
   exact h6.trans (congrArg (fun u : UInt8 => (u.toNat : Int)) (Option.some.inj h7))
  have ht1 : s.extract (a.length + 2) s.size = toB y := by
   rw [ext_end]
   refine congrArg toB ?_
   rw [h1, List.drop_append, List.drop_eq_nil_of_le z1k, show a.length + 2 - a.length = 2 by omega]
   rfl
  have ht2 : (toB (x :: y)).extract 1 (toB (x :: y)).size = toB y := by
   rw [ext_end, toB_data]
   rfl
  have HBT := zn hbt
  have HBL := zn hbl
  clear hbt hbl
  have hne : ¬ (toB (x :: y)).toList = ([] : List UInt8) := by rw [tl, toB_data]; simp
  have hz2 : 0 < ((toB (x :: y)).size : Int) := by rw [toB_size, List.length_cons]; omega
  by_cases hx : (x.toNat : Int) = 118
  ·have hxb : ((x.toNat : Int) != 118) = false := bne_eq_false_iff_eq.2 hx
   have hN := numberOf_ev (toB y) hy 4 z1k
   have hSn := numS_spec (toB y) hy
   by_cases hr : 2 ≤ numS (toB y) ∧ numS (toB y) ≤ 1000
   ·have hsh : short (toB y) = true := (numS_pos _).1 z1k
    have hv := zn (numS_val hsh)
    have hn : num (toB y) = true := by unfold short at hsh; simp at hsh; exact hsh.1
    have h4' : ((toB y).size : Int) ≤ 4 := by
     have := small4 hsh (by rw [← hv.out]; exact hr.2)
     omega
    rw [if_pos ⟨hn, h4'⟩] at hN
    refine ⟨numS (toB y), s.extract 0 a.length, ?_, ?_, .inr ⟨hr.1, hr.2, toB y, a.length, hn, hv.out, rfl, by rw [toB_size]; exact hsz'⟩⟩
    ·rw [if_neg z1k]
     unfold impl_cutMajor.f
     refine evB hL ?_
     rw [H2.out, W1.out, HBT.out, hxb]
     refine evF z1k (evT z1k (evT z1k ?_))
     refine evS (fun k => by rw [impl_cutMajor.j0]) ?_
     rw [W2.out, show ((a.length + 2 : Nat) : Int).toNat = a.length + 2 by omega, ht1, show ((a.length : Nat) : Int).toNat = a.length by omega]
     refine evF Bool.false_ne_true (evT z1k (evT z1k (evB hN (evT rfl (evC (rng_impl _ _ _) ?_)))))
     refine evT (decide_eq_true (by rw [← hv.out]; exact hr)) (evT z1k (evT z1k (evR ?_)))
     rw [hv.out]
    ·unfold spec_l4Major.f
     refine evB hS ?_
     rw [EW.out, hlast]
     refine evT z1k (evT z1k (evF z1k (evF hne (evT hz2 ?_))))
     rw [HBL.out, hxb]
     refine evS (fun k => by rw [spec_l4Major.j0]) ?_
     rw [ht2]
     refine evF Bool.false_ne_true (evT z1k (evB hSn (evC (rng_spec _ _ _) ?_)))
     exact evT (decide_eq_true hr) (evR rfl)
   ·refine ⟨0, s, ?_, ?_, .inl ⟨rfl, rfl⟩⟩
    ·unfold impl_cutMajor.f
     refine evB hL ?_
     rw [H2.out, W1.out, HBT.out, hxb]
     refine evF z1k (evT z1k (evT z1k ?_))
     refine evS (fun k => by rw [impl_cutMajor.j0]) ?_
     rw [W2.out, show ((a.length + 2 : Nat) : Int).toNat = a.length + 2 by omega, ht1]
     refine evF Bool.false_ne_true (evT z1k (evT z1k (evB hN ?_)))
     by_cases hc : num (toB y) = true ∧ ((toB y).size : Int) ≤ 4
     ·rw [if_pos hc]
      have hsh : short (toB y) = true := by unfold short; rw [hc.1, decide_eq_true (show (toB y).size ≤ 8 by omega)]; try rfl
      refine evT rfl (evC (rng_impl _ _ _) (evF ?_ (evR rfl)))
      intro e
      have := of_decide_eq_true e
      rw [← numS_val hsh] at this
      exact hr this
     ·rw [if_neg hc]
      exact evF Bool.false_ne_true (evR rfl)
    ·unfold spec_l4Major.f
     refine evB hS ?_
     rw [EW.out, hlast]
     refine evT z1k (evT z1k (evF z1k (evF hne (evT hz2 ?_))))
     rw [HBL.out, hxb]
     refine evS (fun k => by rw [spec_l4Major.j0]) ?_
     rw [ht2]
     refine evF Bool.false_ne_true (evT z1k (evB hSn (evC (rng_spec _ _ _) ?_)))
     exact evF (fun e => hr (of_decide_eq_true e)) (evR rfl)
  ·have hxb : ((x.toNat : Int) != 118) = true := bne_iff_ne.2 hx
   refine ⟨0, s, ?_, ?_, .inl ⟨rfl, rfl⟩⟩
   ·unfold impl_cutMajor.f
    refine evB hL ?_
    rw [H2.out, W1.out, HBT.out, hxb]
    refine evF z1k (evT z1k (evT z1k ?_))
    refine evS (fun k => by rw [impl_cutMajor.j0]) ?_
    exact evT rfl (evR rfl)
   ·unfold spec_l4Major.f
    refine evB hS ?_
    rw [EW.out, hlast]
    refine evT z1k (evT z1k (evF z1k (evF hne (evT hz2 ?_))))
    rw [HBL.out, hxb]
    refine evS (fun k => by rw [spec_l4Major.j0]) ?_
    exact evT rfl (evR rfl)
end Go.Proofs.YtgdknepphkhnlaaGreatDoor.Z

/- A path's number and base, the program's and the reference's functions: the same. Plain lemmas. -/
set_option linter.unusedVariables false
namespace Go.Proofs.YtgdknepphkhnlaaGreatDoor.Z
open Go.RowKit Go.Proofs.YtgdknepphkhnlaaGreatDoorW.PrintWords Go.Proofs.YtgdknepphkhnlaaGreatDoorW.PrintMore Go.Proofs.YtgdknepphkhnlaaGreatDoor.X Go.Proofs.YtgdknepphkhnlaaGreatDoor.Sp
theorem maj_both (s : ByteArray) (hs : s.size ≤ 1048576) : ∃ m : Int, Ev (fun k => impl_MajorOf.f k s) m ∧ Ev (fun k => spec_MajorOf.f k s) m ∧ 0 ≤ m ∧ m ≤ 1000 := by
 obtain ⟨r, h1, h2, h3⟩ := pathOk_both s hs
 cases r with
 | false =>
  refine ⟨0, ?_, ?_, z1k, z1k⟩
  ·unfold impl_MajorOf.f
   exact evB h1 (evF Bool.false_ne_true (evR rfl))
  ·unfold spec_MajorOf.f
   exact evB h2 (evF Bool.false_ne_true (evR rfl))
 | true =>
  obtain ⟨n, base, m1, m2, hn⟩ := major_both s hs (h3 rfl)
  refine ⟨if n = 0 then 1 else n, ?_, ?_, ?_, ?_⟩
  ·unfold impl_MajorOf.f
   exact evB h1 (evT rfl (evB m1 (evR rfl)))
  ·unfold spec_MajorOf.f
   refine evB h2 (evT rfl (evB m2 ?_))
   by_cases h0 : n = 0
   ·exact evT h0 (evR (by rw [if_pos h0]))
   ·exact evF h0 (evR (by rw [if_neg h0]))
  ·split <;> omega
  ·split <;> omega
end Go.Proofs.YtgdknepphkhnlaaGreatDoor.Z

/- Right versions, the program's and the reference's: the same. Plain lemmas. -/
set_option linter.unusedVariables false
namespace Go.Proofs.YtgdknepphkhnlaaGreatDoor.Z
open Go.RowKit Go.Proofs.YtgdknepphkhnlaaGreatDoorW.PrintWords Go.Proofs.YtgdknepphkhnlaaGreatDoorW.PrintMore Go.Proofs.YtgdknepphkhnlaaGreatDoor.X Go.Proofs.YtgdknepphkhnlaaGreatDoor.Sp
def pch (b : Int) : Prop := (97 ≤ b ∧ b ≤ 122) ∨ (65 ≤ b ∧ b ≤ 90) ∨ (48 ≤ b ∧ b ≤ 57) ∨ b = 45
instance (b : Int) : Decidable (pch b) := by unfold pch; infer_instance
def pchU (u : UInt8) : Bool := decide (pch (u.toNat : Int))
theorem ev_fig {b : Int} {A : Nat → Option Bool} {r : Bool} (H : (48 ≤ b ∧ b ≤ 57) ∨ b = 45 → Ev A r) (H' : ¬ ((48 ≤ b ∧ b ≤ 57) ∨ b = 45) → r = false) :
  Ev (fun k => (impl_isFigure.f b).bind fun t => if t = true then A k else if b = 45 then A k else some false) r := by
 refine evC (figure_ev b) ?_
 by_cases h : 48 ≤ b ∧ b ≤ 57
 ·exact evT (decide_eq_true h) (H (.inl h))
 ·refine evF (by simpa using h) ?_
  by_cases h2 : b = 45
  ·exact evT h2 (H (.inr h2))
  ·exact evF h2 (evR (H' (fun e => e.elim h h2)).symm)
theorem ev_sign {b : Int} {A : Nat → Option Bool} {r : Bool} (H : pch b → Ev A r) (H' : ¬ pch b → r = false) :
  Ev (fun k => if b ≥ 97 then (if b ≤ 122 then A k else (if b ≥ 65 then (if b ≤ 90 then A k else ((impl_isFigure.f b).bind fun t => if t = true then A k else if b = 45 then A k else some false)) else ((impl_isFigure.f b).bind fun t => if t = true then A k else if b = 45 then A k else some false))) else (if b ≥ 65 then (if b ≤ 90 then A k else ((impl_isFigure.f b).bind fun t => if t = true then A k else if b = 45 then A k else some false)) else ((impl_isFigure.f b).bind fun t => if t = true then A k else if b = 45 then A k else some false))) r := by
 have F : (¬ (97 ≤ b ∧ b ≤ 122)) → (¬ (65 ≤ b ∧ b ≤ 90)) → Ev (fun k => (impl_isFigure.f b).bind fun t => if t = true then A k else if b = 45 then A k else some false) r := fun h1 h2 =>
  ev_fig (fun h => H z8h) (fun h => H' z8h)
 have M : (¬ (97 ≤ b ∧ b ≤ 122)) → Ev (fun k => if b ≥ 65 then (if b ≤ 90 then A k else ((impl_isFigure.f b).bind fun t => if t = true then A k else if b = 45 then A k else some false)) else ((impl_isFigure.f b).bind fun t => if t = true then A k else if b = 45 then A k else some false)) r := fun h1 => by
  by_cases h : b ≥ 65
  ·refine evT h ?_
   by_cases h2 : b ≤ 90
   ·exact evT h2 (H z8h)
   ·exact evF h2 (F h1 z1k)
  ·exact evF h (F h1 z1k)
 by_cases h : b ≥ 97
 ·refine evT h ?_
  by_cases h2 : b ≤ 122
  ·exact evT h2 (H z8h)
  ·exact evF h2 (M z1k)
 ·exact evF h (M z1k)
theorem ev_signS {b : Int} {A : Nat → Option Bool} {r : Bool} (H : pch b → Ev A r) (H' : ¬ pch b → r = false) :
  Ev (fun k => (spec_l1In.f b 97 122).bind fun t => (if t = true then A k else ((spec_l1In.f b 65 90).bind fun t => (if t = true then A k else ((spec_l1In.f b 48 57).bind fun t => (if t = true then A k else (if b = 45 then A k else (some false)))))))) r := by
 refine evC (rng_spec _ _ _) ?_
 by_cases h1 : 97 ≤ b ∧ b ≤ 122
 ·exact evT (decide_eq_true h1) (H z8h)
 refine evF (by simpa using h1) (evC (rng_spec _ _ _) ?_)
 by_cases h2 : 65 ≤ b ∧ b ≤ 90
 ·exact evT (decide_eq_true h2) (H z8h)
 refine evF (by simpa using h2) (evC (rng_spec _ _ _) ?_)
 by_cases h3 : 48 ≤ b ∧ b ≤ 57
 ·exact evT (decide_eq_true h3) (H z8h)
 refine evF (by simpa using h3) ?_
 by_cases h4 : b = 45
 ·exact evT h4 (H z8h)
 ·exact evF h4 (evR (H' z8h).symm)
def prtE (s : ByteArray) : Bool := decide ((1 : Int) ≤ s.size ∧ (s.size : Int) ≤ 8) && (!figs s || num s)
def prt (s : ByteArray) : Bool := s.data.toList.all pchU && prtE s
theorem prt_l0 (s : ByteArray) (hs : s.size ≤ 1048576) (d : Nat) : ∀ i : Nat, i + d = s.size → Ev (fun k => impl_partOk.l0 k s (i : Int)) ((s.data.toList.drop i).all pchU && prtE s) ∧ Ev (fun k => spec_l3Part.l0 k s (i : Int)) ((s.data.toList.drop i).all pchU && prtE s) := by
 induction d with
 | zero =>
  intro i hi
  rw [List.drop_eq_nil_of_le (show s.data.toList.length ≤ i by rw [data_length]; omega), List.all_nil, Bool.true_and]
  unfold prtE
  constructor
  ·refine evS (fun k => by rw [impl_partOk.l0]) (evF z1k (evC (rng_impl _ _ _) ?_))
   cases hd : decide ((1 : Int) ≤ s.size ∧ (s.size : Int) ≤ 8) with
   | false => exact evF Bool.false_ne_true (evR rfl)
   | true =>
    refine evT rfl (evB (figs_impl s hs) ?_)
    cases hf : figs s with
    | false => exact evF Bool.false_ne_true (evR rfl)
    | true => exact evT rfl (evB (num_impl s hs) (evR (by simp)))
  ·refine evS (fun k => by rw [spec_l3Part.l0]) (evF z1k (evC (rng_spec _ _ _) ?_))
   cases hd : decide ((1 : Int) ≤ s.size ∧ (s.size : Int) ≤ 8) with
   | false => exact evF Bool.false_ne_true (evR rfl)
   | true =>
    have h8 := of_decide_eq_true hd
    refine evT rfl (evB (figs_spec s hs) ?_)
    cases hf : figs s with
    | false => exact evF Bool.false_ne_true (evR rfl)
    | true =>
     refine evT rfl (evB (numS_spec s hs) (evR ?_))
     unfold numS short
     rw [decide_eq_true (show s.size ≤ 8 by omega)]
     cases num s with
     | true => simp
     | false => simp
 | succ d ih =>
  intro i hi
  have hl : i < s.data.toList.length := by rw [data_length]; omega
  have hb := byte_at s i z1k
  obtain ⟨h1, h2⟩ := ih (i + 1) z1k
  have hlt : (s.data.toList[i]).toNat < 256 := UInt8.toNat_lt _
  have he : (s.data.toList.drop i).all pchU = (pchU s.data.toList[i] && (s.data.toList.drop (i + 1)).all pchU) := by
   rw [List.drop_eq_getElem_cons hl]
   rfl
  have hw : wrap64 (((s.data.toList[i]).toNat : Nat) : Int) = (((s.data.toList[i]).toNat : Nat) : Int) := w64 z1k
  rw [he]
  have Hp : pch ((s.data.toList[i].toNat : Nat) : Int) → pchU s.data.toList[i] = true := fun h => decide_eq_true h
  have Hn : ¬ pch ((s.data.toList[i].toNat : Nat) : Int) → (pchU s.data.toList[i] && (s.data.toList.drop (i + 1)).all pchU && prtE s) = false := fun h => by
   have : pchU s.data.toList[i] = false := decide_eq_false h
   rw [this]
   rfl
  constructor
  ·refine evS (fun k => by rw [impl_partOk.l0]) ?_
   rw [hb, w64s (show i < s.size by omega) z1k]
   refine evT z1k (evT z1k ?_)
   exact ev_sign (fun h => by rw [Hp h, Bool.true_and]; exact h1) Hn
  ·refine evS (fun k => by rw [spec_l3Part.l0]) ?_
   rw [hb, hw, w64s (show i < s.size by omega) z1k]
   refine evT z1k (evT z1k ?_)
   exact ev_signS (fun h => by rw [Hp h, Bool.true_and]; exact h2) Hn
theorem prt_impl (s : ByteArray) (hs : s.size ≤ 1048576) : Ev (fun k => impl_partOk.f k s) (prt s) := (prt_l0 s hs s.size 0 z1k).1
theorem prt_spec (s : ByteArray) (hs : s.size ≤ 1048576) : Ev (fun k => spec_l3Part.f k s) (prt s) := (prt_l0 s hs s.size 0 z1k).2
theorem pre_l0 (l : List ByteArray) (hl : l.length ≤ 1048577) (zl : ∀ x ∈ l, x.size ≤ 1048576) (d : Nat) : ∀ i : Nat, i + d = l.length → Ev (fun k => impl_VersionOk.l0 k l (i : Int)) ((l.drop i).all prt && decide (l.length ≤ 4)) ∧ Ev (fun k => spec_l3Pre.l0 k l (i : Int)) ((l.drop i).all prt && decide (l.length ≤ 4)) := by
 induction d with
 | zero =>
  intro i hi
  rw [List.drop_eq_nil_of_le z1k, List.all_nil, Bool.true_and]
  have e : decide ((l.length : Int) ≤ 4) = decide (l.length ≤ 4) := decide_eq_decide.2 z1k
  constructor
  ·refine evS (fun k => by rw [impl_VersionOk.l0]) (evF z1k (evR e))
  ·refine evS (fun k => by rw [spec_l3Pre.l0]) (evF z1k (evR e))
 | succ d ih =>
  intro i hi
  have il : i < l.length := by omega
  have gl : rdOf ByteArray.empty l (i : Int) = l[i] := by
   have := rdOf_get (d := ByteArray.empty) il
   rw [List.getElem?_eq_getElem il] at this
   exact (Option.some.inj this).symm
  have hz := zl _ (List.getElem_mem il)
  obtain ⟨h1, h2⟩ := ih (i + 1) z1k
  have he : (l.drop i).all prt = (prt l[i] && (l.drop (i + 1)).all prt) := by
   rw [List.drop_eq_getElem_cons il]
   rfl
  rw [he]
  have p1 := prt_impl l[i] hz
  have p2 := prt_spec l[i] hz
  cases hp : prt l[i] with
  | true =>
   rw [hp] at p1 p2
   rw [Bool.true_and]
   constructor
   ·refine evS (fun k => by rw [impl_VersionOk.l0]) ?_
    rw [gl, w64s il z1k]
    exact evT z1k (evT z1k (evB p1 (evT rfl h1)))
   ·refine evS (fun k => by rw [spec_l3Pre.l0]) ?_
    rw [gl, w64s il z1k]
    exact evT z1k (evT z1k (evB p2 (evT rfl h2)))
  | false =>
   rw [hp] at p1 p2
   constructor
   ·refine evS (fun k => by rw [impl_VersionOk.l0]) ?_
    rw [gl]
    exact evT z1k (evT z1k (evB p1 (evF Bool.false_ne_true (evR rfl))))
   ·refine evS (fun k => by rw [spec_l3Pre.l0]) ?_
    rw [gl]
    exact evT z1k (evT z1k (evB p2 (evF Bool.false_ne_true (evR rfl))))
def pre (p : ByteArray) : Bool := (pieces 46 p).all prt && decide ((pieces 46 p).length ≤ 4)
def in6 (a : Int) : Bool := decide (0 ≤ a ∧ a ≤ 1000000)
def verOk (a b c : Int) (p : ByteArray) : Bool := in6 a && (in6 b && (in6 c && (decide (p.size = 0) || pre p)))
theorem nil_iff' (s : ByteArray) : s.toList = ([] : List UInt8) ↔ s.size = 0 := by
 rw [tl]
 have := data_length s
 constructor
 ·intro e; rw [e] at this; simpa using this.symm
 ·intro e; exact List.eq_nil_of_length_eq_zero z1k
theorem verOk_both (a b c : Int) (p : ByteArray) (hp : p.size ≤ 1048576) : Ev (fun k => impl_VersionOk.f k a b c p) (verOk a b c p) ∧ Ev (fun k => spec_VersionOk.f k a b c p) (verOk a b c p) := by
 have hc := pieces_count 46 p
 obtain ⟨l1, l2⟩ := pre_l0 (pieces 46 p) z1k (fun x hx => by have := pieces_mem 46 p x hx; omega) _ 0 (Nat.zero_add _)
 rw [List.drop_zero] at l1 l2
 have hS : Ev (fun k => spec_l3Split.f k p 46) (pieces 46 p) := split_spec p hp 46
 have hI : strings_Split.f p (⟨#[46]⟩ : ByteArray) = some (pieces 46 p) := by
  unfold strings_Split.f
  rw [if_pos ⟨z1k, rfl⟩]
  rfl
 have tI : Ev (fun k => impl_VersionOk.f0 k p) (decide (p.size = 0) || pre p) := by
  unfold impl_VersionOk.f0
  by_cases h : p.size = 0
  ·exact evT ((nil_iff' p).2 h) (evR (by rw [decide_eq_true h]; rfl))
  ·refine evF (fun e => h ((nil_iff' p).1 e)) (evC hI ?_)
   rw [decide_eq_false h, Bool.false_or]
   exact l1
 have tS : Ev (fun k => if p.toList = ([] : List UInt8) then (some true) else ((spec_l3Pre.f k p).bind fun t146 => (some t146))) (decide (p.size = 0) || pre p) := by
  by_cases h : p.size = 0
  ·exact evT ((nil_iff' p).2 h) (evR (by rw [decide_eq_true h]; rfl))
  ·refine evF (fun e => h ((nil_iff' p).1 e)) ?_
   rw [decide_eq_false h, Bool.false_or]
   refine evB ?_ (evR rfl)
   unfold spec_l3Pre.f
   exact evB hS l2
 unfold verOk
 constructor
 ·unfold impl_VersionOk.f
  refine evC (rng_impl _ _ _) ?_
  show Ev (fun k => if in6 a = true then _ else _) _
  cases in6 a with
  | false => exact evF Bool.false_ne_true (evR rfl)
  | true =>
   refine evT rfl ?_
   unfold impl_VersionOk.f2
   refine evC (rng_impl _ _ _) ?_
   show Ev (fun k => if in6 b = true then _ else _) _
   cases in6 b with
   | false => exact evF Bool.false_ne_true (evR rfl)
   | true =>
    refine evT rfl ?_
    unfold impl_VersionOk.f1
    refine evC (rng_impl _ _ _) ?_
    show Ev (fun k => if in6 c = true then _ else _) _
    cases in6 c with
    | false => exact evF Bool.false_ne_true (evR rfl)
    | true => exact evT rfl tI
 ·unfold spec_VersionOk.f
  refine evC (rng_spec _ _ _) ?_
  show Ev (fun k => if in6 a = true then _ else _) _
  cases in6 a with
  | false => exact evF Bool.false_ne_true (evR rfl)
  | true =>
   refine evT rfl (evC (rng_spec _ _ _) ?_)
   show Ev (fun k => if in6 b = true then _ else _) _
   cases in6 b with
   | false => exact evF Bool.false_ne_true (evR rfl)
   | true =>
    refine evT rfl (evC (rng_spec _ _ _) ?_)
    show Ev (fun k => if in6 c = true then _ else _) _
    cases in6 c with
    | false => exact evF Bool.false_ne_true (evR rfl)
    | true => exact evT rfl tS
end Go.Proofs.YtgdknepphkhnlaaGreatDoor.Z

/- Does a version fit a path: the program's and the reference's answer are the same. Plain lemmas. -/
set_option linter.unusedVariables false
namespace Go.Proofs.YtgdknepphkhnlaaGreatDoor.Z
open Go.RowKit Go.Proofs.YtgdknepphkhnlaaGreatDoorW.PrintWords Go.Proofs.YtgdknepphkhnlaaGreatDoorW.PrintMore Go.Proofs.YtgdknepphkhnlaaGreatDoor.X Go.Proofs.YtgdknepphkhnlaaGreatDoor.Sp
def fitsM (m a b c : Int) (p : ByteArray) : Bool := decide (0 < m) && (verOk a b c p && (decide (a = m) || (decide (m = 1) && decide (a = 0))))
theorem fits_of (s : ByteArray) (m a b c : Int) (p : ByteArray) (hp : p.size ≤ 1048576) (h1 : Ev (fun k => impl_MajorOf.f k s) m) (h2 : Ev (fun k => spec_MajorOf.f k s) m) :
  Ev (fun k => impl_Fits.f k s a b c p) (fitsM m a b c p) ∧ Ev (fun k => spec_Fits.f k s a b c p) (fitsM m a b c p) := by
 obtain ⟨v1, v2⟩ := verOk_both a b c p hp
 unfold impl_Fits.f spec_Fits.f fitsM
 by_cases hm : 0 < m
 ·rw [decide_eq_true hm, Bool.true_and]
  cases hv : verOk a b c p with
  | false =>
   rw [hv] at v1 v2
   exact ⟨evB h1 (evT hm (evB v1 (evF Bool.false_ne_true (evR rfl)))), evB h2 (evT hm (evB v2 (evF Bool.false_ne_true (evR rfl))))⟩
  | true =>
   rw [hv] at v1 v2
   rw [Bool.true_and]
   refine ⟨evB h1 (evT hm (evB v1 (evT rfl ?_))), evB h2 (evT hm (evB v2 (evT rfl ?_)))⟩
   ·by_cases ha : a = m
    ·exact evT ha (evR (by rw [decide_eq_true ha]; rfl))
    ·refine evF ha ?_
     rw [decide_eq_false ha, Bool.false_or]
     by_cases h0 : a = 0
     ·refine evT h0 (evR ?_)
      rw [decide_eq_true h0, Bool.and_true]
      by_cases h1 : m = 1 <;> simp [h1]
     ·exact evF h0 (evR (by rw [decide_eq_false h0, Bool.and_false]))
   ·by_cases ha : a = m
    ·exact evT ha (evR (by rw [decide_eq_true ha]; rfl))
    ·refine evF ha ?_
     rw [decide_eq_false ha, Bool.false_or]
     by_cases h1 : m = 1
     ·refine evT h1 (evR ?_)
      rw [decide_eq_true h1, Bool.true_and]
      by_cases h0 : a = 0 <;> simp [h0]
     ·exact evF h1 (evR (by rw [decide_eq_false h1, Bool.false_and]))
 ·rw [decide_eq_false hm, Bool.false_and]
  exact ⟨evB h1 (evF z1k (evR rfl)), evB h2 (evF z1k (evR rfl))⟩
theorem fits_both (s : ByteArray) (a b c : Int) (p : ByteArray) (hs : s.size ≤ 1048576) (hp : p.size ≤ 1048576) : ∃ r, Ev (fun k => impl_Fits.f k s a b c p) r ∧ Ev (fun k => spec_Fits.f k s a b c p) r ∧ (r = true → verOk a b c p = true) := by
 obtain ⟨m, h1, h2, _⟩ := maj_both s hs
 obtain ⟨f1, f2⟩ := fits_of s m a b c p hp h1 h2
 refine ⟨_, f1, f2, fun h => ?_⟩
 unfold fitsM at h
 simp only [Bool.and_eq_true] at h
 exact h.2.1
end Go.Proofs.YtgdknepphkhnlaaGreatDoor.Z

/- Needs that rise by their paths: the program's way and the reference's. Plain lemmas. -/
set_option linter.unusedVariables false
namespace Go.Proofs.YtgdknepphkhnlaaGreatDoor.Z
open Go.RowKit Go.Proofs.YtgdknepphkhnlaaGreatDoorW.PrintWords Go.Proofs.YtgdknepphkhnlaaGreatDoorW.PrintMore Go.Proofs.YtgdknepphkhnlaaGreatDoor.X Go.Proofs.YtgdknepphkhnlaaGreatDoor.Sp
theorem rdN {xs : List S35} {i : Nat} (h : i < xs.length) : rd_T35 xs (i : Int) = xs[i] := by
 unfold rd_T35
 simp [List.getD_eq_getElem?_getD, h]
def smallN (y : S35) : Prop := y.f0.size ≤ 1048576 ∧ y.f1.f3.size ≤ 1048576
theorem need_both (y : S35) (h : smallN y) : ∃ r, Ev (fun k => impl_NeedOk.f k y.f0 y.f1.f0 y.f1.f1 y.f1.f2 y.f1.f3) r ∧ Ev (fun k => spec_NeedOk.f k y.f0 y.f1.f0 y.f1.f1 y.f1.f2 y.f1.f3) r ∧ Ev (fun k => impl_Fits.f k y.f0 y.f1.f0 y.f1.f1 y.f1.f2 y.f1.f3) r ∧ Ev (fun k => spec_Fits.f k y.f0 y.f1.f0 y.f1.f1 y.f1.f2 y.f1.f3) r := by
 obtain ⟨r, hI, hS, _⟩ := fits_both y.f0 y.f1.f0 y.f1.f1 y.f1.f2 y.f1.f3 h.1 h.2
 refine ⟨r, ?_, ?_, hI, hS⟩
 ·unfold impl_NeedOk.f
  exact evB hI (evR rfl)
 ·unfold spec_NeedOk.f
  exact evB hS (evR rfl)
theorem rise_l0 (l : List S35) (most : Int) (hn : l.length ≤ 1048576) (hl : ∀ y ∈ l, smallN y) (d : Nat) : ∀ i : Nat, i + d = l.length → ∃ r : Bool,
  Ev (fun k => impl_ascending.l0 k l most l (l.length : Int) (i : Int)) (r && decide ((l.length : Int) ≤ most)) ∧ Ev (fun k => spec_l5Rising.l0 k l (i : Int)) r := by
 induction d with
 | zero =>
  intro i hi
  refine ⟨true, ?_, ?_⟩
  ·refine evS (fun k => by rw [impl_ascending.l0]) ?_
   exact evF z1k (evR (by rw [Bool.true_and]))
  ·refine evS (fun k => by rw [spec_l5Rising.l0]) ?_
   exact evF z1k (evR rfl)
 | succ d ih =>
  intro i hi
  have il : i < l.length := by omega
  obtain ⟨r0, hI, hS, _, _⟩ := need_both l[i] (hl _ (List.getElem_mem il))
  obtain ⟨r, q1, q2⟩ := ih (i + 1) z1k
  have ws := w64s (show i < l.length from il) z1k
  cases r0 with
  | false =>
   refine ⟨false, ?_, ?_⟩
   ·refine evS (fun k => by rw [impl_ascending.l0]) ?_
    rw [rdN il]
    exact evT z1k (evT z1k (evT z1k (evB hI (evF Bool.false_ne_true (evR rfl)))))
   ·refine evS (fun k => by rw [spec_l5Rising.l0]) ?_
    rw [rdN il]
    exact evT z1k (evT z1k (evB hS (evF Bool.false_ne_true (evR rfl))))
  | true =>
   by_cases h0 : i = 0
   ·refine ⟨r, ?_, ?_⟩
    ·refine evS (fun k => by rw [impl_ascending.l0]) ?_
     rw [rdN il, ws]
     exact evT z1k (evT z1k (evT z1k (evB hI (evT rfl (evF z1k q1)))))
    ·refine evS (fun k => by rw [spec_l5Rising.l0]) ?_
     rw [rdN il, ws]
     exact evT z1k (evT z1k (evB hS (evT rfl (evF z1k q2))))
   ·have ip : i - 1 < l.length := by omega
    have wp : wrap64 ((i : Int) - 1) = ((i - 1 : Nat) : Int) := by rw [w64 z1k]; omega
    by_cases hb : Op.bytesLess l[i - 1].f0.toList l[i].f0.toList = true
    ·refine ⟨r, ?_, ?_⟩
     ·refine evS (fun k => by rw [impl_ascending.l0]) ?_
      rw [rdN il, ws, wp, rdN ip]
      exact evT z1k (evT z1k (evT z1k (evB hI (evT rfl (evT z1k (evT z1k (evT z1k (evT hb q1))))))))
     ·refine evS (fun k => by rw [spec_l5Rising.l0]) ?_
      rw [rdN il, ws, wp, rdN ip]
      exact evT z1k (evT z1k (evB hS (evT rfl (evT z1k (evT z1k (evT z1k (evT hb q2)))))))
    ·refine ⟨false, ?_, ?_⟩
     ·refine evS (fun k => by rw [impl_ascending.l0]) ?_
      rw [rdN il, ws, wp, rdN ip]
      exact evT z1k (evT z1k (evT z1k (evB hI (evT rfl (evT z1k (evT z1k (evT z1k (evF hb (evR rfl)))))))))
     ·refine evS (fun k => by rw [spec_l5Rising.l0]) ?_
      rw [rdN il, ws, wp, rdN ip]
      exact evT z1k (evT z1k (evB hS (evT rfl (evT z1k (evT z1k (evT z1k (evF hb (evR rfl))))))))
theorem rise_both (l : List S35) (hn : l.length ≤ 1048576) (hl : ∀ y ∈ l, smallN y) : ∃ r : Bool, (∀ most : Int, Ev (fun k => impl_ascending.f k l most) (r && decide ((l.length : Int) ≤ most))) ∧ Ev (fun k => spec_l5Rising.f k l) r := by
 obtain ⟨r, q1, q2⟩ := rise_l0 l 0 hn hl l.length 0 z1k
 refine ⟨r, fun most => ?_, by unfold spec_l5Rising.f; exact q2⟩
 obtain ⟨r', p1, p2⟩ := rise_l0 l most hn hl l.length 0 z1k
 rw [ev_one p2 q2] at p1
 unfold impl_ascending.f
 exact p1
end Go.Proofs.YtgdknepphkhnlaaGreatDoor.Z

/- Right entries: the program's way and the reference's. Plain lemmas. -/
set_option linter.unusedVariables false
namespace Go.Proofs.YtgdknepphkhnlaaGreatDoor.Z
open Go.RowKit Go.Proofs.YtgdknepphkhnlaaGreatDoorW.PrintWords Go.Proofs.YtgdknepphkhnlaaGreatDoorW.PrintMore Go.Proofs.YtgdknepphkhnlaaGreatDoor.X Go.Proofs.YtgdknepphkhnlaaGreatDoor.Sp
theorem entryOk_l0 (s : ByteArray) (a b c : Int) (p : ByteArray) (l : List S35) (hs : s.size ≤ 1048576) (hp : p.size ≤ 1048576) (hn : l.length ≤ 1048576) (hl : ∀ y ∈ l, smallN y) (d : Nat) : ∀ i : Nat, i + d = l.length → ∃ r : Bool,
  Ev (fun k => impl_EntryOk.l0 k l (l.length : Int) (i : Int) s a b c p l) r ∧ Ev (fun k => spec_EntryOk.l0 k (i : Int) s a b c p l) r := by
 induction d with
 | zero =>
  intro i hi
  obtain ⟨f, fI, fS, _⟩ := fits_both s a b c p hs hp
  obtain ⟨r, rI, rS⟩ := rise_both l hn hl
  refine ⟨f && (r && decide ((l.length : Int) ≤ 8)), ?_, ?_⟩
  ·refine evS (fun k => by rw [impl_EntryOk.l0]) (evF z1k (evB fI ?_))
   cases f with
   | false => exact evF Bool.false_ne_true (evR rfl)
   | true => exact evT rfl (evB (rI 8) (evR rfl))
  ·refine evS (fun k => by rw [spec_EntryOk.l0]) (evF z1k (evB fS ?_))
   cases f with
   | false => exact evF Bool.false_ne_true (evR rfl)
   | true =>
    refine evT rfl ?_
    rw [Bool.true_and]
    by_cases h8 : (l.length : Int) ≤ 8
    ·exact evT h8 (evB rS (evR (by rw [decide_eq_true h8, Bool.and_true])))
    ·exact evF h8 (evR (by rw [decide_eq_false h8, Bool.and_false]))
 | succ d ih =>
  intro i hi
  have il : i < l.length := by omega
  have ws := w64s (show i < l.length from il) z1k
  by_cases he : l[i].f0.toList = s.toList
  ·refine ⟨false, ?_, ?_⟩
   ·refine evS (fun k => by rw [impl_EntryOk.l0]) ?_
    rw [rdN il]
    exact evT z1k (evT z1k (evT z1k (evT he (evR rfl))))
   ·refine evS (fun k => by rw [spec_EntryOk.l0]) ?_
    rw [rdN il]
    exact evT z1k (evT z1k (evT he (evR rfl)))
  ·obtain ⟨r, q1, q2⟩ := ih (i + 1) z1k
   refine ⟨r, ?_, ?_⟩
   ·refine evS (fun k => by rw [impl_EntryOk.l0]) ?_
    rw [rdN il, ws]
    exact evT z1k (evT z1k (evT z1k (evF he q1)))
   ·refine evS (fun k => by rw [spec_EntryOk.l0]) ?_
    rw [rdN il, ws]
    exact evT z1k (evT z1k (evF he q2))
theorem entryOk_both (s : ByteArray) (a b c : Int) (p : ByteArray) (l : List S35) (hs : s.size ≤ 1048576) (hp : p.size ≤ 1048576) (hn : l.length ≤ 1048576) (hl : ∀ y ∈ l, smallN y) : ∃ r : Bool,
  Ev (fun k => impl_EntryOk.f k s a b c p l) r ∧ Ev (fun k => spec_EntryOk.f k s a b c p l) r := by
 unfold impl_EntryOk.f spec_EntryOk.f
 exact entryOk_l0 s a b c p l hs hp hn hl l.length 0 z1k
end Go.Proofs.YtgdknepphkhnlaaGreatDoor.Z
