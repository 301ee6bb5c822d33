/- The law FnExactGetEntry, as a plain statement: the program's GetEntry answers as the reference's, and shares no memory with another call's answer. Conditions: those of the row's reading alone. -/
/- Part 8 of 13 of this claim's texts. -/
import Derived.Test.YtgdknepphkhnlaaGreatDoorCFnExactGetEntry1
import Derived.Test.YtgdknepphkhnlaaGreatDoorCFnExactGetEntry4
import Derived.Test.YtgdknepphkhnlaaGreatDoorCFnExactGetEntry5
import Derived.Test.YtgdknepphkhnlaaGreatDoorCFnExactGetEntry6
namespace Go.Proofs.YtgdknepphkhnlaaGreatDoor.X
open Go.RowKit Go.Proofs.YtgdknepphkhnlaaGreatDoorW.PrintWords Go.Proofs.YtgdknepphkhnlaaGreatDoorW.PrintLast Go.Proofs.YtgdknepphkhnlaaGreatDoorW.PrintMore
attribute [local go_sem] max2_int min2_int max_two min_two max_three min_three max_four min_four
set_option linter.unusedVariables false
set_option linter.unusedSimpArgs false
def spec_ParseName.f (k : Nat) (a0 : ByteArray) : Option (ByteArray × Int × Int × Int × ByteArray × Bool) := (spec_l3Split.f k a0 64).bind fun t473 => (if (t473.length : Int) = 2 then (if 1 < (t473.length : Int) then ((spec_ParseVersion.f k (rdOf ByteArray.empty t473 1)).bind fun bt477 => (if bt477.2.2.2.2 = true then (if 0 < (t473.length : Int) then ((spec_Fits.f k (rdOf ByteArray.empty t473 0) bt477.1 bt477.2.1 bt477.2.2.1 bt477.2.2.2.1).bind fun t484 => (if t484 = true then (some (rdOf ByteArray.empty t473 0, bt477.1, bt477.2.1, bt477.2.2.1, bt477.2.2.2.1, true)) else (some ((⟨#[]⟩ : ByteArray), 0, 0, 0, (⟨#[]⟩ : ByteArray), false)))) else (none)) else (some ((⟨#[]⟩ : ByteArray), 0, 0, 0, (⟨#[]⟩ : ByteArray), false)))) else (none)) else (some ((⟨#[]⟩ : ByteArray), 0, 0, 0, (⟨#[]⟩ : ByteArray), false)))
def spec_ParseName.T5 : Bool × List (List Nat × List Nat) := (true, [([], []), ([0], [0]), ([1], [1]), ([2], [2]), ([3, 2], [2, 3]), ([4, 2], [2, 4]), ([2], [2]), ([5, 6, 2, 2], [2, 5, 6]), ([7, 2], [2, 7]), ([2, 8], [2, 8])])
def spec_ParseName.B5 : List Nat := [0, 1, 3, 7, 15, 31, 7, 127, 255, 511]
theorem spec_ParseName.tab5 : rtab .any (opsOf Tryz.f24 5) = spec_ParseName.T5 := by kernel_rfl
theorem spec_ParseName.bits5 : waitsOk spec_ParseName.T5.2 spec_ParseName.B5 = true := by kernel_rfl
set_option maxHeartbeats 8000000 in
set_option maxRecDepth 100000 in
theorem spec_ParseName.calls (k : Nat) (a0 : ByteArray) (r1 : ByteArray) (r2 : Int) (r3 : Int) (r4 : Int) (r5 : ByteArray) (r6 : Bool) (w : World) (h : spec_ParseName.f k a0 = some (r1, r2, r3, r4, r5, r6)) :
  Calls Tryz.prog 24 #[.string a0] w fun e w' => e = .returned (.tuple #[.agg #[.string r1, .int .i64 r2, .int .i64 r3, .int .i64 r4, .string r5], .bool r6]) ∧ Below w.heap.size w w' := by
 have hu35 := Tryz.underlying35
 have hu25 := Tryz.underlying25
 have HB := zi (Below.refl w.heap.size w)
 have H := h
 unfold spec_ParseName.f at H
 clear h
 replace H := Option.bind_eq_some_iff.mp H
 obtain ⟨t473, A20, H⟩ := H
 try dsimp only at H
 have A2 := zi A20
 clear A20
 by_cases c3 : (t473.length : Int) = 2
 ·rw [if_pos c3] at H
  have c3b0 : ((t473.length : Int) == 2) = true := beq_iff_eq.mpr c3
  have c3b1 : ((t473.length : Int) != 2) = false := bne_eq_false_iff_eq.mpr c3
  clear c3
  by_cases c4 : 1 < (t473.length : Int)
  ·rw [if_pos c4] at H
   have c4b0 := decide_eq_true c4
   have c4b1 : decide (1 < t473.length) = true := decide_eq_true zq
   clear c4
   replace H := Option.bind_eq_some_iff.mp H
   obtain ⟨⟨t477, t478, t479, t480, t481⟩, A50, H⟩ := H
   try dsimp only at H
   have A5 := zi A50
   clear A50
   by_cases c6 : t481 = true
   ·subst c6
    rw [if_pos rfl] at H
    by_cases c7 : 0 < (t473.length : Int)
    ·rw [if_pos c7] at H
     have c7b0 := decide_eq_true c7
     have c7b1 : decide (0 < t473.length) = true := decide_eq_true zq
     clear c7
     replace H := Option.bind_eq_some_iff.mp H
     obtain ⟨t484, A80, H⟩ := H
     try dsimp only at H
     have A8 := zi A80
     clear A80
     by_cases c9 : t484 = true
     ·subst c9
      rw [if_pos rfl] at H
      simp only [Option.some.injEq, Prod.mk.injEq] at H
      obtain ⟨rfl, rfl, rfl, rfl, rfl, rfl⟩ := H
      go_enter Tryz.func24, Tryz.ntmps24
      try go_wp2_with (first | ((with_reducible refine gate_dst (N := 2) rfl ?_); refine box_event zr (N := 2) zr (cs := #[.string (⟨#[]⟩ : ByteArray), .int .i64 0, .int .i64 0, .int .i64 0, .string (⟨#[]⟩ : ByteArray)]) (t := 35) zs ?_; intro gb472 hg w10 hbox hb; have n0_ := zi (below_step zt hb); have n1_ := zi hbox; have n2_ := zi ((z5s : w.heap.size ≤ gb472)); have n3_ := zi ((z5s : w.heap.size ≤ gb472)); clear HB; have HB := n0_; have BK472 := n1_; have GW472 := n2_; have GE472 := n3_; clear n0_ n1_ n2_ n3_; clear hb hbox hg) | ((with_reducible refine gate_callee (f := 56) rfl ?_); refine goesL_ (some 8) rfl rfl Tryz.func56 z1a rfl #[.string a0, .int .u8 64] rfl z1b ?_; (with_reducible refine (spec_l3Split.calls k a0 64 t473 _ A2.out).mono ?_); rintro e w11 ⟨v474, rfl, ho0, hb⟩; refine ⟨_, rfl, ?_⟩; have n0_ := zi (Kd.R_lower ho0 (below_size z4f)); have n1_ := zi (blk_below (g := gb472) (o := .cells #[.string (⟨#[]⟩ : ByteArray), .int .i64 0, .int .i64 0, .int .i64 0, .string (⟨#[]⟩ : ByteArray)] 35 (0, 0)) z4g hb); have n2_ := zi (below_step z4f hb); clear BK472; clear HB; have HO475 := n0_; have BK472 := n1_; have HB := n2_; clear n0_ n1_ n2_; (try clear hb); (try clear hb2); (try clear hk); (try clear hi); (try clear ho0); obtain ⟨Ao12, co12, eo12⟩ := Kd.R_slice HO475.out; subst eo12; have p476 : 0 ≤ (1 : Int) := zq; have q476 : 1 < (t473.length : Int) := of_decide_eq_true z1e; obtain ⟨ad476, e476, hx476_0⟩ := Kd.at_string (Kd.R_reads' HO475.out).2.2 1 p476 q476; cases e476; (try simp only [show (1 : Int).toNat = 1 from rfl, Nat.reduceMul, Nat.reduceEqDiff, Go.Addr.add, ↓reduceIte] at hx476_0); have qi476 : (1 < t473.length) = True := eq_true zq; (try rw [show ((1 : Int)).toNat = 1 from rfl] at hx476_0); replace p476 := eq_true p476; replace q476 := eq_true q476) | ((with_reducible refine gate_callee (f := 57) rfl ?_); refine goesL_ (some 17) rfl rfl Tryz.func57 z1a rfl #[.string (rdOf ByteArray.empty t473 1)] rfl z1b ?_; (with_reducible refine (spec_ParseVersion.calls k (rdOf ByteArray.empty t473 1) t477 t478 t479 t480 true _ A5.out).mono ?_); rintro e w13 ⟨rfl, hb⟩; refine ⟨_, rfl, ?_⟩; have n0_ := zi (Kd.R_below z4h hb); have n1_ := zi (blk_below (g := gb472) (o := .cells #[.string (⟨#[]⟩ : ByteArray), .int .i64 0, .int .i64 0, .int .i64 0, .string (⟨#[]⟩ : ByteArray)] 35 (0, 0)) z4g hb); have n2_ := zi (below_step z4f hb); clear HO475; clear BK472; clear HB; have HO475 := n0_; have BK472 := n1_; have HB := n2_; clear n0_ n1_ n2_; (try clear hb); (try clear hb2); (try clear hk); (try clear hi)) | ((with_reducible refine gate_dst (N := 5) rfl ?_); refine box_event zr (N := 5) zr (cs := #[.int .i64 0, .int .i64 0, .int .i64 0, .string (⟨#[]⟩ : ByteArray)]) (t := 25) zs ?_; intro gb482 hg w14 hbox hb; have n0_ := zi (Kd.R_below z4h hb); have n1_ := zi (blk_below (g := gb472) (o := .cells #[.string (⟨#[]⟩ : ByteArray), .int .i64 0, .int .i64 0, .int .i64 0, .string (⟨#[]⟩ : ByteArray)] 35 (0, 0)) z4g hb); have n2_ := zi (below_step z4f hb); have n3_ := zi hbox; have n4_ := zi ((z6m : w.heap.size ≤ gb482)); have n5_ := zi ((z6m : w.heap.size ≤ gb482)); have n6_ := zi ((z6n : gb472 ≠ gb482)); have n7_ := zi ((z6o : gb482 ≠ gb472)); clear HO475; clear BK472; clear HB; have HO475 := n0_; have BK472 := n1_; have HB := n2_; have BK482 := n3_; have GW482 := n4_; have GE482 := n5_; have NB472_482 := n6_; have NB482_472 := n7_; clear n0_ n1_ n2_ n3_ n4_ n5_ n6_ n7_; clear hb hbox hg; have hnb15 := NB482_472.out; have hnc15 := NB472_482.out; obtain ⟨hcz16_0, hcz16_1, hcz16_2, hcz16_3, hfz16_0, hfz16_1, hfz16_2, hfz16_3⟩ := ze BK482.out))
      have n0_ : Aside0 (Kd.R Kd.string 9 ((((w14.setCell ⟨gb482, 0, none⟩ (.int .i64 t477)).setCell ⟨gb482, 1, none⟩ (.int .i64 t478)).setCell ⟨gb482, 2, none⟩ (.int .i64 t479)).setCell ⟨gb482, 3, none⟩ (.string t480)) w.heap.size (fun _ => True) (.slice (some ad476) t473.length co12) t473) := ⟨z6p⟩
      have n1_ : Aside0 (((((w14.setCell ⟨gb482, 0, none⟩ (.int .i64 t477)).setCell ⟨gb482, 1, none⟩ (.int .i64 t478)).setCell ⟨gb482, 2, none⟩ (.int .i64 t479)).setCell ⟨gb482, 3, none⟩ (.string t480)).heap[gb472]? = some (.cells #[.string (⟨#[]⟩ : ByteArray), .int .i64 0, .int .i64 0, .int .i64 0, .string (⟨#[]⟩ : ByteArray)] 35 (0, 0))) := ⟨z4i⟩
      have n2_ : Aside0 (((((w14.setCell ⟨gb482, 0, none⟩ (.int .i64 t477)).setCell ⟨gb482, 1, none⟩ (.int .i64 t478)).setCell ⟨gb482, 2, none⟩ (.int .i64 t479)).setCell ⟨gb482, 3, none⟩ (.string t480)).heap[gb482]? = some (.cells #[.int .i64 t477, .int .i64 t478, .int .i64 t479, .string t480] 25 (0, 0))) := ⟨z4j⟩
      have n3_ : Aside0 (Below w.heap.size w ((((w14.setCell ⟨gb482, 0, none⟩ (.int .i64 t477)).setCell ⟨gb482, 1, none⟩ (.int .i64 t478)).setCell ⟨gb482, 2, none⟩ (.int .i64 t479)).setCell ⟨gb482, 3, none⟩ (.string t480))) := ⟨z4k⟩
      (try clear HO475)
      (try clear BK472)
      (try clear BK482)
      (try clear HB)
      generalize ((((w14.setCell ⟨gb482, 0, none⟩ (.int .i64 t477)).setCell ⟨gb482, 1, none⟩ (.int .i64 t478)).setCell ⟨gb482, 2, none⟩ (.int .i64 t479)).setCell ⟨gb482, 3, none⟩ (.string t480)) = w17 at n0_ n1_ n2_ n3_ ⊢
      have HO475 := n0_
      have BK472 := n1_
      have BK482 := n2_
      have HB := n3_
      clear n0_ n1_ n2_ n3_
      have n0_ := zi (Kd.R_drew HO475.out)
      have n1_ := zi (blk_drew BK472.out)
      have n2_ := zi (blk_drew BK482.out)
      have n3_ := zi (below_drew1 HB.out)
      clear HO475
      clear BK472
      clear BK482
      clear HB
      have HO475 := n0_
      have BK472 := n1_
      have BK482 := n2_
      have HB := n3_
      clear n0_ n1_ n2_ n3_
      have p483 : 0 ≤ (0 : Int) := zq
      have q483 : 0 < (t473.length : Int) := of_decide_eq_true z1e
      obtain ⟨ad483, e483, hx483_0⟩ := Kd.at_string (Kd.R_reads' HO475.out).2.2 0 p483 q483
      obtain rfl : ad476 = ad483 := (by injection e483)
      have qi483 : (0 < t473.length) = True := eq_true zq
      (try rw [show ((0 : Int)).toNat = 0 from rfl] at hx483_0)
      (try rw [Addr.add_zero'] at hx483_0)
      replace p483 := eq_true p483
      replace q483 := eq_true q483
      refine start_ (n := 10) (S := fun w' => w'.cell? ⟨gb482, 0, none⟩ = some (.int .i64 t477) ∧ w'.cell? ⟨gb482, 1, none⟩ = some (.int .i64 t478) ∧ w'.cell? ⟨gb482, 2, none⟩ = some (.int .i64 t479) ∧ w'.cell? ⟨gb482, 3, none⟩ = some (.string t480) ∧ w'.cell? ad476 = some (.string (rdOf ByteArray.empty t473 0))) (ds := []) #[z7f, z7f, z7f, z7f, z7f, z7f, z7f, z7f, z7f, z7f] z1a rfl rfl ⟨(blk_cell BK482.out 0).trans rfl, (blk_cell BK482.out 1).trans rfl, (blk_cell BK482.out 2).trans rfl, (blk_cell BK482.out 3).trans rfl, hx483_0⟩ (fun hHeld => ?_); refine with_tabW spec_ParseName.tab5 spec_ParseName.bits5 (fun HT_ HW_ => ?_)
      generalize w17.drew = w18 at HO475 BK472 BK482 HB hx483_0 hHeld ⊢
      refine zk 0 (some 20) #[z7e, z7f, z7f, z7f, z7f, z7f, z7f, z7f, z7f, z7f] rfl rfl ?_
      refine zk 1 (some 21) #[z7e, z7e, z7f, z7f, z7f, z7f, z7f, z7f, z7f, z7f] rfl rfl ?_
      refine zk 2 (some 22) #[z7e, z7e, z7e, z7f, z7f, z7f, z7f, z7f, z7f, z7f] rfl rfl ?_
      refine zk 3 (some 23) #[z7e, z7e, z7e, z7e, z7f, z7f, z7f, z7f, z7f, z7f] rfl rfl ?_
      refine zk 4 (some 24) #[z7e, z7e, z7e, z7e, z7e, z7f, z7f, z7f, z7f, z7f] rfl rfl ?_
      refine zm 5 (some 25) #[z7e, z7e, z7e, z7e, z7e, z7e, z7f, z7f, z7f, z7f] rfl rfl (Or.inl ⟨zr, z1z⟩) hHeld ?_
      refine zm 6 (some 26) #[z7e, z7e, z7e, z7e, z7e, z7e, z7e, z7f, z7f, z7f] rfl rfl (Or.inl ⟨zr, z1z⟩) hHeld ?_
      refine one_ (i := 7) (N := some 27) #[z7e, z7e, z7e, z7e, z7e, z7e, z7e, z7e, z7f, z7f] rfl rfl (one_of HT_.out z1a) z1g (fun K hK => ?_)
      refine goes_ Tryz.func33 z1a rfl #[.string (rdOf ByteArray.empty t473 0), .agg #[.int .i64 t477, .int .i64 t478, .int .i64 t479, .string t480]] zr rfl rfl z1b ?_
      with_reducible refine (spec_Fits.calls k (rdOf ByteArray.empty t473 0) t477 t478 t479 t480 true _ A8.out).mono ?_
      rintro e w19 ⟨rfl, hb⟩
      have HS4_ := (hb.cell (World.block_lt_of_cell? _ _ (hHeld.2.2.2.2))).trans (hHeld.2.2.2.2)
      refine ⟨_, rfl, ?_⟩
      have n0_ := zi (Kd.R_below z4h hb)
      have n1_ := zi (blk_below (g := gb472) (o := .cells #[.string (⟨#[]⟩ : ByteArray), .int .i64 0, .int .i64 0, .int .i64 0, .string (⟨#[]⟩ : ByteArray)] 35 (0, 0)) z4g hb)
      have n2_ := zi (blk_below (g := gb482) (o := .cells #[.int .i64 t477, .int .i64 t478, .int .i64 t479, .string t480] 25 (0, 0)) (by (repeat refine zh ?_); exact BK482.out) hb)
      have n3_ := zi (below_step z4k hb)
      clear HO475
      clear BK472
      clear BK482
      clear HB
      have HO475 := n0_
      have BK472 := n1_
      have BK482 := n2_
      have HB := n3_
      clear n0_ n1_ n2_ n3_
      (try clear hb)
      (try clear hb2)
      (try clear hk)
      (try clear hi)
      refine hK.out _ _ ⟨(blk_cell BK482.out 0).trans rfl, (blk_cell BK482.out 1).trans rfl, (blk_cell BK482.out 2).trans rfl, (blk_cell BK482.out 3).trans rfl, HS4_⟩ (fun hHeld => ?_)
      clear hK K
      refine zn (some 27) rfl ?_
      refine zk 8 (some 28) #[z7e, z7e, z7e, z7e, z7e, z7e, z7e, z7e, z7e, z7f] rfl rfl ?_
      refine zk 9 (some 29) #[z7e, z7e, z7e, z7e, z7e, z7e, z7e, z7e, z7e, z7e] rfl rfl ?_
      refine done_ (done_of HT_.out z1a) ?_
      try go_wp2
      have n0_ := zi (Kd.R_drew HO475.out)
      have n1_ := zi (blk_drew BK472.out)
      have n2_ := zi (blk_drew BK482.out)
      have n3_ := zi (below_drew1 HB.out)
      clear HO475
      clear BK472
      clear BK482
      clear HB
      have HO475 := n0_
      have BK472 := n1_
      have BK482 := n2_
      have HB := n3_
      clear n0_ n1_ n2_ n3_
      have p485 : 0 ≤ (0 : Int) := zq
      have q485 : 0 < (t473.length : Int) := of_decide_eq_true z1e
      obtain ⟨ad485, e485, hx485_0⟩ := Kd.at_string (Kd.R_reads' HO475.out).2.2 0 p485 q485
      obtain rfl : ad476 = ad485 := (by injection e485)
      have qi485 : (0 < t473.length) = True := eq_true zq
      (try rw [show ((0 : Int)).toNat = 0 from rfl] at hx485_0)
      (try rw [Addr.add_zero'] at hx485_0)
      replace p485 := eq_true p485
      replace q485 := eq_true q485
      refine start_ (n := 7) (S := fun w' => w'.cell? ⟨gb482, 0, none⟩ = some (.int .i64 t477) ∧ w'.cell? ⟨gb482, 1, none⟩ = some (.int .i64 t478) ∧ w'.cell? ⟨gb482, 2, none⟩ = some (.int .i64 t479) ∧ w'.cell? ⟨gb482, 3, none⟩ = some (.string t480) ∧ w'.cell? ad476 = some (.string (rdOf ByteArray.empty t473 0))) (ds := []) #[z7f, z7f, z7f, z7f, z7f, z7f, z7f] z1a rfl rfl ⟨(blk_cell BK482.out 0).trans rfl, (blk_cell BK482.out 1).trans rfl, (blk_cell BK482.out 2).trans rfl, (blk_cell BK482.out 3).trans rfl, hx485_0⟩ (fun hHeld => ?_)
      generalize w19.drew = w20 at HO475 BK472 BK482 HB hx485_0 hHeld ⊢
      refine pure_ (i := 0) (N := some 31) (v := ?_) (a' := ?_) #[z7e, z7f, z7f, z7f, z7f, z7f, z7f] rfl rfl z1a (fun _ _ _ h => h) (Or.inl ⟨zr, ?_⟩) ?_ ?_
      rotate_left
      ·intro w'
       go_simp
       with_reducible rfl
      rotate_left
      ·simp only [Act.put, z7g, z7h, z7i, i64_w, i32_w]
       rfl
      refine pure_ (i := 1) (N := some 32) (v := ?_) (a' := ?_) #[z7e, z7e, z7f, z7f, z7f, z7f, z7f] rfl rfl z1a (fun _ _ _ h => h) (Or.inl ⟨zr, ?_⟩) ?_ ?_
      rotate_left
      ·intro w'
       go_simp
       with_reducible rfl
      rotate_left
      ·simp only [Act.put, z7g, z7h, z7i, i64_w, i32_w]
       rfl
      refine take_ (i := 2) (N := some 33) (v := ?_) (a' := ?_) #[z7e, z7e, z7e, z7f, z7f, z7f, z7f] rfl rfl z1a (fun _ _ _ h => h) (Or.inl ⟨zr, ?_⟩) hHeld ?_ ?_
      rotate_left
      ·rintro w' ⟨s0, s1, s2, s3, s4⟩
       go_simp
       with_reducible rfl
      rotate_left
      ·simp only [Act.put, z7g, z7h, z7i, i64_w, i32_w]
       rfl
      refine take_ (i := 3) (N := some 34) (v := ?_) (a' := ?_) #[z7e, z7e, z7e, z7e, z7f, z7f, z7f] rfl rfl z1a (fun _ _ _ h => h) (Or.inl ⟨zr, ?_⟩) hHeld ?_ ?_
      rotate_left
      ·rintro w' ⟨s0, s1, s2, s3, s4⟩
       go_simp
       with_reducible rfl
      rotate_left
      ·simp only [Act.put, z7g, z7h, z7i, i64_w, i32_w]
       rfl
      refine pure_ (i := 4) (N := some 35) (v := ?_) (a' := ?_) #[z7e, z7e, z7e, z7e, z7e, z7f, z7f] rfl rfl z1a (fun _ _ _ h => h) (Or.inl ⟨zr, ?_⟩) ?_ ?_
      rotate_left
      ·intro w'
       go_simp
       with_reducible rfl
      rotate_left
      ·simp only [Act.put, z7g, z7h, z7i, i64_w, i32_w]
       rfl
      refine one_ (i := 5) (N := none) #[z7e, z7e, z7e, z7e, z7e, z7e, z7f] rfl rfl z1a z1g (fun K hK => ?_)
      have hs21 : w20.cell? ⟨gb472, 0, none⟩ = some (.string (⟨#[]⟩ : ByteArray)) := (blk_cell BK472.out 0).trans rfl
      have hfs21 := blk_frozen BK472.out 0
      have hns21_1 := NB482_472.out
      have hms21_1 := NB472_482.out
      have hs22 : w20.cell? ⟨gb472, 1, none⟩ = some (.int .i64 0) := (blk_cell BK472.out 1).trans rfl
      have hfs22 := blk_frozen BK472.out 1
      have hns22_1 := NB482_472.out
      have hms22_1 := NB472_482.out
      have hs23 : w20.cell? ⟨gb472, 2, none⟩ = some (.int .i64 0) := (blk_cell BK472.out 2).trans rfl
      have hfs23 := blk_frozen BK472.out 2
      have hns23_1 := NB482_472.out
      have hms23_1 := NB472_482.out
      have hs24 : w20.cell? ⟨gb472, 3, none⟩ = some (.int .i64 0) := (blk_cell BK472.out 3).trans rfl
      have hfs24 := blk_frozen BK472.out 3
      have hns24_1 := NB482_472.out
      have hms24_1 := NB472_482.out
      have hs25 : w20.cell? ⟨gb472, 4, none⟩ = some (.string (⟨#[]⟩ : ByteArray)) := (blk_cell BK472.out 4).trans rfl
      have hfs25 := blk_frozen BK472.out 4
      have hns25_1 := NB482_472.out
      have hms25_1 := NB472_482.out
      refine skip_ (w1 := ?_) zr rfl ?_ ?_
      rotate_left
      ·go_simp
       rfl
      refine hK.out _ _ ⟨((cell_far (p := ⟨gb472, _, none⟩) NB482_472.out _).trans (((cell_far (p := ⟨gb472, _, none⟩) NB482_472.out _).trans (((cell_far (p := ⟨gb472, _, none⟩) NB482_472.out _).trans (((cell_far (p := ⟨gb472, _, none⟩) NB482_472.out _).trans (((cell_far (p := ⟨gb472, _, none⟩) NB482_472.out _).trans (hHeld.1)))))))))), ((cell_far (p := ⟨gb472, _, none⟩) NB482_472.out _).trans (((cell_far (p := ⟨gb472, _, none⟩) NB482_472.out _).trans (((cell_far (p := ⟨gb472, _, none⟩) NB482_472.out _).trans (((cell_far (p := ⟨gb472, _, none⟩) NB482_472.out _).trans (((cell_far (p := ⟨gb472, _, none⟩) NB482_472.out _).trans (hHeld.2.1)))))))))), ((cell_far (p := ⟨gb472, _, none⟩) NB482_472.out _).trans (((cell_far (p := ⟨gb472, _, none⟩) NB482_472.out _).trans (((cell_far (p := ⟨gb472, _, none⟩) NB482_472.out _).trans (((cell_far (p := ⟨gb472, _, none⟩) NB482_472.out _).trans (((cell_far (p := ⟨gb472, _, none⟩) NB482_472.out _).trans (hHeld.2.2.1)))))))))), ((cell_far (p := ⟨gb472, _, none⟩) NB482_472.out _).trans (((cell_far (p := ⟨gb472, _, none⟩) NB482_472.out _).trans (((cell_far (p := ⟨gb472, _, none⟩) NB482_472.out _).trans (((cell_far (p := ⟨gb472, _, none⟩) NB482_472.out _).trans (((cell_far (p := ⟨gb472, _, none⟩) NB482_472.out _).trans (hHeld.2.2.2.1)))))))))), ((cell_far (p := ⟨gb472, _, none⟩) z6q _).trans (((cell_far (p := ⟨gb472, _, none⟩) z6q _).trans (((cell_far (p := ⟨gb472, _, none⟩) z6q _).trans (((cell_far (p := ⟨gb472, _, none⟩) z6q _).trans (((cell_far (p := ⟨gb472, _, none⟩) z6q _).trans (hHeld.2.2.2.2))))))))))⟩ (fun hHeld => ?_)
      clear hK K
      refine pure_ (i := 6) (N := some 3) (v := ?_) (a' := ?_) #[z7e, z7e, z7e, z7e, z7e, z7e, z7e] rfl rfl z1a (fun _ _ _ h => h) (Or.inl ⟨zr, ?_⟩) ?_ ?_
      rotate_left
      ·intro w'
       go_simp
       with_reducible rfl
      rotate_left
      ·simp only [Act.put, z7g, z7h, z7i, i64_w, i32_w]
       rfl
      refine done_ z1a ?_
      try go_wp2
      refine bodyPost_ret (results_ct rfl _ _ gb472 35 #[.string (rdOf ByteArray.empty t473 0), .int .i64 t477, .int .i64 t478, .int .i64 t479, .string t480] (0, 0) _ rfl (by (repeat refine zh ?_); refine blk_put (cs := #[.string (rdOf ByteArray.empty t473 0), .int .i64 t477, .int .i64 t478, .int .i64 t479, .string (⟨#[]⟩ : ByteArray)]) ?_ 4 _ rfl; (repeat refine zh ?_); refine blk_put (cs := #[.string (rdOf ByteArray.empty t473 0), .int .i64 t477, .int .i64 t478, .int .i64 0, .string (⟨#[]⟩ : ByteArray)]) ?_ 3 _ rfl; (repeat refine zh ?_); refine blk_put (cs := #[.string (rdOf ByteArray.empty t473 0), .int .i64 t477, .int .i64 0, .int .i64 0, .string (⟨#[]⟩ : ByteArray)]) ?_ 2 _ rfl; (repeat refine zh ?_); refine blk_put (cs := #[.string (rdOf ByteArray.empty t473 0), .int .i64 0, .int .i64 0, .int .i64 0, .string (⟨#[]⟩ : ByteArray)]) ?_ 1 _ rfl; (repeat refine zh ?_); refine blk_put (cs := #[.string (⟨#[]⟩ : ByteArray), .int .i64 0, .int .i64 0, .int .i64 0, .string (⟨#[]⟩ : ByteArray)]) ?_ 0 _ rfl; (repeat refine zh ?_); exact BK472.out) Tryz.underlying35 rfl z1a) rfl ?_
      exact ⟨zw, z4k⟩
     ·replace c9 := Bool.eq_false_iff.mpr c9
      subst c9
      rw [if_neg zj] at H
      simp only [Option.some.injEq, Prod.mk.injEq] at H
      obtain ⟨rfl, rfl, rfl, rfl, rfl, rfl⟩ := H
      go_enter Tryz.func24, Tryz.ntmps24
      try go_wp2_with (first | ((with_reducible refine gate_dst (N := 2) rfl ?_); refine box_event zr (N := 2) zr (cs := #[.string (⟨#[]⟩ : ByteArray), .int .i64 0, .int .i64 0, .int .i64 0, .string (⟨#[]⟩ : ByteArray)]) (t := 35) zs ?_; intro gb472 hg w26 hbox hb; have n0_ := zi (below_step zt hb); have n1_ := zi hbox; have n2_ := zi ((z5s : w.heap.size ≤ gb472)); have n3_ := zi ((z5s : w.heap.size ≤ gb472)); clear HB; have HB := n0_; have BK472 := n1_; have GW472 := n2_; have GE472 := n3_; clear n0_ n1_ n2_ n3_; clear hb hbox hg) | ((with_reducible refine gate_callee (f := 56) rfl ?_); refine goesL_ (some 8) rfl rfl Tryz.func56 z1a rfl #[.string a0, .int .u8 64] rfl z1b ?_; (with_reducible refine (spec_l3Split.calls k a0 64 t473 _ A2.out).mono ?_); rintro e w27 ⟨v474, rfl, ho0, hb⟩; refine ⟨_, rfl, ?_⟩; have n0_ := zi (Kd.R_lower ho0 (below_size z4f)); have n1_ := zi (blk_below (g := gb472) (o := .cells #[.string (⟨#[]⟩ : ByteArray), .int .i64 0, .int .i64 0, .int .i64 0, .string (⟨#[]⟩ : ByteArray)] 35 (0, 0)) z4g hb); have n2_ := zi (below_step z4f hb); clear BK472; clear HB; have HO475 := n0_; have BK472 := n1_; have HB := n2_; clear n0_ n1_ n2_; (try clear hb); (try clear hb2); (try clear hk); (try clear hi); (try clear ho0); obtain ⟨Ao28, co28, eo28⟩ := Kd.R_slice HO475.out; subst eo28; have p476 : 0 ≤ (1 : Int) := zq; have q476 : 1 < (t473.length : Int) := of_decide_eq_true z1e; obtain ⟨ad476, e476, hx476_0⟩ := Kd.at_string (Kd.R_reads' HO475.out).2.2 1 p476 q476; cases e476; (try simp only [show (1 : Int).toNat = 1 from rfl, Nat.reduceMul, Nat.reduceEqDiff, Go.Addr.add, ↓reduceIte] at hx476_0); have qi476 : (1 < t473.length) = True := eq_true zq; (try rw [show ((1 : Int)).toNat = 1 from rfl] at hx476_0); replace p476 := eq_true p476; replace q476 := eq_true q476) | ((with_reducible refine gate_callee (f := 57) rfl ?_); refine goesL_ (some 17) rfl rfl Tryz.func57 z1a rfl #[.string (rdOf ByteArray.empty t473 1)] rfl z1b ?_; (with_reducible refine (spec_ParseVersion.calls k (rdOf ByteArray.empty t473 1) t477 t478 t479 t480 true _ A5.out).mono ?_); rintro e w29 ⟨rfl, hb⟩; refine ⟨_, rfl, ?_⟩; have n0_ := zi (Kd.R_below z4h hb); have n1_ := zi (blk_below (g := gb472) (o := .cells #[.string (⟨#[]⟩ : ByteArray), .int .i64 0, .int .i64 0, .int .i64 0, .string (⟨#[]⟩ : ByteArray)] 35 (0, 0)) z4g hb); have n2_ := zi (below_step z4f hb); clear HO475; clear BK472; clear HB; have HO475 := n0_; have BK472 := n1_; have HB := n2_; clear n0_ n1_ n2_; (try clear hb); (try clear hb2); (try clear hk); (try clear hi)) | ((with_reducible refine gate_dst (N := 5) rfl ?_); refine box_event zr (N := 5) zr (cs := #[.int .i64 0, .int .i64 0, .int .i64 0, .string (⟨#[]⟩ : ByteArray)]) (t := 25) zs ?_; intro gb482 hg w30 hbox hb; have n0_ := zi (Kd.R_below z4h hb); have n1_ := zi (blk_below (g := gb472) (o := .cells #[.string (⟨#[]⟩ : ByteArray), .int .i64 0, .int .i64 0, .int .i64 0, .string (⟨#[]⟩ : ByteArray)] 35 (0, 0)) z4g hb); have n2_ := zi (below_step z4f hb); have n3_ := zi hbox; have n4_ := zi ((z6m : w.heap.size ≤ gb482)); have n5_ := zi ((z6m : w.heap.size ≤ gb482)); have n6_ := zi ((z6n : gb472 ≠ gb482)); have n7_ := zi ((z6o : gb482 ≠ gb472)); clear HO475; clear BK472; clear HB; have HO475 := n0_; have BK472 := n1_; have HB := n2_; have BK482 := n3_; have GW482 := n4_; have GE482 := n5_; have NB472_482 := n6_; have NB482_472 := n7_; clear n0_ n1_ n2_ n3_ n4_ n5_ n6_ n7_; clear hb hbox hg; have hnb31 := NB482_472.out; have hnc31 := NB472_482.out; obtain ⟨hcz32_0, hcz32_1, hcz32_2, hcz32_3, hfz32_0, hfz32_1, hfz32_2, hfz32_3⟩ := ze BK482.out))
      have n0_ : Aside0 (Kd.R Kd.string 9 ((((w30.setCell ⟨gb482, 0, none⟩ (.int .i64 t477)).setCell ⟨gb482, 1, none⟩ (.int .i64 t478)).setCell ⟨gb482, 2, none⟩ (.int .i64 t479)).setCell ⟨gb482, 3, none⟩ (.string t480)) w.heap.size (fun _ => True) (.slice (some ad476) t473.length co28) t473) := ⟨z6p⟩
      have n1_ : Aside0 (((((w30.setCell ⟨gb482, 0, none⟩ (.int .i64 t477)).setCell ⟨gb482, 1, none⟩ (.int .i64 t478)).setCell ⟨gb482, 2, none⟩ (.int .i64 t479)).setCell ⟨gb482, 3, none⟩ (.string t480)).heap[gb472]? = some (.cells #[.string (⟨#[]⟩ : ByteArray), .int .i64 0, .int .i64 0, .int .i64 0, .string (⟨#[]⟩ : ByteArray)] 35 (0, 0))) := ⟨z4i⟩
      have n2_ : Aside0 (((((w30.setCell ⟨gb482, 0, none⟩ (.int .i64 t477)).setCell ⟨gb482, 1, none⟩ (.int .i64 t478)).setCell ⟨gb482, 2, none⟩ (.int .i64 t479)).setCell ⟨gb482, 3, none⟩ (.string t480)).heap[gb482]? = some (.cells #[.int .i64 t477, .int .i64 t478, .int .i64 t479, .string t480] 25 (0, 0))) := ⟨z4j⟩
      have n3_ : Aside0 (Below w.heap.size w ((((w30.setCell ⟨gb482, 0, none⟩ (.int .i64 t477)).setCell ⟨gb482, 1, none⟩ (.int .i64 t478)).setCell ⟨gb482, 2, none⟩ (.int .i64 t479)).setCell ⟨gb482, 3, none⟩ (.string t480))) := ⟨z4k⟩
      (try clear HO475)
      (try clear BK472)
      (try clear BK482)
      (try clear HB)
      generalize ((((w30.setCell ⟨gb482, 0, none⟩ (.int .i64 t477)).setCell ⟨gb482, 1, none⟩ (.int .i64 t478)).setCell ⟨gb482, 2, none⟩ (.int .i64 t479)).setCell ⟨gb482, 3, none⟩ (.string t480)) = w33 at n0_ n1_ n2_ n3_ ⊢
      have HO475 := n0_
      have BK472 := n1_
      have BK482 := n2_
      have HB := n3_
      clear n0_ n1_ n2_ n3_
      have n0_ := zi (Kd.R_drew HO475.out)
      have n1_ := zi (blk_drew BK472.out)
      have n2_ := zi (blk_drew BK482.out)
      have n3_ := zi (below_drew1 HB.out)
      clear HO475
      clear BK472
      clear BK482
      clear HB
      have HO475 := n0_
      have BK472 := n1_
      have BK482 := n2_
      have HB := n3_
      clear n0_ n1_ n2_ n3_
      have p483 : 0 ≤ (0 : Int) := zq
      have q483 : 0 < (t473.length : Int) := of_decide_eq_true z1e
      obtain ⟨ad483, e483, hx483_0⟩ := Kd.at_string (Kd.R_reads' HO475.out).2.2 0 p483 q483
      obtain rfl : ad476 = ad483 := (by injection e483)
      have qi483 : (0 < t473.length) = True := eq_true zq
      (try rw [show ((0 : Int)).toNat = 0 from rfl] at hx483_0)
      (try rw [Addr.add_zero'] at hx483_0)
      replace p483 := eq_true p483
      replace q483 := eq_true q483
      refine start_ (n := 10) (S := fun w' => w'.cell? ⟨gb482, 0, none⟩ = some (.int .i64 t477) ∧ w'.cell? ⟨gb482, 1, none⟩ = some (.int .i64 t478) ∧ w'.cell? ⟨gb482, 2, none⟩ = some (.int .i64 t479) ∧ w'.cell? ⟨gb482, 3, none⟩ = some (.string t480) ∧ w'.cell? ad476 = some (.string (rdOf ByteArray.empty t473 0))) (ds := []) #[z7f, z7f, z7f, z7f, z7f, z7f, z7f, z7f, z7f, z7f] z1a rfl rfl ⟨(blk_cell BK482.out 0).trans rfl, (blk_cell BK482.out 1).trans rfl, (blk_cell BK482.out 2).trans rfl, (blk_cell BK482.out 3).trans rfl, hx483_0⟩ (fun hHeld => ?_); refine with_tabW spec_ParseName.tab5 spec_ParseName.bits5 (fun HT_ HW_ => ?_)
      generalize w33.drew = w34 at HO475 BK472 BK482 HB hx483_0 hHeld ⊢
      refine zk 0 (some 20) #[z7e, z7f, z7f, z7f, z7f, z7f, z7f, z7f, z7f, z7f] rfl rfl ?_
      refine zk 1 (some 21) #[z7e, z7e, z7f, z7f, z7f, z7f, z7f, z7f, z7f, z7f] rfl rfl ?_
      refine zk 2 (some 22) #[z7e, z7e, z7e, z7f, z7f, z7f, z7f, z7f, z7f, z7f] rfl rfl ?_
      refine zk 3 (some 23) #[z7e, z7e, z7e, z7e, z7f, z7f, z7f, z7f, z7f, z7f] rfl rfl ?_
      refine zk 4 (some 24) #[z7e, z7e, z7e, z7e, z7e, z7f, z7f, z7f, z7f, z7f] rfl rfl ?_
      refine zm 5 (some 25) #[z7e, z7e, z7e, z7e, z7e, z7e, z7f, z7f, z7f, z7f] rfl rfl (Or.inl ⟨zr, z1z⟩) hHeld ?_
      refine zm 6 (some 26) #[z7e, z7e, z7e, z7e, z7e, z7e, z7e, z7f, z7f, z7f] rfl rfl (Or.inl ⟨zr, z1z⟩) hHeld ?_
      refine one_ (i := 7) (N := some 27) #[z7e, z7e, z7e, z7e, z7e, z7e, z7e, z7e, z7f, z7f] rfl rfl (one_of HT_.out z1a) z1g (fun K hK => ?_)
      refine goes_ Tryz.func33 z1a rfl #[.string (rdOf ByteArray.empty t473 0), .agg #[.int .i64 t477, .int .i64 t478, .int .i64 t479, .string t480]] zr rfl rfl z1b ?_
      with_reducible refine (spec_Fits.calls k (rdOf ByteArray.empty t473 0) t477 t478 t479 t480 false _ A8.out).mono ?_
      rintro e w35 ⟨rfl, hb⟩
      have HS4_ := (hb.cell (World.block_lt_of_cell? _ _ (hHeld.2.2.2.2))).trans (hHeld.2.2.2.2)
      refine ⟨_, rfl, ?_⟩
      have n0_ := zi (Kd.R_below z4h hb)
      have n1_ := zi (blk_below (g := gb472) (o := .cells #[.string (⟨#[]⟩ : ByteArray), .int .i64 0, .int .i64 0, .int .i64 0, .string (⟨#[]⟩ : ByteArray)] 35 (0, 0)) z4g hb)
      have n2_ := zi (blk_below (g := gb482) (o := .cells #[.int .i64 t477, .int .i64 t478, .int .i64 t479, .string t480] 25 (0, 0)) (by (repeat refine zh ?_); exact BK482.out) hb)
      have n3_ := zi (below_step z4k hb)
      clear HO475
      clear BK472
      clear BK482
      clear HB
      have HO475 := n0_
      have BK472 := n1_
      have BK482 := n2_
      have HB := n3_
      clear n0_ n1_ n2_ n3_
      (try clear hb)
      (try clear hb2)
      (try clear hk)
      (try clear hi)
      refine hK.out _ _ ⟨(blk_cell BK482.out 0).trans rfl, (blk_cell BK482.out 1).trans rfl, (blk_cell BK482.out 2).trans rfl, (blk_cell BK482.out 3).trans rfl, HS4_⟩ (fun hHeld => ?_)
      clear hK K
      refine zn (some 27) rfl ?_
      refine zk 8 (some 28) #[z7e, z7e, z7e, z7e, z7e, z7e, z7e, z7e, z7e, z7f] rfl rfl ?_
      refine zk 9 (some 29) #[z7e, z7e, z7e, z7e, z7e, z7e, z7e, z7e, z7e, z7e] rfl rfl ?_
      refine done_ (done_of HT_.out z1a) ?_
      obtain ⟨hcz36_0, hcz36_1, hcz36_2, hcz36_3, hcz36_4, hfz36_0, hfz36_1, hfz36_2, hfz36_3, hfz36_4⟩ := zf BK472.out
      try go_wp2
      refine bodyPost_ret (results_ct rfl _ _ gb472 35 #[.string (⟨#[]⟩ : ByteArray), .int .i64 0, .int .i64 0, .int .i64 0, .string (⟨#[]⟩ : ByteArray)] (0, 0) _ rfl z4l Tryz.underlying35 rfl z1a) rfl ?_
      exact ⟨zw, z4k⟩
    ·rw [if_neg c7] at H
     exact absurd H (by simp)
   ·replace c6 := Bool.eq_false_iff.mpr c6
    subst c6
    rw [if_neg zj] at H
    simp only [Option.some.injEq, Prod.mk.injEq] at H
    obtain ⟨rfl, rfl, rfl, rfl, rfl, rfl⟩ := H
    go_enter Tryz.func24, Tryz.ntmps24
    try go_wp2_with (first | ((with_reducible refine gate_dst (N := 2) rfl ?_); refine box_event zr (N := 2) zr (cs := #[.string (⟨#[]⟩ : ByteArray), .int .i64 0, .int .i64 0, .int .i64 0, .string (⟨#[]⟩ : ByteArray)]) (t := 35) zs ?_; intro gb472 hg w37 hbox hb; have n0_ := zi (below_step zt hb); have n1_ := zi hbox; have n2_ := zi ((z5s : w.heap.size ≤ gb472)); have n3_ := zi ((z5s : w.heap.size ≤ gb472)); clear HB; have HB := n0_; have BK472 := n1_; have GW472 := n2_; have GE472 := n3_; clear n0_ n1_ n2_ n3_; clear hb hbox hg) | ((with_reducible refine gate_callee (f := 56) rfl ?_); refine goesL_ (some 8) rfl rfl Tryz.func56 z1a rfl #[.string a0, .int .u8 64] rfl z1b ?_; (with_reducible refine (spec_l3Split.calls k a0 64 t473 _ A2.out).mono ?_); rintro e w38 ⟨v474, rfl, ho0, hb⟩; refine ⟨_, rfl, ?_⟩; have n0_ := zi (Kd.R_lower ho0 (below_size z4f)); have n1_ := zi (blk_below (g := gb472) (o := .cells #[.string (⟨#[]⟩ : ByteArray), .int .i64 0, .int .i64 0, .int .i64 0, .string (⟨#[]⟩ : ByteArray)] 35 (0, 0)) z4g hb); have n2_ := zi (below_step z4f hb); clear BK472; clear HB; have HO475 := n0_; have BK472 := n1_; have HB := n2_; clear n0_ n1_ n2_; (try clear hb); (try clear hb2); (try clear hk); (try clear hi); (try clear ho0); obtain ⟨Ao39, co39, eo39⟩ := Kd.R_slice HO475.out; subst eo39; have p476 : 0 ≤ (1 : Int) := zq; have q476 : 1 < (t473.length : Int) := of_decide_eq_true z1e; obtain ⟨ad476, e476, hx476_0⟩ := Kd.at_string (Kd.R_reads' HO475.out).2.2 1 p476 q476; cases e476; (try simp only [show (1 : Int).toNat = 1 from rfl, Nat.reduceMul, Nat.reduceEqDiff, Go.Addr.add, ↓reduceIte] at hx476_0); have qi476 : (1 < t473.length) = True := eq_true zq; (try rw [show ((1 : Int)).toNat = 1 from rfl] at hx476_0); replace p476 := eq_true p476; replace q476 := eq_true q476) | ((with_reducible refine gate_callee (f := 57) rfl ?_); refine goesL_ (some 17) rfl rfl Tryz.func57 z1a rfl #[.string (rdOf ByteArray.empty t473 1)] rfl z1b ?_; (with_reducible refine (spec_ParseVersion.calls k (rdOf ByteArray.empty t473 1) t477 t478 t479 t480 false _ A5.out).mono ?_); rintro e w40 ⟨rfl, hb⟩; refine ⟨_, rfl, ?_⟩; have n0_ := zi (Kd.R_below z4h hb); have n1_ := zi (blk_below (g := gb472) (o := .cells #[.string (⟨#[]⟩ : ByteArray), .int .i64 0, .int .i64 0, .int .i64 0, .string (⟨#[]⟩ : ByteArray)] 35 (0, 0)) z4g hb); have n2_ := zi (below_step z4f hb); clear HO475; clear BK472; clear HB; have HO475 := n0_; have BK472 := n1_; have HB := n2_; clear n0_ n1_ n2_; (try clear hb); (try clear hb2); (try clear hk); (try clear hi)) | ((with_reducible refine gate_dst (N := 5) rfl ?_); refine box_event zr (N := 5) zr (cs := #[.int .i64 0, .int .i64 0, .int .i64 0, .string (⟨#[]⟩ : ByteArray)]) (t := 25) zs ?_; intro gb482 hg w41 hbox hb; have n0_ := zi (Kd.R_below z4h hb); have n1_ := zi (blk_below (g := gb472) (o := .cells #[.string (⟨#[]⟩ : ByteArray), .int .i64 0, .int .i64 0, .int .i64 0, .string (⟨#[]⟩ : ByteArray)] 35 (0, 0)) z4g hb); have n2_ := zi (below_step z4f hb); have n3_ := zi hbox; have n4_ := zi ((z6m : w.heap.size ≤ gb482)); have n5_ := zi ((z6m : w.heap.size ≤ gb482)); have n6_ := zi ((z6n : gb472 ≠ gb482)); have n7_ := zi ((z6o : gb482 ≠ gb472)); clear HO475; clear BK472; clear HB; have HO475 := n0_; have BK472 := n1_; have HB := n2_; have BK482 := n3_; have GW482 := n4_; have GE482 := n5_; have NB472_482 := n6_; have NB482_472 := n7_; clear n0_ n1_ n2_ n3_ n4_ n5_ n6_ n7_; clear hb hbox hg; have hnb42 := NB482_472.out; have hnc42 := NB472_482.out; obtain ⟨hcz43_0, hcz43_1, hcz43_2, hcz43_3, hfz43_0, hfz43_1, hfz43_2, hfz43_3⟩ := ze BK482.out))
    have n0_ : Aside0 (Kd.R Kd.string 9 ((((w41.setCell ⟨gb482, 0, none⟩ (.int .i64 t477)).setCell ⟨gb482, 1, none⟩ (.int .i64 t478)).setCell ⟨gb482, 2, none⟩ (.int .i64 t479)).setCell ⟨gb482, 3, none⟩ (.string t480)) w.heap.size (fun _ => True) (.slice (some ad476) t473.length co39) t473) := ⟨z6p⟩
    have n1_ : Aside0 (((((w41.setCell ⟨gb482, 0, none⟩ (.int .i64 t477)).setCell ⟨gb482, 1, none⟩ (.int .i64 t478)).setCell ⟨gb482, 2, none⟩ (.int .i64 t479)).setCell ⟨gb482, 3, none⟩ (.string t480)).heap[gb472]? = some (.cells #[.string (⟨#[]⟩ : ByteArray), .int .i64 0, .int .i64 0, .int .i64 0, .string (⟨#[]⟩ : ByteArray)] 35 (0, 0))) := ⟨z4i⟩
    have n2_ : Aside0 (((((w41.setCell ⟨gb482, 0, none⟩ (.int .i64 t477)).setCell ⟨gb482, 1, none⟩ (.int .i64 t478)).setCell ⟨gb482, 2, none⟩ (.int .i64 t479)).setCell ⟨gb482, 3, none⟩ (.string t480)).heap[gb482]? = some (.cells #[.int .i64 t477, .int .i64 t478, .int .i64 t479, .string t480] 25 (0, 0))) := ⟨z4j⟩
    have n3_ : Aside0 (Below w.heap.size w ((((w41.setCell ⟨gb482, 0, none⟩ (.int .i64 t477)).setCell ⟨gb482, 1, none⟩ (.int .i64 t478)).setCell ⟨gb482, 2, none⟩ (.int .i64 t479)).setCell ⟨gb482, 3, none⟩ (.string t480))) := ⟨z4k⟩
    (try clear HO475)
    (try clear BK472)
    (try clear BK482)
    (try clear HB)
    generalize ((((w41.setCell ⟨gb482, 0, none⟩ (.int .i64 t477)).setCell ⟨gb482, 1, none⟩ (.int .i64 t478)).setCell ⟨gb482, 2, none⟩ (.int .i64 t479)).setCell ⟨gb482, 3, none⟩ (.string t480)) = w44 at n0_ n1_ n2_ n3_ ⊢
    have HO475 := n0_
    have BK472 := n1_
    have BK482 := n2_
    have HB := n3_
    clear n0_ n1_ n2_ n3_
    have n0_ := zi (Kd.R_drew HO475.out)
    have n1_ := zi (blk_drew BK472.out)
    have n2_ := zi (blk_drew BK482.out)
    have n3_ := zi (below_drew1 HB.out)
    clear HO475
    clear BK472
    clear BK482
    clear HB
    have HO475 := n0_
    have BK472 := n1_
    have BK482 := n2_
    have HB := n3_
    clear n0_ n1_ n2_ n3_
    refine start_ (n := 10) (S := fun w' => True) (ds := []) #[z7f, z7f, z7f, z7f, z7f, z7f, z7f, z7f, z7f, z7f] z1a rfl rfl trivial (fun hHeld => ?_); refine with_tabW spec_ParseName.tab5 spec_ParseName.bits5 (fun HT_ HW_ => ?_)
    generalize w44.drew = w45 at HO475 BK472 BK482 HB hHeld ⊢
    refine zk 0 (some 20) #[z7e, z7f, z7f, z7f, z7f, z7f, z7f, z7f, z7f, z7f] rfl rfl ?_
    refine zk 1 (some 21) #[z7e, z7e, z7f, z7f, z7f, z7f, z7f, z7f, z7f, z7f] rfl rfl ?_
    refine zk 2 (some 22) #[z7e, z7e, z7e, z7f, z7f, z7f, z7f, z7f, z7f, z7f] rfl rfl ?_
    refine pure_ (i := 3) (N := some 23) (v := undef) (a' := ?_) #[z7e, z7e, z7e, z7e, z7f, z7f, z7f, z7f, z7f, z7f] rfl rfl (any_of HT_.out z1a) (fun _ _ _ h => h) (Or.inr ⟨zr, rfl⟩) ?_ ?_
    rotate_left
    ·simp only [Act.put, z7g, z7h, z7i, i64_w, i32_w]
     rfl
    refine pure_ (i := 4) (N := some 24) (v := undef) (a' := ?_) #[z7e, z7e, z7e, z7e, z7e, z7f, z7f, z7f, z7f, z7f] rfl rfl (any_of HT_.out z1a) (fun _ _ _ h => h) (Or.inr ⟨zr, rfl⟩) ?_ ?_
    rotate_left
    ·simp only [Act.put, z7g, z7h, z7i, i64_w, i32_w]
     rfl
    refine pure_ (i := 5) (N := some 25) (v := undef) (a' := ?_) #[z7e, z7e, z7e, z7e, z7e, z7e, z7f, z7f, z7f, z7f] rfl rfl (any_of HT_.out z1a) (fun _ _ _ h => h) (Or.inr ⟨zr, rfl⟩) ?_ ?_
    rotate_left
    ·simp only [Act.put, z7g, z7h, z7i, i64_w, i32_w]
     rfl
    refine pure_ (i := 6) (N := some 26) (v := undef) (a' := ?_) #[z7e, z7e, z7e, z7e, z7e, z7e, z7e, z7f, z7f, z7f] rfl rfl (any_of HT_.out z1a) (fun _ _ _ h => h) (Or.inr ⟨zr, rfl⟩) ?_ ?_
    rotate_left
    ·simp only [Act.put, z7g, z7h, z7i, i64_w, i32_w]
     rfl
    refine pure_ (i := 7) (N := some 27) (v := undef) (a' := ?_) #[z7e, z7e, z7e, z7e, z7e, z7e, z7e, z7e, z7f, z7f] rfl rfl (any_of HT_.out z1a) (fun _ _ _ h => h) (Or.inr ⟨zr, rfl⟩) ?_ ?_
    rotate_left
    ·simp only [Act.put, z7g, z7h, z7i, i64_w, i32_w]
     rfl
    refine pure_ (i := 8) (N := some 28) (v := undef) (a' := ?_) #[z7e, z7e, z7e, z7e, z7e, z7e, z7e, z7e, z7e, z7f] rfl rfl (any_of HT_.out z1a) (fun _ _ _ h => h) (Or.inr ⟨zr, rfl⟩) ?_ ?_
    rotate_left
    ·simp only [Act.put, z7g, z7h, z7i, i64_w, i32_w]
     rfl
    refine zk 9 (some 29) #[z7e, z7e, z7e, z7e, z7e, z7e, z7e, z7e, z7e, z7e] rfl rfl ?_
    refine done_ (done_of HT_.out z1a) ?_
    obtain ⟨hcz46_0, hcz46_1, hcz46_2, hcz46_3, hcz46_4, hfz46_0, hfz46_1, hfz46_2, hfz46_3, hfz46_4⟩ := zf BK472.out
    try go_wp2
    refine bodyPost_ret (results_ct rfl _ _ gb472 35 #[.string (⟨#[]⟩ : ByteArray), .int .i64 0, .int .i64 0, .int .i64 0, .string (⟨#[]⟩ : ByteArray)] (0, 0) _ rfl z4l Tryz.underlying35 rfl z1a) rfl ?_
    exact ⟨zw, z4k⟩
  ·rw [if_neg c4] at H
   exact absurd H (by simp)
 ·rw [if_neg c3] at H
  have c3b0 : ((t473.length : Int) == 2) = false := beq_eq_false_iff_ne.mpr c3
  have c3b1 : ((t473.length : Int) != 2) = true := bne_iff_ne.mpr c3
  simp only [Option.some.injEq, Prod.mk.injEq] at H
  obtain ⟨rfl, rfl, rfl, rfl, rfl, rfl⟩ := H
  go_enter Tryz.func24, Tryz.ntmps24
  go_wp2_with (first | ((with_reducible refine gate_dst (N := 2) rfl ?_); refine box_event zr (N := 2) zr (cs := #[.string (⟨#[]⟩ : ByteArray), .int .i64 0, .int .i64 0, .int .i64 0, .string (⟨#[]⟩ : ByteArray)]) (t := 35) zs ?_; intro gb472 hg w47 hbox hb; have n0_ := zi (below_step zt hb); have n1_ := zi hbox; have n2_ := zi ((z5s : w.heap.size ≤ gb472)); have n3_ := zi ((z5s : w.heap.size ≤ gb472)); clear HB; have HB := n0_; have BK472 := n1_; have GW472 := n2_; have GE472 := n3_; clear n0_ n1_ n2_ n3_; clear hb hbox hg) | ((with_reducible refine gate_callee (f := 56) rfl ?_); refine goesL_ (some 8) rfl rfl Tryz.func56 z1a rfl #[.string a0, .int .u8 64] rfl z1b ?_; (with_reducible refine (spec_l3Split.calls k a0 64 t473 _ A2.out).mono ?_); rintro e w48 ⟨v474, rfl, ho0, hb⟩; refine ⟨_, rfl, ?_⟩; have n0_ := zi (Kd.R_lower ho0 (below_size z4f)); have n1_ := zi (blk_below (g := gb472) (o := .cells #[.string (⟨#[]⟩ : ByteArray), .int .i64 0, .int .i64 0, .int .i64 0, .string (⟨#[]⟩ : ByteArray)] 35 (0, 0)) z4g hb); have n2_ := zi (below_step z4f hb); clear BK472; clear HB; have HO475 := n0_; have BK472 := n1_; have HB := n2_; clear n0_ n1_ n2_; (try clear hb); (try clear hb2); (try clear hk); (try clear hi); (try clear ho0); obtain ⟨Ao49, co49, eo49⟩ := Kd.R_slice HO475.out; subst eo49; obtain ⟨hcz50_0, hcz50_1, hcz50_2, hcz50_3, hcz50_4, hfz50_0, hfz50_1, hfz50_2, hfz50_3, hfz50_4⟩ := zf BK472.out))
  refine bodyPost_ret (results_ct rfl _ _ gb472 35 #[.string (⟨#[]⟩ : ByteArray), .int .i64 0, .int .i64 0, .int .i64 0, .string (⟨#[]⟩ : ByteArray)] (0, 0) _ rfl z4l Tryz.underlying35 rfl z1a) rfl ?_
  exact ⟨zw, z4f⟩
mutual
def spec_GetNum.l0 : Nat → List Int → Int → Int → Int → Option (Int × Int × Bool)
 | 0, _, _, _, _ => none
 | k + 1, x0, x1, x7, x8 => if x8 < 5 then (if x1 ≥ 0 then (if x1 < (x0.length : Int) then (spec_GetNum.j1 k x0 x1 x7 x8 (decide ((wrap64 (x1 + x8)) < (x0.length : Int)))) else (spec_GetNum.j1 k x0 x1 x7 x8 false)) else (spec_GetNum.j1 k x0 x1 x7 x8 false)) else (spec_GetNum.j1 k x0 x1 x7 x8 false)
def spec_GetNum.j1 : Nat → List Int → Int → Int → Int → Bool → Option (Int × Int × Bool)
 | 0, _, _, _, _, _ => none
 | k + 1, x0, x1, x7, x8, x29 => if x29 = true then (if 0 ≤ (wrap64 (x1 + x8)) then (if (wrap64 (x1 + x8)) < (x0.length : Int) then (if 0 ≤ (IntKind.u64.wrap (wrap64 (7 * x8))) then (if (wrap64 (rd x0 (wrap64 (x1 + x8)))) > 127 then (spec_GetNum.l0 k x0 x1 (Go.bits .or .i64 x7 (shl .i64 (Go.bits .and .i64 (wrap64 (rd x0 (wrap64 (x1 + x8)))) 127) (IntKind.u64.wrap (wrap64 (7 * x8))))) (wrap64 (x8 + 1))) else (if x8 > 0 then (if (wrap64 (rd x0 (wrap64 (x1 + x8)))) = 0 then (some (0, 0, false)) else (if (Go.bits .or .i64 x7 (shl .i64 (Go.bits .and .i64 (wrap64 (rd x0 (wrap64 (x1 + x8)))) 127) (IntKind.u64.wrap (wrap64 (7 * x8))))) > 1000000000 then (some (0, 0, false)) else (some (Go.bits .or .i64 x7 (shl .i64 (Go.bits .and .i64 (wrap64 (rd x0 (wrap64 (x1 + x8)))) 127) (IntKind.u64.wrap (wrap64 (7 * x8)))), wrap64 ((wrap64 (x1 + x8)) + 1), true)))) else (if (Go.bits .or .i64 x7 (shl .i64 (Go.bits .and .i64 (wrap64 (rd x0 (wrap64 (x1 + x8)))) 127) (IntKind.u64.wrap (wrap64 (7 * x8))))) > 1000000000 then (some (0, 0, false)) else (some (Go.bits .or .i64 x7 (shl .i64 (Go.bits .and .i64 (wrap64 (rd x0 (wrap64 (x1 + x8)))) 127) (IntKind.u64.wrap (wrap64 (7 * x8)))), wrap64 ((wrap64 (x1 + x8)) + 1), true))))) else (none)) else (none)) else (none)) else (some (0, 0, false))
end
def spec_GetNum.f (k : Nat) (l0 : List Int) (a1 : Int) : Option (Int × Int × Bool) := spec_GetNum.l0 k l0 a1 0 0
set_option maxHeartbeats 8000000 in
set_option maxRecDepth 100000 in
theorem spec_GetNum.calls (k : Nat) (A0 : Option Addr) (c0 : Nat) (l0 : List Int) (a1 : Int) (r1 : Int) (r2 : Int) (r3 : Bool) (w : World) (hr0 : Kd.C (Kd.int .u8) w A0 l0.length l0) (hc0 : l0.length ≤ c0) (h : spec_GetNum.f k l0 a1 = some (r1, r2, r3)) :
  Calls Tryz.prog 79 #[.slice A0 l0.length c0, .int .i64 a1] w fun e w' => e = .returned (.tuple #[.int .i64 r1, .int .i64 r2, .bool r3]) ∧ Drawn0 w w' := by
 have HR0 := zi hr0
 have HC0 := zi hc0
 clear hr0 hc0
 have H := h
 unfold spec_GetNum.f at H
 clear h
 have H' := zi H
 clear H
 go_enter Tryz.func79, Tryz.ntmps79
 go_wp2
 go_loopg [7, 8] k (fun kq v7 v8 w' => ∃ (x7_1 : Int) (x8_1 : Int), v7 = .int .i64 x7_1 ∧ v8 = .int .i64 x8_1 ∧ Aside0 (spec_GetNum.l0 kq l0 a1 x7_1 x8_1 = some (r1, r2, r3)) ∧ Aside0 (kq ≤ k) ∧ Drawn0 w w')
 case atStart => exact ⟨(0), (0), z1d, z1d, H', ⟨Nat.le_refl _⟩, z1n⟩
 case round =>
  clear H'
  try clear p2
  obtain ⟨x7_1, x8_1, rfl, rfl, HA, HK1, ⟨m1, rfl⟩⟩ := hrel
  cases gk with
  | zero => exact absurd HA.out (by simp [spec_GetNum.l0])
  | succ k1 =>
   have H := HA.out
   clear HA
   simp only [spec_GetNum.l0] at H
   have HC3 := zi H
   clear H
   go_upto_region 3 with (fail)
   go_cut [29] (fun v29 wc => ∃ (kq : Nat) (x29_2 : Bool), v29 = .bool x29_2 ∧ Aside0 (spec_GetNum.j1 kq l0 a1 x7_1 x8_1 x29_2 = some (r1, r2, r3)) ∧ Aside0 (kq ≤ k1) ∧ Drawn0 w wc)
   case first =>
    have H := HC3.out
    clear HC3
    by_cases c4 : x8_1 < 5
    ·rw [if_pos c4] at H
     have c4b0 := decide_eq_true c4
     clear c4
     (first | rw [c4b0] | (simp only [i64_w, i32_w]; rw [c4b0]) | skip)
     by_cases c5 : a1 ≥ 0
     ·rw [if_pos c5] at H
      have c5b0 := decide_eq_true c5
      clear c5
      by_cases c6 : a1 < (l0.length : Int)
      ·rw [if_pos c6] at H
       have c6b0 := decide_eq_true c6
       clear c6
       have H' := zi H
       clear H
       go_wp2
       go_meet
       case rel => exact ⟨_, (decide ((wrap64 (a1 + x8_1)) < (l0.length : Int))), z1d, H', ⟨z2y⟩, z1n⟩
      ·rw [if_neg c6] at H
       have c6b0 := decide_eq_false c6
       clear c6
       have H' := zi H
       clear H
       go_wp2
       go_meet
       case rel => exact ⟨_, (false), z1d, H', ⟨z2y⟩, z1n⟩
     ·rw [if_neg c5] at H
      have c5b0 := decide_eq_false c5
      clear c5
      have H' := zi H
      clear H
      go_wp2
      go_meet
      case rel => exact ⟨_, (false), z1d, H', ⟨z2y⟩, z1n⟩
    ·rw [if_neg c4] at H
     have c4b0 := decide_eq_false c4
     clear c4
     (first | rw [c4b0] | (simp only [i64_w, i32_w]; rw [c4b0]) | skip)
     have H' := zi H
     clear H
     go_wp2
     go_meet
     case rel => exact ⟨_, (false), z1d, H', ⟨z2y⟩, z1n⟩
   case rest =>
    clear HC3
    try clear p2
    try clear c4
    try clear c4b0
    try clear c5
    try clear c5b0
    try clear c6
    try clear c6b0
    try clear p6
    try clear p2
    obtain ⟨kq, x29_2, rfl, HA, HJ2, ⟨mc2, rfl⟩⟩ := hcut
    cases kq with
    | zero => exact absurd HA.out (by simp [spec_GetNum.j1])
    | succ kj2 =>
     have H := HA.out
     clear HA
     simp only [spec_GetNum.j1] at H
     by_cases c7 : x29_2 = true
     ·subst c7
      rw [if_pos rfl] at H
      obtain ⟨ji8, hji8⟩ : ∃ j_ : Int, (wrap64 (a1 + x8_1)) = j_ := ⟨_, rfl⟩
      replace H : (if 0 ≤ (ji8) then (if (ji8) < (l0.length : Int) then (if 0 ≤ (IntKind.u64.wrap (wrap64 (7 * x8_1))) then (if (wrap64 (rd l0 (ji8))) > 127 then (spec_GetNum.l0 kj2 l0 a1 (Go.bits .or .i64 x7_1 (shl .i64 (Go.bits .and .i64 (wrap64 (rd l0 (ji8))) 127) (IntKind.u64.wrap (wrap64 (7 * x8_1))))) (wrap64 (x8_1 + 1))) else (if x8_1 > 0 then (if (wrap64 (rd l0 (ji8))) = 0 then (some (0, 0, false)) else (if (Go.bits .or .i64 x7_1 (shl .i64 (Go.bits .and .i64 (wrap64 (rd l0 (ji8))) 127) (IntKind.u64.wrap (wrap64 (7 * x8_1))))) > 1000000000 then (some (0, 0, false)) else (some (Go.bits .or .i64 x7_1 (shl .i64 (Go.bits .and .i64 (wrap64 (rd l0 (ji8))) 127) (IntKind.u64.wrap (wrap64 (7 * x8_1)))), wrap64 ((ji8) + 1), true)))) else (if (Go.bits .or .i64 x7_1 (shl .i64 (Go.bits .and .i64 (wrap64 (rd l0 (ji8))) 127) (IntKind.u64.wrap (wrap64 (7 * x8_1))))) > 1000000000 then (some (0, 0, false)) else (some (Go.bits .or .i64 x7_1 (shl .i64 (Go.bits .and .i64 (wrap64 (rd l0 (ji8))) 127) (IntKind.u64.wrap (wrap64 (7 * x8_1)))), wrap64 ((ji8) + 1), true))))) else (none)) else (none)) else (none)) = some (r1, r2, r3) := by first | (rw [hji8] at H; exact H) | (simp only [hji8] at H ⊢; exact H)
      have hji8w : (IntKind.i64.wrap (a1 + x8_1)) = ji8 := (i64_w _).trans hji8
      by_cases c9 : 0 ≤ (ji8)
      ·rw [if_pos c9] at H
       have c9b0 := decide_eq_true c9
       clear c9
       by_cases c10 : (ji8) < (l0.length : Int)
       ·rw [if_pos c10] at H
        have c10b0 := decide_eq_true c10
        clear c10
        obtain ⟨ji11, hji11⟩ : ∃ j_ : Int, (IntKind.u64.wrap (wrap64 (7 * x8_1))) = j_ := ⟨_, rfl⟩
        replace H : (if 0 ≤ (ji11) then (if (wrap64 (rd l0 (ji8))) > 127 then (spec_GetNum.l0 kj2 l0 a1 (Go.bits .or .i64 x7_1 (shl .i64 (Go.bits .and .i64 (wrap64 (rd l0 (ji8))) 127) (ji11))) (wrap64 (x8_1 + 1))) else (if x8_1 > 0 then (if (wrap64 (rd l0 (ji8))) = 0 then (some (0, 0, false)) else (if (Go.bits .or .i64 x7_1 (shl .i64 (Go.bits .and .i64 (wrap64 (rd l0 (ji8))) 127) (ji11))) > 1000000000 then (some (0, 0, false)) else (some (Go.bits .or .i64 x7_1 (shl .i64 (Go.bits .and .i64 (wrap64 (rd l0 (ji8))) 127) (ji11)), wrap64 ((ji8) + 1), true)))) else (if (Go.bits .or .i64 x7_1 (shl .i64 (Go.bits .and .i64 (wrap64 (rd l0 (ji8))) 127) (ji11))) > 1000000000 then (some (0, 0, false)) else (some (Go.bits .or .i64 x7_1 (shl .i64 (Go.bits .and .i64 (wrap64 (rd l0 (ji8))) 127) (ji11)), wrap64 ((ji8) + 1), true))))) else (none)) = some (r1, r2, r3) := by first | (rw [hji11] at H; exact H) | (simp only [hji11] at H ⊢; exact H)
        by_cases c12 : 0 ≤ (ji11)
        ·rw [if_pos c12] at H
         have c12b0 := eq_true c12
         have c12b1 := decide_eq_true c12
         clear c12
         obtain ⟨ji13, hji13⟩ : ∃ j_ : Int, (shl .i64 (Go.bits .and .i64 (wrap64 (rd l0 (ji8))) 127) (ji11)) = j_ := ⟨_, rfl⟩
         replace H : (if (wrap64 (rd l0 (ji8))) > 127 then (spec_GetNum.l0 kj2 l0 a1 (Go.bits .or .i64 x7_1 (ji13)) (wrap64 (x8_1 + 1))) else (if x8_1 > 0 then (if (wrap64 (rd l0 (ji8))) = 0 then (some (0, 0, false)) else (if (Go.bits .or .i64 x7_1 (ji13)) > 1000000000 then (some (0, 0, false)) else (some (Go.bits .or .i64 x7_1 (ji13), wrap64 ((ji8) + 1), true)))) else (if (Go.bits .or .i64 x7_1 (ji13)) > 1000000000 then (some (0, 0, false)) else (some (Go.bits .or .i64 x7_1 (ji13), wrap64 ((ji8) + 1), true))))) = some (r1, r2, r3) := by first | (rw [hji13] at H; exact H) | (simp only [hji13] at H ⊢; exact H)
         have hji13_ : (IntKind.i64.wrap ((Go.bits .and .i64 (wrap64 (rd l0 (ji8))) 127) * 2 ^ min (ji11).toNat 64)) = ji13 := hji13
         have hji13z : (ji11) ≤ 64 → (IntKind.i64.wrap ((Go.bits .and .i64 (wrap64 (rd l0 (ji8))) 127) * 2 ^ (ji11).toNat)) = ji13 := shl_small hji13
         have hji13y : (wrap64 ((Go.bits .and .i64 (wrap64 (rd l0 (ji8))) 127) * 2 ^ min (ji11).toNat 64)) = ji13 := (i64_w _).symm.trans hji13_
         have hji13x : (ji11) ≤ 64 → (wrap64 ((Go.bits .and .i64 (wrap64 (rd l0 (ji8))) 127) * 2 ^ (ji11).toNat)) = ji13 := fun h_ => (i64_w _).symm.trans (hji13z h_)
         by_cases c14 : (wrap64 (rd l0 (ji8))) > 127
         ·rw [if_pos c14] at H
          have c14b0 := decide_eq_true c14
          clear c14
          have H' := zi H
          clear H
          have p486 : 0 ≤ ((ji8) : Int) := of_decide_eq_true z1e
          have q486 : (ji8) < (l0.length : Int) := of_decide_eq_true z1e
          obtain ⟨ad486, e486, hx486_0⟩ := Kd.at_int HR0.out (ji8) p486 q486
          cases e486
          replace p486 := eq_true p486
          replace q486 := eq_true q486
          go_wp2
          go_roundg kj2
          case measure => have := HK1.out; have := HJ2.out; omega
          case rel => exact ⟨(Go.bits .or .i64 x7_1 (ji13)), (wrap64 (x8_1 + 1)), (by first | rfl | (simp; done) | (simp only [← hji13] <;> (first | rfl | simp)) | (simp [*]; done)), z1d, H', ⟨by have := HK1.out; have := HJ2.out; omega⟩, z1n⟩
         ·rw [if_neg c14] at H
          have c14b0 := decide_eq_false c14
          clear c14
          by_cases c15 : x8_1 > 0
          ·rw [if_pos c15] at H
           have c15b0 := decide_eq_true c15
           clear c15
           by_cases c16 : (wrap64 (rd l0 (ji8))) = 0
           ·rw [if_pos c16] at H
            have c16b0 : ((wrap64 (rd l0 (ji8))) == 0) = true := beq_iff_eq.mpr c16
            have c16b1 : ((wrap64 (rd l0 (ji8))) != 0) = false := bne_eq_false_iff_eq.mpr c16
            clear c16
            simp only [Option.some.injEq, Prod.mk.injEq] at H
            obtain ⟨rfl, rfl, rfl⟩ := H
            have p486 : 0 ≤ ((ji8) : Int) := of_decide_eq_true z1e
            have q486 : (ji8) < (l0.length : Int) := of_decide_eq_true z1e
            obtain ⟨ad486, e486, hx486_0⟩ := Kd.at_int HR0.out (ji8) p486 q486
            cases e486
            replace p486 := eq_true p486
            replace q486 := eq_true q486
            go_wp2
            go_ret3
            exact ⟨z4m, z1n⟩
           ·rw [if_neg c16] at H
            have c16b0 : ((wrap64 (rd l0 (ji8))) == 0) = false := beq_eq_false_iff_ne.mpr c16
            have c16b1 : ((wrap64 (rd l0 (ji8))) != 0) = true := bne_iff_ne.mpr c16
            by_cases c17 : (Go.bits .or .i64 x7_1 (ji13)) > 1000000000
            ·rw [if_pos c17] at H
             have c17b0 := decide_eq_true c17
             clear c17
             simp only [Option.some.injEq, Prod.mk.injEq] at H
             obtain ⟨rfl, rfl, rfl⟩ := H
             have p486 : 0 ≤ ((ji8) : Int) := of_decide_eq_true z1e
             have q486 : (ji8) < (l0.length : Int) := of_decide_eq_true z1e
             obtain ⟨ad486, e486, hx486_0⟩ := Kd.at_int HR0.out (ji8) p486 q486
             cases e486
             replace p486 := eq_true p486
             replace q486 := eq_true q486
             go_wp2
             go_ret3
             exact ⟨z4m, z1n⟩
            ·rw [if_neg c17] at H
             have c17b0 := decide_eq_false c17
             clear c17
             simp only [Option.some.injEq, Prod.mk.injEq] at H
             obtain ⟨rfl, rfl, rfl⟩ := H
             have p486 : 0 ≤ ((ji8) : Int) := of_decide_eq_true z1e
             have q486 : (ji8) < (l0.length : Int) := of_decide_eq_true z1e
             obtain ⟨ad486, e486, hx486_0⟩ := Kd.at_int HR0.out (ji8) p486 q486
             cases e486
             replace p486 := eq_true p486
             replace q486 := eq_true q486
             go_wp2
             go_ret3
             exact ⟨z4m, z1n⟩
          ·rw [if_neg c15] at H
           have c15b0 := decide_eq_false c15
           clear c15
           by_cases c18 : (Go.bits .or .i64 x7_1 (ji13)) > 1000000000
           ·rw [if_pos c18] at H
            have c18b0 := decide_eq_true c18
            clear c18
            simp only [Option.some.injEq, Prod.mk.injEq] at H
            obtain ⟨rfl, rfl, rfl⟩ := H
            have p486 : 0 ≤ ((ji8) : Int) := of_decide_eq_true z1e
            have q486 : (ji8) < (l0.length : Int) := of_decide_eq_true z1e
            obtain ⟨ad486, e486, hx486_0⟩ := Kd.at_int HR0.out (ji8) p486 q486
            cases e486
            replace p486 := eq_true p486
            replace q486 := eq_true q486
            go_wp2
            go_ret3
            exact ⟨z4m, z1n⟩
           ·rw [if_neg c18] at H
            have c18b0 := decide_eq_false c18
            clear c18
            simp only [Option.some.injEq, Prod.mk.injEq] at H
            obtain ⟨rfl, rfl, rfl⟩ := H
            have p486 : 0 ≤ ((ji8) : Int) := of_decide_eq_true z1e
            have q486 : (ji8) < (l0.length : Int) := of_decide_eq_true z1e
            obtain ⟨ad486, e486, hx486_0⟩ := Kd.at_int HR0.out (ji8) p486 q486
            cases e486
            replace p486 := eq_true p486
            replace q486 := eq_true q486
            go_wp2
            go_ret3
            exact ⟨z4m, z1n⟩
        ·rw [if_neg c12] at H
         exact absurd H (by simp)
       ·rw [if_neg c10] at H
        exact absurd H (by simp)
      ·rw [if_neg c9] at H
       exact absurd H (by simp)
     ·replace c7 := Bool.eq_false_iff.mpr c7
      subst c7
      rw [if_neg zj] at H
      simp only [Option.some.injEq, Prod.mk.injEq] at H
      obtain ⟨rfl, rfl, rfl⟩ := H
      go_wp2
      go_ret3
      exact ⟨z1d, z1n⟩
def spec_GetText.f (k : Nat) (l0 : List Int) (a1 : Int) : Option (ByteArray × Int × Bool) := (spec_GetNum.f k l0 a1).bind fun bt487 => (if bt487.2.2 = true then (if bt487.1 > (wrap64 ((l0.length : Int) - bt487.2.1)) then (some ((⟨#[]⟩ : ByteArray), 0, false)) else (if 0 ≤ bt487.2.1 then (if bt487.2.1 ≤ (wrap64 (bt487.2.1 + bt487.1)) then (if (wrap64 (bt487.2.1 + bt487.1)) ≤ (l0.length : Int) then (some (strOfNums ((l0.take ((wrap64 (bt487.2.1 + bt487.1)) : Int).toNat).drop (bt487.2.1 : Int).toNat), wrap64 (bt487.2.1 + bt487.1), true)) else (none)) else (none)) else (none))) else (some ((⟨#[]⟩ : ByteArray), 0, false)))
set_option maxHeartbeats 8000000 in
set_option maxRecDepth 100000 in
theorem spec_GetText.calls (k : Nat) (A0 : Option Addr) (c0 : Nat) (l0 : List Int) (a1 : Int) (r1 : ByteArray) (r2 : Int) (r3 : Bool) (w : World) (hr0 : Kd.C (Kd.int .u8) w A0 l0.length l0) (hc0 : l0.length ≤ c0) (h : spec_GetText.f k l0 a1 = some (r1, r2, r3)) :
  Calls Tryz.prog 43 #[.slice A0 l0.length c0, .int .i64 a1] w fun e w' => e = .returned (.tuple #[.string r1, .int .i64 r2, .bool r3]) ∧ Drawn0 w w' := by
 have HR0 := zi hr0
 have HC0 := zi hc0
 clear hr0 hc0
 have H := h
 unfold spec_GetText.f at H
 clear h
 replace H := Option.bind_eq_some_iff.mp H
 obtain ⟨⟨t487, t488, t489⟩, A30, H⟩ := H
 try dsimp only at H
 have A3 := zi A30
 clear A30
 by_cases c4 : t489 = true
 ·subst c4
  rw [if_pos rfl] at H
  by_cases c5 : t487 > (wrap64 ((l0.length : Int) - t488))
  ·rw [if_pos c5] at H
   have c5b0 := decide_eq_true c5
   clear c5
   simp only [Option.some.injEq, Prod.mk.injEq] at H
   obtain ⟨rfl, rfl, rfl⟩ := H
   go_enter Tryz.func43, Tryz.ntmps43
   go_wp2_with (first | ((with_reducible refine gate_callee (f := 79) rfl ?_); refine goesL_ (some 13) rfl rfl Tryz.func79 z1a rfl #[.slice A0 l0.length c0, .int .i64 a1] rfl z1b ?_; (with_reducible refine (spec_GetNum.calls k _ _ l0 a1 t487 t488 true _ ?side1 ?side2 A3.out).mono ?_); (case side1 => exact z3a); (case side2 => exact HC0.out); rintro e w' ⟨rfl, ⟨nd, rfl⟩⟩; refine ⟨_, rfl, ?_⟩))
   go_ret3
   exact ⟨z1d, z1n⟩
  ·rw [if_neg c5] at H
   have c5b0 := decide_eq_false c5
   clear c5
   by_cases c6 : 0 ≤ t488
   ·rw [if_pos c6] at H
    have c6b0 := eq_true c6
    have c6b1 := decide_eq_true c6
    clear c6
    by_cases c7 : t488 ≤ (wrap64 (t488 + t487))
    ·rw [if_pos c7] at H
     have c7b0 := eq_true c7
     have c7b1 := decide_eq_true c7
     by_cases c8 : (wrap64 (t488 + t487)) ≤ (l0.length : Int)
     ·rw [if_pos c8] at H
      have c8b0 := eq_true c8
      have c8b1 := decide_eq_true c8
      simp only [Option.some.injEq, Prod.mk.injEq] at H
      obtain ⟨rfl, rfl, rfl⟩ := H
      go_enter Tryz.func43, Tryz.ntmps43
      go_wp2_with (first | ((with_reducible refine gate_callee (f := 79) rfl ?_); refine goesL_ (some 13) rfl rfl Tryz.func79 z1a rfl #[.slice A0 l0.length c0, .int .i64 a1] rfl z1b ?_; (with_reducible refine (spec_GetNum.calls k _ _ l0 a1 t487 t488 true _ ?side1 ?side2 A3.out).mono ?_); (case side1 => exact z3a); (case side2 => exact HC0.out); rintro e w' ⟨rfl, ⟨nd, rfl⟩⟩; refine ⟨_, rfl, ?_⟩; obtain ⟨i09, hi09, _, hsz9, _⟩ := info_parts info5; obtain ⟨A9, hcut9, hA9, hC9⟩ := print_mid_of (P := Tryz.prog) (Value.int .u8) 0 22 5 .i64 .i64 Tryz.underlying22 hi09 hsz9 A0 c0 l0 t488 (wrap64 (t488 + t487)) (of_decide_eq_true z1e) (by first | omega | exact of_decide_eq_true z1e) (of_decide_eq_true z1e) HC0.out; have HR490 := zi (Kd.C_of_reads (h1 := fun _ => rfl) (hA9 _ (Kd.reads_of_C HR0.out))); have HC490 := zi hC9; clear hA9 hC9 hi09 hsz9; have hcv10 := Kd.C_string (P := Tryz.prog) (A := A9) (c := (c0 - t488.toNat)) Tryz.underlying22 Tryz.underlying5 Tryz.underlying9 HR490.out; have hcv11 : ∀ (n_ : Nat), n_ = ((l0.take ((wrap64 (t488 + t487)) : Int).toNat).drop (t488 : Int).toNat).length → ∀ m_, (convert 22 9 (.slice A9 n_ (c0 - t488.toNat))).run Tryz.prog (w.drewN m_) = .ok (.string (strOfNums ((l0.take ((wrap64 (t488 + t487)) : Int).toNat).drop (t488 : Int).toNat))) (w.drewN m_) := fun n_ hn_ m_ => hn_ ▸ Kd.C_string (P := Tryz.prog) (A := A9) (c := (c0 - t488.toNat)) Tryz.underlying22 Tryz.underlying5 Tryz.underlying9 (Kd.C_drewN HR490.out m_)))
      go_ret3
      exact ⟨z1d, z1n⟩
     ·rw [if_neg c8] at H
      exact absurd H (by simp)
    ·rw [if_neg c7] at H
     exact absurd H (by simp)
   ·rw [if_neg c6] at H
    exact absurd H (by simp)
 ·replace c4 := Bool.eq_false_iff.mpr c4
  subst c4
  rw [if_neg zj] at H
  simp only [Option.some.injEq, Prod.mk.injEq] at H
  obtain ⟨rfl, rfl, rfl⟩ := H
  go_enter Tryz.func43, Tryz.ntmps43
  go_wp2_with (first | ((with_reducible refine gate_callee (f := 79) rfl ?_); refine goesL_ (some 13) rfl rfl Tryz.func79 z1a rfl #[.slice A0 l0.length c0, .int .i64 a1] rfl z1b ?_; (with_reducible refine (spec_GetNum.calls k _ _ l0 a1 t487 t488 false _ ?side1 ?side2 A3.out).mono ?_); (case side1 => exact z3a); (case side2 => exact HC0.out); rintro e w' ⟨rfl, ⟨nd, rfl⟩⟩; refine ⟨_, rfl, ?_⟩))
  go_ret3
  exact ⟨z1d, z1n⟩
mutual
def spec_GetTexts.j0 : Nat → List Int → Int → Int → Bool → Option (List ByteArray × Int × Bool)
 | 0, _, _, _, _ => none
 | k + 1, x0, x7, x8, x27 => if x27 = true then (some ((([] : List ByteArray)), 0, false)) else (spec_GetTexts.l0 k x0 x7 x8 (([] : List ByteArray)) 0)
def spec_GetTexts.l0 : Nat → List Int → Int → Int → List ByteArray → Int → Option (List ByteArray × Int × Bool)
 | 0, _, _, _, _, _ => none
 | k + 1, x0, x7, x8, x10, x11 => if x11 < x7 then ((spec_GetText.f k x0 x8).bind fun bt500 => (if bt500.2.2 = true then (if x10.length < 8796093022208 then (spec_GetTexts.l0 k x0 x7 bt500.2.1 (x10 ++ [bt500.1]) (wrap64 (x11 + 1))) else (none)) else (some ((([] : List ByteArray)), 0, false)))) else (some (x10, x8, true))
end
def spec_GetTexts.f (k : Nat) (l0 : List Int) (a1 : Int) : Option (List ByteArray × Int × Bool) := (spec_GetNum.f k l0 a1).bind fun bt491 => (if bt491.2.2 = true then (spec_GetTexts.j0 k l0 bt491.1 bt491.2.1 (decide (bt491.1 > 200))) else (spec_GetTexts.j0 k l0 bt491.1 bt491.2.1 true))
set_option maxHeartbeats 8000000 in
set_option maxRecDepth 100000 in
theorem spec_GetTexts.calls (k : Nat) (A0 : Option Addr) (c0 : Nat) (l0 : List Int) (a1 : Int) (r1 : List ByteArray) (r2 : Int) (r3 : Bool) (w : World) (hr0 : Kd.C (Kd.int .u8) w A0 l0.length l0) (hc0 : l0.length ≤ c0) (h : spec_GetTexts.f k l0 a1 = some (r1, r2, r3)) :
  Calls Tryz.prog 44 #[.slice A0 l0.length c0, .int .i64 a1] w fun e w' => ∃ v0_ : Value, e = .returned (.tuple #[v0_, .int .i64 r2, .bool r3]) ∧ Kd.R Kd.string 9 w' w.heap.size (fun _ => True) v0_ r1 ∧ Below w.heap.size w w' := by
 have HR0 := zi hr0
 have HC0 := zi hc0
 clear hr0 hc0
 have HB := zi (Below.refl w.heap.size w)
 have H := h
 unfold spec_GetTexts.f at H
 clear h
 replace H := Option.bind_eq_some_iff.mp H
 obtain ⟨⟨t491, t492, t493⟩, A30, H⟩ := H
 try dsimp only at H
 have A3 := zi A30
 clear A30
 have HC4 := zi H
 clear H
 go_enter Tryz.func44, Tryz.ntmps44
 go_upto_region 2 with (first | ((with_reducible refine gate_callee (f := 79) rfl ?_); refine goesL_ (some 18) rfl rfl Tryz.func79 z1a rfl #[.slice A0 l0.length c0, .int .i64 a1] rfl z1b ?_; (with_reducible refine (spec_GetNum.calls k _ _ l0 a1 t491 t492 t493 _ ?side1 ?side2 A3.out).mono ?_); (case side1 => exact z3a); (case side2 => exact HC0.out); rintro e w' ⟨rfl, ⟨nd, rfl⟩⟩; refine ⟨_, rfl, ?_⟩))
 (try simp only [Act.put, z7g, z7h, z7i])
 go_cut [27] (fun v27 wc => ∃ (kq : Nat) (x27_3 : Bool), v27 = .bool x27_3 ∧ Aside0 (spec_GetTexts.j0 kq l0 t491 t492 x27_3 = some (r1, r2, r3)) ∧ Aside0 (kq ≤ k) ∧ Aside0 (Below w.heap.size w wc))
 case first =>
  have H := HC4.out
  clear HC4
  by_cases c5 : t493 = true
  ·subst c5
   rw [if_pos rfl] at H
   have H' := zi H
   clear H
   go_wp2
   go_meet
   case rel => exact ⟨_, (decide (t491 > 200)), z1d, H', ⟨z1q⟩, ⟨zt⟩⟩
  ·replace c5 := Bool.eq_false_iff.mpr c5
   subst c5
   rw [if_neg zj] at H
   have H' := zi H
   clear H
   go_wp2
   go_meet
   case rel => exact ⟨_, (true), z1d, H', ⟨z1q⟩, ⟨zt⟩⟩
 case rest =>
  clear HC4
  try clear p2
  try clear c4
  try clear c5
  obtain ⟨kq, x27_3, rfl, HA, HJ3, HB⟩ := hcut
  cases kq with
  | zero => exact absurd HA.out (by simp [spec_GetTexts.j0])
  | succ kj3 =>
   have H := HA.out
   clear HA
   simp only [spec_GetTexts.j0] at H
   by_cases c6 : x27_3 = true
   ·subst c6
    rw [if_pos rfl] at H
    obtain ⟨y494, hy494⟩ : ∃ y_ : List ByteArray, y_ = (([] : List ByteArray)) := ⟨_, rfl⟩
    replace H : (some (y494, 0, false)) = some (r1, r2, r3) := by first | (rw [hy494]; with_reducible exact H) | (have H2_ := (Option.bind_some _ _).symm.trans H; rw [hy494]; with_reducible exact H2_) | (have H2_ := (Option.bind_some _ _).symm.trans H; with_reducible exact H2_) | with_reducible exact H | (rw [hy494]; exact H) | exact H
    have Ny494 := zi hy494
    clear hy494
    simp only [Option.some.injEq, Prod.mk.injEq] at H
    obtain ⟨rfl, rfl, rfl⟩ := H
    go_wp2_with (first | ((with_reducible refine gate_dst (N := 28) rfl ?_); refine Kd.R_lit Kd.string _ 9 ?hg (N := 28) ?hd (xs := ([] : List ByteArray)) (inner := []) (ok := fun _ => True) (okp := fun _ => True) ?hr ?hp (fun _ hk => hk) trivial (Below.refl _ _) (Nat.le_refl _) (by simp) ?_; (case hd => exact zr); (case hg => exact zr); (case hr => exact zs); (case hp => exact (Reps.none _ _)); intro v495 w7 ho8 hb hg_ hnew_; clear hg_ hnew_; (first | rw [← Ny494.out] at ho8 | (simp only [Int.reduceToNat] at ho8; rw [← Ny494.out] at ho8)); have n0_ := zi (Kd.R_lower ho8 (below_size zt)); have n1_ := zi (below_step zt hb); clear HB; have HO496 := n0_; have HB := n1_; clear n0_ n1_; clear hb ho8))
    go_ret3
    exact ⟨_, zw, by (with_reducible repeat (first | apply Kd.R_alloc | apply Kd.R_drewN | apply Kd.R_drew)); exact HO496.out, zt⟩
   ·replace c6 := Bool.eq_false_iff.mpr c6
    subst c6
    rw [if_neg zj] at H
    obtain ⟨y497, hy497⟩ : ∃ y_ : List ByteArray, y_ = (([] : List ByteArray)) := ⟨_, rfl⟩
    replace H : (spec_GetTexts.l0 kj3 l0 t491 t492 y497 0) = some (r1, r2, r3) := by first | (rw [hy497]; with_reducible exact H) | (have H2_ := (Option.bind_some _ _).symm.trans H; rw [hy497]; with_reducible exact H2_) | (have H2_ := (Option.bind_some _ _).symm.trans H; with_reducible exact H2_) | with_reducible exact H | (rw [hy497]; exact H) | exact H
    have Ny497 := zi hy497
    clear hy497
    have H' := zi H
    clear H
    go_wp2_with (first | ((with_reducible refine gate_dst (N := 29) rfl ?_); refine Kd.R_lit Kd.string _ 9 ?hg (N := 29) ?hd (xs := ([] : List ByteArray)) (inner := []) (ok := fun _ => True) (okp := fun _ => True) ?hr ?hp (fun _ hk => hk) trivial (Below.refl _ _) (Nat.le_refl _) (by simp) ?_; (case hd => exact zr); (case hg => exact zr); (case hr => exact zs); (case hp => exact (Reps.none _ _)); intro v498 w9 ho10 hb hg_ hnew_; clear hg_ hnew_; (first | rw [← Ny497.out] at ho10 | (simp only [Int.reduceToNat] at ho10; rw [← Ny497.out] at ho10)); have n0_ := zi (Kd.R_lower ho10 (below_size zt)); have n1_ := zi (below_step zt hb); clear HB; have HO499 := n0_; have HB := n1_; clear n0_ n1_; clear hb ho10))
    go_loopg [8, 10, 11] kj3 (fun kq v8 v10 v11 w' => ∃ (x8_2 : Int) (x10_2 : List ByteArray) (x11_2 : Int), v8 = .int .i64 x8_2 ∧ v11 = .int .i64 x11_2 ∧ Aside0 (spec_GetTexts.l0 kq l0 t491 x8_2 x10_2 x11_2 = some (r1, r2, r3)) ∧ Aside0 (kq ≤ kj3) ∧ Aside0 (Kd.R Kd.string 9 w' w.heap.size (fun _ => True) v10 x10_2) ∧ Aside0 (Below w.heap.size w w'))
    case atStart => exact ⟨(t492), (y497), (0), z1d, z1d, H', ⟨Nat.le_refl _⟩, ⟨by (with_reducible repeat (first | apply Kd.R_alloc | apply Kd.R_drewN | apply Kd.R_drew)); exact HO499.out⟩, ⟨zt⟩⟩
    case round =>
     clear H'
     try clear p2
     try clear c4
     try clear c5
     try clear c6
     try clear c7
     try clear p2
     obtain ⟨x8_2, x10_2, x11_2, rfl, rfl, HA, HK2, HO_10, HB⟩ := hrel
     cases gk with
     | zero => exact absurd HA.out (by simp [spec_GetTexts.l0])
     | succ k2 =>
      have H := HA.out
      clear HA
      simp only [spec_GetTexts.l0] at H
      by_cases c11 : x11_2 < t491
      ·rw [if_pos c11] at H
       have c11b0 := decide_eq_true c11
       clear c11
       replace H := Option.bind_eq_some_iff.mp H
       obtain ⟨⟨t500, t501, t502⟩, A120, H⟩ := H
       try dsimp only at H
       have A12 := zi A120
       clear A120
       by_cases c13 : t502 = true
       ·subst c13
        rw [if_pos rfl] at H
        by_cases c14 : x10_2.length < 8796093022208
        ·rw [if_pos c14] at H
         have LMc14 := zi c14
         clear c14
         obtain ⟨y503, hy503⟩ : ∃ y_ : List ByteArray, y_ = (x10_2 ++ [t500]) := ⟨_, rfl⟩
         replace H : (spec_GetTexts.l0 k2 l0 t491 t501 y503 (wrap64 (x11_2 + 1))) = some (r1, r2, r3) := by first | (rw [hy503]; with_reducible exact H) | (have H2_ := (Option.bind_some _ _).symm.trans H; rw [hy503]; with_reducible exact H2_) | (have H2_ := (Option.bind_some _ _).symm.trans H; with_reducible exact H2_) | with_reducible exact H | (rw [hy503]; exact H) | exact H
         have Ny503 := zi hy503
         clear hy503
         have H' := zi H
         clear H
         go_wp2_with (first | ((with_reducible refine gate_callee (f := 43) rfl ?_); refine goesL_ (some 38) rfl rfl Tryz.func43 z1a rfl #[.slice A0 l0.length c0, .int .i64 x8_2] rfl z1b ?_; (with_reducible refine (spec_GetText.calls k2 _ _ l0 x8_2 t500 t501 true _ ?side1 ?side2 A12.out).mono ?_); (case side1 => exact z3d); (case side2 => exact HC0.out); rintro e w' ⟨rfl, ⟨nd, rfl⟩⟩; refine ⟨_, rfl, ?_⟩) | ((with_reducible refine gate_builtin (b := .append) (xs := #[.tmp 45, .tmp 47]) rfl ?_); at_builtin; refine Kd.R_append Kd.string (w0 := w) w.heap.size rfl (.tmp 45) (.tmp 47) 55 9 (.string ⟨#[]⟩) 16 rfl Tryz.underlying55 info9 rfl z1g zq u10 x10_2 t500 [.string t500] (fun _ => True) (fun _ => False) rfl rfl ?aP (fun _ hk => hk.elim) ?aF ?aO ?aB ?aS ?aL ?_; (case aP => exact rfl); (case aB => exact zt); (case aF => exact (fun _ _ => trivial)); (case aO => exact z3c); (case aS => exact (below_size zt)); (case aL => have := LMc14.out; omega); intro v504 w15 ho hb hg hat; rw [← Ny503.out] at ho; have n0_ := zi hb; have n1_ := zi ho; clear HB; clear HO_10; have HB := n0_; have HO505 := n1_; clear n0_ n1_; clear ho hb hg hat))
         go_roundg k2
         case measure => have := HJ3.out; have := HK2.out; omega
         case rel => exact ⟨(t501), (y503), (wrap64 (x11_2 + 1)), z1d, z1d, H', ⟨by have := HJ3.out; have := HK2.out; omega⟩, ⟨by (with_reducible repeat (first | apply Kd.R_alloc | apply Kd.R_drewN | apply Kd.R_drew)); exact HO505.out⟩, ⟨zt⟩⟩
        ·rw [if_neg c14] at H
         exact absurd H (by simp)
       ·replace c13 := Bool.eq_false_iff.mpr c13
        subst c13
        rw [if_neg zj] at H
        obtain ⟨y506, hy506⟩ : ∃ y_ : List ByteArray, y_ = (([] : List ByteArray)) := ⟨_, rfl⟩
        replace H : (some (y506, 0, false)) = some (r1, r2, r3) := by first | (rw [hy506]; with_reducible exact H) | (have H2_ := (Option.bind_some _ _).symm.trans H; rw [hy506]; with_reducible exact H2_) | (have H2_ := (Option.bind_some _ _).symm.trans H; with_reducible exact H2_) | with_reducible exact H | (rw [hy506]; exact H) | exact H
        have Ny506 := zi hy506
        clear hy506
        simp only [Option.some.injEq, Prod.mk.injEq] at H
        obtain ⟨rfl, rfl, rfl⟩ := H
        go_wp2_with (first | ((with_reducible refine gate_callee (f := 43) rfl ?_); refine goesL_ (some 38) rfl rfl Tryz.func43 z1a rfl #[.slice A0 l0.length c0, .int .i64 x8_2] rfl z1b ?_; (with_reducible refine (spec_GetText.calls k2 _ _ l0 x8_2 t500 t501 false _ ?side1 ?side2 A12.out).mono ?_); (case side1 => exact z3d); (case side2 => exact HC0.out); rintro e w' ⟨rfl, ⟨nd, rfl⟩⟩; refine ⟨_, rfl, ?_⟩) | ((with_reducible refine gate_dst (N := 44) rfl ?_); refine Kd.R_lit Kd.string _ 9 ?hg (N := 44) ?hd (xs := ([] : List ByteArray)) (inner := []) (ok := fun _ => True) (okp := fun _ => True) ?hr ?hp (fun _ hk => hk) trivial (Below.refl _ _) (Nat.le_refl _) (by simp) ?_; (case hd => exact zr); (case hg => exact zr); (case hr => exact zs); (case hp => exact (Reps.none _ _)); intro v507 w16 ho17 hb hg_ hnew_; clear hg_ hnew_; (first | rw [← Ny506.out] at ho17 | (simp only [Int.reduceToNat] at ho17; rw [← Ny506.out] at ho17)); have n0_ := zi (Kd.R_elder' z3c (Kd.R_base ho17) hb); have n1_ := zi (Kd.R_lower (Kd.R_new' ho17 (Kd.R_lt z3c)) (below_size zt)); have n2_ := zi (below_step zt hb); clear HO_10; clear HB; have HO_10 := n0_; have HO508 := n1_; have HB := n2_; clear n0_ n1_ n2_; clear hb ho17))
        go_ret3
        exact ⟨_, zw, by (with_reducible repeat (first | apply Kd.R_alloc | apply Kd.R_drewN | apply Kd.R_drew)); exact Kd.R_mono HO508.out (fun _ hk => trivial), zt⟩
      ·rw [if_neg c11] at H
       have c11b0 := decide_eq_false c11
       clear c11
       simp only [Option.some.injEq, Prod.mk.injEq] at H
       obtain ⟨rfl, rfl, rfl⟩ := H
       go_wp2
       go_ret3
       exact ⟨_, zw, z3c, zt⟩
end Go.Proofs.YtgdknepphkhnlaaGreatDoor.X
