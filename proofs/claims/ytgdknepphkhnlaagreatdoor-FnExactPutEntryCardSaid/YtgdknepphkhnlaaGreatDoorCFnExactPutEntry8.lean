/- The law FnExactPutEntry, as a plain statement: the program's PutEntry answers as the reference's, and leaves its argument alone. Conditions: those of the row's reading alone. -/
/- Part 9 of 10 of this claim's texts. -/
import Derived.Deep.Slices
import Derived.ChangeArms
import Derived.WideShapes
import Derived.DataReads
import Derived.Test.YtgdknepphkhnlaaGreatDoorRows
import Derived.WalkKit
import Derived.ProofKit
import Derived.Test.YtgdknepphkhnlaaGreatDoorCFnExactPutEntry0
import Derived.Test.YtgdknepphkhnlaaGreatDoorCFnExactPutEntry1
import Derived.Test.YtgdknepphkhnlaaGreatDoorCFnExactPutEntry2
import Derived.Test.YtgdknepphkhnlaaGreatDoorCFnExactPutEntry3
import Derived.Test.YtgdknepphkhnlaaGreatDoorCFnExactPutEntry4
import Derived.Test.YtgdknepphkhnlaaGreatDoorCFnExactPutEntry5
import Derived.Test.YtgdknepphkhnlaaGreatDoorCFnExactPutEntry6
import Derived.Test.YtgdknepphkhnlaaGreatDoorCFnExactPutEntry7
/- A path's number, the program's way and the reference's: the same. Plain lemmas. -/
set_option linter.unusedVariables false
namespace Go.Proofs.YtgdknepphkhnlaaGreatDoor.Z
open Go.RowKit Go.Proofs.YtgdknepphkhnlaaGreatDoorW.PrintWords Go.Proofs.YtgdknepphkhnlaaGreatDoorW.PrintMore Go.Proofs.YtgdknepphkhnlaaGreatDoor.X Go.Proofs.YtgdknepphkhnlaaGreatDoor.Sp
theorem w64p1 (a : Nat) (h : a ≤ 2000000) : wrap64 ((a : Int) + 1) = ((a + 1 : Nat) : Int) := by rw [w64 zg]; omega
theorem w64p2 (a : Nat) (h : a ≤ 2000000) : wrap64 ((a : Int) + 2) = ((a + 2 : Nat) : Int) := by rw [w64 zg]; omega
set_option maxHeartbeats 1000000 in
theorem major_both (s : ByteArray) (hs : s.size ≤ 1048576) (hp : ∀ x ∈ pieces 47 s, 1 ≤ x.size) : ∃ (n : Int) (base : ByteArray), Ev (fun k => impl_cutMajor.f k s) (base, if n = 0 then 1 else n) ∧ Ev (fun k => spec_l4Major.f k s) n ∧
  (n = 0 ∧ base = s ∨ 2 ≤ n ∧ n ≤ 1000 ∧ ∃ (t : ByteArray) (a : Nat), num t = true ∧ n = ((val t.data.toList : Nat) : Int) ∧ base = s.extract 0 a ∧ s.size = a + 2 + t.size) := by
 have hL := last_ev s hs 47
 have hS : Ev (fun k => spec_l3Split.f k s 47) (pieces 47 s) := split_spec s hs 47
 have hcount := pieces_count 47 s
 have hlen1 : 1 ≤ (pieces 47 s).length := by rw [pieces_length]; omega
 have ew : wrap64 (((pieces 47 s).length : Int) - 1) = (((pieces 47 s).length - 1 : Nat) : Int) := by rw [w64 zg]; omega
 rcases pcs_last 47 s.data.toList with ⟨h1, h2⟩ | ⟨a, b, h1, h2, h3, h4⟩
 ·refine ⟨0, s, ?_, ?_, .inl ⟨rfl, rfl⟩⟩
  ·unfold impl_cutMajor.f
   refine evB hL ?_
   rw [h1]
   refine evT zg ?_
   refine evS (fun k => by rw [impl_cutMajor.j0]) ?_
   exact evT rfl (evR rfl)
  ·unfold spec_l4Major.f
   refine evB hS ?_
   have hl : (pieces 47 s).length = 1 := by rw [pieces_toB, h2]; rfl
   rw [ew]
   refine evT zg (evT zg (evT zg ?_))
   refine evS (fun k => by rw [spec_l4Major.j0]) ?_
   exact evT rfl (evR rfl)
 ·have EW := Aside0.mk ew
  have H2 := Aside0.mk h2
  clear ew h2
  have hsz : s.size = a.length + 1 + b.length := by rw [← data_length, h1]; simp; omega
  have hl2 : 2 ≤ (pieces 47 s).length := by rw [pieces_toB, List.length_map]; exact h4
  have hlast : rdOf ByteArray.empty (pieces 47 s) (((pieces 47 s).length - 1 : Nat) : Int) = toB b := by
   have g := rdOf_get (d := ByteArray.empty) (l := pieces 47 s) (i := (pieces 47 s).length - 1) zg
   rw [← List.getLast?_eq_getElem?, pieces_toB, List.getLast?_map, h3] at g
   exact (Option.some.inj g).symm
  have hb1 : 1 ≤ b.length := by
   have := hp _ (rdOf_mem (l := pieces 47 s) (i := (pieces 47 s).length - 1) zg)
   rw [hlast, toB_size] at this
   exact this
  obtain ⟨x, y, hb⟩ : ∃ x y, b = x :: y := by
   cases b with
   | nil => simp at hb1
   | cons x y => exact ⟨x, y, rfl⟩
  subst hb
  have hsz' : s.size = a.length + 2 + y.length := by rw [List.length_cons] at hsz; omega
  have hy : (toB y).size ≤ 1048576 := by rw [toB_size]; omega
  have w1 := w64p1 a.length zg
  have w2 := w64p2 a.length zg
  have W1 := Aside0.mk w1
  have W2 := Aside0.mk w2
  clear w1 w2
  have hbt : bt s ((a.length + 1 : Nat) : Int) = (x.toNat : Int) := by
   have hlt : a.length + 1 < s.size := by rw [List.length_cons] at hsz; omega
   have hl' : a.length + 1 < s.data.toList.length := by rw [data_length]; exact hlt
   have h5 : s.data.toList[a.length + 1]? = some x := by
    rw [h1, List.getElem?_append_right zg, show a.length + 1 - a.length = 1 by omega]
    rfl
   rw [List.getElem?_eq_getElem hl'] at h5
   rw [byte_at s (a.length + 1) hlt]
   exact congrArg (fun u : UInt8 => (u.toNat : Int)) (Option.some.inj h5)
  have hbl : bt (toB (x :: y)) 0 = (x.toNat : Int) := by
   have h6 := byte_at (toB (x :: y)) 0 (by rw [toB_size]; simp)
   have h7 : (toB (x :: y)).data.toList[0]? = some x := by rw [toB_data]; rfl
   rw [List.getElem?_eq_getElem (by rw [toB_data]; simp)] at h7
   exact h6.trans (congrArg (fun u : UInt8 => (u.toNat : Int)) (Option.some.inj h7))
  have ht1 : s.extract (a.length + 2) s.size = toB y := by
   rw [ext_end]
   refine congrArg toB ?_
   rw [h1, List.drop_append, List.drop_eq_nil_of_le zg, show a.length + 2 - a.length = 2 by omega]
   rfl
  have ht2 : (toB (x :: y)).extract 1 (toB (x :: y)).size = toB y := by
   rw [ext_end, toB_data]
   rfl
  have HBT := Aside0.mk hbt
  have HBL := Aside0.mk hbl
  clear hbt hbl
  have hne : ¬ (toB (x :: y)).toList = ([] : List UInt8) := by rw [tl, toB_data]; simp
  have hz2 : 0 < ((toB (x :: y)).size : Int) := by rw [toB_size, List.length_cons]; omega
  by_cases hx : (x.toNat : Int) = 118
  ·have hxb : ((x.toNat : Int) != 118) = false := bne_eq_false_iff_eq.2 hx
   have hN := numberOf_ev (toB y) hy 4 zg
   have hSn := numS_spec (toB y) hy
   by_cases hr : 2 ≤ numS (toB y) ∧ numS (toB y) ≤ 1000
   ·have hsh : short (toB y) = true := (numS_pos _).1 zg
    have hv := Aside0.mk (numS_val hsh)
    have hn : num (toB y) = true := by unfold short at hsh; simp at hsh; exact hsh.1
    have h4' : ((toB y).size : Int) ≤ 4 := by
     have := small4 hsh (by rw [← hv.out]; exact hr.2)
     omega
    rw [if_pos ⟨hn, h4'⟩] at hN
    refine ⟨numS (toB y), s.extract 0 a.length, ?_, ?_, .inr ⟨hr.1, hr.2, toB y, a.length, hn, hv.out, rfl, by rw [toB_size]; exact hsz'⟩⟩
    ·rw [if_neg zg]
     unfold impl_cutMajor.f
     refine evB hL ?_
     rw [H2.out, W1.out, HBT.out, hxb]
     refine evF zg (evT zg (evT zg ?_))
     refine evS (fun k => by rw [impl_cutMajor.j0]) ?_
     rw [W2.out, show ((a.length + 2 : Nat) : Int).toNat = a.length + 2 by omega, ht1, show ((a.length : Nat) : Int).toNat = a.length by omega]
     refine evF Bool.false_ne_true (evT zg (evT zg (evB hN (evT rfl (evC (rng_impl _ _ _) ?_)))))
     refine evT (decide_eq_true (by rw [← hv.out]; exact hr)) (evT zg (evT zg (evR ?_)))
     rw [hv.out]
    ·unfold spec_l4Major.f
     refine evB hS ?_
     rw [EW.out, hlast]
     refine evT zg (evT zg (evF zg (evF hne (evT hz2 ?_))))
     rw [HBL.out, hxb]
     refine evS (fun k => by rw [spec_l4Major.j0]) ?_
     rw [ht2]
     refine evF Bool.false_ne_true (evT zg (evB hSn (evC (rng_spec _ _ _) ?_)))
     exact evT (decide_eq_true hr) (evR rfl)
   ·refine ⟨0, s, ?_, ?_, .inl ⟨rfl, rfl⟩⟩
    ·unfold impl_cutMajor.f
     refine evB hL ?_
     rw [H2.out, W1.out, HBT.out, hxb]
     refine evF zg (evT zg (evT zg ?_))
     refine evS (fun k => by rw [impl_cutMajor.j0]) ?_
     rw [W2.out, show ((a.length + 2 : Nat) : Int).toNat = a.length + 2 by omega, ht1]
     refine evF Bool.false_ne_true (evT zg (evT zg (evB hN ?_)))
     by_cases hc : num (toB y) = true ∧ ((toB y).size : Int) ≤ 4
     ·rw [if_pos hc]
      have hsh : short (toB y) = true := by unfold short; rw [hc.1, decide_eq_true (show (toB y).size ≤ 8 by omega)]; try rfl
      refine evT rfl (evC (rng_impl _ _ _) (evF ?_ (evR rfl)))
      intro e
      have := of_decide_eq_true e
      rw [← numS_val hsh] at this
      exact hr this
     ·rw [if_neg hc]
      exact evF Bool.false_ne_true (evR rfl)
    ·unfold spec_l4Major.f
     refine evB hS ?_
     rw [EW.out, hlast]
     refine evT zg (evT zg (evF zg (evF hne (evT hz2 ?_))))
     rw [HBL.out, hxb]
     refine evS (fun k => by rw [spec_l4Major.j0]) ?_
     rw [ht2]
     refine evF Bool.false_ne_true (evT zg (evB hSn (evC (rng_spec _ _ _) ?_)))
     exact evF (fun e => hr (of_decide_eq_true e)) (evR rfl)
  ·have hxb : ((x.toNat : Int) != 118) = true := bne_iff_ne.2 hx
   refine ⟨0, s, ?_, ?_, .inl ⟨rfl, rfl⟩⟩
   ·unfold impl_cutMajor.f
    refine evB hL ?_
    rw [H2.out, W1.out, HBT.out, hxb]
    refine evF zg (evT zg (evT zg ?_))
    refine evS (fun k => by rw [impl_cutMajor.j0]) ?_
    exact evT rfl (evR rfl)
   ·unfold spec_l4Major.f
    refine evB hS ?_
    rw [EW.out, hlast]
    refine evT zg (evT zg (evF zg (evF hne (evT hz2 ?_))))
    rw [HBL.out, hxb]
    refine evS (fun k => by rw [spec_l4Major.j0]) ?_
    exact evT rfl (evR rfl)
end Go.Proofs.YtgdknepphkhnlaaGreatDoor.Z

/- A path's number and base, the program's and the reference's functions: the same. Plain lemmas. -/
set_option linter.unusedVariables false
namespace Go.Proofs.YtgdknepphkhnlaaGreatDoor.Z
open Go.RowKit Go.Proofs.YtgdknepphkhnlaaGreatDoorW.PrintWords Go.Proofs.YtgdknepphkhnlaaGreatDoorW.PrintMore Go.Proofs.YtgdknepphkhnlaaGreatDoor.X Go.Proofs.YtgdknepphkhnlaaGreatDoor.Sp
theorem maj_both (s : ByteArray) (hs : s.size ≤ 1048576) : ∃ m : Int, Ev (fun k => impl_MajorOf.f k s) m ∧ Ev (fun k => spec_MajorOf.f k s) m ∧ 0 ≤ m ∧ m ≤ 1000 := by
 obtain ⟨r, h1, h2, h3⟩ := pathOk_both s hs
 cases r with
 | false =>
  refine ⟨0, ?_, ?_, zg, zg⟩
  ·unfold impl_MajorOf.f
   exact evB h1 (evF Bool.false_ne_true (evR rfl))
  ·unfold spec_MajorOf.f
   exact evB h2 (evF Bool.false_ne_true (evR rfl))
 | true =>
  obtain ⟨n, base, m1, m2, hn⟩ := major_both s hs (h3 rfl)
  refine ⟨if n = 0 then 1 else n, ?_, ?_, ?_, ?_⟩
  ·unfold impl_MajorOf.f
   exact evB h1 (evT rfl (evB m1 (evR rfl)))
  ·unfold spec_MajorOf.f
   refine evB h2 (evT rfl (evB m2 ?_))
   by_cases h0 : n = 0
   ·exact evT h0 (evR (by rw [if_pos h0]))
   ·exact evF h0 (evR (by rw [if_neg h0]))
  ·split <;> omega
  ·split <;> omega
end Go.Proofs.YtgdknepphkhnlaaGreatDoor.Z

/- Right versions, the program's and the reference's: the same. Plain lemmas. -/
set_option linter.unusedVariables false
namespace Go.Proofs.YtgdknepphkhnlaaGreatDoor.Z
open Go.RowKit Go.Proofs.YtgdknepphkhnlaaGreatDoorW.PrintWords Go.Proofs.YtgdknepphkhnlaaGreatDoorW.PrintMore Go.Proofs.YtgdknepphkhnlaaGreatDoor.X Go.Proofs.YtgdknepphkhnlaaGreatDoor.Sp
def pch (b : Int) : Prop := (97 ≤ b ∧ b ≤ 122) ∨ (65 ≤ b ∧ b ≤ 90) ∨ (48 ≤ b ∧ b ≤ 57) ∨ b = 45
instance (b : Int) : Decidable (pch b) := by unfold pch; infer_instance
def pchU (u : UInt8) : Bool := decide (pch (u.toNat : Int))
theorem ev_fig {b : Int} {A : Nat → Option Bool} {r : Bool} (H : (48 ≤ b ∧ b ≤ 57) ∨ b = 45 → Ev A r) (H' : ¬ ((48 ≤ b ∧ b ≤ 57) ∨ b = 45) → r = false) :
  Ev (fun k => (impl_isFigure.f b).bind fun t => if t = true then A k else if b = 45 then A k else some false) r := by
 refine evC (figure_ev b) ?_
 by_cases h : 48 ≤ b ∧ b ≤ 57
 ·exact evT (decide_eq_true h) (H (.inl h))
 ·refine evF (by simpa using h) ?_
  by_cases h2 : b = 45
  ·exact evT h2 (H (.inr h2))
  ·exact evF h2 (evR (H' (fun e => e.elim h h2)).symm)
theorem ev_sign {b : Int} {A : Nat → Option Bool} {r : Bool} (H : pch b → Ev A r) (H' : ¬ pch b → r = false) :
  Ev (fun k => if b ≥ 97 then (if b ≤ 122 then A k else (if b ≥ 65 then (if b ≤ 90 then A k else ((impl_isFigure.f b).bind fun t => if t = true then A k else if b = 45 then A k else some false)) else ((impl_isFigure.f b).bind fun t => if t = true then A k else if b = 45 then A k else some false))) else (if b ≥ 65 then (if b ≤ 90 then A k else ((impl_isFigure.f b).bind fun t => if t = true then A k else if b = 45 then A k else some false)) else ((impl_isFigure.f b).bind fun t => if t = true then A k else if b = 45 then A k else some false))) r := by
 have F : (¬ (97 ≤ b ∧ b ≤ 122)) → (¬ (65 ≤ b ∧ b ≤ 90)) → Ev (fun k => (impl_isFigure.f b).bind fun t => if t = true then A k else if b = 45 then A k else some false) r := fun h1 h2 =>
  ev_fig (fun h => H z3q) (fun h => H' z3q)
 have M : (¬ (97 ≤ b ∧ b ≤ 122)) → Ev (fun k => if b ≥ 65 then (if b ≤ 90 then A k else ((impl_isFigure.f b).bind fun t => if t = true then A k else if b = 45 then A k else some false)) else ((impl_isFigure.f b).bind fun t => if t = true then A k else if b = 45 then A k else some false)) r := fun h1 => by
  by_cases h : b ≥ 65
  ·refine evT h ?_
   by_cases h2 : b ≤ 90
   ·exact evT h2 (H z3q)
   ·exact evF h2 (F h1 zg)
  ·exact evF h (F h1 zg)
 by_cases h : b ≥ 97
 ·refine evT h ?_
  by_cases h2 : b ≤ 122
  ·exact evT h2 (H z3q)
  ·exact evF h2 (M zg)
 ·exact evF h (M zg)
theorem ev_signS {b : Int} {A : Nat → Option Bool} {r : Bool} (H : pch b → Ev A r) (H' : ¬ pch b → r = false) :
  Ev (fun k => (spec_l1In.f b 97 122).bind fun t => (if t = true then A k else ((spec_l1In.f b 65 90).bind fun t => (if t = true then A k else ((spec_l1In.f b 48 57).bind fun t => (if t = true then A k else (if b = 45 then A k else (some false)))))))) r := by
 refine evC (rng_spec _ _ _) ?_
 by_cases h1 : 97 ≤ b ∧ b ≤ 122
 ·exact evT (decide_eq_true h1) (H z3q)
 refine evF (by simpa using h1) (evC (rng_spec _ _ _) ?_)
 by_cases h2 : 65 ≤ b ∧ b ≤ 90
 ·exact evT (decide_eq_true h2) (H z3q)
 refine evF (by simpa using h2) (evC (rng_spec _ _ _) ?_)
 by_cases h3 : 48 ≤ b ∧ b ≤ 57
 ·exact evT (decide_eq_true h3) (H z3q)
 refine evF (by simpa using h3) ?_
 by_cases h4 : b = 45
 ·exact evT h4 (H z3q)
 ·exact evF h4 (evR (H' z3q).symm)
def prtE (s : ByteArray) : Bool := decide ((1 : Int) ≤ s.size ∧ (s.size : Int) ≤ 8) && (!figs s || num s)
def prt (s : ByteArray) : Bool := s.data.toList.all pchU && prtE s
theorem prt_l0 (s : ByteArray) (hs : s.size ≤ 1048576) (d : Nat) : ∀ i : Nat, i + d = s.size → Ev (fun k => impl_partOk.l0 k s (i : Int)) ((s.data.toList.drop i).all pchU && prtE s) ∧ Ev (fun k => spec_l3Part.l0 k s (i : Int)) ((s.data.toList.drop i).all pchU && prtE s) := by
 induction d with
 | zero =>
  intro i hi
  rw [List.drop_eq_nil_of_le (show s.data.toList.length ≤ i by rw [data_length]; omega), List.all_nil, Bool.true_and]
  unfold prtE
  constructor
  ·refine evS (fun k => by rw [impl_partOk.l0]) (evF zg (evC (rng_impl _ _ _) ?_))
   cases hd : decide ((1 : Int) ≤ s.size ∧ (s.size : Int) ≤ 8) with
   | false => exact evF Bool.false_ne_true (evR rfl)
   | true =>
    refine evT rfl (evB (figs_impl s hs) ?_)
    cases hf : figs s with
    | false => exact evF Bool.false_ne_true (evR rfl)
    | true => exact evT rfl (evB (num_impl s hs) (evR (by simp)))
  ·refine evS (fun k => by rw [spec_l3Part.l0]) (evF zg (evC (rng_spec _ _ _) ?_))
   cases hd : decide ((1 : Int) ≤ s.size ∧ (s.size : Int) ≤ 8) with
   | false => exact evF Bool.false_ne_true (evR rfl)
   | true =>
    have h8 := of_decide_eq_true hd
    refine evT rfl (evB (figs_spec s hs) ?_)
    cases hf : figs s with
    | false => exact evF Bool.false_ne_true (evR rfl)
    | true =>
     refine evT rfl (evB (numS_spec s hs) (evR ?_))
     unfold numS short
     rw [decide_eq_true (show s.size ≤ 8 by omega)]
     cases num s with
     | true => simp
     | false => simp
 | succ d ih =>
  intro i hi
  have hl : i < s.data.toList.length := by rw [data_length]; omega
  have hb := byte_at s i zg
  obtain ⟨h1, h2⟩ := ih (i + 1) zg
  have hlt : (s.data.toList[i]).toNat < 256 := UInt8.toNat_lt _
  have he : (s.data.toList.drop i).all pchU = (pchU s.data.toList[i] && (s.data.toList.drop (i + 1)).all pchU) := by
   rw [List.drop_eq_getElem_cons hl]
   rfl
  have hw : wrap64 (((s.data.toList[i]).toNat : Nat) : Int) = (((s.data.toList[i]).toNat : Nat) : Int) := w64 zg
  rw [he]
  have Hp : pch ((s.data.toList[i].toNat : Nat) : Int) → pchU s.data.toList[i] = true := fun h => decide_eq_true h
  have Hn : ¬ pch ((s.data.toList[i].toNat : Nat) : Int) → (pchU s.data.toList[i] && (s.data.toList.drop (i + 1)).all pchU && prtE s) = false := fun h => by
   have : pchU s.data.toList[i] = false := decide_eq_false h
   rw [this]
   rfl
  constructor
  ·refine evS (fun k => by rw [impl_partOk.l0]) ?_
   rw [hb, w64s (show i < s.size by omega) zg]
   refine evT zg (evT zg ?_)
   exact ev_sign (fun h => by rw [Hp h, Bool.true_and]; exact h1) Hn
  ·refine evS (fun k => by rw [spec_l3Part.l0]) ?_
   rw [hb, hw, w64s (show i < s.size by omega) zg]
   refine evT zg (evT zg ?_)
   exact ev_signS (fun h => by rw [Hp h, Bool.true_and]; exact h2) Hn
theorem prt_impl (s : ByteArray) (hs : s.size ≤ 1048576) : Ev (fun k => impl_partOk.f k s) (prt s) := (prt_l0 s hs s.size 0 zg).1
theorem prt_spec (s : ByteArray) (hs : s.size ≤ 1048576) : Ev (fun k => spec_l3Part.f k s) (prt s) := (prt_l0 s hs s.size 0 zg).2
theorem pre_l0 (l : List ByteArray) (hl : l.length ≤ 1048577) (zl : ∀ x ∈ l, x.size ≤ 1048576) (d : Nat) : ∀ i : Nat, i + d = l.length → Ev (fun k => impl_VersionOk.l0 k l (i : Int)) ((l.drop i).all prt && decide (l.length ≤ 4)) ∧ Ev (fun k => spec_l3Pre.l0 k l (i : Int)) ((l.drop i).all prt && decide (l.length ≤ 4)) := by
 induction d with
 | zero =>
  intro i hi
  rw [List.drop_eq_nil_of_le zg, List.all_nil, Bool.true_and]
  have e : decide ((l.length : Int) ≤ 4) = decide (l.length ≤ 4) := decide_eq_decide.2 zg
  constructor
  ·refine evS (fun k => by rw [impl_VersionOk.l0]) (evF zg (evR e))
  ·refine evS (fun k => by rw [spec_l3Pre.l0]) (evF zg (evR e))
 | succ d ih =>
  intro i hi
  have il : i < l.length := by omega
  have gl : rdOf ByteArray.empty l (i : Int) = l[i] := by
   have := rdOf_get (d := ByteArray.empty) il
   rw [List.getElem?_eq_getElem il] at this
   exact (Option.some.inj this).symm
  have hz := zl _ (List.getElem_mem il)
  obtain ⟨h1, h2⟩ := ih (i + 1) zg
  have he : (l.drop i).all prt = (prt l[i] && (l.drop (i + 1)).all prt) := by
   rw [List.drop_eq_getElem_cons il]
   rfl
  rw [he]
  have p1 := prt_impl l[i] hz
  have p2 := prt_spec l[i] hz
  cases hp : prt l[i] with
  | true =>
   rw [hp] at p1 p2
   rw [Bool.true_and]
   constructor
   ·refine evS (fun k => by rw [impl_VersionOk.l0]) ?_
    rw [gl, w64s il zg]
    exact evT zg (evT zg (evB p1 (evT rfl h1)))
   ·refine evS (fun k => by rw [spec_l3Pre.l0]) ?_
    rw [gl, w64s il zg]
    exact evT zg (evT zg (evB p2 (evT rfl h2)))
  | false =>
   rw [hp] at p1 p2
   constructor
   ·refine evS (fun k => by rw [impl_VersionOk.l0]) ?_
    rw [gl]
    exact evT zg (evT zg (evB p1 (evF Bool.false_ne_true (evR rfl))))
   ·refine evS (fun k => by rw [spec_l3Pre.l0]) ?_
    rw [gl]
    exact evT zg (evT zg (evB p2 (evF Bool.false_ne_true (evR rfl))))
def pre (p : ByteArray) : Bool := (pieces 46 p).all prt && decide ((pieces 46 p).length ≤ 4)
def in6 (a : Int) : Bool := decide (0 ≤ a ∧ a ≤ 1000000)
def verOk (a b c : Int) (p : ByteArray) : Bool := in6 a && (in6 b && (in6 c && (decide (p.size = 0) || pre p)))
theorem nil_iff' (s : ByteArray) : s.toList = ([] : List UInt8) ↔ s.size = 0 := by
 rw [tl]
 have := data_length s
 constructor
 ·intro e; rw [e] at this; simpa using this.symm
 ·intro e; exact List.eq_nil_of_length_eq_zero zg
theorem verOk_both (a b c : Int) (p : ByteArray) (hp : p.size ≤ 1048576) : Ev (fun k => impl_VersionOk.f k a b c p) (verOk a b c p) ∧ Ev (fun k => spec_VersionOk.f k a b c p) (verOk a b c p) := by
 have hc := pieces_count 46 p
 obtain ⟨l1, l2⟩ := pre_l0 (pieces 46 p) zg (fun x hx => by have := pieces_mem 46 p x hx; omega) _ 0 (Nat.zero_add _)
 rw [List.drop_zero] at l1 l2
 have hS : Ev (fun k => spec_l3Split.f k p 46) (pieces 46 p) := split_spec p hp 46
 have hI : strings_Split.f p (⟨#[46]⟩ : ByteArray) = some (pieces 46 p) := by
  unfold strings_Split.f
  rw [if_pos ⟨zg, rfl⟩]
  rfl
 have tI : Ev (fun k => impl_VersionOk.f0 k p) (decide (p.size = 0) || pre p) := by
  unfold impl_VersionOk.f0
  by_cases h : p.size = 0
  ·exact evT ((nil_iff' p).2 h) (evR (by rw [decide_eq_true h]; rfl))
  ·refine evF (fun e => h ((nil_iff' p).1 e)) (evC hI ?_)
   rw [decide_eq_false h, Bool.false_or]
   exact l1
 have tS : Ev (fun k => if p.toList = ([] : List UInt8) then (some true) else ((spec_l3Pre.f k p).bind fun t146 => (some t146))) (decide (p.size = 0) || pre p) := by
  by_cases h : p.size = 0
  ·exact evT ((nil_iff' p).2 h) (evR (by rw [decide_eq_true h]; rfl))
  ·refine evF (fun e => h ((nil_iff' p).1 e)) ?_
   rw [decide_eq_false h, Bool.false_or]
   refine evB ?_ (evR rfl)
   unfold spec_l3Pre.f
   exact evB hS l2
 unfold verOk
 constructor
 ·unfold impl_VersionOk.f
  refine evC (rng_impl _ _ _) ?_
  show Ev (fun k => if in6 a = true then _ else _) _
  cases in6 a with
  | false => exact evF Bool.false_ne_true (evR rfl)
  | true =>
   refine evT rfl ?_
   unfold impl_VersionOk.f2
   refine evC (rng_impl _ _ _) ?_
   show Ev (fun k => if in6 b = true then _ else _) _
   cases in6 b with
   | false => exact evF Bool.false_ne_true (evR rfl)
   | true =>
    refine evT rfl ?_
    unfold impl_VersionOk.f1
    refine evC (rng_impl _ _ _) ?_
    show Ev (fun k => if in6 c = true then _ else _) _
    cases in6 c with
    | false => exact evF Bool.false_ne_true (evR rfl)
    | true => exact evT rfl tI
 ·unfold spec_VersionOk.f
  refine evC (rng_spec _ _ _) ?_
  show Ev (fun k => if in6 a = true then _ else _) _
  cases in6 a with
  | false => exact evF Bool.false_ne_true (evR rfl)
  | true =>
   refine evT rfl (evC (rng_spec _ _ _) ?_)
   show Ev (fun k => if in6 b = true then _ else _) _
   cases in6 b with
   | false => exact evF Bool.false_ne_true (evR rfl)
   | true =>
    refine evT rfl (evC (rng_spec _ _ _) ?_)
    show Ev (fun k => if in6 c = true then _ else _) _
    cases in6 c with
    | false => exact evF Bool.false_ne_true (evR rfl)
    | true => exact evT rfl tS
end Go.Proofs.YtgdknepphkhnlaaGreatDoor.Z

/- Does a version fit a path: the program's and the reference's answer are the same. Plain lemmas. -/
set_option linter.unusedVariables false
namespace Go.Proofs.YtgdknepphkhnlaaGreatDoor.Z
open Go.RowKit Go.Proofs.YtgdknepphkhnlaaGreatDoorW.PrintWords Go.Proofs.YtgdknepphkhnlaaGreatDoorW.PrintMore Go.Proofs.YtgdknepphkhnlaaGreatDoor.X Go.Proofs.YtgdknepphkhnlaaGreatDoor.Sp
def fitsM (m a b c : Int) (p : ByteArray) : Bool := decide (0 < m) && (verOk a b c p && (decide (a = m) || (decide (m = 1) && decide (a = 0))))
theorem fits_of (s : ByteArray) (m a b c : Int) (p : ByteArray) (hp : p.size ≤ 1048576) (h1 : Ev (fun k => impl_MajorOf.f k s) m) (h2 : Ev (fun k => spec_MajorOf.f k s) m) :
  Ev (fun k => impl_Fits.f k s a b c p) (fitsM m a b c p) ∧ Ev (fun k => spec_Fits.f k s a b c p) (fitsM m a b c p) := by
 obtain ⟨v1, v2⟩ := verOk_both a b c p hp
 unfold impl_Fits.f spec_Fits.f fitsM
 by_cases hm : 0 < m
 ·rw [decide_eq_true hm, Bool.true_and]
  cases hv : verOk a b c p with
  | false =>
   rw [hv] at v1 v2
   exact ⟨evB h1 (evT hm (evB v1 (evF Bool.false_ne_true (evR rfl)))), evB h2 (evT hm (evB v2 (evF Bool.false_ne_true (evR rfl))))⟩
  | true =>
   rw [hv] at v1 v2
   rw [Bool.true_and]
   refine ⟨evB h1 (evT hm (evB v1 (evT rfl ?_))), evB h2 (evT hm (evB v2 (evT rfl ?_)))⟩
   ·by_cases ha : a = m
    ·exact evT ha (evR (by rw [decide_eq_true ha]; rfl))
    ·refine evF ha ?_
     rw [decide_eq_false ha, Bool.false_or]
     by_cases h0 : a = 0
     ·refine evT h0 (evR ?_)
      rw [decide_eq_true h0, Bool.and_true]
      by_cases h1 : m = 1 <;> simp [h1]
     ·exact evF h0 (evR (by rw [decide_eq_false h0, Bool.and_false]))
   ·by_cases ha : a = m
    ·exact evT ha (evR (by rw [decide_eq_true ha]; rfl))
    ·refine evF ha ?_
     rw [decide_eq_false ha, Bool.false_or]
     by_cases h1 : m = 1
     ·refine evT h1 (evR ?_)
      rw [decide_eq_true h1, Bool.true_and]
      by_cases h0 : a = 0 <;> simp [h0]
     ·exact evF h1 (evR (by rw [decide_eq_false h1, Bool.false_and]))
 ·rw [decide_eq_false hm, Bool.false_and]
  exact ⟨evB h1 (evF zg (evR rfl)), evB h2 (evF zg (evR rfl))⟩
theorem fits_both (s : ByteArray) (a b c : Int) (p : ByteArray) (hs : s.size ≤ 1048576) (hp : p.size ≤ 1048576) : ∃ r, Ev (fun k => impl_Fits.f k s a b c p) r ∧ Ev (fun k => spec_Fits.f k s a b c p) r ∧ (r = true → verOk a b c p = true) := by
 obtain ⟨m, h1, h2, _⟩ := maj_both s hs
 obtain ⟨f1, f2⟩ := fits_of s m a b c p hp h1 h2
 refine ⟨_, f1, f2, fun h => ?_⟩
 unfold fitsM at h
 simp only [Bool.and_eq_true] at h
 exact h.2.1
end Go.Proofs.YtgdknepphkhnlaaGreatDoor.Z

/- Needs that rise by their paths: the program's way and the reference's. Plain lemmas. -/
set_option linter.unusedVariables false
namespace Go.Proofs.YtgdknepphkhnlaaGreatDoor.Z
open Go.RowKit Go.Proofs.YtgdknepphkhnlaaGreatDoorW.PrintWords Go.Proofs.YtgdknepphkhnlaaGreatDoorW.PrintMore Go.Proofs.YtgdknepphkhnlaaGreatDoor.X Go.Proofs.YtgdknepphkhnlaaGreatDoor.Sp
theorem rdN {xs : List S35} {i : Nat} (h : i < xs.length) : rd_T35 xs (i : Int) = xs[i] := by
 unfold rd_T35
 simp [List.getD_eq_getElem?_getD, h]
def smallN (y : S35) : Prop := y.f0.size ≤ 1048576 ∧ y.f1.f3.size ≤ 1048576
theorem need_both (y : S35) (h : smallN y) : ∃ r, Ev (fun k => impl_NeedOk.f k y.f0 y.f1.f0 y.f1.f1 y.f1.f2 y.f1.f3) r ∧ Ev (fun k => spec_NeedOk.f k y.f0 y.f1.f0 y.f1.f1 y.f1.f2 y.f1.f3) r ∧ Ev (fun k => impl_Fits.f k y.f0 y.f1.f0 y.f1.f1 y.f1.f2 y.f1.f3) r ∧ Ev (fun k => spec_Fits.f k y.f0 y.f1.f0 y.f1.f1 y.f1.f2 y.f1.f3) r := by
 obtain ⟨r, hI, hS, _⟩ := fits_both y.f0 y.f1.f0 y.f1.f1 y.f1.f2 y.f1.f3 h.1 h.2
 refine ⟨r, ?_, ?_, hI, hS⟩
 ·unfold impl_NeedOk.f
  exact evB hI (evR rfl)
 ·unfold spec_NeedOk.f
  exact evB hS (evR rfl)
theorem rise_l0 (l : List S35) (most : Int) (hn : l.length ≤ 1048576) (hl : ∀ y ∈ l, smallN y) (d : Nat) : ∀ i : Nat, i + d = l.length → ∃ r : Bool,
  Ev (fun k => impl_ascending.l0 k l most l (l.length : Int) (i : Int)) (r && decide ((l.length : Int) ≤ most)) ∧ Ev (fun k => spec_l5Rising.l0 k l (i : Int)) r := by
 induction d with
 | zero =>
  intro i hi
  refine ⟨true, ?_, ?_⟩
  ·refine evS (fun k => by rw [impl_ascending.l0]) ?_
   exact evF zg (evR (by rw [Bool.true_and]))
  ·refine evS (fun k => by rw [spec_l5Rising.l0]) ?_
   exact evF zg (evR rfl)
 | succ d ih =>
  intro i hi
  have il : i < l.length := by omega
  obtain ⟨r0, hI, hS, _, _⟩ := need_both l[i] (hl _ (List.getElem_mem il))
  obtain ⟨r, q1, q2⟩ := ih (i + 1) zg
  have ws := w64s (show i < l.length from il) zg
  cases r0 with
  | false =>
   refine ⟨false, ?_, ?_⟩
   ·refine evS (fun k => by rw [impl_ascending.l0]) ?_
    rw [rdN il]
    exact evT zg (evT zg (evT zg (evB hI (evF Bool.false_ne_true (evR rfl)))))
   ·refine evS (fun k => by rw [spec_l5Rising.l0]) ?_
    rw [rdN il]
    exact evT zg (evT zg (evB hS (evF Bool.false_ne_true (evR rfl))))
  | true =>
   by_cases h0 : i = 0
   ·refine ⟨r, ?_, ?_⟩
    ·refine evS (fun k => by rw [impl_ascending.l0]) ?_
     rw [rdN il, ws]
     exact evT zg (evT zg (evT zg (evB hI (evT rfl (evF zg q1)))))
    ·refine evS (fun k => by rw [spec_l5Rising.l0]) ?_
     rw [rdN il, ws]
     exact evT zg (evT zg (evB hS (evT rfl (evF zg q2))))
   ·have ip : i - 1 < l.length := by omega
    have wp : wrap64 ((i : Int) - 1) = ((i - 1 : Nat) : Int) := by rw [w64 zg]; omega
    by_cases hb : Op.bytesLess l[i - 1].f0.toList l[i].f0.toList = true
    ·refine ⟨r, ?_, ?_⟩
     ·refine evS (fun k => by rw [impl_ascending.l0]) ?_
      rw [rdN il, ws, wp, rdN ip]
      exact evT zg (evT zg (evT zg (evB hI (evT rfl (evT zg (evT zg (evT zg (evT hb q1))))))))
     ·refine evS (fun k => by rw [spec_l5Rising.l0]) ?_
      rw [rdN il, ws, wp, rdN ip]
      exact evT zg (evT zg (evB hS (evT rfl (evT zg (evT zg (evT zg (evT hb q2)))))))
    ·refine ⟨false, ?_, ?_⟩
     ·refine evS (fun k => by rw [impl_ascending.l0]) ?_
      rw [rdN il, ws, wp, rdN ip]
      exact evT zg (evT zg (evT zg (evB hI (evT rfl (evT zg (evT zg (evT zg (evF hb (evR rfl)))))))))
     ·refine evS (fun k => by rw [spec_l5Rising.l0]) ?_
      rw [rdN il, ws, wp, rdN ip]
      exact evT zg (evT zg (evB hS (evT rfl (evT zg (evT zg (evT zg (evF hb (evR rfl))))))))
theorem rise_both (l : List S35) (hn : l.length ≤ 1048576) (hl : ∀ y ∈ l, smallN y) : ∃ r : Bool, (∀ most : Int, Ev (fun k => impl_ascending.f k l most) (r && decide ((l.length : Int) ≤ most))) ∧ Ev (fun k => spec_l5Rising.f k l) r := by
 obtain ⟨r, q1, q2⟩ := rise_l0 l 0 hn hl l.length 0 zg
 refine ⟨r, fun most => ?_, by unfold spec_l5Rising.f; exact q2⟩
 obtain ⟨r', p1, p2⟩ := rise_l0 l most hn hl l.length 0 zg
 rw [ev_one p2 q2] at p1
 unfold impl_ascending.f
 exact p1
end Go.Proofs.YtgdknepphkhnlaaGreatDoor.Z

/- What the laws over needs reckon ahead of the call: sizes, copies, likeness. Plain lemmas. -/
set_option linter.unusedVariables false
namespace Go.Proofs.YtgdknepphkhnlaaGreatDoor.Z
open Go.RowKit Go.Proofs.YtgdknepphkhnlaaGreatDoorW.PrintWords Go.Proofs.YtgdknepphkhnlaaGreatDoorW.PrintMore Go.Proofs.YtgdknepphkhnlaaGreatDoor.X Go.Proofs.YtgdknepphkhnlaaGreatDoor.Sp
theorem rdL {xs : List S110} {i : Nat} (h : i < xs.length) : rd_T110 xs (i : Int) = xs[i] := by
 unfold rd_T110
 simp [List.getD_eq_getElem?_getD, h]
def cvN (y : S110) : S35 := ⟨y.f0, ⟨y.f1.f0, y.f1.f1, y.f1.f2, y.f1.f3⟩⟩
theorem toN_l0 (l : List S110) (hn : l.length ≤ 1048576) (d : Nat) : ∀ (i : Nat) (m : List S35), i + d = l.length → m.length = l.length → (∀ j, j < i → m[j]? = (l.map cvN)[j]?) → Ev (fun k => laws_toNeedS.l0 k l m (i : Int)) (l.map cvN) := by
 induction d with
 | zero =>
  intro i m hi hm h
  refine evS (fun k => by rw [laws_toNeedS.l0]) (evF zg (evR ?_))
  exact ext_get (by rw [List.length_map]; exact hm) (fun j hj => h j (by rw [List.length_map] at hj; omega))
 | succ d ih =>
  intro i m hi hm h
  have il : i < l.length := by omega
  refine evS (fun k => by rw [laws_toNeedS.l0]) ?_
  rw [rdL il, w64s il zg]
  refine evT zg (evT zg (evC rfl (evT zg ?_)))
  refine ih (i + 1) _ zg (by simpa using hm) ?_
  have := set_next (x := cvN l[i]) (m := l.map cvN) (by rw [List.length_map]; exact hm) (by rw [List.length_map]; exact il) (by simp [il]) h
  show ∀ j, j < i + 1 → (m.set (i : Int).toNat (cvN l[i]))[j]? = (l.map cvN)[j]?
  rw [show ((i : Nat) : Int).toNat = i by omega]
  exact this
theorem toN_ev (l : List S110) (hn : l.length ≤ 1048576) : Ev (fun k => laws_toNeedS.f k l) (l.map cvN) := by
 unfold laws_toNeedS.f
 exact evT zg (evT zg (toN_l0 l hn l.length 0 _ zg (by simp) (by intro j hj; omega)))
theorem eqN_l0 (l : List S35) (hn : l.length ≤ 1048576) (d : Nat) : ∀ i : Nat, i + d = l.length → Ev (fun k => laws_eqNeedS.l0 k l l (i : Int)) true := by
 induction d with
 | zero =>
  intro i hi
  refine evS (fun k => by rw [laws_eqNeedS.l0]) ?_
  exact evF zg (evR rfl)
 | succ d ih =>
  intro i hi
  have il : i < l.length := by omega
  refine evS (fun k => by rw [laws_eqNeedS.l0]) ?_
  rw [w64s il zg]
  refine evT zg (evT zg (evT zg (evC (a := true) ?_ (evT rfl (ih (i + 1) zg)))))
  unfold laws_eqNeed.f laws_eqVersion.f
  rw [if_pos rfl, if_pos rfl, if_pos rfl, if_pos rfl, if_pos rfl]
  rfl
theorem eqN_same (l : List S35) (hn : l.length ≤ 1048576) : Ev (fun k => laws_eqNeedS.f k l l) true := by
 unfold laws_eqNeedS.f
 exact evT rfl (eqN_l0 l hn l.length 0 zg)
theorem szN_one (y : S110) (left : Int) (h0 : 0 ≤ left) (h1 : left ≤ 1048576) (ha : y.f0.size ≤ 9223372036854775807) (hb : y.f1.f3.size ≤ 9223372036854775807) :
  ∃ r : Int, laws_szNeed.f y.f0 y.f1.f0 y.f1.f1 y.f1.f2 y.f1.f3 left = some r ∧ (r < 0 ∨ 0 ≤ r ∧ r ≤ left ∧ y.f0.size ≤ 1048576 ∧ y.f1.f3.size ≤ 1048576) := by
 unfold laws_szNeed.f laws_szVersion.f
 rw [w64 (x := left - (y.f0.size : Int)) zg]
 by_cases c0 : left - (y.f0.size : Int) < 0
 ·rw [if_pos c0]
  exact ⟨-1, rfl, .inl zg⟩
 ·rw [if_neg c0, w64 (x := left - (y.f0.size : Int) - (y.f1.f3.size : Int)) zg]
  by_cases c1 : left - (y.f0.size : Int) - (y.f1.f3.size : Int) < 0
  ·rw [if_pos c1]
   exact ⟨-1, rfl, .inl zg⟩
  ·rw [if_neg c1]
   simp only [Option.bind_some]
   rw [if_neg c1]
   exact ⟨_, rfl, .inr ⟨zg, zg, zg, zg⟩⟩
theorem szN_l0 (l : List S110) (hn : l.length ≤ 9223372036854775807) (hs : ∀ y ∈ l, y.f0.size ≤ 9223372036854775807 ∧ y.f1.f3.size ≤ 9223372036854775807) (d : Nat) : ∀ (i : Nat) (left : Int), i + d = l.length → 0 ≤ left → left ≤ 1048576 →
  ∃ r : Int, Ev (fun k => laws_szNeedS.l0 k l left (i : Int)) r ∧ (r < 0 ∨ 0 ≤ r ∧ ∀ y ∈ l.drop i, smallN (cvN y)) := by
 induction d with
 | zero =>
  intro i left hi h0 h1
  refine ⟨left, ?_, .inr ⟨h0, ?_⟩⟩
  ·refine evS (fun k => by rw [laws_szNeedS.l0]) ?_
   exact evF zg (evR rfl)
  ·rw [List.drop_eq_nil_of_le zg]
   intro y hy
   cases hy
 | succ d ih =>
  intro i left hi h0 h1
  have il : i < l.length := by omega
  obtain ⟨ha, hb⟩ := hs _ (List.getElem_mem il)
  obtain ⟨q, hq, hq2⟩ := szN_one l[i] left h0 h1 ha hb
  by_cases hlt : q < 0
  ·refine ⟨-1, ?_, .inl zg⟩
   refine evS (fun k => by rw [laws_szNeedS.l0]) ?_
   rw [rdL il]
   exact evT zg (evT zg (evC hq (evT hlt (evR rfl))))
  ·rcases hq2 with h | ⟨q0, q1, qa, qb⟩
   ·exact absurd h hlt
   obtain ⟨r, hr, hr2⟩ := ih (i + 1) q zg q0 zg
   refine ⟨r, ?_, ?_⟩
   ·refine evS (fun k => by rw [laws_szNeedS.l0]) ?_
    rw [rdL il, w64s il zg]
    exact evT zg (evT zg (evC hq (evF hlt hr)))
   ·rcases hr2 with h | ⟨h, h'⟩
    ·exact .inl h
    ·refine .inr ⟨h, ?_⟩
     rw [List.drop_eq_getElem_cons il]
     intro y hy
     rcases List.mem_cons.1 hy with rfl | hy
     ·exact ⟨qa, qb⟩
     ·exact h' y hy
theorem szN_ev (l : List S110) (left : Int) (h0 : 0 ≤ left) (h1 : left ≤ 1048576) (hn : l.length ≤ 9223372036854775807) (hs : ∀ y ∈ l, y.f0.size ≤ 9223372036854775807 ∧ y.f1.f3.size ≤ 9223372036854775807) :
  ∃ r : Int, Ev (fun k => laws_szNeedS.f k l left) r ∧ (r < 0 ∨ 0 ≤ r ∧ l.length ≤ 1048576 ∧ ∀ y ∈ l.map cvN, smallN y) := by
 unfold laws_szNeedS.f
 rw [w64 (x := left - (l.length : Int)) zg]
 by_cases c : left - (l.length : Int) < 0
 ·exact ⟨-1, evT c (evR rfl), .inl zg⟩
 ·obtain ⟨r, hr, hr2⟩ := szN_l0 l zg hs l.length 0 (left - (l.length : Int)) zg zg zg
  refine ⟨r, evF c hr, ?_⟩
  rcases hr2 with h | ⟨h, h'⟩
  ·exact .inl h
  ·refine .inr ⟨h, zg, fun y hy => ?_⟩
   obtain ⟨z, hz, rfl⟩ := List.mem_map.1 hy
   rw [List.drop_zero] at h'
   exact h' z hz
end Go.Proofs.YtgdknepphkhnlaaGreatDoor.Z

namespace Go.Proofs.YtgdknepphkhnlaaGreatDoor.X
open Go.RowKit Go.Proofs.YtgdknepphkhnlaaGreatDoorW.PrintWords Go.Proofs.YtgdknepphkhnlaaGreatDoorW.PrintLast Go.Proofs.YtgdknepphkhnlaaGreatDoorW.PrintMore
attribute [local go_sem] max2_int min2_int max_two min_two max_three min_three max_four min_four
set_option linter.unusedVariables false
set_option linter.unusedSimpArgs false
mutual
def spec_GetNum.l0 : Nat → List Int → Int → Int → Int → Option (Int × Int × Bool)
 | 0, _, _, _, _ => none
 | k + 1, x0, x1, x7, x8 => if x8 < 5 then (if x1 ≥ 0 then (if x1 < (x0.length : Int) then (spec_GetNum.j1 k x0 x1 x7 x8 (decide ((wrap64 (x1 + x8)) < (x0.length : Int)))) else (spec_GetNum.j1 k x0 x1 x7 x8 false)) else (spec_GetNum.j1 k x0 x1 x7 x8 false)) else (spec_GetNum.j1 k x0 x1 x7 x8 false)
def spec_GetNum.j1 : Nat → List Int → Int → Int → Int → Bool → Option (Int × Int × Bool)
 | 0, _, _, _, _, _ => none
 | k + 1, x0, x1, x7, x8, x29 => if x29 = true then (if 0 ≤ (wrap64 (x1 + x8)) then (if (wrap64 (x1 + x8)) < (x0.length : Int) then (if 0 ≤ (IntKind.u64.wrap (wrap64 (7 * x8))) then (if (wrap64 (rd x0 (wrap64 (x1 + x8)))) > 127 then (spec_GetNum.l0 k x0 x1 (Go.bits .or .i64 x7 (shl .i64 (Go.bits .and .i64 (wrap64 (rd x0 (wrap64 (x1 + x8)))) 127) (IntKind.u64.wrap (wrap64 (7 * x8))))) (wrap64 (x8 + 1))) else (if x8 > 0 then (if (wrap64 (rd x0 (wrap64 (x1 + x8)))) = 0 then (some (0, 0, false)) else (if (Go.bits .or .i64 x7 (shl .i64 (Go.bits .and .i64 (wrap64 (rd x0 (wrap64 (x1 + x8)))) 127) (IntKind.u64.wrap (wrap64 (7 * x8))))) > 1000000000 then (some (0, 0, false)) else (some (Go.bits .or .i64 x7 (shl .i64 (Go.bits .and .i64 (wrap64 (rd x0 (wrap64 (x1 + x8)))) 127) (IntKind.u64.wrap (wrap64 (7 * x8)))), wrap64 ((wrap64 (x1 + x8)) + 1), true)))) else (if (Go.bits .or .i64 x7 (shl .i64 (Go.bits .and .i64 (wrap64 (rd x0 (wrap64 (x1 + x8)))) 127) (IntKind.u64.wrap (wrap64 (7 * x8))))) > 1000000000 then (some (0, 0, false)) else (some (Go.bits .or .i64 x7 (shl .i64 (Go.bits .and .i64 (wrap64 (rd x0 (wrap64 (x1 + x8)))) 127) (IntKind.u64.wrap (wrap64 (7 * x8)))), wrap64 ((wrap64 (x1 + x8)) + 1), true))))) else (none)) else (none)) else (none)) else (some (0, 0, false))
end
def spec_GetNum.f (k : Nat) (l0 : List Int) (a1 : Int) : Option (Int × Int × Bool) := spec_GetNum.l0 k l0 a1 0 0
end Go.Proofs.YtgdknepphkhnlaaGreatDoor.X

namespace Go.Proofs.YtgdknepphkhnlaaGreatDoor.X
open Go.RowKit Go.Proofs.YtgdknepphkhnlaaGreatDoorW.PrintWords Go.Proofs.YtgdknepphkhnlaaGreatDoorW.PrintLast Go.Proofs.YtgdknepphkhnlaaGreatDoorW.PrintMore
attribute [local go_sem] max2_int min2_int max_two min_two max_three min_three max_four min_four
set_option linter.unusedVariables false
set_option linter.unusedSimpArgs false
mutual
def impl_GetNum.l0 : Nat → List Int → Int → Int → Int → Option (Int × Int × Bool)
 | 0, _, _, _, _ => none
 | k + 1, x0, x1, x7, x8 => if x8 < 5 then (impl_GetNum.j1 k x0 x1 x7 x8 (decide (x1 < (x0.length : Int)))) else (impl_GetNum.j1 k x0 x1 x7 x8 false)
def impl_GetNum.j1 : Nat → List Int → Int → Int → Int → Bool → Option (Int × Int × Bool)
 | 0, _, _, _, _, _ => none
 | k + 1, x0, x1, x7, x8, x23 => if x23 = true then (if 0 ≤ x1 then (if x1 < (x0.length : Int) then (if 0 ≤ (IntKind.u64.wrap (wrap64 (7 * x8))) then (if (wrap64 (rd x0 x1)) < 128 then (if (wrap64 (rd x0 x1)) = 0 then (if x8 > 0 then (some (0, 0, false)) else (if (Go.bits .or .i64 x7 (shl .i64 (Go.bits .and .i64 (wrap64 (rd x0 x1)) 127) (IntKind.u64.wrap (wrap64 (7 * x8))))) > 1000000000 then (some (0, 0, false)) else (some (Go.bits .or .i64 x7 (shl .i64 (Go.bits .and .i64 (wrap64 (rd x0 x1)) 127) (IntKind.u64.wrap (wrap64 (7 * x8)))), wrap64 (x1 + 1), true)))) else (if (Go.bits .or .i64 x7 (shl .i64 (Go.bits .and .i64 (wrap64 (rd x0 x1)) 127) (IntKind.u64.wrap (wrap64 (7 * x8))))) > 1000000000 then (some (0, 0, false)) else (some (Go.bits .or .i64 x7 (shl .i64 (Go.bits .and .i64 (wrap64 (rd x0 x1)) 127) (IntKind.u64.wrap (wrap64 (7 * x8)))), wrap64 (x1 + 1), true)))) else (impl_GetNum.l0 k x0 (wrap64 (x1 + 1)) (Go.bits .or .i64 x7 (shl .i64 (Go.bits .and .i64 (wrap64 (rd x0 x1)) 127) (IntKind.u64.wrap (wrap64 (7 * x8))))) (wrap64 (x8 + 1)))) else (none)) else (none)) else (none)) else (some (0, 0, false))
end
def impl_GetNum.f (k : Nat) (l0 : List Int) (a1 : Int) : Option (Int × Int × Bool) := (impl_inRange.f a1 0 (wrap64 ((l0.length : Int) - 1))).bind fun t409 => (if t409 = true then (impl_GetNum.l0 k l0 a1 0 0) else (some (0, 0, false)))
end Go.Proofs.YtgdknepphkhnlaaGreatDoor.X

/- What GetNum computes, the program's and the reference's, step by step: the same. No Go, no memory. -/
set_option linter.unusedVariables false
namespace Go.Proofs.YtgdknepphkhnlaaGreatDoor.Z
open Go.RowKit Go.Proofs.YtgdknepphkhnlaaGreatDoorW.PrintWords Go.Proofs.YtgdknepphkhnlaaGreatDoorW.PrintMore Go.Proofs.YtgdknepphkhnlaaGreatDoor.X
theorem or_comm64 (k : IntKind) (a b : Int) : Go.bits .or k a b = Go.bits .or k b a := by simp [Go.bits, BitVec.or_comm]
end Go.Proofs.YtgdknepphkhnlaaGreatDoor.Z

/- What the putters compute (putNum, putText, putTexts), the program's and the reference's: the same bytes behind b; for seats without the laws' helpers. No Go, no memory. -/
set_option linter.unusedVariables false
namespace Go.Proofs.YtgdknepphkhnlaaGreatDoor.Z
open Go.RowKit Go.Proofs.YtgdknepphkhnlaaGreatDoorW.PrintWords Go.Proofs.YtgdknepphkhnlaaGreatDoorW.PrintMore Go.Proofs.YtgdknepphkhnlaaGreatDoor.X
def total (l : List ByteArray) : Nat := (l.map fun s => s.size).sum
theorem total_nil : total [] = 0 := rfl
theorem total_cons (s : ByteArray) (l : List ByteArray) : total (s :: l) = s.size + total l := by simp [total]
def encN : Nat → Nat → List Int
 | 0, n => [(n : Int) % 256]
 | d + 1, n => if n > 127 then ((n % 128 + 128 : Nat) : Int) :: encN d (n / 128) else [(n : Int) % 256]
theorem encN_length (d : Nat) : ∀ n, (encN d n).length ≤ d + 1 := by
 induction d with
 | zero => intro n; simp [encN]
 | succ d ih =>
  intro n
  unfold encN
  split
  ·have := ih (n / 128)
   simp
   omega
  ·simp
def near (n : Int) : Nat := (mx 0 (mn n 1000000000)).toNat
theorem near_eq (n : Int) : mx 0 (mn n 1000000000) = (near n : Int) := by
 unfold near mx mn
 split <;> split <;> omega
theorem near_le (n : Int) : near n ≤ 1000000000 := by
 unfold near mx mn
 split <;> split <;> omega
theorem orbyte {n : Nat} (hn : n ≤ 1000000000) : Go.bits .or .i64 (Go.bits .and .i64 (n : Int) 127) 128 % 256 = ((n % 128 + 128 : Nat) : Int) ∧ Go.bits .or .i64 128 (Go.bits .and .i64 (n : Int) 127) % 256 = ((n % 128 + 128 : Nat) : Int) := by
 have h1 : Go.bits .and .i64 (n : Int) 127 = (n : Int) % 128 := bits_mask .i64 63 zh wraps_i64 7 zh n zg zg
 rw [h1]
 have h2 : Go.bits .or .i64 128 ((n : Int) % 128) = 128 + (n : Int) % 128 :=
  bits_join .i64 63 zh wraps_i64 7 _ _ zg zh zh zg zg zg
 rw [or_comm64, h2]
 omega
theorem specPut_l0 (d : Nat) : ∀ (n : Nat) (b : List Int), n < 128 ^ (d + 1) → n ≤ 1000000000 → b.length + d < 140737488355328 → Ev (fun k => spec_PutNum.l0 k (n : Int) b) (b ++ encN d n) := by
 induction d with
 | zero =>
  intro n b h0 h1 h2
  refine evS (fun k => by rw [spec_PutNum.l0]) ?_
  exact evF (by simp at h0; omega) (evT zg (evR rfl))
 | succ d ih =>
  intro n b h0 h1 h2
  refine evS (fun k => by rw [spec_PutNum.l0]) ?_
  refine evI (fun h => ?_) (fun h => ?_)
  ·refine evT zg ?_
   rw [(orbyte h1).1, show (n : Int) / 128 = ((n / 128 : Nat) : Int) by omega]
   refine evE ?_ (ih (n / 128) _ (by rw [Nat.div_lt_iff_lt_mul zh]; rw [Nat.pow_succ] at h0; exact h0) zg (by simp; omega))
   rw [encN, if_pos zg]
   simp
  ·refine evT zg (evR ?_)
   rw [encN, if_neg zg]
theorem specPut_ev (b : List Int) (n : Int) (hb : b.length < 140737488355000) : Ev (fun k => spec_PutNum.f k b n) (b ++ encN 4 (near n)) := by
 unfold spec_PutNum.f
 have hm := near_le n
 have hfin : ∀ m : Int, m = (near n : Int) → Ev (fun k => spec_PutNum.j1 k m b) (b ++ encN 4 (near n)) := by
  intro m h
  rw [h]
  exact evS (fun k => by rw [spec_PutNum.j1]) (specPut_l0 4 (near n) b zg hm zg)
 have hj : ∀ m : Int, mx 0 m = (near n : Int) → Ev (fun k => spec_PutNum.j0 k m b) (b ++ encN 4 (near n)) := by
  intro m h
  refine evS (fun k => by rw [spec_PutNum.j0]) (evI (fun h0 => hfin _ ?_) (fun h0 => hfin _ ?_))
  ·rw [← h]
   unfold mx
   split <;> omega
  ·rw [← h]
   unfold mx
   split <;> omega
 refine evC rfl ?_
 refine evT (by simp; omega) ?_
 refine evC rfl ?_
 simp only [List.nil_append]
 refine evI (fun h0 => hj _ ?_) (fun h0 => hj _ ?_)
 ·rw [← near_eq]
  unfold mn
  rw [if_pos h0]
 ·rw [← near_eq]
  unfold mn
  rw [if_neg h0]
theorem implPut_l0 (d : Nat) : ∀ (n : Nat) (b : List Int), n < 128 ^ (d + 1) → n ≤ 1000000000 → b.length + d < 140737488355328 → Ev (fun k => impl_putNum.l0 k b (n : Int)) (b ++ encN d n) := by
 induction d with
 | zero =>
  intro n b h0 h1 h2
  refine evS (fun k => by rw [impl_putNum.l0]) ?_
  exact evF (by simp at h0; omega) (evT zg (evR rfl))
 | succ d ih =>
  intro n b h0 h1 h2
  refine evS (fun k => by rw [impl_putNum.l0]) ?_
  refine evI (fun h => ?_) (fun h => ?_)
  ·refine evT zg ?_
   rw [(orbyte h1).2, show (n : Int) / 128 = ((n / 128 : Nat) : Int) by omega]
   refine evE ?_ (ih (n / 128) _ (by rw [Nat.div_lt_iff_lt_mul zh]; rw [Nat.pow_succ] at h0; exact h0) zg (by simp; omega))
   rw [encN, if_pos zg]
   simp
  ·refine evT zg (evR ?_)
   rw [encN, if_neg zg]
theorem implputNum_ev (b : List Int) (n : Int) (hb : b.length < 140737488355000) : Ev (fun k => impl_putNum.f k b n) (b ++ encN 4 (near n)) := by
 unfold impl_putNum.f
 rw [near_eq]
 exact implPut_l0 4 (near n) b (by have := near_le n; omega) (near_le n) zg
def encT (s : ByteArray) : List Int := encN 4 (near (s.size : Int)) ++ bytesOf s
theorem encT_length (s : ByteArray) : (encT s).length ≤ s.size + 5 := by
 unfold encT
 rw [List.length_append, bytesOf_length]
 have := encN_length 4 (near (s.size : Int))
 omega
theorem specText_ev (b : List Int) (s : ByteArray) (hb : b.length + s.size < 140737488350000) : Ev (fun k => spec_PutText.f k b s) (b ++ encT s) := by
 unfold spec_PutText.f
 refine evB (specPut_ev b _ zg) ?_
 have := encN_length 4 (near (s.size : Int))
 refine evT z3r (evR ?_)
 rw [encT, List.append_assoc]
theorem implputText_ev (b : List Int) (s : ByteArray) (hb : b.length + s.size < 140737488350000) : Ev (fun k => impl_putText.f k b s) (b ++ encT s) := by
 unfold impl_putText.f
 refine evB (implputNum_ev b _ zg) ?_
 have := encN_length 4 (near (s.size : Int))
 refine evT z3r (evR ?_)
 rw [encT, List.append_assoc]
def encL (l : List ByteArray) : List Int := (l.map encT).flatten
theorem encL_cons (s : ByteArray) (l : List ByteArray) : encL (s :: l) = encT s ++ encL l := by simp [encL]
theorem drop_rd (l : List ByteArray) (i : Nat) (h : i < l.length) : l.drop i = rdOf ByteArray.empty l (i : Int) :: l.drop (i + 1) := by
 rw [List.drop_eq_getElem_cons h]
 have := rdOf_get (d := ByteArray.empty) h
 rw [List.getElem?_eq_getElem h] at this
 rw [Option.some.inj this]
theorem specTexts_l0 (l : List ByteArray) (hn : l.length ≤ 4611686018427387904) (d : Nat) : ∀ (i : Nat) (b : List Int), i + d = l.length → b.length + total (l.drop i) + 5 * d < 140737488350000 → Ev (fun k => spec_PutTexts.l0 k l b (i : Int)) (b ++ encL (l.drop i)) := by
 induction d with
 | zero =>
  intro i b hi hb
  refine evS (fun k => by rw [spec_PutTexts.l0]) (evF zg (evR ?_))
  rw [List.drop_eq_nil_of_le zg]
  simp [encL]
 | succ d ih =>
  intro i b hi hb
  have hd := drop_rd l i zg
  rw [hd, total_cons] at hb
  refine evS (fun k => by rw [spec_PutTexts.l0]) (evT zg (evT zg ?_))
  refine evB (specText_ev b _ zg) ?_
  rw [w64s (show i < l.length by omega) zg]
  have he := encT_length (rdOf ByteArray.empty l (i : Int))
  refine evE ?_ (ih (i + 1) _ zg z3r)
  rw [hd, encL_cons, List.append_assoc]
theorem specTexts_ev (b : List Int) (l : List ByteArray) (hb : b.length + total l + 5 * l.length < 140737488340000) : Ev (fun k => spec_PutTexts.f k b l) (b ++ (encN 4 (near (l.length : Int)) ++ encL l)) := by
 unfold spec_PutTexts.f
 have := encN_length 4 (near (l.length : Int))
 refine evB (specPut_ev b _ zg) ?_
 refine evE ?_ (specTexts_l0 l zg l.length 0 _ zg (by rw [List.length_append, List.drop_zero]; omega))
 rw [List.drop_zero, List.append_assoc]
theorem implTexts_l0 (l : List ByteArray) (hn : l.length ≤ 4611686018427387904) (d : Nat) : ∀ (i : Nat) (b : List Int), i + d = l.length → b.length + total (l.drop i) + 5 * d < 140737488350000 → Ev (fun k => impl_putTexts.l0 k b l (l.length : Int) (i : Int)) (b ++ encL (l.drop i)) := by
 induction d with
 | zero =>
  intro i b hi hb
  refine evS (fun k => by rw [impl_putTexts.l0]) (evF zg (evR ?_))
  rw [List.drop_eq_nil_of_le zg]
  simp [encL]
 | succ d ih =>
  intro i b hi hb
  have hd := drop_rd l i zg
  rw [hd, total_cons] at hb
  refine evS (fun k => by rw [impl_putTexts.l0]) (evT zg (evT zg (evT zg ?_)))
  refine evB (implputText_ev b _ zg) ?_
  rw [w64s (show i < l.length by omega) zg]
  have he := encT_length (rdOf ByteArray.empty l (i : Int))
  refine evE ?_ (ih (i + 1) _ zg z3r)
  rw [hd, encL_cons, List.append_assoc]
theorem implputTexts_ev (b : List Int) (l : List ByteArray) (hb : b.length + total l + 5 * l.length < 140737488340000) : Ev (fun k => impl_putTexts.f k b l) (b ++ (encN 4 (near (l.length : Int)) ++ encL l)) := by
 unfold impl_putTexts.f
 have := encN_length 4 (near (l.length : Int))
 refine evB (implputNum_ev b _ zg) ?_
 refine evE ?_ (implTexts_l0 l zg l.length 0 _ zg (by rw [List.length_append, List.drop_zero]; omega))
 rw [List.drop_zero, List.append_assoc]
end Go.Proofs.YtgdknepphkhnlaaGreatDoor.Z

/- Right entries: the program's way and the reference's. Plain lemmas. -/
set_option linter.unusedVariables false
namespace Go.Proofs.YtgdknepphkhnlaaGreatDoor.Z
open Go.RowKit Go.Proofs.YtgdknepphkhnlaaGreatDoorW.PrintWords Go.Proofs.YtgdknepphkhnlaaGreatDoorW.PrintMore Go.Proofs.YtgdknepphkhnlaaGreatDoor.X Go.Proofs.YtgdknepphkhnlaaGreatDoor.Sp
theorem entryOk_l0 (s : ByteArray) (a b c : Int) (p : ByteArray) (l : List S35) (hs : s.size ≤ 1048576) (hp : p.size ≤ 1048576) (hn : l.length ≤ 1048576) (hl : ∀ y ∈ l, smallN y) (d : Nat) : ∀ i : Nat, i + d = l.length → ∃ r : Bool,
  Ev (fun k => impl_EntryOk.l0 k l (l.length : Int) (i : Int) s a b c p l) r ∧ Ev (fun k => spec_EntryOk.l0 k (i : Int) s a b c p l) r := by
 induction d with
 | zero =>
  intro i hi
  obtain ⟨f, fI, fS, _⟩ := fits_both s a b c p hs hp
  obtain ⟨r, rI, rS⟩ := rise_both l hn hl
  refine ⟨f && (r && decide ((l.length : Int) ≤ 8)), ?_, ?_⟩
  ·refine evS (fun k => by rw [impl_EntryOk.l0]) (evF zg (evB fI ?_))
   cases f with
   | false => exact evF Bool.false_ne_true (evR rfl)
   | true => exact evT rfl (evB (rI 8) (evR rfl))
  ·refine evS (fun k => by rw [spec_EntryOk.l0]) (evF zg (evB fS ?_))
   cases f with
   | false => exact evF Bool.false_ne_true (evR rfl)
   | true =>
    refine evT rfl ?_
    rw [Bool.true_and]
    by_cases h8 : (l.length : Int) ≤ 8
    ·exact evT h8 (evB rS (evR (by rw [decide_eq_true h8, Bool.and_true])))
    ·exact evF h8 (evR (by rw [decide_eq_false h8, Bool.and_false]))
 | succ d ih =>
  intro i hi
  have il : i < l.length := by omega
  have ws := w64s (show i < l.length from il) zg
  by_cases he : l[i].f0.toList = s.toList
  ·refine ⟨false, ?_, ?_⟩
   ·refine evS (fun k => by rw [impl_EntryOk.l0]) ?_
    rw [rdN il]
    exact evT zg (evT zg (evT zg (evT he (evR rfl))))
   ·refine evS (fun k => by rw [spec_EntryOk.l0]) ?_
    rw [rdN il]
    exact evT zg (evT zg (evT he (evR rfl)))
  ·obtain ⟨r, q1, q2⟩ := ih (i + 1) zg
   refine ⟨r, ?_, ?_⟩
   ·refine evS (fun k => by rw [impl_EntryOk.l0]) ?_
    rw [rdN il, ws]
    exact evT zg (evT zg (evT zg (evF he q1)))
   ·refine evS (fun k => by rw [spec_EntryOk.l0]) ?_
    rw [rdN il, ws]
    exact evT zg (evT zg (evF he q2))
theorem entryOk_both (s : ByteArray) (a b c : Int) (p : ByteArray) (l : List S35) (hs : s.size ≤ 1048576) (hp : p.size ≤ 1048576) (hn : l.length ≤ 1048576) (hl : ∀ y ∈ l, smallN y) : ∃ r : Bool,
  Ev (fun k => impl_EntryOk.f k s a b c p l) r ∧ Ev (fun k => spec_EntryOk.f k s a b c p l) r := by
 unfold impl_EntryOk.f spec_EntryOk.f
 exact entryOk_l0 s a b c p l hs hp hn hl l.length 0 zg
end Go.Proofs.YtgdknepphkhnlaaGreatDoor.Z

/- What a right entry tells: it fits, its needs fit and rise, there are at most eight. Plain lemmas. -/
set_option linter.unusedVariables false
namespace Go.Proofs.YtgdknepphkhnlaaGreatDoor.Z
open Go.RowKit Go.Proofs.YtgdknepphkhnlaaGreatDoorW.PrintWords Go.Proofs.YtgdknepphkhnlaaGreatDoorW.PrintMore Go.Proofs.YtgdknepphkhnlaaGreatDoor.X Go.Proofs.YtgdknepphkhnlaaGreatDoor.Sp
def fitsN (y : S35) : Prop := Ev (fun k => impl_Fits.f k y.f0 y.f1.f0 y.f1.f1 y.f1.f2 y.f1.f3) true ∧ Ev (fun k => spec_Fits.f k y.f0 y.f1.f0 y.f1.f1 y.f1.f2 y.f1.f3) true
theorem rise_fits (l : List S35) (hn : l.length ≤ 1048576) (hl : ∀ y ∈ l, smallN y) (d : Nat) : ∀ i : Nat, i + d = l.length → Ev (fun k => spec_l5Rising.l0 k l (i : Int)) true → ∀ y ∈ l.drop i, fitsN y := by
 induction d with
 | zero =>
  intro i hi H y hy
  rw [List.drop_eq_nil_of_le zg] at hy
  cases hy
 | succ d ih =>
  intro i hi H
  have il : i < l.length := by omega
  obtain ⟨r0, _, hS, fI, fS⟩ := need_both l[i] (hl _ (List.getElem_mem il))
  obtain ⟨r, _, q2⟩ := rise_l0 l 0 hn hl d (i + 1) zg
  have ws := w64s (show i < l.length from il) zg
  cases r0 with
  | false =>
   have H2 : Ev (fun k => spec_l5Rising.l0 k l (i : Int)) false := by
    refine evS (fun k => by rw [spec_l5Rising.l0]) ?_
    rw [rdN il]
    exact evT zg (evT zg (evB hS (evF Bool.false_ne_true (evR rfl))))
   have := ev_one H2 H
   cases this
  | true =>
   have hrest : r = true := by
    cases r with
    | true => rfl
    | false =>
     have H2 : Ev (fun k => spec_l5Rising.l0 k l (i : Int)) false := by
      refine evS (fun k => by rw [spec_l5Rising.l0]) ?_
      rw [rdN il, ws]
      refine evT zg (evT zg (evB hS (evT rfl ?_)))
      by_cases h0 : i = 0
      ·exact evF zg q2
      ·have wp : wrap64 ((i : Int) - 1) = ((i - 1 : Nat) : Int) := by rw [w64 zg]; omega
       rw [wp]
       exact evT zg (evT zg (evT zg (evI (fun _ => q2) (fun _ => evR rfl))))
     have := ev_one H2 H
     cases this
   subst hrest
   intro y hy
   rw [List.drop_eq_getElem_cons il] at hy
   rcases List.mem_cons.1 hy with rfl | hy
   ·exact ⟨fI, fS⟩
   ·exact ih (i + 1) zg q2 y hy
theorem entry_l0 (s : ByteArray) (a b c : Int) (p : ByteArray) (l : List S35) (hs : s.size ≤ 1048576) (hp : p.size ≤ 1048576) (hn : l.length ≤ 1048576) (hl : ∀ y ∈ l, smallN y) (d : Nat) : ∀ i : Nat, i + d = l.length →
  Ev (fun k => spec_EntryOk.l0 k (i : Int) s a b c p l) true → Ev (fun k => impl_Fits.f k s a b c p) true ∧ l.length ≤ 8 ∧ Ev (fun k => spec_l5Rising.f k l) true := by
 induction d with
 | zero =>
  intro i hi H
  obtain ⟨f, fI, fS, _⟩ := fits_both s a b c p hs hp
  obtain ⟨r, rI, rS⟩ := rise_both l hn hl
  have H2 : Ev (fun k => spec_EntryOk.l0 k (i : Int) s a b c p l) (f && (r && decide ((l.length : Int) ≤ 8))) := by
   refine evS (fun k => by rw [spec_EntryOk.l0]) (evF zg (evB fS ?_))
   cases f with
   | false => exact evF Bool.false_ne_true (evR rfl)
   | true =>
    refine evT rfl ?_
    rw [Bool.true_and]
    by_cases h8 : (l.length : Int) ≤ 8
    ·exact evT h8 (evB rS (evR (by rw [decide_eq_true h8, Bool.and_true])))
    ·exact evF h8 (evR (by rw [decide_eq_false h8, Bool.and_false]))
  have e := ev_one H2 H
  simp only [Bool.and_eq_true, decide_eq_true_eq] at e
  obtain ⟨e1, e2, e3⟩ := e
  subst e1
  subst e2
  exact ⟨fI, zg, rS⟩
 | succ d ih =>
  intro i hi H
  have il : i < l.length := by omega
  have ws := w64s (show i < l.length from il) zg
  by_cases he : l[i].f0.toList = s.toList
  ·have H2 : Ev (fun k => spec_EntryOk.l0 k (i : Int) s a b c p l) false := by
    refine evS (fun k => by rw [spec_EntryOk.l0]) ?_
    rw [rdN il]
    exact evT zg (evT zg (evT he (evR rfl)))
   have := ev_one H2 H
   cases this
  ·obtain ⟨r, _, q2⟩ := entryOk_l0 s a b c p l hs hp hn hl d (i + 1) zg
   have H2 : Ev (fun k => spec_EntryOk.l0 k (i : Int) s a b c p l) r := by
    refine evS (fun k => by rw [spec_EntryOk.l0]) ?_
    rw [rdN il, ws]
    exact evT zg (evT zg (evF he q2))
   rw [ev_one H2 H] at q2
   exact ih (i + 1) zg q2
theorem entry_true (s : ByteArray) (a b c : Int) (p : ByteArray) (l : List S35) (hs : s.size ≤ 1048576) (hp : p.size ≤ 1048576) (hn : l.length ≤ 1048576) (hl : ∀ y ∈ l, smallN y) (H : Ev (fun k => spec_EntryOk.f k s a b c p l) true) :
  Ev (fun k => impl_Fits.f k s a b c p) true ∧ l.length ≤ 8 ∧ Ev (fun k => spec_l5Rising.f k l) true ∧ ∀ y ∈ l, fitsN y := by
 obtain ⟨h1, h2, h3⟩ := entry_l0 s a b c p l hs hp hn hl l.length 0 zg H
 refine ⟨h1, h2, h3, fun y hy => ?_⟩
 have := rise_fits l hn hl l.length 0 zg h3 y
 rw [List.drop_zero] at this
 exact this hy
end Go.Proofs.YtgdknepphkhnlaaGreatDoor.Z

/- A version's text, the program's and the reference's: the same. Plain lemmas. -/
set_option linter.unusedVariables false
namespace Go.Proofs.YtgdknepphkhnlaaGreatDoor.Z
open Go.RowKit Go.Proofs.YtgdknepphkhnlaaGreatDoorW.PrintWords Go.Proofs.YtgdknepphkhnlaaGreatDoorW.PrintMore Go.Proofs.YtgdknepphkhnlaaGreatDoor.X Go.Proofs.YtgdknepphkhnlaaGreatDoor.Sp
def dB (a : Int) : ByteArray := ⟨(Lib.decDigits a.toNat).toArray⟩
theorem nd7 : ∀ n : Nat, n < 10000000 → Lib.nDigits n ≤ 7 := by
 intro n h
 have s : ∀ (m d : Nat), Lib.nDigits (m / 10) ≤ d → Lib.nDigits m ≤ d + 1 := by
  intro m d hm
  rw [Lib.nDigits]
  split <;> omega
 have b : Lib.nDigits (n / 10 / 10 / 10 / 10 / 10 / 10) ≤ 1 := by
  rw [Lib.nDigits, dif_pos zg]
  exact Nat.le_refl _
 exact s _ _ (s _ _ (s _ _ (s _ _ (s _ _ (s _ _ b)))))
theorem dB_size (a : Int) (h : a ≤ 1000000) : (dB a).size ≤ 7 := by
 show (Lib.decDigits a.toNat).toArray.size ≤ 7
 rw [List.size_toArray, Lib.decDigits_length]
 exact nd7 _ zg
def verT (a b c : Int) (p : ByteArray) : ByteArray :=
 if p.size = 0 then ((((((⟨#[118]⟩ : ByteArray) ++ dB a) ++ (⟨#[46]⟩ : ByteArray)) ++ dB b) ++ (⟨#[46]⟩ : ByteArray)) ++ dB c) else ((((((⟨#[118]⟩ : ByteArray) ++ dB a) ++ (⟨#[46]⟩ : ByteArray)) ++ dB b) ++ (⟨#[46]⟩ : ByteArray)) ++ dB c) ++ ((⟨#[45]⟩ : ByteArray) ++ p)
def verText (a b c : Int) (p : ByteArray) : ByteArray := if verOk a b c p = true then verT a b c p else ⟨#[]⟩
theorem verOk_in {a b c : Int} {p : ByteArray} (h : verOk a b c p = true) : (0 ≤ a ∧ a ≤ 1000000) ∧ (0 ≤ b ∧ b ≤ 1000000) ∧ (0 ≤ c ∧ c ≤ 1000000) := by
 unfold verOk in6 at h
 simp only [Bool.and_eq_true, decide_eq_true_eq] at h
 exact ⟨h.1, h.2.1, h.2.2.1⟩
theorem itoa_dB (a : Int) (h : 0 ≤ a ∧ a ≤ 1000000) : strconv_Itoa.f a = some (dB a) := by
 unfold strconv_Itoa.f dB Lib.itoa
 rw [if_pos zg, if_neg zg]
theorem text_dB (a : Int) (h : 0 ≤ a ∧ a ≤ 1000000) : Ev (fun k => spec_l3Text.f k a) (dB a) := by
 have := text_ev a.toNat zg
 rw [show ((a.toNat : Nat) : Int) = a by omega] at this
 exact this
theorem verText_both (a b c : Int) (p : ByteArray) (hp : p.size ≤ 1048576) : Ev (fun k => impl_VersionText.f k a b c p) (verText a b c p) ∧ Ev (fun k => spec_VersionText.f k a b c p) (verText a b c p) := by
 obtain ⟨hI, hS⟩ := verOk_both a b c p hp
 unfold verText
 cases hv : verOk a b c p with
 | false =>
  rw [hv] at hI hS
  refine ⟨?_, ?_⟩
  ·unfold impl_VersionText.f
   exact evB hI (evF Bool.false_ne_true (evR rfl))
  ·unfold spec_VersionText.f
   exact evB hS (evF Bool.false_ne_true (evR rfl))
 | true =>
  rw [hv] at hI hS
  obtain ⟨ra, rb, rc⟩ := verOk_in hv
  have za := dB_size a ra.2
  have zb := dB_size b rb.2
  have zc := dB_size c rc.2
  have ia := itoa_dB a ra
  have ib := itoa_dB b rb
  have ic := itoa_dB c rc
  have ta := text_dB a ra
  have tb := text_dB b rb
  have tc := text_dB c rc
  unfold verT
  generalize dB a = x at *
  generalize dB b = y at *
  generalize dB c = z at *
  have s1 : ((⟨#[118]⟩ : ByteArray) ++ x).size = 1 + x.size := ByteArray.size_append
  have s2 : (((⟨#[118]⟩ : ByteArray) ++ x) ++ (⟨#[46]⟩ : ByteArray)).size = 1 + x.size + 1 := by rw [ByteArray.size_append, s1]; rfl
  have s3 : ((((⟨#[118]⟩ : ByteArray) ++ x) ++ (⟨#[46]⟩ : ByteArray)) ++ y).size = 1 + x.size + 1 + y.size := by rw [ByteArray.size_append, s2]
  have s4 : (((((⟨#[118]⟩ : ByteArray) ++ x) ++ (⟨#[46]⟩ : ByteArray)) ++ y) ++ (⟨#[46]⟩ : ByteArray)).size = 1 + x.size + 1 + y.size + 1 := by rw [ByteArray.size_append, s3]; rfl
  have s5 : ((((((⟨#[118]⟩ : ByteArray) ++ x) ++ (⟨#[46]⟩ : ByteArray)) ++ y) ++ (⟨#[46]⟩ : ByteArray)) ++ z).size = 1 + x.size + 1 + y.size + 1 + z.size := by rw [ByteArray.size_append, s4]
  have s6 : (((((((⟨#[118]⟩ : ByteArray) ++ x) ++ (⟨#[46]⟩ : ByteArray)) ++ y) ++ (⟨#[46]⟩ : ByteArray)) ++ z) ++ (⟨#[45]⟩ : ByteArray)).size = 1 + x.size + 1 + y.size + 1 + z.size + 1 := by rw [ByteArray.size_append, s5]; rfl
  have s7 : ((⟨#[45]⟩ : ByteArray) ++ p).size = 1 + p.size := ByteArray.size_append
  refine ⟨?_, ?_⟩
  ·unfold impl_VersionText.f
   refine evB hI (evT rfl (evC ia (evT zg (evT zg (evC ib (evT zg (evT zg (evC ic (evT zg ?_)))))))))
   rw [if_pos rfl]
   by_cases h : p.size = 0
   ·rw [if_pos h]
    exact evT ((nil_iff' p).2 h) (evR rfl)
   ·rw [if_neg h]
    exact evF (fun e => h ((nil_iff' p).1 e)) (evT zg (evT zg (evR rfl)))
  ·unfold spec_VersionText.f
   refine evB hS (evT rfl (evB ta (evT zg (evT zg (evB tb (evT zg (evT zg (evB tc (evT zg ?_)))))))))
   rw [if_pos rfl]
   by_cases h : p.size = 0
   ·rw [if_pos h]
    exact evT ((nil_iff' p).2 h) (evR rfl)
   ·rw [if_neg h]
    refine evF (fun e => h ((nil_iff' p).1 e)) (evT zg (evT zg (evR ?_)))
    exact ByteArray.append_assoc
theorem verText_size (a b c : Int) (p : ByteArray) : (verText a b c p).size ≤ 25 + p.size := by
 unfold verText
 cases hv : verOk a b c p with
 | false => rw [if_neg Bool.false_ne_true]; show 0 ≤ _; omega
 | true =>
  obtain ⟨ra, rb, rc⟩ := verOk_in hv
  have za := dB_size a ra.2
  have zb := dB_size b rb.2
  have zc := dB_size c rc.2
  rw [if_pos rfl]
  have e1 : (⟨#[118]⟩ : ByteArray).size = 1 := rfl
  have e2 : (⟨#[46]⟩ : ByteArray).size = 1 := rfl
  have e3 : (⟨#[45]⟩ : ByteArray).size = 1 := rfl
  unfold verT
  split <;> simp only [ByteArray.size_append, e1, e2, e3] <;> omega
end Go.Proofs.YtgdknepphkhnlaaGreatDoor.Z

/- A name: the program's and the reference's are the same. Plain lemmas. -/
set_option linter.unusedVariables false
namespace Go.Proofs.YtgdknepphkhnlaaGreatDoor.Z
open Go.RowKit Go.Proofs.YtgdknepphkhnlaaGreatDoorW.PrintWords Go.Proofs.YtgdknepphkhnlaaGreatDoorW.PrintMore Go.Proofs.YtgdknepphkhnlaaGreatDoor.X Go.Proofs.YtgdknepphkhnlaaGreatDoor.Sp
def nameT (r : Bool) (s : ByteArray) (a b c : Int) (p : ByteArray) : ByteArray := if r = true then (s ++ (⟨#[64]⟩ : ByteArray)) ++ verText a b c p else ⟨#[]⟩
theorem name_both (s : ByteArray) (a b c : Int) (p : ByteArray) (r : Bool) (hs : s.size ≤ 1048576) (hp : p.size ≤ 1048576) (f1 : Ev (fun k => impl_Fits.f k s a b c p) r) (f2 : Ev (fun k => spec_Fits.f k s a b c p) r) :
  Ev (fun k => impl_EntryName.f k s a b c p) (nameT r s a b c p) ∧ Ev (fun k => spec_EntryName.f k s a b c p) (nameT r s a b c p) := by
 obtain ⟨t1, t2⟩ := verText_both a b c p hp
 have hz := verText_size a b c p
 have hz2 : (s ++ (⟨#[64]⟩ : ByteArray)).size = s.size + 1 := ByteArray.size_append
 unfold impl_EntryName.f spec_EntryName.f nameT
 cases r with
 | false => exact ⟨evB f1 (evF Bool.false_ne_true (evR rfl)), evB f2 (evF Bool.false_ne_true (evR rfl))⟩
 | true => exact ⟨evB f1 (evT rfl (evT zg (evB t1 (evT zg (evR rfl))))), evB f2 (evT rfl (evT zg (evB t2 (evT zg (evR rfl)))))⟩
end Go.Proofs.YtgdknepphkhnlaaGreatDoor.Z

/- What PutEntry computes, the program's and the reference's: the same bytes. Plain lemmas. -/
set_option linter.unusedVariables false
namespace Go.Proofs.YtgdknepphkhnlaaGreatDoor.Z
open Go.RowKit Go.Proofs.YtgdknepphkhnlaaGreatDoorW.PrintWords Go.Proofs.YtgdknepphkhnlaaGreatDoorW.PrintMore Go.Proofs.YtgdknepphkhnlaaGreatDoor.X Go.Proofs.YtgdknepphkhnlaaGreatDoor.Sp
def nmN (y : S35) : ByteArray := nameT true y.f0 y.f1.f0 y.f1.f1 y.f1.f2 y.f1.f3
theorem nameT_size (s : ByteArray) (a b c : Int) (p : ByteArray) : (nameT true s a b c p).size ≤ s.size + 26 + p.size := by
 have hz := verText_size a b c p
 unfold nameT
 rw [if_pos rfl, ByteArray.size_append, ByteArray.size_append]
 have : (⟨#[64]⟩ : ByteArray).size = 1 := rfl
 omega
theorem nmN_small {y : S35} (h : smallN y) : (nmN y).size ≤ 2097178 := by
 have := nameT_size y.f0 y.f1.f0 y.f1.f1 y.f1.f2 y.f1.f3
 obtain ⟨h1, h2⟩ := h
 unfold nmN
 omega
theorem total_small (l : List S35) (hl : ∀ y ∈ l, smallN y) : total (l.map nmN) ≤ 2097178 * l.length := by
 induction l with
 | nil => simp [total_nil]
 | cons y l ih =>
  rw [List.map_cons, total_cons, List.length_cons]
  have := ih (fun z hz => hl z (List.mem_cons_of_mem _ hz))
  have := nmN_small (hl y List.mem_cons_self)
  omega
def encE (s : ByteArray) (a b c : Int) (p : ByteArray) (l : List S35) : List Int := encT (nameT true s a b c p) ++ (encN 4 (near ((l.map nmN).length : Int)) ++ encL (l.map nmN))
theorem putE_tail (s : ByteArray) (a b c : Int) (p : ByteArray) (l : List S35) (hs : s.size ≤ 1048576) (hp : p.size ≤ 1048576) (hn : l.length ≤ 8) (hl : ∀ y ∈ l, smallN y) :
  (nameT true s a b c p).size ≤ 2097178 ∧ (([] : List Int).length + (nameT true s a b c p).size < 140737488350000) ∧ ((encT (nameT true s a b c p)).length + total (l.map nmN) + 5 * (l.map nmN).length < 140737488340000) := by
 have h1 := nameT_size s a b c p
 have h2 := total_small l hl
 have h3 := encT_length (nameT true s a b c p)
 rw [List.length_map]
 refine ⟨zg, ?_, zg⟩
 show 0 + _ < _
 omega
theorem specPE_l0 (s : ByteArray) (a b c : Int) (p : ByteArray) (l : List S35) (hs : s.size ≤ 1048576) (hp : p.size ≤ 1048576) (hn : l.length ≤ 8) (hl : ∀ y ∈ l, smallN y) (hf : Ev (fun k => impl_Fits.f k s a b c p) true) (hf2 : Ev (fun k => spec_Fits.f k s a b c p) true) (hfl : ∀ y ∈ l, fitsN y) (d : Nat) :
  ∀ i : Nat, i + d = l.length → Ev (fun k => spec_PutEntry.l0 k ((l.take i).map nmN) (i : Int) s a b c p l) (strOfNums (encE s a b c p l)) := by
 obtain ⟨z0, z1, z2⟩ := putE_tail s a b c p l hs hp hn hl
 induction d with
 | zero =>
  intro i hi
  refine evS (fun k => by rw [spec_PutEntry.l0]) (evF zg ?_)
  rw [List.take_of_length_le zg]
  obtain ⟨_, n2⟩ := name_both s a b c p true hs hp hf hf2
  refine evB n2 (evB (specText_ev [] _ z1) ?_)
  rw [List.nil_append]
  exact evB (specTexts_ev _ _ z2) (evR rfl)
 | succ d ih =>
  intro i hi
  have il : i < l.length := by omega
  have hm := List.getElem_mem il
  obtain ⟨_, n2⟩ := name_both l[i].f0 l[i].f1.f0 l[i].f1.f1 l[i].f1.f2 l[i].f1.f3 true (hl _ hm).1 (hl _ hm).2 (hfl _ hm).1 (hfl _ hm).2
  have ht : ((l.take i).map nmN).length = i := by rw [List.length_map, List.length_take]; omega
  refine evS (fun k => by rw [spec_PutEntry.l0]) ?_
  rw [rdN il, w64s il zg]
  refine evT zg (evT zg (evB n2 (evT zg ?_)))
  have := ih (i + 1) zg
  rw [List.take_succ_eq_append_getElem il, List.map_append] at this
  exact this
theorem implPE_l0 (s : ByteArray) (a b c : Int) (p : ByteArray) (l : List S35) (hs : s.size ≤ 1048576) (hp : p.size ≤ 1048576) (hn : l.length ≤ 8) (hl : ∀ y ∈ l, smallN y) (hf : Ev (fun k => impl_Fits.f k s a b c p) true) (hf2 : Ev (fun k => spec_Fits.f k s a b c p) true) (hfl : ∀ y ∈ l, fitsN y) (d : Nat) :
  ∀ i : Nat, i + d = l.length → Ev (fun k => impl_PutEntry.l0 k ((l.take i).map nmN) l (l.length : Int) (i : Int) s a b c p l) (strOfNums (encE s a b c p l)) := by
 obtain ⟨z0, z1, z2⟩ := putE_tail s a b c p l hs hp hn hl
 induction d with
 | zero =>
  intro i hi
  refine evS (fun k => by rw [impl_PutEntry.l0]) (evF zg ?_)
  rw [List.take_of_length_le zg]
  obtain ⟨n1, _⟩ := name_both s a b c p true hs hp hf hf2
  refine evB n1 (evB (implputText_ev [] _ z1) ?_)
  rw [List.nil_append]
  exact evB (implputTexts_ev _ _ z2) (evR rfl)
 | succ d ih =>
  intro i hi
  have il : i < l.length := by omega
  have hm := List.getElem_mem il
  obtain ⟨n1, _⟩ := name_both l[i].f0 l[i].f1.f0 l[i].f1.f1 l[i].f1.f2 l[i].f1.f3 true (hl _ hm).1 (hl _ hm).2 (hfl _ hm).1 (hfl _ hm).2
  have ht : ((l.take i).map nmN).length = i := by rw [List.length_map, List.length_take]; omega
  have n0 : Ev (fun k => impl_nameOf.f k l[i].f0 l[i].f1.f0 l[i].f1.f1 l[i].f1.f2 l[i].f1.f3) (nmN l[i]) := by
   unfold impl_nameOf.f
   exact evB n1 (evR rfl)
  refine evS (fun k => by rw [impl_PutEntry.l0]) ?_
  rw [rdN il, w64s il zg]
  refine evT zg (evT zg (evT zg (evB n0 (evT zg ?_))))
  have := ih (i + 1) zg
  rw [List.take_succ_eq_append_getElem il, List.map_append] at this
  exact this
theorem putE_both (s : ByteArray) (a b c : Int) (p : ByteArray) (l : List S35) (hs : s.size ≤ 1048576) (hp : p.size ≤ 1048576) (hn : l.length ≤ 1048576) (hl : ∀ y ∈ l, smallN y) : ∃ r : Bool,
  Ev (fun k => impl_EntryOk.f k s a b c p l) r ∧ Ev (fun k => spec_EntryOk.f k s a b c p l) r ∧
  Ev (fun k => impl_PutEntry.f k s a b c p l) (if r = true then strOfNums (encE s a b c p l) else (⟨#[]⟩ : ByteArray)) ∧ Ev (fun k => spec_PutEntry.f k s a b c p l) (if r = true then strOfNums (encE s a b c p l) else (⟨#[]⟩ : ByteArray)) := by
 obtain ⟨r, q1, q2⟩ := entryOk_both s a b c p l hs hp hn hl
 refine ⟨r, q1, q2, ?_, ?_⟩
 ·unfold impl_PutEntry.f
  refine evB q1 ?_
  cases r with
  | false => exact evF Bool.false_ne_true (evR rfl)
  | true =>
   obtain ⟨f1, f2, _, f4⟩ := entry_true s a b c p l hs hp hn hl q2
   obtain ⟨r0, g1, g2, _⟩ := fits_both s a b c p hs hp
   have := ev_one g1 f1
   subst this
   exact evT rfl (implPE_l0 s a b c p l hs hp f2 hl g1 g2 f4 l.length 0 zg)
 ·unfold spec_PutEntry.f
  refine evB q2 ?_
  cases r with
  | false => exact evF Bool.false_ne_true (evR rfl)
  | true =>
   obtain ⟨f1, f2, _, f4⟩ := entry_true s a b c p l hs hp hn hl q2
   obtain ⟨r0, g1, g2, _⟩ := fits_both s a b c p hs hp
   have := ev_one g1 f1
   subst this
   exact evT rfl (specPE_l0 s a b c p l hs hp f2 hl g1 g2 f4 l.length 0 zg)
end Go.Proofs.YtgdknepphkhnlaaGreatDoor.Z

/- The law FnExactPutEntry, as a plain statement: the program's PutEntry answers as the reference's, and leaves its argument alone. Conditions: those of the row's reading alone. -/
namespace Go.Proofs.YtgdknepphkhnlaaGreatDoor.Pure
open Go.RowKit Go.Proofs.YtgdknepphkhnlaaGreatDoor.X Go.Proofs.YtgdknepphkhnlaaGreatDoor.Z Go.Proofs.YtgdknepphkhnlaaGreatDoorW.PrintWords Go.Proofs.YtgdknepphkhnlaaGreatDoorW.PrintLast
theorem FnExactPutEntry : laws_FnExactPutEntry.Pure := by
 intro s a b c p l ⟨hs, ⟨_, _, _, hp⟩, hl, hy⟩
 refine Ev.rounds ?_
 unfold laws_FnExactPutEntry.f
 unfold maxLen at hl hy hs hp
 have e0 : wrap64 ((1048576 : Int) - (s.size : Int)) = 1048576 - (s.size : Int) := w64 zg
 by_cases h0 : (1048576 : Int) - (s.size : Int) < 0
 ·refine evB (a := -1) ?_ (evT zg (evR rfl))
  unfold laws_szEntry.f
  rw [e0]
  exact evT h0 (evR rfl)
 have e1 : wrap64 ((1048576 : Int) - (s.size : Int) - (p.size : Int)) = 1048576 - (s.size : Int) - (p.size : Int) := w64 zg
 by_cases h1 : (1048576 : Int) - (s.size : Int) - (p.size : Int) < 0
 ·refine evB (a := -1) ?_ (evT zg (evR rfl))
  unfold laws_szEntry.f laws_szVersion.f
  rw [e0, e1, if_pos h1]
  exact evF h0 (evC rfl (evT zg (evR rfl)))
 obtain ⟨q, hq, hq2⟩ := szN_ev l (1048576 - (s.size : Int) - (p.size : Int)) zg zg zg (fun y h => by have := hy y h; omega)
 by_cases h2 : q < 0
 ·refine evB (a := -1) ?_ (evT zg (evR rfl))
  unfold laws_szEntry.f laws_szVersion.f
  rw [e0, e1, if_neg h1]
  exact evF h0 (evC rfl (evF h1 (evB hq (evT h2 (evR rfl)))))
 refine evB (a := q) ?_ (evF h2 ?_)
 ·unfold laws_szEntry.f laws_szVersion.f
  rw [e0, e1, if_neg h1]
  exact evF h0 (evC rfl (evF h1 (evB hq (evF h2 (evR rfl)))))
 rcases hq2 with h | ⟨h, hn, hsm⟩
 ·exact absurd h h2
 have hm : (l.map cvN).length ≤ 1048576 := by rw [List.length_map]; exact hn
 have hT : Ev (fun k => laws_toEntry.f k s a b c p l) (s, a, b, c, p, l.map cvN) := by
  unfold laws_toEntry.f
  exact evC rfl (evB (toN_ev l hn) (evR rfl))
 obtain ⟨r, _, _, hI, hS⟩ := putE_both s a b c p (l.map cvN) zg zg hm hsm
 refine evB hT (evB hS (evB hT (evB hI (evT rfl (evB hT (evB (a := true) ?_ (evT rfl (evR rfl))))))))
 unfold laws_eqEntry.f laws_eqVersion.f
 refine evT rfl ?_
 rw [if_pos rfl, if_pos rfl, if_pos rfl, if_pos rfl]
 exact evC rfl (evT rfl (evB (eqN_same _ hm) (evT rfl (evR rfl))))
end Go.Proofs.YtgdknepphkhnlaaGreatDoor.Pure

/- Values that come in as data (strings' slices, structs, slices of structs, nested) are of the printer's kinds: one lemma a make of type. Plain lemmas for the rows of laws over such parameters. No conditions beyond what each lemma names. -/
set_option linter.unusedVariables false
namespace Go.Proofs.YtgdknepphkhnlaaGreatDoor.Y
open Go.RowKit Go.Proofs.YtgdknepphkhnlaaGreatDoorW.PrintWords Go.ChangeShapes Go.WideShapes Go.Deep
def Opn {α : Type} (P : Program) (d : Kd α) (T : TypeId) (G : α → Prop) : Prop :=
 ∀ {H : Type} (enc : TypeId × Value → H) (w : World) (spare : Nat → Bool) (held : Bool) (fuel : Nat) (cs : List Value) (x : DataW H × List MemPlace), DataW.trod enc P w 0 spare held fuel T cs = some x → ∃ y, d.K w y cs ∧ G y
theorem Opn.int {P : Program} {T : TypeId} {k : IntKind} (h : P.underlying T = some (.int k)) : Opn P (Kd.int k) T (fun n => (Lit.int k n).wf = true) := by
 intro H enc w spare held fuel cs x hx
 obtain ⟨n, rfl, _, hn⟩ := DataW.trod_int h hx
 exact ⟨n, rfl, hn⟩
theorem Opn.string {P : Program} {T : TypeId} (h : P.underlying T = some .string) : Opn P Kd.string T (fun s => s.size ≤ maxLen) := by
 intro H enc w spare held fuel cs x hx
 obtain ⟨s, rfl, _, hs⟩ := DataW.trod_string h hx
 exact ⟨s, rfl, hs⟩
theorem Opn.slice {α : Type} {P : Program} {d : Kd α} {T e : TypeId} {G : α → Prop} [Inhabited α] (h : P.underlying T = some (.slice e)) (he : P.cellsOf e = d.sz) (ho : Opn P d e G) :
  Opn P (Kd.slice e d) T (fun l => l.length ≤ maxLen ∧ ∀ y, y ∈ l → G y) := by
 intro H enc w spare held fuel cs x hx
 rcases open_slice h hx with ⟨rfl, _⟩ | ⟨a, len, cap, m, n, D, Pl, rfl, _, hl, hm, hmm, _, hel⟩
 ·exact ⟨[], ⟨none, 0, rfl, Nat.le_refl _, rfl, by simp, fun hn => absurd hn (Nat.lt_irrefl 0)⟩, by simp, fun y hy => by cases hy⟩
 ·have hlm : len ≤ m := by rw [hmm]; split <;> omega
  have each : ∀ i, i < len → ∃ y, (∃ c, c.length = d.sz ∧ d.K w y c ∧ ∀ j u, c[j]? = some u → w.cell? (a.add (i * d.sz + j)) = some u) ∧ G y := by
   intro i hi
   obtain ⟨c, hc, ht⟩ := hel i zg
   obtain ⟨y, hk, hg⟩ := ho enc w spare held n c _ ht
   obtain ⟨_, hlen, hcell⟩ := World.cells?_some hc
   refine ⟨y, ⟨c, hlen.trans he, hk, fun j u hu => ?_⟩, hg⟩
   have hj : j < P.cellsOf e := by rw [← hlen]; exact (List.getElem?_eq_some_iff.1 hu).1
   have := hcell j hj
   rw [Go.Deep.add_add, hu, he] at this
   exact this
  obtain ⟨f, hf⟩ := choose_lt each
  have hlen : ((List.range len).map f).length = len := by simp
  have hm' : len ≤ maxLen := Nat.le_trans hl hm
  refine ⟨(List.range len).map f, ⟨some a, cap, by rw [hlen], by rw [hlen]; exact hl, by rw [hlen], by rw [hlen]; unfold maxLen at hm'; exact hm', fun _ => ⟨a, rfl, fun j p hp => ?_⟩⟩, by rw [hlen]; exact hm', fun y hy => ?_⟩
  ·obtain ⟨hj, rfl⟩ := List.getElem?_eq_some_iff.1 hp
   rw [hlen] at hj
   simp only [List.getElem_map, List.getElem_range]
   exact (hf j hj).1
  ·obtain ⟨i, hi, rfl⟩ := List.mem_map.1 hy
   exact (hf i (List.mem_range.1 hi)).2
def FOpn {α : Type} (P : Program) (d : Kd α) (off : Nat) (fs : List Field) (G : α → Prop) : Prop :=
 ∀ {H : Type} (enc : TypeId × Value → H) (w : World) (spare : Nat → Bool) (held : Bool) (fuel : Nat) (cs : List Value),
  (∀ f, f ∈ fs → ∃ x, DataW.trod enc P w 0 spare held fuel f.type ((cs.drop f.offset).take (P.cellsOf f.type)) = some x) → cs.length = off + d.sz → ∃ y, d.K w y (cs.drop off) ∧ G y
theorem FOpn.one {α : Type} {P : Program} {d : Kd α} {off : Nat} {f : Field} {G : α → Prop} (hf : f.offset = off) (hc : P.cellsOf f.type = d.sz) (ho : Opn P d f.type G) : FOpn P d off [f] G := by
 intro H enc w spare held fuel cs hx hl
 obtain ⟨x, hx⟩ := hx f (by simp)
 rw [hf, hc, List.take_of_length_le (by simp; omega)] at hx
 exact ho enc w spare held fuel _ x hx
theorem FOpn.cons {α β : Type} {P : Program} {d : Kd α} {d' : Kd β} {off : Nat} {f : Field} {fs : List Field} {G : α → Prop} {G' : β → Prop} (hf : f.offset = off) (hc : P.cellsOf f.type = d.sz) (ho : Opn P d f.type G)
  (hs : FOpn P d' (off + d.sz) fs G') : FOpn P (Kd.pair d d') off (f :: fs) (fun y => G y.1 ∧ G' y.2) := by
 intro H enc w spare held fuel cs hx hl
 have hl' : cs.length = off + (d.sz + d'.sz) := hl
 obtain ⟨x, h1⟩ := hx f (by simp)
 rw [hf, hc] at h1
 obtain ⟨y, hy, gy⟩ := ho enc w spare held fuel _ x h1
 obtain ⟨z, hz, gz⟩ := hs enc w spare held fuel cs (fun g hg => hx g (List.mem_cons_of_mem _ hg)) zg
 refine ⟨(y, z), ⟨_, _, ?_, hy, hz⟩, gy, gz⟩
 rw [← List.drop_drop, List.take_append_drop]
theorem Opn.struct {α β : Type} {P : Program} {d : Kd α} {T : TypeId} {fs : Array Field} {fl : List Field} {G : α → Prop} {G' : β → Prop} {proj : β → α} (mk : α → β) (h : P.underlying T = some (.struct fs)) (hfl : fs.toList = fl) (hc : P.cellsOf T = d.sz)
  (hmk : ∀ y, proj (mk y) = y) (hG : ∀ y, G y → G' (mk y)) (hs : FOpn P d 0 fl G) : Opn P (Kd.iso d proj) T G' := by
 intro H enc w spare held fuel cs x hx
 obtain ⟨xs, n, rfl, _, hlen, hxs, hall⟩ := DataW.trod_struct h hx
 obtain ⟨y, hy, gy⟩ := hs enc w spare held n cs (fun f hf => by
  rw [← hfl] at hf
  obtain ⟨i, hi, he⟩ := List.getElem_of_mem hf
  have hi' : i < fs.size := by simpa using hi
  have h1 : fs[i]? = some f := by rw [Array.getElem?_eq_getElem hi']; simpa using he
  exact ⟨_, (hall i f h1).trans (List.getElem?_eq_getElem zg)⟩) (by rw [hlen, hc, Nat.zero_add])
 refine ⟨mk y, ?_, hG y gy⟩
 show d.K w (proj (mk y)) cs
 rw [hmk]
 exact hy
theorem Opn.arg_struct {α : Type} {P : Program} {d : Kd α} {T : TypeId} {G : α → Prop} {fs : Array Field} (hu : P.underlying T = some (.struct fs)) (ho : Opn P d T G)
  {H : Type} {enc : TypeId × Value → H} {w : World} {spare : Nat → Bool} {held : Bool} {v : Value} {D : DataW H} {ps : List MemPlace} {r : Reach} {b : Nat} (hv : Value.okWide P w r b T v) (hx : DataW.Trod enc P w 0 spare held T v D ps) :
  ∃ (cs : List Value) (y : α), v = .agg cs.toArray ∧ d.K w y cs ∧ G y := by
 obtain ⟨cs, rfl, _⟩ := okWide_struct hu hv
 obtain ⟨fuel, hf⟩ := hx
 obtain ⟨y, hk, hg⟩ := ho enc w spare held fuel _ _ hf
 exact ⟨cs.toList, y, by simp, hk, hg⟩
end Go.Proofs.YtgdknepphkhnlaaGreatDoor.Y

/- Three closed facts of the rows of this seat (how the program may be entered), by the first words of the translation's head row. No conditions. -/
namespace Go.Proofs.YtgdknepphkhnlaaGreatDoor.Y
open Go.ChangeShapes Go.WideShapes Go.ChangeAt Go.RowKit
def tailSigns : List Char := [Char.ofNat 108, Char.ofNat 111, Char.ofNat 111, Char.ofNat 112, Char.ofNat 46, Char.ofNat 101, Char.ofNat 120, Char.ofNat 97, Char.ofNat 109, Char.ofNat 112, Char.ofNat 108, Char.ofNat 101, Char.ofNat 47, Char.ofNat 103, Char.ofNat 48, Char.ofNat 48, Char.ofNat 50, Char.ofNat 51, Char.ofNat 51, Char.ofNat 47, Char.ofNat 108, Char.ofNat 97, Char.ofNat 119, Char.ofNat 115, Char.ofNat 46, Char.ofNat 70, Char.ofNat 110, Char.ofNat 69, Char.ofNat 110, Char.ofNat 116, Char.ofNat 114, Char.ofNat 105, Char.ofNat 101, Char.ofNat 115, Char.ofNat 32, Char.ofNat 108, Char.ofNat 111, Char.ofNat 111, Char.ofNat 112, Char.ofNat 46, Char.ofNat 101, Char.ofNat 120, Char.ofNat 97, Char.ofNat 109, Char.ofNat 112, Char.ofNat 108, Char.ofNat 101, Char.ofNat 47, Char.ofNat 103, Char.ofNat 48, Char.ofNat 48, Char.ofNat 50, Char.ofNat 51, Char.ofNat 51, Char.ofNat 47, Char.ofNat 108, Char.ofNat 97, Char.ofNat 119, Char.ofNat 115, Char.ofNat 46, Char.ofNat 70, Char.ofNat 110, Char.ofNat 69, Char.ofNat 120, Char.ofNat 97, Char.ofNat 99, Char.ofNat 116, Char.ofNat 71, Char.ofNat 101, Char.ofNat 116, Char.ofNat 69, Char.ofNat 110, Char.ofNat 116, Char.ofNat 114, Char.ofNat 121, Char.ofNat 32, Char.ofNat 108, Char.ofNat 111, Char.ofNat 111, Char.ofNat 112, Char.ofNat 46, Char.ofNat 101, Char.ofNat 120, Char.ofNat 97, Char.ofNat 109, Char.ofNat 112, Char.ofNat 108, Char.ofNat 101, Char.ofNat 47, Char.ofNat 103, Char.ofNat 48, Char.ofNat 48, Char.ofNat 50, Char.ofNat 51, Char.ofNat 51, Char.ofNat 47, Char.ofNat 108, Char.ofNat 97, Char.ofNat 119, Char.ofNat 115, Char.ofNat 46, Char.ofNat 70, Char.ofNat 110, Char.ofNat 82, Char.ofNat 101, Char.ofNat 97, Char.ofNat 100, Char.ofNat 32, Char.ofNat 108, Char.ofNat 111, Char.ofNat 111, Char.ofNat 112, Char.ofNat 46, Char.ofNat 101, Char.ofNat 120, Char.ofNat 97, Char.ofNat 109, Char.ofNat 112, Char.ofNat 108, Char.ofNat 101, Char.ofNat 47, Char.ofNat 103, Char.ofNat 48, Char.ofNat 48, Char.ofNat 50, Char.ofNat 51, Char.ofNat 51, Char.ofNat 47, Char.ofNat 108, Char.ofNat 97, Char.ofNat 119, Char.ofNat 115, Char.ofNat 46, Char.ofNat 70, Char.ofNat 110, Char.ofNat 69, Char.ofNat 120, Char.ofNat 97, Char.ofNat 99, Char.ofNat 116, Char.ofNat 80, Char.ofNat 117, Char.ofNat 116, Char.ofNat 69, Char.ofNat 110, Char.ofNat 116, Char.ofNat 114, Char.ofNat 121]
set_option maxRecDepth 100000 in
theorem initOrder_lit : Tryz.pinned.checked.prog.initOrder = "harness 6d29ea37bb3f2b96e849b59654e73d13cb16360989e6b50d65bf3eda784cb5ab cut at loop.example/g00233/laws.FnEntries loop.example/g00233/laws.FnExactGetEntry loop.example/g00233/laws.FnRead loop.example/g00233/laws.FnExactPutEntry" := by kernel_rfl
set_option maxRecDepth 100000 in
theorem lit_list : ("harness 6d29ea37bb3f2b96e849b59654e73d13cb16360989e6b50d65bf3eda784cb5ab cut at loop.example/g00233/laws.FnEntries loop.example/g00233/laws.FnExactGetEntry loop.example/g00233/laws.FnRead loop.example/g00233/laws.FnExactPutEntry" : String) = String.ofList (Char.ofNat 104 :: Char.ofNat 97 :: Char.ofNat 114 :: Char.ofNat 110 :: Char.ofNat 101 :: Char.ofNat 115 :: Char.ofNat 115 :: Char.ofNat 32 :: Char.ofNat 54 :: Char.ofNat 100 :: Char.ofNat 50 :: Char.ofNat 57 :: Char.ofNat 101 :: Char.ofNat 97 :: Char.ofNat 51 :: Char.ofNat 55 :: Char.ofNat 98 :: Char.ofNat 98 :: Char.ofNat 51 :: Char.ofNat 102 :: Char.ofNat 50 :: Char.ofNat 98 :: Char.ofNat 57 :: Char.ofNat 54 :: Char.ofNat 101 :: Char.ofNat 56 :: Char.ofNat 52 :: Char.ofNat 57 :: Char.ofNat 98 :: Char.ofNat 53 :: Char.ofNat 57 :: Char.ofNat 54 :: Char.ofNat 53 :: Char.ofNat 52 :: Char.ofNat 101 :: Char.ofNat 55 :: Char.ofNat 51 :: Char.ofNat 100 :: Char.ofNat 49 :: Char.ofNat 51 :: Char.ofNat 99 :: Char.ofNat 98 :: Char.ofNat 49 :: Char.ofNat 54 :: Char.ofNat 51 :: Char.ofNat 54 :: Char.ofNat 48 :: Char.ofNat 57 :: Char.ofNat 56 :: Char.ofNat 57 :: Char.ofNat 101 :: Char.ofNat 54 :: Char.ofNat 98 :: Char.ofNat 53 :: Char.ofNat 48 :: Char.ofNat 100 :: Char.ofNat 54 :: Char.ofNat 53 :: Char.ofNat 98 :: Char.ofNat 102 :: Char.ofNat 51 :: Char.ofNat 101 :: Char.ofNat 100 :: Char.ofNat 97 :: Char.ofNat 55 :: Char.ofNat 56 :: Char.ofNat 52 :: Char.ofNat 99 :: Char.ofNat 98 :: Char.ofNat 53 :: Char.ofNat 97 :: Char.ofNat 98 :: Char.ofNat 32 :: Char.ofNat 99 :: Char.ofNat 117 :: Char.ofNat 116 :: Char.ofNat 32 :: Char.ofNat 97 :: Char.ofNat 116 :: Char.ofNat 32 :: tailSigns) := by kernel_rfl
theorem initOrder_list : Tryz.pinned.checked.prog.initOrder.toList = Char.ofNat 104 :: Char.ofNat 97 :: Char.ofNat 114 :: Char.ofNat 110 :: Char.ofNat 101 :: Char.ofNat 115 :: Char.ofNat 115 :: Char.ofNat 32 :: Char.ofNat 54 :: Char.ofNat 100 :: Char.ofNat 50 :: Char.ofNat 57 :: Char.ofNat 101 :: Char.ofNat 97 :: Char.ofNat 51 :: Char.ofNat 55 :: Char.ofNat 98 :: Char.ofNat 98 :: Char.ofNat 51 :: Char.ofNat 102 :: Char.ofNat 50 :: Char.ofNat 98 :: Char.ofNat 57 :: Char.ofNat 54 :: Char.ofNat 101 :: Char.ofNat 56 :: Char.ofNat 52 :: Char.ofNat 57 :: Char.ofNat 98 :: Char.ofNat 53 :: Char.ofNat 57 :: Char.ofNat 54 :: Char.ofNat 53 :: Char.ofNat 52 :: Char.ofNat 101 :: Char.ofNat 55 :: Char.ofNat 51 :: Char.ofNat 100 :: Char.ofNat 49 :: Char.ofNat 51 :: Char.ofNat 99 :: Char.ofNat 98 :: Char.ofNat 49 :: Char.ofNat 54 :: Char.ofNat 51 :: Char.ofNat 54 :: Char.ofNat 48 :: Char.ofNat 57 :: Char.ofNat 56 :: Char.ofNat 57 :: Char.ofNat 101 :: Char.ofNat 54 :: Char.ofNat 98 :: Char.ofNat 53 :: Char.ofNat 48 :: Char.ofNat 100 :: Char.ofNat 54 :: Char.ofNat 53 :: Char.ofNat 98 :: Char.ofNat 102 :: Char.ofNat 51 :: Char.ofNat 101 :: Char.ofNat 100 :: Char.ofNat 97 :: Char.ofNat 55 :: Char.ofNat 56 :: Char.ofNat 52 :: Char.ofNat 99 :: Char.ofNat 98 :: Char.ofNat 53 :: Char.ofNat 97 :: Char.ofNat 98 :: Char.ofNat 32 :: Char.ofNat 99 :: Char.ofNat 117 :: Char.ofNat 116 :: Char.ofNat 32 :: Char.ofNat 97 :: Char.ofNat 116 :: Char.ofNat 32 :: tailSigns := (congrArg String.toList (initOrder_lit.trans lit_list)).trans String.toList_ofList
theorem words_at (r : List Char) : wordsSigns (Char.ofNat 104 :: Char.ofNat 97 :: Char.ofNat 114 :: Char.ofNat 110 :: Char.ofNat 101 :: Char.ofNat 115 :: Char.ofNat 115 :: Char.ofNat 32 :: Char.ofNat 54 :: Char.ofNat 100 :: Char.ofNat 50 :: Char.ofNat 57 :: Char.ofNat 101 :: Char.ofNat 97 :: Char.ofNat 51 :: Char.ofNat 55 :: Char.ofNat 98 :: Char.ofNat 98 :: Char.ofNat 51 :: Char.ofNat 102 :: Char.ofNat 50 :: Char.ofNat 98 :: Char.ofNat 57 :: Char.ofNat 54 :: Char.ofNat 101 :: Char.ofNat 56 :: Char.ofNat 52 :: Char.ofNat 57 :: Char.ofNat 98 :: Char.ofNat 53 :: Char.ofNat 57 :: Char.ofNat 54 :: Char.ofNat 53 :: Char.ofNat 52 :: Char.ofNat 101 :: Char.ofNat 55 :: Char.ofNat 51 :: Char.ofNat 100 :: Char.ofNat 49 :: Char.ofNat 51 :: Char.ofNat 99 :: Char.ofNat 98 :: Char.ofNat 49 :: Char.ofNat 54 :: Char.ofNat 51 :: Char.ofNat 54 :: Char.ofNat 48 :: Char.ofNat 57 :: Char.ofNat 56 :: Char.ofNat 57 :: Char.ofNat 101 :: Char.ofNat 54 :: Char.ofNat 98 :: Char.ofNat 53 :: Char.ofNat 48 :: Char.ofNat 100 :: Char.ofNat 54 :: Char.ofNat 53 :: Char.ofNat 98 :: Char.ofNat 102 :: Char.ofNat 51 :: Char.ofNat 101 :: Char.ofNat 100 :: Char.ofNat 97 :: Char.ofNat 55 :: Char.ofNat 56 :: Char.ofNat 52 :: Char.ofNat 99 :: Char.ofNat 98 :: Char.ofNat 53 :: Char.ofNat 97 :: Char.ofNat 98 :: Char.ofNat 32 :: Char.ofNat 99 :: Char.ofNat 117 :: Char.ofNat 116 :: Char.ofNat 32 :: Char.ofNat 97 :: Char.ofNat 116 :: Char.ofNat 32 :: r) = [Char.ofNat 104, Char.ofNat 97, Char.ofNat 114, Char.ofNat 110, Char.ofNat 101, Char.ofNat 115, Char.ofNat 115] :: [Char.ofNat 54, Char.ofNat 100, Char.ofNat 50, Char.ofNat 57, Char.ofNat 101, Char.ofNat 97, Char.ofNat 51, Char.ofNat 55, Char.ofNat 98, Char.ofNat 98, Char.ofNat 51, Char.ofNat 102, Char.ofNat 50, Char.ofNat 98, Char.ofNat 57, Char.ofNat 54, Char.ofNat 101, Char.ofNat 56, Char.ofNat 52, Char.ofNat 57, Char.ofNat 98, Char.ofNat 53, Char.ofNat 57, Char.ofNat 54, Char.ofNat 53, Char.ofNat 52, Char.ofNat 101, Char.ofNat 55, Char.ofNat 51, Char.ofNat 100, Char.ofNat 49, Char.ofNat 51, Char.ofNat 99, Char.ofNat 98, Char.ofNat 49, Char.ofNat 54, Char.ofNat 51, Char.ofNat 54, Char.ofNat 48, Char.ofNat 57, Char.ofNat 56, Char.ofNat 57, Char.ofNat 101, Char.ofNat 54, Char.ofNat 98, Char.ofNat 53, Char.ofNat 48, Char.ofNat 100, Char.ofNat 54, Char.ofNat 53, Char.ofNat 98, Char.ofNat 102, Char.ofNat 51, Char.ofNat 101, Char.ofNat 100, Char.ofNat 97, Char.ofNat 55, Char.ofNat 56, Char.ofNat 52, Char.ofNat 99, Char.ofNat 98, Char.ofNat 53, Char.ofNat 97, Char.ofNat 98] :: [Char.ofNat 99, Char.ofNat 117, Char.ofNat 116] :: [Char.ofNat 97, Char.ofNat 116] :: wordsSigns r := by kernel_rfl
theorem behind_at (t : List (List Char)) : behindMainWord ([Char.ofNat 104, Char.ofNat 97, Char.ofNat 114, Char.ofNat 110, Char.ofNat 101, Char.ofNat 115, Char.ofNat 115] :: [Char.ofNat 54, Char.ofNat 100, Char.ofNat 50, Char.ofNat 57, Char.ofNat 101, Char.ofNat 97, Char.ofNat 51, Char.ofNat 55, Char.ofNat 98, Char.ofNat 98, Char.ofNat 51, Char.ofNat 102, Char.ofNat 50, Char.ofNat 98, Char.ofNat 57, Char.ofNat 54, Char.ofNat 101, Char.ofNat 56, Char.ofNat 52, Char.ofNat 57, Char.ofNat 98, Char.ofNat 53, Char.ofNat 57, Char.ofNat 54, Char.ofNat 53, Char.ofNat 52, Char.ofNat 101, Char.ofNat 55, Char.ofNat 51, Char.ofNat 100, Char.ofNat 49, Char.ofNat 51, Char.ofNat 99, Char.ofNat 98, Char.ofNat 49, Char.ofNat 54, Char.ofNat 51, Char.ofNat 54, Char.ofNat 48, Char.ofNat 57, Char.ofNat 56, Char.ofNat 57, Char.ofNat 101, Char.ofNat 54, Char.ofNat 98, Char.ofNat 53, Char.ofNat 48, Char.ofNat 100, Char.ofNat 54, Char.ofNat 53, Char.ofNat 98, Char.ofNat 102, Char.ofNat 51, Char.ofNat 101, Char.ofNat 100, Char.ofNat 97, Char.ofNat 55, Char.ofNat 56, Char.ofNat 52, Char.ofNat 99, Char.ofNat 98, Char.ofNat 53, Char.ofNat 97, Char.ofNat 98] :: [Char.ofNat 99, Char.ofNat 117, Char.ofNat 116] :: [Char.ofNat 97, Char.ofNat 116] :: t) = [Char.ofNat 99, Char.ofNat 117, Char.ofNat 116] :: [Char.ofNat 97, Char.ofNat 116] :: t := by kernel_rfl
theorem behind_all : behindMainWord (wordsSigns Tryz.pinned.checked.prog.initOrder.toList) = [Char.ofNat 99, Char.ofNat 117, Char.ofNat 116] :: [Char.ofNat 97, Char.ofNat 116] :: wordsSigns tailSigns := by rw [initOrder_list, words_at, behind_at]
theorem make_of (c : List Char) (rest : List (List Char)) (P : Program) (h0 : (c == "gc".toList) = false) (h1 : (c == "spec".toList) = false) (h2 : (c == "cut".toList) = true) (h : behindMainWord (wordsSigns P.initOrder.toList) = c :: rest) : P.make = some .cut := by
 unfold Program.make
 rw [h]
 simp only [h0, h1, h2]
 rfl
theorem mayEnter_of (c : List Char) (rest : List (List Char)) (P : Program) (h0 : (c == "gc".toList) = false) (h1 : (c == "spec".toList) = false) (h2 : (c == "carried".toList) = false) (h : behindMainWord (wordsSigns P.initOrder.toList) = c :: rest)
  (h3 : ((stripLifts liftWords (c :: rest)).2.head? == some "cut".toList) = true) (h4 : P.laysLater = false) (h5 : P.bearsReflect = false) (h6 : P.doorFits (stripLifts liftWords (c :: rest)).1 = true) (h7 : (stripLifts liftWords (c :: rest)).1.contains "leanrows" = false) : P.mayEnter = true := by
 unfold Program.mayEnter
 rw [h]
 simp only [h0, h1, h2, h3, h4, h5, h6, h7]
 simp
theorem liftsFinal_of (c : List Char) (rest : List (List Char)) (P : Program) (h2 : (some c == some "carried".toList) = false) (h : behindMainWord (wordsSigns P.initOrder.toList) = c :: rest)
  (h3 : ((stripLifts liftWords (c :: rest)).2.head? == some "cut".toList) = true) (h7 : (stripLifts liftWords (c :: rest)).1.contains "finals" = false) : P.liftsFinal = false := by
 unfold Program.liftsFinal Program.headLifts
 rw [h]
 simp only [List.head?_cons, h2, h3, if_true, h7, Bool.false_and, Bool.or_self]
theorem strip_at (t : List (List Char)) : stripLifts liftWords ([Char.ofNat 99, Char.ofNat 117, Char.ofNat 116] :: [Char.ofNat 97, Char.ofNat 116] :: t) = ([], [Char.ofNat 99, Char.ofNat 117, Char.ofNat 116] :: [Char.ofNat 97, Char.ofNat 116] :: t) := by kernel_rfl
theorem laysLater_at : Tryz.pinned.checked.prog.laysLater = false := by kernel_rfl
theorem bearsReflect_at : Tryz.pinned.checked.prog.bearsReflect = false := by kernel_rfl
theorem doorFits_at : Tryz.pinned.checked.prog.doorFits [] = true := by kernel_rfl
theorem mayEnter_at : Tryz.pinned.checked.prog.mayEnter = true :=
 mayEnter_of _ _ _ zi zi zi behind_all (by rw [strip_at]; generalize wordsSigns tailSigns = t; kernel_rfl) laysLater_at bearsReflect_at (by rw [strip_at]; exact doorFits_at) (by rw [strip_at]; rfl)
theorem liftsFinal_at : Tryz.pinned.checked.prog.liftsFinal = false :=
 liftsFinal_of _ _ _ zi behind_all (by rw [strip_at]; generalize wordsSigns tailSigns = t; kernel_rfl) (by rw [strip_at]; rfl)
theorem make_at : Tryz.pinned.checked.prog.make = some .cut := make_of _ _ _ zi zi zi behind_all
end Go.Proofs.YtgdknepphkhnlaaGreatDoor.Y

/- A world for the witnesses: the settled one, the listed tables holding what their initialisers lay. No conditions. -/
namespace Go.Proofs.YtgdknepphkhnlaaGreatDoor.Y
open Go.ChangeShapes Go.WideShapes Go.ChangeAt Go.RowKit
noncomputable def laidWorld (os : Os) : World :=
 { World.holding Tryz.prog os ⟨#[], #[], []⟩ with heap := ((((((((((World.holding Tryz.prog os ⟨#[], #[], []⟩).heap).modify 3 (fun o => match o with | .cells _ t z => .cells #[Value.int .u64 1, Value.int .u64 10, Value.int .u64 100, Value.int .u64 1000, Value.int .u64 10000, Value.int .u64 100000, Value.int .u64 1000000, Value.int .u64 10000000, Value.int .u64 100000000, Value.int .u64 1000000000, Value.int .u64 10000000000, Value.int .u64 100000000000, Value.int .u64 1000000000000, Value.int .u64 10000000000000, Value.int .u64 100000000000000, Value.int .u64 1000000000000000, Value.int .u64 10000000000000000, Value.int .u64 100000000000000000, Value.int .u64 1000000000000000000, Value.int .u64 10000000000000000000] t z | o => o)).modify 4 (fun o => match o with | .cells _ t z => .cells ((Go.Pinned.utf8FirstZ.map fun (n : Nat) => Value.int .u8 (n : Int)).toArray) t z | o => o)).modify 5 (fun o => match o with | .cells _ t z => .cells #[Value.int .u8 128, Value.int .u8 191, Value.int .u8 160, Value.int .u8 191, Value.int .u8 128, Value.int .u8 159, Value.int .u8 144, Value.int .u8 191, Value.int .u8 128, Value.int .u8 143, Value.int .u8 0, Value.int .u8 0, Value.int .u8 0, Value.int .u8 0, Value.int .u8 0, Value.int .u8 0, Value.int .u8 0, Value.int .u8 0, Value.int .u8 0, Value.int .u8 0, Value.int .u8 0, Value.int .u8 0, Value.int .u8 0, Value.int .u8 0, Value.int .u8 0, Value.int .u8 0, Value.int .u8 0, Value.int .u8 0, Value.int .u8 0, Value.int .u8 0, Value.int .u8 0, Value.int .u8 0] t z | o => o)).modify 6 (fun o => match o with | .cells _ t z => .cells #[Value.int .u8 0, Value.int .u8 1, Value.int .u8 28, Value.int .u8 2, Value.int .u8 29, Value.int .u8 14, Value.int .u8 24, Value.int .u8 3, Value.int .u8 30, Value.int .u8 22, Value.int .u8 20, Value.int .u8 15, Value.int .u8 25, Value.int .u8 17, Value.int .u8 4, Value.int .u8 8, Value.int .u8 31, Value.int .u8 27, Value.int .u8 13, Value.int .u8 23, Value.int .u8 21, Value.int .u8 19, Value.int .u8 16, Value.int .u8 7, Value.int .u8 26, Value.int .u8 12, Value.int .u8 18, Value.int .u8 6, Value.int .u8 11, Value.int .u8 5, Value.int .u8 10, Value.int .u8 9] t z | o => o)).modify 7 (fun o => match o with | .cells _ t z => .cells #[Value.int .u8 0, Value.int .u8 1, Value.int .u8 56, Value.int .u8 2, Value.int .u8 57, Value.int .u8 49, Value.int .u8 28, Value.int .u8 3, Value.int .u8 61, Value.int .u8 58, Value.int .u8 42, Value.int .u8 50, Value.int .u8 38, Value.int .u8 29, Value.int .u8 17, Value.int .u8 4, Value.int .u8 62, Value.int .u8 47, Value.int .u8 59, Value.int .u8 36, Value.int .u8 45, Value.int .u8 43, Value.int .u8 51, Value.int .u8 22, Value.int .u8 53, Value.int .u8 39, Value.int .u8 33, Value.int .u8 30, Value.int .u8 24, Value.int .u8 18, Value.int .u8 12, Value.int .u8 5, Value.int .u8 63, Value.int .u8 55, Value.int .u8 48, Value.int .u8 27, Value.int .u8 60, Value.int .u8 41, Value.int .u8 37, Value.int .u8 16, Value.int .u8 46, Value.int .u8 35, Value.int .u8 44, Value.int .u8 21, Value.int .u8 52, Value.int .u8 32, Value.int .u8 23, Value.int .u8 11, Value.int .u8 54, Value.int .u8 26, Value.int .u8 40, Value.int .u8 15, Value.int .u8 34, Value.int .u8 20, Value.int .u8 31, Value.int .u8 10, Value.int .u8 25, Value.int .u8 14, Value.int .u8 19, Value.int .u8 9, Value.int .u8 13, Value.int .u8 8, Value.int .u8 7, Value.int .u8 6] t z | o => o)).modify 1 (fun o => match o with | .cells _ t z => .cells #[Value.iface 164 (.pointer (some ⟨(World.holding Tryz.prog os ⟨#[], #[], []⟩).heap.size + 0, 0, none⟩))] t z | o => o)).push (.cells #[Value.string ⟨#[105, 110, 118, 97, 108, 105, 100, 32, 115, 121, 110, 116, 97, 120]⟩] 166 (0, 0))).modify 2 (fun o => match o with | .cells _ t z => .cells #[Value.iface 164 (.pointer (some ⟨(World.holding Tryz.prog os ⟨#[], #[], []⟩).heap.size + 1, 0, none⟩))] t z | o => o)).push (.cells #[Value.string ⟨#[118, 97, 108, 117, 101, 32, 111, 117, 116, 32, 111, 102, 32, 114, 97, 110, 103, 101]⟩] 166 (0, 0)) }
end Go.Proofs.YtgdknepphkhnlaaGreatDoor.Y
