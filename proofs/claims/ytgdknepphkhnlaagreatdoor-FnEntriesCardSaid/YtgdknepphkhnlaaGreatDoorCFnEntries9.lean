/- The law FnEntries, as a plain statement: a drawn entry that is right comes back of its text; a name does, too. Conditions: those of the row's reading alone. -/
/- Part 10 of 12 of this claim's texts. -/
import Derived.Lib.Atoi
import Derived.Lib.ItoaNum
import Derived.Test.YtgdknepphkhnlaaGreatDoorCFnEntries1
import Derived.Test.YtgdknepphkhnlaaGreatDoorCFnEntries2
import Derived.Test.YtgdknepphkhnlaaGreatDoorCFnEntries3
import Derived.Test.YtgdknepphkhnlaaGreatDoorCFnEntries4
import Derived.Test.YtgdknepphkhnlaaGreatDoorCFnEntries5
import Derived.Test.YtgdknepphkhnlaaGreatDoorCFnEntries8
/- Ranges, the program's and the reference's: the same. Plain lemmas. -/
set_option linter.unusedVariables false
namespace Go.Proofs.YtgdknepphkhnlaaGreatDoor.Z
open Go.RowKit Go.Proofs.YtgdknepphkhnlaaGreatDoorW.PrintWords Go.Proofs.YtgdknepphkhnlaaGreatDoorW.PrintMore Go.Proofs.YtgdknepphkhnlaaGreatDoor.X
theorem rng_impl (a b c : Int) : impl_inRange.f a b c = some (decide (b ≤ a ∧ a ≤ c)) := by
 unfold impl_inRange.f
 by_cases h : a ≥ b
 ·rw [if_pos h]
  simp [show b ≤ a from h]
 ·rw [if_neg h]
  simp [show ¬ b ≤ a from h]
theorem rng_spec (a b c : Int) : spec_l1In.f a b c = some (decide (b ≤ a ∧ a ≤ c)) := by
 unfold spec_l1In.f
 by_cases h : a ≥ b
 ·rw [if_pos h]
  simp [show b ≤ a from h]
 ·rw [if_neg h]
  simp [show ¬ b ≤ a from h]
end Go.Proofs.YtgdknepphkhnlaaGreatDoor.Z

/- A text's pieces, the reference's: those between the bytes. Plain lemmas. -/
set_option linter.unusedVariables false
namespace Go.Proofs.YtgdknepphkhnlaaGreatDoor.Z
open Go.RowKit Go.Proofs.YtgdknepphkhnlaaGreatDoorW.PrintWords Go.Proofs.YtgdknepphkhnlaaGreatDoorW.PrintMore Go.Proofs.YtgdknepphkhnlaaGreatDoor.X Go.Proofs.YtgdknepphkhnlaaGreatDoor.Sp
theorem byte_at (s : ByteArray) (i : Nat) (h : i < s.size) : bt s (i : Int) = ((s.data.toList[i]'(by rw [data_length]; exact h)).toNat : Int) := by
 have := rd_bytesOf s (i : Int)
 rw [← this]
 unfold rd bytesOf
 simp [List.getD_eq_getElem?_getD, h]
theorem ext_list (s : ByteArray) (f i : Nat) : s.extract f i = ⟨((s.data.toList.drop f).take (i - f)).toArray⟩ := by
 have h : (s.extract f i).data.toList = (s.data.toList.drop f).take (i - f) := by
  simp [ByteArray.data_extract, List.extract_eq_take_drop]
 cases hx : s.extract f i with
 | mk d =>
  rw [hx] at h
  congr 1
  rw [← h]
def pcsF (pre : List UInt8) (c : UInt8) (l : List UInt8) : List (List UInt8) :=
 match pcs c l with
 | [] => [pre]
 | h :: t => (pre ++ h) :: t
theorem pcs_ne (c : UInt8) (l : List UInt8) : pcs c l ≠ [] := fun h => by
 have := pcs_length c l
 rw [h] at this
 simp at this
theorem pcsF_nil (c : UInt8) (l : List UInt8) : pcsF [] c l = pcs c l := by
 unfold pcsF
 cases h : pcs c l with
 | nil => exact absurd h (pcs_ne c l)
 | cons a t => rfl
theorem pcsF_eq (pre : List UInt8) (c : UInt8) (l : List UInt8) : pcsF pre c (c :: l) = pre :: pcsF [] c l := by
 rw [pcsF_nil]
 unfold pcsF
 rw [pcs, if_pos rfl]
 simp
theorem pcsF_ne (pre : List UInt8) (b c : UInt8) (l : List UInt8) (h : b ≠ c) : pcsF pre c (b :: l) = pcsF (pre ++ [b]) c l := by
 unfold pcsF
 rw [pcs, if_neg h]
 cases hp : pcs c l with
 | nil => exact absurd hp (pcs_ne c l)
 | cons a t => simp [onto]
theorem pcsF_end (pre : List UInt8) (c : UInt8) : pcsF pre c [] = [pre] := by simp [pcsF, pcs]
def toB (l : List UInt8) : ByteArray := ⟨l.toArray⟩
theorem split_l0 (s : ByteArray) (hs : s.size ≤ 1048576) (c : UInt8) (d : Nat) : ∀ (i f : Nat) (out : List ByteArray), i + d = s.size → f ≤ i → out.length + d ≤ 1048577 →
  Ev (fun k => spec_l3Split.l0 k s (c.toNat : Int) out (f : Int) (i : Int)) (out ++ (pcsF ((s.data.toList.drop f).take (i - f)) c (s.data.toList.drop i)).map toB) := by
 induction d with
 | zero =>
  intro i f out hi hf ho
  rw [List.drop_eq_nil_of_le (show s.data.toList.length ≤ i by rw [data_length]; omega), pcsF_end]
  refine evS (fun k => by rw [spec_l3Split.l0]) ?_
  rw [w64s (show i < 1048577 by omega) zp, show ((f : Nat) : Int).toNat = f by omega, show ((i : Nat) : Int).toNat = i by omega, ext_list]
  refine evT zp (evT zp (evT zp (evT zp (evT zp ?_))))
  refine evS (fun k => by rw [spec_l3Split.l0]) ?_
  exact evF zp (evR rfl)
 | succ d ih =>
  intro i f out hi hf ho
  have hl : i < s.data.toList.length := by rw [data_length]; omega
  have hb := byte_at s i zp
  rw [List.drop_eq_getElem_cons hl]
  refine evS (fun k => by rw [spec_l3Split.l0]) ?_
  rw [w64s (show i < 1048577 by omega) zp, show ((f : Nat) : Int).toNat = f by omega, show ((i : Nat) : Int).toNat = i by omega, hb, ext_list]
  refine evT zp (evF zp (evT zp (evT zp ?_)))
  by_cases hc : s.data.toList[i] = c
  ·refine evT (by rw [hc]) (evT zp (evT zp (evT zp ?_)))
   refine evE ?_ (ih (i + 1) (i + 1) _ zp (Nat.le_refl _) (by simp; omega))
   rw [hc, pcsF_eq, Nat.sub_self, List.take_zero]
   simp [toB]
  ·refine evF (fun e => hc (UInt8.toNat_inj.1 zp)) ?_
   refine evE ?_ (ih (i + 1) f out zp zp zp)
   rw [pcsF_ne _ _ _ _ hc]
   congr 3
   have hl2 : i - f < (s.data.toList.drop f).length := by rw [List.length_drop]; omega
   rw [show i + 1 - f = (i - f) + 1 by omega, List.take_succ_eq_append_getElem hl2]
   congr 2
   rw [List.getElem_drop]
   congr 1
   omega
theorem split_spec (s : ByteArray) (hs : s.size ≤ 1048576) (c : UInt8) : Ev (fun k => spec_l3Split.f k s (c.toNat : Int)) (pieces c s) := by
 have h := split_l0 s hs c s.size 0 0 [] zp (Nat.le_refl _) (by simp; omega)
 rw [Nat.sub_self, List.take_zero, List.drop_zero, pcsF_nil, List.nil_append] at h
 exact h
theorem pcs_mem (c : UInt8) : ∀ (l : List UInt8) (x : List UInt8), x ∈ pcs c l → x.length ≤ l.length
 | [], x, h => by simp [pcs] at h; simp [h]
 | b :: l, x, h => by
  have ih := pcs_mem c l
  rw [pcs] at h
  split at h
  ·rcases List.mem_cons.1 h with rfl | h
   ·simp
   ·have := ih x h; simp; omega
  ·cases hp : pcs c l with
   | nil => exact absurd hp (pcs_ne c l)
   | cons a t =>
    rw [hp] at h
    rcases List.mem_cons.1 h with rfl | h
    ·have := ih a (by rw [hp]; exact List.mem_cons_self); simp; omega
    ·have := ih x (by rw [hp]; exact List.mem_cons_of_mem _ h); simp; omega
theorem pieces_mem (c : UInt8) (s : ByteArray) : ∀ x ∈ pieces c s, x.size ≤ s.size := by
 intro x hx
 obtain ⟨l, hl, rfl⟩ := List.mem_map.1 hx
 have := pcs_mem c _ l hl
 rw [data_length] at this
 show l.toArray.size ≤ _
 simpa using this
theorem pieces_count (c : UInt8) (s : ByteArray) : (pieces c s).length ≤ s.size + 1 := by
 rw [pieces, List.length_map, pcs_length]
 have := List.count_le_length (a := c) (l := s.data.toList)
 rw [data_length] at this
 omega
theorem rdOf_mem {l : List ByteArray} {i : Nat} (h : i < l.length) : rdOf ByteArray.empty l (i : Int) ∈ l := List.mem_of_getElem? (rdOf_get (d := ByteArray.empty) h)
end Go.Proofs.YtgdknepphkhnlaaGreatDoor.Z

/- Numbers in versions, the program's and the reference's. Plain lemmas. -/
set_option linter.unusedVariables false
namespace Go.Proofs.YtgdknepphkhnlaaGreatDoor.Z
open Go.RowKit Go.Proofs.YtgdknepphkhnlaaGreatDoorW.PrintWords Go.Proofs.YtgdknepphkhnlaaGreatDoorW.PrintMore Go.Proofs.YtgdknepphkhnlaaGreatDoor.X Go.Proofs.YtgdknepphkhnlaaGreatDoor.Sp
def isD (u : UInt8) : Bool := decide (48 ≤ u.toNat ∧ u.toNat ≤ 57)
def figs (s : ByteArray) : Bool := s.data.toList.all isD && decide (s.size ≠ 0)
theorem figure_ev (b : Int) : impl_isFigure.f b = some (decide (48 ≤ b ∧ b ≤ 57)) := by
 unfold impl_isFigure.f
 by_cases h : b ≥ 48
 ·rw [if_pos h]
  simp [show 48 ≤ b from h]
 ·rw [if_neg h]
  simp [show ¬ 48 ≤ b from h]
theorem ne_nil (s : ByteArray) : (s.toList != ([] : List UInt8)) = decide (s.size ≠ 0) := by
 rw [tl]
 have := data_length s
 by_cases h : s.size = 0
 ·rw [List.eq_nil_of_length_eq_zero (show s.data.toList.length = 0 by omega)]
  simp [h]
 ·have h1 : s.data.toList ≠ [] := fun e => by rw [e] at this; simp at this; omega
  simp [h1, h]
theorem figs_l0 (s : ByteArray) (hs : s.size ≤ 1048576) (d : Nat) : ∀ i : Nat, i + d = s.size → Ev (fun k => impl_isFigures.l0 k s (i : Int)) ((s.data.toList.drop i).all isD && decide (s.size ≠ 0)) ∧ Ev (fun k => spec_l3Digits.l0 k s (i : Int)) ((s.data.toList.drop i).all isD && decide (s.size ≠ 0)) := by
 induction d with
 | zero =>
  intro i hi
  rw [List.drop_eq_nil_of_le (show s.data.toList.length ≤ i by rw [data_length]; omega)]
  constructor
  ·refine evS (fun k => by rw [impl_isFigures.l0]) ?_
   exact evF zp (evR (by rw [ne_nil]; rfl))
  ·refine evS (fun k => by rw [spec_l3Digits.l0]) ?_
   exact evF zp (evR (by rw [ne_nil]; rfl))
 | succ d ih =>
  intro i hi
  have hl : i < s.data.toList.length := by rw [data_length]; omega
  have hb := byte_at s i zp
  have hlt : (s.data.toList[i]).toNat < 256 := UInt8.toNat_lt _
  have hw : wrap64 (((s.data.toList[i]).toNat : Nat) : Int) = (((s.data.toList[i]).toNat : Nat) : Int) := w64 zp
  obtain ⟨h1, h2⟩ := ih (i + 1) zp
  have he : (s.data.toList.drop i).all isD = (isD s.data.toList[i] && (s.data.toList.drop (i + 1)).all isD) := by
   rw [List.drop_eq_getElem_cons hl]
   rfl
  have hd : decide (48 ≤ (((s.data.toList[i]).toNat : Nat) : Int) ∧ (((s.data.toList[i]).toNat : Nat) : Int) ≤ 57) = isD s.data.toList[i] := by
   unfold isD
   exact decide_eq_decide.2 zp
  rw [he]
  constructor
  ·refine evS (fun k => by rw [impl_isFigures.l0]) ?_
   rw [hb, w64s (show i < s.size by omega) zp]
   refine evT zp (evT zp (evC (figure_ev _) ?_))
   rw [hd]
   cases hx : isD s.data.toList[i] with
   | true => exact evT rfl (by simpa using h1)
   | false => exact evF Bool.false_ne_true (evR rfl)
  ·refine evS (fun k => by rw [spec_l3Digits.l0]) ?_
   rw [hb, hw, w64s (show i < s.size by omega) zp]
   refine evT zp (evT zp (evC (rng_spec _ _ _) ?_))
   rw [hd]
   cases hx : isD s.data.toList[i] with
   | true => exact evT rfl (by simpa using h2)
   | false => exact evF Bool.false_ne_true (evR rfl)
theorem figs_impl (s : ByteArray) (hs : s.size ≤ 1048576) : Ev (fun k => impl_isFigures.f k s) (figs s) := (figs_l0 s hs s.size 0 zp).1
theorem figs_spec (s : ByteArray) (hs : s.size ≤ 1048576) : Ev (fun k => spec_l3Digits.f k s) (figs s) := (figs_l0 s hs s.size 0 zp).2
def num (s : ByteArray) : Bool := figs s && (decide (s.data.toList = [48]) || decide (bt s 0 ≠ 48))
theorem figs_size {s : ByteArray} (h : figs s = true) : 0 < s.size := by
 simp only [figs, Bool.and_eq_true, decide_eq_true_eq] at h
 have := h.2
 omega
theorem num_impl (s : ByteArray) (hs : s.size ≤ 1048576) : Ev (fun k => impl_isNumber.f k s) (num s) := by
 unfold impl_isNumber.f num
 refine evB (figs_impl s hs) ?_
 cases hf : figs s with
 | false => exact evF Bool.false_ne_true (evR rfl)
 | true =>
  have := figs_size hf
  refine evT rfl ?_
  by_cases h : s.data.toList = [48]
  ·exact evT (by rw [tl]; exact h) (evR (by simp [h]))
  ·refine evF (by rw [tl]; exact h) (evT zp (evR ?_))
   simp [h, bne, decide_not]
   by_cases hb : bt s 0 = 48
   ·simp [hb]
   ·simp [hb]
def digit (b : UInt8) : Nat := b.toNat - 48
def valA (a : Nat) (l : List UInt8) : Nat := l.foldl (fun n b => n * 10 + digit b) a
theorem valA_nil (a : Nat) : valA a [] = a := rfl
theorem valA_cons (a : Nat) (b : UInt8) (l : List UInt8) : valA a (b :: l) = valA (a * 10 + digit b) l := by unfold valA; rw [List.foldl_cons]
def val (l : List UInt8) : Nat := valA 0 l
theorem valA_eq (l : List UInt8) : ∀ a : Nat, valA a l = a * 10 ^ l.length + valA 0 l := by
 induction l with
 | nil => intro a; simp [valA_nil]
 | cons b l ih =>
  intro a
  rw [valA_cons, ih, valA_cons, ih (0 * 10 + digit b), List.length_cons, Nat.pow_succ, Nat.add_mul, Nat.zero_mul, Nat.zero_add, Nat.mul_assoc, Nat.mul_comm 10, Nat.add_assoc]
theorem val_cons (b : UInt8) (l : List UInt8) : val (b :: l) = digit b * 10 ^ l.length + val l := by
 unfold val
 rw [valA_cons, valA_eq, Nat.zero_mul, Nat.zero_add]
theorem isD_iff (u : UInt8) : isD u = true ↔ 48 ≤ u.toNat ∧ u.toNat ≤ 57 := by unfold isD; exact decide_eq_true_iff
theorem val_l0 (s : ByteArray) (hs : s.size ≤ 8) (ha : s.data.toList.all isD = true) (d : Nat) : ∀ (i : Nat) (a : Nat), i + d = s.size → a < 10 ^ i → Ev (fun k => spec_l3Number.l0 k s (a : Int) (i : Int)) ((valA a (s.data.toList.drop i) : Nat) : Int) := by
 induction d with
 | zero =>
  intro i a hi hlt
  rw [List.drop_eq_nil_of_le (show s.data.toList.length ≤ i by rw [data_length]; omega)]
  refine evS (fun k => by rw [spec_l3Number.l0]) ?_
  exact evF zp (evR rfl)
 | succ d ih =>
  intro i a hi hlt
  have hl : i < s.data.toList.length := by rw [data_length]; omega
  have hb := byte_at s i zp
  have hD := (isD_iff _).1 (List.all_eq_true.1 ha _ (List.getElem_mem hl))
  have hp : 10 ^ i ≤ 10 ^ 7 := Nat.pow_le_pow_right zt zp
  rw [List.drop_eq_getElem_cons hl, valA_cons]
  unfold digit
  generalize (s.data.toList[i]).toNat = n at *
  have e1 : wrap64 (wrap64 ((a : Int) * 10) + ((n : Int) - 48) % 256) = ((a * 10 + (n - 48) : Nat) : Int) := by
   rw [w64 (x := (a : Int) * 10) zp, w64 zp]
   omega
  refine evS (fun k => by rw [spec_l3Number.l0]) ?_
  rw [hb, e1, w64s (show i < s.size by omega) zp]
  refine evT zp (evT zp (ih (i + 1) _ zp ?_))
  rw [Nat.pow_succ]
  omega
def short (s : ByteArray) : Bool := num s && decide (s.size ≤ 8)
def numS (s : ByteArray) : Int := if short s = true then ((val s.data.toList : Nat) : Int) else -1
theorem head_one (s : ByteArray) (h : s.size = 1) : s.data.toList = [48] ↔ bt s 0 = 48 := by
 have hl : s.data.toList.length = 1 := by rw [data_length]; exact h
 have hb : bt s 0 = _ := byte_at s 0 zp
 obtain ⟨x, hx⟩ := List.length_eq_one_iff.1 hl
 rw [hb]
 simp only [hx, List.getElem_cons_zero, List.cons.injEq, and_true]
 constructor
 ·rintro rfl; rfl
 ·intro e
  exact UInt8.toNat_inj.1 (by show x.toNat = 48; omega)
theorem numS_spec (s : ByteArray) (hs : s.size ≤ 1048576) : Ev (fun k => spec_l3Number.f k s) (numS s) := by
 unfold spec_l3Number.f
 refine evB (figs_spec s hs) ?_
 cases hf : figs s with
 | false =>
  have e : numS s = -1 := by unfold numS short num; rw [hf]; rfl
  rw [e]
  refine evF Bool.false_ne_true ?_
  refine evS (fun k => by rw [spec_l3Number.j0]) ?_
  exact evT rfl (evR rfl)
 | true =>
  have hz := figs_size hf
  have ha : s.data.toList.all isD = true := by unfold figs at hf; simp at hf; simpa using hf.1
  refine evT rfl ?_
  by_cases h8 : (s.size : Int) > 8
  ·have e : numS s = -1 := by
    unfold numS short
    rw [decide_eq_false zp, Bool.and_false, if_neg Bool.false_ne_true]
   rw [e]
   refine evT h8 ?_
   refine evS (fun k => by rw [spec_l3Number.j0]) ?_
   exact evT rfl (evR rfl)
  ·refine evF h8 ?_
   have hv := val_l0 s zp ha s.size 0 0 zp zt
   have hv' : Ev (fun k => spec_l3Number.l0 k s 0 0) ((val s.data.toList : Nat) : Int) := hv
   by_cases h1 : (s.size : Int) > 1
   ·refine evT h1 (evT zp ?_)
    have hne : ¬ s.data.toList = [48] := fun e => by
     have := data_length s
     rw [e] at this
     simp at this
     omega
    by_cases hb : bt s 0 = 48
    ·have e : numS s = -1 := by
      unfold numS short num
      rw [decide_eq_false hne, decide_eq_false (fun h => h hb)]
      simp
     rw [e, hb]
     refine evS (fun k => by rw [spec_l3Number.j0]) ?_
     exact evT rfl (evR rfl)
    ·have e : numS s = ((val s.data.toList : Nat) : Int) := by
      unfold numS short num
      rw [hf, decide_eq_true hb, decide_eq_true (show s.size ≤ 8 by omega)]
      simp
     rw [e, beq_eq_false_iff_ne.2 hb]
     refine evS (fun k => by rw [spec_l3Number.j0]) ?_
     exact evF Bool.false_ne_true hv'
   ·refine evF h1 ?_
    have h11 : s.size = 1 := by omega
    have e : numS s = ((val s.data.toList : Nat) : Int) := by
     unfold numS short num
     rw [hf, decide_eq_true (show s.size ≤ 8 by omega)]
     have := head_one s h11
     by_cases hb : bt s 0 = 48
     ·rw [decide_eq_true (this.2 hb)]; simp
     ·rw [decide_eq_true hb]; simp
    rw [e]
    refine evS (fun k => by rw [spec_l3Number.j0]) ?_
    exact evF Bool.false_ne_true hv'
end Go.Proofs.YtgdknepphkhnlaaGreatDoor.Z

/- Short numbers: their values. Plain lemmas. -/
set_option linter.unusedVariables false
namespace Go.Proofs.YtgdknepphkhnlaaGreatDoor.Z
open Go.RowKit Go.Proofs.YtgdknepphkhnlaaGreatDoorW.PrintWords Go.Proofs.YtgdknepphkhnlaaGreatDoorW.PrintMore Go.Proofs.YtgdknepphkhnlaaGreatDoor.X Go.Proofs.YtgdknepphkhnlaaGreatDoor.Sp
theorem short_all {s : ByteArray} (h : short s = true) : s.data.toList.all isD = true ∧ 0 < s.size ∧ s.size ≤ 8 ∧ (s.data.toList = [48] ∨ bt s 0 ≠ 48) := by
 simp only [short, num, figs, Bool.and_eq_true, Bool.or_eq_true, decide_eq_true_eq] at h
 exact ⟨h.1.1.1, by have := h.1.1.2; omega, h.2, h.1.2⟩
theorem short_lead {s : ByteArray} (h : short s = true) (h1 : 1 < s.size) : 10 ^ (s.size - 1) ≤ val s.data.toList := by
 obtain ⟨ha, hz, h8, hb⟩ := short_all h
 have hl := data_length s
 have hne : ¬ s.data.toList = [48] := fun e => by rw [e] at hl; simp at hl; omega
 have hb0 := hb.resolve_left hne
 have hat : bt s 0 = _ := byte_at s 0 zp
 cases hs : s.data.toList with
 | nil => rw [hs] at hl; simp at hl; omega
 | cons b l =>
  rw [hat] at hb0
  simp only [hs, List.getElem_cons_zero] at hb0
  rw [hs] at ha hl
  simp only [List.all_cons, Bool.and_eq_true] at ha
  have hd := (isD_iff b).1 ha.1
  rw [val_cons, show s.size - 1 = l.length by simp at hl; omega]
  have : 1 * 10 ^ l.length ≤ digit b * 10 ^ l.length := Nat.mul_le_mul_right _ (by unfold digit; omega)
  omega
theorem numS_pos (s : ByteArray) : 0 ≤ numS s ↔ short s = true := by
 unfold numS
 split
 ·rename_i h; simp [h]
 ·rename_i h; simp [h]
theorem numS_val {s : ByteArray} (h : short s = true) : numS s = ((val s.data.toList : Nat) : Int) := by unfold numS; rw [if_pos h]
end Go.Proofs.YtgdknepphkhnlaaGreatDoor.Z

namespace Go.Proofs.YtgdknepphkhnlaaGreatDoor.X
open Go.RowKit Go.Proofs.YtgdknepphkhnlaaGreatDoorW.PrintWords Go.Proofs.YtgdknepphkhnlaaGreatDoorW.PrintLast Go.Proofs.YtgdknepphkhnlaaGreatDoorW.PrintMore
attribute [local go_sem] max2_int min2_int max_two min_two max_three min_three max_four min_four
set_option linter.unusedVariables false
set_option linter.unusedSimpArgs false
def spec_l3Text.f : Nat → Int → Option (ByteArray)
 | 0, _ => none
 | k + 1, a0 => if a0 < 10 then (some (strOfNums (([(wrap64 (48 + a0)) % 256] : List Int)))) else ((spec_l3Text.f k (wrap64 (Int.tdiv a0 10))).bind fun t293 => ((some (([(wrap64 (48 + (Int.tmod a0 10))) % 256] : List Int) : List Int)).bind fun y294 => (if t293.size + (strOfNums y294).size ≤ 9223372036854775807 then (some (t293 ++ (strOfNums y294))) else (none))))
end Go.Proofs.YtgdknepphkhnlaaGreatDoor.X

/- Decimal texts and their numbers. Plain lemmas. -/
set_option linter.unusedVariables false
namespace Go.Proofs.YtgdknepphkhnlaaGreatDoor.Z
open Go.RowKit Go.Proofs.YtgdknepphkhnlaaGreatDoorW.PrintWords Go.Proofs.YtgdknepphkhnlaaGreatDoorW.PrintMore Go.Proofs.YtgdknepphkhnlaaGreatDoor.X Go.Proofs.YtgdknepphkhnlaaGreatDoor.Sp
theorem val_snoc (l : List UInt8) (b : UInt8) : val (l ++ [b]) = val l * 10 + digit b := by
 unfold val valA
 rw [List.foldl_append]
 rfl
def lead (l : List UInt8) : Prop := l.head? ≠ some 48
theorem decFrom_ev (l : List UInt8) (hd : l.all isD = true) : ∀ a : Nat, Lib.decFrom a l = some (valA a l) := by
 induction l with
 | nil => intro a; rfl
 | cons b l ih =>
  intro a
  simp only [List.all_cons, Bool.and_eq_true] at hd
  have hb := (isD_iff b).1 hd.1
  rw [valA_cons]
  unfold Lib.decFrom Lib.digitVal
  rw [if_pos hb]
  exact ih hd.2 _
theorem atoi_val {s : ByteArray} (h : num s = true) : Lib.atoi s.data.toList = some ((val s.data.toList : Nat) : Int) := by
 simp only [num, figs, Bool.and_eq_true, Bool.or_eq_true, decide_eq_true_eq] at h
 obtain ⟨⟨ha, hz⟩, hb⟩ := h
 have hl := data_length s
 cases hs : s.data.toList with
 | nil => rw [hs] at hl; simp at hl; omega
 | cons b l =>
  rw [hs] at ha
  have ha' := ha
  simp only [List.all_cons, Bool.and_eq_true] at ha
  have hb := (isD_iff b).1 ha.1
  have h1 : (b == 45) = false := beq_eq_false_iff_ne.2 (fun e => by subst e; revert hb; decide)
  have h2 : (b == 43) = false := beq_eq_false_iff_ne.2 (fun e => by subst e; revert hb; decide)
  simp only [Lib.atoi, h1, h2, Bool.false_eq_true, if_false]
  unfold Lib.decNat
  rw [decFrom_ev _ ha']
  rfl
theorem text_ev (n : Nat) : n ≤ 100000000 → Ev (fun k => spec_l3Text.f k (n : Int)) ⟨(Lib.decDigits n).toArray⟩ := by
 induction n using Nat.strongRecOn with
 | ind n ih =>
  intro hn
  rw [Lib.decDigits]
  by_cases h : n < 10
  ·rw [dif_pos h]
   refine evS (fun k => by rw [spec_l3Text.f]) (evT zp (evR ?_))
   rw [w64 zp, show (48 + (n : Int)) % 256 = ((48 + n : Nat) : Int) by omega]
   rfl
  ·rw [dif_neg h]
   have e1 : wrap64 (Int.tdiv (n : Int) 10) = ((n / 10 : Nat) : Int) := by
    rw [Int.tdiv_eq_ediv_of_nonneg zp, w64 zp]
    omega
   have e2 : wrap64 (48 + Int.tmod (n : Int) 10) % 256 = ((48 + n % 10 : Nat) : Int) := by
    rw [Int.tmod_eq_emod_of_nonneg zp, w64 zp]
    omega
   have hsz : (Lib.decDigits (n / 10)).length ≤ n := by
    rw [Lib.decDigits_length]
    have : ∀ m : Nat, Lib.nDigits m ≤ m + 1 := by
     intro m
     induction m using Nat.strongRecOn with
     | ind m ihm =>
      rw [Lib.nDigits]
      split
      ·omega
      ·have := ihm (m / 10) zp
       omega
    have := this (n / 10)
    omega
   refine evS (fun k => by rw [spec_l3Text.f]) ?_
   rw [e1, e2]
   refine evF zp (evB (ih (n / 10) zp zp) (evC rfl (evT ?_ (evR ?_))))
   ·show (Lib.decDigits (n / 10)).toArray.size + 1 ≤ _
    rw [List.size_toArray]
    omega
   ·show (⟨(Lib.decDigits (n / 10)).toArray⟩ : ByteArray) ++ (⟨([UInt8.ofNat (48 + n % 10)] : List UInt8).toArray⟩ : ByteArray) = _
    apply ByteArray.ext
    rw [ByteArray.data_append]
    simp
end Go.Proofs.YtgdknepphkhnlaaGreatDoor.Z

/- Parts of a path, the program's and the reference's: the same. Plain lemmas. -/
set_option linter.unusedVariables false
namespace Go.Proofs.YtgdknepphkhnlaaGreatDoor.Z
open Go.RowKit Go.Proofs.YtgdknepphkhnlaaGreatDoorW.PrintWords Go.Proofs.YtgdknepphkhnlaaGreatDoorW.PrintMore Go.Proofs.YtgdknepphkhnlaaGreatDoor.X Go.Proofs.YtgdknepphkhnlaaGreatDoor.Sp
theorem fig_impl (b : Int) : impl_isFigure.f b = some (decide (48 ≤ b ∧ b ≤ 57)) := by
 unfold impl_isFigure.f
 by_cases h : b ≥ 48
 ·rw [if_pos h]
  simp [show 48 ≤ b from h]
 ·rw [if_neg h]
  simp [show ¬ 48 ≤ b from h]
theorem ev_rest {c0 : Bool} {z e1 e2 e3 : Prop} [Decidable z] [Decidable e1] [Decidable e2] [Decidable e3] {A : Nat → Option Bool} {r : Bool} (H : (c0 = true ∨ ¬ z ∧ (e1 ∨ e2 ∨ e3)) → Ev A r) (H' : ¬ (c0 = true ∨ ¬ z ∧ (e1 ∨ e2 ∨ e3)) → r = false) :
  Ev (fun k => if c0 = true then A k else if z then some false else if e1 then A k else if e2 then A k else if e3 then A k else some false) r := by
 refine evI (fun h => H (.inl h)) (fun h0 => evI (fun hz => evR (H' (by simp [h0, hz])).symm) (fun hz => evI (fun h => H (.inr ⟨hz, .inl h⟩)) (fun h1 => evI (fun h => H (.inr ⟨hz, .inr (.inl h)⟩)) (fun h2 => evI (fun h => H (.inr ⟨hz, .inr (.inr h)⟩)) (fun h3 => evR (H' ?_).symm)))))
 rintro (h | ⟨_, h | h | h⟩)
 ·exact h0 h
 ·exact h1 h
 ·exact h2 h
 ·exact h3 h
theorem part_both (s : ByteArray) (hs : s.size ≤ 1048576) (d : Nat) : ∀ i : Nat, i + d = s.size → ∃ r, Ev (fun k => impl_pathPartOk.l0 k s (i : Int)) r ∧ Ev (fun k => spec_l4Part.l0 k s (i : Int)) r := by
 induction d with
 | zero =>
  intro i hi
  refine ⟨decide ((1 : Int) ≤ s.size ∧ (s.size : Int) ≤ 20), ?_, ?_⟩
  ·refine evS (fun k => by rw [impl_pathPartOk.l0]) (evF zp ?_)
   exact evC (rng_impl _ _ _) (evR rfl)
  ·refine evS (fun k => by rw [spec_l4Part.l0]) (evF zp ?_)
   exact evC (rng_spec _ _ _) (evR rfl)
 | succ d ih =>
  intro i hi
  have hb := bt_range s (i : Int)
  obtain ⟨r, h1, h2⟩ := ih (i + 1) zp
  have hw : wrap64 (bt s (i : Int)) = bt s (i : Int) := w64 zp
  generalize hx : bt s (i : Int) = b at hb hw
  obtain ⟨r', hr⟩ : ∃ r', r' = if (97 ≤ b ∧ b ≤ 122) ∨ (48 ≤ b ∧ b ≤ 57) ∨ ¬ (i : Int) = 0 ∧ (b = 45 ∨ b = 46 ∨ b = 95) then r else false := ⟨_, rfl⟩
  have Hr : ∀ {A : Nat → Option Bool}, Ev A r → (¬ (97 ≤ b ∧ b ≤ 122)) → (decide (48 ≤ b ∧ b ≤ 57) = true ∨ ¬ (i : Int) = 0 ∧ (b = 45 ∨ b = 46 ∨ b = 95)) → Ev A r' := fun hA _ h => by
   rw [hr, if_pos (.inr (by simpa using h))]
   exact hA
  have Hn : (¬ (97 ≤ b ∧ b ≤ 122)) → ¬ (decide (48 ≤ b ∧ b ≤ 57) = true ∨ ¬ (i : Int) = 0 ∧ (b = 45 ∨ b = 46 ∨ b = 95)) → r' = false := fun ha h => by
   rw [hr, if_neg]
   rintro (h' | h')
   ·exact ha h'
   ·exact h (by simpa using h')
  have Hl : ∀ {A : Nat → Option Bool}, Ev A r → (97 ≤ b ∧ b ≤ 122) → Ev A r' := fun hA h => by
   rw [hr, if_pos (.inl h)]
   exact hA
  refine ⟨r', ?_, ?_⟩
  ·refine evS (fun k => by rw [impl_pathPartOk.l0]) ?_
   rw [hx, w64s (show i < s.size by omega) zp]
   refine evT zp (evT zp ?_)
   by_cases ha : b ≥ 97
   ·refine evT ha ?_
    by_cases hc : b ≤ 122
    ·exact evT hc (Hl h1 ⟨ha, hc⟩)
    ·refine evF hc (evC (fig_impl b) ?_)
     exact ev_rest (Hr h1 (fun h => hc h.2)) (Hn (fun h => hc h.2))
   ·refine evF ha (evC (fig_impl b) ?_)
    exact ev_rest (Hr h1 (fun h => ha h.1)) (Hn (fun h => ha h.1))
  ·refine evS (fun k => by rw [spec_l4Part.l0]) ?_
   rw [hx, hw, w64s (show i < s.size by omega) zp]
   refine evT zp (evT zp (evC (rng_spec _ _ _) ?_))
   by_cases ha : 97 ≤ b ∧ b ≤ 122
   ·exact evT (decide_eq_true ha) (Hl h2 ha)
   ·refine evF (by simpa using ha) (evC (rng_spec _ _ _) ?_)
    exact ev_rest (Hr h2 ha) (Hn ha)
theorem part_nil (s : ByteArray) (h : s.size = 0) : Ev (fun k => impl_pathPartOk.f k s) false := by
 show Ev (fun k => impl_pathPartOk.l0 k s 0) false
 refine evS (fun k => by rw [impl_pathPartOk.l0]) (evF zp ?_)
 exact evC (rng_impl _ _ _) (evR (decide_eq_false zp))
theorem path_l0 (s : ByteArray) (l : List ByteArray) (hl : l.length ≤ 1048577) (hm : ∀ x ∈ l, x.size ≤ 1048576) (d : Nat) : ∀ i : Nat, i + d = l.length → ∃ r, Ev (fun k => impl_PathOk.l0 k s l l (l.length : Int) (i : Int)) r ∧ Ev (fun k => spec_PathOk.l0 k s l (i : Int)) r ∧ (r = true → ∀ x ∈ l.drop i, 1 ≤ x.size) := by
 induction d with
 | zero =>
  intro i hi
  have hnil : ∀ b : Bool, b = true → ∀ x ∈ l.drop i, 1 ≤ x.size := fun b _ x hx => by rw [List.drop_eq_nil_of_le zp] at hx; cases hx
  by_cases h6 : (l.length : Int) ≤ 6
  ·refine ⟨decide ((s.size : Int) ≤ 60), ?_, ?_, hnil _⟩
   ·refine evS (fun k => by rw [impl_PathOk.l0]) (evF zp (evT h6 (evR rfl)))
   ·refine evS (fun k => by rw [spec_PathOk.l0]) (evF zp (evT h6 (evR rfl)))
  ·refine ⟨false, ?_, ?_, hnil _⟩
   ·refine evS (fun k => by rw [impl_PathOk.l0]) (evF zp (evF h6 (evR rfl)))
   ·refine evS (fun k => by rw [spec_PathOk.l0]) (evF zp (evF h6 (evR rfl)))
 | succ d ih =>
  intro i hi
  have hz := hm _ (rdOf_mem (l := l) (i := i) zp)
  obtain ⟨b, p1, p2⟩ := part_both (rdOf ByteArray.empty l (i : Int)) hz _ 0 (Nat.zero_add _)
  obtain ⟨r, h1, h2, h3⟩ := ih (i + 1) zp
  have il : i < l.length := by omega
  have gl : rdOf ByteArray.empty l (i : Int) = l[i] := by
   have := rdOf_get (d := ByteArray.empty) il
   rw [List.getElem?_eq_getElem il] at this
   exact (Option.some.inj this).symm
  have q1 : Ev (fun k => impl_pathPartOk.f k (rdOf ByteArray.empty l (i : Int))) b := p1
  have q2 : Ev (fun k => spec_l4Part.f k (rdOf ByteArray.empty l (i : Int))) b := p2
  cases b with
  | true =>
   refine ⟨r, ?_, ?_, fun hr x hx => ?_⟩
   rotate_left 2
   ·rw [List.drop_eq_getElem_cons il] at hx
    rcases List.mem_cons.1 hx with rfl | hx
    ·rw [gl] at q1
     rcases Nat.eq_zero_or_pos l[i].size with h0 | h0
     ·have := ev_one q1 (part_nil _ h0)
      cases this
     ·exact h0
    ·exact h3 hr x hx
   ·refine evS (fun k => by rw [impl_PathOk.l0]) ?_
    rw [w64s (show i < l.length by omega) zp]
    exact evT zp (evT zp (evT zp (evB q1 (evT rfl h1))))
   ·refine evS (fun k => by rw [spec_PathOk.l0]) ?_
    rw [w64s (show i < l.length by omega) zp]
    exact evT zp (evT zp (evB q2 (evT rfl h2)))
  | false =>
   refine ⟨false, ?_, ?_, fun h => by cases h⟩
   ·refine evS (fun k => by rw [impl_PathOk.l0]) ?_
    exact evT zp (evT zp (evT zp (evB q1 (evF Bool.false_ne_true (evR rfl)))))
   ·refine evS (fun k => by rw [spec_PathOk.l0]) ?_
    exact evT zp (evT zp (evB q2 (evF Bool.false_ne_true (evR rfl))))
theorem split_impl (s : ByteArray) (hs : s.size ≤ 1048576) (c : UInt8) : strings_Split.f s (⟨#[c]⟩ : ByteArray) = some (pieces c s) := by
 unfold strings_Split.f
 rw [if_pos ⟨zp, rfl⟩]
 rfl
theorem pathOk_both (s : ByteArray) (hs : s.size ≤ 1048576) : ∃ r, Ev (fun k => impl_PathOk.f k s) r ∧ Ev (fun k => spec_PathOk.f k s) r ∧ (r = true → ∀ x ∈ pieces 47 s, 1 ≤ x.size) := by
 have hc := pieces_count 47 s
 obtain ⟨r, h1, h2, h3⟩ := path_l0 s (pieces 47 s) zp (fun x hx => by have := pieces_mem 47 s x hx; omega) _ 0 (Nat.zero_add _)
 have hS : Ev (fun k => spec_l3Split.f k s 47) (pieces 47 s) := split_spec s hs 47
 refine ⟨r, ?_, ?_, h3⟩
 ·unfold impl_PathOk.f
  exact evC (split_impl s hs 47) h1
 ·unfold spec_PathOk.f
  exact evB hS h2
end Go.Proofs.YtgdknepphkhnlaaGreatDoor.Z

/- A path's last part that tells a number, the program's way and the reference's. Plain lemmas. -/
set_option linter.unusedVariables false
namespace Go.Proofs.YtgdknepphkhnlaaGreatDoor.Z
open Go.RowKit Go.Proofs.YtgdknepphkhnlaaGreatDoorW.PrintWords Go.Proofs.YtgdknepphkhnlaaGreatDoorW.PrintMore Go.Proofs.YtgdknepphkhnlaaGreatDoor.X Go.Proofs.YtgdknepphkhnlaaGreatDoor.Sp
def lastIx (c : UInt8) (l : List UInt8) : Int := match l.reverse.findIdx? (· = c) with | some j => (l.length : Int) - 1 - j | none => -1
theorem lastIx_snoc_eq (c : UInt8) (l : List UInt8) : lastIx c (l ++ [c]) = l.length := by
 unfold lastIx
 rw [List.reverse_append, List.reverse_singleton, List.singleton_append, List.findIdx?_cons]
 simp
theorem lastIx_snoc_ne (b c : UInt8) (l : List UInt8) (h : b ≠ c) : lastIx c (l ++ [b]) = lastIx c l := by
 unfold lastIx
 rw [List.reverse_append, List.reverse_singleton, List.singleton_append, List.findIdx?_cons]
 simp only [h, decide_false, Bool.false_eq_true, if_false]
 cases l.reverse.findIdx? (fun x => decide (x = c)) with
 | none => rfl
 | some j => simp; omega
theorem last_l0 (s : ByteArray) (hs : s.size ≤ 1048576) (c : UInt8) : ∀ i : Nat, i ≤ s.size → Ev (fun k => bytealg_LastIndexByteString.l0 k s (c.toNat : Int) ((i : Int) - 1)) (lastIx c (s.data.toList.take i)) := by
 intro i
 induction i with
 | zero =>
  intro hi
  refine evS (fun k => by rw [bytealg_LastIndexByteString.l0]) ?_
  exact evF zp (evR rfl)
 | succ i ih =>
  intro hi
  have hl : i < s.data.toList.length := by rw [data_length]; omega
  have hb := byte_at s i zp
  have e0 : (((i + 1 : Nat) : Int) - 1) = (i : Int) := by omega
  rw [e0, List.take_succ_eq_append_getElem hl]
  refine evS (fun k => by rw [bytealg_LastIndexByteString.l0]) ?_
  rw [hb, w64 (x := (i : Int) - 1) zp]
  refine evT zp (evT zp (evT zp ?_))
  by_cases hc : s.data.toList[i] = c
  ·refine evT (by rw [hc]) (evR ?_)
   rw [hc, lastIx_snoc_eq, List.length_take, Nat.min_eq_left zp]
  ·refine evF (fun e => hc (UInt8.toNat_inj.1 zp)) ?_
   rw [lastIx_snoc_ne _ _ _ hc]
   exact ih zp
theorem last_ev (s : ByteArray) (hs : s.size ≤ 1048576) (c : UInt8) : Ev (fun k => strings_LastIndexByte.f k s (c.toNat : Int)) (lastIx c s.data.toList) := by
 unfold strings_LastIndexByte.f
 refine evB (a := lastIx c s.data.toList) ?_ (evR rfl)
 unfold bytealg_LastIndexByteString.f
 rw [w64 (x := (s.size : Int) - 1) zp]
 have := last_l0 s hs c s.size (Nat.le_refl _)
 rwa [List.take_of_length_le (by rw [data_length]; exact Nat.le_refl _)] at this
theorem pcs_last (c : UInt8) : ∀ l : List UInt8, (lastIx c l = -1 ∧ pcs c l = [l]) ∨ ∃ a b : List UInt8, l = a ++ c :: b ∧ lastIx c l = a.length ∧ (pcs c l).getLast? = some b ∧ 2 ≤ (pcs c l).length := by
 intro l
 induction l with
 | nil => exact .inl ⟨rfl, rfl⟩
 | cons x l ih =>
  have hap : ∀ (y : UInt8) (m : List UInt8), lastIx c (y :: m) = if lastIx c m = -1 then (if y = c then 0 else -1) else lastIx c m + 1 := by
   intro y m
   unfold lastIx
   rw [List.reverse_cons, List.findIdx?_append]
   cases hf : m.reverse.findIdx? (fun x => decide (x = c)) with
   | some j =>
    have hj := List.findIdx?_eq_some_iff_getElem.1 hf
    obtain ⟨hj1, _⟩ := hj
    rw [List.length_reverse] at hj1
    simp only [Option.some_or, List.length_cons]
    rw [if_neg zp]
    omega
   | none =>
    by_cases hy : y = c
    ·simp [hy]
    ·simp [hy]
  rw [hap]
  rcases ih with ⟨h1, h2⟩ | ⟨a, b, h1, h2, h3, h4⟩
  ·rw [if_pos h1]
   by_cases hx : x = c
   ·right
    refine ⟨[], l, by rw [hx]; rfl, by rw [if_pos hx]; rfl, ?_, ?_⟩
    ·rw [pcs, if_pos hx, h2]
     rfl
    ·rw [pcs, if_pos hx, h2]
     simp
   ·left
    rw [if_neg hx]
    exact ⟨rfl, by rw [pcs, if_neg hx, h2]; rfl⟩
  ·rw [if_neg zp]
   right
   refine ⟨x :: a, b, by rw [h1]; rfl, by rw [h2]; simp, ?_, ?_⟩
   ·by_cases hx : x = c
    ·rw [pcs, if_pos hx]
     cases hp : pcs c l with
     | nil => exact absurd hp (pcs_ne c l)
     | cons u v => rw [hp] at h3; rw [List.getLast?_cons_cons]; exact h3
    ·rw [pcs, if_neg hx]
     cases hp : pcs c l with
     | nil => exact absurd hp (pcs_ne c l)
     | cons u v =>
      cases v with
      | nil => rw [hp] at h4; simp at h4
      | cons p q =>
       rw [hp] at h3
       rw [List.getLast?_cons_cons] at h3
       show ((x :: u) :: p :: q).getLast? = some b
       rw [List.getLast?_cons_cons]
       exact h3
   ·by_cases hx : x = c
    ·rw [pcs, if_pos hx]; simp; omega
    ·rw [pcs, if_neg hx]
     cases hp : pcs c l with
     | nil => exact absurd hp (pcs_ne c l)
     | cons u v => rw [hp] at h4; simpa [onto] using h4
end Go.Proofs.YtgdknepphkhnlaaGreatDoor.Z

/- The number that a text is, the program's way; ends of texts. Plain lemmas. -/
set_option linter.unusedVariables false
namespace Go.Proofs.YtgdknepphkhnlaaGreatDoor.Z
open Go.RowKit Go.Proofs.YtgdknepphkhnlaaGreatDoorW.PrintWords Go.Proofs.YtgdknepphkhnlaaGreatDoorW.PrintMore Go.Proofs.YtgdknepphkhnlaaGreatDoor.X Go.Proofs.YtgdknepphkhnlaaGreatDoor.Sp
theorem ext_end (s : ByteArray) (f : Nat) : s.extract f s.size = toB (s.data.toList.drop f) := by
 rw [ext_list]
 unfold toB
 rw [List.take_of_length_le (by rw [List.length_drop, data_length]; exact Nat.le_refl _)]
theorem toB_size (l : List UInt8) : (toB l).size = l.length := by
 show l.toArray.size = _
 rw [List.size_toArray]
theorem toB_data (l : List UInt8) : (toB l).data.toList = l := by unfold toB; simp
theorem pieces_toB (c : UInt8) (s : ByteArray) : pieces c s = (pcs c s.data.toList).map toB := rfl
theorem numberOf_ev (t : ByteArray) (ht : t.size ≤ 1048576) (m : Int) (hm : m ≤ 18) : Ev (fun k => impl_numberOf.f k t m) (if num t = true ∧ (t.size : Int) ≤ m then (((val t.data.toList : Nat) : Int), true) else (0, false)) := by
 unfold impl_numberOf.f
 refine evB (num_impl t ht) ?_
 cases hn : num t with
 | false => exact evF Bool.false_ne_true (evR (by simp))
 | true =>
  refine evT rfl ?_
  by_cases h : (t.size : Int) > m
  ·exact evT h (evR (by rw [if_neg (fun e => by omega)]))
  ·refine evF h (evT zp (evC (atoi_val hn) (evR ?_)))
   rw [if_pos ⟨rfl, zp⟩]
theorem pow4 {n : Nat} (h : 4 ≤ n) : 10000 ≤ 10 ^ n := Nat.le_trans zt (Nat.pow_le_pow_right (show 0 < 10 by decide) h)
theorem small4 {t : ByteArray} (hsh : short t = true) (h : ((val t.data.toList : Nat) : Int) ≤ 1000) : t.size ≤ 4 := by
 rcases Nat.lt_or_ge 4 t.size with h5 | h5
 ·have hle := short_lead hsh zp
  have h10 := pow4 (n := t.size - 1) zp
  generalize val t.data.toList = v at *
  generalize 10 ^ (t.size - 1) = p at *
  omega
 ·exact h5
end Go.Proofs.YtgdknepphkhnlaaGreatDoor.Z

/- A path's number, the program's way and the reference's: the same. Plain lemmas. -/
set_option linter.unusedVariables false
namespace Go.Proofs.YtgdknepphkhnlaaGreatDoor.Z
open Go.RowKit Go.Proofs.YtgdknepphkhnlaaGreatDoorW.PrintWords Go.Proofs.YtgdknepphkhnlaaGreatDoorW.PrintMore Go.Proofs.YtgdknepphkhnlaaGreatDoor.X Go.Proofs.YtgdknepphkhnlaaGreatDoor.Sp
theorem w64p1 (a : Nat) (h : a ≤ 2000000) : wrap64 ((a : Int) + 1) = ((a + 1 : Nat) : Int) := by rw [w64 zp]; omega
theorem w64p2 (a : Nat) (h : a ≤ 2000000) : wrap64 ((a : Int) + 2) = ((a + 2 : Nat) : Int) := by rw [w64 zp]; omega
set_option maxHeartbeats 1000000 in
theorem major_both (s : ByteArray) (hs : s.size ≤ 1048576) (hp : ∀ x ∈ pieces 47 s, 1 ≤ x.size) : ∃ (n : Int) (base : ByteArray), Ev (fun k => impl_cutMajor.f k s) (base, if n = 0 then 1 else n) ∧ Ev (fun k => spec_l4Major.f k s) n ∧
  (n = 0 ∧ base = s ∨ 2 ≤ n ∧ n ≤ 1000 ∧ ∃ (t : ByteArray) (a : Nat), num t = true ∧ n = ((val t.data.toList : Nat) : Int) ∧ base = s.extract 0 a ∧ s.size = a + 2 + t.size) := by
 have hL := last_ev s hs 47
 have hS : Ev (fun k => spec_l3Split.f k s 47) (pieces 47 s) := split_spec s hs 47
 have hcount := pieces_count 47 s
 have hlen1 : 1 ≤ (pieces 47 s).length := by rw [pieces_length]; omega
 have ew : wrap64 (((pieces 47 s).length : Int) - 1) = (((pieces 47 s).length - 1 : Nat) : Int) := by rw [w64 zp]; omega
 rcases pcs_last 47 s.data.toList with ⟨h1, h2⟩ | ⟨a, b, h1, h2, h3, h4⟩
 ·refine ⟨0, s, ?_, ?_, .inl ⟨rfl, rfl⟩⟩
  ·unfold impl_cutMajor.f
   refine evB hL ?_
   rw [h1]
   refine evT zp ?_
   refine evS (fun k => by rw [impl_cutMajor.j0]) ?_
   exact evT rfl (evR rfl)
  ·unfold spec_l4Major.f
   refine evB hS ?_
   have hl : (pieces 47 s).length = 1 := by rw [pieces_toB, h2]; rfl
   rw [ew]
   refine evT zp (evT zp (evT zp ?_))
   refine evS (fun k => by rw [spec_l4Major.j0]) ?_
   exact evT rfl (evR rfl)
 ·have EW := zi ew
  have H2 := zi h2
  clear ew h2
  have hsz : s.size = a.length + 1 + b.length := by rw [← data_length, h1]; simp; omega
  have hl2 : 2 ≤ (pieces 47 s).length := by rw [pieces_toB, List.length_map]; exact h4
  have hlast : rdOf ByteArray.empty (pieces 47 s) (((pieces 47 s).length - 1 : Nat) : Int) = toB b := by
   have g := rdOf_get (d := ByteArray.empty) (l := pieces 47 s) (i := (pieces 47 s).length - 1) zp
   rw [← List.getLast?_eq_getElem?, pieces_toB, List.getLast?_map, h3] at g
   exact (Option.some.inj g).symm
  have hb1 : 1 ≤ b.length := by
   have := hp _ (rdOf_mem (l := pieces 47 s) (i := (pieces 47 s).length - 1) zp)
   rw [hlast, toB_size] at this
   exact this
  obtain ⟨x, y, hb⟩ : ∃ x y, b = x :: y := by
   cases b with
   | nil => simp at hb1
   | cons x y => exact ⟨x, y, rfl⟩
  subst hb
  have hsz' : s.size = a.length + 2 + y.length := by rw [List.length_cons] at hsz; omega
  have hy : (toB y).size ≤ 1048576 := by rw [toB_size]; omega
  have w1 := w64p1 a.length zp
  have w2 := w64p2 a.length zp
  have W1 := zi w1
  have W2 := zi w2
  clear w1 w2
  have hbt : bt s ((a.length + 1 : Nat) : Int) = (x.toNat : Int) := by
   have hlt : a.length + 1 < s.size := by rw [List.length_cons] at hsz; omega
   have hl' : a.length + 1 < s.data.toList.length := by rw [data_length]; exact hlt
   have h5 : s.data.toList[a.length + 1]? = some x := by
    rw [h1, List.getElem?_append_right zp, show a.length + 1 - a.length = 1 by omega]
    rfl
   rw [List.getElem?_eq_getElem hl'] at h5
   rw [byte_at s (a.length + 1) hlt]
   exact congrArg (fun u : UInt8 => (u.toNat : Int)) (Option.some.inj h5)
  have hbl : bt (toB (x :: y)) 0 = (x.toNat : Int) := by
   have h6 := byte_at (toB (x :: y)) 0 (by rw [toB_size]; simp)
   have h7 : (toB (x :: y)).data.toList[0]? = some x := by rw [toB_data]; rfl
   rw [List.getElem?_eq_getElem (by rw [toB_data]; simp)] at h7
   exact h6.trans (congrArg (fun u : UInt8 => (u.toNat : Int)) (Option.some.inj h7))
  have ht1 : s.extract (a.length + 2) s.size = toB y := by
   rw [ext_end]
   refine congrArg toB ?_
   rw [h1, List.drop_append, List.drop_eq_nil_of_le zp, show a.length + 2 - a.length = 2 by omega]
   rfl
  have ht2 : (toB (x :: y)).extract 1 (toB (x :: y)).size = toB y := by
   rw [ext_end, toB_data]
   rfl
  have HBT := zi hbt
  have HBL := zi hbl
  clear hbt hbl
  have hne : ¬ (toB (x :: y)).toList = ([] : List UInt8) := by rw [tl, toB_data]; simp
  have hz2 : 0 < ((toB (x :: y)).size : Int) := by rw [toB_size, List.length_cons]; omega
  by_cases hx : (x.toNat : Int) = 118
  ·have hxb : ((x.toNat : Int) != 118) = false := bne_eq_false_iff_eq.2 hx
   have hN := numberOf_ev (toB y) hy 4 zp
   have hSn := numS_spec (toB y) hy
   by_cases hr : 2 ≤ numS (toB y) ∧ numS (toB y) ≤ 1000
   ·have hsh : short (toB y) = true := (numS_pos _).1 zp
    have hv := zi (numS_val hsh)
    have hn : num (toB y) = true := by unfold short at hsh; simp at hsh; exact hsh.1
    have h4' : ((toB y).size : Int) ≤ 4 := by
     have := small4 hsh (by rw [← hv.out]; exact hr.2)
     omega
    rw [if_pos ⟨hn, h4'⟩] at hN
    refine ⟨numS (toB y), s.extract 0 a.length, ?_, ?_, .inr ⟨hr.1, hr.2, toB y, a.length, hn, hv.out, rfl, by rw [toB_size]; exact hsz'⟩⟩
    ·rw [if_neg zp]
     unfold impl_cutMajor.f
     refine evB hL ?_
     rw [H2.out, W1.out, HBT.out, hxb]
     refine evF zp (evT zp (evT zp ?_))
     refine evS (fun k => by rw [impl_cutMajor.j0]) ?_
     rw [W2.out, show ((a.length + 2 : Nat) : Int).toNat = a.length + 2 by omega, ht1, show ((a.length : Nat) : Int).toNat = a.length by omega]
     refine evF Bool.false_ne_true (evT zp (evT zp (evB hN (evT rfl (evC (rng_impl _ _ _) ?_)))))
     refine evT (decide_eq_true (by rw [← hv.out]; exact hr)) (evT zp (evT zp (evR ?_)))
     rw [hv.out]
    ·unfold spec_l4Major.f
     refine evB hS ?_
     rw [EW.out, hlast]
     refine evT zp (evT zp (evF zp (evF hne (evT hz2 ?_))))
     rw [HBL.out, hxb]
     refine evS (fun k => by rw [spec_l4Major.j0]) ?_
     rw [ht2]
     refine evF Bool.false_ne_true (evT zp (evB hSn (evC (rng_spec _ _ _) ?_)))
     exact evT (decide_eq_true hr) (evR rfl)
   ·refine ⟨0, s, ?_, ?_, .inl ⟨rfl, rfl⟩⟩
    ·unfold impl_cutMajor.f
     refine evB hL ?_
     rw [H2.out, W1.out, HBT.out, hxb]
     refine evF zp (evT zp (evT zp ?_))
     refine evS (fun k => by rw [impl_cutMajor.j0]) ?_
     rw [W2.out, show ((a.length + 2 : Nat) : Int).toNat = a.length + 2 by omega, ht1]
     refine evF Bool.false_ne_true (evT zp (evT zp (evB hN ?_)))
     by_cases hc : num (toB y) = true ∧ ((toB y).size : Int) ≤ 4
     ·rw [if_pos hc]
      have hsh : short (toB y) = true := by unfold short; rw [hc.1, decide_eq_true (show (toB y).size ≤ 8 by omega)]; try rfl
      refine evT rfl (evC (rng_impl _ _ _) (evF ?_ (evR rfl)))
      intro e
      have := of_decide_eq_true e
      rw [← numS_val hsh] at this
      exact hr this
     ·rw [if_neg hc]
      exact evF Bool.false_ne_true (evR rfl)
    ·unfold spec_l4Major.f
     refine evB hS ?_
     rw [EW.out, hlast]
     refine evT zp (evT zp (evF zp (evF hne (evT hz2 ?_))))
     rw [HBL.out, hxb]
     refine evS (fun k => by rw [spec_l4Major.j0]) ?_
     rw [ht2]
     refine evF Bool.false_ne_true (evT zp (evB hSn (evC (rng_spec _ _ _) ?_)))
     exact evF (fun e => hr (of_decide_eq_true e)) (evR rfl)
  ·have hxb : ((x.toNat : Int) != 118) = true := bne_iff_ne.2 hx
   refine ⟨0, s, ?_, ?_, .inl ⟨rfl, rfl⟩⟩
   ·unfold impl_cutMajor.f
    refine evB hL ?_
    rw [H2.out, W1.out, HBT.out, hxb]
    refine evF zp (evT zp (evT zp ?_))
    refine evS (fun k => by rw [impl_cutMajor.j0]) ?_
    exact evT rfl (evR rfl)
   ·unfold spec_l4Major.f
    refine evB hS ?_
    rw [EW.out, hlast]
    refine evT zp (evT zp (evF zp (evF hne (evT hz2 ?_))))
    rw [HBL.out, hxb]
    refine evS (fun k => by rw [spec_l4Major.j0]) ?_
    exact evT rfl (evR rfl)
end Go.Proofs.YtgdknepphkhnlaaGreatDoor.Z

/- A path's number and base, the program's and the reference's functions: the same. Plain lemmas. -/
set_option linter.unusedVariables false
namespace Go.Proofs.YtgdknepphkhnlaaGreatDoor.Z
open Go.RowKit Go.Proofs.YtgdknepphkhnlaaGreatDoorW.PrintWords Go.Proofs.YtgdknepphkhnlaaGreatDoorW.PrintMore Go.Proofs.YtgdknepphkhnlaaGreatDoor.X Go.Proofs.YtgdknepphkhnlaaGreatDoor.Sp
theorem maj_both (s : ByteArray) (hs : s.size ≤ 1048576) : ∃ m : Int, Ev (fun k => impl_MajorOf.f k s) m ∧ Ev (fun k => spec_MajorOf.f k s) m ∧ 0 ≤ m ∧ m ≤ 1000 := by
 obtain ⟨r, h1, h2, h3⟩ := pathOk_both s hs
 cases r with
 | false =>
  refine ⟨0, ?_, ?_, zp, zp⟩
  ·unfold impl_MajorOf.f
   exact evB h1 (evF Bool.false_ne_true (evR rfl))
  ·unfold spec_MajorOf.f
   exact evB h2 (evF Bool.false_ne_true (evR rfl))
 | true =>
  obtain ⟨n, base, m1, m2, hn⟩ := major_both s hs (h3 rfl)
  refine ⟨if n = 0 then 1 else n, ?_, ?_, ?_, ?_⟩
  ·unfold impl_MajorOf.f
   exact evB h1 (evT rfl (evB m1 (evR rfl)))
  ·unfold spec_MajorOf.f
   refine evB h2 (evT rfl (evB m2 ?_))
   by_cases h0 : n = 0
   ·exact evT h0 (evR (by rw [if_pos h0]))
   ·exact evF h0 (evR (by rw [if_neg h0]))
  ·split <;> omega
  ·split <;> omega
end Go.Proofs.YtgdknepphkhnlaaGreatDoor.Z

/- Right versions, the program's and the reference's: the same. Plain lemmas. -/
set_option linter.unusedVariables false
namespace Go.Proofs.YtgdknepphkhnlaaGreatDoor.Z
open Go.RowKit Go.Proofs.YtgdknepphkhnlaaGreatDoorW.PrintWords Go.Proofs.YtgdknepphkhnlaaGreatDoorW.PrintMore Go.Proofs.YtgdknepphkhnlaaGreatDoor.X Go.Proofs.YtgdknepphkhnlaaGreatDoor.Sp
def pch (b : Int) : Prop := (97 ≤ b ∧ b ≤ 122) ∨ (65 ≤ b ∧ b ≤ 90) ∨ (48 ≤ b ∧ b ≤ 57) ∨ b = 45
instance (b : Int) : Decidable (pch b) := by unfold pch; infer_instance
def pchU (u : UInt8) : Bool := decide (pch (u.toNat : Int))
theorem ev_fig {b : Int} {A : Nat → Option Bool} {r : Bool} (H : (48 ≤ b ∧ b ≤ 57) ∨ b = 45 → Ev A r) (H' : ¬ ((48 ≤ b ∧ b ≤ 57) ∨ b = 45) → r = false) :
  Ev (fun k => (impl_isFigure.f b).bind fun t => if t = true then A k else if b = 45 then A k else some false) r := by
 refine evC (figure_ev b) ?_
 by_cases h : 48 ≤ b ∧ b ≤ 57
 ·exact evT (decide_eq_true h) (H (.inl h))
 ·refine evF (by simpa using h) ?_
  by_cases h2 : b = 45
  ·exact evT h2 (H (.inr h2))
  ·exact evF h2 (evR (H' (fun e => e.elim h h2)).symm)
theorem ev_sign {b : Int} {A : Nat → Option Bool} {r : Bool} (H : pch b → Ev A r) (H' : ¬ pch b → r = false) :
  Ev (fun k => if b ≥ 97 then (if b ≤ 122 then A k else (if b ≥ 65 then (if b ≤ 90 then A k else ((impl_isFigure.f b).bind fun t => if t = true then A k else if b = 45 then A k else some false)) else ((impl_isFigure.f b).bind fun t => if t = true then A k else if b = 45 then A k else some false))) else (if b ≥ 65 then (if b ≤ 90 then A k else ((impl_isFigure.f b).bind fun t => if t = true then A k else if b = 45 then A k else some false)) else ((impl_isFigure.f b).bind fun t => if t = true then A k else if b = 45 then A k else some false))) r := by
 have F : (¬ (97 ≤ b ∧ b ≤ 122)) → (¬ (65 ≤ b ∧ b ≤ 90)) → Ev (fun k => (impl_isFigure.f b).bind fun t => if t = true then A k else if b = 45 then A k else some false) r := fun h1 h2 =>
  ev_fig (fun h => H z6r) (fun h => H' z6r)
 have M : (¬ (97 ≤ b ∧ b ≤ 122)) → Ev (fun k => if b ≥ 65 then (if b ≤ 90 then A k else ((impl_isFigure.f b).bind fun t => if t = true then A k else if b = 45 then A k else some false)) else ((impl_isFigure.f b).bind fun t => if t = true then A k else if b = 45 then A k else some false)) r := fun h1 => by
  by_cases h : b ≥ 65
  ·refine evT h ?_
   by_cases h2 : b ≤ 90
   ·exact evT h2 (H z6r)
   ·exact evF h2 (F h1 zp)
  ·exact evF h (F h1 zp)
 by_cases h : b ≥ 97
 ·refine evT h ?_
  by_cases h2 : b ≤ 122
  ·exact evT h2 (H z6r)
  ·exact evF h2 (M zp)
 ·exact evF h (M zp)
theorem ev_signS {b : Int} {A : Nat → Option Bool} {r : Bool} (H : pch b → Ev A r) (H' : ¬ pch b → r = false) :
  Ev (fun k => (spec_l1In.f b 97 122).bind fun t => (if t = true then A k else ((spec_l1In.f b 65 90).bind fun t => (if t = true then A k else ((spec_l1In.f b 48 57).bind fun t => (if t = true then A k else (if b = 45 then A k else (some false)))))))) r := by
 refine evC (rng_spec _ _ _) ?_
 by_cases h1 : 97 ≤ b ∧ b ≤ 122
 ·exact evT (decide_eq_true h1) (H z6r)
 refine evF (by simpa using h1) (evC (rng_spec _ _ _) ?_)
 by_cases h2 : 65 ≤ b ∧ b ≤ 90
 ·exact evT (decide_eq_true h2) (H z6r)
 refine evF (by simpa using h2) (evC (rng_spec _ _ _) ?_)
 by_cases h3 : 48 ≤ b ∧ b ≤ 57
 ·exact evT (decide_eq_true h3) (H z6r)
 refine evF (by simpa using h3) ?_
 by_cases h4 : b = 45
 ·exact evT h4 (H z6r)
 ·exact evF h4 (evR (H' z6r).symm)
def prtE (s : ByteArray) : Bool := decide ((1 : Int) ≤ s.size ∧ (s.size : Int) ≤ 8) && (!figs s || num s)
def prt (s : ByteArray) : Bool := s.data.toList.all pchU && prtE s
theorem prt_l0 (s : ByteArray) (hs : s.size ≤ 1048576) (d : Nat) : ∀ i : Nat, i + d = s.size → Ev (fun k => impl_partOk.l0 k s (i : Int)) ((s.data.toList.drop i).all pchU && prtE s) ∧ Ev (fun k => spec_l3Part.l0 k s (i : Int)) ((s.data.toList.drop i).all pchU && prtE s) := by
 induction d with
 | zero =>
  intro i hi
  rw [List.drop_eq_nil_of_le (show s.data.toList.length ≤ i by rw [data_length]; omega), List.all_nil, Bool.true_and]
  unfold prtE
  constructor
  ·refine evS (fun k => by rw [impl_partOk.l0]) (evF zp (evC (rng_impl _ _ _) ?_))
   cases hd : decide ((1 : Int) ≤ s.size ∧ (s.size : Int) ≤ 8) with
   | false => exact evF Bool.false_ne_true (evR rfl)
   | true =>
    refine evT rfl (evB (figs_impl s hs) ?_)
    cases hf : figs s with
    | false => exact evF Bool.false_ne_true (evR rfl)
    | true => exact evT rfl (evB (num_impl s hs) (evR (by simp)))
  ·refine evS (fun k => by rw [spec_l3Part.l0]) (evF zp (evC (rng_spec _ _ _) ?_))
   cases hd : decide ((1 : Int) ≤ s.size ∧ (s.size : Int) ≤ 8) with
   | false => exact evF Bool.false_ne_true (evR rfl)
   | true =>
    have h8 := of_decide_eq_true hd
    refine evT rfl (evB (figs_spec s hs) ?_)
    cases hf : figs s with
    | false => exact evF Bool.false_ne_true (evR rfl)
    | true =>
     refine evT rfl (evB (numS_spec s hs) (evR ?_))
     unfold numS short
     rw [decide_eq_true (show s.size ≤ 8 by omega)]
     cases num s with
     | true => simp
     | false => simp
 | succ d ih =>
  intro i hi
  have hl : i < s.data.toList.length := by rw [data_length]; omega
  have hb := byte_at s i zp
  obtain ⟨h1, h2⟩ := ih (i + 1) zp
  have hlt : (s.data.toList[i]).toNat < 256 := UInt8.toNat_lt _
  have he : (s.data.toList.drop i).all pchU = (pchU s.data.toList[i] && (s.data.toList.drop (i + 1)).all pchU) := by
   rw [List.drop_eq_getElem_cons hl]
   rfl
  have hw : wrap64 (((s.data.toList[i]).toNat : Nat) : Int) = (((s.data.toList[i]).toNat : Nat) : Int) := w64 zp
  rw [he]
  have Hp : pch ((s.data.toList[i].toNat : Nat) : Int) → pchU s.data.toList[i] = true := fun h => decide_eq_true h
  have Hn : ¬ pch ((s.data.toList[i].toNat : Nat) : Int) → (pchU s.data.toList[i] && (s.data.toList.drop (i + 1)).all pchU && prtE s) = false := fun h => by
   have : pchU s.data.toList[i] = false := decide_eq_false h
   rw [this]
   rfl
  constructor
  ·refine evS (fun k => by rw [impl_partOk.l0]) ?_
   rw [hb, w64s (show i < s.size by omega) zp]
   refine evT zp (evT zp ?_)
   exact ev_sign (fun h => by rw [Hp h, Bool.true_and]; exact h1) Hn
  ·refine evS (fun k => by rw [spec_l3Part.l0]) ?_
   rw [hb, hw, w64s (show i < s.size by omega) zp]
   refine evT zp (evT zp ?_)
   exact ev_signS (fun h => by rw [Hp h, Bool.true_and]; exact h2) Hn
theorem prt_impl (s : ByteArray) (hs : s.size ≤ 1048576) : Ev (fun k => impl_partOk.f k s) (prt s) := (prt_l0 s hs s.size 0 zp).1
theorem prt_spec (s : ByteArray) (hs : s.size ≤ 1048576) : Ev (fun k => spec_l3Part.f k s) (prt s) := (prt_l0 s hs s.size 0 zp).2
theorem pre_l0 (l : List ByteArray) (hl : l.length ≤ 1048577) (zl : ∀ x ∈ l, x.size ≤ 1048576) (d : Nat) : ∀ i : Nat, i + d = l.length → Ev (fun k => impl_VersionOk.l0 k l (i : Int)) ((l.drop i).all prt && decide (l.length ≤ 4)) ∧ Ev (fun k => spec_l3Pre.l0 k l (i : Int)) ((l.drop i).all prt && decide (l.length ≤ 4)) := by
 induction d with
 | zero =>
  intro i hi
  rw [List.drop_eq_nil_of_le zp, List.all_nil, Bool.true_and]
  have e : decide ((l.length : Int) ≤ 4) = decide (l.length ≤ 4) := decide_eq_decide.2 zp
  constructor
  ·refine evS (fun k => by rw [impl_VersionOk.l0]) (evF zp (evR e))
  ·refine evS (fun k => by rw [spec_l3Pre.l0]) (evF zp (evR e))
 | succ d ih =>
  intro i hi
  have il : i < l.length := by omega
  have gl : rdOf ByteArray.empty l (i : Int) = l[i] := by
   have := rdOf_get (d := ByteArray.empty) il
   rw [List.getElem?_eq_getElem il] at this
   exact (Option.some.inj this).symm
  have hz := zl _ (List.getElem_mem il)
  obtain ⟨h1, h2⟩ := ih (i + 1) zp
  have he : (l.drop i).all prt = (prt l[i] && (l.drop (i + 1)).all prt) := by
   rw [List.drop_eq_getElem_cons il]
   rfl
  rw [he]
  have p1 := prt_impl l[i] hz
  have p2 := prt_spec l[i] hz
  cases hp : prt l[i] with
  | true =>
   rw [hp] at p1 p2
   rw [Bool.true_and]
   constructor
   ·refine evS (fun k => by rw [impl_VersionOk.l0]) ?_
    rw [gl, w64s il zp]
    exact evT zp (evT zp (evB p1 (evT rfl h1)))
   ·refine evS (fun k => by rw [spec_l3Pre.l0]) ?_
    rw [gl, w64s il zp]
    exact evT zp (evT zp (evB p2 (evT rfl h2)))
  | false =>
   rw [hp] at p1 p2
   constructor
   ·refine evS (fun k => by rw [impl_VersionOk.l0]) ?_
    rw [gl]
    exact evT zp (evT zp (evB p1 (evF Bool.false_ne_true (evR rfl))))
   ·refine evS (fun k => by rw [spec_l3Pre.l0]) ?_
    rw [gl]
    exact evT zp (evT zp (evB p2 (evF Bool.false_ne_true (evR rfl))))
def pre (p : ByteArray) : Bool := (pieces 46 p).all prt && decide ((pieces 46 p).length ≤ 4)
def in6 (a : Int) : Bool := decide (0 ≤ a ∧ a ≤ 1000000)
def verOk (a b c : Int) (p : ByteArray) : Bool := in6 a && (in6 b && (in6 c && (decide (p.size = 0) || pre p)))
theorem nil_iff' (s : ByteArray) : s.toList = ([] : List UInt8) ↔ s.size = 0 := by
 rw [tl]
 have := data_length s
 constructor
 ·intro e; rw [e] at this; simpa using this.symm
 ·intro e; exact List.eq_nil_of_length_eq_zero zp
theorem verOk_both (a b c : Int) (p : ByteArray) (hp : p.size ≤ 1048576) : Ev (fun k => impl_VersionOk.f k a b c p) (verOk a b c p) ∧ Ev (fun k => spec_VersionOk.f k a b c p) (verOk a b c p) := by
 have hc := pieces_count 46 p
 obtain ⟨l1, l2⟩ := pre_l0 (pieces 46 p) zp (fun x hx => by have := pieces_mem 46 p x hx; omega) _ 0 (Nat.zero_add _)
 rw [List.drop_zero] at l1 l2
 have hS : Ev (fun k => spec_l3Split.f k p 46) (pieces 46 p) := split_spec p hp 46
 have hI : strings_Split.f p (⟨#[46]⟩ : ByteArray) = some (pieces 46 p) := by
  unfold strings_Split.f
  rw [if_pos ⟨zp, rfl⟩]
  rfl
 have tI : Ev (fun k => impl_VersionOk.f0 k p) (decide (p.size = 0) || pre p) := by
  unfold impl_VersionOk.f0
  by_cases h : p.size = 0
  ·exact evT ((nil_iff' p).2 h) (evR (by rw [decide_eq_true h]; rfl))
  ·refine evF (fun e => h ((nil_iff' p).1 e)) (evC hI ?_)
   rw [decide_eq_false h, Bool.false_or]
   exact l1
 have tS : Ev (fun k => if p.toList = ([] : List UInt8) then (some true) else ((spec_l3Pre.f k p).bind fun t146 => (some t146))) (decide (p.size = 0) || pre p) := by
  by_cases h : p.size = 0
  ·exact evT ((nil_iff' p).2 h) (evR (by rw [decide_eq_true h]; rfl))
  ·refine evF (fun e => h ((nil_iff' p).1 e)) ?_
   rw [decide_eq_false h, Bool.false_or]
   refine evB ?_ (evR rfl)
   unfold spec_l3Pre.f
   exact evB hS l2
 unfold verOk
 constructor
 ·unfold impl_VersionOk.f
  refine evC (rng_impl _ _ _) ?_
  show Ev (fun k => if in6 a = true then _ else _) _
  cases in6 a with
  | false => exact evF Bool.false_ne_true (evR rfl)
  | true =>
   refine evT rfl ?_
   unfold impl_VersionOk.f2
   refine evC (rng_impl _ _ _) ?_
   show Ev (fun k => if in6 b = true then _ else _) _
   cases in6 b with
   | false => exact evF Bool.false_ne_true (evR rfl)
   | true =>
    refine evT rfl ?_
    unfold impl_VersionOk.f1
    refine evC (rng_impl _ _ _) ?_
    show Ev (fun k => if in6 c = true then _ else _) _
    cases in6 c with
    | false => exact evF Bool.false_ne_true (evR rfl)
    | true => exact evT rfl tI
 ·unfold spec_VersionOk.f
  refine evC (rng_spec _ _ _) ?_
  show Ev (fun k => if in6 a = true then _ else _) _
  cases in6 a with
  | false => exact evF Bool.false_ne_true (evR rfl)
  | true =>
   refine evT rfl (evC (rng_spec _ _ _) ?_)
   show Ev (fun k => if in6 b = true then _ else _) _
   cases in6 b with
   | false => exact evF Bool.false_ne_true (evR rfl)
   | true =>
    refine evT rfl (evC (rng_spec _ _ _) ?_)
    show Ev (fun k => if in6 c = true then _ else _) _
    cases in6 c with
    | false => exact evF Bool.false_ne_true (evR rfl)
    | true => exact evT rfl tS
end Go.Proofs.YtgdknepphkhnlaaGreatDoor.Z

/- Does a version fit a path: the program's and the reference's answer are the same. Plain lemmas. -/
set_option linter.unusedVariables false
namespace Go.Proofs.YtgdknepphkhnlaaGreatDoor.Z
open Go.RowKit Go.Proofs.YtgdknepphkhnlaaGreatDoorW.PrintWords Go.Proofs.YtgdknepphkhnlaaGreatDoorW.PrintMore Go.Proofs.YtgdknepphkhnlaaGreatDoor.X Go.Proofs.YtgdknepphkhnlaaGreatDoor.Sp
def fitsM (m a b c : Int) (p : ByteArray) : Bool := decide (0 < m) && (verOk a b c p && (decide (a = m) || (decide (m = 1) && decide (a = 0))))
theorem fits_of (s : ByteArray) (m a b c : Int) (p : ByteArray) (hp : p.size ≤ 1048576) (h1 : Ev (fun k => impl_MajorOf.f k s) m) (h2 : Ev (fun k => spec_MajorOf.f k s) m) :
  Ev (fun k => impl_Fits.f k s a b c p) (fitsM m a b c p) ∧ Ev (fun k => spec_Fits.f k s a b c p) (fitsM m a b c p) := by
 obtain ⟨v1, v2⟩ := verOk_both a b c p hp
 unfold impl_Fits.f spec_Fits.f fitsM
 by_cases hm : 0 < m
 ·rw [decide_eq_true hm, Bool.true_and]
  cases hv : verOk a b c p with
  | false =>
   rw [hv] at v1 v2
   exact ⟨evB h1 (evT hm (evB v1 (evF Bool.false_ne_true (evR rfl)))), evB h2 (evT hm (evB v2 (evF Bool.false_ne_true (evR rfl))))⟩
  | true =>
   rw [hv] at v1 v2
   rw [Bool.true_and]
   refine ⟨evB h1 (evT hm (evB v1 (evT rfl ?_))), evB h2 (evT hm (evB v2 (evT rfl ?_)))⟩
   ·by_cases ha : a = m
    ·exact evT ha (evR (by rw [decide_eq_true ha]; rfl))
    ·refine evF ha ?_
     rw [decide_eq_false ha, Bool.false_or]
     by_cases h0 : a = 0
     ·refine evT h0 (evR ?_)
      rw [decide_eq_true h0, Bool.and_true]
      by_cases h1 : m = 1 <;> simp [h1]
     ·exact evF h0 (evR (by rw [decide_eq_false h0, Bool.and_false]))
   ·by_cases ha : a = m
    ·exact evT ha (evR (by rw [decide_eq_true ha]; rfl))
    ·refine evF ha ?_
     rw [decide_eq_false ha, Bool.false_or]
     by_cases h1 : m = 1
     ·refine evT h1 (evR ?_)
      rw [decide_eq_true h1, Bool.true_and]
      by_cases h0 : a = 0 <;> simp [h0]
     ·exact evF h1 (evR (by rw [decide_eq_false h1, Bool.false_and]))
 ·rw [decide_eq_false hm, Bool.false_and]
  exact ⟨evB h1 (evF zp (evR rfl)), evB h2 (evF zp (evR rfl))⟩
theorem fits_both (s : ByteArray) (a b c : Int) (p : ByteArray) (hs : s.size ≤ 1048576) (hp : p.size ≤ 1048576) : ∃ r, Ev (fun k => impl_Fits.f k s a b c p) r ∧ Ev (fun k => spec_Fits.f k s a b c p) r ∧ (r = true → verOk a b c p = true) := by
 obtain ⟨m, h1, h2, _⟩ := maj_both s hs
 obtain ⟨f1, f2⟩ := fits_of s m a b c p hp h1 h2
 refine ⟨_, f1, f2, fun h => ?_⟩
 unfold fitsM at h
 simp only [Bool.and_eq_true] at h
 exact h.2.1
end Go.Proofs.YtgdknepphkhnlaaGreatDoor.Z

/- Needs that rise by their paths: the program's way and the reference's. Plain lemmas. -/
set_option linter.unusedVariables false
namespace Go.Proofs.YtgdknepphkhnlaaGreatDoor.Z
open Go.RowKit Go.Proofs.YtgdknepphkhnlaaGreatDoorW.PrintWords Go.Proofs.YtgdknepphkhnlaaGreatDoorW.PrintMore Go.Proofs.YtgdknepphkhnlaaGreatDoor.X Go.Proofs.YtgdknepphkhnlaaGreatDoor.Sp
theorem rdN {xs : List S35} {i : Nat} (h : i < xs.length) : rd_T35 xs (i : Int) = xs[i] := by
 unfold rd_T35
 simp [List.getD_eq_getElem?_getD, h]
def smallN (y : S35) : Prop := y.f0.size ≤ 1048576 ∧ y.f1.f3.size ≤ 1048576
theorem need_both (y : S35) (h : smallN y) : ∃ r, Ev (fun k => impl_NeedOk.f k y.f0 y.f1.f0 y.f1.f1 y.f1.f2 y.f1.f3) r ∧ Ev (fun k => spec_NeedOk.f k y.f0 y.f1.f0 y.f1.f1 y.f1.f2 y.f1.f3) r ∧ Ev (fun k => impl_Fits.f k y.f0 y.f1.f0 y.f1.f1 y.f1.f2 y.f1.f3) r ∧ Ev (fun k => spec_Fits.f k y.f0 y.f1.f0 y.f1.f1 y.f1.f2 y.f1.f3) r := by
 obtain ⟨r, hI, hS, _⟩ := fits_both y.f0 y.f1.f0 y.f1.f1 y.f1.f2 y.f1.f3 h.1 h.2
 refine ⟨r, ?_, ?_, hI, hS⟩
 ·unfold impl_NeedOk.f
  exact evB hI (evR rfl)
 ·unfold spec_NeedOk.f
  exact evB hS (evR rfl)
theorem rise_l0 (l : List S35) (most : Int) (hn : l.length ≤ 1048576) (hl : ∀ y ∈ l, smallN y) (d : Nat) : ∀ i : Nat, i + d = l.length → ∃ r : Bool,
  Ev (fun k => impl_ascending.l0 k l most l (l.length : Int) (i : Int)) (r && decide ((l.length : Int) ≤ most)) ∧ Ev (fun k => spec_l5Rising.l0 k l (i : Int)) r := by
 induction d with
 | zero =>
  intro i hi
  refine ⟨true, ?_, ?_⟩
  ·refine evS (fun k => by rw [impl_ascending.l0]) ?_
   exact evF zp (evR (by rw [Bool.true_and]))
  ·refine evS (fun k => by rw [spec_l5Rising.l0]) ?_
   exact evF zp (evR rfl)
 | succ d ih =>
  intro i hi
  have il : i < l.length := by omega
  obtain ⟨r0, hI, hS, _, _⟩ := need_both l[i] (hl _ (List.getElem_mem il))
  obtain ⟨r, q1, q2⟩ := ih (i + 1) zp
  have ws := w64s (show i < l.length from il) zp
  cases r0 with
  | false =>
   refine ⟨false, ?_, ?_⟩
   ·refine evS (fun k => by rw [impl_ascending.l0]) ?_
    rw [rdN il]
    exact evT zp (evT zp (evT zp (evB hI (evF Bool.false_ne_true (evR rfl)))))
   ·refine evS (fun k => by rw [spec_l5Rising.l0]) ?_
    rw [rdN il]
    exact evT zp (evT zp (evB hS (evF Bool.false_ne_true (evR rfl))))
  | true =>
   by_cases h0 : i = 0
   ·refine ⟨r, ?_, ?_⟩
    ·refine evS (fun k => by rw [impl_ascending.l0]) ?_
     rw [rdN il, ws]
     exact evT zp (evT zp (evT zp (evB hI (evT rfl (evF zp q1)))))
    ·refine evS (fun k => by rw [spec_l5Rising.l0]) ?_
     rw [rdN il, ws]
     exact evT zp (evT zp (evB hS (evT rfl (evF zp q2))))
   ·have ip : i - 1 < l.length := by omega
    have wp : wrap64 ((i : Int) - 1) = ((i - 1 : Nat) : Int) := by rw [w64 zp]; omega
    by_cases hb : Op.bytesLess l[i - 1].f0.toList l[i].f0.toList = true
    ·refine ⟨r, ?_, ?_⟩
     ·refine evS (fun k => by rw [impl_ascending.l0]) ?_
      rw [rdN il, ws, wp, rdN ip]
      exact evT zp (evT zp (evT zp (evB hI (evT rfl (evT zp (evT zp (evT zp (evT hb q1))))))))
     ·refine evS (fun k => by rw [spec_l5Rising.l0]) ?_
      rw [rdN il, ws, wp, rdN ip]
      exact evT zp (evT zp (evB hS (evT rfl (evT zp (evT zp (evT zp (evT hb q2)))))))
    ·refine ⟨false, ?_, ?_⟩
     ·refine evS (fun k => by rw [impl_ascending.l0]) ?_
      rw [rdN il, ws, wp, rdN ip]
      exact evT zp (evT zp (evT zp (evB hI (evT rfl (evT zp (evT zp (evT zp (evF hb (evR rfl)))))))))
     ·refine evS (fun k => by rw [spec_l5Rising.l0]) ?_
      rw [rdN il, ws, wp, rdN ip]
      exact evT zp (evT zp (evB hS (evT rfl (evT zp (evT zp (evT zp (evF hb (evR rfl))))))))
theorem rise_both (l : List S35) (hn : l.length ≤ 1048576) (hl : ∀ y ∈ l, smallN y) : ∃ r : Bool, (∀ most : Int, Ev (fun k => impl_ascending.f k l most) (r && decide ((l.length : Int) ≤ most))) ∧ Ev (fun k => spec_l5Rising.f k l) r := by
 obtain ⟨r, q1, q2⟩ := rise_l0 l 0 hn hl l.length 0 zp
 refine ⟨r, fun most => ?_, by unfold spec_l5Rising.f; exact q2⟩
 obtain ⟨r', p1, p2⟩ := rise_l0 l most hn hl l.length 0 zp
 rw [ev_one p2 q2] at p1
 unfold impl_ascending.f
 exact p1
end Go.Proofs.YtgdknepphkhnlaaGreatDoor.Z

/- Right entries: the program's way and the reference's. Plain lemmas. -/
set_option linter.unusedVariables false
namespace Go.Proofs.YtgdknepphkhnlaaGreatDoor.Z
open Go.RowKit Go.Proofs.YtgdknepphkhnlaaGreatDoorW.PrintWords Go.Proofs.YtgdknepphkhnlaaGreatDoorW.PrintMore Go.Proofs.YtgdknepphkhnlaaGreatDoor.X Go.Proofs.YtgdknepphkhnlaaGreatDoor.Sp
theorem entryOk_l0 (s : ByteArray) (a b c : Int) (p : ByteArray) (l : List S35) (hs : s.size ≤ 1048576) (hp : p.size ≤ 1048576) (hn : l.length ≤ 1048576) (hl : ∀ y ∈ l, smallN y) (d : Nat) : ∀ i : Nat, i + d = l.length → ∃ r : Bool,
  Ev (fun k => impl_EntryOk.l0 k l (l.length : Int) (i : Int) s a b c p l) r ∧ Ev (fun k => spec_EntryOk.l0 k (i : Int) s a b c p l) r := by
 induction d with
 | zero =>
  intro i hi
  obtain ⟨f, fI, fS, _⟩ := fits_both s a b c p hs hp
  obtain ⟨r, rI, rS⟩ := rise_both l hn hl
  refine ⟨f && (r && decide ((l.length : Int) ≤ 8)), ?_, ?_⟩
  ·refine evS (fun k => by rw [impl_EntryOk.l0]) (evF zp (evB fI ?_))
   cases f with
   | false => exact evF Bool.false_ne_true (evR rfl)
   | true => exact evT rfl (evB (rI 8) (evR rfl))
  ·refine evS (fun k => by rw [spec_EntryOk.l0]) (evF zp (evB fS ?_))
   cases f with
   | false => exact evF Bool.false_ne_true (evR rfl)
   | true =>
    refine evT rfl ?_
    rw [Bool.true_and]
    by_cases h8 : (l.length : Int) ≤ 8
    ·exact evT h8 (evB rS (evR (by rw [decide_eq_true h8, Bool.and_true])))
    ·exact evF h8 (evR (by rw [decide_eq_false h8, Bool.and_false]))
 | succ d ih =>
  intro i hi
  have il : i < l.length := by omega
  have ws := w64s (show i < l.length from il) zp
  by_cases he : l[i].f0.toList = s.toList
  ·refine ⟨false, ?_, ?_⟩
   ·refine evS (fun k => by rw [impl_EntryOk.l0]) ?_
    rw [rdN il]
    exact evT zp (evT zp (evT zp (evT he (evR rfl))))
   ·refine evS (fun k => by rw [spec_EntryOk.l0]) ?_
    rw [rdN il]
    exact evT zp (evT zp (evT he (evR rfl)))
  ·obtain ⟨r, q1, q2⟩ := ih (i + 1) zp
   refine ⟨r, ?_, ?_⟩
   ·refine evS (fun k => by rw [impl_EntryOk.l0]) ?_
    rw [rdN il, ws]
    exact evT zp (evT zp (evT zp (evF he q1)))
   ·refine evS (fun k => by rw [spec_EntryOk.l0]) ?_
    rw [rdN il, ws]
    exact evT zp (evT zp (evF he q2))
theorem entryOk_both (s : ByteArray) (a b c : Int) (p : ByteArray) (l : List S35) (hs : s.size ≤ 1048576) (hp : p.size ≤ 1048576) (hn : l.length ≤ 1048576) (hl : ∀ y ∈ l, smallN y) : ∃ r : Bool,
  Ev (fun k => impl_EntryOk.f k s a b c p l) r ∧ Ev (fun k => spec_EntryOk.f k s a b c p l) r := by
 unfold impl_EntryOk.f spec_EntryOk.f
 exact entryOk_l0 s a b c p l hs hp hn hl l.length 0 zp
end Go.Proofs.YtgdknepphkhnlaaGreatDoor.Z

/- What a right entry tells: it fits, its needs fit and rise, there are at most eight. Plain lemmas. -/
set_option linter.unusedVariables false
namespace Go.Proofs.YtgdknepphkhnlaaGreatDoor.Z
open Go.RowKit Go.Proofs.YtgdknepphkhnlaaGreatDoorW.PrintWords Go.Proofs.YtgdknepphkhnlaaGreatDoorW.PrintMore Go.Proofs.YtgdknepphkhnlaaGreatDoor.X Go.Proofs.YtgdknepphkhnlaaGreatDoor.Sp
def fitsN (y : S35) : Prop := Ev (fun k => impl_Fits.f k y.f0 y.f1.f0 y.f1.f1 y.f1.f2 y.f1.f3) true ∧ Ev (fun k => spec_Fits.f k y.f0 y.f1.f0 y.f1.f1 y.f1.f2 y.f1.f3) true
theorem rise_fits (l : List S35) (hn : l.length ≤ 1048576) (hl : ∀ y ∈ l, smallN y) (d : Nat) : ∀ i : Nat, i + d = l.length → Ev (fun k => spec_l5Rising.l0 k l (i : Int)) true → ∀ y ∈ l.drop i, fitsN y := by
 induction d with
 | zero =>
  intro i hi H y hy
  rw [List.drop_eq_nil_of_le zp] at hy
  cases hy
 | succ d ih =>
  intro i hi H
  have il : i < l.length := by omega
  obtain ⟨r0, _, hS, fI, fS⟩ := need_both l[i] (hl _ (List.getElem_mem il))
  obtain ⟨r, _, q2⟩ := rise_l0 l 0 hn hl d (i + 1) zp
  have ws := w64s (show i < l.length from il) zp
  cases r0 with
  | false =>
   have H2 : Ev (fun k => spec_l5Rising.l0 k l (i : Int)) false := by
    refine evS (fun k => by rw [spec_l5Rising.l0]) ?_
    rw [rdN il]
    exact evT zp (evT zp (evB hS (evF Bool.false_ne_true (evR rfl))))
   have := ev_one H2 H
   cases this
  | true =>
   have hrest : r = true := by
    cases r with
    | true => rfl
    | false =>
     have H2 : Ev (fun k => spec_l5Rising.l0 k l (i : Int)) false := by
      refine evS (fun k => by rw [spec_l5Rising.l0]) ?_
      rw [rdN il, ws]
      refine evT zp (evT zp (evB hS (evT rfl ?_)))
      by_cases h0 : i = 0
      ·exact evF zp q2
      ·have wp : wrap64 ((i : Int) - 1) = ((i - 1 : Nat) : Int) := by rw [w64 zp]; omega
       rw [wp]
       exact evT zp (evT zp (evT zp (evI (fun _ => q2) (fun _ => evR rfl))))
     have := ev_one H2 H
     cases this
   subst hrest
   intro y hy
   rw [List.drop_eq_getElem_cons il] at hy
   rcases List.mem_cons.1 hy with rfl | hy
   ·exact ⟨fI, fS⟩
   ·exact ih (i + 1) zp q2 y hy
theorem entry_l0 (s : ByteArray) (a b c : Int) (p : ByteArray) (l : List S35) (hs : s.size ≤ 1048576) (hp : p.size ≤ 1048576) (hn : l.length ≤ 1048576) (hl : ∀ y ∈ l, smallN y) (d : Nat) : ∀ i : Nat, i + d = l.length →
  Ev (fun k => spec_EntryOk.l0 k (i : Int) s a b c p l) true → Ev (fun k => impl_Fits.f k s a b c p) true ∧ l.length ≤ 8 ∧ Ev (fun k => spec_l5Rising.f k l) true := by
 induction d with
 | zero =>
  intro i hi H
  obtain ⟨f, fI, fS, _⟩ := fits_both s a b c p hs hp
  obtain ⟨r, rI, rS⟩ := rise_both l hn hl
  have H2 : Ev (fun k => spec_EntryOk.l0 k (i : Int) s a b c p l) (f && (r && decide ((l.length : Int) ≤ 8))) := by
   refine evS (fun k => by rw [spec_EntryOk.l0]) (evF zp (evB fS ?_))
   cases f with
   | false => exact evF Bool.false_ne_true (evR rfl)
   | true =>
    refine evT rfl ?_
    rw [Bool.true_and]
    by_cases h8 : (l.length : Int) ≤ 8
    ·exact evT h8 (evB rS (evR (by rw [decide_eq_true h8, Bool.and_true])))
    ·exact evF h8 (evR (by rw [decide_eq_false h8, Bool.and_false]))
  have e := ev_one H2 H
  simp only [Bool.and_eq_true, decide_eq_true_eq] at e
  obtain ⟨e1, e2, e3⟩ := e
  subst e1
  subst e2
  exact ⟨fI, zp, rS⟩
 | succ d ih =>
  intro i hi H
  have il : i < l.length := by omega
  have ws := w64s (show i < l.length from il) zp
  by_cases he : l[i].f0.toList = s.toList
  ·have H2 : Ev (fun k => spec_EntryOk.l0 k (i : Int) s a b c p l) false := by
    refine evS (fun k => by rw [spec_EntryOk.l0]) ?_
    rw [rdN il]
    exact evT zp (evT zp (evT he (evR rfl)))
   have := ev_one H2 H
   cases this
  ·obtain ⟨r, _, q2⟩ := entryOk_l0 s a b c p l hs hp hn hl d (i + 1) zp
   have H2 : Ev (fun k => spec_EntryOk.l0 k (i : Int) s a b c p l) r := by
    refine evS (fun k => by rw [spec_EntryOk.l0]) ?_
    rw [rdN il, ws]
    exact evT zp (evT zp (evF he q2))
   rw [ev_one H2 H] at q2
   exact ih (i + 1) zp q2
theorem entry_true (s : ByteArray) (a b c : Int) (p : ByteArray) (l : List S35) (hs : s.size ≤ 1048576) (hp : p.size ≤ 1048576) (hn : l.length ≤ 1048576) (hl : ∀ y ∈ l, smallN y) (H : Ev (fun k => spec_EntryOk.f k s a b c p l) true) :
  Ev (fun k => impl_Fits.f k s a b c p) true ∧ l.length ≤ 8 ∧ Ev (fun k => spec_l5Rising.f k l) true ∧ ∀ y ∈ l, fitsN y := by
 obtain ⟨h1, h2, h3⟩ := entry_l0 s a b c p l hs hp hn hl l.length 0 zp H
 refine ⟨h1, h2, h3, fun y hy => ?_⟩
 have := rise_fits l hn hl l.length 0 zp h3 y
 rw [List.drop_zero] at this
 exact this hy
end Go.Proofs.YtgdknepphkhnlaaGreatDoor.Z

namespace Go.Proofs.YtgdknepphkhnlaaGreatDoor.X
open Go.RowKit Go.Proofs.YtgdknepphkhnlaaGreatDoorW.PrintWords Go.Proofs.YtgdknepphkhnlaaGreatDoorW.PrintLast Go.Proofs.YtgdknepphkhnlaaGreatDoorW.PrintMore
attribute [local go_sem] max2_int min2_int max_two min_two max_three min_three max_four min_four
set_option linter.unusedVariables false
set_option linter.unusedSimpArgs false
def spec_VersionText.f (k : Nat) (a0_0 : Int) (a0_1 : Int) (a0_2 : Int) (a0_3 : ByteArray) : Option (ByteArray) := (spec_VersionOk.f k a0_0 a0_1 a0_2 a0_3).bind fun t298 => (if t298 = true then ((spec_l3Text.f k a0_0).bind fun t299 => (if 1 + t299.size ≤ 9223372036854775807 then (if ((⟨#[118]⟩ : ByteArray) ++ t299).size + 1 ≤ 9223372036854775807 then ((spec_l3Text.f k a0_1).bind fun t300 => (if (((⟨#[118]⟩ : ByteArray) ++ t299) ++ (⟨#[46]⟩ : ByteArray)).size + t300.size ≤ 9223372036854775807 then (if ((((⟨#[118]⟩ : ByteArray) ++ t299) ++ (⟨#[46]⟩ : ByteArray)) ++ t300).size + 1 ≤ 9223372036854775807 then ((spec_l3Text.f k a0_2).bind fun t301 => (if (((((⟨#[118]⟩ : ByteArray) ++ t299) ++ (⟨#[46]⟩ : ByteArray)) ++ t300) ++ (⟨#[46]⟩ : ByteArray)).size + t301.size ≤ 9223372036854775807 then (if a0_3.toList = ([] : List UInt8) then (some ((((((⟨#[118]⟩ : ByteArray) ++ t299) ++ (⟨#[46]⟩ : ByteArray)) ++ t300) ++ (⟨#[46]⟩ : ByteArray)) ++ t301)) else (if ((((((⟨#[118]⟩ : ByteArray) ++ t299) ++ (⟨#[46]⟩ : ByteArray)) ++ t300) ++ (⟨#[46]⟩ : ByteArray)) ++ t301).size + 1 ≤ 9223372036854775807 then (if (((((((⟨#[118]⟩ : ByteArray) ++ t299) ++ (⟨#[46]⟩ : ByteArray)) ++ t300) ++ (⟨#[46]⟩ : ByteArray)) ++ t301) ++ (⟨#[45]⟩ : ByteArray)).size + a0_3.size ≤ 9223372036854775807 then (some ((((((((⟨#[118]⟩ : ByteArray) ++ t299) ++ (⟨#[46]⟩ : ByteArray)) ++ t300) ++ (⟨#[46]⟩ : ByteArray)) ++ t301) ++ (⟨#[45]⟩ : ByteArray)) ++ a0_3)) else (none)) else (none))) else (none))) else (none)) else (none))) else (none)) else (none))) else (some (⟨#[]⟩ : ByteArray)))
end Go.Proofs.YtgdknepphkhnlaaGreatDoor.X

/- A version's text, the program's and the reference's: the same. Plain lemmas. -/
set_option linter.unusedVariables false
namespace Go.Proofs.YtgdknepphkhnlaaGreatDoor.Z
open Go.RowKit Go.Proofs.YtgdknepphkhnlaaGreatDoorW.PrintWords Go.Proofs.YtgdknepphkhnlaaGreatDoorW.PrintMore Go.Proofs.YtgdknepphkhnlaaGreatDoor.X Go.Proofs.YtgdknepphkhnlaaGreatDoor.Sp
def dB (a : Int) : ByteArray := ⟨(Lib.decDigits a.toNat).toArray⟩
theorem nd7 : ∀ n : Nat, n < 10000000 → Lib.nDigits n ≤ 7 := by
 intro n h
 have s : ∀ (m d : Nat), Lib.nDigits (m / 10) ≤ d → Lib.nDigits m ≤ d + 1 := by
  intro m d hm
  rw [Lib.nDigits]
  split <;> omega
 have b : Lib.nDigits (n / 10 / 10 / 10 / 10 / 10 / 10) ≤ 1 := by
  rw [Lib.nDigits, dif_pos zp]
  exact Nat.le_refl _
 exact s _ _ (s _ _ (s _ _ (s _ _ (s _ _ (s _ _ b)))))
theorem dB_size (a : Int) (h : a ≤ 1000000) : (dB a).size ≤ 7 := by
 show (Lib.decDigits a.toNat).toArray.size ≤ 7
 rw [List.size_toArray, Lib.decDigits_length]
 exact nd7 _ zp
def verT (a b c : Int) (p : ByteArray) : ByteArray :=
 if p.size = 0 then ((((((⟨#[118]⟩ : ByteArray) ++ dB a) ++ (⟨#[46]⟩ : ByteArray)) ++ dB b) ++ (⟨#[46]⟩ : ByteArray)) ++ dB c) else ((((((⟨#[118]⟩ : ByteArray) ++ dB a) ++ (⟨#[46]⟩ : ByteArray)) ++ dB b) ++ (⟨#[46]⟩ : ByteArray)) ++ dB c) ++ ((⟨#[45]⟩ : ByteArray) ++ p)
def verText (a b c : Int) (p : ByteArray) : ByteArray := if verOk a b c p = true then verT a b c p else ⟨#[]⟩
theorem verOk_in {a b c : Int} {p : ByteArray} (h : verOk a b c p = true) : (0 ≤ a ∧ a ≤ 1000000) ∧ (0 ≤ b ∧ b ≤ 1000000) ∧ (0 ≤ c ∧ c ≤ 1000000) := by
 unfold verOk in6 at h
 simp only [Bool.and_eq_true, decide_eq_true_eq] at h
 exact ⟨h.1, h.2.1, h.2.2.1⟩
theorem itoa_dB (a : Int) (h : 0 ≤ a ∧ a ≤ 1000000) : strconv_Itoa.f a = some (dB a) := by
 unfold strconv_Itoa.f dB Lib.itoa
 rw [if_pos zp, if_neg zp]
theorem text_dB (a : Int) (h : 0 ≤ a ∧ a ≤ 1000000) : Ev (fun k => spec_l3Text.f k a) (dB a) := by
 have := text_ev a.toNat zp
 rw [show ((a.toNat : Nat) : Int) = a by omega] at this
 exact this
theorem verText_both (a b c : Int) (p : ByteArray) (hp : p.size ≤ 1048576) : Ev (fun k => impl_VersionText.f k a b c p) (verText a b c p) ∧ Ev (fun k => spec_VersionText.f k a b c p) (verText a b c p) := by
 obtain ⟨hI, hS⟩ := verOk_both a b c p hp
 unfold verText
 cases hv : verOk a b c p with
 | false =>
  rw [hv] at hI hS
  refine ⟨?_, ?_⟩
  ·unfold impl_VersionText.f
   exact evB hI (evF Bool.false_ne_true (evR rfl))
  ·unfold spec_VersionText.f
   exact evB hS (evF Bool.false_ne_true (evR rfl))
 | true =>
  rw [hv] at hI hS
  obtain ⟨ra, rb, rc⟩ := verOk_in hv
  have za := dB_size a ra.2
  have zb := dB_size b rb.2
  have zc := dB_size c rc.2
  have ia := itoa_dB a ra
  have ib := itoa_dB b rb
  have ic := itoa_dB c rc
  have ta := text_dB a ra
  have tb := text_dB b rb
  have tc := text_dB c rc
  unfold verT
  generalize dB a = x at *
  generalize dB b = y at *
  generalize dB c = z at *
  have s1 : ((⟨#[118]⟩ : ByteArray) ++ x).size = 1 + x.size := ByteArray.size_append
  have s2 : (((⟨#[118]⟩ : ByteArray) ++ x) ++ (⟨#[46]⟩ : ByteArray)).size = 1 + x.size + 1 := by rw [ByteArray.size_append, s1]; rfl
  have s3 : ((((⟨#[118]⟩ : ByteArray) ++ x) ++ (⟨#[46]⟩ : ByteArray)) ++ y).size = 1 + x.size + 1 + y.size := by rw [ByteArray.size_append, s2]
  have s4 : (((((⟨#[118]⟩ : ByteArray) ++ x) ++ (⟨#[46]⟩ : ByteArray)) ++ y) ++ (⟨#[46]⟩ : ByteArray)).size = 1 + x.size + 1 + y.size + 1 := by rw [ByteArray.size_append, s3]; rfl
  have s5 : ((((((⟨#[118]⟩ : ByteArray) ++ x) ++ (⟨#[46]⟩ : ByteArray)) ++ y) ++ (⟨#[46]⟩ : ByteArray)) ++ z).size = 1 + x.size + 1 + y.size + 1 + z.size := by rw [ByteArray.size_append, s4]
  have s6 : (((((((⟨#[118]⟩ : ByteArray) ++ x) ++ (⟨#[46]⟩ : ByteArray)) ++ y) ++ (⟨#[46]⟩ : ByteArray)) ++ z) ++ (⟨#[45]⟩ : ByteArray)).size = 1 + x.size + 1 + y.size + 1 + z.size + 1 := by rw [ByteArray.size_append, s5]; rfl
  have s7 : ((⟨#[45]⟩ : ByteArray) ++ p).size = 1 + p.size := ByteArray.size_append
  refine ⟨?_, ?_⟩
  ·unfold impl_VersionText.f
   refine evB hI (evT rfl (evC ia (evT zp (evT zp (evC ib (evT zp (evT zp (evC ic (evT zp ?_)))))))))
   rw [if_pos rfl]
   by_cases h : p.size = 0
   ·rw [if_pos h]
    exact evT ((nil_iff' p).2 h) (evR rfl)
   ·rw [if_neg h]
    exact evF (fun e => h ((nil_iff' p).1 e)) (evT zp (evT zp (evR rfl)))
  ·unfold spec_VersionText.f
   refine evB hS (evT rfl (evB ta (evT zp (evT zp (evB tb (evT zp (evT zp (evB tc (evT zp ?_)))))))))
   rw [if_pos rfl]
   by_cases h : p.size = 0
   ·rw [if_pos h]
    exact evT ((nil_iff' p).2 h) (evR rfl)
   ·rw [if_neg h]
    refine evF (fun e => h ((nil_iff' p).1 e)) (evT zp (evT zp (evR ?_)))
    exact ByteArray.append_assoc
theorem verText_size (a b c : Int) (p : ByteArray) : (verText a b c p).size ≤ 25 + p.size := by
 unfold verText
 cases hv : verOk a b c p with
 | false => rw [if_neg Bool.false_ne_true]; show 0 ≤ _; omega
 | true =>
  obtain ⟨ra, rb, rc⟩ := verOk_in hv
  have za := dB_size a ra.2
  have zb := dB_size b rb.2
  have zc := dB_size c rc.2
  rw [if_pos rfl]
  have e1 : (⟨#[118]⟩ : ByteArray).size = 1 := rfl
  have e2 : (⟨#[46]⟩ : ByteArray).size = 1 := rfl
  have e3 : (⟨#[45]⟩ : ByteArray).size = 1 := rfl
  unfold verT
  split <;> simp only [ByteArray.size_append, e1, e2, e3] <;> omega
end Go.Proofs.YtgdknepphkhnlaaGreatDoor.Z

namespace Go.Proofs.YtgdknepphkhnlaaGreatDoor.X
open Go.RowKit Go.Proofs.YtgdknepphkhnlaaGreatDoorW.PrintWords Go.Proofs.YtgdknepphkhnlaaGreatDoorW.PrintLast Go.Proofs.YtgdknepphkhnlaaGreatDoorW.PrintMore
attribute [local go_sem] max2_int min2_int max_two min_two max_three min_three max_four min_four
set_option linter.unusedVariables false
set_option linter.unusedSimpArgs false
def spec_EntryName.f (k : Nat) (a0 : ByteArray) (a1_0 : Int) (a1_1 : Int) (a1_2 : Int) (a1_3 : ByteArray) : Option (ByteArray) := (spec_Fits.f k a0 a1_0 a1_1 a1_2 a1_3).bind fun t303 => (if t303 = true then (if a0.size + 1 ≤ 9223372036854775807 then ((spec_VersionText.f k a1_0 a1_1 a1_2 a1_3).bind fun t304 => (if (a0 ++ (⟨#[64]⟩ : ByteArray)).size + t304.size ≤ 9223372036854775807 then (some ((a0 ++ (⟨#[64]⟩ : ByteArray)) ++ t304)) else (none))) else (none)) else (some (⟨#[]⟩ : ByteArray)))
end Go.Proofs.YtgdknepphkhnlaaGreatDoor.X

/- A name: the program's and the reference's are the same. Plain lemmas. -/
set_option linter.unusedVariables false
namespace Go.Proofs.YtgdknepphkhnlaaGreatDoor.Z
open Go.RowKit Go.Proofs.YtgdknepphkhnlaaGreatDoorW.PrintWords Go.Proofs.YtgdknepphkhnlaaGreatDoorW.PrintMore Go.Proofs.YtgdknepphkhnlaaGreatDoor.X Go.Proofs.YtgdknepphkhnlaaGreatDoor.Sp
def nameT (r : Bool) (s : ByteArray) (a b c : Int) (p : ByteArray) : ByteArray := if r = true then (s ++ (⟨#[64]⟩ : ByteArray)) ++ verText a b c p else ⟨#[]⟩
theorem name_both (s : ByteArray) (a b c : Int) (p : ByteArray) (r : Bool) (hs : s.size ≤ 1048576) (hp : p.size ≤ 1048576) (f1 : Ev (fun k => impl_Fits.f k s a b c p) r) (f2 : Ev (fun k => spec_Fits.f k s a b c p) r) :
  Ev (fun k => impl_EntryName.f k s a b c p) (nameT r s a b c p) ∧ Ev (fun k => spec_EntryName.f k s a b c p) (nameT r s a b c p) := by
 obtain ⟨t1, t2⟩ := verText_both a b c p hp
 have hz := verText_size a b c p
 have hz2 : (s ++ (⟨#[64]⟩ : ByteArray)).size = s.size + 1 := ByteArray.size_append
 unfold impl_EntryName.f spec_EntryName.f nameT
 cases r with
 | false => exact ⟨evB f1 (evF Bool.false_ne_true (evR rfl)), evB f2 (evF Bool.false_ne_true (evR rfl))⟩
 | true => exact ⟨evB f1 (evT rfl (evT zp (evB t1 (evT zp (evR rfl))))), evB f2 (evT rfl (evT zp (evB t2 (evT zp (evR rfl)))))⟩
end Go.Proofs.YtgdknepphkhnlaaGreatDoor.Z

namespace Go.Proofs.YtgdknepphkhnlaaGreatDoor.X
open Go.RowKit Go.Proofs.YtgdknepphkhnlaaGreatDoorW.PrintWords Go.Proofs.YtgdknepphkhnlaaGreatDoorW.PrintLast Go.Proofs.YtgdknepphkhnlaaGreatDoorW.PrintMore
attribute [local go_sem] max2_int min2_int max_two min_two max_three min_three max_four min_four
set_option linter.unusedVariables false
set_option linter.unusedSimpArgs false
def spec_PutEntry.l0 : Nat → List ByteArray → Int → ByteArray → Int → Int → Int → ByteArray → List (S35) → Option (ByteArray)
 | 0, _, _, _, _, _, _, _, _ => none
 | k + 1, x3, x4, x331000, x331001, x331002, x331003, x331004, x331005 => if x4 < (x331005.length : Int) then (if 0 ≤ x4 then ((spec_EntryName.f k ((rd_T35 x331005 x4).f0) ((rd_T35 x331005 x4).f1.f0) ((rd_T35 x331005 x4).f1.f1) ((rd_T35 x331005 x4).f1.f2) ((rd_T35 x331005 x4).f1.f3)).bind fun t337 => (if x3.length < 8796093022208 then (spec_PutEntry.l0 k (x3 ++ [t337]) (wrap64 (x4 + 1)) x331000 x331001 x331002 x331003 x331004 x331005) else (none))) else (none)) else ((spec_EntryName.f k x331000 x331001 x331002 x331003 x331004).bind fun t344 => ((spec_PutText.f k (([] : List Int)) t344).bind fun t345 => ((spec_PutTexts.f k t345 x3).bind fun t348 => (some (strOfNums t348)))))
def spec_PutEntry.f (k : Nat) (a0_0 : ByteArray) (a0_1 : Int) (a0_2 : Int) (a0_3 : Int) (a0_4 : ByteArray) (l0_5 : List (S35)) : Option (ByteArray) := (spec_EntryOk.f k a0_0 a0_1 a0_2 a0_3 a0_4 l0_5).bind fun t331 => (if t331 = true then (spec_PutEntry.l0 k (([] : List ByteArray)) 0 a0_0 a0_1 a0_2 a0_3 a0_4 l0_5) else (some (⟨#[]⟩ : ByteArray)))
end Go.Proofs.YtgdknepphkhnlaaGreatDoor.X

/- What PutEntry computes, the program's and the reference's: the same bytes. Plain lemmas. -/
set_option linter.unusedVariables false
namespace Go.Proofs.YtgdknepphkhnlaaGreatDoor.Z
open Go.RowKit Go.Proofs.YtgdknepphkhnlaaGreatDoorW.PrintWords Go.Proofs.YtgdknepphkhnlaaGreatDoorW.PrintMore Go.Proofs.YtgdknepphkhnlaaGreatDoor.X Go.Proofs.YtgdknepphkhnlaaGreatDoor.Sp
def nmN (y : S35) : ByteArray := nameT true y.f0 y.f1.f0 y.f1.f1 y.f1.f2 y.f1.f3
theorem nameT_size (s : ByteArray) (a b c : Int) (p : ByteArray) : (nameT true s a b c p).size ≤ s.size + 26 + p.size := by
 have hz := verText_size a b c p
 unfold nameT
 rw [if_pos rfl, ByteArray.size_append, ByteArray.size_append]
 have : (⟨#[64]⟩ : ByteArray).size = 1 := rfl
 omega
theorem nmN_small {y : S35} (h : smallN y) : (nmN y).size ≤ 2097178 := by
 have := nameT_size y.f0 y.f1.f0 y.f1.f1 y.f1.f2 y.f1.f3
 obtain ⟨h1, h2⟩ := h
 unfold nmN
 omega
theorem total_small (l : List S35) (hl : ∀ y ∈ l, smallN y) : total (l.map nmN) ≤ 2097178 * l.length := by
 induction l with
 | nil => simp [total_nil]
 | cons y l ih =>
  rw [List.map_cons, total_cons, List.length_cons]
  have := ih (fun z hz => hl z (List.mem_cons_of_mem _ hz))
  have := nmN_small (hl y List.mem_cons_self)
  omega
def encE (s : ByteArray) (a b c : Int) (p : ByteArray) (l : List S35) : List Int := encT (nameT true s a b c p) ++ (encN 4 (near ((l.map nmN).length : Int)) ++ encL (l.map nmN))
theorem putE_tail (s : ByteArray) (a b c : Int) (p : ByteArray) (l : List S35) (hs : s.size ≤ 1048576) (hp : p.size ≤ 1048576) (hn : l.length ≤ 8) (hl : ∀ y ∈ l, smallN y) :
  (nameT true s a b c p).size ≤ 2097178 ∧ (([] : List Int).length + (nameT true s a b c p).size < 140737488350000) ∧ ((encT (nameT true s a b c p)).length + total (l.map nmN) + 5 * (l.map nmN).length < 140737488340000) := by
 have h1 := nameT_size s a b c p
 have h2 := total_small l hl
 have h3 := encT_length (nameT true s a b c p)
 rw [List.length_map]
 refine ⟨zp, ?_, zp⟩
 show 0 + _ < _
 omega
theorem specPE_l0 (s : ByteArray) (a b c : Int) (p : ByteArray) (l : List S35) (hs : s.size ≤ 1048576) (hp : p.size ≤ 1048576) (hn : l.length ≤ 8) (hl : ∀ y ∈ l, smallN y) (hf : Ev (fun k => impl_Fits.f k s a b c p) true) (hf2 : Ev (fun k => spec_Fits.f k s a b c p) true) (hfl : ∀ y ∈ l, fitsN y) (d : Nat) :
  ∀ i : Nat, i + d = l.length → Ev (fun k => spec_PutEntry.l0 k ((l.take i).map nmN) (i : Int) s a b c p l) (strOfNums (encE s a b c p l)) := by
 obtain ⟨z0, z1, z2⟩ := putE_tail s a b c p l hs hp hn hl
 induction d with
 | zero =>
  intro i hi
  refine evS (fun k => by rw [spec_PutEntry.l0]) (evF zp ?_)
  rw [List.take_of_length_le zp]
  obtain ⟨_, n2⟩ := name_both s a b c p true hs hp hf hf2
  refine evB n2 (evB (specText_ev [] _ z1) ?_)
  rw [List.nil_append]
  exact evB (specTexts_ev _ _ z2) (evR rfl)
 | succ d ih =>
  intro i hi
  have il : i < l.length := by omega
  have hm := List.getElem_mem il
  obtain ⟨_, n2⟩ := name_both l[i].f0 l[i].f1.f0 l[i].f1.f1 l[i].f1.f2 l[i].f1.f3 true (hl _ hm).1 (hl _ hm).2 (hfl _ hm).1 (hfl _ hm).2
  have ht : ((l.take i).map nmN).length = i := by rw [List.length_map, List.length_take]; omega
  refine evS (fun k => by rw [spec_PutEntry.l0]) ?_
  rw [rdN il, w64s il zp]
  refine evT zp (evT zp (evB n2 (evT zp ?_)))
  have := ih (i + 1) zp
  rw [List.take_succ_eq_append_getElem il, List.map_append] at this
  exact this
theorem implPE_l0 (s : ByteArray) (a b c : Int) (p : ByteArray) (l : List S35) (hs : s.size ≤ 1048576) (hp : p.size ≤ 1048576) (hn : l.length ≤ 8) (hl : ∀ y ∈ l, smallN y) (hf : Ev (fun k => impl_Fits.f k s a b c p) true) (hf2 : Ev (fun k => spec_Fits.f k s a b c p) true) (hfl : ∀ y ∈ l, fitsN y) (d : Nat) :
  ∀ i : Nat, i + d = l.length → Ev (fun k => impl_PutEntry.l0 k ((l.take i).map nmN) l (l.length : Int) (i : Int) s a b c p l) (strOfNums (encE s a b c p l)) := by
 obtain ⟨z0, z1, z2⟩ := putE_tail s a b c p l hs hp hn hl
 induction d with
 | zero =>
  intro i hi
  refine evS (fun k => by rw [impl_PutEntry.l0]) (evF zp ?_)
  rw [List.take_of_length_le zp]
  obtain ⟨n1, _⟩ := name_both s a b c p true hs hp hf hf2
  refine evB n1 (evB (implputText_ev [] _ z1) ?_)
  rw [List.nil_append]
  exact evB (implputTexts_ev _ _ z2) (evR rfl)
 | succ d ih =>
  intro i hi
  have il : i < l.length := by omega
  have hm := List.getElem_mem il
  obtain ⟨n1, _⟩ := name_both l[i].f0 l[i].f1.f0 l[i].f1.f1 l[i].f1.f2 l[i].f1.f3 true (hl _ hm).1 (hl _ hm).2 (hfl _ hm).1 (hfl _ hm).2
  have ht : ((l.take i).map nmN).length = i := by rw [List.length_map, List.length_take]; omega
  have n0 : Ev (fun k => impl_nameOf.f k l[i].f0 l[i].f1.f0 l[i].f1.f1 l[i].f1.f2 l[i].f1.f3) (nmN l[i]) := by
   unfold impl_nameOf.f
   exact evB n1 (evR rfl)
  refine evS (fun k => by rw [impl_PutEntry.l0]) ?_
  rw [rdN il, w64s il zp]
  refine evT zp (evT zp (evT zp (evB n0 (evT zp ?_))))
  have := ih (i + 1) zp
  rw [List.take_succ_eq_append_getElem il, List.map_append] at this
  exact this
theorem putE_both (s : ByteArray) (a b c : Int) (p : ByteArray) (l : List S35) (hs : s.size ≤ 1048576) (hp : p.size ≤ 1048576) (hn : l.length ≤ 1048576) (hl : ∀ y ∈ l, smallN y) : ∃ r : Bool,
  Ev (fun k => impl_EntryOk.f k s a b c p l) r ∧ Ev (fun k => spec_EntryOk.f k s a b c p l) r ∧
  Ev (fun k => impl_PutEntry.f k s a b c p l) (if r = true then strOfNums (encE s a b c p l) else (⟨#[]⟩ : ByteArray)) ∧ Ev (fun k => spec_PutEntry.f k s a b c p l) (if r = true then strOfNums (encE s a b c p l) else (⟨#[]⟩ : ByteArray)) := by
 obtain ⟨r, q1, q2⟩ := entryOk_both s a b c p l hs hp hn hl
 refine ⟨r, q1, q2, ?_, ?_⟩
 ·unfold impl_PutEntry.f
  refine evB q1 ?_
  cases r with
  | false => exact evF Bool.false_ne_true (evR rfl)
  | true =>
   obtain ⟨f1, f2, _, f4⟩ := entry_true s a b c p l hs hp hn hl q2
   obtain ⟨r0, g1, g2, _⟩ := fits_both s a b c p hs hp
   have := ev_one g1 f1
   subst this
   exact evT rfl (implPE_l0 s a b c p l hs hp f2 hl g1 g2 f4 l.length 0 zp)
 ·unfold spec_PutEntry.f
  refine evB q2 ?_
  cases r with
  | false => exact evF Bool.false_ne_true (evR rfl)
  | true =>
   obtain ⟨f1, f2, _, f4⟩ := entry_true s a b c p l hs hp hn hl q2
   obtain ⟨r0, g1, g2, _⟩ := fits_both s a b c p hs hp
   have := ev_one g1 f1
   subst this
   exact evT rfl (specPE_l0 s a b c p l hs hp f2 hl g1 g2 f4 l.length 0 zp)
end Go.Proofs.YtgdknepphkhnlaaGreatDoor.Z

namespace Go.Proofs.YtgdknepphkhnlaaGreatDoor.X
open Go.RowKit Go.Proofs.YtgdknepphkhnlaaGreatDoorW.PrintWords Go.Proofs.YtgdknepphkhnlaaGreatDoorW.PrintLast Go.Proofs.YtgdknepphkhnlaaGreatDoorW.PrintMore
attribute [local go_sem] max2_int min2_int max_two min_two max_three min_three max_four min_four
set_option linter.unusedVariables false
set_option linter.unusedSimpArgs false
def spec_ParseVersion.n3 (k : Nat) (s p : ByteArray) (x y z : Int) : Option (Int × Int × Int × ByteArray × Bool) := (spec_VersionOk.f k x y z p).bind fun b => (if b = true then ((spec_VersionText.f k x y z p).bind fun t => (if t.toList = s.toList then (some (x, y, z, p, true)) else (some (0, 0, 0, (⟨#[]⟩ : ByteArray), false)))) else (some (0, 0, 0, (⟨#[]⟩ : ByteArray), false)))
def spec_ParseVersion.n2 (k : Nat) (s t p : ByteArray) : Option (Int × Int × Int × ByteArray × Bool) := (spec_l3Split.f k t 46).bind fun l => (if l.length = 3 then ((spec_l3Number.f k (rdOf ByteArray.empty l 0)).bind fun x => ((spec_l3Number.f k (rdOf ByteArray.empty l 1)).bind fun y => ((spec_l3Number.f k (rdOf ByteArray.empty l 2)).bind fun z => (spec_ParseVersion.n3 k s p x y z)))) else (some (0, 0, 0, (⟨#[]⟩ : ByteArray), false)))
def spec_ParseVersion.l0 : Nat → ByteArray → ByteArray → Int → Option (Int × Int × Int × ByteArray × Bool)
 | 0, _, _, _ => none
 | k + 1, s, t, i => if i < (t.size : Int) then (if 0 ≤ i then (if (bt t i) = 45 then (if 0 ≤ (wrap64 (i + 1)) then (if (wrap64 (i + 1)) ≤ (t.size : Int) then (spec_ParseVersion.n2 k s (t.extract 0 i.toNat) (t.extract (wrap64 (i + 1)).toNat t.size)) else (none)) else (none)) else (spec_ParseVersion.l0 k s t (wrap64 (i + 1)))) else (none)) else (spec_ParseVersion.n2 k s t (⟨#[]⟩ : ByteArray))
def spec_ParseVersion.f (k : Nat) (s : ByteArray) : Option (Int × Int × Int × ByteArray × Bool) := if s.toList = ([] : List UInt8) then (some (0, 0, 0, (⟨#[]⟩ : ByteArray), false)) else (if 0 < (s.size : Int) then (if (bt s 0) = 118 then (if 1 ≤ (s.size : Int) then (spec_ParseVersion.l0 k s (s.extract 1 s.size) 0) else (none)) else (some (0, 0, 0, (⟨#[]⟩ : ByteArray), false))) else (none))
end Go.Proofs.YtgdknepphkhnlaaGreatDoor.X

/- What a text is read as, the program's way and the reference's: the same version. Plain lemmas. -/
set_option linter.unusedVariables false
namespace Go.Proofs.YtgdknepphkhnlaaGreatDoor.Z
open Go.RowKit Go.Proofs.YtgdknepphkhnlaaGreatDoorW.PrintWords Go.Proofs.YtgdknepphkhnlaaGreatDoorW.PrintMore Go.Proofs.YtgdknepphkhnlaaGreatDoor.X Go.Proofs.YtgdknepphkhnlaaGreatDoor.Sp
def cutL (c : UInt8) : List UInt8 → List UInt8 × List UInt8
 | [] => ([], [])
 | b :: l => if b = c then ([], l) else (b :: (cutL c l).1, (cutL c l).2)
theorem ix_cases (c : UInt8) : ∀ l : List UInt8, Lib.indexByte l c = -1 ∧ cutL c l = (l, []) ∨ ∃ n : Nat, Lib.indexByte l c = (n : Int) ∧ cutL c l = (l.take n, l.drop (n + 1))
 | [] => .inl ⟨rfl, rfl⟩
 | b :: l => by
  unfold cutL Lib.indexByte
  by_cases h : b = c
  ·rw [if_pos h, if_pos (beq_iff_eq.2 h)]
   exact .inr ⟨0, rfl, rfl⟩
  ·rw [if_neg h, if_neg (fun e => h (beq_iff_eq.1 e))]
   rcases ix_cases c l with ⟨h1, h2⟩ | ⟨n, h1, h2⟩
   ·rw [h1, h2]
    exact .inl ⟨rfl, rfl⟩
   ·rw [h1, h2]
    refine .inr ⟨n + 1, ?_, rfl⟩
    rw [if_neg (fun e => by have := beq_iff_eq.1 e; omega)]
    rfl
theorem cut_cutL (c : UInt8) (l : List UInt8) : (Lib.cut l [c]).1 = (cutL c l).1 ∧ (Lib.cut l [c]).2.1 = (cutL c l).2 := by
 unfold Lib.cut
 rw [Lib.index_one]
 rcases ix_cases c l with ⟨h1, h2⟩ | ⟨n, h1, h2⟩
 ·rw [h1, h2, if_neg zp]
  exact ⟨rfl, rfl⟩
 ·rw [h1, h2, if_pos zp]
  exact ⟨rfl, rfl⟩
theorem cutL_len (c : UInt8) : ∀ l : List UInt8, (cutL c l).1.length ≤ l.length ∧ (cutL c l).2.length ≤ l.length
 | [] => ⟨Nat.le_refl _, Nat.le_refl _⟩
 | b :: l => by
  have ih := cutL_len c l
  unfold cutL
  split
  ·simp
  ·simp; omega
theorem cut_ev (s : ByteArray) (c : UInt8) (hs : s.size ≤ 1048576) : ∃ b, strings_Cut.f s ⟨#[c]⟩ = some (toB (cutL c s.data.toList).1, toB (cutL c s.data.toList).2, b) := by
 unfold strings_Cut.f
 rw [if_pos ⟨zp, rfl⟩]
 have h := cut_cutL c s.data.toList
 refine ⟨(Lib.cut s.data.toList [c]).2.2, ?_⟩
 show some (cutB_ c s) = _
 unfold cutB_ toB
 rw [h.1, h.2]
theorem toB_self (s : ByteArray) : toB s.data.toList = s := by
 unfold toB
 cases s
 simp
def nilB : ByteArray := ⟨#[]⟩
def noV : Int × Int × Int × ByteArray × Bool := (0, 0, 0, ⟨#[]⟩, false)
def offV (s : ByteArray) : ByteArray := if s.data.toList.head? = some 118 then toB (s.data.toList.drop 1) else s
theorem head_bt (s : ByteArray) (c : UInt8) (h : 0 < s.size) : s.data.toList.head? = some c ↔ bt s 0 = (c.toNat : Int) := by
 have hb : bt s 0 = _ := byte_at s 0 h
 have hl := data_length s
 cases hx : s.data.toList with
 | nil => rw [hx] at hl; simp at hl; omega
 | cons a m =>
  simp only [hx, List.getElem_cons_zero] at hb
  rw [hb, List.head?_cons]
  constructor
  ·intro e
   rw [Option.some.inj e]
  ·intro e
   rw [UInt8.toNat_inj.1 (show a.toNat = c.toNat by omega)]
theorem trim_ev (s : ByteArray) (hs : s.size ≤ 1048576) : strings_TrimPrefix.f s ⟨#[118]⟩ = some (offV s) := by
 unfold strings_TrimPrefix.f stringslite_TrimPrefix.f stringslite_HasPrefix.f offV
 have e1 : ((⟨#[118]⟩ : ByteArray).size : Int) = 1 := rfl
 have hl := data_length s
 rw [e1]
 by_cases h : (s.size : Int) ≥ 1
 ·rw [if_pos h, if_pos zp, if_pos zp]
  simp only [Option.bind_some]
  have e2 : (s.extract 0 (1 : Int).toNat).toList = s.data.toList.take 1 := by
   rw [tl, show (1 : Int).toNat = 1 from rfl, ext_list]
   simp
  have e3 : (⟨#[118]⟩ : ByteArray).toList = [118] := by rw [tl]
  rw [e2, e3]
  cases hx : s.data.toList with
  | nil => rw [hx] at hl; simp at hl; omega
  | cons a m =>
   by_cases ha : a = 118
   ·subst ha
    rw [if_pos (by simp), if_pos zp, if_pos zp, if_pos (show (118 :: m : List UInt8).head? = some 118 from rfl)]
    simp only [Option.bind_some]
    rw [show (1 : Int).toNat = 1 from rfl, ext_end, hx]
   ·rw [if_neg (by simp [ha]), if_neg (by simp [ha])]
    rfl
 ·rw [if_neg h]
  simp only [Option.bind_some]
  have h0 : s.data.toList = [] := List.eq_nil_of_length_eq_zero zp
  rw [h0, if_neg (by simp), if_neg (by simp)]
  rfl
def at3 (l : List ByteArray) (i : Int) : ByteArray := rdOf ByteArray.empty l i
def good7 (x : ByteArray) : Prop := num x = true ∧ (x.size : Int) ≤ 7
instance (x : ByteArray) : Decidable (good7 x) := by unfold good7; exact inferInstance
def valI (x : ByteArray) : Int := ((val x.data.toList : Nat) : Int)
def numsOf (t : ByteArray) : List ByteArray := pieces 46 (toB (cutL 45 t.data.toList).1)
def preOf (t : ByteArray) : ByteArray := toB (cutL 45 t.data.toList).2
def readI (s : ByteArray) : Int × Int × Int × ByteArray × Bool :=
 if (numsOf (offV s)).length = 3 ∧ good7 (at3 (numsOf (offV s)) 0) ∧ good7 (at3 (numsOf (offV s)) 1) ∧ good7 (at3 (numsOf (offV s)) 2) ∧
   verText (valI (at3 (numsOf (offV s)) 0)) (valI (at3 (numsOf (offV s)) 1)) (valI (at3 (numsOf (offV s)) 2)) (preOf (offV s)) = s then
  (valI (at3 (numsOf (offV s)) 0), valI (at3 (numsOf (offV s)) 1), valI (at3 (numsOf (offV s)) 2), preOf (offV s), true) else noV
def readS (s : ByteArray) : Int × Int × Int × ByteArray × Bool :=
 if s.data.toList.head? = some 118 ∧ (numsOf (offV s)).length = 3 ∧ verOk (numS (at3 (numsOf (offV s)) 0)) (numS (at3 (numsOf (offV s)) 1)) (numS (at3 (numsOf (offV s)) 2)) (preOf (offV s)) = true ∧
   verText (numS (at3 (numsOf (offV s)) 0)) (numS (at3 (numsOf (offV s)) 1)) (numS (at3 (numsOf (offV s)) 2)) (preOf (offV s)) = s then
  (numS (at3 (numsOf (offV s)) 0), numS (at3 (numsOf (offV s)) 1), numS (at3 (numsOf (offV s)) 2), preOf (offV s), true) else noV
theorem pow7 {n : Nat} (h : 7 ≤ n) : 10000000 ≤ 10 ^ n := Nat.le_trans zt (Nat.pow_le_pow_right (show 0 < 10 by decide) h)
theorem good_numS {x : ByteArray} (h : good7 x) : numS x = valI x := by
 unfold valI
 refine numS_val ?_
 unfold short
 have := h.2
 rw [h.1, decide_eq_true zp]
 rfl
theorem numS_good {x : ByteArray} (h : in6 (numS x) = true) : good7 x := by
 unfold in6 at h
 have h1 := of_decide_eq_true h
 have hsh := (numS_pos x).1 h1.1
 have hv := numS_val hsh
 rw [hv] at h1
 have hn : num x = true := by unfold short at hsh; simp only [Bool.and_eq_true] at hsh; exact hsh.1
 refine ⟨hn, ?_⟩
 rcases Nat.lt_or_ge 7 x.size with h5 | h5
 ·have hle := short_lead hsh zp
  have h10 := pow7 (n := x.size - 1) zp
  generalize val x.data.toList = v at *
  generalize 10 ^ (x.size - 1) = p at *
  omega
 ·omega
theorem verText_nil {a b c : Int} {p : ByteArray} (h : verOk a b c p = false) : verText a b c p = nilB := by
 unfold verText
 rw [h, if_neg Bool.false_ne_true]
 rfl
theorem verText_v {a b c : Int} {p : ByteArray} (h : verOk a b c p = true) : (verText a b c p).data.toList.head? = some 118 := by
 unfold verText verT
 rw [if_pos h]
 have e : (⟨#[118]⟩ : ByteArray).data.toList = [118] := rfl
 split
 ·simp [ByteArray.data_append]
 ·simp [ByteArray.data_append]
theorem nums_nil : (numsOf (offV nilB)).length = 1 := rfl
theorem read_same (s : ByteArray) : readI s = readS s := by
 unfold readI readS
 by_cases h3 : (numsOf (offV s)).length = 3
 ·by_cases hT : good7 (at3 (numsOf (offV s)) 0) ∧ good7 (at3 (numsOf (offV s)) 1) ∧ good7 (at3 (numsOf (offV s)) 2) ∧
   verText (valI (at3 (numsOf (offV s)) 0)) (valI (at3 (numsOf (offV s)) 1)) (valI (at3 (numsOf (offV s)) 2)) (preOf (offV s)) = s
  ·obtain ⟨g0, g1, g2, ht⟩ := hT
   rw [if_pos ⟨h3, g0, g1, g2, ht⟩, good_numS g0, good_numS g1, good_numS g2]
   have hv : verOk (valI (at3 (numsOf (offV s)) 0)) (valI (at3 (numsOf (offV s)) 1)) (valI (at3 (numsOf (offV s)) 2)) (preOf (offV s)) = true := by
    cases hv : verOk (valI (at3 (numsOf (offV s)) 0)) (valI (at3 (numsOf (offV s)) 1)) (valI (at3 (numsOf (offV s)) 2)) (preOf (offV s)) with
    | true => rfl
    | false =>
     rw [verText_nil hv] at ht
     rw [← ht, nums_nil] at h3
     omega
   rw [if_pos ⟨ht ▸ verText_v hv, h3, hv, ht⟩]
  ·rw [if_neg (fun e => hT e.2), if_neg]
   rintro ⟨_, _, hv, ht⟩
   have hin : in6 (numS (at3 (numsOf (offV s)) 0)) = true ∧ in6 (numS (at3 (numsOf (offV s)) 1)) = true ∧ in6 (numS (at3 (numsOf (offV s)) 2)) = true := by
    unfold verOk at hv
    simp only [Bool.and_eq_true] at hv
    exact ⟨hv.1, hv.2.1, hv.2.2.1⟩
   have g0 := numS_good hin.1
   have g1 := numS_good hin.2.1
   have g2 := numS_good hin.2.2
   rw [good_numS g0, good_numS g1, good_numS g2] at ht
   exact hT ⟨g0, g1, g2, ht⟩
 ·rw [if_neg (fun e => h3 e.1), if_neg (fun e => h3 e.2.1)]
theorem offV_size (s : ByteArray) : (offV s).size ≤ s.size := by
 unfold offV
 split
 ·rw [toB_size, List.length_drop, data_length]
  omega
 ·exact Nat.le_refl _
theorem pre_size (t : ByteArray) : (preOf t).size ≤ t.size := by
 unfold preOf
 rw [toB_size]
 have := (cutL_len 45 t.data.toList).2
 rw [data_length] at this
 exact this
theorem num_size (t : ByteArray) : (toB (cutL 45 t.data.toList).1).size ≤ t.size := by
 rw [toB_size]
 have := (cutL_len 45 t.data.toList).1
 rw [data_length] at this
 exact this
theorem at3_size (t : ByteArray) (i : Nat) (h : i < (numsOf t).length) : (at3 (numsOf t) (i : Int)).size ≤ t.size := by
 have hm : at3 (numsOf t) (i : Int) ∈ numsOf t := by
  have := rdOf_get (d := ByteArray.empty) h
  rw [List.getElem?_eq_getElem h] at this
  unfold at3
  rw [← Option.some.inj this]
  exact List.getElem_mem h
 exact Nat.le_trans (pieces_mem 46 _ _ hm) (num_size t)
theorem tl_eq {a b : ByteArray} : (a.toList = b.toList) = (a = b) := propext tl_inj
theorem numOf7 (t : ByteArray) (ht : t.size ≤ 1048576) : Ev (fun k => impl_numberOf.f k t 7) (if good7 t then (valI t, true) else (0, false)) := by
 refine evE ?_ (numberOf_ev t ht 7 zp)
 by_cases h : good7 t
 ·rw [if_pos h]
  exact if_pos h
 ·rw [if_neg h]
  exact if_neg h
theorem impl_n3 (s p : ByteArray) (a b c : Int) (hp : p.size ≤ 1048576) : Ev (fun k => impl_ParseVersion.n3 k s p a b c) (if verText a b c p = s then (a, b, c, p, true) else noV) := by
 unfold impl_ParseVersion.n3
 refine evB (verText_both a b c p hp).1 ?_
 simp only [tl_eq]
 by_cases h : verText a b c p = s
 ·exact evT h (evR (by rw [if_pos h]))
 ·exact evF h (evR (by rw [if_neg h]; rfl))
theorem impl_read (s : ByteArray) (hs : s.size ≤ 1048576) : Ev (fun k => impl_ParseVersion.f k s) (readI s) := by
 have ho := offV_size s
 have hn := num_size (offV s)
 have hp := pre_size (offV s)
 obtain ⟨bb, hc⟩ := cut_ev (offV s) 45 zp
 unfold impl_ParseVersion.f readI
 refine evC (trim_ev s hs) (evC hc ?_)
 have hsp : strings_Split.f (toB (cutL 45 (offV s).data.toList).1) (⟨#[46]⟩ : ByteArray) = some (numsOf (offV s)) := by
  unfold strings_Split.f
  rw [if_pos ⟨zp, rfl⟩]
  rfl
 refine evC hsp ?_
 by_cases h3 : (numsOf (offV s)).length = 3
 ·refine evT h3 ?_
  have z0 := at3_size (offV s) 0 zp
  have z1 := at3_size (offV s) 1 zp
  have z2 := at3_size (offV s) 2 zp
  have f0 := numOf7 _ (Nat.le_trans z0 zp)
  have f1 := numOf7 _ (Nat.le_trans z1 zp)
  have f2 := numOf7 _ (Nat.le_trans z2 zp)
  show Ev (fun k => impl_ParseVersion.n0 k s (preOf (offV s)) (at3 (numsOf (offV s)) ((0 : Nat) : Int)) (at3 (numsOf (offV s)) ((1 : Nat) : Int)) (at3 (numsOf (offV s)) ((2 : Nat) : Int))) _
  unfold impl_ParseVersion.n0
  refine evB f0 ?_
  by_cases g0 : good7 (at3 (numsOf (offV s)) ((0 : Nat) : Int))
  ·rw [if_pos g0]
   refine evT rfl ?_
   unfold impl_ParseVersion.n1
   refine evB f1 ?_
   by_cases g1 : good7 (at3 (numsOf (offV s)) ((1 : Nat) : Int))
   ·rw [if_pos g1]
    refine evT rfl ?_
    unfold impl_ParseVersion.n2
    refine evB f2 ?_
    by_cases g2 : good7 (at3 (numsOf (offV s)) ((2 : Nat) : Int))
    ·rw [if_pos g2]
     refine evT rfl (evE ?_ (impl_n3 s (preOf (offV s)) _ _ _ zp))
     by_cases ht : verText (valI (at3 (numsOf (offV s)) 0)) (valI (at3 (numsOf (offV s)) 1)) (valI (at3 (numsOf (offV s)) 2)) (preOf (offV s)) = s
     ·exact (if_pos ht).trans (if_pos ⟨h3, g0, g1, g2, ht⟩).symm
     ·exact (if_neg ht).trans (if_neg (fun e => ht e.2.2.2.2)).symm
    ·rw [if_neg g2, if_neg (fun e => g2 e.2.2.2.1)]
     exact evF Bool.false_ne_true (evR rfl)
   ·rw [if_neg g1, if_neg (fun e => g1 e.2.2.1)]
    exact evF Bool.false_ne_true (evR rfl)
  ·rw [if_neg g0, if_neg (fun e => g0 e.2.1)]
   exact evF Bool.false_ne_true (evR rfl)
 ·rw [if_neg (fun e => h3 e.1)]
  exact evF h3 (evR rfl)
theorem spec_l0 (s t : ByteArray) (ht : t.size ≤ 1048576) (r : Int × Int × Int × ByteArray × Bool) (d : Nat) : ∀ i : Nat, i + d = t.size →
  Ev (fun k => spec_ParseVersion.n2 k s (toB (t.data.toList.take i ++ (cutL 45 (t.data.toList.drop i)).1)) (toB (cutL 45 (t.data.toList.drop i)).2)) r → Ev (fun k => spec_ParseVersion.l0 k s t (i : Int)) r := by
 induction d with
 | zero =>
  intro i hi H
  rw [List.drop_eq_nil_of_le (show t.data.toList.length ≤ i by rw [data_length]; omega), List.take_of_length_le (show t.data.toList.length ≤ i by rw [data_length]; omega)] at H
  rw [show t.data.toList ++ (cutL 45 []).1 = t.data.toList from List.append_nil _, toB_self] at H
  refine evS (fun k => by rw [spec_ParseVersion.l0]) ?_
  exact evF zp H
 | succ d ih =>
  intro i hi H
  have hl : i < t.data.toList.length := by rw [data_length]; omega
  have hb := byte_at t i zp
  rw [List.drop_eq_getElem_cons hl] at H
  refine evS (fun k => by rw [spec_ParseVersion.l0]) ?_
  rw [hb, w64s (show i < t.size by omega) zp]
  refine evT zp (evT zp ?_)
  by_cases hc : t.data.toList[i] = 45
  ·rw [hc] at H ⊢
   refine evT zt (evT zp (evT zp ?_))
   rw [show (((i + 1 : Nat) : Int)).toNat = i + 1 by omega, show ((i : Nat) : Int).toNat = i by omega, ext_end, ext_list, List.drop_zero, Nat.sub_zero]
   rw [cutL, if_pos rfl, List.append_nil] at H
   exact H
  ·refine evF (fun e => hc (UInt8.toNat_inj.1 (show _ = 45 by omega))) (ih (i + 1) zp ?_)
   rw [cutL, if_neg hc] at H
   rw [List.take_succ_eq_append_getElem hl, List.append_assoc]
   exact H
theorem spec_n3 (s p : ByteArray) (a b c : Int) (hp : p.size ≤ 1048576) : Ev (fun k => spec_ParseVersion.n3 k s p a b c) (if verOk a b c p = true ∧ verText a b c p = s then (a, b, c, p, true) else noV) := by
 unfold spec_ParseVersion.n3
 refine evB (verOk_both a b c p hp).2 ?_
 cases hv : verOk a b c p with
 | false => exact evF Bool.false_ne_true (evR (by simp [noV]))
 | true =>
  refine evT rfl (evB (verText_both a b c p hp).2 ?_)
  simp only [tl_eq]
  by_cases h : verText a b c p = s
  ·exact evT h (evR (by simp [h]))
  ·exact evF h (evR (by simp [h, noV]))
theorem spec_n2 (s t : ByteArray) (ht : t.size ≤ 1048576) : Ev (fun k => spec_ParseVersion.n2 k s (toB (cutL 45 t.data.toList).1) (preOf t))
  (if (numsOf t).length = 3 ∧ verOk (numS (at3 (numsOf t) 0)) (numS (at3 (numsOf t) 1)) (numS (at3 (numsOf t) 2)) (preOf t) = true ∧ verText (numS (at3 (numsOf t) 0)) (numS (at3 (numsOf t) 1)) (numS (at3 (numsOf t) 2)) (preOf t) = s then
   (numS (at3 (numsOf t) 0), numS (at3 (numsOf t) 1), numS (at3 (numsOf t) 2), preOf t, true) else noV) := by
 have hn := num_size t
 have hp := pre_size t
 unfold spec_ParseVersion.n2
 refine evB (a := numsOf t) (split_spec _ zp 46) ?_
 by_cases h3 : (numsOf t).length = 3
 ·have z0 := at3_size t 0 zp
  have z1 := at3_size t 1 zp
  have z2 := at3_size t 2 zp
  refine evT h3 (evB (numS_spec _ (Nat.le_trans z0 zp)) (evB (numS_spec _ (Nat.le_trans z1 zp)) (evB (numS_spec _ (Nat.le_trans z2 zp)) (evE ?_ (spec_n3 s (preOf t) _ _ _ zp)))))
  by_cases hh : verOk (numS (at3 (numsOf t) 0)) (numS (at3 (numsOf t) 1)) (numS (at3 (numsOf t) 2)) (preOf t) = true ∧ verText (numS (at3 (numsOf t) 0)) (numS (at3 (numsOf t) 1)) (numS (at3 (numsOf t) 2)) (preOf t) = s
  ·exact (if_pos hh).trans (if_pos ⟨h3, hh⟩).symm
  ·exact (if_neg hh).trans (if_neg (fun e => hh e.2)).symm
 ·rw [if_neg (fun e => h3 e.1)]
  exact evF h3 (evR rfl)
theorem spec_read (s : ByteArray) (hs : s.size ≤ 1048576) : Ev (fun k => spec_ParseVersion.f k s) (readS s) := by
 unfold spec_ParseVersion.f readS
 have hl := data_length s
 by_cases h0 : s.size = 0
 ·have hn : s.data.toList = [] := List.eq_nil_of_length_eq_zero zp
  refine evT ((nil_iff' s).2 h0) (evR ?_)
  rw [hn, if_neg (fun e => by simp at e)]
  rfl
 ·refine evF (fun e => h0 ((nil_iff' s).1 e)) (evT zp ?_)
  have hh := head_bt s 118 zp
  by_cases hv : bt s 0 = 118
  ·have hv' : s.data.toList.head? = some 118 := hh.2 hv
   have ho : offV s = toB (s.data.toList.drop 1) := by unfold offV; rw [if_pos hv']
   refine evT hv (evT zp ?_)
   rw [ext_end, ← ho]
   have hz := offV_size s
   refine spec_l0 s (offV s) zp _ (offV s).size 0 zp ?_
   rw [List.take_zero, List.nil_append, List.drop_zero]
   refine evE ?_ (spec_n2 s (offV s) zp)
   by_cases h3 : (numsOf (offV s)).length = 3 ∧ verOk (numS (at3 (numsOf (offV s)) 0)) (numS (at3 (numsOf (offV s)) 1)) (numS (at3 (numsOf (offV s)) 2)) (preOf (offV s)) = true ∧
     verText (numS (at3 (numsOf (offV s)) 0)) (numS (at3 (numsOf (offV s)) 1)) (numS (at3 (numsOf (offV s)) 2)) (preOf (offV s)) = s
   ·rw [if_pos h3, if_pos ⟨hv', h3⟩]
   ·rw [if_neg h3, if_neg (fun e => h3 e.2)]
  ·refine evF hv (evR ?_)
   rw [if_neg (fun e => hv (hh.1 e.1))]
   rfl
theorem read_both (s : ByteArray) (hs : s.size ≤ 1048576) : Ev (fun k => impl_ParseVersion.f k s) (readS s) ∧ Ev (fun k => spec_ParseVersion.f k s) (readS s) := ⟨read_same s ▸ impl_read s hs, spec_read s hs⟩
end Go.Proofs.YtgdknepphkhnlaaGreatDoor.Z

/- A right version comes back of its text; a text that is read as a version has that version's text. Plain lemmas. -/
set_option linter.unusedVariables false
namespace Go.Proofs.YtgdknepphkhnlaaGreatDoor.Z
open Go.RowKit Go.Proofs.YtgdknepphkhnlaaGreatDoorW.PrintWords Go.Proofs.YtgdknepphkhnlaaGreatDoorW.PrintMore Go.Proofs.YtgdknepphkhnlaaGreatDoor.X Go.Proofs.YtgdknepphkhnlaaGreatDoor.Sp
theorem dig_of (k : Nat) (h : k < 10) : isD (UInt8.ofNat (48 + k)) = true ∧ digit (UInt8.ofNat (48 + k)) = k := by
 have e : (UInt8.ofNat (48 + k)).toNat = 48 + k := by
  rw [UInt8.toNat_ofNat']
  omega
 refine ⟨(isD_iff _).2 zp, ?_⟩
 unfold digit
 omega
theorem dec_all (n : Nat) : (Lib.decDigits n).all isD = true ∧ val (Lib.decDigits n) = n ∧ Lib.decDigits n ≠ [] ∧ (10 ≤ n → lead (Lib.decDigits n)) ∧ (1 ≤ n → lead (Lib.decDigits n)) := by
 induction n using Nat.strongRecOn with
 | ind n ih =>
  rw [Lib.decDigits]
  by_cases h : n < 10
  ·rw [dif_pos h]
   obtain ⟨h1, h2⟩ := dig_of n h
   refine ⟨by rw [List.all_cons, h1]; rfl, ?_, by simp, fun e => by omega, fun e => ?_⟩
   ·rw [show ([UInt8.ofNat (48 + n)] : List UInt8) = [] ++ [UInt8.ofNat (48 + n)] from rfl, val_snoc, h2]
    show 0 * 10 + n = n
    omega
   ·unfold lead
    simp only [List.head?_cons, ne_eq, Option.some.injEq]
    intro e'
    rw [e'] at h2
    have : digit 48 = 0 := rfl
    omega
  ·rw [dif_neg h]
   obtain ⟨h1, h2, h3, h4, h5⟩ := ih (n / 10) zp
   obtain ⟨d1, d2⟩ := dig_of (n % 10) zp
   have hl : lead (Lib.decDigits (n / 10) ++ [UInt8.ofNat (48 + n % 10)]) := by
    have := h5 zp
    unfold lead at this ⊢
    cases hx : Lib.decDigits (n / 10) with
    | nil => exact absurd hx h3
    | cons x y => rw [hx] at this; exact this
   refine ⟨by rw [List.all_append, h1, List.all_cons, d1]; rfl, ?_, by simp, fun _ => hl, fun _ => hl⟩
   rw [val_snoc, h2, d2]
   omega
theorem numS_dB (a : Int) (h : 0 ≤ a ∧ a ≤ 1000000) : numS (dB a) = a := by
 obtain ⟨h1, h2, h3, _, h5⟩ := dec_all a.toNat
 have hz := dB_size a h.2
 have hd : (dB a).data.toList = Lib.decDigits a.toNat := by unfold dB; simp
 have hlen := data_length (dB a)
 have hne : (dB a).size ≠ 0 := by
  intro e
  rw [e] at hlen
  rw [hd] at hlen
  exact h3 (List.eq_nil_of_length_eq_zero hlen)
 have hf : figs (dB a) = true := by unfold figs; rw [hd, h1, decide_eq_true hne]; rfl
 have hn : num (dB a) = true := by
  unfold num
  rw [hf, Bool.true_and]
  by_cases h0 : a = 0
  ·subst h0
   have : (dB 0).data.toList = [48] := by rw [hd]; unfold Lib.decDigits; rfl
   rw [decide_eq_true this]
   rfl
  ·have hl := h5 zp
   have hb : bt (dB a) 0 ≠ 48 := by
    intro e
    have := (head_bt (dB a) 48 zp).2 e
    rw [hd] at this
    exact hl this
   rw [decide_eq_true hb, Bool.or_true]
 rw [numS_val (by unfold short; rw [hn, decide_eq_true (show (dB a).size ≤ 8 by omega)]; rfl), hd, h2]
 omega
theorem cutL_hit (c : UInt8) (l m : List UInt8) (h : ∀ u ∈ l, u ≠ c) : cutL c (l ++ c :: m) = (l, m) := by
 induction l with
 | nil => simp [cutL]
 | cons b l ih =>
  rw [List.cons_append, cutL, if_neg (h b List.mem_cons_self), ih (fun u hu => h u (List.mem_cons_of_mem _ hu))]
theorem cutL_miss (c : UInt8) (l : List UInt8) (h : ∀ u ∈ l, u ≠ c) : cutL c l = (l, []) := by
 induction l with
 | nil => rfl
 | cons b l ih => rw [cutL, if_neg (h b List.mem_cons_self), ih (fun u hu => h u (List.mem_cons_of_mem _ hu))]
theorem pcs_miss (c : UInt8) (l : List UInt8) (h : ∀ u ∈ l, u ≠ c) : pcs c l = [l] := by
 induction l with
 | nil => rfl
 | cons b l ih => rw [pcs, if_neg (h b List.mem_cons_self), ih (fun u hu => h u (List.mem_cons_of_mem _ hu))]; rfl
theorem pcs_hit (c : UInt8) (l m : List UInt8) (h : ∀ u ∈ l, u ≠ c) : pcs c (l ++ c :: m) = l :: pcs c m := by
 induction l with
 | nil => rw [List.nil_append, pcs, if_pos rfl]
 | cons b l ih => rw [List.cons_append, pcs, if_neg (h b List.mem_cons_self), ih (fun u hu => h u (List.mem_cons_of_mem _ hu))]; rfl
theorem dig_ne {l : List UInt8} (h : l.all isD = true) (c : UInt8) (hc : isD c = false) : ∀ u ∈ l, u ≠ c := by
 intro u hu e
 have := List.all_eq_true.1 h u hu
 rw [e, hc] at this
 cases this
def tailB (a b c : Int) (p : ByteArray) : List UInt8 :=
 Lib.decDigits a.toNat ++ 46 :: (Lib.decDigits b.toNat ++ 46 :: (Lib.decDigits c.toNat ++ (if p.size = 0 then [] else 45 :: p.data.toList)))
theorem verT_bytes (a b c : Int) (p : ByteArray) : (verT a b c p).data.toList = 118 :: tailB a b c p := by
 unfold verT tailB dB
 by_cases h : p.size = 0
 ·rw [if_pos h, if_pos h]
  simp [ByteArray.data_append]
 ·rw [if_neg h, if_neg h]
  simp [ByteArray.data_append]
theorem tail_cut (a b c : Int) (p : ByteArray) : cutL 45 (tailB a b c p) = (Lib.decDigits a.toNat ++ 46 :: (Lib.decDigits b.toNat ++ 46 :: Lib.decDigits c.toNat), p.data.toList) := by
 have ha := dig_ne (dec_all a.toNat).1 45 rfl
 have hb := dig_ne (dec_all b.toNat).1 45 rfl
 have hc := dig_ne (dec_all c.toNat).1 45 rfl
 have hl : ∀ u ∈ Lib.decDigits a.toNat ++ 46 :: (Lib.decDigits b.toNat ++ 46 :: Lib.decDigits c.toNat), u ≠ (45 : UInt8) := by
  intro u hu
  simp only [List.mem_append, List.mem_cons] at hu
  rcases hu with h | h | h | h | h
  ·exact ha u h
  ·rw [h]; decide
  ·exact hb u h
  ·rw [h]; decide
  ·exact hc u h
 unfold tailB
 by_cases h : p.size = 0
 ·have hn : p.data.toList = [] := List.eq_nil_of_length_eq_zero (by rw [data_length]; exact h)
  rw [if_pos h, List.append_nil, hn]
  exact cutL_miss 45 _ hl
 ·rw [if_neg h]
  have := cutL_hit 45 _ p.data.toList hl
  simpa using this
theorem read_back (a b c : Int) (p : ByteArray) (h : verOk a b c p = true) : readS (verText a b c p) = (a, b, c, p, true) := by
 obtain ⟨ra, rb, rc⟩ := verOk_in h
 have hv := verText_v h
 have ht : (verText a b c p).data.toList = 118 :: tailB a b c p := by
  unfold verText
  rw [if_pos h]
  exact verT_bytes a b c p
 have ho : offV (verText a b c p) = toB (tailB a b c p) := by
  unfold offV
  rw [if_pos hv, ht]
  rfl
 have hpre : preOf (toB (tailB a b c p)) = p := by
  unfold preOf
  rw [toB_data, tail_cut, toB_self]
 have hA := dig_ne (dec_all a.toNat).1 46 rfl
 have hB := dig_ne (dec_all b.toNat).1 46 rfl
 have hC := dig_ne (dec_all c.toNat).1 46 rfl
 have hnum : numsOf (toB (tailB a b c p)) = [dB a, dB b, dB c] := by
  unfold numsOf
  rw [toB_data, tail_cut, pieces_toB, toB_data, pcs_hit 46 _ _ hA, pcs_hit 46 _ _ hB, pcs_miss 46 _ hC]
  rfl
 unfold readS
 rw [ho, hpre, hnum]
 have e0 : numS (at3 [dB a, dB b, dB c] 0) = a := numS_dB a ra
 have e1 : numS (at3 [dB a, dB b, dB c] 1) = b := numS_dB b rb
 have e2 : numS (at3 [dB a, dB b, dB c] 2) = c := numS_dB c rc
 rw [e0, e1, e2, if_pos ⟨hv, rfl, h, rfl⟩]
end Go.Proofs.YtgdknepphkhnlaaGreatDoor.Z

/- No right version's text holds a '@'; texts cut at a byte, and their pieces. Plain lemmas. -/
set_option linter.unusedVariables false
namespace Go.Proofs.YtgdknepphkhnlaaGreatDoor.Z
open Go.RowKit Go.Proofs.YtgdknepphkhnlaaGreatDoorW.PrintWords Go.Proofs.YtgdknepphkhnlaaGreatDoorW.PrintMore Go.Proofs.YtgdknepphkhnlaaGreatDoor.X Go.Proofs.YtgdknepphkhnlaaGreatDoor.Sp
theorem pcs_has (c : UInt8) : ∀ (l : List UInt8) (u : UInt8), u ∈ l → u = c ∨ ∃ x ∈ pcs c l, u ∈ x
 | [], u, h => by cases h
 | b :: l, u, h => by
  have ih := pcs_has c l u
  rw [pcs]
  rcases List.mem_cons.1 h with rfl | h
  ·by_cases hb : u = c
   ·exact .inl hb
   ·rw [if_neg hb]
    cases hp : pcs c l with
    | nil => exact absurd hp (pcs_ne c l)
    | cons a t => exact .inr ⟨u :: a, by simp [onto], by simp⟩
  ·rcases ih h with e | ⟨x, hx, hu⟩
   ·exact .inl e
   ·right
    by_cases hb : b = c
    ·rw [if_pos hb]
     exact ⟨x, List.mem_cons_of_mem _ hx, hu⟩
    ·rw [if_neg hb]
     cases hp : pcs c l with
     | nil => exact absurd hp (pcs_ne c l)
     | cons a t =>
      rw [hp] at hx
      rcases List.mem_cons.1 hx with rfl | hx
      ·exact ⟨b :: x, by simp [onto], List.mem_cons_of_mem _ hu⟩
      ·exact ⟨x, by simp [onto, hx], hu⟩
end Go.Proofs.YtgdknepphkhnlaaGreatDoor.Z

namespace Go.Proofs.YtgdknepphkhnlaaGreatDoor.X
open Go.RowKit Go.Proofs.YtgdknepphkhnlaaGreatDoorW.PrintWords Go.Proofs.YtgdknepphkhnlaaGreatDoorW.PrintLast Go.Proofs.YtgdknepphkhnlaaGreatDoorW.PrintMore
attribute [local go_sem] max2_int min2_int max_two min_two max_three min_three max_four min_four
set_option linter.unusedVariables false
set_option linter.unusedSimpArgs false
def spec_ParseName.f (k : Nat) (a0 : ByteArray) : Option (ByteArray × Int × Int × Int × ByteArray × Bool) := (spec_l3Split.f k a0 64).bind fun t473 => (if (t473.length : Int) = 2 then (if 1 < (t473.length : Int) then ((spec_ParseVersion.f k (rdOf ByteArray.empty t473 1)).bind fun bt477 => (if bt477.2.2.2.2 = true then (if 0 < (t473.length : Int) then ((spec_Fits.f k (rdOf ByteArray.empty t473 0) bt477.1 bt477.2.1 bt477.2.2.1 bt477.2.2.2.1).bind fun t484 => (if t484 = true then (some (rdOf ByteArray.empty t473 0, bt477.1, bt477.2.1, bt477.2.2.1, bt477.2.2.2.1, true)) else (some ((⟨#[]⟩ : ByteArray), 0, 0, 0, (⟨#[]⟩ : ByteArray), false)))) else (none)) else (some ((⟨#[]⟩ : ByteArray), 0, 0, 0, (⟨#[]⟩ : ByteArray), false)))) else (none)) else (some ((⟨#[]⟩ : ByteArray), 0, 0, 0, (⟨#[]⟩ : ByteArray), false)))
end Go.Proofs.YtgdknepphkhnlaaGreatDoor.X

/- What a text is read as, a name: the program's way and the reference's. Plain lemmas. -/
set_option linter.unusedVariables false
namespace Go.Proofs.YtgdknepphkhnlaaGreatDoor.Z
open Go.RowKit Go.Proofs.YtgdknepphkhnlaaGreatDoorW.PrintWords Go.Proofs.YtgdknepphkhnlaaGreatDoorW.PrintMore Go.Proofs.YtgdknepphkhnlaaGreatDoor.X Go.Proofs.YtgdknepphkhnlaaGreatDoor.Sp
abbrev N6 := ByteArray × Int × Int × Int × ByteArray × Bool
theorem bytes_app (s t : ByteArray) : ((s ++ (⟨#[64]⟩ : ByteArray)) ++ t).data.toList = s.data.toList ++ 64 :: t.data.toList := by
 simp [ByteArray.data_append]
end Go.Proofs.YtgdknepphkhnlaaGreatDoor.Z

/- What GetNum takes is just what PutNum writes: the bytes of a number that is read are that number's. No Go, no memory. -/
set_option linter.unusedVariables false
namespace Go.Proofs.YtgdknepphkhnlaaGreatDoor.Z
open Go.RowKit Go.Proofs.YtgdknepphkhnlaaGreatDoorW.PrintWords Go.Proofs.YtgdknepphkhnlaaGreatDoorW.PrintMore Go.Proofs.YtgdknepphkhnlaaGreatDoor.X
end Go.Proofs.YtgdknepphkhnlaaGreatDoor.Z

namespace Go.Proofs.YtgdknepphkhnlaaGreatDoor.X
open Go.RowKit Go.Proofs.YtgdknepphkhnlaaGreatDoorW.PrintWords Go.Proofs.YtgdknepphkhnlaaGreatDoorW.PrintLast Go.Proofs.YtgdknepphkhnlaaGreatDoorW.PrintMore
attribute [local go_sem] max2_int min2_int max_two min_two max_three min_three max_four min_four
set_option linter.unusedVariables false
set_option linter.unusedSimpArgs false
def spec_GetText.f (k : Nat) (l0 : List Int) (a1 : Int) : Option (ByteArray × Int × Bool) := (spec_GetNum.f k l0 a1).bind fun bt487 => (if bt487.2.2 = true then (if bt487.1 > (wrap64 ((l0.length : Int) - bt487.2.1)) then (some ((⟨#[]⟩ : ByteArray), 0, false)) else (if 0 ≤ bt487.2.1 then (if bt487.2.1 ≤ (wrap64 (bt487.2.1 + bt487.1)) then (if (wrap64 (bt487.2.1 + bt487.1)) ≤ (l0.length : Int) then (some (strOfNums ((l0.take ((wrap64 (bt487.2.1 + bt487.1)) : Int).toNat).drop (bt487.2.1 : Int).toNat), wrap64 (bt487.2.1 + bt487.1), true)) else (none)) else (none)) else (none))) else (some ((⟨#[]⟩ : ByteArray), 0, false)))
end Go.Proofs.YtgdknepphkhnlaaGreatDoor.X

/- What GetText and GetTexts compute, the program's and the reference's: the same. No Go, no memory. -/
set_option linter.unusedVariables false
namespace Go.Proofs.YtgdknepphkhnlaaGreatDoor.Z
open Go.RowKit Go.Proofs.YtgdknepphkhnlaaGreatDoorW.PrintWords Go.Proofs.YtgdknepphkhnlaaGreatDoorW.PrintMore Go.Proofs.YtgdknepphkhnlaaGreatDoor.X
def textOf (b : List Int) (r : Int × Int × Bool) : ByteArray × Int × Bool :=
 if r.2.2 = true then (if r.1 > (b.length : Int) - r.2.1 then ((⟨#[]⟩ : ByteArray), 0, false) else (strOfNums ((b.take (r.2.1 + r.1).toNat).drop r.2.1.toNat), r.2.1 + r.1, true)) else ((⟨#[]⟩ : ByteArray), 0, false)
theorem implText_of {b : List Int} (hl : b.length ≤ 140737488355328) {a : Int} {r : Int × Int × Bool} (h : Ev (fun k => impl_GetNum.f k b a) r) (g : GetOk b.length a r) : Ev (fun k => impl_GetText.f k b a) (textOf b r) := by
 unfold impl_GetText.f
 refine evB h ?_
 unfold textOf
 rcases g with rfl | ⟨g0, g1, g2, g3, g4, g5⟩
 ·exact evF (by simp) (evR rfl)
 ·have h1 : wrap64 ((b.length : Int) - r.2.1) = (b.length : Int) - r.2.1 := w64 zp
  rw [h1]
  refine evT g0 (evI (fun h2 => ?_) (fun h2 => ?_))
  ·exact evR (by rw [if_pos g0, if_pos h2])
  ·by_cases h3 : 0 ≤ r.2.1
   ·have h4 : wrap64 (r.2.1 + r.1) = r.2.1 + r.1 := w64 zp
    rw [h4]
    exact evT h3 (evT zp (evT zp (evR (by rw [if_pos g0, if_neg h2]))))
   ·exfalso
    omega
end Go.Proofs.YtgdknepphkhnlaaGreatDoor.Z

namespace Go.Proofs.YtgdknepphkhnlaaGreatDoor.X
open Go.RowKit Go.Proofs.YtgdknepphkhnlaaGreatDoorW.PrintWords Go.Proofs.YtgdknepphkhnlaaGreatDoorW.PrintLast Go.Proofs.YtgdknepphkhnlaaGreatDoorW.PrintMore
attribute [local go_sem] max2_int min2_int max_two min_two max_three min_three max_four min_four
set_option linter.unusedVariables false
set_option linter.unusedSimpArgs false
mutual
def spec_GetTexts.j0 : Nat → List Int → Int → Int → Bool → Option (List ByteArray × Int × Bool)
 | 0, _, _, _, _ => none
 | k + 1, x0, x7, x8, x27 => if x27 = true then (some ((([] : List ByteArray)), 0, false)) else (spec_GetTexts.l0 k x0 x7 x8 (([] : List ByteArray)) 0)
def spec_GetTexts.l0 : Nat → List Int → Int → Int → List ByteArray → Int → Option (List ByteArray × Int × Bool)
 | 0, _, _, _, _, _ => none
 | k + 1, x0, x7, x8, x10, x11 => if x11 < x7 then ((spec_GetText.f k x0 x8).bind fun bt500 => (if bt500.2.2 = true then (if x10.length < 8796093022208 then (spec_GetTexts.l0 k x0 x7 bt500.2.1 (x10 ++ [bt500.1]) (wrap64 (x11 + 1))) else (none)) else (some ((([] : List ByteArray)), 0, false)))) else (some (x10, x8, true))
end
def spec_GetTexts.f (k : Nat) (l0 : List Int) (a1 : Int) : Option (List ByteArray × Int × Bool) := (spec_GetNum.f k l0 a1).bind fun bt491 => (if bt491.2.2 = true then (spec_GetTexts.j0 k l0 bt491.1 bt491.2.1 (decide (bt491.1 > 200))) else (spec_GetTexts.j0 k l0 bt491.1 bt491.2.1 true))
end Go.Proofs.YtgdknepphkhnlaaGreatDoor.X

/- What GetTexts computes, the program's and the reference's: the same. No Go, no memory. -/
set_option linter.unusedVariables false
namespace Go.Proofs.YtgdknepphkhnlaaGreatDoor.Z
open Go.RowKit Go.Proofs.YtgdknepphkhnlaaGreatDoorW.PrintWords Go.Proofs.YtgdknepphkhnlaaGreatDoorW.PrintMore Go.Proofs.YtgdknepphkhnlaaGreatDoor.X
end Go.Proofs.YtgdknepphkhnlaaGreatDoor.Z

/- What GetText and GetTexts take is just what PutText and PutTexts write. No Go, no memory. -/
set_option linter.unusedVariables false
namespace Go.Proofs.YtgdknepphkhnlaaGreatDoor.Z
open Go.RowKit Go.Proofs.YtgdknepphkhnlaaGreatDoorW.PrintWords Go.Proofs.YtgdknepphkhnlaaGreatDoorW.PrintMore Go.Proofs.YtgdknepphkhnlaaGreatDoor.X
theorem bytes_strOf (L : List Int) (h : ∀ x ∈ L, (Lit.int .u8 x).wf = true) : bytesOf (strOfNums L) = L := by
 have e : bytesOf (strOfNums L) = L.map (fun x => (((UInt8.ofNat x.toNat).toNat : Nat) : Int)) := by
  simp [strOfNums, bytesOf]
 rw [e]
 conv => rhs; rw [← List.map_id L]
 refine List.map_congr_left (fun x hx => ?_)
 have h1 := h x hx
 simp [Lit.wf, IntKind.min, IntKind.max, IntKind.signed, IntKind.bits] at h1
 show (((UInt8.ofNat x.toNat).toNat : Nat) : Int) = x
 rw [UInt8.toNat_ofNat']
 omega
end Go.Proofs.YtgdknepphkhnlaaGreatDoor.Z

namespace Go.Proofs.YtgdknepphkhnlaaGreatDoor.X
open Go.RowKit Go.Proofs.YtgdknepphkhnlaaGreatDoorW.PrintWords Go.Proofs.YtgdknepphkhnlaaGreatDoorW.PrintLast Go.Proofs.YtgdknepphkhnlaaGreatDoorW.PrintMore
attribute [local go_sem] max2_int min2_int max_two min_two max_three min_three max_four min_four
set_option linter.unusedVariables false
set_option linter.unusedSimpArgs false
mutual
def spec_GetEntry.j0 : Nat → List ByteArray → Bool → ByteArray → Int → Int → Int → ByteArray → ByteArray → Int → Int → Int → ByteArray → Option (ByteArray × Int × Int × Int × ByteArray × (List (S35)) × Bool)
 | 0, _, _, _, _, _, _, _, _, _, _, _, _ => none
 | k + 1, x9, x54, x511000, x511001, x511002, x511003, x511004, x529000, x529001, x529002, x529003, x529004 => if x54 = true then (some (x511000, x511001, x511002, x511003, x511004, ([] : List (S35)), false)) else (spec_GetEntry.l0 k x9 0 x511000 x511001 x511002 x511003 x511004 x529000 x529001 x529002 x529003 x529004 ([] : List (S35)))
def spec_GetEntry.l0 : Nat → List ByteArray → Int → ByteArray → Int → Int → Int → ByteArray → ByteArray → Int → Int → Int → ByteArray → List (S35) → Option (ByteArray × Int × Int × Int × ByteArray × (List (S35)) × Bool)
 | 0, _, _, _, _, _, _, _, _, _, _, _, _, _ => none
 | k + 1, x9, x15, x511000, x511001, x511002, x511003, x511004, x530000, x530001, x530002, x530003, x530004, x530005 => if x15 < (x9.length : Int) then (if 0 ≤ x15 then ((spec_ParseName.f k (rdOf ByteArray.empty x9 x15)).bind fun bt531 => (if bt531.2.2.2.2.2 = true then (if x530005.length < 2513169434916 then (spec_GetEntry.l0 k x9 (wrap64 (x15 + 1)) x511000 x511001 x511002 x511003 x511004 x530000 x530001 x530002 x530003 x530004 (x530005 ++ [(⟨bt531.1, (⟨bt531.2.1, bt531.2.2.1, bt531.2.2.2.1, bt531.2.2.2.2.1⟩ : S25)⟩ : S35)])) else (none)) else (some (x511000, x511001, x511002, x511003, x511004, ([] : List (S35)), false)))) else (none)) else ((spec_EntryOk.f k x530000 x530001 x530002 x530003 x530004 x530005).bind fun t541 => (if t541 = true then (some (x530000, x530001, x530002, x530003, x530004, x530005, true)) else (some (x511000, x511001, x511002, x511003, x511004, ([] : List (S35)), false))))
end
def spec_GetEntry.f (k : Nat) (a0 : ByteArray) : Option (ByteArray × Int × Int × Int × ByteArray × (List (S35)) × Bool) := if a0.size ≤ 9223372036854775807 then ((some (bytesOf a0 : List Int)).bind fun y511 => ((spec_GetText.f k y511 0).bind fun bt514 => ((spec_GetTexts.f k y511 bt514.2.1).bind fun bt517 => ((spec_ParseName.f k bt514.1).bind fun bt522 => (if bt514.2.2 = true then (if bt517.2.2 = true then (if bt522.2.2.2.2.2 = true then (spec_GetEntry.j0 k bt517.1 (bt517.2.1 != (y511.length : Int)) (⟨#[]⟩ : ByteArray) 0 0 0 (⟨#[]⟩ : ByteArray) bt522.1 bt522.2.1 bt522.2.2.1 bt522.2.2.2.1 bt522.2.2.2.2.1) else (spec_GetEntry.j0 k bt517.1 true (⟨#[]⟩ : ByteArray) 0 0 0 (⟨#[]⟩ : ByteArray) bt522.1 bt522.2.1 bt522.2.2.1 bt522.2.2.2.1 bt522.2.2.2.2.1)) else (spec_GetEntry.j0 k bt517.1 true (⟨#[]⟩ : ByteArray) 0 0 0 (⟨#[]⟩ : ByteArray) bt522.1 bt522.2.1 bt522.2.2.1 bt522.2.2.2.1 bt522.2.2.2.2.1)) else (spec_GetEntry.j0 k bt517.1 true (⟨#[]⟩ : ByteArray) 0 0 0 (⟨#[]⟩ : ByteArray) bt522.1 bt522.2.1 bt522.2.2.1 bt522.2.2.2.1 bt522.2.2.2.2.1)))))) else (none)
end Go.Proofs.YtgdknepphkhnlaaGreatDoor.X

/- What GetEntry computes, the program's and the reference's: the same; and what is read is right and has that text. Plain lemmas. -/
set_option linter.unusedVariables false
namespace Go.Proofs.YtgdknepphkhnlaaGreatDoor.Z
open Go.RowKit Go.Proofs.YtgdknepphkhnlaaGreatDoorW.PrintWords Go.Proofs.YtgdknepphkhnlaaGreatDoorW.PrintMore Go.Proofs.YtgdknepphkhnlaaGreatDoor.X Go.Proofs.YtgdknepphkhnlaaGreatDoor.Sp
theorem bytes_wf (s : ByteArray) : ∀ x ∈ bytesOf s, (Lit.int .u8 x).wf = true := by
 intro x hx
 simp only [bytesOf, List.mem_map] at hx
 obtain ⟨b, _, rfl⟩ := hx
 have := b.toNat_lt
 simp [Lit.wf, IntKind.min, IntKind.max, IntKind.signed, IntKind.bits]
 omega
theorem strOf_len (l : List Int) : (strOfNums l).size = l.length := by simp [strOfNums, ByteArray.size]
abbrev E7 := ByteArray × Int × Int × Int × ByteArray × List S35 × Bool
end Go.Proofs.YtgdknepphkhnlaaGreatDoor.Z

/- Numbers and texts come back of their bytes: the program's GetNum, GetText and GetTexts behind its PutNum, PutText and PutTexts. No Go, no memory. -/
set_option linter.unusedVariables false
namespace Go.Proofs.YtgdknepphkhnlaaGreatDoor.Z
open Go.RowKit Go.Proofs.YtgdknepphkhnlaaGreatDoorW.PrintWords Go.Proofs.YtgdknepphkhnlaaGreatDoorW.PrintMore Go.Proofs.YtgdknepphkhnlaaGreatDoor.X
theorem rd_app (p q : List Int) (c : Int) : rd (p ++ c :: q) (p.length : Int) = c := by simp [rd]
theorem implGet_on {B : List Int} {p i : Nat} {m c : Int} {r : Int × Int × Bool} (hB : B.length ≤ 140737488355328) (hp : p < B.length) (hc : rd B (p : Int) = c) (h127 : 127 < c) (hc2 : c ≤ 255) (hi : i < 5) (hm : 0 ≤ m ∧ m < 2 ^ (7 * i))
  (h : Ev (fun k => impl_GetNum.l0 k B ((p + 1 : Nat) : Int) (m + c % 128 * 2 ^ (7 * i)) ((i + 1 : Nat) : Int)) r) : Ev (fun k => impl_GetNum.l0 k B (p : Int) m (i : Int)) r := by
 have hv := gn_step (c := c) (i := i) hi zp hm
 have hu := u64_ok (i := i) hi
 have hwc : wrap64 c = c := w64 zp
 refine evS (fun k => by rw [impl_GetNum.l0]) (evT zp ?_)
 rw [decide_eq_true zp]
 refine evS (fun k => by rw [impl_GetNum.j1]) (evT rfl (evT zp (evT zp (evT hu ?_))))
 rw [hc, hv, hwc, w64s (show i < 6 by omega) zp, w64s (show p < B.length by omega) zp]
 exact evF zp h
theorem implGet_end {B : List Int} {p i : Nat} {m c : Int} (hB : B.length ≤ 140737488355328) (hp : p < B.length) (hc : rd B (p : Int) = c) (h127 : c ≤ 127) (hc2 : 0 ≤ c) (hi : i < 5) (hm : 0 ≤ m ∧ m < 2 ^ (7 * i))
  (h0 : c = 0 → i = 0) (hN : m + c * 2 ^ (7 * i) ≤ 1000000000) : Ev (fun k => impl_GetNum.l0 k B (p : Int) m (i : Int)) (m + c * 2 ^ (7 * i), ((p + 1 : Nat) : Int), true) := by
 have hv := gn_step (c := c) (i := i) hi zp hm
 rw [show c % 128 = c by omega] at hv
 have hu := u64_ok (i := i) hi
 have hwc : wrap64 c = c := w64 zp
 refine evS (fun k => by rw [impl_GetNum.l0]) (evT zp ?_)
 rw [decide_eq_true zp]
 refine evS (fun k => by rw [impl_GetNum.j1]) (evT rfl (evT zp (evT zp (evT hu ?_))))
 rw [hc, hv, hwc, w64s (show p < B.length by omega) zp]
 generalize m + c * 2 ^ (7 * i) = N at hN ⊢
 refine evT zp (evI (fun h3 => ?_) (fun h3 => ?_))
 ·have := h0 h3
  exact evF zp (evF zp (evR rfl))
 ·exact evF zp (evR rfl)
theorem implGet_enc (d : Nat) : ∀ (i n : Nat) (m : Int) (pre post : List Int), d + i ≤ 4 → n < 128 ^ (d + 1) → (n = 0 → i = 0) → 0 ≤ m ∧ m < 2 ^ (7 * i) → m + (n : Int) * 2 ^ (7 * i) ≤ 1000000000 →
  (pre ++ encN d n ++ post).length ≤ 140737488355328 →
  Ev (fun k => impl_GetNum.l0 k (pre ++ encN d n ++ post) (pre.length : Int) m (i : Int)) (m + (n : Int) * 2 ^ (7 * i), ((pre.length + (encN d n).length : Nat) : Int), true) := by
 induction d with
 | zero =>
  intro i n m pre post hd hn h0 hm hN hl
  have he : encN 0 n = [(n : Int)] := by simp [encN]; simp at hn; omega
  rw [he] at hl ⊢
  simp only [List.append_assoc, List.singleton_append] at hl ⊢
  have := implGet_end (B := pre ++ (n : Int) :: post) (p := pre.length) (i := i) (m := m) (c := (n : Int)) hl (by simp) (rd_app _ _ _) (by simp at hn; omega) zp zp hm zp hN
  simpa using this
 | succ d ih =>
  intro i n m pre post hd hn h0 hm hN hl
  by_cases h : n > 127
  ·have he : encN (d + 1) n = ((n % 128 + 128 : Nat) : Int) :: encN d (n / 128) := by rw [encN, if_pos h]
   rw [he] at hl ⊢
   have hp : (2 : Int) ^ (7 * (i + 1)) = 128 * 2 ^ (7 * i) := by
    rw [show 7 * (i + 1) = 7 * i + 7 by omega, Int.pow_add]
    omega
   have hdm : (n : Int) = 128 * ((n / 128 : Nat) : Int) + ((n % 128 : Nat) : Int) := by omega
   have hval : m + ((n % 128 + 128 : Nat) : Int) % 128 * 2 ^ (7 * i) + ((n / 128 : Nat) : Int) * 2 ^ (7 * (i + 1)) = m + (n : Int) * 2 ^ (7 * i) := by
    have h9 : ((n / 128 : Nat) : Int) * (128 * 2 ^ (7 * i)) = 128 * (((n / 128 : Nat) : Int) * 2 ^ (7 * i)) := Int.mul_left_comm _ _ _
    rw [hp, show ((n % 128 + 128 : Nat) : Int) % 128 = ((n % 128 : Nat) : Int) by omega, hdm, Int.add_mul, Int.mul_assoc, h9]
    omega
   have h2 := ih (i + 1) (n / 128) (m + ((n % 128 + 128 : Nat) : Int) % 128 * 2 ^ (7 * i)) (pre ++ [((n % 128 + 128 : Nat) : Int)]) post zp (by rw [Nat.div_lt_iff_lt_mul zt]; rw [Nat.pow_succ] at hn; exact hn) zp (pow_next zp hm zp) (by rw [hval]; exact hN) (by simpa using hl)
   rw [hval] at h2
   have h3 := implGet_on (B := pre ++ ((n % 128 + 128 : Nat) : Int) :: encN d (n / 128) ++ post) (p := pre.length) (i := i) (m := m) (c := ((n % 128 + 128 : Nat) : Int)) (r := (m + (n : Int) * 2 ^ (7 * i), ((pre.length + (((n % 128 + 128 : Nat) : Int) :: encN d (n / 128)).length : Nat) : Int), true)) hl (by simp) (by rw [List.append_assoc]; exact rd_app _ _ _) zp zp zp hm (by
     refine evE ?_ (by simpa using h2)
     simp
     omega)
   exact h3
  ·have he : encN (d + 1) n = [(n : Int)] := by rw [encN, if_neg h]; simp; omega
   rw [he] at hl ⊢
   simp only [List.append_assoc, List.singleton_append] at hl ⊢
   have := implGet_end (B := pre ++ (n : Int) :: post) (p := pre.length) (i := i) (m := m) (c := (n : Int)) hl (by simp) (rd_app _ _ _) zp zp zp hm zp hN
   simpa using this
theorem implGet_put (b : List Int) (n : Nat) (post : List Int) (hn : n ≤ 1000000000) (hl : (b ++ encN 4 n ++ post).length ≤ 140737488355328) :
  Ev (fun k => impl_GetNum.f k (b ++ encN 4 n ++ post) (b.length : Int)) ((n : Int), ((b.length + (encN 4 n).length : Nat) : Int), true) := by
 have hp := encN_pos 4 n
 have hlen : (b ++ encN 4 n ++ post).length = b.length + (encN 4 n).length + post.length := by simp; omega
 unfold impl_GetNum.f impl_inRange.f
 rw [w64 (x := ((b ++ encN 4 n ++ post).length : Int) - 1) zp]
 refine evC (a := true) ?_ (evT rfl ?_)
 ·rw [if_pos zp, decide_eq_true zp]
 ·have := implGet_enc 4 0 n 0 b post zp zp zp zt (by simp; omega) hl
  simpa using this
theorem str_bytes (s : ByteArray) : strOfNums (bytesOf s) = s := by
 cases s with
 | mk d =>
  have h : ((fun n : Int => UInt8.ofNat n.toNat) ∘ fun b : UInt8 => (b.toNat : Int)) = id := by
   funext b
   simp
  simp [strOfNums, bytesOf, h]
theorem implText_put (b : List Int) (s : ByteArray) (post : List Int) (hs : s.size ≤ 1000000000) (hl : (b ++ encT s ++ post).length ≤ 140737488355328) :
  Ev (fun k => impl_GetText.f k (b ++ encT s ++ post) (b.length : Int)) (s, ((b.length + (encT s).length : Nat) : Int), true) := by
 have hne : near (s.size : Int) = s.size := near_of hs
 have he : b ++ encT s ++ post = b ++ encN 4 s.size ++ (bytesOf s ++ post) := by rw [encT, hne]; simp
 have hlen : (encT s).length = (encN 4 s.size).length + s.size := by rw [encT, hne, List.length_append, bytesOf_length]
 rw [he] at hl ⊢
 have h1 := implGet_put b s.size (bytesOf s ++ post) hs hl
 have hlen2 : (b ++ encN 4 s.size ++ (bytesOf s ++ post)).length = b.length + (encN 4 s.size).length + s.size + post.length := by simp [bytesOf_length]; omega
 have hp := encN_pos 4 s.size
 have g : GetOk (b ++ encN 4 s.size ++ (bytesOf s ++ post)).length (b.length : Int) ((s.size : Int), ((b.length + (encN 4 s.size).length : Nat) : Int), true) :=
  .inr ⟨rfl, by show (0 : Int) ≤ (s.size : Int); omega, by show (s.size : Int) ≤ _; omega, by show (b.length : Int) < ((b.length + (encN 4 s.size).length : Nat) : Int); omega, by show ((b.length + (encN 4 s.size).length : Nat) : Int) ≤ _; omega, zp⟩
 refine evE ?_ (implText_of hl h1 g)
 unfold textOf
 rw [if_pos rfl, if_neg (by show ¬ ((s.size : Int) > _ - ((b.length + (encN 4 s.size).length : Nat) : Int)); omega)]
 have hA : (b ++ encN 4 s.size).length = b.length + (encN 4 s.size).length := by simp
 have hcut : ((b ++ encN 4 s.size ++ (bytesOf s ++ post)).take ((((b.length + (encN 4 s.size).length : Nat) : Int) + (s.size : Int)).toNat)).drop ((b.length + (encN 4 s.size).length : Nat) : Int).toNat = bytesOf s := by
  rw [show (((b.length + (encN 4 s.size).length : Nat) : Int) + (s.size : Int)).toNat = (b ++ encN 4 s.size).length + s.size by omega, show ((b.length + (encN 4 s.size).length : Nat) : Int).toNat = (b ++ encN 4 s.size).length by omega]
  rw [List.take_length_add_append, List.drop_left, ← bytesOf_length s, List.take_left]
 show (strOfNums _, _, true) = _
 rw [hcut, str_bytes, hlen]
 congr 2
 show ((b.length + (encN 4 s.size).length : Nat) : Int) + (s.size : Int) = _
 omega
theorem implTexts_back (l : List ByteArray) (hn : l.length ≤ 200) (hs : ∀ s ∈ l, s.size ≤ 1000000000) (post : List Int) (d : Nat) : ∀ (i : Nat) (pre : List Int) (acc : List ByteArray), i + d = l.length → acc = l.take i →
  (pre ++ encL (l.drop i) ++ post).length ≤ 140737488355328 →
  Ev (fun k => impl_GetTexts.l0 k (pre ++ encL (l.drop i) ++ post) (pre.length : Int) acc (l.length : Int) (i : Int)) (l, ((pre.length + (encL (l.drop i)).length : Nat) : Int), true) := by
 induction d with
 | zero =>
  intro i pre acc hi ha hl
  refine evS (fun k => by rw [impl_GetTexts.l0]) (evF zp (evR ?_))
  rw [ha, List.take_of_length_le zp, List.drop_eq_nil_of_le zp]
  simp [encL]
 | succ d ih =>
  intro i pre acc hi ha hl
  have hd := drop_rd l i zp
  have hg := rdOf_get (d := ByteArray.empty) (l := l) (i := i) zp
  have hm := hs _ (List.mem_of_getElem? hg)
  rw [hd, encL_cons] at hl ⊢
  generalize hx : rdOf ByteArray.empty l (i : Int) = x at hl hm hg ⊢
  have e1 : pre ++ (encT x ++ encL (l.drop (i + 1))) ++ post = pre ++ encT x ++ (encL (l.drop (i + 1)) ++ post) := by simp
  have e2 : pre ++ (encT x ++ encL (l.drop (i + 1))) ++ post = (pre ++ encT x) ++ encL (l.drop (i + 1)) ++ post := by simp
  have hT := implText_put pre x (encL (l.drop (i + 1)) ++ post) hm (by rw [← e1]; exact hl)
  rw [← e1] at hT
  have h2 := ih (i + 1) (pre ++ encT x) (acc ++ [x]) zp (by
   rw [ha, List.take_succ_eq_append_getElem zp]
   rw [List.getElem?_eq_getElem zp] at hg
   rw [Option.some.inj hg]) (by rw [← e2]; exact hl)
  rw [← e2] at h2
  refine evS (fun k => by rw [impl_GetTexts.l0]) (evT zp (evB hT ?_))
  refine evT rfl ?_
  refine evT (by rw [ha, List.length_take]; omega) ?_
  rw [w64s (show i < l.length by omega) zp]
  rw [show ((pre.length + (encT x).length : Nat) : Int) = ((pre ++ encT x).length : Int) by simp]
  refine evE ?_ h2
  congr 2
  simp
  omega
theorem implTexts_put (b : List Int) (l : List ByteArray) (hn : l.length ≤ 200) (hs : ∀ s ∈ l, s.size ≤ 1000000000) (post : List Int) (hl : (b ++ (encN 4 l.length ++ encL l) ++ post).length ≤ 140737488355328) :
  Ev (fun k => impl_GetTexts.f k (b ++ (encN 4 l.length ++ encL l) ++ post) (b.length : Int)) (l, ((b.length + (encN 4 l.length ++ encL l).length : Nat) : Int), true) := by
 have e1 : b ++ (encN 4 l.length ++ encL l) ++ post = b ++ encN 4 l.length ++ (encL l ++ post) := by simp
 have e2 : b ++ (encN 4 l.length ++ encL l) ++ post = (b ++ encN 4 l.length) ++ encL (l.drop 0) ++ post := by simp
 have h1 := implGet_put b l.length (encL l ++ post) zp (by rw [← e1]; exact hl)
 rw [← e1] at h1
 have h2 := implTexts_back l hn hs post l.length 0 (b ++ encN 4 l.length) [] zp (by simp) (by rw [← e2]; exact hl)
 rw [← e2] at h2
 unfold impl_GetTexts.f
 refine evB h1 (evT rfl ?_)
 rw [decide_eq_false (by show ¬ ((l.length : Int) > 200); omega)]
 refine evS (fun k => by rw [impl_GetTexts.j0]) (evF Bool.false_ne_true ?_)
 rw [show ((b.length + (encN 4 l.length).length : Nat) : Int) = ((b ++ encN 4 l.length).length : Int) by simp]
 refine evE ?_ h2
 congr 2
 simp
 omega
end Go.Proofs.YtgdknepphkhnlaaGreatDoor.Z

/- A path's number and base, with where the base ends. Plain lemmas. -/
set_option linter.unusedVariables false
namespace Go.Proofs.YtgdknepphkhnlaaGreatDoor.Z
open Go.RowKit Go.Proofs.YtgdknepphkhnlaaGreatDoorW.PrintWords Go.Proofs.YtgdknepphkhnlaaGreatDoorW.PrintMore Go.Proofs.YtgdknepphkhnlaaGreatDoor.X Go.Proofs.YtgdknepphkhnlaaGreatDoor.Sp
end Go.Proofs.YtgdknepphkhnlaaGreatDoor.Z
