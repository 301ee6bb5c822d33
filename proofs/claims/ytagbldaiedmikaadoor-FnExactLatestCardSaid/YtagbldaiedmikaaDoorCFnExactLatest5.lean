/- The law FnExactLatest, as a plain statement: the program's Latest answers as the reference's. Conditions: those of the row's reading alone. -/
/- Part 6 of 7 of this claim's texts. -/
import Derived.Test.YtagbldaiedmikaaDoorWWords
import Derived.Deep.Slices
import Derived.ChangeArms
import Derived.WideShapes
import Derived.DataReads
import Derived.Test.YtagbldaiedmikaaDoorRows
import Derived.WalkKit
import Derived.ProofKit
import Derived.Test.YtagbldaiedmikaaDoorCFnExactLatest1
import Derived.Test.YtagbldaiedmikaaDoorCFnExactLatest3
import Derived.Test.YtagbldaiedmikaaDoorCFnExactLatest4
/- Versions set in order, the program's way: what it gives. Plain lemmas. -/
set_option linter.unusedVariables false
namespace Go.Proofs.YtagbldaiedmikaaDoor.Z
open Go.RowKit Go.Proofs.YtagbldaiedmikaaDoorW.PrintWords Go.Proofs.YtagbldaiedmikaaDoorW.PrintMore Go.Proofs.YtagbldaiedmikaaDoor.X Go.Proofs.YtagbldaiedmikaaDoor.Sp
def cmpI (a b : Int) : Int := if a < b then -1 else if a > b then 1 else 0
theorem cmpI_ev (a b : Int) : cmp_Compare_int.f a b = some (cmpI a b) := by
  unfold cmp_Compare_int.f cmp_isNaN_int.f cmpI
  simp only [bne_self_eq_false, Option.bind_some, Bool.false_eq_true, if_false]
  split
  · rfl
  · split <;> rfl
theorem cmpI_zero {a b : Int} : cmpI a b = 0 ↔ a = b := by
  unfold cmpI
  split
  · omega
  · split <;> omega
theorem cmpI_neg {a b : Int} : cmpI a b < 0 ↔ a < b := by
  unfold cmpI
  split
  · omega
  · split <;> omega
def cmpS (a b : ByteArray) : Int := if Op.bytesLess a.data.toList b.data.toList = true then -1 else if Op.bytesLess b.data.toList a.data.toList = true then 1 else 0
theorem cmpS_ev (a b : ByteArray) : cmp_Compare_string.f a b = some (cmpS a b) := by
  unfold cmp_Compare_string.f cmp_isNaN_string.f cmpS
  simp only [bne_self_eq_false, Option.bind_some, Bool.false_eq_true, if_false, tl]
  split
  · rfl
  · split <;> rfl
theorem cmpS_zero {a b : ByteArray} : cmpS a b = 0 ↔ a = b := by
  unfold cmpS
  by_cases h1 : Op.bytesLess a.data.toList b.data.toList = true
  · rw [if_pos h1]
    refine ⟨fun e => by omega, fun e => ?_⟩
    subst e
    rw [Y.less_self] at h1
    cases h1
  · rw [if_neg h1]
    by_cases h2 : Op.bytesLess b.data.toList a.data.toList = true
    · rw [if_pos h2]
      refine ⟨fun e => by omega, fun e => ?_⟩
      subst e
      rw [Y.less_self] at h2
      cases h2
    · rw [if_neg h2]
      refine ⟨fun _ => ?_, fun _ => rfl⟩
      have h := Y.less_eq (a := a.data.toList) (b := b.data.toList) (by simpa using h1) (by simpa using h2)
      rw [← tl, ← tl] at h
      exact tl_inj.1 (by simpa using h)
theorem cmpS_neg {a b : ByteArray} : cmpS a b < 0 ↔ Op.bytesLess a.data.toList b.data.toList = true := by
  unfold cmpS
  split
  · rename_i h; simp [h]
  · rename_i h
    split <;> simp [h]
theorem or_l0 (l : List Int) (hl : l.length ≤ 10) (d : Nat) : ∀ i : Nat, i + d = l.length → Ev (fun k => cmp_Or_int.l0 k 0 l (l.length : Int) (i : Int)) ((l.drop i).foldr (fun x y => if x = 0 then y else x) 0) := by
  induction d with
  | zero =>
    intro i hi
    rw [List.drop_eq_nil_of_le (by omega)]
    refine evS (fun k => by rw [cmp_Or_int.l0]) ?_
    exact evF (by omega) (evR rfl)
  | succ d ih =>
    intro i hi
    have hlt : i < l.length := by omega
    have hr : rd l (i : Int) = l[i] := by
      have := rd_get hlt
      rw [List.getElem?_eq_getElem hlt] at this
      exact (Option.some.inj this).symm
    rw [List.drop_eq_getElem_cons hlt]
    refine evS (fun k => by rw [cmp_Or_int.l0]) ?_
    rw [hr, w64s hlt (by omega)]
    refine evT (by omega) (evT (by omega) (evT (by omega) ?_))
    by_cases hx : l[i] = 0
    · refine evT hx (evE ?_ (ih (i + 1) (by omega)))
      rw [List.foldr_cons, if_pos hx]
    · refine evF hx (evR ?_)
      rw [List.foldr_cons, if_neg hx]
theorem or_ev (l : List Int) (hl : l.length ≤ 10) : Ev (fun k => cmp_Or_int.f k l) (l.foldr (fun x y => if x = 0 then y else x) 0) := or_l0 l hl l.length 0 (by omega)
/-- Two parts. -/
def cp (a b : ByteArray) : Int :=
  if short a && short b then (if cmpI a.size b.size = 0 then cmpS a b else cmpI a.size b.size) else if short a then -1 else if short b then 1 else cmpS a b
theorem cp_zero {a b : ByteArray} : cp a b = 0 ↔ a = b := by
  unfold cp
  by_cases h1 : short a = true
  · by_cases h2 : short b = true
    · rw [h1, h2]
      simp only [Bool.and_self, if_true]
      by_cases h : cmpI a.size b.size = 0
      · rw [if_pos h]; exact cmpS_zero
      · rw [if_neg h]
        refine ⟨fun e => absurd e h, fun e => ?_⟩
        subst e
        exact absurd (cmpI_zero.2 rfl) h
    · simp only [h1, h2, Bool.and_false, Bool.false_eq_true, if_false, if_true]
      refine ⟨fun e => by omega, fun e => ?_⟩
      subst e
      exact absurd h1 h2
  · by_cases h2 : short b = true
    · simp only [h1, h2, Bool.false_and, Bool.false_eq_true, if_false, if_true]
      refine ⟨fun e => by omega, fun e => ?_⟩
      subst e
      exact absurd h2 h1
    · simp only [h1, h2, Bool.false_and, Bool.false_eq_true, if_false]
      exact cmpS_zero
theorem cp_ev (a b : ByteArray) (ha : a.size ≤ 1048576) (hb : b.size ≤ 1048576) : Ev (fun k => impl_comparePart.f k a b) (cp a b) := by
  have hor : Ev (fun k => cmp_Or_int.f k [cmpI a.size b.size, cmpS a b]) (if cmpI a.size b.size = 0 then cmpS a b else cmpI a.size b.size) := by
    refine evE ?_ (or_ev [cmpI a.size b.size, cmpS a b] (by simp))
    simp only [List.foldr_cons, List.foldr_nil]
    split
    · split <;> omega
    · rfl
  have hj : ∀ x y : Bool, short a = x → short b = y → Ev (fun k => impl_comparePart.j0 k a b x y) (cp a b) := by
    intro x y hx hy
    have hcp : cp a b = if x && y then (if cmpI a.size b.size = 0 then cmpS a b else cmpI a.size b.size) else if x then -1 else if y then 1 else cmpS a b := by
      unfold cp
      rw [hx, hy]
    rw [hcp]
    cases x with
    | true =>
      cases y with
      | true =>
        refine evS (fun k => by rw [impl_comparePart.j0]) (evT rfl ?_)
        refine evS (fun k => by rw [impl_comparePart.j1]) (evT rfl ?_)
        exact evC (cmpI_ev _ _) (evC (cmpS_ev _ _) (evB hor (evR rfl)))
      | false =>
        refine evS (fun k => by rw [impl_comparePart.j0]) (evT rfl ?_)
        refine evS (fun k => by rw [impl_comparePart.j1]) (evF Bool.false_ne_true (evT rfl ?_))
        exact evR rfl
    | false =>
      refine evS (fun k => by rw [impl_comparePart.j0]) (evF Bool.false_ne_true ?_)
      refine evS (fun k => by rw [impl_comparePart.j1]) (evF Bool.false_ne_true (evF Bool.false_ne_true ?_))
      cases y with
      | true => exact evT rfl (evR rfl)
      | false => exact evF Bool.false_ne_true (evC (cmpS_ev _ _) (evR rfl))
  have e1 : ∀ s : ByteArray, decide ((s.size : Int) ≤ 8) = decide (s.size ≤ 8) := fun s => decide_eq_decide.2 (by omega)
  unfold impl_comparePart.f
  rw [e1, e1]
  refine evB (num_impl a ha) ?_
  cases hna : num a with
  | true =>
    refine evT rfl (evB (num_impl b hb) ?_)
    have hx : short a = decide (a.size ≤ 8) := by unfold short; rw [hna]; simp
    cases hnb : num b with
    | true => exact evT rfl (hj _ _ hx (by unfold short; rw [hnb]; simp))
    | false => exact evF Bool.false_ne_true (hj _ _ hx (by unfold short; rw [hnb]; simp))
  | false =>
    refine evF Bool.false_ne_true (evB (num_impl b hb) ?_)
    have hx : short a = false := by unfold short; rw [hna]; simp
    cases hnb : num b with
    | true => exact evT rfl (hj _ _ hx (by unfold short; rw [hnb]; simp))
    | false => exact evF Bool.false_ne_true (hj _ _ hx (by unfold short; rw [hnb]; simp))
/-- Two lists of parts. -/
def lcp : List ByteArray → List ByteArray → Int
  | [], [] => 0
  | [], _ :: _ => -1
  | _ :: _, [] => 1
  | a :: l, b :: m => if cp a b = 0 then lcp l m else cp a b
theorem lcp_l0 (l m : List ByteArray) (hl : l.length ≤ 1048577) (hm : m.length ≤ 1048577) (zl : ∀ x ∈ l, x.size ≤ 1048576) (zm : ∀ x ∈ m, x.size ≤ 1048576) (n : Nat) (hn : n = min l.length m.length) (d : Nat) : ∀ i : Nat, i + d = n →
    Ev (fun k => impl_comparePre.l0 k l m (n : Int) (i : Int)) (lcp (l.drop i) (m.drop i)) := by
  induction d with
  | zero =>
    intro i hi
    refine evS (fun k => by rw [impl_comparePre.l0]) ?_
    refine evF (by omega) (evC (cmpI_ev _ _) (evR ?_))
    by_cases h1 : l.length ≤ i
    · rw [List.drop_eq_nil_of_le h1]
      by_cases h2 : m.length ≤ i
      · rw [List.drop_eq_nil_of_le h2]
        exact cmpI_zero.2 (by omega)
      · rw [List.drop_eq_getElem_cons (show i < m.length by omega)]
        unfold cmpI
        rw [if_pos (by omega)]
        rfl
    · rw [List.drop_eq_getElem_cons (show i < l.length by omega), List.drop_eq_nil_of_le (show m.length ≤ i by omega)]
      unfold cmpI
      rw [if_neg (by omega), if_pos (by omega)]
      rfl
  | succ d ih =>
    intro i hi
    have il : i < l.length := by omega
    have im : i < m.length := by omega
    have gl : rdOf ByteArray.empty l (i : Int) = l[i] := by
      have := rdOf_get (d := ByteArray.empty) il
      rw [List.getElem?_eq_getElem il] at this
      exact (Option.some.inj this).symm
    have gm : rdOf ByteArray.empty m (i : Int) = m[i] := by
      have := rdOf_get (d := ByteArray.empty) im
      rw [List.getElem?_eq_getElem im] at this
      exact (Option.some.inj this).symm
    rw [List.drop_eq_getElem_cons il, List.drop_eq_getElem_cons im, lcp]
    refine evS (fun k => by rw [impl_comparePre.l0]) ?_
    rw [gl, gm, w64s il (by omega)]
    refine evT (by omega) (evT (by omega) (evT (by omega) (evT (by omega) (evB (cp_ev _ _ (zl _ (List.getElem_mem il)) (zm _ (List.getElem_mem im))) ?_))))
    by_cases hc : cp l[i] m[i] = 0
    · rw [if_pos hc]
      exact evT hc (ih (i + 1) (by omega))
    · rw [if_neg hc]
      exact evF hc (evR rfl)
/-- Two texts behind the numbers. -/
def cpre (a b : ByteArray) : Int := if a = b then 0 else if a.size = 0 then 1 else if b.size = 0 then -1 else lcp (pieces 46 a) (pieces 46 b)
theorem nil_iff (s : ByteArray) : s.toList = ([] : List UInt8) ↔ s.size = 0 := by
  rw [tl]
  have := data_length s
  constructor
  · intro e; rw [e] at this; simpa using this.symm
  · intro e; exact List.eq_nil_of_length_eq_zero (by omega)
theorem split_impl' (s : ByteArray) (hs : s.size ≤ 1048576) (c : UInt8) : strings_Split.f s (⟨#[c]⟩ : ByteArray) = some (pieces c s) := by
  unfold strings_Split.f
  rw [if_pos ⟨by omega, rfl⟩]
  rfl
theorem cpre_ev (a b : ByteArray) (ha : a.size ≤ 1048576) (hb : b.size ≤ 1048576) : Ev (fun k => impl_comparePre.f k a b) (cpre a b) := by
  unfold impl_comparePre.f cpre
  by_cases h : a = b
  · rw [if_pos h]
    exact evT (by rw [h]) (evR rfl)
  rw [if_neg h]
  refine evF (fun e => h (tl_inj.1 e)) ?_
  by_cases h1 : a.size = 0
  · rw [if_pos h1]
    exact evT ((nil_iff a).2 h1) (evR rfl)
  rw [if_neg h1]
  refine evF (fun e => h1 ((nil_iff a).1 e)) ?_
  by_cases h2 : b.size = 0
  · rw [if_pos h2]
    exact evT ((nil_iff b).2 h2) (evR rfl)
  rw [if_neg h2]
  refine evF (fun e => h2 ((nil_iff b).1 e)) (evC (split_impl' a ha 46) (evC (split_impl' b hb 46) ?_))
  have ca := pieces_count 46 a
  have cb := pieces_count 46 b
  have hm : mn ((pieces 46 a).length : Int) ((pieces 46 b).length : Int) = ((min (pieces 46 a).length (pieces 46 b).length : Nat) : Int) := by unfold mn; omega
  rw [hm]
  have := lcp_l0 (pieces 46 a) (pieces 46 b) (by omega) (by omega) (fun x hx => by have := pieces_mem 46 a x hx; omega) (fun x hx => by have := pieces_mem 46 b x hx; omega) _ rfl _ 0 (Nat.zero_add _)
  exact this
/-- Two versions. -/
def cmpV (a0 a1 a2 : Int) (a3 : ByteArray) (b0 b1 b2 : Int) (b3 : ByteArray) : Int :=
  if cmpI a0 b0 = 0 then (if cmpI a1 b1 = 0 then (if cmpI a2 b2 = 0 then cpre a3 b3 else cmpI a2 b2) else cmpI a1 b1) else cmpI a0 b0
theorem less_impl (a0 a1 a2 : Int) (a3 : ByteArray) (b0 b1 b2 : Int) (b3 : ByteArray) (ha : a3.size ≤ 1048576) (hb : b3.size ≤ 1048576) :
    Ev (fun k => impl_LessVersion.f k a0 a1 a2 a3 b0 b1 b2 b3) (decide (cmpV a0 a1 a2 a3 b0 b1 b2 b3 < 0)) := by
  unfold impl_LessVersion.f
  refine evB (a := cmpV a0 a1 a2 a3 b0 b1 b2 b3) ?_ (evR rfl)
  unfold impl_compare.f
  refine evC (cmpI_ev _ _) (evC (cmpI_ev _ _) (evC (cmpI_ev _ _) (evB (cpre_ev _ _ ha hb) (evB (or_ev [cmpI a0 b0, cmpI a1 b1, cmpI a2 b2, cpre a3 b3] (by simp)) (evR ?_)))))
  simp only [List.foldr_cons, List.foldr_nil]
  unfold cmpV
  split
  · split
    · split
      · split <;> omega
      · rfl
    · rfl
  · rfl
end Go.Proofs.YtagbldaiedmikaaDoor.Z

/- Versions set in order, the reference's way: the same. Plain lemmas. -/
set_option linter.unusedVariables false
namespace Go.Proofs.YtagbldaiedmikaaDoor.Z
open Go.RowKit Go.Proofs.YtagbldaiedmikaaDoorW.PrintWords Go.Proofs.YtagbldaiedmikaaDoorW.PrintMore Go.Proofs.YtagbldaiedmikaaDoor.X Go.Proofs.YtagbldaiedmikaaDoor.Sp
theorem digit_lt {a b : UInt8} (ha : isD a = true) (hb : isD b = true) : digit a < digit b ↔ a < b := by
  have h1 := (isD_iff a).1 ha
  have h2 := (isD_iff b).1 hb
  unfold digit
  rw [UInt8.lt_iff_toNat_lt]
  omega
theorem less_val : ∀ x y : List UInt8, x.all isD = true → y.all isD = true → x.length = y.length → (Op.bytesLess x y = true ↔ val x < val y)
  | [], [], _, _, _ => by simp [Op.bytesLess]
  | [], _ :: _, _, _, h => by simp at h
  | _ :: _, [], _, _, h => by simp at h
  | a :: x, b :: y, hx, hy, hl => by
    simp only [List.all_cons, Bool.and_eq_true] at hx hy
    have hl' : x.length = y.length := by simpa using hl
    have ih := less_val x y hx.2 hy.2 hl'
    have vx := val_lt x hx.2
    have vy := val_lt y hy.2
    rw [val_cons, val_cons, ← hl'] 
    rw [← hl'] at vy
    have hd := digit_lt hx.1 hy.1
    have hd' := digit_lt hy.1 hx.1
    generalize 10 ^ x.length = p at *
    by_cases h1 : a < b
    · have h2 : digit a + 1 ≤ digit b := hd.2 h1
      have h3 : (digit a + 1) * p ≤ digit b * p := Nat.mul_le_mul_right _ h2
      rw [Nat.add_mul] at h3
      simp only [Op.bytesLess, h1, decide_true, Bool.true_or, true_iff]
      omega
    · by_cases h4 : a = b
      · subst h4
        simp only [Op.bytesLess, h1, decide_false, Bool.false_or, beq_self_eq_true, Bool.true_and]
        rw [ih]
        omega
      · have h5 : b < a := by
          rw [UInt8.lt_iff_toNat_lt] at h1 ⊢
          have : a.toNat ≠ b.toNat := fun e => h4 (UInt8.toNat_inj.1 e)
          omega
        have h2 : digit b + 1 ≤ digit a := hd'.2 h5
        have h3 : (digit b + 1) * p ≤ digit a * p := Nat.mul_le_mul_right _ h2
        rw [Nat.add_mul] at h3
        simp only [Op.bytesLess, h1, decide_false, Bool.false_or, beq_eq_false_iff_ne.2 h4, Bool.false_and, Bool.false_eq_true, false_iff]
        omega
theorem short_all {s : ByteArray} (h : short s = true) : s.data.toList.all isD = true ∧ 0 < s.size ∧ s.size ≤ 8 ∧ (s.data.toList = [48] ∨ bt s 0 ≠ 48) := by
  simp only [short, num, figs, Bool.and_eq_true, Bool.or_eq_true, decide_eq_true_eq] at h
  exact ⟨h.1.1.1, by have := h.1.1.2; omega, h.2, h.1.2⟩
theorem short_lead {s : ByteArray} (h : short s = true) (h1 : 1 < s.size) : 10 ^ (s.size - 1) ≤ val s.data.toList := by
  obtain ⟨ha, hz, h8, hb⟩ := short_all h
  have hl := data_length s
  have hne : ¬ s.data.toList = [48] := fun e => by rw [e] at hl; simp at hl; omega
  have hb0 := hb.resolve_left hne
  have hat : bt s 0 = _ := byte_at s 0 (by omega)
  cases hs : s.data.toList with
  | nil => rw [hs] at hl; simp at hl; omega
  | cons b l =>
    rw [hat] at hb0
    simp only [hs, List.getElem_cons_zero] at hb0
    rw [hs] at ha hl
    simp only [List.all_cons, Bool.and_eq_true] at ha
    have hd := (isD_iff b).1 ha.1
    rw [val_cons, show s.size - 1 = l.length by simp at hl; omega]
    have : 1 * 10 ^ l.length ≤ digit b * 10 ^ l.length := Nat.mul_le_mul_right _ (by unfold digit; omega)
    omega
theorem numS_pos (s : ByteArray) : 0 ≤ numS s ↔ short s = true := by
  unfold numS
  split
  · rename_i h; simp [h]
  · rename_i h; simp [h]
theorem numS_val {s : ByteArray} (h : short s = true) : numS s = ((val s.data.toList : Nat) : Int) := by unfold numS; rw [if_pos h]
theorem short_less {a b : ByteArray} (ha : short a = true) (hb : short b = true) (h : a.size < b.size) : val a.data.toList < val b.data.toList := by
  obtain ⟨aa, az, _, _⟩ := short_all ha
  obtain ⟨_, bz, _, _⟩ := short_all hb
  have h1 := val_lt _ aa
  rw [data_length] at h1
  have h2 := short_lead hb (by omega)
  have h3 : 10 ^ a.size ≤ 10 ^ (b.size - 1) := Nat.pow_le_pow_right (by decide) (by omega)
  omega
def lp (a b : ByteArray) : Bool := if 0 ≤ numS a then (if 0 ≤ numS b then decide (numS a < numS b) else true) else if 0 ≤ numS b then false else Op.bytesLess a.data.toList b.data.toList
theorem cp_neg (a b : ByteArray) : lp a b = decide (cp a b < 0) := by
  unfold lp cp
  by_cases h1 : short a = true
  · rw [if_pos ((numS_pos a).2 h1)]
    by_cases h2 : short b = true
    · rw [if_pos ((numS_pos b).2 h2), h1, h2, numS_val h1, numS_val h2]
      simp only [Bool.and_self, if_true]
      refine decide_eq_decide.2 ?_
      by_cases h : cmpI a.size b.size = 0
      · rw [if_pos h]
        have hs : a.size = b.size := by have := cmpI_zero.1 h; omega
        rw [cmpS_neg, less_val _ _ (short_all h1).1 (short_all h2).1 (by rw [data_length, data_length]; exact hs)]
        omega
      · rw [if_neg h, cmpI_neg]
        have hs : ¬ a.size = b.size := fun e => h (cmpI_zero.2 (by omega))
        by_cases hlt : a.size < b.size
        · have := short_less h1 h2 hlt
          omega
        · have := short_less h2 h1 (by omega)
          omega
    · rw [if_neg (fun e => h2 ((numS_pos b).1 e))]
      simp only [h1, h2, Bool.and_false, Bool.false_eq_true, if_false, if_true]
      rfl
  · rw [if_neg (fun e => h1 ((numS_pos a).1 e))]
    by_cases h2 : short b = true
    · rw [if_pos ((numS_pos b).2 h2)]
      simp only [h1, h2, Bool.false_and, Bool.false_eq_true, if_false, if_true]
      rfl
    · rw [if_neg (fun e => h2 ((numS_pos b).1 e))]
      simp only [h1, h2, Bool.false_and, Bool.false_eq_true, if_false]
      by_cases hb : Op.bytesLess a.data.toList b.data.toList = true
      · rw [hb, decide_eq_true (cmpS_neg.2 hb)]
      · rw [Bool.eq_false_iff.2 hb, decide_eq_false (fun e => hb (cmpS_neg.1 e))]
theorem lp_spec (a b : ByteArray) (ha : a.size ≤ 1048576) (hb : b.size ≤ 1048576) : Ev (fun k => spec_l3LessPart.f k a b) (lp a b) := by
  unfold spec_l3LessPart.f
  refine evB (numS_spec a ha) (evB (numS_spec b hb) ?_)
  by_cases h1 : 0 ≤ numS a
  · refine evT h1 ?_
    refine evS (fun k => by rw [spec_l3LessPart.j0]) ?_
    by_cases h2 : 0 ≤ numS b
    · exact evT (decide_eq_true h2) (evR (by unfold lp; rw [if_pos h1, if_pos h2]))
    · exact evF (by simpa using h2) (evT h1 (evR (by unfold lp; rw [if_pos h1, if_neg h2])))
  · refine evF h1 ?_
    refine evS (fun k => by rw [spec_l3LessPart.j0]) (evF Bool.false_ne_true (evF h1 ?_))
    by_cases h2 : 0 ≤ numS b
    · exact evT h2 (evR (by unfold lp; rw [if_neg h1, if_pos h2]))
    · exact evF h2 (evR (by unfold lp; rw [if_neg h1, if_neg h2, tl, tl]))
theorem lcp_spec (l m : List ByteArray) (hl : l.length ≤ 1048577) (hm : m.length ≤ 1048577) (zl : ∀ x ∈ l, x.size ≤ 1048576) (zm : ∀ x ∈ m, x.size ≤ 1048576) (d : Nat) : ∀ i : Nat, i + d = min l.length m.length →
    Ev (fun k => spec_l3LessPre.l0 k l m (i : Int)) (decide (lcp (l.drop i) (m.drop i) < 0)) := by
  induction d with
  | zero =>
    intro i hi
    by_cases h1 : l.length ≤ i
    · refine evS (fun k => by rw [spec_l3LessPre.l0]) (evF (by omega) ?_)
      refine evS (fun k => by rw [spec_l3LessPre.j1]) (evF Bool.false_ne_true (evR ?_))
      rw [List.drop_eq_nil_of_le h1]
      by_cases h2 : m.length ≤ i
      · rw [List.drop_eq_nil_of_le h2]
        exact decide_eq_decide.2 (by simp only [lcp]; omega)
      · rw [List.drop_eq_getElem_cons (show i < m.length by omega)]
        exact decide_eq_decide.2 (by simp only [lcp]; omega)
    · refine evS (fun k => by rw [spec_l3LessPre.l0]) (evT (by omega) ?_)
      refine evS (fun k => by rw [spec_l3LessPre.j1]) (evF (by simp; omega) (evR ?_))
      rw [List.drop_eq_getElem_cons (show i < l.length by omega), List.drop_eq_nil_of_le (show m.length ≤ i by omega)]
      exact decide_eq_decide.2 (by simp only [lcp]; omega)
  | succ d ih =>
    intro i hi
    have il : i < l.length := by omega
    have im : i < m.length := by omega
    have gl : rdOf ByteArray.empty l (i : Int) = l[i] := by
      have := rdOf_get (d := ByteArray.empty) il
      rw [List.getElem?_eq_getElem il] at this
      exact (Option.some.inj this).symm
    have gm : rdOf ByteArray.empty m (i : Int) = m[i] := by
      have := rdOf_get (d := ByteArray.empty) im
      rw [List.getElem?_eq_getElem im] at this
      exact (Option.some.inj this).symm
    rw [List.drop_eq_getElem_cons il, List.drop_eq_getElem_cons im, lcp]
    refine evS (fun k => by rw [spec_l3LessPre.l0]) (evT (by omega) ?_)
    refine evS (fun k => by rw [spec_l3LessPre.j1]) ?_
    rw [gl, gm, w64s il (by omega)]
    refine evT (decide_eq_true (by omega)) (evT (by omega) (evT (by omega) (evT (by omega) ?_)))
    by_cases hc : l[i] = m[i]
    · rw [if_pos (cp_zero.2 hc)]
      exact evT (by rw [hc]) (ih (i + 1) (by omega))
    · rw [if_neg (fun e => hc (cp_zero.1 e)), ← cp_neg]
      exact evF (fun e => hc (tl_inj.1 e)) (evB (lp_spec _ _ (zl _ (List.getElem_mem il)) (zm _ (List.getElem_mem im))) (evR rfl))
theorem lpre_spec (a b : ByteArray) (ha : a.size ≤ 1048576) (hb : b.size ≤ 1048576) : Ev (fun k => spec_l3LessPre.f k a b) (decide (lcp (pieces 46 a) (pieces 46 b) < 0)) := by
  unfold spec_l3LessPre.f
  have ca := pieces_count 46 a
  have cb := pieces_count 46 b
  have hA : Ev (fun k => spec_l3Split.f k a 46) (pieces 46 a) := split_spec a ha 46
  have hB : Ev (fun k => spec_l3Split.f k b 46) (pieces 46 b) := split_spec b hb 46
  refine evB hA (evB hB ?_)
  exact lcp_spec (pieces 46 a) (pieces 46 b) (by omega) (by omega) (fun x hx => by have := pieces_mem 46 a x hx; omega) (fun x hx => by have := pieces_mem 46 b x hx; omega) _ 0 (Nat.zero_add _)
theorem less_spec (a0 a1 a2 : Int) (a3 : ByteArray) (b0 b1 b2 : Int) (b3 : ByteArray) (ha : a3.size ≤ 1048576) (hb : b3.size ≤ 1048576) :
    Ev (fun k => spec_LessVersion.f k a0 a1 a2 a3 b0 b1 b2 b3) (decide (cmpV a0 a1 a2 a3 b0 b1 b2 b3 < 0)) := by
  unfold spec_LessVersion.f cmpV
  by_cases h0 : a0 = b0
  · rw [if_pos (cmpI_zero.2 h0)]
    refine evT h0 ?_
    by_cases h1 : a1 = b1
    · rw [if_pos (cmpI_zero.2 h1)]
      refine evT h1 ?_
      by_cases h2 : a2 = b2
      · rw [if_pos (cmpI_zero.2 h2)]
        refine evT h2 ?_
        unfold cpre
        by_cases h3 : a3 = b3
        · rw [if_pos h3]
          refine evT (by rw [h3]) ?_
          refine evS (fun k => by rw [spec_LessVersion.j0]) ?_
          exact evT rfl (evR rfl)
        · rw [if_neg h3]
          refine evF (fun e => h3 (tl_inj.1 e)) ?_
          refine evS (fun k => by rw [spec_LessVersion.j0]) ?_
          by_cases h4 : a3.size = 0
          · rw [if_pos h4]
            exact evT (beq_iff_eq.2 ((nil_iff a3).2 h4)) (evR rfl)
          · rw [if_neg h4]
            refine evF (fun e => h4 ((nil_iff a3).1 (beq_iff_eq.1 e))) ?_
            by_cases h5 : b3.size = 0
            · rw [if_pos h5]
              exact evT ((nil_iff b3).2 h5) (evR rfl)
            · rw [if_neg h5]
              exact evF (fun e => h5 ((nil_iff b3).1 e)) (evB (lpre_spec a3 b3 ha hb) (evR rfl))
      · rw [if_neg (fun e => h2 (cmpI_zero.1 e))]
        exact evF h2 (evR (decide_eq_decide.2 cmpI_neg.symm))
    · rw [if_neg (fun e => h1 (cmpI_zero.1 e))]
      exact evF h1 (evR (decide_eq_decide.2 cmpI_neg.symm))
  · rw [if_neg (fun e => h0 (cmpI_zero.1 e))]
    exact evF h0 (evR (decide_eq_decide.2 cmpI_neg.symm))
end Go.Proofs.YtagbldaiedmikaaDoor.Z

/- Lists of versions, the program's way of the latest and the reference's. Plain lemmas. -/
set_option linter.unusedVariables false
namespace Go.Proofs.YtagbldaiedmikaaDoor.Z
open Go.RowKit Go.Proofs.YtagbldaiedmikaaDoorW.PrintWords Go.Proofs.YtagbldaiedmikaaDoorW.PrintMore Go.Proofs.YtagbldaiedmikaaDoor.X Go.Proofs.YtagbldaiedmikaaDoor.Sp
theorem rdV {xs : List S27} {i : Nat} (h : i < xs.length) : rd_T27 xs (i : Int) = xs[i] := by
  unfold rd_T27
  simp [List.getD_eq_getElem?_getD, h]
abbrev V4 := Int × Int × Int × ByteArray
def cmpVV (v : V4) (y : S27) : Int := cmpV v.1 v.2.1 v.2.2.1 v.2.2.2 y.f0 y.f1 y.f2 y.f3
def toV (y : S27) : V4 := (y.f0, y.f1, y.f2, y.f3)
/-- The latest of v and of those of the list. -/
def lat (v : V4) : List S27 → V4
  | [] => v
  | y :: l => lat (if cmpVV v y < 0 then toV y else v) l
theorem lat_l0 (l : List S27) (hn : l.length ≤ 1048576) (hl : ∀ y ∈ l, y.f3.size ≤ 1048576) (d : Nat) : ∀ (i : Nat) (a b c : Int) (p : ByteArray), i + d = l.length → 1 ≤ i → p.size ≤ 1048576 →
    Ev (fun k => impl_Latest.l0 k l (l.length : Int) (i : Int) a b c p) (lat (a, b, c, p) (l.drop i)) ∧ Ev (fun k => spec_Latest.l0 k l (i : Int) a b c p) (lat (a, b, c, p) (l.drop i)) := by
  induction d with
  | zero =>
    intro i a b c p hi h1 hp
    rw [List.drop_eq_nil_of_le (by omega)]
    constructor
    · refine evS (fun k => by rw [impl_Latest.l0]) ?_
      exact evF (by omega) (evR rfl)
    · refine evS (fun k => by rw [spec_Latest.l0]) ?_
      exact evF (by omega) (evR rfl)
  | succ d ih =>
    intro i a b c p hi h1 hp
    have il : i < l.length := by omega
    have hy := hl _ (List.getElem_mem il)
    rw [List.drop_eq_getElem_cons il, lat]
    have lI := less_impl a b c p l[i].f0 l[i].f1 l[i].f2 l[i].f3 hp hy
    have lS := less_spec a b c p l[i].f0 l[i].f1 l[i].f2 l[i].f3 hp hy
    by_cases hc : cmpVV (a, b, c, p) l[i] < 0
    · rw [if_pos hc]
      obtain ⟨q1, q2⟩ := ih (i + 1) l[i].f0 l[i].f1 l[i].f2 l[i].f3 (by omega) (by omega) hy
      have hd : decide (cmpV a b c p l[i].f0 l[i].f1 l[i].f2 l[i].f3 < 0) = true := decide_eq_true hc
      rw [hd] at lI lS
      constructor
      · refine evS (fun k => by rw [impl_Latest.l0]) ?_
        rw [rdV il, w64s il (by omega)]
        exact evT (by omega) (evT (by omega) (evT (by omega) (evF (by omega) (evB lI (evT rfl q1)))))
      · refine evS (fun k => by rw [spec_Latest.l0]) ?_
        rw [rdV il, w64s il (by omega)]
        exact evT (by omega) (evT (by omega) (evB lS (evT rfl q2)))
    · rw [if_neg hc]
      obtain ⟨q1, q2⟩ := ih (i + 1) a b c p (by omega) (by omega) hp
      have hd : decide (cmpV a b c p l[i].f0 l[i].f1 l[i].f2 l[i].f3 < 0) = false := decide_eq_false hc
      rw [hd] at lI lS
      constructor
      · refine evS (fun k => by rw [impl_Latest.l0]) ?_
        rw [rdV il, w64s il (by omega)]
        exact evT (by omega) (evT (by omega) (evT (by omega) (evF (by omega) (evB lI (evF Bool.false_ne_true q1)))))
      · refine evS (fun k => by rw [spec_Latest.l0]) ?_
        rw [rdV il, w64s il (by omega)]
        exact evT (by omega) (evT (by omega) (evB lS (evF Bool.false_ne_true q2)))
/-- The latest. -/
def latest : List S27 → V4
  | [] => (0, 0, 0, ⟨#[]⟩)
  | y :: l => lat (toV y) l
theorem latest_both (l : List S27) (hn : l.length ≤ 1048576) (hl : ∀ y ∈ l, y.f3.size ≤ 1048576) : Ev (fun k => impl_Latest.f k l) (latest l) ∧ Ev (fun k => spec_Latest.f k l) (latest l) := by
  unfold impl_Latest.f spec_Latest.f
  cases hc : l with
  | nil =>
    constructor
    · refine evS (fun k => by rw [impl_Latest.l0]) ?_
      exact evF (by simp) (evR rfl)
    · exact evT rfl (evR rfl)
  | cons y m =>
    rw [← hc]
    have h0 : 0 < l.length := by rw [hc]; simp
    have e0 : l[0] = y := by simp [hc]
    have ed : l.drop 1 = m := by rw [hc]; rfl
    obtain ⟨q1, q2⟩ := lat_l0 l hn hl (l.length - 1) 1 y.f0 y.f1 y.f2 y.f3 (by omega) (Nat.le_refl _) (hl y (by rw [hc]; exact List.mem_cons_self))
    rw [ed] at q1 q2
    have hr : rd_T27 l 0 = y := (rdV (i := 0) h0).trans e0
    have hlat : latest l = lat (y.f0, y.f1, y.f2, y.f3) m := by rw [hc]; rfl
    rw [hlat]
    constructor
    · refine evS (fun k => by rw [impl_Latest.l0]) ?_
      rw [hr, show wrap64 (0 + 1) = ((1 : Nat) : Int) by rw [w64 (by omega)]; rfl]
      exact evT (by omega) (evT (by omega) (evT (by omega) (evT rfl q1)))
    · rw [hr]
      exact evF (by omega) (evT (by omega) q2)
end Go.Proofs.YtagbldaiedmikaaDoor.Z

/- The law FnExactLatest, as a plain statement: the program's Latest answers as the reference's. Conditions: those of the row's reading alone. -/
namespace Go.Proofs.YtagbldaiedmikaaDoor.Pure
open Go.RowKit Go.Proofs.YtagbldaiedmikaaDoor.X Go.Proofs.YtagbldaiedmikaaDoor.Z Go.Proofs.YtagbldaiedmikaaDoorW.PrintWords Go.Proofs.YtagbldaiedmikaaDoorW.PrintLast
theorem rdL {xs : List S24} {i : Nat} (h : i < xs.length) : rd_T24 xs (i : Int) = xs[i] := by
  unfold rd_T24
  simp [List.getD_eq_getElem?_getD, h]
def cv (y : S24) : S27 := ⟨y.f0, y.f1, y.f2, y.f3⟩
theorem toV_l0 (l : List S24) (hn : l.length ≤ 1048576) (d : Nat) : ∀ (i : Nat) (m : List S27), i + d = l.length → m.length = l.length → (∀ j, j < i → m[j]? = (l.map cv)[j]?) → Ev (fun k => laws_toVersionS.l0 k l m (i : Int)) (l.map cv) := by
  induction d with
  | zero =>
    intro i m hi hm h
    refine evS (fun k => by rw [laws_toVersionS.l0]) (evF (by omega) (evR ?_))
    exact ext_get (by rw [List.length_map]; exact hm) (fun j hj => h j (by rw [List.length_map] at hj; omega))
  | succ d ih =>
    intro i m hi hm h
    have il : i < l.length := by omega
    refine evS (fun k => by rw [laws_toVersionS.l0]) ?_
    rw [rdL il, w64s il (by omega)]
    refine evT (by omega) (evT (by omega) (evC rfl (evT (by omega) ?_)))
    refine ih (i + 1) _ (by omega) (by simpa using hm) ?_
    have := set_next (x := cv l[i]) (m := l.map cv) (by rw [List.length_map]; exact hm) (by rw [List.length_map]; exact il) (by simp [il]) h
    show ∀ j, j < i + 1 → (m.set (i : Int).toNat (cv l[i]))[j]? = (l.map cv)[j]?
    rw [show ((i : Nat) : Int).toNat = i by omega]
    exact this
theorem toV_ev (l : List S24) (hn : l.length ≤ 1048576) : Ev (fun k => laws_toVersionS.f k l) (l.map cv) := by
  unfold laws_toVersionS.f
  exact evT (by omega) (evT (by omega) (toV_l0 l hn l.length 0 _ (by omega) (by simp) (by intro j hj; omega)))
theorem eqV_l0 (l : List S27) (hn : l.length ≤ 1048576) (d : Nat) : ∀ i : Nat, i + d = l.length → Ev (fun k => laws_eqVersionS.l0 k l l (i : Int)) true := by
  induction d with
  | zero =>
    intro i hi
    refine evS (fun k => by rw [laws_eqVersionS.l0]) ?_
    exact evF (by omega) (evR rfl)
  | succ d ih =>
    intro i hi
    have il : i < l.length := by omega
    refine evS (fun k => by rw [laws_eqVersionS.l0]) ?_
    rw [w64s il (by omega)]
    refine evT (by omega) (evT (by omega) (evT (by omega) (evC (a := true) ?_ (evT rfl (ih (i + 1) (by omega))))))
    unfold laws_eqVersion.f
    rw [if_pos rfl, if_pos rfl, if_pos rfl, if_pos rfl]
theorem eqV_same (l : List S27) (hn : l.length ≤ 1048576) : Ev (fun k => laws_eqVersionS.f k l l) true := by
  unfold laws_eqVersionS.f
  exact evT rfl (eqV_l0 l hn l.length 0 (by omega))
theorem szV_l0 (l : List S24) (hn : l.length ≤ 9223372036854775807) (hs : ∀ y ∈ l, y.f3.size ≤ 9223372036854775807) (d : Nat) : ∀ (i : Nat) (left : Int), i + d = l.length → 0 ≤ left → left ≤ 1048576 →
    ∃ r : Int, Ev (fun k => laws_szVersionS.l0 k l left (i : Int)) r ∧ (r < 0 ∨ 0 ≤ r ∧ ∀ y ∈ l.drop i, y.f3.size ≤ 1048576) := by
  induction d with
  | zero =>
    intro i left hi h0 h1
    refine ⟨left, ?_, .inr ⟨h0, ?_⟩⟩
    · refine evS (fun k => by rw [laws_szVersionS.l0]) ?_
      exact evF (by omega) (evR rfl)
    · rw [List.drop_eq_nil_of_le (by omega)]
      intro y hy
      cases hy
  | succ d ih =>
    intro i left hi h0 h1
    have il : i < l.length := by omega
    have hm := hs _ (List.getElem_mem il)
    have hw : wrap64 (left - (l[i].f3.size : Int)) = left - (l[i].f3.size : Int) := w64 (by omega)
    by_cases hlt : left - (l[i].f3.size : Int) < 0
    · refine ⟨-1, ?_, .inl (by omega)⟩
      refine evS (fun k => by rw [laws_szVersionS.l0]) ?_
      rw [rdL il]
      exact evT (by omega) (evT (by omega) (evC (a := -1) (by unfold laws_szVersion.f; rw [hw, if_pos hlt]) (evT (by omega) (evR rfl))))
    · obtain ⟨r, hr, hr2⟩ := ih (i + 1) (left - (l[i].f3.size : Int)) (by omega) (by omega) (by omega)
      refine ⟨r, ?_, ?_⟩
      · refine evS (fun k => by rw [laws_szVersionS.l0]) ?_
        rw [rdL il, w64s il (by omega)]
        exact evT (by omega) (evT (by omega) (evC (a := left - (l[i].f3.size : Int)) (by unfold laws_szVersion.f; rw [hw, if_neg hlt]) (evF hlt hr)))
      · rcases hr2 with h | ⟨h, h'⟩
        · exact .inl h
        · refine .inr ⟨h, ?_⟩
          rw [List.drop_eq_getElem_cons il]
          intro y hy
          rcases List.mem_cons.1 hy with rfl | hy
          · omega
          · exact h' y hy
theorem FnExactLatest : laws_FnExactLatest.Pure := by
  intro l hl hy
  refine Ev.rounds ?_
  unfold laws_FnExactLatest.f
  unfold maxLen at hl hy
  have e1 : wrap64 ((1048576 : Int) - (l.length : Int)) = 1048576 - (l.length : Int) := w64 (by omega)
  by_cases h1 : (1048576 : Int) - (l.length : Int) < 0
  · refine evB (a := -1) ?_ (evT (by omega) (evR rfl))
    unfold laws_szVersionS.f
    rw [e1]
    exact evT h1 (evR rfl)
  obtain ⟨r, hr, hr2⟩ := szV_l0 l (by omega) (fun y h => by have := (hy y h).2.2.2; omega) l.length 0 (1048576 - (l.length : Int)) (by omega) (by omega) (by omega)
  have hr' : Ev (fun k => laws_szVersionS.f k l 1048576) r := by
    unfold laws_szVersionS.f
    rw [e1]
    exact evF h1 hr
  refine evB hr' ?_
  rcases hr2 with h | ⟨h, h'⟩
  · exact evT h (evR rfl)
  refine evF (by omega) ?_
  rw [List.drop_zero] at h'
  have hn : l.length ≤ 1048576 := by omega
  have hT := toV_ev l hn
  obtain ⟨hI, hS⟩ := latest_both (l.map cv) (by rw [List.length_map]; exact hn) (fun y h2 => by
    obtain ⟨z, hz, rfl⟩ := List.mem_map.1 h2
    exact h' z hz)
  refine evB hT (evB hS (evB hT (evB hI (evC (a := true) ?_ (evT rfl (evB hT (evB (eqV_same _ (by rw [List.length_map]; exact hn)) (evT rfl (evR rfl)))))))))
  unfold laws_eqVersion.f
  rw [if_pos rfl, if_pos rfl, if_pos rfl, if_pos rfl]
end Go.Proofs.YtagbldaiedmikaaDoor.Pure

/- Values that come in as data (strings' slices, structs, slices of structs, nested) are of the printer's kinds: one lemma a make of type. Plain lemmas for the rows of laws over such parameters. No conditions beyond what each lemma names. -/
set_option linter.unusedVariables false
namespace Go.Proofs.YtagbldaiedmikaaDoor.Y
open Go.RowKit Go.Proofs.YtagbldaiedmikaaDoorW.PrintWords Go.ChangeShapes Go.WideShapes Go.Deep

/-- What is read as data of type T is of kind d, and G holds of what it says. -/
def Opn {α : Type} (P : Program) (d : Kd α) (T : TypeId) (G : α → Prop) : Prop :=
  ∀ {H : Type} (enc : TypeId × Value → H) (w : World) (spare : Nat → Bool) (held : Bool) (fuel : Nat) (cs : List Value) (x : DataW H × List MemPlace), DataW.trod enc P w 0 spare held fuel T cs = some x → ∃ y, d.K w y cs ∧ G y

theorem Opn.int {P : Program} {T : TypeId} {k : IntKind} (h : P.underlying T = some (.int k)) : Opn P (Kd.int k) T (fun n => (Lit.int k n).wf = true) := by
  intro H enc w spare held fuel cs x hx
  obtain ⟨n, rfl, _, hn⟩ := DataW.trod_int h hx
  exact ⟨n, rfl, hn⟩
theorem Opn.bool {P : Program} {T : TypeId} (h : P.underlying T = some .bool) : Opn P Kd.bool T (fun _ => True) := by
  intro H enc w spare held fuel cs x hx
  obtain ⟨n, rfl, _⟩ := DataW.trod_bool h hx
  exact ⟨n, rfl, trivial⟩
theorem Opn.string {P : Program} {T : TypeId} (h : P.underlying T = some .string) : Opn P Kd.string T (fun s => s.size ≤ maxLen) := by
  intro H enc w spare held fuel cs x hx
  obtain ⟨s, rfl, _, hs⟩ := DataW.trod_string h hx
  exact ⟨s, rfl, hs⟩
theorem Opn.slice {α : Type} {P : Program} {d : Kd α} {T e : TypeId} {G : α → Prop} [Inhabited α] (h : P.underlying T = some (.slice e)) (he : P.cellsOf e = d.sz) (ho : Opn P d e G) :
    Opn P (Kd.slice e d) T (fun l => l.length ≤ maxLen ∧ ∀ y, y ∈ l → G y) := by
  intro H enc w spare held fuel cs x hx
  rcases open_slice h hx with ⟨rfl, _⟩ | ⟨a, len, cap, m, n, D, Pl, rfl, _, hl, hm, hmm, _, hel⟩
  · exact ⟨[], ⟨none, 0, rfl, Nat.le_refl _, rfl, by simp, fun hn => absurd hn (Nat.lt_irrefl 0)⟩, by simp, fun y hy => by cases hy⟩
  · have hlm : len ≤ m := by rw [hmm]; split <;> omega
    have each : ∀ i, i < len → ∃ y, (∃ c, c.length = d.sz ∧ d.K w y c ∧ ∀ j u, c[j]? = some u → w.cell? (a.add (i * d.sz + j)) = some u) ∧ G y := by
      intro i hi
      obtain ⟨c, hc, ht⟩ := hel i (by omega)
      obtain ⟨y, hk, hg⟩ := ho enc w spare held n c _ ht
      obtain ⟨_, hlen, hcell⟩ := World.cells?_some hc
      refine ⟨y, ⟨c, hlen.trans he, hk, fun j u hu => ?_⟩, hg⟩
      have hj : j < P.cellsOf e := by rw [← hlen]; exact (List.getElem?_eq_some_iff.1 hu).1
      have := hcell j hj
      rw [Go.Deep.add_add, hu, he] at this
      exact this
    obtain ⟨f, hf⟩ := choose_lt each
    have hlen : ((List.range len).map f).length = len := by simp
    have hm' : len ≤ maxLen := Nat.le_trans hl hm
    refine ⟨(List.range len).map f, ⟨some a, cap, by rw [hlen], by rw [hlen]; exact hl, by rw [hlen], by rw [hlen]; unfold maxLen at hm'; exact hm', fun _ => ⟨a, rfl, fun j p hp => ?_⟩⟩, by rw [hlen]; exact hm', fun y hy => ?_⟩
    · obtain ⟨hj, rfl⟩ := List.getElem?_eq_some_iff.1 hp
      rw [hlen] at hj
      simp only [List.getElem_map, List.getElem_range]
      exact (hf j hj).1
    · obtain ⟨i, hi, rfl⟩ := List.mem_map.1 hy
      exact (hf i (List.mem_range.1 hi)).2

/-- The fields from cell 'off' on. -/
def FOpn {α : Type} (P : Program) (d : Kd α) (off : Nat) (fs : List Field) (G : α → Prop) : Prop :=
  ∀ {H : Type} (enc : TypeId × Value → H) (w : World) (spare : Nat → Bool) (held : Bool) (fuel : Nat) (cs : List Value),
    (∀ f, f ∈ fs → ∃ x, DataW.trod enc P w 0 spare held fuel f.type ((cs.drop f.offset).take (P.cellsOf f.type)) = some x) → cs.length = off + d.sz → ∃ y, d.K w y (cs.drop off) ∧ G y
theorem FOpn.one {α : Type} {P : Program} {d : Kd α} {off : Nat} {f : Field} {G : α → Prop} (hf : f.offset = off) (hc : P.cellsOf f.type = d.sz) (ho : Opn P d f.type G) : FOpn P d off [f] G := by
  intro H enc w spare held fuel cs hx hl
  obtain ⟨x, hx⟩ := hx f (by simp)
  rw [hf, hc, List.take_of_length_le (by simp; omega)] at hx
  exact ho enc w spare held fuel _ x hx
theorem FOpn.cons {α β : Type} {P : Program} {d : Kd α} {d' : Kd β} {off : Nat} {f : Field} {fs : List Field} {G : α → Prop} {G' : β → Prop} (hf : f.offset = off) (hc : P.cellsOf f.type = d.sz) (ho : Opn P d f.type G)
    (hs : FOpn P d' (off + d.sz) fs G') : FOpn P (Kd.pair d d') off (f :: fs) (fun y => G y.1 ∧ G' y.2) := by
  intro H enc w spare held fuel cs hx hl
  have hl' : cs.length = off + (d.sz + d'.sz) := hl
  obtain ⟨x, h1⟩ := hx f (by simp)
  rw [hf, hc] at h1
  obtain ⟨y, hy, gy⟩ := ho enc w spare held fuel _ x h1
  obtain ⟨z, hz, gz⟩ := hs enc w spare held fuel cs (fun g hg => hx g (List.mem_cons_of_mem _ hg)) (by omega)
  refine ⟨(y, z), ⟨_, _, ?_, hy, hz⟩, gy, gz⟩
  rw [← List.drop_drop, List.take_append_drop]
theorem Opn.struct {α β : Type} {P : Program} {d : Kd α} {T : TypeId} {fs : Array Field} {fl : List Field} {G : α → Prop} {G' : β → Prop} {proj : β → α} (mk : α → β) (h : P.underlying T = some (.struct fs)) (hfl : fs.toList = fl) (hc : P.cellsOf T = d.sz)
    (hmk : ∀ y, proj (mk y) = y) (hG : ∀ y, G y → G' (mk y)) (hs : FOpn P d 0 fl G) : Opn P (Kd.iso d proj) T G' := by
  intro H enc w spare held fuel cs x hx
  obtain ⟨xs, n, rfl, _, hlen, hxs, hall⟩ := DataW.trod_struct h hx
  obtain ⟨y, hy, gy⟩ := hs enc w spare held n cs (fun f hf => by
    rw [← hfl] at hf
    obtain ⟨i, hi, he⟩ := List.getElem_of_mem hf
    have hi' : i < fs.size := by simpa using hi
    have h1 : fs[i]? = some f := by rw [Array.getElem?_eq_getElem hi']; simpa using he
    exact ⟨_, (hall i f h1).trans (List.getElem?_eq_getElem (by omega))⟩) (by rw [hlen, hc, Nat.zero_add])
  refine ⟨mk y, ?_, hG y gy⟩
  show d.K w (proj (mk y)) cs
  rw [hmk]
  exact hy

/-- A parameter that is a slice. -/
theorem Opn.arg_slice {α : Type} {P : Program} {d : Kd α} {T e : TypeId} {G : α → Prop} [Inhabited α] (h : P.underlying T = some (.slice e)) (he : P.cellsOf e = d.sz) (ho : Opn P d e G)
    {H : Type} {enc : TypeId × Value → H} {w : World} {spare : Nat → Bool} {held : Bool} {v : Value} {D : DataW H} {ps : List MemPlace} {r : Reach} {b : Nat} (hv : Value.okWide P w r b T v) (hx : DataW.Trod enc P w 0 spare held T v D ps) :
    ∃ (A : Option Addr) (c : Nat) (l : List α), v = .slice A l.length c ∧ l.length ≤ c ∧ d.C w A l.length l ∧ l.length ≤ maxLen ∧ ∀ y, y ∈ l → G y := by
  obtain ⟨a, len, cap, rfl⟩ := okWide_slice h hv
  obtain ⟨fuel, hf⟩ := hx
  obtain ⟨l, ⟨A, c, hcs, hlc, hC⟩, hg1, hg2⟩ := Opn.slice h he ho enc w spare held fuel _ _ hf
  have hcs' : [Value.slice a len cap] = [Value.slice A l.length c] := hcs
  injection hcs' with h1 _
  exact ⟨A, c, l, h1, hlc, hC, hg1, hg2⟩
/-- A parameter that is a struct. -/
theorem Opn.arg_struct {α : Type} {P : Program} {d : Kd α} {T : TypeId} {G : α → Prop} {fs : Array Field} (hu : P.underlying T = some (.struct fs)) (ho : Opn P d T G)
    {H : Type} {enc : TypeId × Value → H} {w : World} {spare : Nat → Bool} {held : Bool} {v : Value} {D : DataW H} {ps : List MemPlace} {r : Reach} {b : Nat} (hv : Value.okWide P w r b T v) (hx : DataW.Trod enc P w 0 spare held T v D ps) :
    ∃ (cs : List Value) (y : α), v = .agg cs.toArray ∧ d.K w y cs ∧ G y := by
  obtain ⟨cs, rfl, _⟩ := okWide_struct hu hv
  obtain ⟨fuel, hf⟩ := hx
  obtain ⟨y, hk, hg⟩ := ho enc w spare held fuel _ _ hf
  exact ⟨cs.toList, y, by simp, hk, hg⟩
end Go.Proofs.YtagbldaiedmikaaDoor.Y

/- Three closed facts of the rows of this seat (how the program may be entered), by the first words of the translation's head row. No conditions. -/
namespace Go.Proofs.YtagbldaiedmikaaDoor.Y
open Go.ChangeShapes Go.WideShapes Go.ChangeAt Go.RowKit
def tailSigns : List Char := [Char.ofNat 108, Char.ofNat 111, Char.ofNat 111, Char.ofNat 112, Char.ofNat 46, Char.ofNat 101, Char.ofNat 120, Char.ofNat 97, Char.ofNat 109, Char.ofNat 112, Char.ofNat 108, Char.ofNat 101, Char.ofNat 47, Char.ofNat 103, Char.ofNat 48, Char.ofNat 48, Char.ofNat 50, Char.ofNat 51, Char.ofNat 51, Char.ofNat 47, Char.ofNat 108, Char.ofNat 97, Char.ofNat 119, Char.ofNat 115, Char.ofNat 46, Char.ofNat 70, Char.ofNat 110, Char.ofNat 69, Char.ofNat 120, Char.ofNat 97, Char.ofNat 99, Char.ofNat 116, Char.ofNat 80, Char.ofNat 97, Char.ofNat 116, Char.ofNat 104, Char.ofNat 79, Char.ofNat 107, Char.ofNat 32, Char.ofNat 108, Char.ofNat 111, Char.ofNat 111, Char.ofNat 112, Char.ofNat 46, Char.ofNat 101, Char.ofNat 120, Char.ofNat 97, Char.ofNat 109, Char.ofNat 112, Char.ofNat 108, Char.ofNat 101, Char.ofNat 47, Char.ofNat 103, Char.ofNat 48, Char.ofNat 48, Char.ofNat 50, Char.ofNat 51, Char.ofNat 51, Char.ofNat 47, Char.ofNat 108, Char.ofNat 97, Char.ofNat 119, Char.ofNat 115, Char.ofNat 46, Char.ofNat 70, Char.ofNat 110, Char.ofNat 69, Char.ofNat 120, Char.ofNat 97, Char.ofNat 99, Char.ofNat 116, Char.ofNat 86, Char.ofNat 101, Char.ofNat 114, Char.ofNat 115, Char.ofNat 105, Char.ofNat 111, Char.ofNat 110, Char.ofNat 79, Char.ofNat 107, Char.ofNat 32, Char.ofNat 108, Char.ofNat 111, Char.ofNat 111, Char.ofNat 112, Char.ofNat 46, Char.ofNat 101, Char.ofNat 120, Char.ofNat 97, Char.ofNat 109, Char.ofNat 112, Char.ofNat 108, Char.ofNat 101, Char.ofNat 47, Char.ofNat 103, Char.ofNat 48, Char.ofNat 48, Char.ofNat 50, Char.ofNat 51, Char.ofNat 51, Char.ofNat 47, Char.ofNat 108, Char.ofNat 97, Char.ofNat 119, Char.ofNat 115, Char.ofNat 46, Char.ofNat 70, Char.ofNat 110, Char.ofNat 69, Char.ofNat 120, Char.ofNat 97, Char.ofNat 99, Char.ofNat 116, Char.ofNat 66, Char.ofNat 117, Char.ofNat 109, Char.ofNat 112, Char.ofNat 32, Char.ofNat 108, Char.ofNat 111, Char.ofNat 111, Char.ofNat 112, Char.ofNat 46, Char.ofNat 101, Char.ofNat 120, Char.ofNat 97, Char.ofNat 109, Char.ofNat 112, Char.ofNat 108, Char.ofNat 101, Char.ofNat 47, Char.ofNat 103, Char.ofNat 48, Char.ofNat 48, Char.ofNat 50, Char.ofNat 51, Char.ofNat 51, Char.ofNat 47, Char.ofNat 108, Char.ofNat 97, Char.ofNat 119, Char.ofNat 115, Char.ofNat 46, Char.ofNat 70, Char.ofNat 110, Char.ofNat 69, Char.ofNat 120, Char.ofNat 97, Char.ofNat 99, Char.ofNat 116, Char.ofNat 76, Char.ofNat 101, Char.ofNat 115, Char.ofNat 115, Char.ofNat 86, Char.ofNat 101, Char.ofNat 114, Char.ofNat 115, Char.ofNat 105, Char.ofNat 111, Char.ofNat 110, Char.ofNat 32, Char.ofNat 108, Char.ofNat 111, Char.ofNat 111, Char.ofNat 112, Char.ofNat 46, Char.ofNat 101, Char.ofNat 120, Char.ofNat 97, Char.ofNat 109, Char.ofNat 112, Char.ofNat 108, Char.ofNat 101, Char.ofNat 47, Char.ofNat 103, Char.ofNat 48, Char.ofNat 48, Char.ofNat 50, Char.ofNat 51, Char.ofNat 51, Char.ofNat 47, Char.ofNat 108, Char.ofNat 97, Char.ofNat 119, Char.ofNat 115, Char.ofNat 46, Char.ofNat 70, Char.ofNat 110, Char.ofNat 80, Char.ofNat 114, Char.ofNat 101, Char.ofNat 32, Char.ofNat 108, Char.ofNat 111, Char.ofNat 111, Char.ofNat 112, Char.ofNat 46, Char.ofNat 101, Char.ofNat 120, Char.ofNat 97, Char.ofNat 109, Char.ofNat 112, Char.ofNat 108, Char.ofNat 101, Char.ofNat 47, Char.ofNat 103, Char.ofNat 48, Char.ofNat 48, Char.ofNat 50, Char.ofNat 51, Char.ofNat 51, Char.ofNat 47, Char.ofNat 108, Char.ofNat 97, Char.ofNat 119, Char.ofNat 115, Char.ofNat 46, Char.ofNat 70, Char.ofNat 110, Char.ofNat 79, Char.ofNat 114, Char.ofNat 100, Char.ofNat 101, Char.ofNat 114, Char.ofNat 32, Char.ofNat 108, Char.ofNat 111, Char.ofNat 111, Char.ofNat 112, Char.ofNat 46, Char.ofNat 101, Char.ofNat 120, Char.ofNat 97, Char.ofNat 109, Char.ofNat 112, Char.ofNat 108, Char.ofNat 101, Char.ofNat 47, Char.ofNat 103, Char.ofNat 48, Char.ofNat 48, Char.ofNat 50, Char.ofNat 51, Char.ofNat 51, Char.ofNat 47, Char.ofNat 108, Char.ofNat 97, Char.ofNat 119, Char.ofNat 115, Char.ofNat 46, Char.ofNat 70, Char.ofNat 110, Char.ofNat 69, Char.ofNat 120, Char.ofNat 97, Char.ofNat 99, Char.ofNat 116, Char.ofNat 76, Char.ofNat 97, Char.ofNat 116, Char.ofNat 101, Char.ofNat 115, Char.ofNat 116, Char.ofNat 32, Char.ofNat 108, Char.ofNat 111, Char.ofNat 111, Char.ofNat 112, Char.ofNat 46, Char.ofNat 101, Char.ofNat 120, Char.ofNat 97, Char.ofNat 109, Char.ofNat 112, Char.ofNat 108, Char.ofNat 101, Char.ofNat 47, Char.ofNat 103, Char.ofNat 48, Char.ofNat 48, Char.ofNat 50, Char.ofNat 51, Char.ofNat 51, Char.ofNat 47, Char.ofNat 108, Char.ofNat 97, Char.ofNat 119, Char.ofNat 115, Char.ofNat 46, Char.ofNat 70, Char.ofNat 110, Char.ofNat 76, Char.ofNat 97, Char.ofNat 116, Char.ofNat 101, Char.ofNat 115, Char.ofNat 116, Char.ofNat 32, Char.ofNat 108, Char.ofNat 111, Char.ofNat 111, Char.ofNat 112, Char.ofNat 46, Char.ofNat 101, Char.ofNat 120, Char.ofNat 97, Char.ofNat 109, Char.ofNat 112, Char.ofNat 108, Char.ofNat 101, Char.ofNat 47, Char.ofNat 103, Char.ofNat 48, Char.ofNat 48, Char.ofNat 50, Char.ofNat 51, Char.ofNat 51, Char.ofNat 47, Char.ofNat 108, Char.ofNat 97, Char.ofNat 119, Char.ofNat 115, Char.ofNat 46, Char.ofNat 70, Char.ofNat 110, Char.ofNat 69, Char.ofNat 120, Char.ofNat 97, Char.ofNat 99, Char.ofNat 116, Char.ofNat 86, Char.ofNat 101, Char.ofNat 114, Char.ofNat 115, Char.ofNat 105, Char.ofNat 111, Char.ofNat 110, Char.ofNat 84, Char.ofNat 101, Char.ofNat 120, Char.ofNat 116, Char.ofNat 32, Char.ofNat 108, Char.ofNat 111, Char.ofNat 111, Char.ofNat 112, Char.ofNat 46, Char.ofNat 101, Char.ofNat 120, Char.ofNat 97, Char.ofNat 109, Char.ofNat 112, Char.ofNat 108, Char.ofNat 101, Char.ofNat 47, Char.ofNat 103, Char.ofNat 48, Char.ofNat 48, Char.ofNat 50, Char.ofNat 51, Char.ofNat 51, Char.ofNat 47, Char.ofNat 108, Char.ofNat 97, Char.ofNat 119, Char.ofNat 115, Char.ofNat 46, Char.ofNat 70, Char.ofNat 110, Char.ofNat 69, Char.ofNat 120, Char.ofNat 97, Char.ofNat 99, Char.ofNat 116, Char.ofNat 77, Char.ofNat 97, Char.ofNat 106, Char.ofNat 111, Char.ofNat 114, Char.ofNat 79, Char.ofNat 102, Char.ofNat 32, Char.ofNat 108, Char.ofNat 111, Char.ofNat 111, Char.ofNat 112, Char.ofNat 46, Char.ofNat 101, Char.ofNat 120, Char.ofNat 97, Char.ofNat 109, Char.ofNat 112, Char.ofNat 108, Char.ofNat 101, Char.ofNat 47, Char.ofNat 103, Char.ofNat 48, Char.ofNat 48, Char.ofNat 50, Char.ofNat 51, Char.ofNat 51, Char.ofNat 47, Char.ofNat 108, Char.ofNat 97, Char.ofNat 119, Char.ofNat 115, Char.ofNat 46, Char.ofNat 70, Char.ofNat 110, Char.ofNat 69, Char.ofNat 120, Char.ofNat 97, Char.ofNat 99, Char.ofNat 116, Char.ofNat 66, Char.ofNat 97, Char.ofNat 115, Char.ofNat 101, Char.ofNat 32, Char.ofNat 108, Char.ofNat 111, Char.ofNat 111, Char.ofNat 112, Char.ofNat 46, Char.ofNat 101, Char.ofNat 120, Char.ofNat 97, Char.ofNat 109, Char.ofNat 112, Char.ofNat 108, Char.ofNat 101, Char.ofNat 47, Char.ofNat 103, Char.ofNat 48, Char.ofNat 48, Char.ofNat 50, Char.ofNat 51, Char.ofNat 51, Char.ofNat 47, Char.ofNat 108, Char.ofNat 97, Char.ofNat 119, Char.ofNat 115, Char.ofNat 46, Char.ofNat 70, Char.ofNat 110, Char.ofNat 69, Char.ofNat 120, Char.ofNat 97, Char.ofNat 99, Char.ofNat 116, Char.ofNat 80, Char.ofNat 97, Char.ofNat 114, Char.ofNat 115, Char.ofNat 101, Char.ofNat 86, Char.ofNat 101, Char.ofNat 114, Char.ofNat 115, Char.ofNat 105, Char.ofNat 111, Char.ofNat 110]
set_option maxRecDepth 100000 in
theorem initOrder_lit : Tryd.pinned.checked.prog.initOrder = "harness 8854c4987ba7e5863879e1c1f3e5572041dc37068018b6f4d5d9faa1d5368be2 cut at loop.example/g00233/laws.FnExactPathOk loop.example/g00233/laws.FnExactVersionOk loop.example/g00233/laws.FnExactBump loop.example/g00233/laws.FnExactLessVersion loop.example/g00233/laws.FnPre loop.example/g00233/laws.FnOrder loop.example/g00233/laws.FnExactLatest loop.example/g00233/laws.FnLatest loop.example/g00233/laws.FnExactVersionText loop.example/g00233/laws.FnExactMajorOf loop.example/g00233/laws.FnExactBase loop.example/g00233/laws.FnExactParseVersion" := by kernel_rfl
set_option maxRecDepth 100000 in
theorem lit_list : ("harness 8854c4987ba7e5863879e1c1f3e5572041dc37068018b6f4d5d9faa1d5368be2 cut at loop.example/g00233/laws.FnExactPathOk loop.example/g00233/laws.FnExactVersionOk loop.example/g00233/laws.FnExactBump loop.example/g00233/laws.FnExactLessVersion loop.example/g00233/laws.FnPre loop.example/g00233/laws.FnOrder loop.example/g00233/laws.FnExactLatest loop.example/g00233/laws.FnLatest loop.example/g00233/laws.FnExactVersionText loop.example/g00233/laws.FnExactMajorOf loop.example/g00233/laws.FnExactBase loop.example/g00233/laws.FnExactParseVersion" : String) = String.ofList (Char.ofNat 104 :: Char.ofNat 97 :: Char.ofNat 114 :: Char.ofNat 110 :: Char.ofNat 101 :: Char.ofNat 115 :: Char.ofNat 115 :: Char.ofNat 32 :: Char.ofNat 56 :: Char.ofNat 56 :: Char.ofNat 53 :: Char.ofNat 52 :: Char.ofNat 99 :: Char.ofNat 52 :: Char.ofNat 57 :: Char.ofNat 56 :: Char.ofNat 55 :: Char.ofNat 98 :: Char.ofNat 97 :: Char.ofNat 55 :: Char.ofNat 101 :: Char.ofNat 53 :: Char.ofNat 56 :: Char.ofNat 54 :: Char.ofNat 51 :: Char.ofNat 56 :: Char.ofNat 55 :: Char.ofNat 57 :: Char.ofNat 101 :: Char.ofNat 49 :: Char.ofNat 99 :: Char.ofNat 49 :: Char.ofNat 102 :: Char.ofNat 51 :: Char.ofNat 101 :: Char.ofNat 53 :: Char.ofNat 53 :: Char.ofNat 55 :: Char.ofNat 50 :: Char.ofNat 48 :: Char.ofNat 52 :: Char.ofNat 49 :: Char.ofNat 100 :: Char.ofNat 99 :: Char.ofNat 51 :: Char.ofNat 55 :: Char.ofNat 48 :: Char.ofNat 54 :: Char.ofNat 56 :: Char.ofNat 48 :: Char.ofNat 49 :: Char.ofNat 56 :: Char.ofNat 98 :: Char.ofNat 54 :: Char.ofNat 102 :: Char.ofNat 52 :: Char.ofNat 100 :: Char.ofNat 53 :: Char.ofNat 100 :: Char.ofNat 57 :: Char.ofNat 102 :: Char.ofNat 97 :: Char.ofNat 97 :: Char.ofNat 49 :: Char.ofNat 100 :: Char.ofNat 53 :: Char.ofNat 51 :: Char.ofNat 54 :: Char.ofNat 56 :: Char.ofNat 98 :: Char.ofNat 101 :: Char.ofNat 50 :: Char.ofNat 32 :: Char.ofNat 99 :: Char.ofNat 117 :: Char.ofNat 116 :: Char.ofNat 32 :: Char.ofNat 97 :: Char.ofNat 116 :: Char.ofNat 32 :: tailSigns) := by kernel_rfl
theorem initOrder_list : Tryd.pinned.checked.prog.initOrder.toList = Char.ofNat 104 :: Char.ofNat 97 :: Char.ofNat 114 :: Char.ofNat 110 :: Char.ofNat 101 :: Char.ofNat 115 :: Char.ofNat 115 :: Char.ofNat 32 :: Char.ofNat 56 :: Char.ofNat 56 :: Char.ofNat 53 :: Char.ofNat 52 :: Char.ofNat 99 :: Char.ofNat 52 :: Char.ofNat 57 :: Char.ofNat 56 :: Char.ofNat 55 :: Char.ofNat 98 :: Char.ofNat 97 :: Char.ofNat 55 :: Char.ofNat 101 :: Char.ofNat 53 :: Char.ofNat 56 :: Char.ofNat 54 :: Char.ofNat 51 :: Char.ofNat 56 :: Char.ofNat 55 :: Char.ofNat 57 :: Char.ofNat 101 :: Char.ofNat 49 :: Char.ofNat 99 :: Char.ofNat 49 :: Char.ofNat 102 :: Char.ofNat 51 :: Char.ofNat 101 :: Char.ofNat 53 :: Char.ofNat 53 :: Char.ofNat 55 :: Char.ofNat 50 :: Char.ofNat 48 :: Char.ofNat 52 :: Char.ofNat 49 :: Char.ofNat 100 :: Char.ofNat 99 :: Char.ofNat 51 :: Char.ofNat 55 :: Char.ofNat 48 :: Char.ofNat 54 :: Char.ofNat 56 :: Char.ofNat 48 :: Char.ofNat 49 :: Char.ofNat 56 :: Char.ofNat 98 :: Char.ofNat 54 :: Char.ofNat 102 :: Char.ofNat 52 :: Char.ofNat 100 :: Char.ofNat 53 :: Char.ofNat 100 :: Char.ofNat 57 :: Char.ofNat 102 :: Char.ofNat 97 :: Char.ofNat 97 :: Char.ofNat 49 :: Char.ofNat 100 :: Char.ofNat 53 :: Char.ofNat 51 :: Char.ofNat 54 :: Char.ofNat 56 :: Char.ofNat 98 :: Char.ofNat 101 :: Char.ofNat 50 :: Char.ofNat 32 :: Char.ofNat 99 :: Char.ofNat 117 :: Char.ofNat 116 :: Char.ofNat 32 :: Char.ofNat 97 :: Char.ofNat 116 :: Char.ofNat 32 :: tailSigns := (congrArg String.toList (initOrder_lit.trans lit_list)).trans String.toList_ofList
theorem words_at (r : List Char) : wordsSigns (Char.ofNat 104 :: Char.ofNat 97 :: Char.ofNat 114 :: Char.ofNat 110 :: Char.ofNat 101 :: Char.ofNat 115 :: Char.ofNat 115 :: Char.ofNat 32 :: Char.ofNat 56 :: Char.ofNat 56 :: Char.ofNat 53 :: Char.ofNat 52 :: Char.ofNat 99 :: Char.ofNat 52 :: Char.ofNat 57 :: Char.ofNat 56 :: Char.ofNat 55 :: Char.ofNat 98 :: Char.ofNat 97 :: Char.ofNat 55 :: Char.ofNat 101 :: Char.ofNat 53 :: Char.ofNat 56 :: Char.ofNat 54 :: Char.ofNat 51 :: Char.ofNat 56 :: Char.ofNat 55 :: Char.ofNat 57 :: Char.ofNat 101 :: Char.ofNat 49 :: Char.ofNat 99 :: Char.ofNat 49 :: Char.ofNat 102 :: Char.ofNat 51 :: Char.ofNat 101 :: Char.ofNat 53 :: Char.ofNat 53 :: Char.ofNat 55 :: Char.ofNat 50 :: Char.ofNat 48 :: Char.ofNat 52 :: Char.ofNat 49 :: Char.ofNat 100 :: Char.ofNat 99 :: Char.ofNat 51 :: Char.ofNat 55 :: Char.ofNat 48 :: Char.ofNat 54 :: Char.ofNat 56 :: Char.ofNat 48 :: Char.ofNat 49 :: Char.ofNat 56 :: Char.ofNat 98 :: Char.ofNat 54 :: Char.ofNat 102 :: Char.ofNat 52 :: Char.ofNat 100 :: Char.ofNat 53 :: Char.ofNat 100 :: Char.ofNat 57 :: Char.ofNat 102 :: Char.ofNat 97 :: Char.ofNat 97 :: Char.ofNat 49 :: Char.ofNat 100 :: Char.ofNat 53 :: Char.ofNat 51 :: Char.ofNat 54 :: Char.ofNat 56 :: Char.ofNat 98 :: Char.ofNat 101 :: Char.ofNat 50 :: Char.ofNat 32 :: Char.ofNat 99 :: Char.ofNat 117 :: Char.ofNat 116 :: Char.ofNat 32 :: Char.ofNat 97 :: Char.ofNat 116 :: Char.ofNat 32 :: r) = [Char.ofNat 104, Char.ofNat 97, Char.ofNat 114, Char.ofNat 110, Char.ofNat 101, Char.ofNat 115, Char.ofNat 115] :: [Char.ofNat 56, Char.ofNat 56, Char.ofNat 53, Char.ofNat 52, Char.ofNat 99, Char.ofNat 52, Char.ofNat 57, Char.ofNat 56, Char.ofNat 55, Char.ofNat 98, Char.ofNat 97, Char.ofNat 55, Char.ofNat 101, Char.ofNat 53, Char.ofNat 56, Char.ofNat 54, Char.ofNat 51, Char.ofNat 56, Char.ofNat 55, Char.ofNat 57, Char.ofNat 101, Char.ofNat 49, Char.ofNat 99, Char.ofNat 49, Char.ofNat 102, Char.ofNat 51, Char.ofNat 101, Char.ofNat 53, Char.ofNat 53, Char.ofNat 55, Char.ofNat 50, Char.ofNat 48, Char.ofNat 52, Char.ofNat 49, Char.ofNat 100, Char.ofNat 99, Char.ofNat 51, Char.ofNat 55, Char.ofNat 48, Char.ofNat 54, Char.ofNat 56, Char.ofNat 48, Char.ofNat 49, Char.ofNat 56, Char.ofNat 98, Char.ofNat 54, Char.ofNat 102, Char.ofNat 52, Char.ofNat 100, Char.ofNat 53, Char.ofNat 100, Char.ofNat 57, Char.ofNat 102, Char.ofNat 97, Char.ofNat 97, Char.ofNat 49, Char.ofNat 100, Char.ofNat 53, Char.ofNat 51, Char.ofNat 54, Char.ofNat 56, Char.ofNat 98, Char.ofNat 101, Char.ofNat 50] :: [Char.ofNat 99, Char.ofNat 117, Char.ofNat 116] :: [Char.ofNat 97, Char.ofNat 116] :: wordsSigns r := by kernel_rfl
theorem behind_at (t : List (List Char)) : behindMainWord ([Char.ofNat 104, Char.ofNat 97, Char.ofNat 114, Char.ofNat 110, Char.ofNat 101, Char.ofNat 115, Char.ofNat 115] :: [Char.ofNat 56, Char.ofNat 56, Char.ofNat 53, Char.ofNat 52, Char.ofNat 99, Char.ofNat 52, Char.ofNat 57, Char.ofNat 56, Char.ofNat 55, Char.ofNat 98, Char.ofNat 97, Char.ofNat 55, Char.ofNat 101, Char.ofNat 53, Char.ofNat 56, Char.ofNat 54, Char.ofNat 51, Char.ofNat 56, Char.ofNat 55, Char.ofNat 57, Char.ofNat 101, Char.ofNat 49, Char.ofNat 99, Char.ofNat 49, Char.ofNat 102, Char.ofNat 51, Char.ofNat 101, Char.ofNat 53, Char.ofNat 53, Char.ofNat 55, Char.ofNat 50, Char.ofNat 48, Char.ofNat 52, Char.ofNat 49, Char.ofNat 100, Char.ofNat 99, Char.ofNat 51, Char.ofNat 55, Char.ofNat 48, Char.ofNat 54, Char.ofNat 56, Char.ofNat 48, Char.ofNat 49, Char.ofNat 56, Char.ofNat 98, Char.ofNat 54, Char.ofNat 102, Char.ofNat 52, Char.ofNat 100, Char.ofNat 53, Char.ofNat 100, Char.ofNat 57, Char.ofNat 102, Char.ofNat 97, Char.ofNat 97, Char.ofNat 49, Char.ofNat 100, Char.ofNat 53, Char.ofNat 51, Char.ofNat 54, Char.ofNat 56, Char.ofNat 98, Char.ofNat 101, Char.ofNat 50] :: [Char.ofNat 99, Char.ofNat 117, Char.ofNat 116] :: [Char.ofNat 97, Char.ofNat 116] :: t) = [Char.ofNat 99, Char.ofNat 117, Char.ofNat 116] :: [Char.ofNat 97, Char.ofNat 116] :: t := by kernel_rfl
theorem behind_all : behindMainWord (wordsSigns Tryd.pinned.checked.prog.initOrder.toList) = [Char.ofNat 99, Char.ofNat 117, Char.ofNat 116] :: [Char.ofNat 97, Char.ofNat 116] :: wordsSigns tailSigns := by rw [initOrder_list, words_at, behind_at]
theorem make_of (c : List Char) (rest : List (List Char)) (P : Program) (h0 : (c == "gc".toList) = false) (h1 : (c == "spec".toList) = false) (h2 : (c == "cut".toList) = true) (h : behindMainWord (wordsSigns P.initOrder.toList) = c :: rest) : P.make = some .cut := by
  unfold Program.make
  rw [h]
  simp only [h0, h1, h2]
  rfl
theorem mayEnter_of (c : List Char) (rest : List (List Char)) (P : Program) (h0 : (c == "gc".toList) = false) (h1 : (c == "spec".toList) = false) (h2 : (c == "carried".toList) = false) (h : behindMainWord (wordsSigns P.initOrder.toList) = c :: rest)
    (h3 : ((stripLifts liftWords (c :: rest)).2.head? == some "cut".toList) = true) (h4 : P.laysLater = false) (h5 : P.bearsReflect = false) (h6 : P.doorFits (stripLifts liftWords (c :: rest)).1 = true) (h7 : (stripLifts liftWords (c :: rest)).1.contains "leanrows" = false) : P.mayEnter = true := by
  unfold Program.mayEnter
  rw [h]
  simp only [h0, h1, h2, h3, h4, h5, h6, h7]
  simp
theorem liftsFinal_of (c : List Char) (rest : List (List Char)) (P : Program) (h2 : (some c == some "carried".toList) = false) (h : behindMainWord (wordsSigns P.initOrder.toList) = c :: rest)
    (h3 : ((stripLifts liftWords (c :: rest)).2.head? == some "cut".toList) = true) (h7 : (stripLifts liftWords (c :: rest)).1.contains "finals" = false) : P.liftsFinal = false := by
  unfold Program.liftsFinal Program.headLifts
  rw [h]
  simp only [List.head?_cons, h2, h3, if_true, h7, Bool.false_and, Bool.or_self]
theorem strip_at (t : List (List Char)) : stripLifts liftWords ([Char.ofNat 99, Char.ofNat 117, Char.ofNat 116] :: [Char.ofNat 97, Char.ofNat 116] :: t) = ([], [Char.ofNat 99, Char.ofNat 117, Char.ofNat 116] :: [Char.ofNat 97, Char.ofNat 116] :: t) := by kernel_rfl
theorem laysLater_at : Tryd.pinned.checked.prog.laysLater = false := by kernel_rfl
theorem bearsReflect_at : Tryd.pinned.checked.prog.bearsReflect = false := by kernel_rfl
theorem doorFits_at : Tryd.pinned.checked.prog.doorFits [] = true := by kernel_rfl
theorem mayEnter_at : Tryd.pinned.checked.prog.mayEnter = true :=
  mayEnter_of _ _ _ (by kernel_rfl) (by kernel_rfl) (by kernel_rfl) behind_all (by rw [strip_at]; generalize wordsSigns tailSigns = t; kernel_rfl) laysLater_at bearsReflect_at (by rw [strip_at]; exact doorFits_at) (by rw [strip_at]; rfl)
theorem liftsFinal_at : Tryd.pinned.checked.prog.liftsFinal = false :=
  liftsFinal_of _ _ _ (by kernel_rfl) behind_all (by rw [strip_at]; generalize wordsSigns tailSigns = t; kernel_rfl) (by rw [strip_at]; rfl)
theorem make_at : Tryd.pinned.checked.prog.make = some .cut := make_of _ _ _ (by kernel_rfl) (by kernel_rfl) (by kernel_rfl) behind_all
end Go.Proofs.YtagbldaiedmikaaDoor.Y

/- A world for the witnesses: the settled one, the listed tables holding what their initialisers lay. No conditions. -/
namespace Go.Proofs.YtagbldaiedmikaaDoor.Y
open Go.ChangeShapes Go.WideShapes Go.ChangeAt Go.RowKit
noncomputable def laidWorld (os : Os) : World :=
  { World.holding Tryd.prog os ⟨#[], #[], []⟩ with heap := ((((((((((World.holding Tryd.prog os ⟨#[], #[], []⟩).heap).modify 1 (fun o => match o with | .cells _ t z => .cells #[Value.int .u64 1, Value.int .u64 10, Value.int .u64 100, Value.int .u64 1000, Value.int .u64 10000, Value.int .u64 100000, Value.int .u64 1000000, Value.int .u64 10000000, Value.int .u64 100000000, Value.int .u64 1000000000, Value.int .u64 10000000000, Value.int .u64 100000000000, Value.int .u64 1000000000000, Value.int .u64 10000000000000, Value.int .u64 100000000000000, Value.int .u64 1000000000000000, Value.int .u64 10000000000000000, Value.int .u64 100000000000000000, Value.int .u64 1000000000000000000, Value.int .u64 10000000000000000000] t z | o => o)).modify 4 (fun o => match o with | .cells _ t z => .cells ((Go.Pinned.utf8FirstZ.map fun (n : Nat) => Value.int .u8 (n : Int)).toArray) t z | o => o)).modify 5 (fun o => match o with | .cells _ t z => .cells #[Value.int .u8 128, Value.int .u8 191, Value.int .u8 160, Value.int .u8 191, Value.int .u8 128, Value.int .u8 159, Value.int .u8 144, Value.int .u8 191, Value.int .u8 128, Value.int .u8 143, Value.int .u8 0, Value.int .u8 0, Value.int .u8 0, Value.int .u8 0, Value.int .u8 0, Value.int .u8 0, Value.int .u8 0, Value.int .u8 0, Value.int .u8 0, Value.int .u8 0, Value.int .u8 0, Value.int .u8 0, Value.int .u8 0, Value.int .u8 0, Value.int .u8 0, Value.int .u8 0, Value.int .u8 0, Value.int .u8 0, Value.int .u8 0, Value.int .u8 0, Value.int .u8 0, Value.int .u8 0] t z | o => o)).modify 6 (fun o => match o with | .cells _ t z => .cells #[Value.int .u8 0, Value.int .u8 1, Value.int .u8 28, Value.int .u8 2, Value.int .u8 29, Value.int .u8 14, Value.int .u8 24, Value.int .u8 3, Value.int .u8 30, Value.int .u8 22, Value.int .u8 20, Value.int .u8 15, Value.int .u8 25, Value.int .u8 17, Value.int .u8 4, Value.int .u8 8, Value.int .u8 31, Value.int .u8 27, Value.int .u8 13, Value.int .u8 23, Value.int .u8 21, Value.int .u8 19, Value.int .u8 16, Value.int .u8 7, Value.int .u8 26, Value.int .u8 12, Value.int .u8 18, Value.int .u8 6, Value.int .u8 11, Value.int .u8 5, Value.int .u8 10, Value.int .u8 9] t z | o => o)).modify 7 (fun o => match o with | .cells _ t z => .cells #[Value.int .u8 0, Value.int .u8 1, Value.int .u8 56, Value.int .u8 2, Value.int .u8 57, Value.int .u8 49, Value.int .u8 28, Value.int .u8 3, Value.int .u8 61, Value.int .u8 58, Value.int .u8 42, Value.int .u8 50, Value.int .u8 38, Value.int .u8 29, Value.int .u8 17, Value.int .u8 4, Value.int .u8 62, Value.int .u8 47, Value.int .u8 59, Value.int .u8 36, Value.int .u8 45, Value.int .u8 43, Value.int .u8 51, Value.int .u8 22, Value.int .u8 53, Value.int .u8 39, Value.int .u8 33, Value.int .u8 30, Value.int .u8 24, Value.int .u8 18, Value.int .u8 12, Value.int .u8 5, Value.int .u8 63, Value.int .u8 55, Value.int .u8 48, Value.int .u8 27, Value.int .u8 60, Value.int .u8 41, Value.int .u8 37, Value.int .u8 16, Value.int .u8 46, Value.int .u8 35, Value.int .u8 44, Value.int .u8 21, Value.int .u8 52, Value.int .u8 32, Value.int .u8 23, Value.int .u8 11, Value.int .u8 54, Value.int .u8 26, Value.int .u8 40, Value.int .u8 15, Value.int .u8 34, Value.int .u8 20, Value.int .u8 31, Value.int .u8 10, Value.int .u8 25, Value.int .u8 14, Value.int .u8 19, Value.int .u8 9, Value.int .u8 13, Value.int .u8 8, Value.int .u8 7, Value.int .u8 6] t z | o => o)).modify 2 (fun o => match o with | .cells _ t z => .cells #[Value.iface 130 (.pointer (some ⟨(World.holding Tryd.prog os ⟨#[], #[], []⟩).heap.size + 0, 0, none⟩))] t z | o => o)).push (.cells #[Value.string ⟨#[105, 110, 118, 97, 108, 105, 100, 32, 115, 121, 110, 116, 97, 120]⟩] 132 (0, 0))).modify 3 (fun o => match o with | .cells _ t z => .cells #[Value.iface 130 (.pointer (some ⟨(World.holding Tryd.prog os ⟨#[], #[], []⟩).heap.size + 1, 0, none⟩))] t z | o => o)).push (.cells #[Value.string ⟨#[118, 97, 108, 117, 101, 32, 111, 117, 116, 32, 111, 102, 32, 114, 97, 110, 103, 101]⟩] 132 (0, 0)) }
end Go.Proofs.YtagbldaiedmikaaDoor.Y
