/- The law FnVersions, as a plain statement: a drawn version that is right comes back of its text; what is read of a drawn text has that text. Conditions: those of the row's reading alone. -/
/- Part 8 of 9 of this claim's texts. -/
import Derived.Laws.BitsLemmas
import Derived.Lib.Atoi
import Derived.Lib.ItoaNum
import Derived.Deep.Slices
import Derived.ChangeArms
import Derived.WideShapes
import Derived.DataReads
import Derived.Test.YtkofdkinaahbpaaDoorRows
import Derived.WalkKit
import Derived.ProofKit
import Derived.Test.YtkofdkinaahbpaaDoorCFnVersions0
import Derived.Test.YtkofdkinaahbpaaDoorCFnVersions1
import Derived.Test.YtkofdkinaahbpaaDoorCFnVersions2
import Derived.Test.YtkofdkinaahbpaaDoorCFnVersions3
import Derived.Test.YtkofdkinaahbpaaDoorCFnVersions4
import Derived.Test.YtkofdkinaahbpaaDoorCFnVersions5
import Derived.Test.YtkofdkinaahbpaaDoorCFnVersions6
/- Plain lemmas for what the printed functions compute: enough rounds ('Ev'), tests, bounds of whole numbers, lists. No Go, no memory. -/
set_option linter.unusedVariables false
namespace Go.Proofs.YtkofdkinaahbpaaDoor.Z
open Go.RowKit Go.Proofs.YtkofdkinaahbpaaDoorW.PrintWords Go.Proofs.YtkofdkinaahbpaaDoorW.PrintMore

theorem evT {α : Type} {c : Prop} [Decidable c] {f g : Nat → Option α} {r : α} (h : c) (H : Ev f r) : Ev (fun k => if c then f k else g k) r := by
  obtain ⟨K, hK⟩ := H
  exact ⟨K, fun k hk => (if_pos h).trans (hK k hk)⟩
theorem evF {α : Type} {c : Prop} [Decidable c] {f g : Nat → Option α} {r : α} (h : ¬ c) (H : Ev g r) : Ev (fun k => if c then f k else g k) r := by
  obtain ⟨K, hK⟩ := H
  exact ⟨K, fun k hk => (if_neg h).trans (hK k hk)⟩
theorem evI {α : Type} {c : Prop} [Decidable c] {f g : Nat → Option α} {r : α} (H : c → Ev f r) (H' : ¬ c → Ev g r) : Ev (fun k => if c then f k else g k) r := by
  by_cases h : c
  · exact evT h (H h)
  · exact evF h (H' h)
theorem evB {α β : Type} {g : Nat → Option α} {f : Nat → α → Option β} {a : α} {r : β} (h : Ev g a) (k : Ev (fun n => f n a) r) : Ev (fun n => (g n).bind (f n)) r := Ev.bind h k
theorem evR {α : Type} {r r' : α} (h : r = r') : Ev (fun _ => some r) r' := h ▸ Ev.now r
/-- A callee without rounds. -/
theorem evC {α β : Type} {x : Option α} {f : Nat → α → Option β} {a : α} {r : β} (h : x = some a) (k : Ev (fun n => f n a) r) : Ev (fun n => x.bind (f n)) r := by
  subst h
  exact k
theorem evS {α : Type} {g f : Nat → Option α} {r : α} (h : ∀ k, g (k + 1) = f k) (k : Ev f r) : Ev g r := Ev.step h k
theorem evE {α : Type} {g : Nat → Option α} {r r' : α} (h : r = r') (k : Ev g r) : Ev g r' := h ▸ k

theorem w64 {x : Int} (h : -9223372036854775808 ≤ x ∧ x ≤ 9223372036854775807) : wrap64 x = x := by unfold wrap64; omega
theorem w64s {i n : Nat} (h : i < n) (hn : n ≤ 9223372036854775807) : wrap64 ((i : Int) + 1) = ((i + 1 : Nat) : Int) := by unfold wrap64; omega
theorem wi64 (x : Int) : IntKind.i64.wrap x = wrap64 x := by rw [Go.IntKind.wrap_i64]; unfold wrap64; rfl

theorem rd_get {l : List Int} {i : Nat} (h : i < l.length) : l[i]? = some (rd l (i : Int)) := by
  simp [rd, List.getElem?_eq_getElem h]
theorem rdOf_get {α : Type} {d : α} {l : List α} {i : Nat} (h : i < l.length) : l[i]? = some (rdOf d l (i : Int)) := by
  simp [rdOf, List.getElem?_eq_getElem h]
end Go.Proofs.YtkofdkinaahbpaaDoor.Z

/- Strings as lists of bytes. No Go, no memory. -/
set_option linter.unusedVariables false
namespace Go.Proofs.YtkofdkinaahbpaaDoor.Z
open Go.RowKit Go.Proofs.YtkofdkinaahbpaaDoorW.PrintWords Go.Proofs.YtkofdkinaahbpaaDoorW.PrintMore
theorem tl_loop (a : ByteArray) (d : Nat) : ∀ i r, a.size = i + d → ByteArray.toList.loop a i r = r.reverse ++ a.data.toList.drop i := by
  have h2 := data_length a
  induction d with
  | zero =>
    intro i r h
    unfold ByteArray.toList.loop
    rw [if_neg (by omega), List.drop_eq_nil_of_le (by omega), List.append_nil]
  | succ d ih =>
    intro i r h
    unfold ByteArray.toList.loop
    rw [if_pos (by omega), ih (i + 1) _ (by omega)]
    have hi : i < a.data.size := by
      have : a.data.size = a.size := rfl
      omega
    rw [List.drop_eq_getElem_cons (i := i) (by simpa using hi)]
    simp [ByteArray.get!]
    exact getElem!_pos a.data i hi
theorem tl (a : ByteArray) : a.toList = a.data.toList := by
  unfold ByteArray.toList
  rw [tl_loop a a.size 0 [] (by omega)]
  simp
theorem tl_inj {a b : ByteArray} : a.toList = b.toList ↔ a = b := by
  constructor
  · intro h
    rw [tl, tl] at h
    have h1 : a.data = b.data := Array.toList_inj.1 h
    cases a
    cases b
    simp_all
  · rintro rfl
    rfl

end Go.Proofs.YtkofdkinaahbpaaDoor.Z

/- Ranges, the program's and the reference's: the same. Plain lemmas. -/
set_option linter.unusedVariables false
namespace Go.Proofs.YtkofdkinaahbpaaDoor.Z
open Go.RowKit Go.Proofs.YtkofdkinaahbpaaDoorW.PrintWords Go.Proofs.YtkofdkinaahbpaaDoorW.PrintMore Go.Proofs.YtkofdkinaahbpaaDoor.X
theorem rng_impl (a b c : Int) : impl_inRange.f a b c = some (decide (b ≤ a ∧ a ≤ c)) := by
  unfold impl_inRange.f
  by_cases h : a ≥ b
  · rw [if_pos h]
    simp [show b ≤ a from h]
  · rw [if_neg h]
    simp [show ¬ b ≤ a from h]
theorem rng_spec (a b c : Int) : spec_l1In.f a b c = some (decide (b ≤ a ∧ a ≤ c)) := by
  unfold spec_l1In.f
  by_cases h : a ≥ b
  · rw [if_pos h]
    simp [show b ≤ a from h]
  · rw [if_neg h]
    simp [show ¬ b ≤ a from h]
end Go.Proofs.YtkofdkinaahbpaaDoor.Z

/- A text's pieces, the reference's: those between the bytes. Plain lemmas. -/
set_option linter.unusedVariables false
namespace Go.Proofs.YtkofdkinaahbpaaDoor.Z
open Go.RowKit Go.Proofs.YtkofdkinaahbpaaDoorW.PrintWords Go.Proofs.YtkofdkinaahbpaaDoorW.PrintMore Go.Proofs.YtkofdkinaahbpaaDoor.X Go.Proofs.YtkofdkinaahbpaaDoor.Sp
theorem byte_at (s : ByteArray) (i : Nat) (h : i < s.size) : bt s (i : Int) = ((s.data.toList[i]'(by rw [data_length]; exact h)).toNat : Int) := by
  have := rd_bytesOf s (i : Int)
  rw [← this]
  unfold rd bytesOf
  simp [List.getD_eq_getElem?_getD, h]
theorem ext_list (s : ByteArray) (f i : Nat) : s.extract f i = ⟨((s.data.toList.drop f).take (i - f)).toArray⟩ := by
  have h : (s.extract f i).data.toList = (s.data.toList.drop f).take (i - f) := by
    simp [ByteArray.data_extract, List.extract_eq_take_drop]
  cases hx : s.extract f i with
  | mk d =>
    rw [hx] at h
    congr 1
    rw [← h]
/-- The pieces, bytes more ahead of the first. -/
def pcsF (pre : List UInt8) (c : UInt8) (l : List UInt8) : List (List UInt8) :=
  match pcs c l with
  | [] => [pre]
  | h :: t => (pre ++ h) :: t
theorem pcs_ne (c : UInt8) (l : List UInt8) : pcs c l ≠ [] := fun h => by
  have := pcs_length c l
  rw [h] at this
  simp at this
theorem pcsF_nil (c : UInt8) (l : List UInt8) : pcsF [] c l = pcs c l := by
  unfold pcsF
  cases h : pcs c l with
  | nil => exact absurd h (pcs_ne c l)
  | cons a t => rfl
theorem pcsF_eq (pre : List UInt8) (c : UInt8) (l : List UInt8) : pcsF pre c (c :: l) = pre :: pcsF [] c l := by
  rw [pcsF_nil]
  unfold pcsF
  rw [pcs, if_pos rfl]
  simp
theorem pcsF_ne (pre : List UInt8) (b c : UInt8) (l : List UInt8) (h : b ≠ c) : pcsF pre c (b :: l) = pcsF (pre ++ [b]) c l := by
  unfold pcsF
  rw [pcs, if_neg h]
  cases hp : pcs c l with
  | nil => exact absurd hp (pcs_ne c l)
  | cons a t => simp [onto]
theorem pcsF_end (pre : List UInt8) (c : UInt8) : pcsF pre c [] = [pre] := by simp [pcsF, pcs]
def toB (l : List UInt8) : ByteArray := ⟨l.toArray⟩
theorem split_l0 (s : ByteArray) (hs : s.size ≤ 1048576) (c : UInt8) (d : Nat) : ∀ (i f : Nat) (out : List ByteArray), i + d = s.size → f ≤ i → out.length + d ≤ 1048577 →
    Ev (fun k => spec_l3Split.l0 k s (c.toNat : Int) out (f : Int) (i : Int)) (out ++ (pcsF ((s.data.toList.drop f).take (i - f)) c (s.data.toList.drop i)).map toB) := by
  induction d with
  | zero =>
    intro i f out hi hf ho
    rw [List.drop_eq_nil_of_le (show s.data.toList.length ≤ i by rw [data_length]; omega), pcsF_end]
    refine evS (fun k => by rw [spec_l3Split.l0]) ?_
    rw [w64s (show i < 1048577 by omega) (by omega), show ((f : Nat) : Int).toNat = f by omega, show ((i : Nat) : Int).toNat = i by omega, ext_list]
    refine evT (by omega) (evT (by omega) (evT (by omega) (evT (by omega) (evT (by omega) ?_))))
    refine evS (fun k => by rw [spec_l3Split.l0]) ?_
    exact evF (by omega) (evR rfl)
  | succ d ih =>
    intro i f out hi hf ho
    have hl : i < s.data.toList.length := by rw [data_length]; omega
    have hb := byte_at s i (by omega)
    rw [List.drop_eq_getElem_cons hl]
    refine evS (fun k => by rw [spec_l3Split.l0]) ?_
    rw [w64s (show i < 1048577 by omega) (by omega), show ((f : Nat) : Int).toNat = f by omega, show ((i : Nat) : Int).toNat = i by omega, hb, ext_list]
    refine evT (by omega) (evF (by omega) (evT (by omega) (evT (by omega) ?_)))
    by_cases hc : s.data.toList[i] = c
    · refine evT (by rw [hc]) (evT (by omega) (evT (by omega) (evT (by omega) ?_)))
      refine evE ?_ (ih (i + 1) (i + 1) _ (by omega) (Nat.le_refl _) (by simp; omega))
      rw [hc, pcsF_eq, Nat.sub_self, List.take_zero]
      simp [toB]
    · refine evF (fun e => hc (UInt8.toNat_inj.1 (by omega))) ?_
      refine evE ?_ (ih (i + 1) f out (by omega) (by omega) (by omega))
      rw [pcsF_ne _ _ _ _ hc]
      congr 3
      have hl2 : i - f < (s.data.toList.drop f).length := by rw [List.length_drop]; omega
      rw [show i + 1 - f = (i - f) + 1 by omega, List.take_succ_eq_append_getElem hl2]
      congr 2
      rw [List.getElem_drop]
      congr 1
      omega
theorem split_spec (s : ByteArray) (hs : s.size ≤ 1048576) (c : UInt8) : Ev (fun k => spec_l3Split.f k s (c.toNat : Int)) (pieces c s) := by
  have h := split_l0 s hs c s.size 0 0 [] (by omega) (Nat.le_refl _) (by simp; omega)
  rw [Nat.sub_self, List.take_zero, List.drop_zero, pcsF_nil, List.nil_append] at h
  exact h
theorem pcs_mem (c : UInt8) : ∀ (l : List UInt8) (x : List UInt8), x ∈ pcs c l → x.length ≤ l.length
  | [], x, h => by simp [pcs] at h; simp [h]
  | b :: l, x, h => by
    have ih := pcs_mem c l
    rw [pcs] at h
    split at h
    · rcases List.mem_cons.1 h with rfl | h
      · simp
      · have := ih x h; simp; omega
    · cases hp : pcs c l with
      | nil => exact absurd hp (pcs_ne c l)
      | cons a t =>
        rw [hp] at h
        rcases List.mem_cons.1 h with rfl | h
        · have := ih a (by rw [hp]; exact List.mem_cons_self); simp; omega
        · have := ih x (by rw [hp]; exact List.mem_cons_of_mem _ h); simp; omega
theorem pieces_mem (c : UInt8) (s : ByteArray) : ∀ x ∈ pieces c s, x.size ≤ s.size := by
  intro x hx
  obtain ⟨l, hl, rfl⟩ := List.mem_map.1 hx
  have := pcs_mem c _ l hl
  rw [data_length] at this
  show l.toArray.size ≤ _
  simpa using this
theorem pieces_count (c : UInt8) (s : ByteArray) : (pieces c s).length ≤ s.size + 1 := by
  rw [pieces, List.length_map, pcs_length]
  have := List.count_le_length (a := c) (l := s.data.toList)
  rw [data_length] at this
  omega
end Go.Proofs.YtkofdkinaahbpaaDoor.Z

/- Numbers in versions, the program's and the reference's. Plain lemmas. -/
set_option linter.unusedVariables false
namespace Go.Proofs.YtkofdkinaahbpaaDoor.Z
open Go.RowKit Go.Proofs.YtkofdkinaahbpaaDoorW.PrintWords Go.Proofs.YtkofdkinaahbpaaDoorW.PrintMore Go.Proofs.YtkofdkinaahbpaaDoor.X Go.Proofs.YtkofdkinaahbpaaDoor.Sp
def isD (u : UInt8) : Bool := decide (48 ≤ u.toNat ∧ u.toNat ≤ 57)
def figs (s : ByteArray) : Bool := s.data.toList.all isD && decide (s.size ≠ 0)
theorem figure_ev (b : Int) : impl_isFigure.f b = some (decide (48 ≤ b ∧ b ≤ 57)) := by
  unfold impl_isFigure.f
  by_cases h : b ≥ 48
  · rw [if_pos h]
    simp [show 48 ≤ b from h]
  · rw [if_neg h]
    simp [show ¬ 48 ≤ b from h]
theorem ne_nil (s : ByteArray) : (s.toList != ([] : List UInt8)) = decide (s.size ≠ 0) := by
  rw [tl]
  have := data_length s
  by_cases h : s.size = 0
  · rw [List.eq_nil_of_length_eq_zero (show s.data.toList.length = 0 by omega)]
    simp [h]
  · have h1 : s.data.toList ≠ [] := fun e => by rw [e] at this; simp at this; omega
    simp [h1, h]
theorem figs_l0 (s : ByteArray) (hs : s.size ≤ 1048576) (d : Nat) : ∀ i : Nat, i + d = s.size → Ev (fun k => impl_isFigures.l0 k s (i : Int)) ((s.data.toList.drop i).all isD && decide (s.size ≠ 0)) ∧ Ev (fun k => spec_l3Digits.l0 k s (i : Int)) ((s.data.toList.drop i).all isD && decide (s.size ≠ 0)) := by
  induction d with
  | zero =>
    intro i hi
    rw [List.drop_eq_nil_of_le (show s.data.toList.length ≤ i by rw [data_length]; omega)]
    constructor
    · refine evS (fun k => by rw [impl_isFigures.l0]) ?_
      exact evF (by omega) (evR (by rw [ne_nil]; rfl))
    · refine evS (fun k => by rw [spec_l3Digits.l0]) ?_
      exact evF (by omega) (evR (by rw [ne_nil]; rfl))
  | succ d ih =>
    intro i hi
    have hl : i < s.data.toList.length := by rw [data_length]; omega
    have hb := byte_at s i (by omega)
    have hlt : (s.data.toList[i]).toNat < 256 := UInt8.toNat_lt _
    have hw : wrap64 (((s.data.toList[i]).toNat : Nat) : Int) = (((s.data.toList[i]).toNat : Nat) : Int) := w64 (by omega)
    obtain ⟨h1, h2⟩ := ih (i + 1) (by omega)
    have he : (s.data.toList.drop i).all isD = (isD s.data.toList[i] && (s.data.toList.drop (i + 1)).all isD) := by
      rw [List.drop_eq_getElem_cons hl]
      rfl
    have hd : decide (48 ≤ (((s.data.toList[i]).toNat : Nat) : Int) ∧ (((s.data.toList[i]).toNat : Nat) : Int) ≤ 57) = isD s.data.toList[i] := by
      unfold isD
      exact decide_eq_decide.2 (by omega)
    rw [he]
    constructor
    · refine evS (fun k => by rw [impl_isFigures.l0]) ?_
      rw [hb, w64s (show i < s.size by omega) (by omega)]
      refine evT (by omega) (evT (by omega) (evC (figure_ev _) ?_))
      rw [hd]
      cases hx : isD s.data.toList[i] with
      | true => exact evT rfl (by simpa using h1)
      | false => exact evF Bool.false_ne_true (evR rfl)
    · refine evS (fun k => by rw [spec_l3Digits.l0]) ?_
      rw [hb, hw, w64s (show i < s.size by omega) (by omega)]
      refine evT (by omega) (evT (by omega) (evC (rng_spec _ _ _) ?_))
      rw [hd]
      cases hx : isD s.data.toList[i] with
      | true => exact evT rfl (by simpa using h2)
      | false => exact evF Bool.false_ne_true (evR rfl)
theorem figs_impl (s : ByteArray) (hs : s.size ≤ 1048576) : Ev (fun k => impl_isFigures.f k s) (figs s) := (figs_l0 s hs s.size 0 (by omega)).1
theorem figs_spec (s : ByteArray) (hs : s.size ≤ 1048576) : Ev (fun k => spec_l3Digits.f k s) (figs s) := (figs_l0 s hs s.size 0 (by omega)).2
def num (s : ByteArray) : Bool := figs s && (decide (s.data.toList = [48]) || decide (bt s 0 ≠ 48))
theorem figs_size {s : ByteArray} (h : figs s = true) : 0 < s.size := by
  simp only [figs, Bool.and_eq_true, decide_eq_true_eq] at h
  have := h.2
  omega
theorem num_impl (s : ByteArray) (hs : s.size ≤ 1048576) : Ev (fun k => impl_isNumber.f k s) (num s) := by
  unfold impl_isNumber.f num
  refine evB (figs_impl s hs) ?_
  cases hf : figs s with
  | false => exact evF Bool.false_ne_true (evR rfl)
  | true =>
    have := figs_size hf
    refine evT rfl ?_
    by_cases h : s.data.toList = [48]
    · exact evT (by rw [tl]; exact h) (evR (by simp [h]))
    · refine evF (by rw [tl]; exact h) (evT (by omega) (evR ?_))
      simp [h, bne, decide_not]
      by_cases hb : bt s 0 = 48
      · simp [hb]
      · simp [hb]
def digit (b : UInt8) : Nat := b.toNat - 48
def valA (a : Nat) (l : List UInt8) : Nat := l.foldl (fun n b => n * 10 + digit b) a
theorem valA_nil (a : Nat) : valA a [] = a := rfl
theorem valA_cons (a : Nat) (b : UInt8) (l : List UInt8) : valA a (b :: l) = valA (a * 10 + digit b) l := by unfold valA; rw [List.foldl_cons]
def val (l : List UInt8) : Nat := valA 0 l
theorem valA_eq (l : List UInt8) : ∀ a : Nat, valA a l = a * 10 ^ l.length + valA 0 l := by
  induction l with
  | nil => intro a; simp [valA_nil]
  | cons b l ih =>
    intro a
    rw [valA_cons, ih, valA_cons, ih (0 * 10 + digit b), List.length_cons, Nat.pow_succ, Nat.add_mul, Nat.zero_mul, Nat.zero_add, Nat.mul_assoc, Nat.mul_comm 10, Nat.add_assoc]
theorem val_cons (b : UInt8) (l : List UInt8) : val (b :: l) = digit b * 10 ^ l.length + val l := by
  unfold val
  rw [valA_cons, valA_eq, Nat.zero_mul, Nat.zero_add]
theorem isD_iff (u : UInt8) : isD u = true ↔ 48 ≤ u.toNat ∧ u.toNat ≤ 57 := by unfold isD; exact decide_eq_true_iff
theorem val_l0 (s : ByteArray) (hs : s.size ≤ 8) (ha : s.data.toList.all isD = true) (d : Nat) : ∀ (i : Nat) (a : Nat), i + d = s.size → a < 10 ^ i → Ev (fun k => spec_l3Number.l0 k s (a : Int) (i : Int)) ((valA a (s.data.toList.drop i) : Nat) : Int) := by
  induction d with
  | zero =>
    intro i a hi hlt
    rw [List.drop_eq_nil_of_le (show s.data.toList.length ≤ i by rw [data_length]; omega)]
    refine evS (fun k => by rw [spec_l3Number.l0]) ?_
    exact evF (by omega) (evR rfl)
  | succ d ih =>
    intro i a hi hlt
    have hl : i < s.data.toList.length := by rw [data_length]; omega
    have hb := byte_at s i (by omega)
    have hD := (isD_iff _).1 (List.all_eq_true.1 ha _ (List.getElem_mem hl))
    have hp : 10 ^ i ≤ 10 ^ 7 := Nat.pow_le_pow_right (by decide) (by omega)
    rw [List.drop_eq_getElem_cons hl, valA_cons]
    unfold digit
    generalize (s.data.toList[i]).toNat = n at *
    have e1 : wrap64 (wrap64 ((a : Int) * 10) + ((n : Int) - 48) % 256) = ((a * 10 + (n - 48) : Nat) : Int) := by
      rw [w64 (x := (a : Int) * 10) (by omega), w64 (by omega)]
      omega
    refine evS (fun k => by rw [spec_l3Number.l0]) ?_
    rw [hb, e1, w64s (show i < s.size by omega) (by omega)]
    refine evT (by omega) (evT (by omega) (ih (i + 1) _ (by omega) ?_))
    rw [Nat.pow_succ]
    omega
/-- A number of at most eight digits. -/
def short (s : ByteArray) : Bool := num s && decide (s.size ≤ 8)
def numS (s : ByteArray) : Int := if short s = true then ((val s.data.toList : Nat) : Int) else -1
theorem head_one (s : ByteArray) (h : s.size = 1) : s.data.toList = [48] ↔ bt s 0 = 48 := by
  have hl : s.data.toList.length = 1 := by rw [data_length]; exact h
  have hb : bt s 0 = _ := byte_at s 0 (by omega)
  obtain ⟨x, hx⟩ := List.length_eq_one_iff.1 hl
  rw [hb]
  simp only [hx, List.getElem_cons_zero, List.cons.injEq, and_true]
  constructor
  · rintro rfl; rfl
  · intro e
    exact UInt8.toNat_inj.1 (by show x.toNat = 48; omega)
theorem numS_spec (s : ByteArray) (hs : s.size ≤ 1048576) : Ev (fun k => spec_l3Number.f k s) (numS s) := by
  unfold spec_l3Number.f
  refine evB (figs_spec s hs) ?_
  cases hf : figs s with
  | false =>
    have e : numS s = -1 := by unfold numS short num; rw [hf]; rfl
    rw [e]
    refine evF Bool.false_ne_true ?_
    refine evS (fun k => by rw [spec_l3Number.j0]) ?_
    exact evT rfl (evR rfl)
  | true =>
    have hz := figs_size hf
    have ha : s.data.toList.all isD = true := by unfold figs at hf; simp at hf; simpa using hf.1
    refine evT rfl ?_
    by_cases h8 : (s.size : Int) > 8
    · have e : numS s = -1 := by
        unfold numS short
        rw [decide_eq_false (by omega), Bool.and_false, if_neg Bool.false_ne_true]
      rw [e]
      refine evT h8 ?_
      refine evS (fun k => by rw [spec_l3Number.j0]) ?_
      exact evT rfl (evR rfl)
    · refine evF h8 ?_
      have hv := val_l0 s (by omega) ha s.size 0 0 (by omega) (by decide)
      have hv' : Ev (fun k => spec_l3Number.l0 k s 0 0) ((val s.data.toList : Nat) : Int) := hv
      by_cases h1 : (s.size : Int) > 1
      · refine evT h1 (evT (by omega) ?_)
        have hne : ¬ s.data.toList = [48] := fun e => by
          have := data_length s
          rw [e] at this
          simp at this
          omega
        by_cases hb : bt s 0 = 48
        · have e : numS s = -1 := by
            unfold numS short num
            rw [decide_eq_false hne, decide_eq_false (fun h => h hb)]
            simp
          rw [e, hb]
          refine evS (fun k => by rw [spec_l3Number.j0]) ?_
          exact evT rfl (evR rfl)
        · have e : numS s = ((val s.data.toList : Nat) : Int) := by
            unfold numS short num
            rw [hf, decide_eq_true hb, decide_eq_true (show s.size ≤ 8 by omega)]
            simp
          rw [e, beq_eq_false_iff_ne.2 hb]
          refine evS (fun k => by rw [spec_l3Number.j0]) ?_
          exact evF Bool.false_ne_true hv'
      · refine evF h1 ?_
        have h11 : s.size = 1 := by omega
        have e : numS s = ((val s.data.toList : Nat) : Int) := by
          unfold numS short num
          rw [hf, decide_eq_true (show s.size ≤ 8 by omega)]
          have := head_one s h11
          by_cases hb : bt s 0 = 48
          · rw [decide_eq_true (this.2 hb)]; simp
          · rw [decide_eq_true hb]; simp
        rw [e]
        refine evS (fun k => by rw [spec_l3Number.j0]) ?_
        exact evF Bool.false_ne_true hv'
end Go.Proofs.YtkofdkinaahbpaaDoor.Z

/- Right versions, the program's and the reference's: the same. Plain lemmas. -/
set_option linter.unusedVariables false
namespace Go.Proofs.YtkofdkinaahbpaaDoor.Z
open Go.RowKit Go.Proofs.YtkofdkinaahbpaaDoorW.PrintWords Go.Proofs.YtkofdkinaahbpaaDoorW.PrintMore Go.Proofs.YtkofdkinaahbpaaDoor.X Go.Proofs.YtkofdkinaahbpaaDoor.Sp
/-- A sign of a part. -/
def pch (b : Int) : Prop := (97 ≤ b ∧ b ≤ 122) ∨ (65 ≤ b ∧ b ≤ 90) ∨ (48 ≤ b ∧ b ≤ 57) ∨ b = 45
instance (b : Int) : Decidable (pch b) := by unfold pch; infer_instance
def pchU (u : UInt8) : Bool := decide (pch (u.toNat : Int))
theorem ev_fig {b : Int} {A : Nat → Option Bool} {r : Bool} (H : (48 ≤ b ∧ b ≤ 57) ∨ b = 45 → Ev A r) (H' : ¬ ((48 ≤ b ∧ b ≤ 57) ∨ b = 45) → r = false) :
    Ev (fun k => (impl_isFigure.f b).bind fun t => if t = true then A k else if b = 45 then A k else some false) r := by
  refine evC (figure_ev b) ?_
  by_cases h : 48 ≤ b ∧ b ≤ 57
  · exact evT (decide_eq_true h) (H (.inl h))
  · refine evF (by simpa using h) ?_
    by_cases h2 : b = 45
    · exact evT h2 (H (.inr h2))
    · exact evF h2 (evR (H' (fun e => e.elim h h2)).symm)
theorem ev_sign {b : Int} {A : Nat → Option Bool} {r : Bool} (H : pch b → Ev A r) (H' : ¬ pch b → r = false) :
    Ev (fun k => if b ≥ 97 then (if b ≤ 122 then A k else (if b ≥ 65 then (if b ≤ 90 then A k else ((impl_isFigure.f b).bind fun t => if t = true then A k else if b = 45 then A k else some false)) else ((impl_isFigure.f b).bind fun t => if t = true then A k else if b = 45 then A k else some false))) else (if b ≥ 65 then (if b ≤ 90 then A k else ((impl_isFigure.f b).bind fun t => if t = true then A k else if b = 45 then A k else some false)) else ((impl_isFigure.f b).bind fun t => if t = true then A k else if b = 45 then A k else some false))) r := by
  have F : (¬ (97 ≤ b ∧ b ≤ 122)) → (¬ (65 ≤ b ∧ b ≤ 90)) → Ev (fun k => (impl_isFigure.f b).bind fun t => if t = true then A k else if b = 45 then A k else some false) r := fun h1 h2 =>
    ev_fig (fun h => H (by unfold pch; omega)) (fun h => H' (by unfold pch; omega))
  have M : (¬ (97 ≤ b ∧ b ≤ 122)) → Ev (fun k => if b ≥ 65 then (if b ≤ 90 then A k else ((impl_isFigure.f b).bind fun t => if t = true then A k else if b = 45 then A k else some false)) else ((impl_isFigure.f b).bind fun t => if t = true then A k else if b = 45 then A k else some false)) r := fun h1 => by
    by_cases h : b ≥ 65
    · refine evT h ?_
      by_cases h2 : b ≤ 90
      · exact evT h2 (H (by unfold pch; omega))
      · exact evF h2 (F h1 (by omega))
    · exact evF h (F h1 (by omega))
  by_cases h : b ≥ 97
  · refine evT h ?_
    by_cases h2 : b ≤ 122
    · exact evT h2 (H (by unfold pch; omega))
    · exact evF h2 (M (by omega))
  · exact evF h (M (by omega))
theorem ev_signS {b : Int} {A : Nat → Option Bool} {r : Bool} (H : pch b → Ev A r) (H' : ¬ pch b → r = false) :
    Ev (fun k => (spec_l1In.f b 97 122).bind fun t => (if t = true then A k else ((spec_l1In.f b 65 90).bind fun t => (if t = true then A k else ((spec_l1In.f b 48 57).bind fun t => (if t = true then A k else (if b = 45 then A k else (some false)))))))) r := by
  refine evC (rng_spec _ _ _) ?_
  by_cases h1 : 97 ≤ b ∧ b ≤ 122
  · exact evT (decide_eq_true h1) (H (by unfold pch; omega))
  refine evF (by simpa using h1) (evC (rng_spec _ _ _) ?_)
  by_cases h2 : 65 ≤ b ∧ b ≤ 90
  · exact evT (decide_eq_true h2) (H (by unfold pch; omega))
  refine evF (by simpa using h2) (evC (rng_spec _ _ _) ?_)
  by_cases h3 : 48 ≤ b ∧ b ≤ 57
  · exact evT (decide_eq_true h3) (H (by unfold pch; omega))
  refine evF (by simpa using h3) ?_
  by_cases h4 : b = 45
  · exact evT h4 (H (by unfold pch; omega))
  · exact evF h4 (evR (H' (by unfold pch; omega)).symm)
/-- A part. -/
def prtE (s : ByteArray) : Bool := decide ((1 : Int) ≤ s.size ∧ (s.size : Int) ≤ 8) && (!figs s || num s)
def prt (s : ByteArray) : Bool := s.data.toList.all pchU && prtE s
theorem prt_l0 (s : ByteArray) (hs : s.size ≤ 1048576) (d : Nat) : ∀ i : Nat, i + d = s.size → Ev (fun k => impl_partOk.l0 k s (i : Int)) ((s.data.toList.drop i).all pchU && prtE s) ∧ Ev (fun k => spec_l3Part.l0 k s (i : Int)) ((s.data.toList.drop i).all pchU && prtE s) := by
  induction d with
  | zero =>
    intro i hi
    rw [List.drop_eq_nil_of_le (show s.data.toList.length ≤ i by rw [data_length]; omega), List.all_nil, Bool.true_and]
    unfold prtE
    constructor
    · refine evS (fun k => by rw [impl_partOk.l0]) (evF (by omega) (evC (rng_impl _ _ _) ?_))
      cases hd : decide ((1 : Int) ≤ s.size ∧ (s.size : Int) ≤ 8) with
      | false => exact evF Bool.false_ne_true (evR rfl)
      | true =>
        refine evT rfl (evB (figs_impl s hs) ?_)
        cases hf : figs s with
        | false => exact evF Bool.false_ne_true (evR rfl)
        | true => exact evT rfl (evB (num_impl s hs) (evR (by simp)))
    · refine evS (fun k => by rw [spec_l3Part.l0]) (evF (by omega) (evC (rng_spec _ _ _) ?_))
      cases hd : decide ((1 : Int) ≤ s.size ∧ (s.size : Int) ≤ 8) with
      | false => exact evF Bool.false_ne_true (evR rfl)
      | true =>
        have h8 := of_decide_eq_true hd
        refine evT rfl (evB (figs_spec s hs) ?_)
        cases hf : figs s with
        | false => exact evF Bool.false_ne_true (evR rfl)
        | true =>
          refine evT rfl (evB (numS_spec s hs) (evR ?_))
          unfold numS short
          rw [decide_eq_true (show s.size ≤ 8 by omega)]
          cases num s with
          | true => simp
          | false => simp
  | succ d ih =>
    intro i hi
    have hl : i < s.data.toList.length := by rw [data_length]; omega
    have hb := byte_at s i (by omega)
    obtain ⟨h1, h2⟩ := ih (i + 1) (by omega)
    have hlt : (s.data.toList[i]).toNat < 256 := UInt8.toNat_lt _
    have he : (s.data.toList.drop i).all pchU = (pchU s.data.toList[i] && (s.data.toList.drop (i + 1)).all pchU) := by
      rw [List.drop_eq_getElem_cons hl]
      rfl
    have hw : wrap64 (((s.data.toList[i]).toNat : Nat) : Int) = (((s.data.toList[i]).toNat : Nat) : Int) := w64 (by omega)
    rw [he]
    have Hp : pch ((s.data.toList[i].toNat : Nat) : Int) → pchU s.data.toList[i] = true := fun h => decide_eq_true h
    have Hn : ¬ pch ((s.data.toList[i].toNat : Nat) : Int) → (pchU s.data.toList[i] && (s.data.toList.drop (i + 1)).all pchU && prtE s) = false := fun h => by
      have : pchU s.data.toList[i] = false := decide_eq_false h
      rw [this]
      rfl
    constructor
    · refine evS (fun k => by rw [impl_partOk.l0]) ?_
      rw [hb, w64s (show i < s.size by omega) (by omega)]
      refine evT (by omega) (evT (by omega) ?_)
      exact ev_sign (fun h => by rw [Hp h, Bool.true_and]; exact h1) Hn
    · refine evS (fun k => by rw [spec_l3Part.l0]) ?_
      rw [hb, hw, w64s (show i < s.size by omega) (by omega)]
      refine evT (by omega) (evT (by omega) ?_)
      exact ev_signS (fun h => by rw [Hp h, Bool.true_and]; exact h2) Hn
theorem prt_impl (s : ByteArray) (hs : s.size ≤ 1048576) : Ev (fun k => impl_partOk.f k s) (prt s) := (prt_l0 s hs s.size 0 (by omega)).1
theorem prt_spec (s : ByteArray) (hs : s.size ≤ 1048576) : Ev (fun k => spec_l3Part.f k s) (prt s) := (prt_l0 s hs s.size 0 (by omega)).2
theorem pre_l0 (l : List ByteArray) (hl : l.length ≤ 1048577) (zl : ∀ x ∈ l, x.size ≤ 1048576) (d : Nat) : ∀ i : Nat, i + d = l.length → Ev (fun k => impl_VersionOk.l0 k l (i : Int)) ((l.drop i).all prt && decide (l.length ≤ 4)) ∧ Ev (fun k => spec_l3Pre.l0 k l (i : Int)) ((l.drop i).all prt && decide (l.length ≤ 4)) := by
  induction d with
  | zero =>
    intro i hi
    rw [List.drop_eq_nil_of_le (by omega), List.all_nil, Bool.true_and]
    have e : decide ((l.length : Int) ≤ 4) = decide (l.length ≤ 4) := decide_eq_decide.2 (by omega)
    constructor
    · refine evS (fun k => by rw [impl_VersionOk.l0]) (evF (by omega) (evR e))
    · refine evS (fun k => by rw [spec_l3Pre.l0]) (evF (by omega) (evR e))
  | succ d ih =>
    intro i hi
    have il : i < l.length := by omega
    have gl : rdOf ByteArray.empty l (i : Int) = l[i] := by
      have := rdOf_get (d := ByteArray.empty) il
      rw [List.getElem?_eq_getElem il] at this
      exact (Option.some.inj this).symm
    have hz := zl _ (List.getElem_mem il)
    obtain ⟨h1, h2⟩ := ih (i + 1) (by omega)
    have he : (l.drop i).all prt = (prt l[i] && (l.drop (i + 1)).all prt) := by
      rw [List.drop_eq_getElem_cons il]
      rfl
    rw [he]
    have p1 := prt_impl l[i] hz
    have p2 := prt_spec l[i] hz
    cases hp : prt l[i] with
    | true =>
      rw [hp] at p1 p2
      rw [Bool.true_and]
      constructor
      · refine evS (fun k => by rw [impl_VersionOk.l0]) ?_
        rw [gl, w64s il (by omega)]
        exact evT (by omega) (evT (by omega) (evB p1 (evT rfl h1)))
      · refine evS (fun k => by rw [spec_l3Pre.l0]) ?_
        rw [gl, w64s il (by omega)]
        exact evT (by omega) (evT (by omega) (evB p2 (evT rfl h2)))
    | false =>
      rw [hp] at p1 p2
      constructor
      · refine evS (fun k => by rw [impl_VersionOk.l0]) ?_
        rw [gl]
        exact evT (by omega) (evT (by omega) (evB p1 (evF Bool.false_ne_true (evR rfl))))
      · refine evS (fun k => by rw [spec_l3Pre.l0]) ?_
        rw [gl]
        exact evT (by omega) (evT (by omega) (evB p2 (evF Bool.false_ne_true (evR rfl))))
def pre (p : ByteArray) : Bool := (pieces 46 p).all prt && decide ((pieces 46 p).length ≤ 4)
def in6 (a : Int) : Bool := decide (0 ≤ a ∧ a ≤ 1000000)
def verOk (a b c : Int) (p : ByteArray) : Bool := in6 a && (in6 b && (in6 c && (decide (p.size = 0) || pre p)))
theorem nil_iff' (s : ByteArray) : s.toList = ([] : List UInt8) ↔ s.size = 0 := by
  rw [tl]
  have := data_length s
  constructor
  · intro e; rw [e] at this; simpa using this.symm
  · intro e; exact List.eq_nil_of_length_eq_zero (by omega)
theorem verOk_both (a b c : Int) (p : ByteArray) (hp : p.size ≤ 1048576) : Ev (fun k => impl_VersionOk.f k a b c p) (verOk a b c p) ∧ Ev (fun k => spec_VersionOk.f k a b c p) (verOk a b c p) := by
  have hc := pieces_count 46 p
  obtain ⟨l1, l2⟩ := pre_l0 (pieces 46 p) (by omega) (fun x hx => by have := pieces_mem 46 p x hx; omega) _ 0 (Nat.zero_add _)
  rw [List.drop_zero] at l1 l2
  have hS : Ev (fun k => spec_l3Split.f k p 46) (pieces 46 p) := split_spec p hp 46
  have hI : strings_Split.f p (⟨#[46]⟩ : ByteArray) = some (pieces 46 p) := by
    unfold strings_Split.f
    rw [if_pos ⟨by omega, rfl⟩]
    rfl
  have tI : Ev (fun k => impl_VersionOk.f0 k p) (decide (p.size = 0) || pre p) := by
    unfold impl_VersionOk.f0
    by_cases h : p.size = 0
    · exact evT ((nil_iff' p).2 h) (evR (by rw [decide_eq_true h]; rfl))
    · refine evF (fun e => h ((nil_iff' p).1 e)) (evC hI ?_)
      rw [decide_eq_false h, Bool.false_or]
      exact l1
  have tS : Ev (fun k => if p.toList = ([] : List UInt8) then (some true) else ((spec_l3Pre.f k p).bind fun t146 => (some t146))) (decide (p.size = 0) || pre p) := by
    by_cases h : p.size = 0
    · exact evT ((nil_iff' p).2 h) (evR (by rw [decide_eq_true h]; rfl))
    · refine evF (fun e => h ((nil_iff' p).1 e)) ?_
      rw [decide_eq_false h, Bool.false_or]
      refine evB ?_ (evR rfl)
      unfold spec_l3Pre.f
      exact evB hS l2
  unfold verOk
  constructor
  · unfold impl_VersionOk.f
    refine evC (rng_impl _ _ _) ?_
    show Ev (fun k => if in6 a = true then _ else _) _
    cases in6 a with
    | false => exact evF Bool.false_ne_true (evR rfl)
    | true =>
      refine evT rfl ?_
      unfold impl_VersionOk.f2
      refine evC (rng_impl _ _ _) ?_
      show Ev (fun k => if in6 b = true then _ else _) _
      cases in6 b with
      | false => exact evF Bool.false_ne_true (evR rfl)
      | true =>
        refine evT rfl ?_
        unfold impl_VersionOk.f1
        refine evC (rng_impl _ _ _) ?_
        show Ev (fun k => if in6 c = true then _ else _) _
        cases in6 c with
        | false => exact evF Bool.false_ne_true (evR rfl)
        | true => exact evT rfl tI
  · unfold spec_VersionOk.f
    refine evC (rng_spec _ _ _) ?_
    show Ev (fun k => if in6 a = true then _ else _) _
    cases in6 a with
    | false => exact evF Bool.false_ne_true (evR rfl)
    | true =>
      refine evT rfl (evC (rng_spec _ _ _) ?_)
      show Ev (fun k => if in6 b = true then _ else _) _
      cases in6 b with
      | false => exact evF Bool.false_ne_true (evR rfl)
      | true =>
        refine evT rfl (evC (rng_spec _ _ _) ?_)
        show Ev (fun k => if in6 c = true then _ else _) _
        cases in6 c with
        | false => exact evF Bool.false_ne_true (evR rfl)
        | true => exact evT rfl tS
end Go.Proofs.YtkofdkinaahbpaaDoor.Z

/- Short numbers: their values. Plain lemmas. -/
set_option linter.unusedVariables false
namespace Go.Proofs.YtkofdkinaahbpaaDoor.Z
open Go.RowKit Go.Proofs.YtkofdkinaahbpaaDoorW.PrintWords Go.Proofs.YtkofdkinaahbpaaDoorW.PrintMore Go.Proofs.YtkofdkinaahbpaaDoor.X Go.Proofs.YtkofdkinaahbpaaDoor.Sp
theorem short_all {s : ByteArray} (h : short s = true) : s.data.toList.all isD = true ∧ 0 < s.size ∧ s.size ≤ 8 ∧ (s.data.toList = [48] ∨ bt s 0 ≠ 48) := by
  simp only [short, num, figs, Bool.and_eq_true, Bool.or_eq_true, decide_eq_true_eq] at h
  exact ⟨h.1.1.1, by have := h.1.1.2; omega, h.2, h.1.2⟩
theorem short_lead {s : ByteArray} (h : short s = true) (h1 : 1 < s.size) : 10 ^ (s.size - 1) ≤ val s.data.toList := by
  obtain ⟨ha, hz, h8, hb⟩ := short_all h
  have hl := data_length s
  have hne : ¬ s.data.toList = [48] := fun e => by rw [e] at hl; simp at hl; omega
  have hb0 := hb.resolve_left hne
  have hat : bt s 0 = _ := byte_at s 0 (by omega)
  cases hs : s.data.toList with
  | nil => rw [hs] at hl; simp at hl; omega
  | cons b l =>
    rw [hat] at hb0
    simp only [hs, List.getElem_cons_zero] at hb0
    rw [hs] at ha hl
    simp only [List.all_cons, Bool.and_eq_true] at ha
    have hd := (isD_iff b).1 ha.1
    rw [val_cons, show s.size - 1 = l.length by simp at hl; omega]
    have : 1 * 10 ^ l.length ≤ digit b * 10 ^ l.length := Nat.mul_le_mul_right _ (by unfold digit; omega)
    omega
theorem numS_pos (s : ByteArray) : 0 ≤ numS s ↔ short s = true := by
  unfold numS
  split
  · rename_i h; simp [h]
  · rename_i h; simp [h]
theorem numS_val {s : ByteArray} (h : short s = true) : numS s = ((val s.data.toList : Nat) : Int) := by unfold numS; rw [if_pos h]
end Go.Proofs.YtkofdkinaahbpaaDoor.Z

/- Decimal texts and their numbers. Plain lemmas. -/
set_option linter.unusedVariables false
namespace Go.Proofs.YtkofdkinaahbpaaDoor.Z
open Go.RowKit Go.Proofs.YtkofdkinaahbpaaDoorW.PrintWords Go.Proofs.YtkofdkinaahbpaaDoorW.PrintMore Go.Proofs.YtkofdkinaahbpaaDoor.X Go.Proofs.YtkofdkinaahbpaaDoor.Sp
theorem val_snoc (l : List UInt8) (b : UInt8) : val (l ++ [b]) = val l * 10 + digit b := by
  unfold val valA
  rw [List.foldl_append]
  rfl
/-- No zero ahead. -/
def lead (l : List UInt8) : Prop := l.head? ≠ some 48
theorem decFrom_ev (l : List UInt8) (hd : l.all isD = true) : ∀ a : Nat, Lib.decFrom a l = some (valA a l) := by
  induction l with
  | nil => intro a; rfl
  | cons b l ih =>
    intro a
    simp only [List.all_cons, Bool.and_eq_true] at hd
    have hb := (isD_iff b).1 hd.1
    rw [valA_cons]
    unfold Lib.decFrom Lib.digitVal
    rw [if_pos hb]
    exact ih hd.2 _
theorem atoi_val {s : ByteArray} (h : num s = true) : Lib.atoi s.data.toList = some ((val s.data.toList : Nat) : Int) := by
  simp only [num, figs, Bool.and_eq_true, Bool.or_eq_true, decide_eq_true_eq] at h
  obtain ⟨⟨ha, hz⟩, hb⟩ := h
  have hl := data_length s
  cases hs : s.data.toList with
  | nil => rw [hs] at hl; simp at hl; omega
  | cons b l =>
    rw [hs] at ha
    have ha' := ha
    simp only [List.all_cons, Bool.and_eq_true] at ha
    have hb := (isD_iff b).1 ha.1
    have h1 : (b == 45) = false := beq_eq_false_iff_ne.2 (fun e => by subst e; revert hb; decide)
    have h2 : (b == 43) = false := beq_eq_false_iff_ne.2 (fun e => by subst e; revert hb; decide)
    simp only [Lib.atoi, h1, h2, Bool.false_eq_true, if_false]
    unfold Lib.decNat
    rw [decFrom_ev _ ha']
    rfl
theorem text_ev (n : Nat) : n ≤ 100000000 → Ev (fun k => spec_l3Text.f k (n : Int)) ⟨(Lib.decDigits n).toArray⟩ := by
  induction n using Nat.strongRecOn with
  | ind n ih =>
    intro hn
    rw [Lib.decDigits]
    by_cases h : n < 10
    · rw [dif_pos h]
      refine evS (fun k => by rw [spec_l3Text.f]) (evT (by omega) (evR ?_))
      rw [w64 (by omega), show (48 + (n : Int)) % 256 = ((48 + n : Nat) : Int) by omega]
      rfl
    · rw [dif_neg h]
      have e1 : wrap64 (Int.tdiv (n : Int) 10) = ((n / 10 : Nat) : Int) := by
        rw [Int.tdiv_eq_ediv_of_nonneg (by omega), w64 (by omega)]
        omega
      have e2 : wrap64 (48 + Int.tmod (n : Int) 10) % 256 = ((48 + n % 10 : Nat) : Int) := by
        rw [Int.tmod_eq_emod_of_nonneg (by omega), w64 (by omega)]
        omega
      have hsz : (Lib.decDigits (n / 10)).length ≤ n := by
        rw [Lib.decDigits_length]
        have : ∀ m : Nat, Lib.nDigits m ≤ m + 1 := by
          intro m
          induction m using Nat.strongRecOn with
          | ind m ihm =>
            rw [Lib.nDigits]
            split
            · omega
            · have := ihm (m / 10) (by omega)
              omega
        have := this (n / 10)
        omega
      refine evS (fun k => by rw [spec_l3Text.f]) ?_
      rw [e1, e2]
      refine evF (by omega) (evB (ih (n / 10) (by omega) (by omega)) (evC rfl (evT ?_ (evR ?_))))
      · show (Lib.decDigits (n / 10)).toArray.size + 1 ≤ _
        rw [List.size_toArray]
        omega
      · show (⟨(Lib.decDigits (n / 10)).toArray⟩ : ByteArray) ++ (⟨([UInt8.ofNat (48 + n % 10)] : List UInt8).toArray⟩ : ByteArray) = _
        apply ByteArray.ext
        rw [ByteArray.data_append]
        simp
end Go.Proofs.YtkofdkinaahbpaaDoor.Z

/- A version's text, the program's and the reference's: the same. Plain lemmas. -/
set_option linter.unusedVariables false
namespace Go.Proofs.YtkofdkinaahbpaaDoor.Z
open Go.RowKit Go.Proofs.YtkofdkinaahbpaaDoorW.PrintWords Go.Proofs.YtkofdkinaahbpaaDoorW.PrintMore Go.Proofs.YtkofdkinaahbpaaDoor.X Go.Proofs.YtkofdkinaahbpaaDoor.Sp
def dB (a : Int) : ByteArray := ⟨(Lib.decDigits a.toNat).toArray⟩
theorem nd7 : ∀ n : Nat, n < 10000000 → Lib.nDigits n ≤ 7 := by
  intro n h
  have s : ∀ (m d : Nat), Lib.nDigits (m / 10) ≤ d → Lib.nDigits m ≤ d + 1 := by
    intro m d hm
    rw [Lib.nDigits]
    split <;> omega
  have b : Lib.nDigits (n / 10 / 10 / 10 / 10 / 10 / 10) ≤ 1 := by
    rw [Lib.nDigits, dif_pos (by omega)]
    exact Nat.le_refl _
  exact s _ _ (s _ _ (s _ _ (s _ _ (s _ _ (s _ _ b)))))
theorem dB_size (a : Int) (h : a ≤ 1000000) : (dB a).size ≤ 7 := by
  show (Lib.decDigits a.toNat).toArray.size ≤ 7
  rw [List.size_toArray, Lib.decDigits_length]
  exact nd7 _ (by omega)
def verT (a b c : Int) (p : ByteArray) : ByteArray :=
  if p.size = 0 then ((((((⟨#[118]⟩ : ByteArray) ++ dB a) ++ (⟨#[46]⟩ : ByteArray)) ++ dB b) ++ (⟨#[46]⟩ : ByteArray)) ++ dB c) else ((((((⟨#[118]⟩ : ByteArray) ++ dB a) ++ (⟨#[46]⟩ : ByteArray)) ++ dB b) ++ (⟨#[46]⟩ : ByteArray)) ++ dB c) ++ ((⟨#[45]⟩ : ByteArray) ++ p)
def verText (a b c : Int) (p : ByteArray) : ByteArray := if verOk a b c p = true then verT a b c p else ⟨#[]⟩
theorem verOk_in {a b c : Int} {p : ByteArray} (h : verOk a b c p = true) : (0 ≤ a ∧ a ≤ 1000000) ∧ (0 ≤ b ∧ b ≤ 1000000) ∧ (0 ≤ c ∧ c ≤ 1000000) := by
  unfold verOk in6 at h
  simp only [Bool.and_eq_true, decide_eq_true_eq] at h
  exact ⟨h.1, h.2.1, h.2.2.1⟩
theorem itoa_dB (a : Int) (h : 0 ≤ a ∧ a ≤ 1000000) : strconv_Itoa.f a = some (dB a) := by
  unfold strconv_Itoa.f dB Lib.itoa
  rw [if_pos (by omega), if_neg (by omega)]
theorem text_dB (a : Int) (h : 0 ≤ a ∧ a ≤ 1000000) : Ev (fun k => spec_l3Text.f k a) (dB a) := by
  have := text_ev a.toNat (by omega)
  rw [show ((a.toNat : Nat) : Int) = a by omega] at this
  exact this
theorem verText_both (a b c : Int) (p : ByteArray) (hp : p.size ≤ 1048576) : Ev (fun k => impl_VersionText.f k a b c p) (verText a b c p) ∧ Ev (fun k => spec_VersionText.f k a b c p) (verText a b c p) := by
  obtain ⟨hI, hS⟩ := verOk_both a b c p hp
  unfold verText
  cases hv : verOk a b c p with
  | false =>
    rw [hv] at hI hS
    refine ⟨?_, ?_⟩
    · unfold impl_VersionText.f
      exact evB hI (evF Bool.false_ne_true (evR rfl))
    · unfold spec_VersionText.f
      exact evB hS (evF Bool.false_ne_true (evR rfl))
  | true =>
    rw [hv] at hI hS
    obtain ⟨ra, rb, rc⟩ := verOk_in hv
    have za := dB_size a ra.2
    have zb := dB_size b rb.2
    have zc := dB_size c rc.2
    have ia := itoa_dB a ra
    have ib := itoa_dB b rb
    have ic := itoa_dB c rc
    have ta := text_dB a ra
    have tb := text_dB b rb
    have tc := text_dB c rc
    unfold verT
    generalize dB a = x at *
    generalize dB b = y at *
    generalize dB c = z at *
    have s1 : ((⟨#[118]⟩ : ByteArray) ++ x).size = 1 + x.size := ByteArray.size_append
    have s2 : (((⟨#[118]⟩ : ByteArray) ++ x) ++ (⟨#[46]⟩ : ByteArray)).size = 1 + x.size + 1 := by rw [ByteArray.size_append, s1]; rfl
    have s3 : ((((⟨#[118]⟩ : ByteArray) ++ x) ++ (⟨#[46]⟩ : ByteArray)) ++ y).size = 1 + x.size + 1 + y.size := by rw [ByteArray.size_append, s2]
    have s4 : (((((⟨#[118]⟩ : ByteArray) ++ x) ++ (⟨#[46]⟩ : ByteArray)) ++ y) ++ (⟨#[46]⟩ : ByteArray)).size = 1 + x.size + 1 + y.size + 1 := by rw [ByteArray.size_append, s3]; rfl
    have s5 : ((((((⟨#[118]⟩ : ByteArray) ++ x) ++ (⟨#[46]⟩ : ByteArray)) ++ y) ++ (⟨#[46]⟩ : ByteArray)) ++ z).size = 1 + x.size + 1 + y.size + 1 + z.size := by rw [ByteArray.size_append, s4]
    have s6 : (((((((⟨#[118]⟩ : ByteArray) ++ x) ++ (⟨#[46]⟩ : ByteArray)) ++ y) ++ (⟨#[46]⟩ : ByteArray)) ++ z) ++ (⟨#[45]⟩ : ByteArray)).size = 1 + x.size + 1 + y.size + 1 + z.size + 1 := by rw [ByteArray.size_append, s5]; rfl
    have s7 : ((⟨#[45]⟩ : ByteArray) ++ p).size = 1 + p.size := ByteArray.size_append
    refine ⟨?_, ?_⟩
    · unfold impl_VersionText.f
      refine evB hI (evT rfl (evC ia (evT (by omega) (evT (by omega) (evC ib (evT (by omega) (evT (by omega) (evC ic (evT (by omega) ?_)))))))))
      rw [if_pos rfl]
      by_cases h : p.size = 0
      · rw [if_pos h]
        exact evT ((nil_iff' p).2 h) (evR rfl)
      · rw [if_neg h]
        exact evF (fun e => h ((nil_iff' p).1 e)) (evT (by omega) (evT (by omega) (evR rfl)))
    · unfold spec_VersionText.f
      refine evB hS (evT rfl (evB ta (evT (by omega) (evT (by omega) (evB tb (evT (by omega) (evT (by omega) (evB tc (evT (by omega) ?_)))))))))
      rw [if_pos rfl]
      by_cases h : p.size = 0
      · rw [if_pos h]
        exact evT ((nil_iff' p).2 h) (evR rfl)
      · rw [if_neg h]
        refine evF (fun e => h ((nil_iff' p).1 e)) (evT (by omega) (evT (by omega) (evR ?_)))
        exact ByteArray.append_assoc
theorem verText_size (a b c : Int) (p : ByteArray) : (verText a b c p).size ≤ 25 + p.size := by
  unfold verText
  cases hv : verOk a b c p with
  | false => rw [if_neg Bool.false_ne_true]; show 0 ≤ _; omega
  | true =>
    obtain ⟨ra, rb, rc⟩ := verOk_in hv
    have za := dB_size a ra.2
    have zb := dB_size b rb.2
    have zc := dB_size c rc.2
    rw [if_pos rfl]
    have e1 : (⟨#[118]⟩ : ByteArray).size = 1 := rfl
    have e2 : (⟨#[46]⟩ : ByteArray).size = 1 := rfl
    have e3 : (⟨#[45]⟩ : ByteArray).size = 1 := rfl
    unfold verT
    split <;> simp only [ByteArray.size_append, e1, e2, e3] <;> omega
end Go.Proofs.YtkofdkinaahbpaaDoor.Z

/- The number that a text is, the program's way; ends of texts. Plain lemmas. -/
set_option linter.unusedVariables false
namespace Go.Proofs.YtkofdkinaahbpaaDoor.Z
open Go.RowKit Go.Proofs.YtkofdkinaahbpaaDoorW.PrintWords Go.Proofs.YtkofdkinaahbpaaDoorW.PrintMore Go.Proofs.YtkofdkinaahbpaaDoor.X Go.Proofs.YtkofdkinaahbpaaDoor.Sp
theorem ext_end (s : ByteArray) (f : Nat) : s.extract f s.size = toB (s.data.toList.drop f) := by
  rw [ext_list]
  unfold toB
  rw [List.take_of_length_le (by rw [List.length_drop, data_length]; exact Nat.le_refl _)]
theorem toB_size (l : List UInt8) : (toB l).size = l.length := by
  show l.toArray.size = _
  rw [List.size_toArray]
theorem toB_data (l : List UInt8) : (toB l).data.toList = l := by unfold toB; simp
theorem pieces_toB (c : UInt8) (s : ByteArray) : pieces c s = (pcs c s.data.toList).map toB := rfl
theorem numberOf_ev (t : ByteArray) (ht : t.size ≤ 1048576) (m : Int) (hm : m ≤ 18) : Ev (fun k => impl_numberOf.f k t m) (if num t = true ∧ (t.size : Int) ≤ m then (((val t.data.toList : Nat) : Int), true) else (0, false)) := by
  unfold impl_numberOf.f
  refine evB (num_impl t ht) ?_
  cases hn : num t with
  | false => exact evF Bool.false_ne_true (evR (by simp))
  | true =>
    refine evT rfl ?_
    by_cases h : (t.size : Int) > m
    · exact evT h (evR (by rw [if_neg (fun e => by omega)]))
    · refine evF h (evT (by omega) (evC (atoi_val hn) (evR ?_)))
      rw [if_pos ⟨rfl, by omega⟩]
end Go.Proofs.YtkofdkinaahbpaaDoor.Z

/- What a text is read as, the program's way and the reference's: the same version. Plain lemmas. -/
set_option linter.unusedVariables false
namespace Go.Proofs.YtkofdkinaahbpaaDoor.Z
open Go.RowKit Go.Proofs.YtkofdkinaahbpaaDoorW.PrintWords Go.Proofs.YtkofdkinaahbpaaDoorW.PrintMore Go.Proofs.YtkofdkinaahbpaaDoor.X Go.Proofs.YtkofdkinaahbpaaDoor.Sp
/-- What lies ahead of the first byte c, and behind it. -/
def cutL (c : UInt8) : List UInt8 → List UInt8 × List UInt8
  | [] => ([], [])
  | b :: l => if b = c then ([], l) else (b :: (cutL c l).1, (cutL c l).2)
theorem ix_cases (c : UInt8) : ∀ l : List UInt8, Lib.indexByte l c = -1 ∧ cutL c l = (l, []) ∨ ∃ n : Nat, Lib.indexByte l c = (n : Int) ∧ cutL c l = (l.take n, l.drop (n + 1))
  | [] => .inl ⟨rfl, rfl⟩
  | b :: l => by
    unfold cutL Lib.indexByte
    by_cases h : b = c
    · rw [if_pos h, if_pos (beq_iff_eq.2 h)]
      exact .inr ⟨0, rfl, rfl⟩
    · rw [if_neg h, if_neg (fun e => h (beq_iff_eq.1 e))]
      rcases ix_cases c l with ⟨h1, h2⟩ | ⟨n, h1, h2⟩
      · rw [h1, h2]
        exact .inl ⟨rfl, rfl⟩
      · rw [h1, h2]
        refine .inr ⟨n + 1, ?_, rfl⟩
        rw [if_neg (fun e => by have := beq_iff_eq.1 e; omega)]
        rfl
theorem cut_cutL (c : UInt8) (l : List UInt8) : (Lib.cut l [c]).1 = (cutL c l).1 ∧ (Lib.cut l [c]).2.1 = (cutL c l).2 := by
  unfold Lib.cut
  rw [Lib.index_one]
  rcases ix_cases c l with ⟨h1, h2⟩ | ⟨n, h1, h2⟩
  · rw [h1, h2, if_neg (by omega)]
    exact ⟨rfl, rfl⟩
  · rw [h1, h2, if_pos (by omega)]
    exact ⟨rfl, rfl⟩
theorem cutL_len (c : UInt8) : ∀ l : List UInt8, (cutL c l).1.length ≤ l.length ∧ (cutL c l).2.length ≤ l.length
  | [] => ⟨Nat.le_refl _, Nat.le_refl _⟩
  | b :: l => by
    have ih := cutL_len c l
    unfold cutL
    split
    · simp
    · simp; omega
theorem cut_ev (s : ByteArray) (c : UInt8) (hs : s.size ≤ 1048576) : ∃ b, strings_Cut.f s ⟨#[c]⟩ = some (toB (cutL c s.data.toList).1, toB (cutL c s.data.toList).2, b) := by
  unfold strings_Cut.f
  rw [if_pos ⟨by omega, rfl⟩]
  have h := cut_cutL c s.data.toList
  refine ⟨(Lib.cut s.data.toList [c]).2.2, ?_⟩
  show some (cutB_ c s) = _
  unfold cutB_ toB
  rw [h.1, h.2]
theorem toB_self (s : ByteArray) : toB s.data.toList = s := by
  unfold toB
  cases s
  simp
def nilB : ByteArray := ⟨#[]⟩
def noV : Int × Int × Int × ByteArray × Bool := (0, 0, 0, ⟨#[]⟩, false)
/-- What lies behind a 'v' ahead. -/
def offV (s : ByteArray) : ByteArray := if s.data.toList.head? = some 118 then toB (s.data.toList.drop 1) else s
theorem head_bt (s : ByteArray) (c : UInt8) (h : 0 < s.size) : s.data.toList.head? = some c ↔ bt s 0 = (c.toNat : Int) := by
  have hb : bt s 0 = _ := byte_at s 0 h
  have hl := data_length s
  cases hx : s.data.toList with
  | nil => rw [hx] at hl; simp at hl; omega
  | cons a m =>
    simp only [hx, List.getElem_cons_zero] at hb
    rw [hb, List.head?_cons]
    constructor
    · intro e
      rw [Option.some.inj e]
    · intro e
      rw [UInt8.toNat_inj.1 (show a.toNat = c.toNat by omega)]
theorem trim_ev (s : ByteArray) (hs : s.size ≤ 1048576) : strings_TrimPrefix.f s ⟨#[118]⟩ = some (offV s) := by
  unfold strings_TrimPrefix.f stringslite_TrimPrefix.f stringslite_HasPrefix.f offV
  have e1 : ((⟨#[118]⟩ : ByteArray).size : Int) = 1 := rfl
  have hl := data_length s
  rw [e1]
  by_cases h : (s.size : Int) ≥ 1
  · rw [if_pos h, if_pos (by omega), if_pos (by omega)]
    simp only [Option.bind_some]
    have e2 : (s.extract 0 (1 : Int).toNat).toList = s.data.toList.take 1 := by
      rw [tl, show (1 : Int).toNat = 1 from rfl, ext_list]
      simp
    have e3 : (⟨#[118]⟩ : ByteArray).toList = [118] := by rw [tl]
    rw [e2, e3]
    cases hx : s.data.toList with
    | nil => rw [hx] at hl; simp at hl; omega
    | cons a m =>
      by_cases ha : a = 118
      · subst ha
        rw [if_pos (by simp), if_pos (by omega), if_pos (by omega), if_pos (show (118 :: m : List UInt8).head? = some 118 from rfl)]
        simp only [Option.bind_some]
        rw [show (1 : Int).toNat = 1 from rfl, ext_end, hx]
      · rw [if_neg (by simp [ha]), if_neg (by simp [ha])]
        rfl
  · rw [if_neg h]
    simp only [Option.bind_some]
    have h0 : s.data.toList = [] := List.eq_nil_of_length_eq_zero (by omega)
    rw [h0, if_neg (by simp), if_neg (by simp)]
    rfl
def at3 (l : List ByteArray) (i : Int) : ByteArray := rdOf ByteArray.empty l i
def good7 (x : ByteArray) : Prop := num x = true ∧ (x.size : Int) ≤ 7
instance (x : ByteArray) : Decidable (good7 x) := by unfold good7; exact inferInstance
def valI (x : ByteArray) : Int := ((val x.data.toList : Nat) : Int)
def numsOf (t : ByteArray) : List ByteArray := pieces 46 (toB (cutL 45 t.data.toList).1)
def preOf (t : ByteArray) : ByteArray := toB (cutL 45 t.data.toList).2
/-- The program's way. -/
def readI (s : ByteArray) : Int × Int × Int × ByteArray × Bool :=
  if (numsOf (offV s)).length = 3 ∧ good7 (at3 (numsOf (offV s)) 0) ∧ good7 (at3 (numsOf (offV s)) 1) ∧ good7 (at3 (numsOf (offV s)) 2) ∧
      verText (valI (at3 (numsOf (offV s)) 0)) (valI (at3 (numsOf (offV s)) 1)) (valI (at3 (numsOf (offV s)) 2)) (preOf (offV s)) = s then
    (valI (at3 (numsOf (offV s)) 0), valI (at3 (numsOf (offV s)) 1), valI (at3 (numsOf (offV s)) 2), preOf (offV s), true) else noV
/-- The reference's way. -/
def readS (s : ByteArray) : Int × Int × Int × ByteArray × Bool :=
  if s.data.toList.head? = some 118 ∧ (numsOf (offV s)).length = 3 ∧ verOk (numS (at3 (numsOf (offV s)) 0)) (numS (at3 (numsOf (offV s)) 1)) (numS (at3 (numsOf (offV s)) 2)) (preOf (offV s)) = true ∧
      verText (numS (at3 (numsOf (offV s)) 0)) (numS (at3 (numsOf (offV s)) 1)) (numS (at3 (numsOf (offV s)) 2)) (preOf (offV s)) = s then
    (numS (at3 (numsOf (offV s)) 0), numS (at3 (numsOf (offV s)) 1), numS (at3 (numsOf (offV s)) 2), preOf (offV s), true) else noV
theorem pow7 {n : Nat} (h : 7 ≤ n) : 10000000 ≤ 10 ^ n := Nat.le_trans (by decide) (Nat.pow_le_pow_right (show 0 < 10 by decide) h)
theorem good_numS {x : ByteArray} (h : good7 x) : numS x = valI x := by
  unfold valI
  refine numS_val ?_
  unfold short
  have := h.2
  rw [h.1, decide_eq_true (by omega)]
  rfl
theorem numS_good {x : ByteArray} (h : in6 (numS x) = true) : good7 x := by
  unfold in6 at h
  have h1 := of_decide_eq_true h
  have hsh := (numS_pos x).1 h1.1
  have hv := numS_val hsh
  rw [hv] at h1
  have hn : num x = true := by unfold short at hsh; simp only [Bool.and_eq_true] at hsh; exact hsh.1
  refine ⟨hn, ?_⟩
  rcases Nat.lt_or_ge 7 x.size with h5 | h5
  · have hle := short_lead hsh (by omega)
    have h10 := pow7 (n := x.size - 1) (by omega)
    generalize val x.data.toList = v at *
    generalize 10 ^ (x.size - 1) = p at *
    omega
  · omega
theorem verText_nil {a b c : Int} {p : ByteArray} (h : verOk a b c p = false) : verText a b c p = nilB := by
  unfold verText
  rw [h, if_neg Bool.false_ne_true]
  rfl
theorem verText_v {a b c : Int} {p : ByteArray} (h : verOk a b c p = true) : (verText a b c p).data.toList.head? = some 118 := by
  unfold verText verT
  rw [if_pos h]
  have e : (⟨#[118]⟩ : ByteArray).data.toList = [118] := rfl
  split
  · simp [ByteArray.data_append]
  · simp [ByteArray.data_append]
theorem nums_nil : (numsOf (offV nilB)).length = 1 := rfl
theorem read_same (s : ByteArray) : readI s = readS s := by
  unfold readI readS
  by_cases h3 : (numsOf (offV s)).length = 3
  · by_cases hT : good7 (at3 (numsOf (offV s)) 0) ∧ good7 (at3 (numsOf (offV s)) 1) ∧ good7 (at3 (numsOf (offV s)) 2) ∧
      verText (valI (at3 (numsOf (offV s)) 0)) (valI (at3 (numsOf (offV s)) 1)) (valI (at3 (numsOf (offV s)) 2)) (preOf (offV s)) = s
    · obtain ⟨g0, g1, g2, ht⟩ := hT
      rw [if_pos ⟨h3, g0, g1, g2, ht⟩, good_numS g0, good_numS g1, good_numS g2]
      have hv : verOk (valI (at3 (numsOf (offV s)) 0)) (valI (at3 (numsOf (offV s)) 1)) (valI (at3 (numsOf (offV s)) 2)) (preOf (offV s)) = true := by
        cases hv : verOk (valI (at3 (numsOf (offV s)) 0)) (valI (at3 (numsOf (offV s)) 1)) (valI (at3 (numsOf (offV s)) 2)) (preOf (offV s)) with
        | true => rfl
        | false =>
          rw [verText_nil hv] at ht
          rw [← ht, nums_nil] at h3
          omega
      rw [if_pos ⟨ht ▸ verText_v hv, h3, hv, ht⟩]
    · rw [if_neg (fun e => hT e.2), if_neg]
      rintro ⟨_, _, hv, ht⟩
      have hin : in6 (numS (at3 (numsOf (offV s)) 0)) = true ∧ in6 (numS (at3 (numsOf (offV s)) 1)) = true ∧ in6 (numS (at3 (numsOf (offV s)) 2)) = true := by
        unfold verOk at hv
        simp only [Bool.and_eq_true] at hv
        exact ⟨hv.1, hv.2.1, hv.2.2.1⟩
      have g0 := numS_good hin.1
      have g1 := numS_good hin.2.1
      have g2 := numS_good hin.2.2
      rw [good_numS g0, good_numS g1, good_numS g2] at ht
      exact hT ⟨g0, g1, g2, ht⟩
  · rw [if_neg (fun e => h3 e.1), if_neg (fun e => h3 e.2.1)]
theorem offV_size (s : ByteArray) : (offV s).size ≤ s.size := by
  unfold offV
  split
  · rw [toB_size, List.length_drop, data_length]
    omega
  · exact Nat.le_refl _
theorem pre_size (t : ByteArray) : (preOf t).size ≤ t.size := by
  unfold preOf
  rw [toB_size]
  have := (cutL_len 45 t.data.toList).2
  rw [data_length] at this
  exact this
theorem num_size (t : ByteArray) : (toB (cutL 45 t.data.toList).1).size ≤ t.size := by
  rw [toB_size]
  have := (cutL_len 45 t.data.toList).1
  rw [data_length] at this
  exact this
theorem at3_size (t : ByteArray) (i : Nat) (h : i < (numsOf t).length) : (at3 (numsOf t) (i : Int)).size ≤ t.size := by
  have hm : at3 (numsOf t) (i : Int) ∈ numsOf t := by
    have := rdOf_get (d := ByteArray.empty) h
    rw [List.getElem?_eq_getElem h] at this
    unfold at3
    rw [← Option.some.inj this]
    exact List.getElem_mem h
  exact Nat.le_trans (pieces_mem 46 _ _ hm) (num_size t)
theorem tl_eq {a b : ByteArray} : (a.toList = b.toList) = (a = b) := propext tl_inj
theorem numOf7 (t : ByteArray) (ht : t.size ≤ 1048576) : Ev (fun k => impl_numberOf.f k t 7) (if good7 t then (valI t, true) else (0, false)) := by
  refine evE ?_ (numberOf_ev t ht 7 (by omega))
  by_cases h : good7 t
  · rw [if_pos h]
    exact if_pos h
  · rw [if_neg h]
    exact if_neg h
theorem impl_n3 (s p : ByteArray) (a b c : Int) (hp : p.size ≤ 1048576) : Ev (fun k => impl_ParseVersion.n3 k s p a b c) (if verText a b c p = s then (a, b, c, p, true) else noV) := by
  unfold impl_ParseVersion.n3
  refine evB (verText_both a b c p hp).1 ?_
  simp only [tl_eq]
  by_cases h : verText a b c p = s
  · exact evT h (evR (by rw [if_pos h]))
  · exact evF h (evR (by rw [if_neg h]; rfl))
theorem impl_read (s : ByteArray) (hs : s.size ≤ 1048576) : Ev (fun k => impl_ParseVersion.f k s) (readI s) := by
  have ho := offV_size s
  have hn := num_size (offV s)
  have hp := pre_size (offV s)
  obtain ⟨bb, hc⟩ := cut_ev (offV s) 45 (by omega)
  unfold impl_ParseVersion.f readI
  refine evC (trim_ev s hs) (evC hc ?_)
  have hsp : strings_Split.f (toB (cutL 45 (offV s).data.toList).1) (⟨#[46]⟩ : ByteArray) = some (numsOf (offV s)) := by
    unfold strings_Split.f
    rw [if_pos ⟨by omega, rfl⟩]
    rfl
  refine evC hsp ?_
  by_cases h3 : (numsOf (offV s)).length = 3
  · refine evT h3 ?_
    have z0 := at3_size (offV s) 0 (by omega)
    have z1 := at3_size (offV s) 1 (by omega)
    have z2 := at3_size (offV s) 2 (by omega)
    have f0 := numOf7 _ (Nat.le_trans z0 (by omega))
    have f1 := numOf7 _ (Nat.le_trans z1 (by omega))
    have f2 := numOf7 _ (Nat.le_trans z2 (by omega))
    show Ev (fun k => impl_ParseVersion.n0 k s (preOf (offV s)) (at3 (numsOf (offV s)) ((0 : Nat) : Int)) (at3 (numsOf (offV s)) ((1 : Nat) : Int)) (at3 (numsOf (offV s)) ((2 : Nat) : Int))) _
    unfold impl_ParseVersion.n0
    refine evB f0 ?_
    by_cases g0 : good7 (at3 (numsOf (offV s)) ((0 : Nat) : Int))
    · rw [if_pos g0]
      refine evT rfl ?_
      unfold impl_ParseVersion.n1
      refine evB f1 ?_
      by_cases g1 : good7 (at3 (numsOf (offV s)) ((1 : Nat) : Int))
      · rw [if_pos g1]
        refine evT rfl ?_
        unfold impl_ParseVersion.n2
        refine evB f2 ?_
        by_cases g2 : good7 (at3 (numsOf (offV s)) ((2 : Nat) : Int))
        · rw [if_pos g2]
          refine evT rfl (evE ?_ (impl_n3 s (preOf (offV s)) _ _ _ (by omega)))
          by_cases ht : verText (valI (at3 (numsOf (offV s)) 0)) (valI (at3 (numsOf (offV s)) 1)) (valI (at3 (numsOf (offV s)) 2)) (preOf (offV s)) = s
          · exact (if_pos ht).trans (if_pos ⟨h3, g0, g1, g2, ht⟩).symm
          · exact (if_neg ht).trans (if_neg (fun e => ht e.2.2.2.2)).symm
        · rw [if_neg g2, if_neg (fun e => g2 e.2.2.2.1)]
          exact evF Bool.false_ne_true (evR rfl)
      · rw [if_neg g1, if_neg (fun e => g1 e.2.2.1)]
        exact evF Bool.false_ne_true (evR rfl)
    · rw [if_neg g0, if_neg (fun e => g0 e.2.1)]
      exact evF Bool.false_ne_true (evR rfl)
  · rw [if_neg (fun e => h3 e.1)]
    exact evF h3 (evR rfl)
theorem spec_l0 (s t : ByteArray) (ht : t.size ≤ 1048576) (r : Int × Int × Int × ByteArray × Bool) (d : Nat) : ∀ i : Nat, i + d = t.size →
    Ev (fun k => spec_ParseVersion.n2 k s (toB (t.data.toList.take i ++ (cutL 45 (t.data.toList.drop i)).1)) (toB (cutL 45 (t.data.toList.drop i)).2)) r → Ev (fun k => spec_ParseVersion.l0 k s t (i : Int)) r := by
  induction d with
  | zero =>
    intro i hi H
    rw [List.drop_eq_nil_of_le (show t.data.toList.length ≤ i by rw [data_length]; omega), List.take_of_length_le (show t.data.toList.length ≤ i by rw [data_length]; omega)] at H
    rw [show t.data.toList ++ (cutL 45 []).1 = t.data.toList from List.append_nil _, toB_self] at H
    refine evS (fun k => by rw [spec_ParseVersion.l0]) ?_
    exact evF (by omega) H
  | succ d ih =>
    intro i hi H
    have hl : i < t.data.toList.length := by rw [data_length]; omega
    have hb := byte_at t i (by omega)
    rw [List.drop_eq_getElem_cons hl] at H
    refine evS (fun k => by rw [spec_ParseVersion.l0]) ?_
    rw [hb, w64s (show i < t.size by omega) (by omega)]
    refine evT (by omega) (evT (by omega) ?_)
    by_cases hc : t.data.toList[i] = 45
    · rw [hc] at H ⊢
      refine evT (by decide) (evT (by omega) (evT (by omega) ?_))
      rw [show (((i + 1 : Nat) : Int)).toNat = i + 1 by omega, show ((i : Nat) : Int).toNat = i by omega, ext_end, ext_list, List.drop_zero, Nat.sub_zero]
      rw [cutL, if_pos rfl, List.append_nil] at H
      exact H
    · refine evF (fun e => hc (UInt8.toNat_inj.1 (show _ = 45 by omega))) (ih (i + 1) (by omega) ?_)
      rw [cutL, if_neg hc] at H
      rw [List.take_succ_eq_append_getElem hl, List.append_assoc]
      exact H
theorem spec_n3 (s p : ByteArray) (a b c : Int) (hp : p.size ≤ 1048576) : Ev (fun k => spec_ParseVersion.n3 k s p a b c) (if verOk a b c p = true ∧ verText a b c p = s then (a, b, c, p, true) else noV) := by
  unfold spec_ParseVersion.n3
  refine evB (verOk_both a b c p hp).2 ?_
  cases hv : verOk a b c p with
  | false => exact evF Bool.false_ne_true (evR (by simp [noV]))
  | true =>
    refine evT rfl (evB (verText_both a b c p hp).2 ?_)
    simp only [tl_eq]
    by_cases h : verText a b c p = s
    · exact evT h (evR (by simp [h]))
    · exact evF h (evR (by simp [h, noV]))
theorem spec_n2 (s t : ByteArray) (ht : t.size ≤ 1048576) : Ev (fun k => spec_ParseVersion.n2 k s (toB (cutL 45 t.data.toList).1) (preOf t))
    (if (numsOf t).length = 3 ∧ verOk (numS (at3 (numsOf t) 0)) (numS (at3 (numsOf t) 1)) (numS (at3 (numsOf t) 2)) (preOf t) = true ∧ verText (numS (at3 (numsOf t) 0)) (numS (at3 (numsOf t) 1)) (numS (at3 (numsOf t) 2)) (preOf t) = s then
      (numS (at3 (numsOf t) 0), numS (at3 (numsOf t) 1), numS (at3 (numsOf t) 2), preOf t, true) else noV) := by
  have hn := num_size t
  have hp := pre_size t
  unfold spec_ParseVersion.n2
  refine evB (a := numsOf t) (split_spec _ (by omega) 46) ?_
  by_cases h3 : (numsOf t).length = 3
  · have z0 := at3_size t 0 (by omega)
    have z1 := at3_size t 1 (by omega)
    have z2 := at3_size t 2 (by omega)
    refine evT h3 (evB (numS_spec _ (Nat.le_trans z0 (by omega))) (evB (numS_spec _ (Nat.le_trans z1 (by omega))) (evB (numS_spec _ (Nat.le_trans z2 (by omega))) (evE ?_ (spec_n3 s (preOf t) _ _ _ (by omega))))))
    by_cases hh : verOk (numS (at3 (numsOf t) 0)) (numS (at3 (numsOf t) 1)) (numS (at3 (numsOf t) 2)) (preOf t) = true ∧ verText (numS (at3 (numsOf t) 0)) (numS (at3 (numsOf t) 1)) (numS (at3 (numsOf t) 2)) (preOf t) = s
    · exact (if_pos hh).trans (if_pos ⟨h3, hh⟩).symm
    · exact (if_neg hh).trans (if_neg (fun e => hh e.2)).symm
  · rw [if_neg (fun e => h3 e.1)]
    exact evF h3 (evR rfl)
theorem spec_read (s : ByteArray) (hs : s.size ≤ 1048576) : Ev (fun k => spec_ParseVersion.f k s) (readS s) := by
  unfold spec_ParseVersion.f readS
  have hl := data_length s
  by_cases h0 : s.size = 0
  · have hn : s.data.toList = [] := List.eq_nil_of_length_eq_zero (by omega)
    refine evT ((nil_iff' s).2 h0) (evR ?_)
    rw [hn, if_neg (fun e => by simp at e)]
    rfl
  · refine evF (fun e => h0 ((nil_iff' s).1 e)) (evT (by omega) ?_)
    have hh := head_bt s 118 (by omega)
    by_cases hv : bt s 0 = 118
    · have hv' : s.data.toList.head? = some 118 := hh.2 hv
      have ho : offV s = toB (s.data.toList.drop 1) := by unfold offV; rw [if_pos hv']
      refine evT hv (evT (by omega) ?_)
      rw [ext_end, ← ho]
      have hz := offV_size s
      refine spec_l0 s (offV s) (by omega) _ (offV s).size 0 (by omega) ?_
      rw [List.take_zero, List.nil_append, List.drop_zero]
      refine evE ?_ (spec_n2 s (offV s) (by omega))
      by_cases h3 : (numsOf (offV s)).length = 3 ∧ verOk (numS (at3 (numsOf (offV s)) 0)) (numS (at3 (numsOf (offV s)) 1)) (numS (at3 (numsOf (offV s)) 2)) (preOf (offV s)) = true ∧
          verText (numS (at3 (numsOf (offV s)) 0)) (numS (at3 (numsOf (offV s)) 1)) (numS (at3 (numsOf (offV s)) 2)) (preOf (offV s)) = s
      · rw [if_pos h3, if_pos ⟨hv', h3⟩]
      · rw [if_neg h3, if_neg (fun e => h3 e.2)]
    · refine evF hv (evR ?_)
      rw [if_neg (fun e => hv (hh.1 e.1))]
      rfl
theorem read_both (s : ByteArray) (hs : s.size ≤ 1048576) : Ev (fun k => impl_ParseVersion.f k s) (readS s) ∧ Ev (fun k => spec_ParseVersion.f k s) (readS s) := ⟨read_same s ▸ impl_read s hs, spec_read s hs⟩
end Go.Proofs.YtkofdkinaahbpaaDoor.Z

/- A right version comes back of its text; a text that is read as a version has that version's text. Plain lemmas. -/
set_option linter.unusedVariables false
namespace Go.Proofs.YtkofdkinaahbpaaDoor.Z
open Go.RowKit Go.Proofs.YtkofdkinaahbpaaDoorW.PrintWords Go.Proofs.YtkofdkinaahbpaaDoorW.PrintMore Go.Proofs.YtkofdkinaahbpaaDoor.X Go.Proofs.YtkofdkinaahbpaaDoor.Sp
theorem dig_of (k : Nat) (h : k < 10) : isD (UInt8.ofNat (48 + k)) = true ∧ digit (UInt8.ofNat (48 + k)) = k := by
  have e : (UInt8.ofNat (48 + k)).toNat = 48 + k := by
    rw [UInt8.toNat_ofNat']
    omega
  refine ⟨(isD_iff _).2 (by omega), ?_⟩
  unfold digit
  omega
theorem dec_all (n : Nat) : (Lib.decDigits n).all isD = true ∧ val (Lib.decDigits n) = n ∧ Lib.decDigits n ≠ [] ∧ (10 ≤ n → lead (Lib.decDigits n)) ∧ (1 ≤ n → lead (Lib.decDigits n)) := by
  induction n using Nat.strongRecOn with
  | ind n ih =>
    rw [Lib.decDigits]
    by_cases h : n < 10
    · rw [dif_pos h]
      obtain ⟨h1, h2⟩ := dig_of n h
      refine ⟨by rw [List.all_cons, h1]; rfl, ?_, by simp, fun e => by omega, fun e => ?_⟩
      · rw [show ([UInt8.ofNat (48 + n)] : List UInt8) = [] ++ [UInt8.ofNat (48 + n)] from rfl, val_snoc, h2]
        show 0 * 10 + n = n
        omega
      · unfold lead
        simp only [List.head?_cons, ne_eq, Option.some.injEq]
        intro e'
        rw [e'] at h2
        have : digit 48 = 0 := rfl
        omega
    · rw [dif_neg h]
      obtain ⟨h1, h2, h3, h4, h5⟩ := ih (n / 10) (by omega)
      obtain ⟨d1, d2⟩ := dig_of (n % 10) (by omega)
      have hl : lead (Lib.decDigits (n / 10) ++ [UInt8.ofNat (48 + n % 10)]) := by
        have := h5 (by omega)
        unfold lead at this ⊢
        cases hx : Lib.decDigits (n / 10) with
        | nil => exact absurd hx h3
        | cons x y => rw [hx] at this; exact this
      refine ⟨by rw [List.all_append, h1, List.all_cons, d1]; rfl, ?_, by simp, fun _ => hl, fun _ => hl⟩
      rw [val_snoc, h2, d2]
      omega
theorem numS_dB (a : Int) (h : 0 ≤ a ∧ a ≤ 1000000) : numS (dB a) = a := by
  obtain ⟨h1, h2, h3, _, h5⟩ := dec_all a.toNat
  have hz := dB_size a h.2
  have hd : (dB a).data.toList = Lib.decDigits a.toNat := by unfold dB; simp
  have hlen := data_length (dB a)
  have hne : (dB a).size ≠ 0 := by
    intro e
    rw [e] at hlen
    rw [hd] at hlen
    exact h3 (List.eq_nil_of_length_eq_zero hlen)
  have hf : figs (dB a) = true := by unfold figs; rw [hd, h1, decide_eq_true hne]; rfl
  have hn : num (dB a) = true := by
    unfold num
    rw [hf, Bool.true_and]
    by_cases h0 : a = 0
    · subst h0
      have : (dB 0).data.toList = [48] := by rw [hd]; unfold Lib.decDigits; rfl
      rw [decide_eq_true this]
      rfl
    · have hl := h5 (by omega)
      have hb : bt (dB a) 0 ≠ 48 := by
        intro e
        have := (head_bt (dB a) 48 (by omega)).2 e
        rw [hd] at this
        exact hl this
      rw [decide_eq_true hb, Bool.or_true]
  rw [numS_val (by unfold short; rw [hn, decide_eq_true (show (dB a).size ≤ 8 by omega)]; rfl), hd, h2]
  omega
theorem cutL_hit (c : UInt8) (l m : List UInt8) (h : ∀ u ∈ l, u ≠ c) : cutL c (l ++ c :: m) = (l, m) := by
  induction l with
  | nil => simp [cutL]
  | cons b l ih =>
    rw [List.cons_append, cutL, if_neg (h b List.mem_cons_self), ih (fun u hu => h u (List.mem_cons_of_mem _ hu))]
theorem cutL_miss (c : UInt8) (l : List UInt8) (h : ∀ u ∈ l, u ≠ c) : cutL c l = (l, []) := by
  induction l with
  | nil => rfl
  | cons b l ih => rw [cutL, if_neg (h b List.mem_cons_self), ih (fun u hu => h u (List.mem_cons_of_mem _ hu))]
theorem pcs_miss (c : UInt8) (l : List UInt8) (h : ∀ u ∈ l, u ≠ c) : pcs c l = [l] := by
  induction l with
  | nil => rfl
  | cons b l ih => rw [pcs, if_neg (h b List.mem_cons_self), ih (fun u hu => h u (List.mem_cons_of_mem _ hu))]; rfl
theorem pcs_hit (c : UInt8) (l m : List UInt8) (h : ∀ u ∈ l, u ≠ c) : pcs c (l ++ c :: m) = l :: pcs c m := by
  induction l with
  | nil => rw [List.nil_append, pcs, if_pos rfl]
  | cons b l ih => rw [List.cons_append, pcs, if_neg (h b List.mem_cons_self), ih (fun u hu => h u (List.mem_cons_of_mem _ hu))]; rfl
theorem dig_ne {l : List UInt8} (h : l.all isD = true) (c : UInt8) (hc : isD c = false) : ∀ u ∈ l, u ≠ c := by
  intro u hu e
  have := List.all_eq_true.1 h u hu
  rw [e, hc] at this
  cases this
/-- The bytes of a version's text, behind the 'v'. -/
def tailB (a b c : Int) (p : ByteArray) : List UInt8 :=
  Lib.decDigits a.toNat ++ 46 :: (Lib.decDigits b.toNat ++ 46 :: (Lib.decDigits c.toNat ++ (if p.size = 0 then [] else 45 :: p.data.toList)))
theorem verT_bytes (a b c : Int) (p : ByteArray) : (verT a b c p).data.toList = 118 :: tailB a b c p := by
  unfold verT tailB dB
  by_cases h : p.size = 0
  · rw [if_pos h, if_pos h]
    simp [ByteArray.data_append]
  · rw [if_neg h, if_neg h]
    simp [ByteArray.data_append]
theorem tail_cut (a b c : Int) (p : ByteArray) : cutL 45 (tailB a b c p) = (Lib.decDigits a.toNat ++ 46 :: (Lib.decDigits b.toNat ++ 46 :: Lib.decDigits c.toNat), p.data.toList) := by
  have ha := dig_ne (dec_all a.toNat).1 45 rfl
  have hb := dig_ne (dec_all b.toNat).1 45 rfl
  have hc := dig_ne (dec_all c.toNat).1 45 rfl
  have hl : ∀ u ∈ Lib.decDigits a.toNat ++ 46 :: (Lib.decDigits b.toNat ++ 46 :: Lib.decDigits c.toNat), u ≠ (45 : UInt8) := by
    intro u hu
    simp only [List.mem_append, List.mem_cons] at hu
    rcases hu with h | h | h | h | h
    · exact ha u h
    · rw [h]; decide
    · exact hb u h
    · rw [h]; decide
    · exact hc u h
  unfold tailB
  by_cases h : p.size = 0
  · have hn : p.data.toList = [] := List.eq_nil_of_length_eq_zero (by rw [data_length]; exact h)
    rw [if_pos h, List.append_nil, hn]
    exact cutL_miss 45 _ hl
  · rw [if_neg h]
    have := cutL_hit 45 _ p.data.toList hl
    simpa using this
theorem read_back (a b c : Int) (p : ByteArray) (h : verOk a b c p = true) : readS (verText a b c p) = (a, b, c, p, true) := by
  obtain ⟨ra, rb, rc⟩ := verOk_in h
  have hv := verText_v h
  have ht : (verText a b c p).data.toList = 118 :: tailB a b c p := by
    unfold verText
    rw [if_pos h]
    exact verT_bytes a b c p
  have ho : offV (verText a b c p) = toB (tailB a b c p) := by
    unfold offV
    rw [if_pos hv, ht]
    rfl
  have hpre : preOf (toB (tailB a b c p)) = p := by
    unfold preOf
    rw [toB_data, tail_cut, toB_self]
  have hA := dig_ne (dec_all a.toNat).1 46 rfl
  have hB := dig_ne (dec_all b.toNat).1 46 rfl
  have hC := dig_ne (dec_all c.toNat).1 46 rfl
  have hnum : numsOf (toB (tailB a b c p)) = [dB a, dB b, dB c] := by
    unfold numsOf
    rw [toB_data, tail_cut, pieces_toB, toB_data, pcs_hit 46 _ _ hA, pcs_hit 46 _ _ hB, pcs_miss 46 _ hC]
    rfl
  unfold readS
  rw [ho, hpre, hnum]
  have e0 : numS (at3 [dB a, dB b, dB c] 0) = a := numS_dB a ra
  have e1 : numS (at3 [dB a, dB b, dB c] 1) = b := numS_dB b rb
  have e2 : numS (at3 [dB a, dB b, dB c] 2) = c := numS_dB c rc
  rw [e0, e1, e2, if_pos ⟨hv, rfl, h, rfl⟩]
/-- What is read is right, and has that text. -/
theorem read_text (s : ByteArray) (a b c : Int) (p : ByteArray) (h : readS s = (a, b, c, p, true)) : verOk a b c p = true ∧ verText a b c p = s ∧ p.size ≤ s.size := by
  unfold readS at h
  split at h
  · rename_i hc
    simp only [Prod.mk.injEq] at h
    obtain ⟨rfl, rfl, rfl, rfl, _⟩ := h
    exact ⟨hc.2.2.1, hc.2.2.2, Nat.le_trans (pre_size _) (offV_size s)⟩
  · unfold noV at h
    simp at h
end Go.Proofs.YtkofdkinaahbpaaDoor.Z

/- What the reference's draws of one number give. No Go, no memory. -/
set_option linter.unusedVariables false
namespace Go.Proofs.YtkofdkinaahbpaaDoor.Z
open Go.RowKit Go.Proofs.YtkofdkinaahbpaaDoorW.PrintWords Go.Proofs.YtkofdkinaahbpaaDoorW.PrintMore Go.Proofs.YtkofdkinaahbpaaDoor.X

theorem and255 (a : Int) : 0 ≤ Go.bits .and .i64 a 255 ∧ Go.bits .and .i64 a 255 ≤ 255 := by
  have h : ((BitVec.ofInt 64 a &&& BitVec.ofInt 64 255).toNat) ≤ 255 := by
    rw [BitVec.toNat_and]
    exact Nat.and_le_right
  have h2 : Go.bits .and .i64 a 255 = IntKind.i64.wrap (((BitVec.ofInt 64 a &&& BitVec.ofInt 64 255).toNat : Nat) : Int) := rfl
  rw [h2, wi64, w64 (by omega)]
  omega
/-- A place of the cursor over l. -/
def At (l : List Int) (i : Int) : Prop := 0 ≤ i ∧ i ≤ l.length
theorem byte_some (l : List Int) (hl : l.length ≤ 140737488355328) (i h : Int) (hi : At l i) : ∃ x i' h', spec_l1Byte.f l i h = some (x, i', h') ∧ 0 ≤ x ∧ x ≤ 255 ∧ At l i' := by
  unfold At at *
  unfold spec_l1Byte.f
  by_cases h1 : i < (l.length : Int)
  · rw [if_pos h1, if_pos hi.1, w64 (x := i + 1) (by omega)]
    exact ⟨_, _, _, rfl, (and255 _).1, (and255 _).2, by omega, by omega⟩
  · rw [if_neg h1]
    exact ⟨_, _, _, rfl, (and255 _).1, (and255 _).2, hi⟩
theorem below_some (l : List Int) (hl : l.length ≤ 140737488355328) (i h n : Int) (hi : At l i) (hn : n ≤ 1000000) : ∃ x i' h', spec_l1Below.f l i h n = some (x, i', h') ∧ 0 ≤ x ∧ (x < n ∨ x = 0) ∧ At l i' := by
  unfold spec_l1Below.f
  by_cases h0 : n ≤ 0
  · rw [if_pos h0]
    exact ⟨_, _, _, rfl, by omega, .inr rfl, hi⟩
  rw [if_neg h0]
  by_cases h1 : n ≤ 256
  · rw [if_pos h1]
    obtain ⟨x, i', h', e, hx0, hx1, hi'⟩ := byte_some l hl i h hi
    rw [e]
    simp only [Option.bind_some]
    rw [if_neg (by omega), Int.tmod_eq_emod_of_nonneg hx0]
    exact ⟨_, _, _, rfl, Int.emod_nonneg _ (by omega), .inl (Int.emod_lt_of_pos _ (by omega)), hi'⟩
  · rw [if_neg h1]
    obtain ⟨x, i1, h1', e1, hx0, hx1, hi1⟩ := byte_some l hl i h hi
    obtain ⟨y, i2, h2', e2, hy0, hy1, hi2⟩ := byte_some l hl i1 h1' hi1
    obtain ⟨z, i3, h3', e3, hz0, hz1, hi3⟩ := byte_some l hl i2 h2' hi2
    rw [e1]
    simp only [Option.bind_some]
    rw [e2]
    simp only [Option.bind_some]
    rw [e3]
    simp only [Option.bind_some]
    rw [if_neg (by omega), w64 (x := x * 65536) (by omega), w64 (x := y * 256) (by omega), w64 (x := x * 65536 + y * 256) (by omega), w64 (x := x * 65536 + y * 256 + z) (by omega), Int.tmod_eq_emod_of_nonneg (by omega)]
    exact ⟨_, _, _, rfl, Int.emod_nonneg _ (by omega), .inl (Int.emod_lt_of_pos _ (by omega)), hi3⟩
theorem int_some (l : List Int) (hl : l.length ≤ 140737488355328) (i h : Int) (m : List Int) (hi : At l i) (hm : 0 < m.length) (hm2 : m.length ≤ 1000) : ∃ x i' h', spec_l1Int.f l i h m = some (x, i', h') ∧ x ∈ m ∧ At l i' := by
  unfold spec_l1Int.f
  obtain ⟨x, i', h', e, hx0, hx1, hi'⟩ := below_some l hl i h (m.length : Int) hi (by omega)
  rw [e]
  simp only [Option.bind_some]
  rw [if_pos hx0, if_pos (by omega)]
  refine ⟨_, _, _, rfl, ?_, hi'⟩
  have := rd_get (l := m) (i := x.toNat) (by omega)
  rw [show ((x.toNat : Nat) : Int) = x by omega] at this
  exact List.mem_of_getElem? this
theorem new_l0 (l : List Int) (hl : l.length ≤ 140737488355328) (d : Nat) : ∀ (j : Nat) (h : Int), j + d = l.length → ∃ h', Ev (fun k => spec_l1New.l0 k l h (j : Int)) (l, 0, h') := by
  induction d with
  | zero =>
    intro j h hj
    exact ⟨h, evS (fun k => by rw [spec_l1New.l0]) (evF (by omega) (evR rfl))⟩
  | succ d ih =>
    intro j h hj
    by_cases h4 : (j : Int) < 4000
    · obtain ⟨h', e⟩ := ih (j + 1) (Go.bits .and .i64 (wrap64 ((wrap64 ((wrap64 (h * 137)) + (wrap64 (rd l (j : Int))))) + 11)) 1073741823) (by omega)
      refine ⟨h', evS (fun k => by rw [spec_l1New.l0]) (evT (by omega) (evT h4 (evT (by omega) ?_)))⟩
      rw [w64s (show j < l.length by omega) (by omega)]
      exact e
    · exact ⟨h, evS (fun k => by rw [spec_l1New.l0]) (evT (by omega) (evF h4 (evR rfl)))⟩
theorem new_some (l : List Int) (hl : l.length ≤ 140737488355328) : ∃ h', Ev (fun k => spec_l1New.f k l) (l, 0, h') := by
  obtain ⟨h', e⟩ := new_l0 l hl l.length 0 (wrap64 (372372 + (l.length : Int))) (by omega)
  exact ⟨h', e⟩
theorem at_zero (l : List Int) : At l 0 := ⟨by omega, by omega⟩

end Go.Proofs.YtkofdkinaahbpaaDoor.Z

/- A drawn text. No Go, no memory. -/
set_option linter.unusedVariables false
namespace Go.Proofs.YtkofdkinaahbpaaDoor.Z
open Go.RowKit Go.Proofs.YtkofdkinaahbpaaDoorW.PrintWords Go.Proofs.YtkofdkinaahbpaaDoorW.PrintMore Go.Proofs.YtkofdkinaahbpaaDoor.X

theorem str_some (l : List Int) (hl : l.length ≤ 140737488355328) (i h : Int) (m : List ByteArray) (hi : At l i) (hm : 0 < m.length) (hm2 : m.length ≤ 1000) : ∃ x i' h', spec_l1Str.f l i h m = some (x, i', h') ∧ x ∈ m ∧ At l i' := by
  unfold spec_l1Str.f
  obtain ⟨x, i', h', e, hx0, hx1, hi'⟩ := below_some l hl i h (m.length : Int) hi (by omega)
  rw [e]
  simp only [Option.bind_some]
  rw [if_pos hx0, if_pos (by omega)]
  refine ⟨_, _, _, rfl, ?_, hi'⟩
  have := rdOf_get (d := ByteArray.empty) (l := m) (i := x.toNat) (by omega)
  rw [show ((x.toNat : Nat) : Int) = x by omega] at this
  exact List.mem_of_getElem? this
end Go.Proofs.YtkofdkinaahbpaaDoor.Z

/- Drawn versions that may be wrong, and drawn texts. Plain lemmas. -/

set_option linter.unusedVariables false
namespace Go.Proofs.YtkofdkinaahbpaaDoor.Z
open Go.RowKit Go.Proofs.YtkofdkinaahbpaaDoorW.PrintWords Go.Proofs.YtkofdkinaahbpaaDoorW.PrintMore Go.Proofs.YtkofdkinaahbpaaDoor.X
theorem three_small : ∀ p ∈ ([(⟨#[]⟩ : ByteArray), (⟨#[]⟩ : ByteArray), (⟨#[]⟩ : ByteArray), (⟨#[114, 99, 46, 49]⟩ : ByteArray), (⟨#[97, 108, 112, 104, 97]⟩ : ByteArray), (⟨#[114, 99, 46, 50]⟩ : ByteArray), (⟨#[49]⟩ : ByteArray), (⟨#[50, 46, 120]⟩ : ByteArray), (⟨#[98, 101, 116, 97, 45, 49]⟩ : ByteArray), (⟨#[114, 99]⟩ : ByteArray)] : List ByteArray), p.size ≤ 100 := by decide +kernel
theorem any_small : ∀ p ∈ ([(⟨#[46]⟩ : ByteArray), (⟨#[48, 49]⟩ : ByteArray), (⟨#[97, 46, 46, 98]⟩ : ByteArray), (⟨#[97, 46, 98, 46, 99, 46, 100]⟩ : ByteArray), (⟨#[97, 46, 98, 46, 99, 46, 100, 46, 101]⟩ : ByteArray), (⟨#[110, 105, 110, 101, 98, 121, 116, 101, 115]⟩ : ByteArray), (⟨#[195, 169]⟩ : ByteArray), (⟨#[48]⟩ : ByteArray), (⟨#[97, 95, 98]⟩ : ByteArray)] : List ByteArray), p.size ≤ 100 := by decide +kernel
theorem draw3_small (l : List Int) (hl : l.length ≤ 140737488355328) (i h : Int) (hi : At l i) : ∃ x y z p i' h', spec_l3Draw.f l i h = some (x, y, z, p, i', h') ∧ 0 ≤ x ∧ x ≤ 2 ∧ 0 ≤ y ∧ y < 4 ∧ 0 ≤ z ∧ z < 3 ∧ p.size ≤ 100 ∧ At l i' := by
  unfold spec_l3Draw.f
  obtain ⟨x, i1, h1, e1, x0, a1⟩ := int_some l hl i h [1, 0, 1, 2] hi (by simp) (by simp)
  obtain ⟨y, i2, h2, e2, y0, y1, a2⟩ := below_some l hl i1 h1 4 a1 (by omega)
  obtain ⟨z, i3, h3, e3, z0, z1, a3⟩ := below_some l hl i2 h2 3 a2 (by omega)
  obtain ⟨p, i4, h4, e4, p0, a4⟩ := str_some l hl i3 h3 ([(⟨#[]⟩ : ByteArray), (⟨#[]⟩ : ByteArray), (⟨#[]⟩ : ByteArray), (⟨#[114, 99, 46, 49]⟩ : ByteArray), (⟨#[97, 108, 112, 104, 97]⟩ : ByteArray), (⟨#[114, 99, 46, 50]⟩ : ByteArray), (⟨#[49]⟩ : ByteArray), (⟨#[50, 46, 120]⟩ : ByteArray), (⟨#[98, 101, 116, 97, 45, 49]⟩ : ByteArray), (⟨#[114, 99]⟩ : ByteArray)]) a3 (by decide) (by decide)
  refine ⟨x, y, z, p, i4, h4, ?_, ?_, ?_, y0, by omega, z0, by omega, ?_, a4⟩
  · rw [e1]
    simp only [Option.bind_some]
    rw [e2]
    simp only [Option.bind_some]
    rw [e3]
    simp only [Option.bind_some]
    rw [e4]
    rfl
  · simp only [List.mem_cons, List.not_mem_nil, or_false] at x0; omega
  · simp only [List.mem_cons, List.not_mem_nil, or_false] at x0; omega
  · exact three_small p p0
theorem any3_some (l : List Int) (hl : l.length ≤ 140737488355328) (i h : Int) (hi : At l i) : ∃ x y z p i' h', spec_l3Any.f l i h = some (x, y, z, p, i', h') ∧ p.size ≤ 100 ∧ At l i' := by
  obtain ⟨x, y, z, p, i1, h1, e1, _, _, _, _, _, _, p0, a1⟩ := draw3_small l hl i h hi
  obtain ⟨n, i2, h2, e2, _, _, a2⟩ := below_some l hl i1 h1 12 a1 (by omega)
  obtain ⟨q, i3, h3, e3, q0, a3⟩ := int_some l hl i2 h2 [(-1), 1000000, 1000001] a2 (by simp) (by simp)
  obtain ⟨t, i4, h4, e4, t0, a4⟩ := str_some l hl i2 h2 ([(⟨#[46]⟩ : ByteArray), (⟨#[48, 49]⟩ : ByteArray), (⟨#[97, 46, 46, 98]⟩ : ByteArray), (⟨#[97, 46, 98, 46, 99, 46, 100]⟩ : ByteArray), (⟨#[97, 46, 98, 46, 99, 46, 100, 46, 101]⟩ : ByteArray), (⟨#[110, 105, 110, 101, 98, 121, 116, 101, 115]⟩ : ByteArray), (⟨#[195, 169]⟩ : ByteArray), (⟨#[48]⟩ : ByteArray), (⟨#[97, 95, 98]⟩ : ByteArray)]) a2 (by decide) (by decide)
  have t1 : t.size ≤ 100 := any_small t t0
  unfold spec_l3Any.f
  rw [e1]
  simp only [Option.bind_some]
  rw [e2]
  simp only [Option.bind_some]
  by_cases c0 : n = 0
  · rw [if_pos c0, e3]
    exact ⟨_, _, _, _, _, _, rfl, p0, a3⟩
  · rw [if_neg c0]
    by_cases c1 : n = 1
    · rw [if_pos c1, e4]
      exact ⟨_, _, _, _, _, _, rfl, t1, a4⟩
    · rw [if_neg c1]
      by_cases c2 : n = 2
      · rw [if_pos c2, e3]
        exact ⟨_, _, _, _, _, _, rfl, p0, a3⟩
      · rw [if_neg c2]
        exact ⟨_, _, _, _, _, _, rfl, p0, a2⟩
end Go.Proofs.YtkofdkinaahbpaaDoor.Z

/- The law FnVersions, as a plain statement: a drawn version that is right comes back of its text; what is read of a drawn text has that text. Conditions: those of the row's reading alone. -/
namespace Go.Proofs.YtkofdkinaahbpaaDoor.Pure
open Go.RowKit Go.Proofs.YtkofdkinaahbpaaDoor.X Go.Proofs.YtkofdkinaahbpaaDoor.Z Go.Proofs.YtkofdkinaahbpaaDoorW.PrintWords Go.Proofs.YtkofdkinaahbpaaDoorW.PrintLast
theorem drawV_some (l : List Int) (hl : l.length ≤ 140737488355328) : ∃ a b c p, Ev (fun k => spec_DrawVersionText.f k l) (a, b, c, p) ∧ p.size ≤ 100 := by
  obtain ⟨h0, e0⟩ := new_some l hl
  obtain ⟨a, b, c, p, i1, h1, e1, hp, _⟩ := any3_some l hl 0 h0 (at_zero l)
  refine ⟨a, b, c, p, ?_, hp⟩
  unfold spec_DrawVersionText.f
  exact evB e0 (evC e1 (evR rfl))
theorem drawP_some (l : List Int) (hl : l.length ≤ 140737488355328) : ∃ t, Ev (fun k => spec_DrawParseVersion.f k l) t ∧ t.size ≤ 1000 := by
  obtain ⟨h0, e0⟩ := new_some l hl
  obtain ⟨n, i1, h1, e1, _, _, a1⟩ := below_some l hl 0 h0 3 (at_zero l) (by omega)
  have e2 : spec_l1Once.f l 0 h0 3 = some (n == 0, i1, h1) := by unfold spec_l1Once.f; rw [e1]; rfl
  unfold spec_DrawParseVersion.f
  cases hn : (n == 0) with
  | true =>
    rw [hn] at e2
    obtain ⟨t, i2, h2, e3, t0, a2⟩ := str_some l hl i1 h1 ([(⟨#[]⟩ : ByteArray), (⟨#[118]⟩ : ByteArray), (⟨#[49, 46, 50, 46, 51]⟩ : ByteArray), (⟨#[118, 49, 46, 50]⟩ : ByteArray), (⟨#[118, 49, 46, 50, 46, 51, 46, 52]⟩ : ByteArray), (⟨#[118, 48, 49, 46, 50, 46, 51]⟩ : ByteArray), (⟨#[118, 49, 46, 50, 46, 51, 45]⟩ : ByteArray), (⟨#[118, 49, 46, 50, 46, 51, 45, 48, 49]⟩ : ByteArray), (⟨#[118, 49, 46, 50, 46, 51, 45, 97, 46, 98]⟩ : ByteArray), (⟨#[118, 49, 46, 50, 46, 51, 45, 97, 46, 46, 98]⟩ : ByteArray), (⟨#[118, 49, 46, 45, 50, 46, 51]⟩ : ByteArray), (⟨#[86, 49, 46, 50, 46, 51]⟩ : ByteArray), (⟨#[118, 49, 46, 50, 46, 51, 45, 114, 99, 45, 49]⟩ : ByteArray), (⟨#[118, 49, 48, 48, 48, 48, 48, 48, 46, 48, 46, 48]⟩ : ByteArray), (⟨#[118, 49, 48, 48, 48, 48, 48, 49, 46, 48, 46, 48]⟩ : ByteArray), (⟨#[118, 49, 50, 51, 52, 53, 54, 55, 56, 57, 46, 48, 46, 48]⟩ : ByteArray)]) a1 (by decide) (by decide)
    refine ⟨t, evB e0 (evC e2 (evT rfl (evC e3 (evR rfl)))), ?_⟩
    clear e3
    revert t
    decide +kernel
  | false =>
    rw [hn] at e2
    obtain ⟨x, y, z, p, i2, h2, e3, _, _, _, _, _, _, hp, _⟩ := draw3_small l hl i1 h1 a1
    have hz := verText_size x y z p
    exact ⟨verText x y z p, evB e0 (evC e2 (evF Bool.false_ne_true (evC e3 (evB (verText_both x y z p (by omega)).2 (evR rfl))))), by omega⟩
theorem FnVersions : laws_FnVersions.Pure := by
  intro l0 h1 h2 h3
  refine Ev.rounds ?_
  unfold laws_FnVersions.f
  refine evC (by unfold laws_big.f; rfl) (evI (fun _ => evR rfl) (fun hl' => ?_))
  obtain ⟨a, b, c, p, hD, hp⟩ := drawV_some l0 (by omega)
  obtain ⟨t, hP, ht⟩ := drawP_some l0 (by omega)
  obtain ⟨tI, tS⟩ := verText_both a b c p (by omega)
  obtain ⟨oI, oS⟩ := verOk_both a b c p (by omega)
  have hz := verText_size a b c p
  refine evB hD (evB tI (evB oS ?_))
  cases hv : verOk a b c p with
  | false =>
    refine evF Bool.false_ne_true ?_
    rw [hv] at oI
    rw [verText_nil hv]
    exact evT (by rw [tl]; rfl) (evB oI (evR rfl))
  | true =>
    refine evT rfl ?_
    obtain ⟨rI, _⟩ := read_both (verText a b c p) (by omega)
    rw [read_back a b c p hv] at rI
    obtain ⟨yI, yS⟩ := read_both t (by omega)
    refine evB rI (evB hP (evB yI (evB yS (evT rfl (evT (by simp) (evT (by simp) ?_))))))
    obtain ⟨⟨x, y, z, q, ok⟩, hr⟩ : ∃ v, readS t = v := ⟨_, rfl⟩
    rw [hr]
    cases ok with
    | false => exact evF Bool.false_ne_true (evR rfl)
    | true =>
      obtain ⟨v1, v2, v3⟩ := read_text t x y z q hr
      obtain ⟨wI, _⟩ := verText_both x y z q (by omega)
      obtain ⟨uI, _⟩ := verOk_both x y z q (by omega)
      rw [v1] at uI
      exact evT rfl (evB wI (evT (by rw [v2]) (evB uI (evR rfl))))
end Go.Proofs.YtkofdkinaahbpaaDoor.Pure

/- Values that come in as data (strings' slices, structs, slices of structs, nested) are of the printer's kinds: one lemma a make of type. Plain lemmas for the rows of laws over such parameters. No conditions beyond what each lemma names. -/
set_option linter.unusedVariables false
namespace Go.Proofs.YtkofdkinaahbpaaDoor.Y
open Go.RowKit Go.Proofs.YtkofdkinaahbpaaDoorW.PrintWords Go.ChangeShapes Go.WideShapes Go.Deep




end Go.Proofs.YtkofdkinaahbpaaDoor.Y

/- Three closed facts of the rows of this seat (how the program may be entered), by the first words of the translation's head row. No conditions. -/
namespace Go.Proofs.YtkofdkinaahbpaaDoor.Y
open Go.ChangeShapes Go.WideShapes Go.ChangeAt Go.RowKit
def tailSigns : List Char := [Char.ofNat 108, Char.ofNat 111, Char.ofNat 111, Char.ofNat 112, Char.ofNat 46, Char.ofNat 101, Char.ofNat 120, Char.ofNat 97, Char.ofNat 109, Char.ofNat 112, Char.ofNat 108, Char.ofNat 101, Char.ofNat 47, Char.ofNat 103, Char.ofNat 48, Char.ofNat 48, Char.ofNat 50, Char.ofNat 51, Char.ofNat 51, Char.ofNat 47, Char.ofNat 108, Char.ofNat 97, Char.ofNat 119, Char.ofNat 115, Char.ofNat 46, Char.ofNat 70, Char.ofNat 110, Char.ofNat 69, Char.ofNat 120, Char.ofNat 97, Char.ofNat 99, Char.ofNat 116, Char.ofNat 70, Char.ofNat 105, Char.ofNat 116, Char.ofNat 115, Char.ofNat 32, Char.ofNat 108, Char.ofNat 111, Char.ofNat 111, Char.ofNat 112, Char.ofNat 46, Char.ofNat 101, Char.ofNat 120, Char.ofNat 97, Char.ofNat 109, Char.ofNat 112, Char.ofNat 108, Char.ofNat 101, Char.ofNat 47, Char.ofNat 103, Char.ofNat 48, Char.ofNat 48, Char.ofNat 50, Char.ofNat 51, Char.ofNat 51, Char.ofNat 47, Char.ofNat 108, Char.ofNat 97, Char.ofNat 119, Char.ofNat 115, Char.ofNat 46, Char.ofNat 70, Char.ofNat 110, Char.ofNat 69, Char.ofNat 120, Char.ofNat 97, Char.ofNat 99, Char.ofNat 116, Char.ofNat 78, Char.ofNat 101, Char.ofNat 101, Char.ofNat 100, Char.ofNat 79, Char.ofNat 107, Char.ofNat 32, Char.ofNat 108, Char.ofNat 111, Char.ofNat 111, Char.ofNat 112, Char.ofNat 46, Char.ofNat 101, Char.ofNat 120, Char.ofNat 97, Char.ofNat 109, Char.ofNat 112, Char.ofNat 108, Char.ofNat 101, Char.ofNat 47, Char.ofNat 103, Char.ofNat 48, Char.ofNat 48, Char.ofNat 50, Char.ofNat 51, Char.ofNat 51, Char.ofNat 47, Char.ofNat 108, Char.ofNat 97, Char.ofNat 119, Char.ofNat 115, Char.ofNat 46, Char.ofNat 70, Char.ofNat 110, Char.ofNat 69, Char.ofNat 120, Char.ofNat 97, Char.ofNat 99, Char.ofNat 116, Char.ofNat 69, Char.ofNat 110, Char.ofNat 116, Char.ofNat 114, Char.ofNat 121, Char.ofNat 78, Char.ofNat 97, Char.ofNat 109, Char.ofNat 101, Char.ofNat 32, Char.ofNat 108, Char.ofNat 111, Char.ofNat 111, Char.ofNat 112, Char.ofNat 46, Char.ofNat 101, Char.ofNat 120, Char.ofNat 97, Char.ofNat 109, Char.ofNat 112, Char.ofNat 108, Char.ofNat 101, Char.ofNat 47, Char.ofNat 103, Char.ofNat 48, Char.ofNat 48, Char.ofNat 50, Char.ofNat 51, Char.ofNat 51, Char.ofNat 47, Char.ofNat 108, Char.ofNat 97, Char.ofNat 119, Char.ofNat 115, Char.ofNat 46, Char.ofNat 70, Char.ofNat 110, Char.ofNat 86, Char.ofNat 101, Char.ofNat 114, Char.ofNat 115, Char.ofNat 105, Char.ofNat 111, Char.ofNat 110, Char.ofNat 115, Char.ofNat 32, Char.ofNat 108, Char.ofNat 111, Char.ofNat 111, Char.ofNat 112, Char.ofNat 46, Char.ofNat 101, Char.ofNat 120, Char.ofNat 97, Char.ofNat 109, Char.ofNat 112, Char.ofNat 108, Char.ofNat 101, Char.ofNat 47, Char.ofNat 103, Char.ofNat 48, Char.ofNat 48, Char.ofNat 50, Char.ofNat 51, Char.ofNat 51, Char.ofNat 47, Char.ofNat 108, Char.ofNat 97, Char.ofNat 119, Char.ofNat 115, Char.ofNat 46, Char.ofNat 70, Char.ofNat 110, Char.ofNat 77, Char.ofNat 111, Char.ofNat 100, Char.ofNat 117, Char.ofNat 108, Char.ofNat 101, Char.ofNat 115, Char.ofNat 32, Char.ofNat 108, Char.ofNat 111, Char.ofNat 111, Char.ofNat 112, Char.ofNat 46, Char.ofNat 101, Char.ofNat 120, Char.ofNat 97, Char.ofNat 109, Char.ofNat 112, Char.ofNat 108, Char.ofNat 101, Char.ofNat 47, Char.ofNat 103, Char.ofNat 48, Char.ofNat 48, Char.ofNat 50, Char.ofNat 51, Char.ofNat 51, Char.ofNat 47, Char.ofNat 108, Char.ofNat 97, Char.ofNat 119, Char.ofNat 115, Char.ofNat 46, Char.ofNat 70, Char.ofNat 110, Char.ofNat 70, Char.ofNat 105, Char.ofNat 116, Char.ofNat 115, Char.ofNat 32, Char.ofNat 108, Char.ofNat 111, Char.ofNat 111, Char.ofNat 112, Char.ofNat 46, Char.ofNat 101, Char.ofNat 120, Char.ofNat 97, Char.ofNat 109, Char.ofNat 112, Char.ofNat 108, Char.ofNat 101, Char.ofNat 47, Char.ofNat 103, Char.ofNat 48, Char.ofNat 48, Char.ofNat 50, Char.ofNat 51, Char.ofNat 51, Char.ofNat 47, Char.ofNat 108, Char.ofNat 97, Char.ofNat 119, Char.ofNat 115, Char.ofNat 46, Char.ofNat 70, Char.ofNat 110, Char.ofNat 69, Char.ofNat 120, Char.ofNat 97, Char.ofNat 99, Char.ofNat 116, Char.ofNat 78, Char.ofNat 101, Char.ofNat 101, Char.ofNat 100, Char.ofNat 115, Char.ofNat 79, Char.ofNat 107, Char.ofNat 32, Char.ofNat 108, Char.ofNat 111, Char.ofNat 111, Char.ofNat 112, Char.ofNat 46, Char.ofNat 101, Char.ofNat 120, Char.ofNat 97, Char.ofNat 109, Char.ofNat 112, Char.ofNat 108, Char.ofNat 101, Char.ofNat 47, Char.ofNat 103, Char.ofNat 48, Char.ofNat 48, Char.ofNat 50, Char.ofNat 51, Char.ofNat 51, Char.ofNat 47, Char.ofNat 108, Char.ofNat 97, Char.ofNat 119, Char.ofNat 115, Char.ofNat 46, Char.ofNat 70, Char.ofNat 110, Char.ofNat 69, Char.ofNat 120, Char.ofNat 97, Char.ofNat 99, Char.ofNat 116, Char.ofNat 80, Char.ofNat 97, Char.ofNat 114, Char.ofNat 115, Char.ofNat 101, Char.ofNat 78, Char.ofNat 97, Char.ofNat 109, Char.ofNat 101, Char.ofNat 32, Char.ofNat 108, Char.ofNat 111, Char.ofNat 111, Char.ofNat 112, Char.ofNat 46, Char.ofNat 101, Char.ofNat 120, Char.ofNat 97, Char.ofNat 109, Char.ofNat 112, Char.ofNat 108, Char.ofNat 101, Char.ofNat 47, Char.ofNat 103, Char.ofNat 48, Char.ofNat 48, Char.ofNat 50, Char.ofNat 51, Char.ofNat 51, Char.ofNat 47, Char.ofNat 108, Char.ofNat 97, Char.ofNat 119, Char.ofNat 115, Char.ofNat 46, Char.ofNat 70, Char.ofNat 110, Char.ofNat 69, Char.ofNat 120, Char.ofNat 97, Char.ofNat 99, Char.ofNat 116, Char.ofNat 69, Char.ofNat 110, Char.ofNat 116, Char.ofNat 114, Char.ofNat 121, Char.ofNat 79, Char.ofNat 107]
set_option maxRecDepth 100000 in
theorem initOrder_lit : Tryd.pinned.checked.prog.initOrder = "harness ca20538b8ae1844212bbd2dcac9b02739c173303d55c1ed7aee058458b355a1f cut at loop.example/g00233/laws.FnExactFits loop.example/g00233/laws.FnExactNeedOk loop.example/g00233/laws.FnExactEntryName loop.example/g00233/laws.FnVersions loop.example/g00233/laws.FnModules loop.example/g00233/laws.FnFits loop.example/g00233/laws.FnExactNeedsOk loop.example/g00233/laws.FnExactParseName loop.example/g00233/laws.FnExactEntryOk" := by kernel_rfl
set_option maxRecDepth 100000 in
theorem lit_list : ("harness ca20538b8ae1844212bbd2dcac9b02739c173303d55c1ed7aee058458b355a1f cut at loop.example/g00233/laws.FnExactFits loop.example/g00233/laws.FnExactNeedOk loop.example/g00233/laws.FnExactEntryName loop.example/g00233/laws.FnVersions loop.example/g00233/laws.FnModules loop.example/g00233/laws.FnFits loop.example/g00233/laws.FnExactNeedsOk loop.example/g00233/laws.FnExactParseName loop.example/g00233/laws.FnExactEntryOk" : String) = String.ofList (Char.ofNat 104 :: Char.ofNat 97 :: Char.ofNat 114 :: Char.ofNat 110 :: Char.ofNat 101 :: Char.ofNat 115 :: Char.ofNat 115 :: Char.ofNat 32 :: Char.ofNat 99 :: Char.ofNat 97 :: Char.ofNat 50 :: Char.ofNat 48 :: Char.ofNat 53 :: Char.ofNat 51 :: Char.ofNat 56 :: Char.ofNat 98 :: Char.ofNat 56 :: Char.ofNat 97 :: Char.ofNat 101 :: Char.ofNat 49 :: Char.ofNat 56 :: Char.ofNat 52 :: Char.ofNat 52 :: Char.ofNat 50 :: Char.ofNat 49 :: Char.ofNat 50 :: Char.ofNat 98 :: Char.ofNat 98 :: Char.ofNat 100 :: Char.ofNat 50 :: Char.ofNat 100 :: Char.ofNat 99 :: Char.ofNat 97 :: Char.ofNat 99 :: Char.ofNat 57 :: Char.ofNat 98 :: Char.ofNat 48 :: Char.ofNat 50 :: Char.ofNat 55 :: Char.ofNat 51 :: Char.ofNat 57 :: Char.ofNat 99 :: Char.ofNat 49 :: Char.ofNat 55 :: Char.ofNat 51 :: Char.ofNat 51 :: Char.ofNat 48 :: Char.ofNat 51 :: Char.ofNat 100 :: Char.ofNat 53 :: Char.ofNat 53 :: Char.ofNat 99 :: Char.ofNat 49 :: Char.ofNat 101 :: Char.ofNat 100 :: Char.ofNat 55 :: Char.ofNat 97 :: Char.ofNat 101 :: Char.ofNat 101 :: Char.ofNat 48 :: Char.ofNat 53 :: Char.ofNat 56 :: Char.ofNat 52 :: Char.ofNat 53 :: Char.ofNat 56 :: Char.ofNat 98 :: Char.ofNat 51 :: Char.ofNat 53 :: Char.ofNat 53 :: Char.ofNat 97 :: Char.ofNat 49 :: Char.ofNat 102 :: Char.ofNat 32 :: Char.ofNat 99 :: Char.ofNat 117 :: Char.ofNat 116 :: Char.ofNat 32 :: Char.ofNat 97 :: Char.ofNat 116 :: Char.ofNat 32 :: tailSigns) := by kernel_rfl
theorem initOrder_list : Tryd.pinned.checked.prog.initOrder.toList = Char.ofNat 104 :: Char.ofNat 97 :: Char.ofNat 114 :: Char.ofNat 110 :: Char.ofNat 101 :: Char.ofNat 115 :: Char.ofNat 115 :: Char.ofNat 32 :: Char.ofNat 99 :: Char.ofNat 97 :: Char.ofNat 50 :: Char.ofNat 48 :: Char.ofNat 53 :: Char.ofNat 51 :: Char.ofNat 56 :: Char.ofNat 98 :: Char.ofNat 56 :: Char.ofNat 97 :: Char.ofNat 101 :: Char.ofNat 49 :: Char.ofNat 56 :: Char.ofNat 52 :: Char.ofNat 52 :: Char.ofNat 50 :: Char.ofNat 49 :: Char.ofNat 50 :: Char.ofNat 98 :: Char.ofNat 98 :: Char.ofNat 100 :: Char.ofNat 50 :: Char.ofNat 100 :: Char.ofNat 99 :: Char.ofNat 97 :: Char.ofNat 99 :: Char.ofNat 57 :: Char.ofNat 98 :: Char.ofNat 48 :: Char.ofNat 50 :: Char.ofNat 55 :: Char.ofNat 51 :: Char.ofNat 57 :: Char.ofNat 99 :: Char.ofNat 49 :: Char.ofNat 55 :: Char.ofNat 51 :: Char.ofNat 51 :: Char.ofNat 48 :: Char.ofNat 51 :: Char.ofNat 100 :: Char.ofNat 53 :: Char.ofNat 53 :: Char.ofNat 99 :: Char.ofNat 49 :: Char.ofNat 101 :: Char.ofNat 100 :: Char.ofNat 55 :: Char.ofNat 97 :: Char.ofNat 101 :: Char.ofNat 101 :: Char.ofNat 48 :: Char.ofNat 53 :: Char.ofNat 56 :: Char.ofNat 52 :: Char.ofNat 53 :: Char.ofNat 56 :: Char.ofNat 98 :: Char.ofNat 51 :: Char.ofNat 53 :: Char.ofNat 53 :: Char.ofNat 97 :: Char.ofNat 49 :: Char.ofNat 102 :: Char.ofNat 32 :: Char.ofNat 99 :: Char.ofNat 117 :: Char.ofNat 116 :: Char.ofNat 32 :: Char.ofNat 97 :: Char.ofNat 116 :: Char.ofNat 32 :: tailSigns := (congrArg String.toList (initOrder_lit.trans lit_list)).trans String.toList_ofList
theorem words_at (r : List Char) : wordsSigns (Char.ofNat 104 :: Char.ofNat 97 :: Char.ofNat 114 :: Char.ofNat 110 :: Char.ofNat 101 :: Char.ofNat 115 :: Char.ofNat 115 :: Char.ofNat 32 :: Char.ofNat 99 :: Char.ofNat 97 :: Char.ofNat 50 :: Char.ofNat 48 :: Char.ofNat 53 :: Char.ofNat 51 :: Char.ofNat 56 :: Char.ofNat 98 :: Char.ofNat 56 :: Char.ofNat 97 :: Char.ofNat 101 :: Char.ofNat 49 :: Char.ofNat 56 :: Char.ofNat 52 :: Char.ofNat 52 :: Char.ofNat 50 :: Char.ofNat 49 :: Char.ofNat 50 :: Char.ofNat 98 :: Char.ofNat 98 :: Char.ofNat 100 :: Char.ofNat 50 :: Char.ofNat 100 :: Char.ofNat 99 :: Char.ofNat 97 :: Char.ofNat 99 :: Char.ofNat 57 :: Char.ofNat 98 :: Char.ofNat 48 :: Char.ofNat 50 :: Char.ofNat 55 :: Char.ofNat 51 :: Char.ofNat 57 :: Char.ofNat 99 :: Char.ofNat 49 :: Char.ofNat 55 :: Char.ofNat 51 :: Char.ofNat 51 :: Char.ofNat 48 :: Char.ofNat 51 :: Char.ofNat 100 :: Char.ofNat 53 :: Char.ofNat 53 :: Char.ofNat 99 :: Char.ofNat 49 :: Char.ofNat 101 :: Char.ofNat 100 :: Char.ofNat 55 :: Char.ofNat 97 :: Char.ofNat 101 :: Char.ofNat 101 :: Char.ofNat 48 :: Char.ofNat 53 :: Char.ofNat 56 :: Char.ofNat 52 :: Char.ofNat 53 :: Char.ofNat 56 :: Char.ofNat 98 :: Char.ofNat 51 :: Char.ofNat 53 :: Char.ofNat 53 :: Char.ofNat 97 :: Char.ofNat 49 :: Char.ofNat 102 :: Char.ofNat 32 :: Char.ofNat 99 :: Char.ofNat 117 :: Char.ofNat 116 :: Char.ofNat 32 :: Char.ofNat 97 :: Char.ofNat 116 :: Char.ofNat 32 :: r) = [Char.ofNat 104, Char.ofNat 97, Char.ofNat 114, Char.ofNat 110, Char.ofNat 101, Char.ofNat 115, Char.ofNat 115] :: [Char.ofNat 99, Char.ofNat 97, Char.ofNat 50, Char.ofNat 48, Char.ofNat 53, Char.ofNat 51, Char.ofNat 56, Char.ofNat 98, Char.ofNat 56, Char.ofNat 97, Char.ofNat 101, Char.ofNat 49, Char.ofNat 56, Char.ofNat 52, Char.ofNat 52, Char.ofNat 50, Char.ofNat 49, Char.ofNat 50, Char.ofNat 98, Char.ofNat 98, Char.ofNat 100, Char.ofNat 50, Char.ofNat 100, Char.ofNat 99, Char.ofNat 97, Char.ofNat 99, Char.ofNat 57, Char.ofNat 98, Char.ofNat 48, Char.ofNat 50, Char.ofNat 55, Char.ofNat 51, Char.ofNat 57, Char.ofNat 99, Char.ofNat 49, Char.ofNat 55, Char.ofNat 51, Char.ofNat 51, Char.ofNat 48, Char.ofNat 51, Char.ofNat 100, Char.ofNat 53, Char.ofNat 53, Char.ofNat 99, Char.ofNat 49, Char.ofNat 101, Char.ofNat 100, Char.ofNat 55, Char.ofNat 97, Char.ofNat 101, Char.ofNat 101, Char.ofNat 48, Char.ofNat 53, Char.ofNat 56, Char.ofNat 52, Char.ofNat 53, Char.ofNat 56, Char.ofNat 98, Char.ofNat 51, Char.ofNat 53, Char.ofNat 53, Char.ofNat 97, Char.ofNat 49, Char.ofNat 102] :: [Char.ofNat 99, Char.ofNat 117, Char.ofNat 116] :: [Char.ofNat 97, Char.ofNat 116] :: wordsSigns r := by kernel_rfl
theorem behind_at (t : List (List Char)) : behindMainWord ([Char.ofNat 104, Char.ofNat 97, Char.ofNat 114, Char.ofNat 110, Char.ofNat 101, Char.ofNat 115, Char.ofNat 115] :: [Char.ofNat 99, Char.ofNat 97, Char.ofNat 50, Char.ofNat 48, Char.ofNat 53, Char.ofNat 51, Char.ofNat 56, Char.ofNat 98, Char.ofNat 56, Char.ofNat 97, Char.ofNat 101, Char.ofNat 49, Char.ofNat 56, Char.ofNat 52, Char.ofNat 52, Char.ofNat 50, Char.ofNat 49, Char.ofNat 50, Char.ofNat 98, Char.ofNat 98, Char.ofNat 100, Char.ofNat 50, Char.ofNat 100, Char.ofNat 99, Char.ofNat 97, Char.ofNat 99, Char.ofNat 57, Char.ofNat 98, Char.ofNat 48, Char.ofNat 50, Char.ofNat 55, Char.ofNat 51, Char.ofNat 57, Char.ofNat 99, Char.ofNat 49, Char.ofNat 55, Char.ofNat 51, Char.ofNat 51, Char.ofNat 48, Char.ofNat 51, Char.ofNat 100, Char.ofNat 53, Char.ofNat 53, Char.ofNat 99, Char.ofNat 49, Char.ofNat 101, Char.ofNat 100, Char.ofNat 55, Char.ofNat 97, Char.ofNat 101, Char.ofNat 101, Char.ofNat 48, Char.ofNat 53, Char.ofNat 56, Char.ofNat 52, Char.ofNat 53, Char.ofNat 56, Char.ofNat 98, Char.ofNat 51, Char.ofNat 53, Char.ofNat 53, Char.ofNat 97, Char.ofNat 49, Char.ofNat 102] :: [Char.ofNat 99, Char.ofNat 117, Char.ofNat 116] :: [Char.ofNat 97, Char.ofNat 116] :: t) = [Char.ofNat 99, Char.ofNat 117, Char.ofNat 116] :: [Char.ofNat 97, Char.ofNat 116] :: t := by kernel_rfl
theorem behind_all : behindMainWord (wordsSigns Tryd.pinned.checked.prog.initOrder.toList) = [Char.ofNat 99, Char.ofNat 117, Char.ofNat 116] :: [Char.ofNat 97, Char.ofNat 116] :: wordsSigns tailSigns := by rw [initOrder_list, words_at, behind_at]
theorem make_of (c : List Char) (rest : List (List Char)) (P : Program) (h0 : (c == "gc".toList) = false) (h1 : (c == "spec".toList) = false) (h2 : (c == "cut".toList) = true) (h : behindMainWord (wordsSigns P.initOrder.toList) = c :: rest) : P.make = some .cut := by
  unfold Program.make
  rw [h]
  simp only [h0, h1, h2]
  rfl
theorem mayEnter_of (c : List Char) (rest : List (List Char)) (P : Program) (h0 : (c == "gc".toList) = false) (h1 : (c == "spec".toList) = false) (h2 : (c == "carried".toList) = false) (h : behindMainWord (wordsSigns P.initOrder.toList) = c :: rest)
    (h3 : ((stripLifts liftWords (c :: rest)).2.head? == some "cut".toList) = true) (h4 : P.laysLater = false) (h5 : P.bearsReflect = false) (h6 : P.doorFits (stripLifts liftWords (c :: rest)).1 = true) (h7 : (stripLifts liftWords (c :: rest)).1.contains "leanrows" = false) : P.mayEnter = true := by
  unfold Program.mayEnter
  rw [h]
  simp only [h0, h1, h2, h3, h4, h5, h6, h7]
  simp
theorem liftsFinal_of (c : List Char) (rest : List (List Char)) (P : Program) (h2 : (some c == some "carried".toList) = false) (h : behindMainWord (wordsSigns P.initOrder.toList) = c :: rest)
    (h3 : ((stripLifts liftWords (c :: rest)).2.head? == some "cut".toList) = true) (h7 : (stripLifts liftWords (c :: rest)).1.contains "finals" = false) : P.liftsFinal = false := by
  unfold Program.liftsFinal Program.headLifts
  rw [h]
  simp only [List.head?_cons, h2, h3, if_true, h7, Bool.false_and, Bool.or_self]
theorem strip_at (t : List (List Char)) : stripLifts liftWords ([Char.ofNat 99, Char.ofNat 117, Char.ofNat 116] :: [Char.ofNat 97, Char.ofNat 116] :: t) = ([], [Char.ofNat 99, Char.ofNat 117, Char.ofNat 116] :: [Char.ofNat 97, Char.ofNat 116] :: t) := by kernel_rfl
theorem laysLater_at : Tryd.pinned.checked.prog.laysLater = false := by kernel_rfl
theorem bearsReflect_at : Tryd.pinned.checked.prog.bearsReflect = false := by kernel_rfl
theorem doorFits_at : Tryd.pinned.checked.prog.doorFits [] = true := by kernel_rfl
theorem mayEnter_at : Tryd.pinned.checked.prog.mayEnter = true :=
  mayEnter_of _ _ _ (by kernel_rfl) (by kernel_rfl) (by kernel_rfl) behind_all (by rw [strip_at]; generalize wordsSigns tailSigns = t; kernel_rfl) laysLater_at bearsReflect_at (by rw [strip_at]; exact doorFits_at) (by rw [strip_at]; rfl)
theorem liftsFinal_at : Tryd.pinned.checked.prog.liftsFinal = false :=
  liftsFinal_of _ _ _ (by kernel_rfl) behind_all (by rw [strip_at]; generalize wordsSigns tailSigns = t; kernel_rfl) (by rw [strip_at]; rfl)
theorem make_at : Tryd.pinned.checked.prog.make = some .cut := make_of _ _ _ (by kernel_rfl) (by kernel_rfl) (by kernel_rfl) behind_all
end Go.Proofs.YtkofdkinaahbpaaDoor.Y

/- A world for the witnesses: the settled one, the listed tables holding what their initialisers lay. No conditions. -/
namespace Go.Proofs.YtkofdkinaahbpaaDoor.Y
open Go.ChangeShapes Go.WideShapes Go.ChangeAt Go.RowKit
noncomputable def laidWorld (os : Os) : World :=
  { World.holding Tryd.prog os ⟨#[], #[], []⟩ with heap := ((((((((((World.holding Tryd.prog os ⟨#[], #[], []⟩).heap).modify 1 (fun o => match o with | .cells _ t z => .cells #[Value.int .u64 1, Value.int .u64 10, Value.int .u64 100, Value.int .u64 1000, Value.int .u64 10000, Value.int .u64 100000, Value.int .u64 1000000, Value.int .u64 10000000, Value.int .u64 100000000, Value.int .u64 1000000000, Value.int .u64 10000000000, Value.int .u64 100000000000, Value.int .u64 1000000000000, Value.int .u64 10000000000000, Value.int .u64 100000000000000, Value.int .u64 1000000000000000, Value.int .u64 10000000000000000, Value.int .u64 100000000000000000, Value.int .u64 1000000000000000000, Value.int .u64 10000000000000000000] t z | o => o)).modify 4 (fun o => match o with | .cells _ t z => .cells ((Go.Pinned.utf8FirstZ.map fun (n : Nat) => Value.int .u8 (n : Int)).toArray) t z | o => o)).modify 5 (fun o => match o with | .cells _ t z => .cells #[Value.int .u8 128, Value.int .u8 191, Value.int .u8 160, Value.int .u8 191, Value.int .u8 128, Value.int .u8 159, Value.int .u8 144, Value.int .u8 191, Value.int .u8 128, Value.int .u8 143, Value.int .u8 0, Value.int .u8 0, Value.int .u8 0, Value.int .u8 0, Value.int .u8 0, Value.int .u8 0, Value.int .u8 0, Value.int .u8 0, Value.int .u8 0, Value.int .u8 0, Value.int .u8 0, Value.int .u8 0, Value.int .u8 0, Value.int .u8 0, Value.int .u8 0, Value.int .u8 0, Value.int .u8 0, Value.int .u8 0, Value.int .u8 0, Value.int .u8 0, Value.int .u8 0, Value.int .u8 0] t z | o => o)).modify 6 (fun o => match o with | .cells _ t z => .cells #[Value.int .u8 0, Value.int .u8 1, Value.int .u8 28, Value.int .u8 2, Value.int .u8 29, Value.int .u8 14, Value.int .u8 24, Value.int .u8 3, Value.int .u8 30, Value.int .u8 22, Value.int .u8 20, Value.int .u8 15, Value.int .u8 25, Value.int .u8 17, Value.int .u8 4, Value.int .u8 8, Value.int .u8 31, Value.int .u8 27, Value.int .u8 13, Value.int .u8 23, Value.int .u8 21, Value.int .u8 19, Value.int .u8 16, Value.int .u8 7, Value.int .u8 26, Value.int .u8 12, Value.int .u8 18, Value.int .u8 6, Value.int .u8 11, Value.int .u8 5, Value.int .u8 10, Value.int .u8 9] t z | o => o)).modify 7 (fun o => match o with | .cells _ t z => .cells #[Value.int .u8 0, Value.int .u8 1, Value.int .u8 56, Value.int .u8 2, Value.int .u8 57, Value.int .u8 49, Value.int .u8 28, Value.int .u8 3, Value.int .u8 61, Value.int .u8 58, Value.int .u8 42, Value.int .u8 50, Value.int .u8 38, Value.int .u8 29, Value.int .u8 17, Value.int .u8 4, Value.int .u8 62, Value.int .u8 47, Value.int .u8 59, Value.int .u8 36, Value.int .u8 45, Value.int .u8 43, Value.int .u8 51, Value.int .u8 22, Value.int .u8 53, Value.int .u8 39, Value.int .u8 33, Value.int .u8 30, Value.int .u8 24, Value.int .u8 18, Value.int .u8 12, Value.int .u8 5, Value.int .u8 63, Value.int .u8 55, Value.int .u8 48, Value.int .u8 27, Value.int .u8 60, Value.int .u8 41, Value.int .u8 37, Value.int .u8 16, Value.int .u8 46, Value.int .u8 35, Value.int .u8 44, Value.int .u8 21, Value.int .u8 52, Value.int .u8 32, Value.int .u8 23, Value.int .u8 11, Value.int .u8 54, Value.int .u8 26, Value.int .u8 40, Value.int .u8 15, Value.int .u8 34, Value.int .u8 20, Value.int .u8 31, Value.int .u8 10, Value.int .u8 25, Value.int .u8 14, Value.int .u8 19, Value.int .u8 9, Value.int .u8 13, Value.int .u8 8, Value.int .u8 7, Value.int .u8 6] t z | o => o)).modify 2 (fun o => match o with | .cells _ t z => .cells #[Value.iface 150 (.pointer (some ⟨(World.holding Tryd.prog os ⟨#[], #[], []⟩).heap.size + 0, 0, none⟩))] t z | o => o)).push (.cells #[Value.string ⟨#[105, 110, 118, 97, 108, 105, 100, 32, 115, 121, 110, 116, 97, 120]⟩] 152 (0, 0))).modify 3 (fun o => match o with | .cells _ t z => .cells #[Value.iface 150 (.pointer (some ⟨(World.holding Tryd.prog os ⟨#[], #[], []⟩).heap.size + 1, 0, none⟩))] t z | o => o)).push (.cells #[Value.string ⟨#[118, 97, 108, 117, 101, 32, 111, 117, 116, 32, 111, 102, 32, 114, 97, 110, 103, 101]⟩] 152 (0, 0)) }
end Go.Proofs.YtkofdkinaahbpaaDoor.Y
