/- The law FnLatest, as a plain statement: no drawn version is later than the latest, which is one of them; what is bumped is later. Conditions: those of the row's reading alone. -/
/- Part 8 of 9 of this claim's texts. -/
import Derived.Laws.BitsLemmas
import Derived.Deep.Slices
import Derived.ChangeArms
import Derived.WideShapes
import Derived.DataReads
import Derived.Test.YtagbldaiedmikaaDoorRows
import Derived.WalkKit
import Derived.ProofKit
import Derived.Test.YtagbldaiedmikaaDoorCFnLatest0
import Derived.Test.YtagbldaiedmikaaDoorCFnLatest1
import Derived.Test.YtagbldaiedmikaaDoorCFnLatest2
import Derived.Test.YtagbldaiedmikaaDoorCFnLatest3
import Derived.Test.YtagbldaiedmikaaDoorCFnLatest4
import Derived.Test.YtagbldaiedmikaaDoorCFnLatest5
import Derived.Test.YtagbldaiedmikaaDoorCFnLatest6
/- Plain lemmas for what the printed functions compute: enough rounds ('Ev'), tests, bounds of whole numbers, lists. No Go, no memory. -/
set_option linter.unusedVariables false
namespace Go.Proofs.YtagbldaiedmikaaDoor.Z
open Go.RowKit Go.Proofs.YtagbldaiedmikaaDoorW.PrintWords Go.Proofs.YtagbldaiedmikaaDoorW.PrintMore

theorem evT {α : Type} {c : Prop} [Decidable c] {f g : Nat → Option α} {r : α} (h : c) (H : Ev f r) : Ev (fun k => if c then f k else g k) r := by
  obtain ⟨K, hK⟩ := H
  exact ⟨K, fun k hk => (if_pos h).trans (hK k hk)⟩
theorem evF {α : Type} {c : Prop} [Decidable c] {f g : Nat → Option α} {r : α} (h : ¬ c) (H : Ev g r) : Ev (fun k => if c then f k else g k) r := by
  obtain ⟨K, hK⟩ := H
  exact ⟨K, fun k hk => (if_neg h).trans (hK k hk)⟩
theorem evI {α : Type} {c : Prop} [Decidable c] {f g : Nat → Option α} {r : α} (H : c → Ev f r) (H' : ¬ c → Ev g r) : Ev (fun k => if c then f k else g k) r := by
  by_cases h : c
  · exact evT h (H h)
  · exact evF h (H' h)
theorem evB {α β : Type} {g : Nat → Option α} {f : Nat → α → Option β} {a : α} {r : β} (h : Ev g a) (k : Ev (fun n => f n a) r) : Ev (fun n => (g n).bind (f n)) r := Ev.bind h k
theorem evR {α : Type} {r r' : α} (h : r = r') : Ev (fun _ => some r) r' := h ▸ Ev.now r
/-- A callee without rounds. -/
theorem evC {α β : Type} {x : Option α} {f : Nat → α → Option β} {a : α} {r : β} (h : x = some a) (k : Ev (fun n => f n a) r) : Ev (fun n => x.bind (f n)) r := by
  subst h
  exact k
theorem evS {α : Type} {g f : Nat → Option α} {r : α} (h : ∀ k, g (k + 1) = f k) (k : Ev f r) : Ev g r := Ev.step h k
theorem evE {α : Type} {g : Nat → Option α} {r r' : α} (h : r = r') (k : Ev g r) : Ev g r' := h ▸ k

theorem w64 {x : Int} (h : -9223372036854775808 ≤ x ∧ x ≤ 9223372036854775807) : wrap64 x = x := by unfold wrap64; omega
theorem w64s {i n : Nat} (h : i < n) (hn : n ≤ 9223372036854775807) : wrap64 ((i : Int) + 1) = ((i + 1 : Nat) : Int) := by unfold wrap64; omega
theorem wi64 (x : Int) : IntKind.i64.wrap x = wrap64 x := by rw [Go.IntKind.wrap_i64]; unfold wrap64; rfl

theorem rd_get {l : List Int} {i : Nat} (h : i < l.length) : l[i]? = some (rd l (i : Int)) := by
  simp [rd, List.getElem?_eq_getElem h]
theorem rdOf_get {α : Type} {d : α} {l : List α} {i : Nat} (h : i < l.length) : l[i]? = some (rdOf d l (i : Int)) := by
  simp [rdOf, List.getElem?_eq_getElem h]
end Go.Proofs.YtagbldaiedmikaaDoor.Z

/- Strings as lists of bytes. No Go, no memory. -/
set_option linter.unusedVariables false
namespace Go.Proofs.YtagbldaiedmikaaDoor.Z
open Go.RowKit Go.Proofs.YtagbldaiedmikaaDoorW.PrintWords Go.Proofs.YtagbldaiedmikaaDoorW.PrintMore
theorem tl_loop (a : ByteArray) (d : Nat) : ∀ i r, a.size = i + d → ByteArray.toList.loop a i r = r.reverse ++ a.data.toList.drop i := by
  have h2 := data_length a
  induction d with
  | zero =>
    intro i r h
    unfold ByteArray.toList.loop
    rw [if_neg (by omega), List.drop_eq_nil_of_le (by omega), List.append_nil]
  | succ d ih =>
    intro i r h
    unfold ByteArray.toList.loop
    rw [if_pos (by omega), ih (i + 1) _ (by omega)]
    have hi : i < a.data.size := by
      have : a.data.size = a.size := rfl
      omega
    rw [List.drop_eq_getElem_cons (i := i) (by simpa using hi)]
    simp [ByteArray.get!]
    exact getElem!_pos a.data i hi
theorem tl (a : ByteArray) : a.toList = a.data.toList := by
  unfold ByteArray.toList
  rw [tl_loop a a.size 0 [] (by omega)]
  simp
theorem tl_inj {a b : ByteArray} : a.toList = b.toList ↔ a = b := by
  constructor
  · intro h
    rw [tl, tl] at h
    have h1 : a.data = b.data := Array.toList_inj.1 h
    cases a
    cases b
    simp_all
  · rintro rfl
    rfl

end Go.Proofs.YtagbldaiedmikaaDoor.Z

/- Ranges, the program's and the reference's: the same. Plain lemmas. -/
set_option linter.unusedVariables false
namespace Go.Proofs.YtagbldaiedmikaaDoor.Z
open Go.RowKit Go.Proofs.YtagbldaiedmikaaDoorW.PrintWords Go.Proofs.YtagbldaiedmikaaDoorW.PrintMore Go.Proofs.YtagbldaiedmikaaDoor.X
theorem rng_impl (a b c : Int) : impl_inRange.f a b c = some (decide (b ≤ a ∧ a ≤ c)) := by
  unfold impl_inRange.f
  by_cases h : a ≥ b
  · rw [if_pos h]
    simp [show b ≤ a from h]
  · rw [if_neg h]
    simp [show ¬ b ≤ a from h]
theorem rng_spec (a b c : Int) : spec_l1In.f a b c = some (decide (b ≤ a ∧ a ≤ c)) := by
  unfold spec_l1In.f
  by_cases h : a ≥ b
  · rw [if_pos h]
    simp [show b ≤ a from h]
  · rw [if_neg h]
    simp [show ¬ b ≤ a from h]
end Go.Proofs.YtagbldaiedmikaaDoor.Z

/- A text's pieces, the reference's: those between the bytes. Plain lemmas. -/
set_option linter.unusedVariables false
namespace Go.Proofs.YtagbldaiedmikaaDoor.Z
open Go.RowKit Go.Proofs.YtagbldaiedmikaaDoorW.PrintWords Go.Proofs.YtagbldaiedmikaaDoorW.PrintMore Go.Proofs.YtagbldaiedmikaaDoor.X Go.Proofs.YtagbldaiedmikaaDoor.Sp
theorem byte_at (s : ByteArray) (i : Nat) (h : i < s.size) : bt s (i : Int) = ((s.data.toList[i]'(by rw [data_length]; exact h)).toNat : Int) := by
  have := rd_bytesOf s (i : Int)
  rw [← this]
  unfold rd bytesOf
  simp [List.getD_eq_getElem?_getD, h]
theorem ext_list (s : ByteArray) (f i : Nat) : s.extract f i = ⟨((s.data.toList.drop f).take (i - f)).toArray⟩ := by
  have h : (s.extract f i).data.toList = (s.data.toList.drop f).take (i - f) := by
    simp [ByteArray.data_extract, List.extract_eq_take_drop]
  cases hx : s.extract f i with
  | mk d =>
    rw [hx] at h
    congr 1
    rw [← h]
/-- The pieces, bytes more ahead of the first. -/
def pcsF (pre : List UInt8) (c : UInt8) (l : List UInt8) : List (List UInt8) :=
  match pcs c l with
  | [] => [pre]
  | h :: t => (pre ++ h) :: t
theorem pcs_ne (c : UInt8) (l : List UInt8) : pcs c l ≠ [] := fun h => by
  have := pcs_length c l
  rw [h] at this
  simp at this
theorem pcsF_nil (c : UInt8) (l : List UInt8) : pcsF [] c l = pcs c l := by
  unfold pcsF
  cases h : pcs c l with
  | nil => exact absurd h (pcs_ne c l)
  | cons a t => rfl
theorem pcsF_eq (pre : List UInt8) (c : UInt8) (l : List UInt8) : pcsF pre c (c :: l) = pre :: pcsF [] c l := by
  rw [pcsF_nil]
  unfold pcsF
  rw [pcs, if_pos rfl]
  simp
theorem pcsF_ne (pre : List UInt8) (b c : UInt8) (l : List UInt8) (h : b ≠ c) : pcsF pre c (b :: l) = pcsF (pre ++ [b]) c l := by
  unfold pcsF
  rw [pcs, if_neg h]
  cases hp : pcs c l with
  | nil => exact absurd hp (pcs_ne c l)
  | cons a t => simp [onto]
theorem pcsF_end (pre : List UInt8) (c : UInt8) : pcsF pre c [] = [pre] := by simp [pcsF, pcs]
def toB (l : List UInt8) : ByteArray := ⟨l.toArray⟩
theorem split_l0 (s : ByteArray) (hs : s.size ≤ 1048576) (c : UInt8) (d : Nat) : ∀ (i f : Nat) (out : List ByteArray), i + d = s.size → f ≤ i → out.length + d ≤ 1048577 →
    Ev (fun k => spec_l3Split.l0 k s (c.toNat : Int) out (f : Int) (i : Int)) (out ++ (pcsF ((s.data.toList.drop f).take (i - f)) c (s.data.toList.drop i)).map toB) := by
  induction d with
  | zero =>
    intro i f out hi hf ho
    rw [List.drop_eq_nil_of_le (show s.data.toList.length ≤ i by rw [data_length]; omega), pcsF_end]
    refine evS (fun k => by rw [spec_l3Split.l0]) ?_
    rw [w64s (show i < 1048577 by omega) (by omega), show ((f : Nat) : Int).toNat = f by omega, show ((i : Nat) : Int).toNat = i by omega, ext_list]
    refine evT (by omega) (evT (by omega) (evT (by omega) (evT (by omega) (evT (by omega) ?_))))
    refine evS (fun k => by rw [spec_l3Split.l0]) ?_
    exact evF (by omega) (evR rfl)
  | succ d ih =>
    intro i f out hi hf ho
    have hl : i < s.data.toList.length := by rw [data_length]; omega
    have hb := byte_at s i (by omega)
    rw [List.drop_eq_getElem_cons hl]
    refine evS (fun k => by rw [spec_l3Split.l0]) ?_
    rw [w64s (show i < 1048577 by omega) (by omega), show ((f : Nat) : Int).toNat = f by omega, show ((i : Nat) : Int).toNat = i by omega, hb, ext_list]
    refine evT (by omega) (evF (by omega) (evT (by omega) (evT (by omega) ?_)))
    by_cases hc : s.data.toList[i] = c
    · refine evT (by rw [hc]) (evT (by omega) (evT (by omega) (evT (by omega) ?_)))
      refine evE ?_ (ih (i + 1) (i + 1) _ (by omega) (Nat.le_refl _) (by simp; omega))
      rw [hc, pcsF_eq, Nat.sub_self, List.take_zero]
      simp [toB]
    · refine evF (fun e => hc (UInt8.toNat_inj.1 (by omega))) ?_
      refine evE ?_ (ih (i + 1) f out (by omega) (by omega) (by omega))
      rw [pcsF_ne _ _ _ _ hc]
      congr 3
      have hl2 : i - f < (s.data.toList.drop f).length := by rw [List.length_drop]; omega
      rw [show i + 1 - f = (i - f) + 1 by omega, List.take_succ_eq_append_getElem hl2]
      congr 2
      rw [List.getElem_drop]
      congr 1
      omega
theorem split_spec (s : ByteArray) (hs : s.size ≤ 1048576) (c : UInt8) : Ev (fun k => spec_l3Split.f k s (c.toNat : Int)) (pieces c s) := by
  have h := split_l0 s hs c s.size 0 0 [] (by omega) (Nat.le_refl _) (by simp; omega)
  rw [Nat.sub_self, List.take_zero, List.drop_zero, pcsF_nil, List.nil_append] at h
  exact h
theorem pcs_mem (c : UInt8) : ∀ (l : List UInt8) (x : List UInt8), x ∈ pcs c l → x.length ≤ l.length
  | [], x, h => by simp [pcs] at h; simp [h]
  | b :: l, x, h => by
    have ih := pcs_mem c l
    rw [pcs] at h
    split at h
    · rcases List.mem_cons.1 h with rfl | h
      · simp
      · have := ih x h; simp; omega
    · cases hp : pcs c l with
      | nil => exact absurd hp (pcs_ne c l)
      | cons a t =>
        rw [hp] at h
        rcases List.mem_cons.1 h with rfl | h
        · have := ih a (by rw [hp]; exact List.mem_cons_self); simp; omega
        · have := ih x (by rw [hp]; exact List.mem_cons_of_mem _ h); simp; omega
theorem pieces_mem (c : UInt8) (s : ByteArray) : ∀ x ∈ pieces c s, x.size ≤ s.size := by
  intro x hx
  obtain ⟨l, hl, rfl⟩ := List.mem_map.1 hx
  have := pcs_mem c _ l hl
  rw [data_length] at this
  show l.toArray.size ≤ _
  simpa using this
theorem pieces_count (c : UInt8) (s : ByteArray) : (pieces c s).length ≤ s.size + 1 := by
  rw [pieces, List.length_map, pcs_length]
  have := List.count_le_length (a := c) (l := s.data.toList)
  rw [data_length] at this
  omega
end Go.Proofs.YtagbldaiedmikaaDoor.Z

/- Numbers in versions, the program's and the reference's. Plain lemmas. -/
set_option linter.unusedVariables false
namespace Go.Proofs.YtagbldaiedmikaaDoor.Z
open Go.RowKit Go.Proofs.YtagbldaiedmikaaDoorW.PrintWords Go.Proofs.YtagbldaiedmikaaDoorW.PrintMore Go.Proofs.YtagbldaiedmikaaDoor.X Go.Proofs.YtagbldaiedmikaaDoor.Sp
def isD (u : UInt8) : Bool := decide (48 ≤ u.toNat ∧ u.toNat ≤ 57)
def figs (s : ByteArray) : Bool := s.data.toList.all isD && decide (s.size ≠ 0)
theorem figure_ev (b : Int) : impl_isFigure.f b = some (decide (48 ≤ b ∧ b ≤ 57)) := by
  unfold impl_isFigure.f
  by_cases h : b ≥ 48
  · rw [if_pos h]
    simp [show 48 ≤ b from h]
  · rw [if_neg h]
    simp [show ¬ 48 ≤ b from h]
theorem ne_nil (s : ByteArray) : (s.toList != ([] : List UInt8)) = decide (s.size ≠ 0) := by
  rw [tl]
  have := data_length s
  by_cases h : s.size = 0
  · rw [List.eq_nil_of_length_eq_zero (show s.data.toList.length = 0 by omega)]
    simp [h]
  · have h1 : s.data.toList ≠ [] := fun e => by rw [e] at this; simp at this; omega
    simp [h1, h]
theorem figs_l0 (s : ByteArray) (hs : s.size ≤ 1048576) (d : Nat) : ∀ i : Nat, i + d = s.size → Ev (fun k => impl_isFigures.l0 k s (i : Int)) ((s.data.toList.drop i).all isD && decide (s.size ≠ 0)) ∧ Ev (fun k => spec_l3Digits.l0 k s (i : Int)) ((s.data.toList.drop i).all isD && decide (s.size ≠ 0)) := by
  induction d with
  | zero =>
    intro i hi
    rw [List.drop_eq_nil_of_le (show s.data.toList.length ≤ i by rw [data_length]; omega)]
    constructor
    · refine evS (fun k => by rw [impl_isFigures.l0]) ?_
      exact evF (by omega) (evR (by rw [ne_nil]; rfl))
    · refine evS (fun k => by rw [spec_l3Digits.l0]) ?_
      exact evF (by omega) (evR (by rw [ne_nil]; rfl))
  | succ d ih =>
    intro i hi
    have hl : i < s.data.toList.length := by rw [data_length]; omega
    have hb := byte_at s i (by omega)
    have hlt : (s.data.toList[i]).toNat < 256 := UInt8.toNat_lt _
    have hw : wrap64 (((s.data.toList[i]).toNat : Nat) : Int) = (((s.data.toList[i]).toNat : Nat) : Int) := w64 (by omega)
    obtain ⟨h1, h2⟩ := ih (i + 1) (by omega)
    have he : (s.data.toList.drop i).all isD = (isD s.data.toList[i] && (s.data.toList.drop (i + 1)).all isD) := by
      rw [List.drop_eq_getElem_cons hl]
      rfl
    have hd : decide (48 ≤ (((s.data.toList[i]).toNat : Nat) : Int) ∧ (((s.data.toList[i]).toNat : Nat) : Int) ≤ 57) = isD s.data.toList[i] := by
      unfold isD
      exact decide_eq_decide.2 (by omega)
    rw [he]
    constructor
    · refine evS (fun k => by rw [impl_isFigures.l0]) ?_
      rw [hb, w64s (show i < s.size by omega) (by omega)]
      refine evT (by omega) (evT (by omega) (evC (figure_ev _) ?_))
      rw [hd]
      cases hx : isD s.data.toList[i] with
      | true => exact evT rfl (by simpa using h1)
      | false => exact evF Bool.false_ne_true (evR rfl)
    · refine evS (fun k => by rw [spec_l3Digits.l0]) ?_
      rw [hb, hw, w64s (show i < s.size by omega) (by omega)]
      refine evT (by omega) (evT (by omega) (evC (rng_spec _ _ _) ?_))
      rw [hd]
      cases hx : isD s.data.toList[i] with
      | true => exact evT rfl (by simpa using h2)
      | false => exact evF Bool.false_ne_true (evR rfl)
theorem figs_impl (s : ByteArray) (hs : s.size ≤ 1048576) : Ev (fun k => impl_isFigures.f k s) (figs s) := (figs_l0 s hs s.size 0 (by omega)).1
theorem figs_spec (s : ByteArray) (hs : s.size ≤ 1048576) : Ev (fun k => spec_l3Digits.f k s) (figs s) := (figs_l0 s hs s.size 0 (by omega)).2
def num (s : ByteArray) : Bool := figs s && (decide (s.data.toList = [48]) || decide (bt s 0 ≠ 48))
theorem figs_size {s : ByteArray} (h : figs s = true) : 0 < s.size := by
  simp only [figs, Bool.and_eq_true, decide_eq_true_eq] at h
  have := h.2
  omega
theorem num_impl (s : ByteArray) (hs : s.size ≤ 1048576) : Ev (fun k => impl_isNumber.f k s) (num s) := by
  unfold impl_isNumber.f num
  refine evB (figs_impl s hs) ?_
  cases hf : figs s with
  | false => exact evF Bool.false_ne_true (evR rfl)
  | true =>
    have := figs_size hf
    refine evT rfl ?_
    by_cases h : s.data.toList = [48]
    · exact evT (by rw [tl]; exact h) (evR (by simp [h]))
    · refine evF (by rw [tl]; exact h) (evT (by omega) (evR ?_))
      simp [h, bne, decide_not]
      by_cases hb : bt s 0 = 48
      · simp [hb]
      · simp [hb]
def digit (b : UInt8) : Nat := b.toNat - 48
def valA (a : Nat) (l : List UInt8) : Nat := l.foldl (fun n b => n * 10 + digit b) a
theorem valA_nil (a : Nat) : valA a [] = a := rfl
theorem valA_cons (a : Nat) (b : UInt8) (l : List UInt8) : valA a (b :: l) = valA (a * 10 + digit b) l := by unfold valA; rw [List.foldl_cons]
def val (l : List UInt8) : Nat := valA 0 l
theorem valA_eq (l : List UInt8) : ∀ a : Nat, valA a l = a * 10 ^ l.length + valA 0 l := by
  induction l with
  | nil => intro a; simp [valA_nil]
  | cons b l ih =>
    intro a
    rw [valA_cons, ih, valA_cons, ih (0 * 10 + digit b), List.length_cons, Nat.pow_succ, Nat.add_mul, Nat.zero_mul, Nat.zero_add, Nat.mul_assoc, Nat.mul_comm 10, Nat.add_assoc]
theorem val_cons (b : UInt8) (l : List UInt8) : val (b :: l) = digit b * 10 ^ l.length + val l := by
  unfold val
  rw [valA_cons, valA_eq, Nat.zero_mul, Nat.zero_add]
theorem isD_iff (u : UInt8) : isD u = true ↔ 48 ≤ u.toNat ∧ u.toNat ≤ 57 := by unfold isD; exact decide_eq_true_iff
theorem val_lt (l : List UInt8) (h : l.all isD = true) : val l < 10 ^ l.length := by
  induction l with
  | nil => exact Nat.one_pos
  | cons b l ih =>
    simp only [List.all_cons, Bool.and_eq_true] at h
    have hb := (isD_iff b).1 h.1
    have := ih h.2
    rw [val_cons, List.length_cons, Nat.pow_succ]
    have h9 : digit b * 10 ^ l.length ≤ 9 * 10 ^ l.length := Nat.mul_le_mul_right _ (by unfold digit; omega)
    omega
theorem val_l0 (s : ByteArray) (hs : s.size ≤ 8) (ha : s.data.toList.all isD = true) (d : Nat) : ∀ (i : Nat) (a : Nat), i + d = s.size → a < 10 ^ i → Ev (fun k => spec_l3Number.l0 k s (a : Int) (i : Int)) ((valA a (s.data.toList.drop i) : Nat) : Int) := by
  induction d with
  | zero =>
    intro i a hi hlt
    rw [List.drop_eq_nil_of_le (show s.data.toList.length ≤ i by rw [data_length]; omega)]
    refine evS (fun k => by rw [spec_l3Number.l0]) ?_
    exact evF (by omega) (evR rfl)
  | succ d ih =>
    intro i a hi hlt
    have hl : i < s.data.toList.length := by rw [data_length]; omega
    have hb := byte_at s i (by omega)
    have hD := (isD_iff _).1 (List.all_eq_true.1 ha _ (List.getElem_mem hl))
    have hp : 10 ^ i ≤ 10 ^ 7 := Nat.pow_le_pow_right (by decide) (by omega)
    rw [List.drop_eq_getElem_cons hl, valA_cons]
    unfold digit
    generalize (s.data.toList[i]).toNat = n at *
    have e1 : wrap64 (wrap64 ((a : Int) * 10) + ((n : Int) - 48) % 256) = ((a * 10 + (n - 48) : Nat) : Int) := by
      rw [w64 (x := (a : Int) * 10) (by omega), w64 (by omega)]
      omega
    refine evS (fun k => by rw [spec_l3Number.l0]) ?_
    rw [hb, e1, w64s (show i < s.size by omega) (by omega)]
    refine evT (by omega) (evT (by omega) (ih (i + 1) _ (by omega) ?_))
    rw [Nat.pow_succ]
    omega
/-- A number of at most eight digits. -/
def short (s : ByteArray) : Bool := num s && decide (s.size ≤ 8)
def numS (s : ByteArray) : Int := if short s = true then ((val s.data.toList : Nat) : Int) else -1
theorem head_one (s : ByteArray) (h : s.size = 1) : s.data.toList = [48] ↔ bt s 0 = 48 := by
  have hl : s.data.toList.length = 1 := by rw [data_length]; exact h
  have hb : bt s 0 = _ := byte_at s 0 (by omega)
  obtain ⟨x, hx⟩ := List.length_eq_one_iff.1 hl
  rw [hb]
  simp only [hx, List.getElem_cons_zero, List.cons.injEq, and_true]
  constructor
  · rintro rfl; rfl
  · intro e
    exact UInt8.toNat_inj.1 (by show x.toNat = 48; omega)
theorem numS_spec (s : ByteArray) (hs : s.size ≤ 1048576) : Ev (fun k => spec_l3Number.f k s) (numS s) := by
  unfold spec_l3Number.f
  refine evB (figs_spec s hs) ?_
  cases hf : figs s with
  | false =>
    have e : numS s = -1 := by unfold numS short num; rw [hf]; rfl
    rw [e]
    refine evF Bool.false_ne_true ?_
    refine evS (fun k => by rw [spec_l3Number.j0]) ?_
    exact evT rfl (evR rfl)
  | true =>
    have hz := figs_size hf
    have ha : s.data.toList.all isD = true := by unfold figs at hf; simp at hf; simpa using hf.1
    refine evT rfl ?_
    by_cases h8 : (s.size : Int) > 8
    · have e : numS s = -1 := by
        unfold numS short
        rw [decide_eq_false (by omega), Bool.and_false, if_neg Bool.false_ne_true]
      rw [e]
      refine evT h8 ?_
      refine evS (fun k => by rw [spec_l3Number.j0]) ?_
      exact evT rfl (evR rfl)
    · refine evF h8 ?_
      have hv := val_l0 s (by omega) ha s.size 0 0 (by omega) (by decide)
      have hv' : Ev (fun k => spec_l3Number.l0 k s 0 0) ((val s.data.toList : Nat) : Int) := hv
      by_cases h1 : (s.size : Int) > 1
      · refine evT h1 (evT (by omega) ?_)
        have hne : ¬ s.data.toList = [48] := fun e => by
          have := data_length s
          rw [e] at this
          simp at this
          omega
        by_cases hb : bt s 0 = 48
        · have e : numS s = -1 := by
            unfold numS short num
            rw [decide_eq_false hne, decide_eq_false (fun h => h hb)]
            simp
          rw [e, hb]
          refine evS (fun k => by rw [spec_l3Number.j0]) ?_
          exact evT rfl (evR rfl)
        · have e : numS s = ((val s.data.toList : Nat) : Int) := by
            unfold numS short num
            rw [hf, decide_eq_true hb, decide_eq_true (show s.size ≤ 8 by omega)]
            simp
          rw [e, beq_eq_false_iff_ne.2 hb]
          refine evS (fun k => by rw [spec_l3Number.j0]) ?_
          exact evF Bool.false_ne_true hv'
      · refine evF h1 ?_
        have h11 : s.size = 1 := by omega
        have e : numS s = ((val s.data.toList : Nat) : Int) := by
          unfold numS short num
          rw [hf, decide_eq_true (show s.size ≤ 8 by omega)]
          have := head_one s h11
          by_cases hb : bt s 0 = 48
          · rw [decide_eq_true (this.2 hb)]; simp
          · rw [decide_eq_true hb]; simp
        rw [e]
        refine evS (fun k => by rw [spec_l3Number.j0]) ?_
        exact evF Bool.false_ne_true hv'
end Go.Proofs.YtagbldaiedmikaaDoor.Z

namespace Go.Proofs.YtagbldaiedmikaaDoor.X
open Go.RowKit Go.Proofs.YtagbldaiedmikaaDoorW.PrintWords Go.Proofs.YtagbldaiedmikaaDoorW.PrintLast Go.Proofs.YtagbldaiedmikaaDoorW.PrintMore
attribute [local go_sem] max2_int min2_int max_two min_two max_three min_three max_four min_four   -- for this text's walks alone
set_option linter.unusedVariables false
set_option linter.unusedSimpArgs false

/-! ### spec_l3LessPart: function 72 -/
def spec_l3LessPart.j0 : Nat → ByteArray → ByteArray → Int → Int → Bool → Option (Bool)
  | 0, _, _, _, _, _ => none
  | k + 1, x0, x1, x5, x6, x11 => if x11 = true then (some (decide (x5 < x6))) else (if x5 ≥ 0 then (some true) else (if x6 ≥ 0 then (some false) else (some (Op.bytesLess x0.toList x1.toList))))
def spec_l3LessPart.f (k : Nat) (a0 : ByteArray) (a1 : ByteArray) : Option (Bool) := (spec_l3Number.f k a0).bind fun t199 => ((spec_l3Number.f k a1).bind fun t200 => (if t199 ≥ 0 then (spec_l3LessPart.j0 k a0 a1 t199 t200 (decide (t200 ≥ 0))) else (spec_l3LessPart.j0 k a0 a1 t199 t200 false)))

end Go.Proofs.YtagbldaiedmikaaDoor.X

namespace Go.Proofs.YtagbldaiedmikaaDoor.X
open Go.RowKit Go.Proofs.YtagbldaiedmikaaDoorW.PrintWords Go.Proofs.YtagbldaiedmikaaDoorW.PrintLast Go.Proofs.YtagbldaiedmikaaDoorW.PrintMore
attribute [local go_sem] max2_int min2_int max_two min_two max_three min_three max_four min_four   -- for this text's walks alone
set_option linter.unusedVariables false
set_option linter.unusedSimpArgs false

/-! ### spec_l3LessPre: function 51 -/
mutual
def spec_l3LessPre.l0 : Nat → List ByteArray → List ByteArray → Int → Option (Bool)
  | 0, _, _, _ => none
  | k + 1, x5, x6, x7 => if x7 < (x5.length : Int) then (spec_l3LessPre.j1 k x5 x6 x7 (decide (x7 < (x6.length : Int)))) else (spec_l3LessPre.j1 k x5 x6 x7 false)
def spec_l3LessPre.j1 : Nat → List ByteArray → List ByteArray → Int → Bool → Option (Bool)
  | 0, _, _, _, _ => none
  | k + 1, x5, x6, x7, x21 => if x21 = true then (if 0 ≤ x7 then (if x7 < (x5.length : Int) then (if x7 < (x6.length : Int) then (if (rdOf ByteArray.empty x5 x7).toList = (rdOf ByteArray.empty x6 x7).toList then (spec_l3LessPre.l0 k x5 x6 (wrap64 (x7 + 1))) else ((spec_l3LessPart.f k (rdOf ByteArray.empty x5 x7) (rdOf ByteArray.empty x6 x7)).bind fun t211 => (some t211))) else (none)) else (none)) else (none)) else (some (decide ((x5.length : Int) < (x6.length : Int))))
end
def spec_l3LessPre.f (k : Nat) (a0 : ByteArray) (a1 : ByteArray) : Option (Bool) := (spec_l3Split.f k a0 46).bind fun t201 => ((spec_l3Split.f k a1 46).bind fun t204 => (spec_l3LessPre.l0 k t201 t204 0))

end Go.Proofs.YtagbldaiedmikaaDoor.X

namespace Go.Proofs.YtagbldaiedmikaaDoor.X
open Go.RowKit Go.Proofs.YtagbldaiedmikaaDoorW.PrintWords Go.Proofs.YtagbldaiedmikaaDoorW.PrintLast Go.Proofs.YtagbldaiedmikaaDoorW.PrintMore
attribute [local go_sem] max2_int min2_int max_two min_two max_three min_three max_four min_four   -- for this text's walks alone
set_option linter.unusedVariables false
set_option linter.unusedSimpArgs false

/-! ### spec_LessVersion: function 24 -/
def spec_LessVersion.j0 : Nat → Bool → Int → Int → Int → ByteArray → Int → Int → Int → ByteArray → Option (Bool)
  | 0, _, _, _, _, _, _, _, _, _ => none
  | k + 1, x38, x213000, x213001, x213002, x213003, x214000, x214001, x214002, x214003 => if x38 = true then (some false) else (if x214003.toList = ([] : List UInt8) then (some true) else ((spec_l3LessPre.f k x213003 x214003).bind fun t214 => (some t214)))
def spec_LessVersion.f (k : Nat) (a0_0 : Int) (a0_1 : Int) (a0_2 : Int) (a0_3 : ByteArray) (a1_0 : Int) (a1_1 : Int) (a1_2 : Int) (a1_3 : ByteArray) : Option (Bool) := if a0_0 = a1_0 then (if a0_1 = a1_1 then (if a0_2 = a1_2 then (if a0_3.toList = a1_3.toList then (spec_LessVersion.j0 k true a0_0 a0_1 a0_2 a0_3 a1_0 a1_1 a1_2 a1_3) else (spec_LessVersion.j0 k (a0_3.toList == ([] : List UInt8)) a0_0 a0_1 a0_2 a0_3 a1_0 a1_1 a1_2 a1_3)) else (some (decide (a0_2 < a1_2)))) else (some (decide (a0_1 < a1_1)))) else (some (decide (a0_0 < a1_0)))

end Go.Proofs.YtagbldaiedmikaaDoor.X

/- Versions set in order, the program's way: what it gives. Plain lemmas. -/
set_option linter.unusedVariables false
namespace Go.Proofs.YtagbldaiedmikaaDoor.Z
open Go.RowKit Go.Proofs.YtagbldaiedmikaaDoorW.PrintWords Go.Proofs.YtagbldaiedmikaaDoorW.PrintMore Go.Proofs.YtagbldaiedmikaaDoor.X Go.Proofs.YtagbldaiedmikaaDoor.Sp
def cmpI (a b : Int) : Int := if a < b then -1 else if a > b then 1 else 0
theorem cmpI_ev (a b : Int) : cmp_Compare_int.f a b = some (cmpI a b) := by
  unfold cmp_Compare_int.f cmp_isNaN_int.f cmpI
  simp only [bne_self_eq_false, Option.bind_some, Bool.false_eq_true, if_false]
  split
  · rfl
  · split <;> rfl
theorem cmpI_zero {a b : Int} : cmpI a b = 0 ↔ a = b := by
  unfold cmpI
  split
  · omega
  · split <;> omega
theorem cmpI_neg {a b : Int} : cmpI a b < 0 ↔ a < b := by
  unfold cmpI
  split
  · omega
  · split <;> omega
def cmpS (a b : ByteArray) : Int := if Op.bytesLess a.data.toList b.data.toList = true then -1 else if Op.bytesLess b.data.toList a.data.toList = true then 1 else 0
theorem cmpS_ev (a b : ByteArray) : cmp_Compare_string.f a b = some (cmpS a b) := by
  unfold cmp_Compare_string.f cmp_isNaN_string.f cmpS
  simp only [bne_self_eq_false, Option.bind_some, Bool.false_eq_true, if_false, tl]
  split
  · rfl
  · split <;> rfl
theorem cmpS_zero {a b : ByteArray} : cmpS a b = 0 ↔ a = b := by
  unfold cmpS
  by_cases h1 : Op.bytesLess a.data.toList b.data.toList = true
  · rw [if_pos h1]
    refine ⟨fun e => by omega, fun e => ?_⟩
    subst e
    rw [Y.less_self] at h1
    cases h1
  · rw [if_neg h1]
    by_cases h2 : Op.bytesLess b.data.toList a.data.toList = true
    · rw [if_pos h2]
      refine ⟨fun e => by omega, fun e => ?_⟩
      subst e
      rw [Y.less_self] at h2
      cases h2
    · rw [if_neg h2]
      refine ⟨fun _ => ?_, fun _ => rfl⟩
      have h := Y.less_eq (a := a.data.toList) (b := b.data.toList) (by simpa using h1) (by simpa using h2)
      rw [← tl, ← tl] at h
      exact tl_inj.1 (by simpa using h)
theorem cmpS_neg {a b : ByteArray} : cmpS a b < 0 ↔ Op.bytesLess a.data.toList b.data.toList = true := by
  unfold cmpS
  split
  · rename_i h; simp [h]
  · rename_i h
    split <;> simp [h]
theorem or_l0 (l : List Int) (hl : l.length ≤ 10) (d : Nat) : ∀ i : Nat, i + d = l.length → Ev (fun k => cmp_Or_int.l0 k 0 l (l.length : Int) (i : Int)) ((l.drop i).foldr (fun x y => if x = 0 then y else x) 0) := by
  induction d with
  | zero =>
    intro i hi
    rw [List.drop_eq_nil_of_le (by omega)]
    refine evS (fun k => by rw [cmp_Or_int.l0]) ?_
    exact evF (by omega) (evR rfl)
  | succ d ih =>
    intro i hi
    have hlt : i < l.length := by omega
    have hr : rd l (i : Int) = l[i] := by
      have := rd_get hlt
      rw [List.getElem?_eq_getElem hlt] at this
      exact (Option.some.inj this).symm
    rw [List.drop_eq_getElem_cons hlt]
    refine evS (fun k => by rw [cmp_Or_int.l0]) ?_
    rw [hr, w64s hlt (by omega)]
    refine evT (by omega) (evT (by omega) (evT (by omega) ?_))
    by_cases hx : l[i] = 0
    · refine evT hx (evE ?_ (ih (i + 1) (by omega)))
      rw [List.foldr_cons, if_pos hx]
    · refine evF hx (evR ?_)
      rw [List.foldr_cons, if_neg hx]
theorem or_ev (l : List Int) (hl : l.length ≤ 10) : Ev (fun k => cmp_Or_int.f k l) (l.foldr (fun x y => if x = 0 then y else x) 0) := or_l0 l hl l.length 0 (by omega)
/-- Two parts. -/
def cp (a b : ByteArray) : Int :=
  if short a && short b then (if cmpI a.size b.size = 0 then cmpS a b else cmpI a.size b.size) else if short a then -1 else if short b then 1 else cmpS a b
theorem cp_zero {a b : ByteArray} : cp a b = 0 ↔ a = b := by
  unfold cp
  by_cases h1 : short a = true
  · by_cases h2 : short b = true
    · rw [h1, h2]
      simp only [Bool.and_self, if_true]
      by_cases h : cmpI a.size b.size = 0
      · rw [if_pos h]; exact cmpS_zero
      · rw [if_neg h]
        refine ⟨fun e => absurd e h, fun e => ?_⟩
        subst e
        exact absurd (cmpI_zero.2 rfl) h
    · simp only [h1, h2, Bool.and_false, Bool.false_eq_true, if_false, if_true]
      refine ⟨fun e => by omega, fun e => ?_⟩
      subst e
      exact absurd h1 h2
  · by_cases h2 : short b = true
    · simp only [h1, h2, Bool.false_and, Bool.false_eq_true, if_false, if_true]
      refine ⟨fun e => by omega, fun e => ?_⟩
      subst e
      exact absurd h2 h1
    · simp only [h1, h2, Bool.false_and, Bool.false_eq_true, if_false]
      exact cmpS_zero
theorem cp_ev (a b : ByteArray) (ha : a.size ≤ 1048576) (hb : b.size ≤ 1048576) : Ev (fun k => impl_comparePart.f k a b) (cp a b) := by
  have hor : Ev (fun k => cmp_Or_int.f k [cmpI a.size b.size, cmpS a b]) (if cmpI a.size b.size = 0 then cmpS a b else cmpI a.size b.size) := by
    refine evE ?_ (or_ev [cmpI a.size b.size, cmpS a b] (by simp))
    simp only [List.foldr_cons, List.foldr_nil]
    split
    · split <;> omega
    · rfl
  have hj : ∀ x y : Bool, short a = x → short b = y → Ev (fun k => impl_comparePart.j0 k a b x y) (cp a b) := by
    intro x y hx hy
    have hcp : cp a b = if x && y then (if cmpI a.size b.size = 0 then cmpS a b else cmpI a.size b.size) else if x then -1 else if y then 1 else cmpS a b := by
      unfold cp
      rw [hx, hy]
    rw [hcp]
    cases x with
    | true =>
      cases y with
      | true =>
        refine evS (fun k => by rw [impl_comparePart.j0]) (evT rfl ?_)
        refine evS (fun k => by rw [impl_comparePart.j1]) (evT rfl ?_)
        exact evC (cmpI_ev _ _) (evC (cmpS_ev _ _) (evB hor (evR rfl)))
      | false =>
        refine evS (fun k => by rw [impl_comparePart.j0]) (evT rfl ?_)
        refine evS (fun k => by rw [impl_comparePart.j1]) (evF Bool.false_ne_true (evT rfl ?_))
        exact evR rfl
    | false =>
      refine evS (fun k => by rw [impl_comparePart.j0]) (evF Bool.false_ne_true ?_)
      refine evS (fun k => by rw [impl_comparePart.j1]) (evF Bool.false_ne_true (evF Bool.false_ne_true ?_))
      cases y with
      | true => exact evT rfl (evR rfl)
      | false => exact evF Bool.false_ne_true (evC (cmpS_ev _ _) (evR rfl))
  have e1 : ∀ s : ByteArray, decide ((s.size : Int) ≤ 8) = decide (s.size ≤ 8) := fun s => decide_eq_decide.2 (by omega)
  unfold impl_comparePart.f
  rw [e1, e1]
  refine evB (num_impl a ha) ?_
  cases hna : num a with
  | true =>
    refine evT rfl (evB (num_impl b hb) ?_)
    have hx : short a = decide (a.size ≤ 8) := by unfold short; rw [hna]; simp
    cases hnb : num b with
    | true => exact evT rfl (hj _ _ hx (by unfold short; rw [hnb]; simp))
    | false => exact evF Bool.false_ne_true (hj _ _ hx (by unfold short; rw [hnb]; simp))
  | false =>
    refine evF Bool.false_ne_true (evB (num_impl b hb) ?_)
    have hx : short a = false := by unfold short; rw [hna]; simp
    cases hnb : num b with
    | true => exact evT rfl (hj _ _ hx (by unfold short; rw [hnb]; simp))
    | false => exact evF Bool.false_ne_true (hj _ _ hx (by unfold short; rw [hnb]; simp))
/-- Two lists of parts. -/
def lcp : List ByteArray → List ByteArray → Int
  | [], [] => 0
  | [], _ :: _ => -1
  | _ :: _, [] => 1
  | a :: l, b :: m => if cp a b = 0 then lcp l m else cp a b
theorem lcp_l0 (l m : List ByteArray) (hl : l.length ≤ 1048577) (hm : m.length ≤ 1048577) (zl : ∀ x ∈ l, x.size ≤ 1048576) (zm : ∀ x ∈ m, x.size ≤ 1048576) (n : Nat) (hn : n = min l.length m.length) (d : Nat) : ∀ i : Nat, i + d = n →
    Ev (fun k => impl_comparePre.l0 k l m (n : Int) (i : Int)) (lcp (l.drop i) (m.drop i)) := by
  induction d with
  | zero =>
    intro i hi
    refine evS (fun k => by rw [impl_comparePre.l0]) ?_
    refine evF (by omega) (evC (cmpI_ev _ _) (evR ?_))
    by_cases h1 : l.length ≤ i
    · rw [List.drop_eq_nil_of_le h1]
      by_cases h2 : m.length ≤ i
      · rw [List.drop_eq_nil_of_le h2]
        exact cmpI_zero.2 (by omega)
      · rw [List.drop_eq_getElem_cons (show i < m.length by omega)]
        unfold cmpI
        rw [if_pos (by omega)]
        rfl
    · rw [List.drop_eq_getElem_cons (show i < l.length by omega), List.drop_eq_nil_of_le (show m.length ≤ i by omega)]
      unfold cmpI
      rw [if_neg (by omega), if_pos (by omega)]
      rfl
  | succ d ih =>
    intro i hi
    have il : i < l.length := by omega
    have im : i < m.length := by omega
    have gl : rdOf ByteArray.empty l (i : Int) = l[i] := by
      have := rdOf_get (d := ByteArray.empty) il
      rw [List.getElem?_eq_getElem il] at this
      exact (Option.some.inj this).symm
    have gm : rdOf ByteArray.empty m (i : Int) = m[i] := by
      have := rdOf_get (d := ByteArray.empty) im
      rw [List.getElem?_eq_getElem im] at this
      exact (Option.some.inj this).symm
    rw [List.drop_eq_getElem_cons il, List.drop_eq_getElem_cons im, lcp]
    refine evS (fun k => by rw [impl_comparePre.l0]) ?_
    rw [gl, gm, w64s il (by omega)]
    refine evT (by omega) (evT (by omega) (evT (by omega) (evT (by omega) (evB (cp_ev _ _ (zl _ (List.getElem_mem il)) (zm _ (List.getElem_mem im))) ?_))))
    by_cases hc : cp l[i] m[i] = 0
    · rw [if_pos hc]
      exact evT hc (ih (i + 1) (by omega))
    · rw [if_neg hc]
      exact evF hc (evR rfl)
/-- Two texts behind the numbers. -/
def cpre (a b : ByteArray) : Int := if a = b then 0 else if a.size = 0 then 1 else if b.size = 0 then -1 else lcp (pieces 46 a) (pieces 46 b)
theorem nil_iff (s : ByteArray) : s.toList = ([] : List UInt8) ↔ s.size = 0 := by
  rw [tl]
  have := data_length s
  constructor
  · intro e; rw [e] at this; simpa using this.symm
  · intro e; exact List.eq_nil_of_length_eq_zero (by omega)
theorem split_impl' (s : ByteArray) (hs : s.size ≤ 1048576) (c : UInt8) : strings_Split.f s (⟨#[c]⟩ : ByteArray) = some (pieces c s) := by
  unfold strings_Split.f
  rw [if_pos ⟨by omega, rfl⟩]
  rfl
theorem cpre_ev (a b : ByteArray) (ha : a.size ≤ 1048576) (hb : b.size ≤ 1048576) : Ev (fun k => impl_comparePre.f k a b) (cpre a b) := by
  unfold impl_comparePre.f cpre
  by_cases h : a = b
  · rw [if_pos h]
    exact evT (by rw [h]) (evR rfl)
  rw [if_neg h]
  refine evF (fun e => h (tl_inj.1 e)) ?_
  by_cases h1 : a.size = 0
  · rw [if_pos h1]
    exact evT ((nil_iff a).2 h1) (evR rfl)
  rw [if_neg h1]
  refine evF (fun e => h1 ((nil_iff a).1 e)) ?_
  by_cases h2 : b.size = 0
  · rw [if_pos h2]
    exact evT ((nil_iff b).2 h2) (evR rfl)
  rw [if_neg h2]
  refine evF (fun e => h2 ((nil_iff b).1 e)) (evC (split_impl' a ha 46) (evC (split_impl' b hb 46) ?_))
  have ca := pieces_count 46 a
  have cb := pieces_count 46 b
  have hm : mn ((pieces 46 a).length : Int) ((pieces 46 b).length : Int) = ((min (pieces 46 a).length (pieces 46 b).length : Nat) : Int) := by unfold mn; omega
  rw [hm]
  have := lcp_l0 (pieces 46 a) (pieces 46 b) (by omega) (by omega) (fun x hx => by have := pieces_mem 46 a x hx; omega) (fun x hx => by have := pieces_mem 46 b x hx; omega) _ rfl _ 0 (Nat.zero_add _)
  exact this
/-- Two versions. -/
def cmpV (a0 a1 a2 : Int) (a3 : ByteArray) (b0 b1 b2 : Int) (b3 : ByteArray) : Int :=
  if cmpI a0 b0 = 0 then (if cmpI a1 b1 = 0 then (if cmpI a2 b2 = 0 then cpre a3 b3 else cmpI a2 b2) else cmpI a1 b1) else cmpI a0 b0
theorem less_impl (a0 a1 a2 : Int) (a3 : ByteArray) (b0 b1 b2 : Int) (b3 : ByteArray) (ha : a3.size ≤ 1048576) (hb : b3.size ≤ 1048576) :
    Ev (fun k => impl_LessVersion.f k a0 a1 a2 a3 b0 b1 b2 b3) (decide (cmpV a0 a1 a2 a3 b0 b1 b2 b3 < 0)) := by
  unfold impl_LessVersion.f
  refine evB (a := cmpV a0 a1 a2 a3 b0 b1 b2 b3) ?_ (evR rfl)
  unfold impl_compare.f
  refine evC (cmpI_ev _ _) (evC (cmpI_ev _ _) (evC (cmpI_ev _ _) (evB (cpre_ev _ _ ha hb) (evB (or_ev [cmpI a0 b0, cmpI a1 b1, cmpI a2 b2, cpre a3 b3] (by simp)) (evR ?_)))))
  simp only [List.foldr_cons, List.foldr_nil]
  unfold cmpV
  split
  · split
    · split
      · split <;> omega
      · rfl
    · rfl
  · rfl
end Go.Proofs.YtagbldaiedmikaaDoor.Z

/- Short numbers: their values. Plain lemmas. -/
set_option linter.unusedVariables false
namespace Go.Proofs.YtagbldaiedmikaaDoor.Z
open Go.RowKit Go.Proofs.YtagbldaiedmikaaDoorW.PrintWords Go.Proofs.YtagbldaiedmikaaDoorW.PrintMore Go.Proofs.YtagbldaiedmikaaDoor.X Go.Proofs.YtagbldaiedmikaaDoor.Sp
theorem digit_lt {a b : UInt8} (ha : isD a = true) (hb : isD b = true) : digit a < digit b ↔ a < b := by
  have h1 := (isD_iff a).1 ha
  have h2 := (isD_iff b).1 hb
  unfold digit
  rw [UInt8.lt_iff_toNat_lt]
  omega
theorem less_val : ∀ x y : List UInt8, x.all isD = true → y.all isD = true → x.length = y.length → (Op.bytesLess x y = true ↔ val x < val y)
  | [], [], _, _, _ => by simp [Op.bytesLess]
  | [], _ :: _, _, _, h => by simp at h
  | _ :: _, [], _, _, h => by simp at h
  | a :: x, b :: y, hx, hy, hl => by
    simp only [List.all_cons, Bool.and_eq_true] at hx hy
    have hl' : x.length = y.length := by simpa using hl
    have ih := less_val x y hx.2 hy.2 hl'
    have vx := val_lt x hx.2
    have vy := val_lt y hy.2
    rw [val_cons, val_cons, ← hl'] 
    rw [← hl'] at vy
    have hd := digit_lt hx.1 hy.1
    have hd' := digit_lt hy.1 hx.1
    generalize 10 ^ x.length = p at *
    by_cases h1 : a < b
    · have h2 : digit a + 1 ≤ digit b := hd.2 h1
      have h3 : (digit a + 1) * p ≤ digit b * p := Nat.mul_le_mul_right _ h2
      rw [Nat.add_mul] at h3
      simp only [Op.bytesLess, h1, decide_true, Bool.true_or, true_iff]
      omega
    · by_cases h4 : a = b
      · subst h4
        simp only [Op.bytesLess, h1, decide_false, Bool.false_or, beq_self_eq_true, Bool.true_and]
        rw [ih]
        omega
      · have h5 : b < a := by
          rw [UInt8.lt_iff_toNat_lt] at h1 ⊢
          have : a.toNat ≠ b.toNat := fun e => h4 (UInt8.toNat_inj.1 e)
          omega
        have h2 : digit b + 1 ≤ digit a := hd'.2 h5
        have h3 : (digit b + 1) * p ≤ digit a * p := Nat.mul_le_mul_right _ h2
        rw [Nat.add_mul] at h3
        simp only [Op.bytesLess, h1, decide_false, Bool.false_or, beq_eq_false_iff_ne.2 h4, Bool.false_and, Bool.false_eq_true, false_iff]
        omega
theorem short_all {s : ByteArray} (h : short s = true) : s.data.toList.all isD = true ∧ 0 < s.size ∧ s.size ≤ 8 ∧ (s.data.toList = [48] ∨ bt s 0 ≠ 48) := by
  simp only [short, num, figs, Bool.and_eq_true, Bool.or_eq_true, decide_eq_true_eq] at h
  exact ⟨h.1.1.1, by have := h.1.1.2; omega, h.2, h.1.2⟩
theorem short_lead {s : ByteArray} (h : short s = true) (h1 : 1 < s.size) : 10 ^ (s.size - 1) ≤ val s.data.toList := by
  obtain ⟨ha, hz, h8, hb⟩ := short_all h
  have hl := data_length s
  have hne : ¬ s.data.toList = [48] := fun e => by rw [e] at hl; simp at hl; omega
  have hb0 := hb.resolve_left hne
  have hat : bt s 0 = _ := byte_at s 0 (by omega)
  cases hs : s.data.toList with
  | nil => rw [hs] at hl; simp at hl; omega
  | cons b l =>
    rw [hat] at hb0
    simp only [hs, List.getElem_cons_zero] at hb0
    rw [hs] at ha hl
    simp only [List.all_cons, Bool.and_eq_true] at ha
    have hd := (isD_iff b).1 ha.1
    rw [val_cons, show s.size - 1 = l.length by simp at hl; omega]
    have : 1 * 10 ^ l.length ≤ digit b * 10 ^ l.length := Nat.mul_le_mul_right _ (by unfold digit; omega)
    omega
theorem numS_pos (s : ByteArray) : 0 ≤ numS s ↔ short s = true := by
  unfold numS
  split
  · rename_i h; simp [h]
  · rename_i h; simp [h]
theorem numS_val {s : ByteArray} (h : short s = true) : numS s = ((val s.data.toList : Nat) : Int) := by unfold numS; rw [if_pos h]
theorem short_less {a b : ByteArray} (ha : short a = true) (hb : short b = true) (h : a.size < b.size) : val a.data.toList < val b.data.toList := by
  obtain ⟨aa, az, _, _⟩ := short_all ha
  obtain ⟨_, bz, _, _⟩ := short_all hb
  have h1 := val_lt _ aa
  rw [data_length] at h1
  have h2 := short_lead hb (by omega)
  have h3 : 10 ^ a.size ≤ 10 ^ (b.size - 1) := Nat.pow_le_pow_right (by decide) (by omega)
  omega
end Go.Proofs.YtagbldaiedmikaaDoor.Z

/- Versions set in order, the reference's way: the same. Plain lemmas. -/
set_option linter.unusedVariables false
namespace Go.Proofs.YtagbldaiedmikaaDoor.Z
open Go.RowKit Go.Proofs.YtagbldaiedmikaaDoorW.PrintWords Go.Proofs.YtagbldaiedmikaaDoorW.PrintMore Go.Proofs.YtagbldaiedmikaaDoor.X Go.Proofs.YtagbldaiedmikaaDoor.Sp
def lp (a b : ByteArray) : Bool := if 0 ≤ numS a then (if 0 ≤ numS b then decide (numS a < numS b) else true) else if 0 ≤ numS b then false else Op.bytesLess a.data.toList b.data.toList
theorem cp_neg (a b : ByteArray) : lp a b = decide (cp a b < 0) := by
  unfold lp cp
  by_cases h1 : short a = true
  · rw [if_pos ((numS_pos a).2 h1)]
    by_cases h2 : short b = true
    · rw [if_pos ((numS_pos b).2 h2), h1, h2, numS_val h1, numS_val h2]
      simp only [Bool.and_self, if_true]
      refine decide_eq_decide.2 ?_
      by_cases h : cmpI a.size b.size = 0
      · rw [if_pos h]
        have hs : a.size = b.size := by have := cmpI_zero.1 h; omega
        rw [cmpS_neg, less_val _ _ (short_all h1).1 (short_all h2).1 (by rw [data_length, data_length]; exact hs)]
        omega
      · rw [if_neg h, cmpI_neg]
        have hs : ¬ a.size = b.size := fun e => h (cmpI_zero.2 (by omega))
        by_cases hlt : a.size < b.size
        · have := short_less h1 h2 hlt
          omega
        · have := short_less h2 h1 (by omega)
          omega
    · rw [if_neg (fun e => h2 ((numS_pos b).1 e))]
      simp only [h1, h2, Bool.and_false, Bool.false_eq_true, if_false, if_true]
      rfl
  · rw [if_neg (fun e => h1 ((numS_pos a).1 e))]
    by_cases h2 : short b = true
    · rw [if_pos ((numS_pos b).2 h2)]
      simp only [h1, h2, Bool.false_and, Bool.false_eq_true, if_false, if_true]
      rfl
    · rw [if_neg (fun e => h2 ((numS_pos b).1 e))]
      simp only [h1, h2, Bool.false_and, Bool.false_eq_true, if_false]
      by_cases hb : Op.bytesLess a.data.toList b.data.toList = true
      · rw [hb, decide_eq_true (cmpS_neg.2 hb)]
      · rw [Bool.eq_false_iff.2 hb, decide_eq_false (fun e => hb (cmpS_neg.1 e))]
theorem lp_spec (a b : ByteArray) (ha : a.size ≤ 1048576) (hb : b.size ≤ 1048576) : Ev (fun k => spec_l3LessPart.f k a b) (lp a b) := by
  unfold spec_l3LessPart.f
  refine evB (numS_spec a ha) (evB (numS_spec b hb) ?_)
  by_cases h1 : 0 ≤ numS a
  · refine evT h1 ?_
    refine evS (fun k => by rw [spec_l3LessPart.j0]) ?_
    by_cases h2 : 0 ≤ numS b
    · exact evT (decide_eq_true h2) (evR (by unfold lp; rw [if_pos h1, if_pos h2]))
    · exact evF (by simpa using h2) (evT h1 (evR (by unfold lp; rw [if_pos h1, if_neg h2])))
  · refine evF h1 ?_
    refine evS (fun k => by rw [spec_l3LessPart.j0]) (evF Bool.false_ne_true (evF h1 ?_))
    by_cases h2 : 0 ≤ numS b
    · exact evT h2 (evR (by unfold lp; rw [if_neg h1, if_pos h2]))
    · exact evF h2 (evR (by unfold lp; rw [if_neg h1, if_neg h2, tl, tl]))
theorem lcp_spec (l m : List ByteArray) (hl : l.length ≤ 1048577) (hm : m.length ≤ 1048577) (zl : ∀ x ∈ l, x.size ≤ 1048576) (zm : ∀ x ∈ m, x.size ≤ 1048576) (d : Nat) : ∀ i : Nat, i + d = min l.length m.length →
    Ev (fun k => spec_l3LessPre.l0 k l m (i : Int)) (decide (lcp (l.drop i) (m.drop i) < 0)) := by
  induction d with
  | zero =>
    intro i hi
    by_cases h1 : l.length ≤ i
    · refine evS (fun k => by rw [spec_l3LessPre.l0]) (evF (by omega) ?_)
      refine evS (fun k => by rw [spec_l3LessPre.j1]) (evF Bool.false_ne_true (evR ?_))
      rw [List.drop_eq_nil_of_le h1]
      by_cases h2 : m.length ≤ i
      · rw [List.drop_eq_nil_of_le h2]
        exact decide_eq_decide.2 (by simp only [lcp]; omega)
      · rw [List.drop_eq_getElem_cons (show i < m.length by omega)]
        exact decide_eq_decide.2 (by simp only [lcp]; omega)
    · refine evS (fun k => by rw [spec_l3LessPre.l0]) (evT (by omega) ?_)
      refine evS (fun k => by rw [spec_l3LessPre.j1]) (evF (by simp; omega) (evR ?_))
      rw [List.drop_eq_getElem_cons (show i < l.length by omega), List.drop_eq_nil_of_le (show m.length ≤ i by omega)]
      exact decide_eq_decide.2 (by simp only [lcp]; omega)
  | succ d ih =>
    intro i hi
    have il : i < l.length := by omega
    have im : i < m.length := by omega
    have gl : rdOf ByteArray.empty l (i : Int) = l[i] := by
      have := rdOf_get (d := ByteArray.empty) il
      rw [List.getElem?_eq_getElem il] at this
      exact (Option.some.inj this).symm
    have gm : rdOf ByteArray.empty m (i : Int) = m[i] := by
      have := rdOf_get (d := ByteArray.empty) im
      rw [List.getElem?_eq_getElem im] at this
      exact (Option.some.inj this).symm
    rw [List.drop_eq_getElem_cons il, List.drop_eq_getElem_cons im, lcp]
    refine evS (fun k => by rw [spec_l3LessPre.l0]) (evT (by omega) ?_)
    refine evS (fun k => by rw [spec_l3LessPre.j1]) ?_
    rw [gl, gm, w64s il (by omega)]
    refine evT (decide_eq_true (by omega)) (evT (by omega) (evT (by omega) (evT (by omega) ?_)))
    by_cases hc : l[i] = m[i]
    · rw [if_pos (cp_zero.2 hc)]
      exact evT (by rw [hc]) (ih (i + 1) (by omega))
    · rw [if_neg (fun e => hc (cp_zero.1 e)), ← cp_neg]
      exact evF (fun e => hc (tl_inj.1 e)) (evB (lp_spec _ _ (zl _ (List.getElem_mem il)) (zm _ (List.getElem_mem im))) (evR rfl))
theorem lpre_spec (a b : ByteArray) (ha : a.size ≤ 1048576) (hb : b.size ≤ 1048576) : Ev (fun k => spec_l3LessPre.f k a b) (decide (lcp (pieces 46 a) (pieces 46 b) < 0)) := by
  unfold spec_l3LessPre.f
  have ca := pieces_count 46 a
  have cb := pieces_count 46 b
  have hA : Ev (fun k => spec_l3Split.f k a 46) (pieces 46 a) := split_spec a ha 46
  have hB : Ev (fun k => spec_l3Split.f k b 46) (pieces 46 b) := split_spec b hb 46
  refine evB hA (evB hB ?_)
  exact lcp_spec (pieces 46 a) (pieces 46 b) (by omega) (by omega) (fun x hx => by have := pieces_mem 46 a x hx; omega) (fun x hx => by have := pieces_mem 46 b x hx; omega) _ 0 (Nat.zero_add _)
theorem less_spec (a0 a1 a2 : Int) (a3 : ByteArray) (b0 b1 b2 : Int) (b3 : ByteArray) (ha : a3.size ≤ 1048576) (hb : b3.size ≤ 1048576) :
    Ev (fun k => spec_LessVersion.f k a0 a1 a2 a3 b0 b1 b2 b3) (decide (cmpV a0 a1 a2 a3 b0 b1 b2 b3 < 0)) := by
  unfold spec_LessVersion.f cmpV
  by_cases h0 : a0 = b0
  · rw [if_pos (cmpI_zero.2 h0)]
    refine evT h0 ?_
    by_cases h1 : a1 = b1
    · rw [if_pos (cmpI_zero.2 h1)]
      refine evT h1 ?_
      by_cases h2 : a2 = b2
      · rw [if_pos (cmpI_zero.2 h2)]
        refine evT h2 ?_
        unfold cpre
        by_cases h3 : a3 = b3
        · rw [if_pos h3]
          refine evT (by rw [h3]) ?_
          refine evS (fun k => by rw [spec_LessVersion.j0]) ?_
          exact evT rfl (evR rfl)
        · rw [if_neg h3]
          refine evF (fun e => h3 (tl_inj.1 e)) ?_
          refine evS (fun k => by rw [spec_LessVersion.j0]) ?_
          by_cases h4 : a3.size = 0
          · rw [if_pos h4]
            exact evT (beq_iff_eq.2 ((nil_iff a3).2 h4)) (evR rfl)
          · rw [if_neg h4]
            refine evF (fun e => h4 ((nil_iff a3).1 (beq_iff_eq.1 e))) ?_
            by_cases h5 : b3.size = 0
            · rw [if_pos h5]
              exact evT ((nil_iff b3).2 h5) (evR rfl)
            · rw [if_neg h5]
              exact evF (fun e => h5 ((nil_iff b3).1 e)) (evB (lpre_spec a3 b3 ha hb) (evR rfl))
      · rw [if_neg (fun e => h2 (cmpI_zero.1 e))]
        exact evF h2 (evR (decide_eq_decide.2 cmpI_neg.symm))
    · rw [if_neg (fun e => h1 (cmpI_zero.1 e))]
      exact evF h1 (evR (decide_eq_decide.2 cmpI_neg.symm))
  · rw [if_neg (fun e => h0 (cmpI_zero.1 e))]
    exact evF h0 (evR (decide_eq_decide.2 cmpI_neg.symm))
end Go.Proofs.YtagbldaiedmikaaDoor.Z

namespace Go.Proofs.YtagbldaiedmikaaDoor.X
open Go.RowKit Go.Proofs.YtagbldaiedmikaaDoorW.PrintWords Go.Proofs.YtagbldaiedmikaaDoorW.PrintLast Go.Proofs.YtagbldaiedmikaaDoorW.PrintMore
attribute [local go_sem] max2_int min2_int max_two min_two max_three min_three max_four min_four   -- for this text's walks alone
set_option linter.unusedVariables false
set_option linter.unusedSimpArgs false

/-! ### spec_Latest: function 29 -/
def spec_Latest.l0 : Nat → List (S27) → Int → Int → Int → Int → ByteArray → Option (Int × Int × Int × ByteArray)
  | 0, _, _, _, _, _, _ => none
  | k + 1, x0, x4, x357000, x357001, x357002, x357003 => if x4 < (x0.length : Int) then (if 0 ≤ x4 then ((spec_LessVersion.f k x357000 x357001 x357002 x357003 ((rd_T27 x0 x4).f0) ((rd_T27 x0 x4).f1) ((rd_T27 x0 x4).f2) ((rd_T27 x0 x4).f3)).bind fun t358 => (if t358 = true then (spec_Latest.l0 k x0 (wrap64 (x4 + 1)) ((rd_T27 x0 x4).f0) ((rd_T27 x0 x4).f1) ((rd_T27 x0 x4).f2) ((rd_T27 x0 x4).f3)) else (spec_Latest.l0 k x0 (wrap64 (x4 + 1)) x357000 x357001 x357002 x357003))) else (none)) else (some (x357000, x357001, x357002, x357003))
def spec_Latest.f (k : Nat) (l0 : List (S27)) : Option (Int × Int × Int × ByteArray) := if (l0.length : Int) = 0 then (some (0, 0, 0, (⟨#[]⟩ : ByteArray))) else (if 0 < (l0.length : Int) then (spec_Latest.l0 k l0 1 ((rd_T27 l0 0).f0) ((rd_T27 l0 0).f1) ((rd_T27 l0 0).f2) ((rd_T27 l0 0).f3)) else (none))

end Go.Proofs.YtagbldaiedmikaaDoor.X

/- Lists of versions, the program's way of the latest and the reference's. Plain lemmas. -/
set_option linter.unusedVariables false
namespace Go.Proofs.YtagbldaiedmikaaDoor.Z
open Go.RowKit Go.Proofs.YtagbldaiedmikaaDoorW.PrintWords Go.Proofs.YtagbldaiedmikaaDoorW.PrintMore Go.Proofs.YtagbldaiedmikaaDoor.X Go.Proofs.YtagbldaiedmikaaDoor.Sp
theorem rdV {xs : List S27} {i : Nat} (h : i < xs.length) : rd_T27 xs (i : Int) = xs[i] := by
  unfold rd_T27
  simp [List.getD_eq_getElem?_getD, h]
abbrev V4 := Int × Int × Int × ByteArray
def cmpVV (v : V4) (y : S27) : Int := cmpV v.1 v.2.1 v.2.2.1 v.2.2.2 y.f0 y.f1 y.f2 y.f3
def toV (y : S27) : V4 := (y.f0, y.f1, y.f2, y.f3)
/-- The latest of v and of those of the list. -/
def lat (v : V4) : List S27 → V4
  | [] => v
  | y :: l => lat (if cmpVV v y < 0 then toV y else v) l
theorem lat_l0 (l : List S27) (hn : l.length ≤ 1048576) (hl : ∀ y ∈ l, y.f3.size ≤ 1048576) (d : Nat) : ∀ (i : Nat) (a b c : Int) (p : ByteArray), i + d = l.length → 1 ≤ i → p.size ≤ 1048576 →
    Ev (fun k => impl_Latest.l0 k l (l.length : Int) (i : Int) a b c p) (lat (a, b, c, p) (l.drop i)) ∧ Ev (fun k => spec_Latest.l0 k l (i : Int) a b c p) (lat (a, b, c, p) (l.drop i)) := by
  induction d with
  | zero =>
    intro i a b c p hi h1 hp
    rw [List.drop_eq_nil_of_le (by omega)]
    constructor
    · refine evS (fun k => by rw [impl_Latest.l0]) ?_
      exact evF (by omega) (evR rfl)
    · refine evS (fun k => by rw [spec_Latest.l0]) ?_
      exact evF (by omega) (evR rfl)
  | succ d ih =>
    intro i a b c p hi h1 hp
    have il : i < l.length := by omega
    have hy := hl _ (List.getElem_mem il)
    rw [List.drop_eq_getElem_cons il, lat]
    have lI := less_impl a b c p l[i].f0 l[i].f1 l[i].f2 l[i].f3 hp hy
    have lS := less_spec a b c p l[i].f0 l[i].f1 l[i].f2 l[i].f3 hp hy
    by_cases hc : cmpVV (a, b, c, p) l[i] < 0
    · rw [if_pos hc]
      obtain ⟨q1, q2⟩ := ih (i + 1) l[i].f0 l[i].f1 l[i].f2 l[i].f3 (by omega) (by omega) hy
      have hd : decide (cmpV a b c p l[i].f0 l[i].f1 l[i].f2 l[i].f3 < 0) = true := decide_eq_true hc
      rw [hd] at lI lS
      constructor
      · refine evS (fun k => by rw [impl_Latest.l0]) ?_
        rw [rdV il, w64s il (by omega)]
        exact evT (by omega) (evT (by omega) (evT (by omega) (evF (by omega) (evB lI (evT rfl q1)))))
      · refine evS (fun k => by rw [spec_Latest.l0]) ?_
        rw [rdV il, w64s il (by omega)]
        exact evT (by omega) (evT (by omega) (evB lS (evT rfl q2)))
    · rw [if_neg hc]
      obtain ⟨q1, q2⟩ := ih (i + 1) a b c p (by omega) (by omega) hp
      have hd : decide (cmpV a b c p l[i].f0 l[i].f1 l[i].f2 l[i].f3 < 0) = false := decide_eq_false hc
      rw [hd] at lI lS
      constructor
      · refine evS (fun k => by rw [impl_Latest.l0]) ?_
        rw [rdV il, w64s il (by omega)]
        exact evT (by omega) (evT (by omega) (evT (by omega) (evF (by omega) (evB lI (evF Bool.false_ne_true q1)))))
      · refine evS (fun k => by rw [spec_Latest.l0]) ?_
        rw [rdV il, w64s il (by omega)]
        exact evT (by omega) (evT (by omega) (evB lS (evF Bool.false_ne_true q2)))
/-- The latest. -/
def latest : List S27 → V4
  | [] => (0, 0, 0, ⟨#[]⟩)
  | y :: l => lat (toV y) l
theorem latest_both (l : List S27) (hn : l.length ≤ 1048576) (hl : ∀ y ∈ l, y.f3.size ≤ 1048576) : Ev (fun k => impl_Latest.f k l) (latest l) ∧ Ev (fun k => spec_Latest.f k l) (latest l) := by
  unfold impl_Latest.f spec_Latest.f
  cases hc : l with
  | nil =>
    constructor
    · refine evS (fun k => by rw [impl_Latest.l0]) ?_
      exact evF (by simp) (evR rfl)
    · exact evT rfl (evR rfl)
  | cons y m =>
    rw [← hc]
    have h0 : 0 < l.length := by rw [hc]; simp
    have e0 : l[0] = y := by simp [hc]
    have ed : l.drop 1 = m := by rw [hc]; rfl
    obtain ⟨q1, q2⟩ := lat_l0 l hn hl (l.length - 1) 1 y.f0 y.f1 y.f2 y.f3 (by omega) (Nat.le_refl _) (hl y (by rw [hc]; exact List.mem_cons_self))
    rw [ed] at q1 q2
    have hr : rd_T27 l 0 = y := (rdV (i := 0) h0).trans e0
    have hlat : latest l = lat (y.f0, y.f1, y.f2, y.f3) m := by rw [hc]; rfl
    rw [hlat]
    constructor
    · refine evS (fun k => by rw [impl_Latest.l0]) ?_
      rw [hr, show wrap64 (0 + 1) = ((1 : Nat) : Int) by rw [w64 (by omega)]; rfl]
      exact evT (by omega) (evT (by omega) (evT (by omega) (evT rfl q1)))
    · rw [hr]
      exact evF (by omega) (evT (by omega) q2)
end Go.Proofs.YtagbldaiedmikaaDoor.Z

/- What the reference's draws of one number give. No Go, no memory. -/
set_option linter.unusedVariables false
namespace Go.Proofs.YtagbldaiedmikaaDoor.Z
open Go.RowKit Go.Proofs.YtagbldaiedmikaaDoorW.PrintWords Go.Proofs.YtagbldaiedmikaaDoorW.PrintMore Go.Proofs.YtagbldaiedmikaaDoor.X

theorem and255 (a : Int) : 0 ≤ Go.bits .and .i64 a 255 ∧ Go.bits .and .i64 a 255 ≤ 255 := by
  have h : ((BitVec.ofInt 64 a &&& BitVec.ofInt 64 255).toNat) ≤ 255 := by
    rw [BitVec.toNat_and]
    exact Nat.and_le_right
  have h2 : Go.bits .and .i64 a 255 = IntKind.i64.wrap (((BitVec.ofInt 64 a &&& BitVec.ofInt 64 255).toNat : Nat) : Int) := rfl
  rw [h2, wi64, w64 (by omega)]
  omega
/-- A place of the cursor over l. -/
def At (l : List Int) (i : Int) : Prop := 0 ≤ i ∧ i ≤ l.length
theorem byte_some (l : List Int) (hl : l.length ≤ 140737488355328) (i h : Int) (hi : At l i) : ∃ x i' h', spec_l1Byte.f l i h = some (x, i', h') ∧ 0 ≤ x ∧ x ≤ 255 ∧ At l i' := by
  unfold At at *
  unfold spec_l1Byte.f
  by_cases h1 : i < (l.length : Int)
  · rw [if_pos h1, if_pos hi.1, w64 (x := i + 1) (by omega)]
    exact ⟨_, _, _, rfl, (and255 _).1, (and255 _).2, by omega, by omega⟩
  · rw [if_neg h1]
    exact ⟨_, _, _, rfl, (and255 _).1, (and255 _).2, hi⟩
theorem below_some (l : List Int) (hl : l.length ≤ 140737488355328) (i h n : Int) (hi : At l i) (hn : n ≤ 1000000) : ∃ x i' h', spec_l1Below.f l i h n = some (x, i', h') ∧ 0 ≤ x ∧ (x < n ∨ x = 0) ∧ At l i' := by
  unfold spec_l1Below.f
  by_cases h0 : n ≤ 0
  · rw [if_pos h0]
    exact ⟨_, _, _, rfl, by omega, .inr rfl, hi⟩
  rw [if_neg h0]
  by_cases h1 : n ≤ 256
  · rw [if_pos h1]
    obtain ⟨x, i', h', e, hx0, hx1, hi'⟩ := byte_some l hl i h hi
    rw [e]
    simp only [Option.bind_some]
    rw [if_neg (by omega), Int.tmod_eq_emod_of_nonneg hx0]
    exact ⟨_, _, _, rfl, Int.emod_nonneg _ (by omega), .inl (Int.emod_lt_of_pos _ (by omega)), hi'⟩
  · rw [if_neg h1]
    obtain ⟨x, i1, h1', e1, hx0, hx1, hi1⟩ := byte_some l hl i h hi
    obtain ⟨y, i2, h2', e2, hy0, hy1, hi2⟩ := byte_some l hl i1 h1' hi1
    obtain ⟨z, i3, h3', e3, hz0, hz1, hi3⟩ := byte_some l hl i2 h2' hi2
    rw [e1]
    simp only [Option.bind_some]
    rw [e2]
    simp only [Option.bind_some]
    rw [e3]
    simp only [Option.bind_some]
    rw [if_neg (by omega), w64 (x := x * 65536) (by omega), w64 (x := y * 256) (by omega), w64 (x := x * 65536 + y * 256) (by omega), w64 (x := x * 65536 + y * 256 + z) (by omega), Int.tmod_eq_emod_of_nonneg (by omega)]
    exact ⟨_, _, _, rfl, Int.emod_nonneg _ (by omega), .inl (Int.emod_lt_of_pos _ (by omega)), hi3⟩
theorem int_some (l : List Int) (hl : l.length ≤ 140737488355328) (i h : Int) (m : List Int) (hi : At l i) (hm : 0 < m.length) (hm2 : m.length ≤ 1000) : ∃ x i' h', spec_l1Int.f l i h m = some (x, i', h') ∧ x ∈ m ∧ At l i' := by
  unfold spec_l1Int.f
  obtain ⟨x, i', h', e, hx0, hx1, hi'⟩ := below_some l hl i h (m.length : Int) hi (by omega)
  rw [e]
  simp only [Option.bind_some]
  rw [if_pos hx0, if_pos (by omega)]
  refine ⟨_, _, _, rfl, ?_, hi'⟩
  have := rd_get (l := m) (i := x.toNat) (by omega)
  rw [show ((x.toNat : Nat) : Int) = x by omega] at this
  exact List.mem_of_getElem? this
theorem new_l0 (l : List Int) (hl : l.length ≤ 140737488355328) (d : Nat) : ∀ (j : Nat) (h : Int), j + d = l.length → ∃ h', Ev (fun k => spec_l1New.l0 k l h (j : Int)) (l, 0, h') := by
  induction d with
  | zero =>
    intro j h hj
    exact ⟨h, evS (fun k => by rw [spec_l1New.l0]) (evF (by omega) (evR rfl))⟩
  | succ d ih =>
    intro j h hj
    by_cases h4 : (j : Int) < 4000
    · obtain ⟨h', e⟩ := ih (j + 1) (Go.bits .and .i64 (wrap64 ((wrap64 ((wrap64 (h * 137)) + (wrap64 (rd l (j : Int))))) + 11)) 1073741823) (by omega)
      refine ⟨h', evS (fun k => by rw [spec_l1New.l0]) (evT (by omega) (evT h4 (evT (by omega) ?_)))⟩
      rw [w64s (show j < l.length by omega) (by omega)]
      exact e
    · exact ⟨h, evS (fun k => by rw [spec_l1New.l0]) (evT (by omega) (evF h4 (evR rfl)))⟩
theorem new_some (l : List Int) (hl : l.length ≤ 140737488355328) : ∃ h', Ev (fun k => spec_l1New.f k l) (l, 0, h') := by
  obtain ⟨h', e⟩ := new_l0 l hl l.length 0 (wrap64 (372372 + (l.length : Int))) (by omega)
  exact ⟨h', e⟩
theorem at_zero (l : List Int) : At l 0 := ⟨by omega, by omega⟩

end Go.Proofs.YtagbldaiedmikaaDoor.Z

/- A drawn text. No Go, no memory. -/
set_option linter.unusedVariables false
namespace Go.Proofs.YtagbldaiedmikaaDoor.Z
open Go.RowKit Go.Proofs.YtagbldaiedmikaaDoorW.PrintWords Go.Proofs.YtagbldaiedmikaaDoorW.PrintMore Go.Proofs.YtagbldaiedmikaaDoor.X

theorem str_some (l : List Int) (hl : l.length ≤ 140737488355328) (i h : Int) (m : List ByteArray) (hi : At l i) (hm : 0 < m.length) (hm2 : m.length ≤ 1000) : ∃ x i' h', spec_l1Str.f l i h m = some (x, i', h') ∧ x ∈ m ∧ At l i' := by
  unfold spec_l1Str.f
  obtain ⟨x, i', h', e, hx0, hx1, hi'⟩ := below_some l hl i h (m.length : Int) hi (by omega)
  rw [e]
  simp only [Option.bind_some]
  rw [if_pos hx0, if_pos (by omega)]
  refine ⟨_, _, _, rfl, ?_, hi'⟩
  have := rdOf_get (d := ByteArray.empty) (l := m) (i := x.toNat) (by omega)
  rw [show ((x.toNat : Nat) : Int) = x by omega] at this
  exact List.mem_of_getElem? this
end Go.Proofs.YtagbldaiedmikaaDoor.Z

/- Drawn versions: how they are set in order. Plain lemmas. -/
set_option linter.unusedVariables false
namespace Go.Proofs.YtagbldaiedmikaaDoor.Z
open Go.RowKit Go.Proofs.YtagbldaiedmikaaDoorW.PrintWords Go.Proofs.YtagbldaiedmikaaDoorW.PrintMore Go.Proofs.YtagbldaiedmikaaDoor.X Go.Proofs.YtagbldaiedmikaaDoor.Sp
def pres : List ByteArray := [⟨#[]⟩, ⟨#[]⟩, ⟨#[]⟩, ⟨#[114, 99, 46, 49]⟩, ⟨#[97, 108, 112, 104, 97]⟩, ⟨#[114, 99, 46, 50]⟩, ⟨#[49]⟩, ⟨#[50, 46, 120]⟩, ⟨#[98, 101, 116, 97, 45, 49]⟩, ⟨#[114, 99]⟩]
theorem pres_small : ∀ a ∈ pres, a.size ≤ 8 := by decide +kernel
theorem pres_zero : ∀ a ∈ pres, ∀ b ∈ pres, (cpre a b = 0 ↔ a = b) := by decide +kernel
theorem pres_anti : ∀ a ∈ pres, ∀ b ∈ pres, (0 < cpre a b ↔ cpre b a < 0) := by decide +kernel
theorem pres_trans : ∀ a ∈ pres, ∀ b ∈ pres, ∀ c ∈ pres, cpre a b < 0 → cpre b c < 0 → cpre a c < 0 := by decide +kernel
/-- What is less. -/
def lessV (a0 a1 a2 : Int) (a3 : ByteArray) (b0 b1 b2 : Int) (b3 : ByteArray) : Prop := a0 < b0 ∨ a0 = b0 ∧ (a1 < b1 ∨ a1 = b1 ∧ (a2 < b2 ∨ a2 = b2 ∧ cpre a3 b3 < 0))
theorem cmpV_neg (a0 a1 a2 : Int) (a3 : ByteArray) (b0 b1 b2 : Int) (b3 : ByteArray) : cmpV a0 a1 a2 a3 b0 b1 b2 b3 < 0 ↔ lessV a0 a1 a2 a3 b0 b1 b2 b3 := by
  unfold cmpV lessV
  by_cases h0 : a0 = b0
  · rw [if_pos (cmpI_zero.2 h0)]
    by_cases h1 : a1 = b1
    · rw [if_pos (cmpI_zero.2 h1)]
      by_cases h2 : a2 = b2
      · rw [if_pos (cmpI_zero.2 h2)]
        omega
      · rw [if_neg (fun e => h2 (cmpI_zero.1 e)), cmpI_neg]
        omega
    · rw [if_neg (fun e => h1 (cmpI_zero.1 e)), cmpI_neg]
      omega
  · rw [if_neg (fun e => h0 (cmpI_zero.1 e)), cmpI_neg]
    omega
theorem lessV_self {a0 a1 a2 : Int} {a3 : ByteArray} (ha : a3 ∈ pres) : ¬ lessV a0 a1 a2 a3 a0 a1 a2 a3 := by
  have := (pres_zero a3 ha a3 ha).2 rfl
  unfold lessV
  omega
theorem lessV_one {a0 a1 a2 : Int} {a3 : ByteArray} {b0 b1 b2 : Int} {b3 : ByteArray} (ha : a3 ∈ pres) (hb : b3 ∈ pres) (h : ¬ lessV a0 a1 a2 a3 b0 b1 b2 b3) (h' : ¬ lessV b0 b1 b2 b3 a0 a1 a2 a3) : a0 = b0 ∧ a1 = b1 ∧ a2 = b2 ∧ a3 = b3 := by
  have h1 := pres_anti a3 ha b3 hb
  have h2 := pres_zero a3 ha b3 hb
  unfold lessV at *
  have e : cpre a3 b3 = 0 := by omega
  exact ⟨by omega, by omega, by omega, h2.1 e⟩
theorem lessV_trans {a0 a1 a2 : Int} {a3 : ByteArray} {b0 b1 b2 : Int} {b3 : ByteArray} {c0 c1 c2 : Int} {c3 : ByteArray} (ha : a3 ∈ pres) (hb : b3 ∈ pres) (hc : c3 ∈ pres) (h : lessV a0 a1 a2 a3 b0 b1 b2 b3) (h' : lessV b0 b1 b2 b3 c0 c1 c2 c3) : lessV a0 a1 a2 a3 c0 c1 c2 c3 := by
  have h1 := pres_trans a3 ha b3 hb c3 hc
  unfold lessV at *
  omega
theorem lessV_impl (a0 a1 a2 : Int) (a3 : ByteArray) (b0 b1 b2 : Int) (b3 : ByteArray) (ha : a3.size ≤ 1048576) (hb : b3.size ≤ 1048576) (r : Bool) (h : r = true ↔ lessV a0 a1 a2 a3 b0 b1 b2 b3) :
    Ev (fun k => impl_LessVersion.f k a0 a1 a2 a3 b0 b1 b2 b3) r := by
  refine evE ?_ (less_impl a0 a1 a2 a3 b0 b1 b2 b3 ha hb)
  cases r with
  | true => exact decide_eq_true ((cmpV_neg ..).2 (h.1 rfl))
  | false => exact decide_eq_false (fun e => by have := h.2 ((cmpV_neg ..).1 e); cases this)
theorem draw3_some (l : List Int) (hl : l.length ≤ 140737488355328) (i h : Int) (hi : At l i) : ∃ x y z p i' h', spec_l3Draw.f l i h = some (x, y, z, p, i', h') ∧ 0 ≤ x ∧ x ≤ 2 ∧ 0 ≤ y ∧ y < 4 ∧ 0 ≤ z ∧ z < 3 ∧ p ∈ pres ∧ At l i' := by
  unfold spec_l3Draw.f
  obtain ⟨x, i1, h1, e1, x0, a1⟩ := int_some l hl i h [1, 0, 1, 2] hi (by simp) (by simp)
  obtain ⟨y, i2, h2, e2, y0, y1, a2⟩ := below_some l hl i1 h1 4 a1 (by omega)
  obtain ⟨z, i3, h3, e3, z0, z1, a3⟩ := below_some l hl i2 h2 3 a2 (by omega)
  obtain ⟨p, i4, h4, e4, p0, a4⟩ := str_some l hl i3 h3 pres a3 (by decide) (by decide)
  have e4' := e4
  unfold pres at e4'
  refine ⟨x, y, z, p, i4, h4, ?_, ?_, ?_, y0, by omega, z0, by omega, p0, a4⟩
  · rw [e1]
    simp only [Option.bind_some]
    rw [e2]
    simp only [Option.bind_some]
    rw [e3]
    simp only [Option.bind_some]
    rw [e4']
    rfl
  · simp only [List.mem_cons, List.not_mem_nil, or_false] at x0; omega
  · simp only [List.mem_cons, List.not_mem_nil, or_false] at x0; omega
end Go.Proofs.YtagbldaiedmikaaDoor.Z

/- Of drawn versions none is later than the latest, which is one of them. Plain lemmas. -/
set_option linter.unusedVariables false
namespace Go.Proofs.YtagbldaiedmikaaDoor.Z
open Go.RowKit Go.Proofs.YtagbldaiedmikaaDoorW.PrintWords Go.Proofs.YtagbldaiedmikaaDoorW.PrintMore Go.Proofs.YtagbldaiedmikaaDoor.X Go.Proofs.YtagbldaiedmikaaDoor.Sp
def lessX (v w : V4) : Prop := lessV v.1 v.2.1 v.2.2.1 v.2.2.2 w.1 w.2.1 w.2.2.1 w.2.2.2
theorem lat_max : ∀ (l : List S27) (v : V4), v.2.2.2 ∈ pres → (∀ y ∈ l, y.f3 ∈ pres) →
    (lat v l).2.2.2 ∈ pres ∧ (lat v l = v ∨ ∃ y ∈ l, lat v l = toV y) ∧ ¬ lessX (lat v l) v ∧ ∀ y ∈ l, ¬ lessX (lat v l) (toV y)
  | [], v, hv, _ => ⟨hv, .inl rfl, lessV_self hv, fun y hy => (by cases hy)⟩
  | y :: l, v, hv, hl => by
    have hy : y.f3 ∈ pres := hl y List.mem_cons_self
    have hl' : ∀ z ∈ l, z.f3 ∈ pres := fun z hz => hl z (List.mem_cons_of_mem _ hz)
    have hlt : cmpVV v y < 0 ↔ lessX v (toV y) := cmpV_neg _ _ _ _ _ _ _ _
    rw [lat]
    by_cases hc : cmpVV v y < 0
    · rw [if_pos hc]
      have hvy := hlt.1 hc
      obtain ⟨g, h1, h2, h3⟩ := lat_max l (toV y) hy hl'
      refine ⟨g, .inr ?_, fun h => h2 (lessV_trans g hv hy h hvy), fun z hz => ?_⟩
      · rcases h1 with h1 | ⟨z, hz, h1⟩
        · exact ⟨y, List.mem_cons_self, h1⟩
        · exact ⟨z, List.mem_cons_of_mem _ hz, h1⟩
      · rcases List.mem_cons.1 hz with rfl | hz
        · exact h2
        · exact h3 z hz
    · rw [if_neg hc]
      have hvy : ¬ lessX v (toV y) := fun h => hc (hlt.2 h)
      obtain ⟨g, h1, h2, h3⟩ := lat_max l v hv hl'
      refine ⟨g, ?_, h2, fun z hz => ?_⟩
      · rcases h1 with h1 | ⟨z, hz, h1⟩
        · exact .inl h1
        · exact .inr ⟨z, List.mem_cons_of_mem _ hz, h1⟩
      · rcases List.mem_cons.1 hz with rfl | hz
        · intro h
          by_cases hyv : lessX (toV z) v
          · exact h2 (lessV_trans g hy hv h hyv)
          · obtain ⟨e0, e1, e2, e3⟩ := lessV_one hv hy hvy hyv
            apply h2
            have ev : v = toV z := Prod.ext e0 (Prod.ext e1 (Prod.ext e2 e3))
            rw [ev] at h ⊢
            exact h
        · exact h3 z hz
/-- Drawn versions. -/
theorem drawL_l0 (L : List Int) (hL : L.length ≤ 140737488355328) (d : Nat) : ∀ (out : List S27) (i h : Int), At L i → out.length + d ≤ 1000 → (∀ y ∈ out, y.f3 ∈ pres) →
    ∃ r, Ev (fun k => spec_DrawLatest.l0 k out (d : Int) L i h) r ∧ r.length ≤ out.length + d ∧ ∀ y ∈ r, y.f3 ∈ pres := by
  induction d with
  | zero =>
    intro out i h hi ho hp
    exact ⟨out, evS (fun k => by rw [spec_DrawLatest.l0]) (evF (by omega) (evR rfl)), Nat.le_refl _, hp⟩
  | succ d ih =>
    intro out i h hi ho hp
    obtain ⟨x, y, z, p, i1, h1, e1, _, _, _, _, _, _, hx, a1⟩ := draw3_some L hL i h hi
    obtain ⟨r, q1, q2, q3⟩ := ih (out ++ [(⟨x, y, z, p⟩ : S27)]) i1 h1 a1 (by simp; omega) (fun w hw => by
      rcases List.mem_append.1 hw with hw | hw
      · exact hp w hw
      · rw [List.mem_singleton.1 hw]
        exact hx)
    refine ⟨r, ?_, by simp at q2; omega, q3⟩
    refine evS (fun k => by rw [spec_DrawLatest.l0]) (evT (by omega) (evC e1 ?_))
    have ho' : out.length < 3518437208883 := by omega
    refine evT ho' ?_
    rw [show wrap64 (((d + 1 : Nat) : Int) - 1) = (d : Int) by rw [w64 (by omega)]; omega]
    exact q1
theorem drawL_some (L : List Int) (hL : L.length ≤ 140737488355328) : ∃ r, Ev (fun k => spec_DrawLatest.f k L) r ∧ r.length ≤ 1000 ∧ ∀ y ∈ r, y.f3 ∈ pres := by
  obtain ⟨h0, e0⟩ := new_some L hL
  obtain ⟨n, i1, h1, e1, n0, n1, a1⟩ := below_some L hL 0 h0 6 (at_zero L) (by omega)
  obtain ⟨r, q1, q2, q3⟩ := drawL_l0 L hL n.toNat [] i1 h1 a1 (by simp; omega) (fun y hy => by cases hy)
  rw [show ((n.toNat : Nat) : Int) = n by omega] at q1
  refine ⟨r, ?_, by simp at q2; omega, q3⟩
  unfold spec_DrawLatest.f
  exact evB e0 (evC e1 q1)
end Go.Proofs.YtagbldaiedmikaaDoor.Z

/- Right versions, the program's and the reference's: the same. Plain lemmas. -/
set_option linter.unusedVariables false
namespace Go.Proofs.YtagbldaiedmikaaDoor.Z
open Go.RowKit Go.Proofs.YtagbldaiedmikaaDoorW.PrintWords Go.Proofs.YtagbldaiedmikaaDoorW.PrintMore Go.Proofs.YtagbldaiedmikaaDoor.X Go.Proofs.YtagbldaiedmikaaDoor.Sp
/-- A sign of a part. -/
def pch (b : Int) : Prop := (97 ≤ b ∧ b ≤ 122) ∨ (65 ≤ b ∧ b ≤ 90) ∨ (48 ≤ b ∧ b ≤ 57) ∨ b = 45
instance (b : Int) : Decidable (pch b) := by unfold pch; infer_instance
def pchU (u : UInt8) : Bool := decide (pch (u.toNat : Int))
theorem ev_fig {b : Int} {A : Nat → Option Bool} {r : Bool} (H : (48 ≤ b ∧ b ≤ 57) ∨ b = 45 → Ev A r) (H' : ¬ ((48 ≤ b ∧ b ≤ 57) ∨ b = 45) → r = false) :
    Ev (fun k => (impl_isFigure.f b).bind fun t => if t = true then A k else if b = 45 then A k else some false) r := by
  refine evC (figure_ev b) ?_
  by_cases h : 48 ≤ b ∧ b ≤ 57
  · exact evT (decide_eq_true h) (H (.inl h))
  · refine evF (by simpa using h) ?_
    by_cases h2 : b = 45
    · exact evT h2 (H (.inr h2))
    · exact evF h2 (evR (H' (fun e => e.elim h h2)).symm)
theorem ev_sign {b : Int} {A : Nat → Option Bool} {r : Bool} (H : pch b → Ev A r) (H' : ¬ pch b → r = false) :
    Ev (fun k => if b ≥ 97 then (if b ≤ 122 then A k else (if b ≥ 65 then (if b ≤ 90 then A k else ((impl_isFigure.f b).bind fun t => if t = true then A k else if b = 45 then A k else some false)) else ((impl_isFigure.f b).bind fun t => if t = true then A k else if b = 45 then A k else some false))) else (if b ≥ 65 then (if b ≤ 90 then A k else ((impl_isFigure.f b).bind fun t => if t = true then A k else if b = 45 then A k else some false)) else ((impl_isFigure.f b).bind fun t => if t = true then A k else if b = 45 then A k else some false))) r := by
  have F : (¬ (97 ≤ b ∧ b ≤ 122)) → (¬ (65 ≤ b ∧ b ≤ 90)) → Ev (fun k => (impl_isFigure.f b).bind fun t => if t = true then A k else if b = 45 then A k else some false) r := fun h1 h2 =>
    ev_fig (fun h => H (by unfold pch; omega)) (fun h => H' (by unfold pch; omega))
  have M : (¬ (97 ≤ b ∧ b ≤ 122)) → Ev (fun k => if b ≥ 65 then (if b ≤ 90 then A k else ((impl_isFigure.f b).bind fun t => if t = true then A k else if b = 45 then A k else some false)) else ((impl_isFigure.f b).bind fun t => if t = true then A k else if b = 45 then A k else some false)) r := fun h1 => by
    by_cases h : b ≥ 65
    · refine evT h ?_
      by_cases h2 : b ≤ 90
      · exact evT h2 (H (by unfold pch; omega))
      · exact evF h2 (F h1 (by omega))
    · exact evF h (F h1 (by omega))
  by_cases h : b ≥ 97
  · refine evT h ?_
    by_cases h2 : b ≤ 122
    · exact evT h2 (H (by unfold pch; omega))
    · exact evF h2 (M (by omega))
  · exact evF h (M (by omega))
theorem ev_signS {b : Int} {A : Nat → Option Bool} {r : Bool} (H : pch b → Ev A r) (H' : ¬ pch b → r = false) :
    Ev (fun k => (spec_l1In.f b 97 122).bind fun t => (if t = true then A k else ((spec_l1In.f b 65 90).bind fun t => (if t = true then A k else ((spec_l1In.f b 48 57).bind fun t => (if t = true then A k else (if b = 45 then A k else (some false)))))))) r := by
  refine evC (rng_spec _ _ _) ?_
  by_cases h1 : 97 ≤ b ∧ b ≤ 122
  · exact evT (decide_eq_true h1) (H (by unfold pch; omega))
  refine evF (by simpa using h1) (evC (rng_spec _ _ _) ?_)
  by_cases h2 : 65 ≤ b ∧ b ≤ 90
  · exact evT (decide_eq_true h2) (H (by unfold pch; omega))
  refine evF (by simpa using h2) (evC (rng_spec _ _ _) ?_)
  by_cases h3 : 48 ≤ b ∧ b ≤ 57
  · exact evT (decide_eq_true h3) (H (by unfold pch; omega))
  refine evF (by simpa using h3) ?_
  by_cases h4 : b = 45
  · exact evT h4 (H (by unfold pch; omega))
  · exact evF h4 (evR (H' (by unfold pch; omega)).symm)
/-- A part. -/
def prtE (s : ByteArray) : Bool := decide ((1 : Int) ≤ s.size ∧ (s.size : Int) ≤ 8) && (!figs s || num s)
def prt (s : ByteArray) : Bool := s.data.toList.all pchU && prtE s
theorem prt_l0 (s : ByteArray) (hs : s.size ≤ 1048576) (d : Nat) : ∀ i : Nat, i + d = s.size → Ev (fun k => impl_partOk.l0 k s (i : Int)) ((s.data.toList.drop i).all pchU && prtE s) ∧ Ev (fun k => spec_l3Part.l0 k s (i : Int)) ((s.data.toList.drop i).all pchU && prtE s) := by
  induction d with
  | zero =>
    intro i hi
    rw [List.drop_eq_nil_of_le (show s.data.toList.length ≤ i by rw [data_length]; omega), List.all_nil, Bool.true_and]
    unfold prtE
    constructor
    · refine evS (fun k => by rw [impl_partOk.l0]) (evF (by omega) (evC (rng_impl _ _ _) ?_))
      cases hd : decide ((1 : Int) ≤ s.size ∧ (s.size : Int) ≤ 8) with
      | false => exact evF Bool.false_ne_true (evR rfl)
      | true =>
        refine evT rfl (evB (figs_impl s hs) ?_)
        cases hf : figs s with
        | false => exact evF Bool.false_ne_true (evR rfl)
        | true => exact evT rfl (evB (num_impl s hs) (evR (by simp)))
    · refine evS (fun k => by rw [spec_l3Part.l0]) (evF (by omega) (evC (rng_spec _ _ _) ?_))
      cases hd : decide ((1 : Int) ≤ s.size ∧ (s.size : Int) ≤ 8) with
      | false => exact evF Bool.false_ne_true (evR rfl)
      | true =>
        have h8 := of_decide_eq_true hd
        refine evT rfl (evB (figs_spec s hs) ?_)
        cases hf : figs s with
        | false => exact evF Bool.false_ne_true (evR rfl)
        | true =>
          refine evT rfl (evB (numS_spec s hs) (evR ?_))
          unfold numS short
          rw [decide_eq_true (show s.size ≤ 8 by omega)]
          cases num s with
          | true => simp
          | false => simp
  | succ d ih =>
    intro i hi
    have hl : i < s.data.toList.length := by rw [data_length]; omega
    have hb := byte_at s i (by omega)
    obtain ⟨h1, h2⟩ := ih (i + 1) (by omega)
    have hlt : (s.data.toList[i]).toNat < 256 := UInt8.toNat_lt _
    have he : (s.data.toList.drop i).all pchU = (pchU s.data.toList[i] && (s.data.toList.drop (i + 1)).all pchU) := by
      rw [List.drop_eq_getElem_cons hl]
      rfl
    have hw : wrap64 (((s.data.toList[i]).toNat : Nat) : Int) = (((s.data.toList[i]).toNat : Nat) : Int) := w64 (by omega)
    rw [he]
    have Hp : pch ((s.data.toList[i].toNat : Nat) : Int) → pchU s.data.toList[i] = true := fun h => decide_eq_true h
    have Hn : ¬ pch ((s.data.toList[i].toNat : Nat) : Int) → (pchU s.data.toList[i] && (s.data.toList.drop (i + 1)).all pchU && prtE s) = false := fun h => by
      have : pchU s.data.toList[i] = false := decide_eq_false h
      rw [this]
      rfl
    constructor
    · refine evS (fun k => by rw [impl_partOk.l0]) ?_
      rw [hb, w64s (show i < s.size by omega) (by omega)]
      refine evT (by omega) (evT (by omega) ?_)
      exact ev_sign (fun h => by rw [Hp h, Bool.true_and]; exact h1) Hn
    · refine evS (fun k => by rw [spec_l3Part.l0]) ?_
      rw [hb, hw, w64s (show i < s.size by omega) (by omega)]
      refine evT (by omega) (evT (by omega) ?_)
      exact ev_signS (fun h => by rw [Hp h, Bool.true_and]; exact h2) Hn
theorem prt_impl (s : ByteArray) (hs : s.size ≤ 1048576) : Ev (fun k => impl_partOk.f k s) (prt s) := (prt_l0 s hs s.size 0 (by omega)).1
theorem prt_spec (s : ByteArray) (hs : s.size ≤ 1048576) : Ev (fun k => spec_l3Part.f k s) (prt s) := (prt_l0 s hs s.size 0 (by omega)).2
theorem pre_l0 (l : List ByteArray) (hl : l.length ≤ 1048577) (zl : ∀ x ∈ l, x.size ≤ 1048576) (d : Nat) : ∀ i : Nat, i + d = l.length → Ev (fun k => impl_VersionOk.l0 k l (i : Int)) ((l.drop i).all prt && decide (l.length ≤ 4)) ∧ Ev (fun k => spec_l3Pre.l0 k l (i : Int)) ((l.drop i).all prt && decide (l.length ≤ 4)) := by
  induction d with
  | zero =>
    intro i hi
    rw [List.drop_eq_nil_of_le (by omega), List.all_nil, Bool.true_and]
    have e : decide ((l.length : Int) ≤ 4) = decide (l.length ≤ 4) := decide_eq_decide.2 (by omega)
    constructor
    · refine evS (fun k => by rw [impl_VersionOk.l0]) (evF (by omega) (evR e))
    · refine evS (fun k => by rw [spec_l3Pre.l0]) (evF (by omega) (evR e))
  | succ d ih =>
    intro i hi
    have il : i < l.length := by omega
    have gl : rdOf ByteArray.empty l (i : Int) = l[i] := by
      have := rdOf_get (d := ByteArray.empty) il
      rw [List.getElem?_eq_getElem il] at this
      exact (Option.some.inj this).symm
    have hz := zl _ (List.getElem_mem il)
    obtain ⟨h1, h2⟩ := ih (i + 1) (by omega)
    have he : (l.drop i).all prt = (prt l[i] && (l.drop (i + 1)).all prt) := by
      rw [List.drop_eq_getElem_cons il]
      rfl
    rw [he]
    have p1 := prt_impl l[i] hz
    have p2 := prt_spec l[i] hz
    cases hp : prt l[i] with
    | true =>
      rw [hp] at p1 p2
      rw [Bool.true_and]
      constructor
      · refine evS (fun k => by rw [impl_VersionOk.l0]) ?_
        rw [gl, w64s il (by omega)]
        exact evT (by omega) (evT (by omega) (evB p1 (evT rfl h1)))
      · refine evS (fun k => by rw [spec_l3Pre.l0]) ?_
        rw [gl, w64s il (by omega)]
        exact evT (by omega) (evT (by omega) (evB p2 (evT rfl h2)))
    | false =>
      rw [hp] at p1 p2
      constructor
      · refine evS (fun k => by rw [impl_VersionOk.l0]) ?_
        rw [gl]
        exact evT (by omega) (evT (by omega) (evB p1 (evF Bool.false_ne_true (evR rfl))))
      · refine evS (fun k => by rw [spec_l3Pre.l0]) ?_
        rw [gl]
        exact evT (by omega) (evT (by omega) (evB p2 (evF Bool.false_ne_true (evR rfl))))
def pre (p : ByteArray) : Bool := (pieces 46 p).all prt && decide ((pieces 46 p).length ≤ 4)
def in6 (a : Int) : Bool := decide (0 ≤ a ∧ a ≤ 1000000)
def verOk (a b c : Int) (p : ByteArray) : Bool := in6 a && (in6 b && (in6 c && (decide (p.size = 0) || pre p)))
theorem nil_iff' (s : ByteArray) : s.toList = ([] : List UInt8) ↔ s.size = 0 := by
  rw [tl]
  have := data_length s
  constructor
  · intro e; rw [e] at this; simpa using this.symm
  · intro e; exact List.eq_nil_of_length_eq_zero (by omega)
theorem verOk_both (a b c : Int) (p : ByteArray) (hp : p.size ≤ 1048576) : Ev (fun k => impl_VersionOk.f k a b c p) (verOk a b c p) ∧ Ev (fun k => spec_VersionOk.f k a b c p) (verOk a b c p) := by
  have hc := pieces_count 46 p
  obtain ⟨l1, l2⟩ := pre_l0 (pieces 46 p) (by omega) (fun x hx => by have := pieces_mem 46 p x hx; omega) _ 0 (Nat.zero_add _)
  rw [List.drop_zero] at l1 l2
  have hS : Ev (fun k => spec_l3Split.f k p 46) (pieces 46 p) := split_spec p hp 46
  have hI : strings_Split.f p (⟨#[46]⟩ : ByteArray) = some (pieces 46 p) := by
    unfold strings_Split.f
    rw [if_pos ⟨by omega, rfl⟩]
    rfl
  have tI : Ev (fun k => impl_VersionOk.f0 k p) (decide (p.size = 0) || pre p) := by
    unfold impl_VersionOk.f0
    by_cases h : p.size = 0
    · exact evT ((nil_iff' p).2 h) (evR (by rw [decide_eq_true h]; rfl))
    · refine evF (fun e => h ((nil_iff' p).1 e)) (evC hI ?_)
      rw [decide_eq_false h, Bool.false_or]
      exact l1
  have tS : Ev (fun k => if p.toList = ([] : List UInt8) then (some true) else ((spec_l3Pre.f k p).bind fun t146 => (some t146))) (decide (p.size = 0) || pre p) := by
    by_cases h : p.size = 0
    · exact evT ((nil_iff' p).2 h) (evR (by rw [decide_eq_true h]; rfl))
    · refine evF (fun e => h ((nil_iff' p).1 e)) ?_
      rw [decide_eq_false h, Bool.false_or]
      refine evB ?_ (evR rfl)
      unfold spec_l3Pre.f
      exact evB hS l2
  unfold verOk
  constructor
  · unfold impl_VersionOk.f
    refine evC (rng_impl _ _ _) ?_
    show Ev (fun k => if in6 a = true then _ else _) _
    cases in6 a with
    | false => exact evF Bool.false_ne_true (evR rfl)
    | true =>
      refine evT rfl ?_
      unfold impl_VersionOk.f2
      refine evC (rng_impl _ _ _) ?_
      show Ev (fun k => if in6 b = true then _ else _) _
      cases in6 b with
      | false => exact evF Bool.false_ne_true (evR rfl)
      | true =>
        refine evT rfl ?_
        unfold impl_VersionOk.f1
        refine evC (rng_impl _ _ _) ?_
        show Ev (fun k => if in6 c = true then _ else _) _
        cases in6 c with
        | false => exact evF Bool.false_ne_true (evR rfl)
        | true => exact evT rfl tI
  · unfold spec_VersionOk.f
    refine evC (rng_spec _ _ _) ?_
    show Ev (fun k => if in6 a = true then _ else _) _
    cases in6 a with
    | false => exact evF Bool.false_ne_true (evR rfl)
    | true =>
      refine evT rfl (evC (rng_spec _ _ _) ?_)
      show Ev (fun k => if in6 b = true then _ else _) _
      cases in6 b with
      | false => exact evF Bool.false_ne_true (evR rfl)
      | true =>
        refine evT rfl (evC (rng_spec _ _ _) ?_)
        show Ev (fun k => if in6 c = true then _ else _) _
        cases in6 c with
        | false => exact evF Bool.false_ne_true (evR rfl)
        | true => exact evT rfl tS
end Go.Proofs.YtagbldaiedmikaaDoor.Z

/- The next version, the program's way. Plain lemmas. -/
set_option linter.unusedVariables false
namespace Go.Proofs.YtagbldaiedmikaaDoor.Z
open Go.RowKit Go.Proofs.YtagbldaiedmikaaDoorW.PrintWords Go.Proofs.YtagbldaiedmikaaDoorW.PrintMore Go.Proofs.YtagbldaiedmikaaDoor.X Go.Proofs.YtagbldaiedmikaaDoor.Sp
def stepV (a b c : Int) (p : ByteArray) (x y z : Int) : Int × Int × Int × ByteArray := if verOk a b c p = true then (if verOk x y z (⟨#[]⟩ : ByteArray) = true then (x, y, z, (⟨#[]⟩ : ByteArray)) else (a, b, c, p)) else (a, b, c, p)
def bumpW (a b c : Int) (p : ByteArray) (n : Int) : Int × Int × Int × ByteArray :=
  if n = 0 then stepV a b c p (wrap64 (a + 1)) 0 0 else if n = 1 then stepV a b c p a (wrap64 (b + 1)) 0 else if n = 2 then stepV a b c p a b (wrap64 (c + 1)) else (a, b, c, p)
theorem bump_impl (a b c : Int) (p : ByteArray) (n : Int) (hp : p.size ≤ 1048576) : Ev (fun k => impl_Bump.f k a b c p n) (bumpW a b c p n) := by
  obtain ⟨vI, vS⟩ := verOk_both a b c p hp
  have J : ∀ x y z : Int, Ev (fun k => impl_Bump.j0 k a b c p x y z (⟨#[]⟩ : ByteArray)) (stepV a b c p x y z) := by
    intro x y z
    obtain ⟨wI, _⟩ := verOk_both x y z (⟨#[]⟩ : ByteArray) (by decide)
    unfold stepV
    refine evS (fun k => by rw [impl_Bump.j0]) (evB vI ?_)
    cases verOk a b c p with
    | false => exact evF Bool.false_ne_true (evR rfl)
    | true =>
      refine evT rfl (evB wI ?_)
      cases verOk x y z (⟨#[]⟩ : ByteArray) with
      | false => exact evF Bool.false_ne_true (evR rfl)
      | true => exact evT rfl (evR rfl)
  unfold impl_Bump.f bumpW
  by_cases h0 : n = 0
  · rw [if_pos h0]; exact evT h0 (J _ _ _)
  rw [if_neg h0]
  by_cases h1 : n = 1
  · rw [if_pos h1]; exact evF h0 (evT h1 (J _ _ _))
  rw [if_neg h1]
  by_cases h2 : n = 2
  · rw [if_pos h2]; exact evF h0 (evF h1 (evT h2 (J _ _ _)))
  rw [if_neg h2]
  exact evF h0 (evF h1 (evF h2 (evR rfl)))
end Go.Proofs.YtagbldaiedmikaaDoor.Z

/- The next version, the program's way and the reference's. Plain lemmas. -/
set_option linter.unusedVariables false
namespace Go.Proofs.YtagbldaiedmikaaDoor.Z
open Go.RowKit Go.Proofs.YtagbldaiedmikaaDoorW.PrintWords Go.Proofs.YtagbldaiedmikaaDoorW.PrintMore Go.Proofs.YtagbldaiedmikaaDoor.X Go.Proofs.YtagbldaiedmikaaDoor.Sp
theorem bump_spec (a b c : Int) (p : ByteArray) (n : Int) (hp : p.size ≤ 1048576) : Ev (fun k => spec_Bump.f k a b c p n) (bumpW a b c p n) := by
  obtain ⟨vI, vS⟩ := verOk_both a b c p hp
  have K : ∀ x y z : Int, verOk a b c p = true → Ev (fun k => spec_Bump.g k a b c p x y z) (stepV a b c p x y z) := by
    intro x y z hv
    obtain ⟨_, wS⟩ := verOk_both x y z (⟨#[]⟩ : ByteArray) (by decide)
    unfold stepV spec_Bump.g
    rw [if_pos hv]
    refine evB wS ?_
    cases verOk x y z (⟨#[]⟩ : ByteArray) with
    | false => exact evF Bool.false_ne_true (evR rfl)
    | true => exact evT rfl (evR rfl)
  unfold spec_Bump.f
  refine evB vS ?_
  cases hv : verOk a b c p with
  | false =>
    have e : bumpW a b c p n = (a, b, c, p) := by
      unfold bumpW stepV
      rw [hv]
      simp
    rw [e]
    exact evF Bool.false_ne_true (evR rfl)
  | true =>
    refine evT rfl ?_
    unfold bumpW
    by_cases h0 : n = 0
    · rw [if_pos h0]; exact evT h0 (K _ _ _ hv)
    rw [if_neg h0]
    by_cases h1 : n = 1
    · rw [if_pos h1]; exact evF h0 (evT h1 (K _ _ _ hv))
    rw [if_neg h1]
    by_cases h2 : n = 2
    · rw [if_pos h2]; exact evF h0 (evF h1 (evT h2 (K _ _ _ hv)))
    rw [if_neg h2]
    exact evF h0 (evF h1 (evF h2 (evR rfl)))
end Go.Proofs.YtagbldaiedmikaaDoor.Z

/- Drawn versions that may be wrong, and drawn texts. Plain lemmas. -/

set_option linter.unusedVariables false
namespace Go.Proofs.YtagbldaiedmikaaDoor.Z
open Go.RowKit Go.Proofs.YtagbldaiedmikaaDoorW.PrintWords Go.Proofs.YtagbldaiedmikaaDoorW.PrintMore Go.Proofs.YtagbldaiedmikaaDoor.X
theorem three_small : ∀ p ∈ ([(⟨#[]⟩ : ByteArray), (⟨#[]⟩ : ByteArray), (⟨#[]⟩ : ByteArray), (⟨#[114, 99, 46, 49]⟩ : ByteArray), (⟨#[97, 108, 112, 104, 97]⟩ : ByteArray), (⟨#[114, 99, 46, 50]⟩ : ByteArray), (⟨#[49]⟩ : ByteArray), (⟨#[50, 46, 120]⟩ : ByteArray), (⟨#[98, 101, 116, 97, 45, 49]⟩ : ByteArray), (⟨#[114, 99]⟩ : ByteArray)] : List ByteArray), p.size ≤ 100 := by decide +kernel
theorem any_small : ∀ p ∈ ([(⟨#[46]⟩ : ByteArray), (⟨#[48, 49]⟩ : ByteArray), (⟨#[97, 46, 46, 98]⟩ : ByteArray), (⟨#[97, 46, 98, 46, 99, 46, 100]⟩ : ByteArray), (⟨#[97, 46, 98, 46, 99, 46, 100, 46, 101]⟩ : ByteArray), (⟨#[110, 105, 110, 101, 98, 121, 116, 101, 115]⟩ : ByteArray), (⟨#[195, 169]⟩ : ByteArray), (⟨#[48]⟩ : ByteArray), (⟨#[97, 95, 98]⟩ : ByteArray)] : List ByteArray), p.size ≤ 100 := by decide +kernel
theorem draw3_small (l : List Int) (hl : l.length ≤ 140737488355328) (i h : Int) (hi : At l i) : ∃ x y z p i' h', spec_l3Draw.f l i h = some (x, y, z, p, i', h') ∧ 0 ≤ x ∧ x ≤ 2 ∧ 0 ≤ y ∧ y < 4 ∧ 0 ≤ z ∧ z < 3 ∧ p.size ≤ 100 ∧ At l i' := by
  unfold spec_l3Draw.f
  obtain ⟨x, i1, h1, e1, x0, a1⟩ := int_some l hl i h [1, 0, 1, 2] hi (by simp) (by simp)
  obtain ⟨y, i2, h2, e2, y0, y1, a2⟩ := below_some l hl i1 h1 4 a1 (by omega)
  obtain ⟨z, i3, h3, e3, z0, z1, a3⟩ := below_some l hl i2 h2 3 a2 (by omega)
  obtain ⟨p, i4, h4, e4, p0, a4⟩ := str_some l hl i3 h3 ([(⟨#[]⟩ : ByteArray), (⟨#[]⟩ : ByteArray), (⟨#[]⟩ : ByteArray), (⟨#[114, 99, 46, 49]⟩ : ByteArray), (⟨#[97, 108, 112, 104, 97]⟩ : ByteArray), (⟨#[114, 99, 46, 50]⟩ : ByteArray), (⟨#[49]⟩ : ByteArray), (⟨#[50, 46, 120]⟩ : ByteArray), (⟨#[98, 101, 116, 97, 45, 49]⟩ : ByteArray), (⟨#[114, 99]⟩ : ByteArray)]) a3 (by decide) (by decide)
  refine ⟨x, y, z, p, i4, h4, ?_, ?_, ?_, y0, by omega, z0, by omega, ?_, a4⟩
  · rw [e1]
    simp only [Option.bind_some]
    rw [e2]
    simp only [Option.bind_some]
    rw [e3]
    simp only [Option.bind_some]
    rw [e4]
    rfl
  · simp only [List.mem_cons, List.not_mem_nil, or_false] at x0; omega
  · simp only [List.mem_cons, List.not_mem_nil, or_false] at x0; omega
  · exact three_small p p0
theorem any3_some (l : List Int) (hl : l.length ≤ 140737488355328) (i h : Int) (hi : At l i) : ∃ x y z p i' h', spec_l3Any.f l i h = some (x, y, z, p, i', h') ∧ p.size ≤ 100 ∧ At l i' := by
  obtain ⟨x, y, z, p, i1, h1, e1, _, _, _, _, _, _, p0, a1⟩ := draw3_small l hl i h hi
  obtain ⟨n, i2, h2, e2, _, _, a2⟩ := below_some l hl i1 h1 12 a1 (by omega)
  obtain ⟨q, i3, h3, e3, q0, a3⟩ := int_some l hl i2 h2 [(-1), 1000000, 1000001] a2 (by simp) (by simp)
  obtain ⟨t, i4, h4, e4, t0, a4⟩ := str_some l hl i2 h2 ([(⟨#[46]⟩ : ByteArray), (⟨#[48, 49]⟩ : ByteArray), (⟨#[97, 46, 46, 98]⟩ : ByteArray), (⟨#[97, 46, 98, 46, 99, 46, 100]⟩ : ByteArray), (⟨#[97, 46, 98, 46, 99, 46, 100, 46, 101]⟩ : ByteArray), (⟨#[110, 105, 110, 101, 98, 121, 116, 101, 115]⟩ : ByteArray), (⟨#[195, 169]⟩ : ByteArray), (⟨#[48]⟩ : ByteArray), (⟨#[97, 95, 98]⟩ : ByteArray)]) a2 (by decide) (by decide)
  have t1 : t.size ≤ 100 := any_small t t0
  unfold spec_l3Any.f
  rw [e1]
  simp only [Option.bind_some]
  rw [e2]
  simp only [Option.bind_some]
  by_cases c0 : n = 0
  · rw [if_pos c0, e3]
    exact ⟨_, _, _, _, _, _, rfl, p0, a3⟩
  · rw [if_neg c0]
    by_cases c1 : n = 1
    · rw [if_pos c1, e4]
      exact ⟨_, _, _, _, _, _, rfl, t1, a4⟩
    · rw [if_neg c1]
      by_cases c2 : n = 2
      · rw [if_pos c2, e3]
        exact ⟨_, _, _, _, _, _, rfl, p0, a3⟩
      · rw [if_neg c2]
        exact ⟨_, _, _, _, _, _, rfl, p0, a2⟩
end Go.Proofs.YtagbldaiedmikaaDoor.Z

/- The law FnLatest, as a plain statement: no drawn version is later than the latest, which is one of them; what is bumped is later. Conditions: those of the row's reading alone. -/
namespace Go.Proofs.YtagbldaiedmikaaDoor.Pure
open Go.RowKit Go.Proofs.YtagbldaiedmikaaDoor.X Go.Proofs.YtagbldaiedmikaaDoor.Z Go.Proofs.YtagbldaiedmikaaDoorW.PrintWords Go.Proofs.YtagbldaiedmikaaDoorW.PrintLast
theorem drawB_some (l : List Int) (hl : l.length ≤ 140737488355328) : ∃ a b c p n, Ev (fun k => spec_DrawBump.f k l) (a, b, c, p, n) ∧ p.size ≤ 100 := by
  obtain ⟨h0, e0⟩ := new_some l hl
  obtain ⟨a, b, c, p, i1, h1, e1, hp, a1⟩ := any3_some l hl 0 h0 (at_zero l)
  obtain ⟨n, i2, h2, e2, _, _⟩ := int_some l hl i1 h1 [0, 1, 2, 3, (-1)] a1 (by simp) (by simp)
  unfold spec_DrawBump.f
  exact ⟨a, b, c, p, n, evB e0 (evC e1 (evC e2 (evR rfl))), hp⟩
/-- What is one step on: the same; or a right one of a right one. -/
theorem step_two (a b c : Int) (p : ByteArray) (x y z : Int) : stepV a b c p x y z = (a, b, c, p) ∨ stepV a b c p x y z = (x, y, z, (⟨#[]⟩ : ByteArray)) ∧ verOk x y z (⟨#[]⟩ : ByteArray) = true ∧ verOk a b c p = true := by
  unfold stepV
  split
  · split
    · exact .inr ⟨rfl, by assumption, by assumption⟩
    · exact .inl rfl
  · exact .inl rfl
theorem ok_in {a b c : Int} {p : ByteArray} (h : verOk a b c p = true) : (0 ≤ a ∧ a ≤ 1000000) ∧ (0 ≤ b ∧ b ≤ 1000000) ∧ (0 ≤ c ∧ c ≤ 1000000) := by
  unfold verOk in6 at h
  simp only [Bool.and_eq_true, decide_eq_true_eq] at h
  exact ⟨h.1, h.2.1, h.2.2.1⟩
/-- A bumped version: the same, or a later right one that is out. -/
theorem bump_two (a b c : Int) (p : ByteArray) (n : Int) : bumpW a b c p n = (a, b, c, p) ∨
    ∃ x y z : Int, bumpW a b c p n = (x, y, z, (⟨#[]⟩ : ByteArray)) ∧ verOk x y z (⟨#[]⟩ : ByteArray) = true ∧ lessV a b c p x y z (⟨#[]⟩ : ByteArray) := by
  unfold bumpW
  by_cases h0 : n = 0
  · rw [if_pos h0]
    rcases step_two a b c p (wrap64 (a + 1)) 0 0 with h | ⟨h, h1, h2⟩
    · exact .inl h
    · have := ok_in h2
      rw [w64 (x := a + 1) (by omega)] at h h1 ⊢
      exact .inr ⟨_, _, _, h, h1, .inl (by omega)⟩
  rw [if_neg h0]
  by_cases h1 : n = 1
  · rw [if_pos h1]
    rcases step_two a b c p a (wrap64 (b + 1)) 0 with h | ⟨h, h1, h2⟩
    · exact .inl h
    · have := ok_in h2
      rw [w64 (x := b + 1) (by omega)] at h h1 ⊢
      exact .inr ⟨_, _, _, h, h1, .inr ⟨rfl, .inl (by omega)⟩⟩
  rw [if_neg h1]
  by_cases h2 : n = 2
  · rw [if_pos h2]
    rcases step_two a b c p a b (wrap64 (c + 1)) with h | ⟨h, h1, h2⟩
    · exact .inl h
    · have := ok_in h2
      rw [w64 (x := c + 1) (by omega)] at h h1 ⊢
      exact .inr ⟨_, _, _, h, h1, .inr ⟨rfl, .inr ⟨rfl, .inl (by omega)⟩⟩⟩
  rw [if_neg h2]
  exact .inl rfl
theorem eq_flag (v : V4) (y : S27) (h : toV y = v) : (y.f0 == v.1 && (y.f1 == v.2.1 && (y.f2 == v.2.2.1 && (y.f3.toList == v.2.2.2.toList)))) = true := by
  subst h
  simp [toV]
/-- The law's loop, the latest at hand. -/
theorem loop_l0 (code : List Int) (l : List S27) (v : V4) (hn : l.length ≤ 1000) (hv : v.2.2.2 ∈ pres) (hl : ∀ y ∈ l, y.f3 ∈ pres) (hmax : ∀ y ∈ l, ¬ lessX v (toV y))
    (hend : Ev (fun k => laws_FnLatest.l0 k code l true (l.length : Int) v.1 v.2.1 v.2.2.1 v.2.2.2) true) (d : Nat) : ∀ (i : Nat) (is : Bool), i + d = l.length → (is = true ∨ ∃ y ∈ l.drop i, toV y = v) →
    Ev (fun k => laws_FnLatest.l0 k code l is (i : Int) v.1 v.2.1 v.2.2.1 v.2.2.2) true := by
  induction d with
  | zero =>
    intro i is hi h
    have e : is = true := by
      rcases h with h | ⟨y, hy, _⟩
      · exact h
      · rw [List.drop_eq_nil_of_le (by omega)] at hy
        cases hy
    rw [e, show (i : Int) = (l.length : Int) by omega]
    exact hend
  | succ d ih =>
    intro i is hi h
    have il : i < l.length := by omega
    have hm := List.getElem_mem il
    have z1 := pres_small _ hv
    have z2 := pres_small _ (hl _ hm)
    have hle := lessV_impl v.1 v.2.1 v.2.2.1 v.2.2.2 l[i].f0 l[i].f1 l[i].f2 l[i].f3 (by omega) (by omega) false ⟨fun e => (by cases e), fun e => absurd e (hmax _ hm)⟩
    refine evS (fun k => by rw [laws_FnLatest.l0]) ?_
    rw [rdV il, w64s il (by omega)]
    refine evT (by omega) (evT (by omega) (evB hle (evF Bool.false_ne_true ?_)))
    cases is with
    | true => exact evT rfl (ih (i + 1) true (by omega) (.inl rfl))
    | false =>
      refine evF Bool.false_ne_true (ih (i + 1) _ (by omega) ?_)
      rcases h with h | ⟨y, hy, hyv⟩
      · cases h
      · rw [List.drop_eq_getElem_cons il] at hy
        rcases List.mem_cons.1 hy with rfl | hy
        · exact .inl (eq_flag v _ hyv)
        · exact .inr ⟨y, hy, hyv⟩
theorem FnLatest : laws_FnLatest.Pure := by
  intro l0 h1 h2 h3
  refine Ev.rounds ?_
  unfold laws_FnLatest.f
  refine evC (by unfold laws_big.f; rfl) (evI (fun _ => evR rfl) (fun hl' => ?_))
  obtain ⟨l, hD, hn, hp⟩ := drawL_some l0 (by omega)
  obtain ⟨lI, _⟩ := latest_both l (by omega) (fun y hy => by have := pres_small _ (hp y hy); omega)
  have hnil : (⟨#[]⟩ : ByteArray) ∈ pres := List.mem_cons_self
  have hM : (latest l).2.2.2 ∈ pres ∧ (∀ y ∈ l, ¬ lessX (latest l) (toV y)) ∧ (l = [] ∨ ∃ y ∈ l, toV y = latest l) := by
    cases l with
    | nil => exact ⟨hnil, fun y hy => (by cases hy), .inl rfl⟩
    | cons y m =>
      obtain ⟨g, q1, q2, q3⟩ := lat_max m (toV y) (hp y List.mem_cons_self) (fun z hz => hp z (List.mem_cons_of_mem _ hz))
      refine ⟨g, fun z hz => ?_, .inr ?_⟩
      · rcases List.mem_cons.1 hz with rfl | hz
        · exact q2
        · exact q3 z hz
      · rcases q1 with q1 | ⟨z, hz, q1⟩
        · exact ⟨y, List.mem_cons_self, q1.symm⟩
        · exact ⟨z, List.mem_cons_of_mem _ hz, q1.symm⟩
  obtain ⟨m1, m2, m3⟩ := hM
  refine evB hD (evB lI ?_)
  obtain ⟨a, b, c, p, n, hB, hz⟩ := drawB_some l0 (by omega)
  have bI := bump_impl a b c p n (by omega)
  have bS := bump_spec a b c p n (by omega)
  have hend : Ev (fun k => laws_FnLatest.l0 k l0 l true (l.length : Int) (latest l).1 (latest l).2.1 (latest l).2.2.1 (latest l).2.2.2) true := by
    refine evS (fun k => by rw [laws_FnLatest.l0]) (evF (by omega) (evB hB (evB bI (evT rfl (evB bS ?_)))))
    refine evT (by simp) ?_
    rcases bump_two a b c p n with h | ⟨x, y, z, h, o1, hless⟩
    · rw [h]
      exact evT (by simp) (evR rfl)
    · rw [h]
      refine evI (fun _ => evR rfl) (fun _ => ?_)
      have hli : Ev (fun k => impl_LessVersion.f k a b c p x y z (⟨#[]⟩ : ByteArray)) true := by
        refine evE ?_ (less_impl a b c p x y z (⟨#[]⟩ : ByteArray) (by omega) (by decide))
        exact decide_eq_true ((cmpV_neg ..).2 hless)
      have hok := (verOk_both x y z (⟨#[]⟩ : ByteArray) (by decide)).1
      rw [o1] at hok
      refine evB hli (evT rfl (evB hok (evT rfl (evR ?_))))
      show ((⟨#[]⟩ : ByteArray).toList == ([] : List UInt8)) = true
      rw [(nil_iff' _).2 rfl]
      rfl
  have hloop := fun is h => loop_l0 l0 l (latest l) hn m1 hp m2 hend l.length 0 is (by omega) h
  rw [List.drop_zero] at hloop
  by_cases h0 : (l.length : Int) = 0
  · refine evT h0 ?_
    refine evS (fun k => by rw [laws_FnLatest.j0]) ?_
    have hl0 : l = [] := List.eq_nil_of_length_eq_zero (by omega)
    refine hloop _ (.inl ?_)
    rw [hl0]
    show ((0 : Int) == 0 && ((0 : Int) == 0 && ((0 : Int) == 0 && ((⟨#[]⟩ : ByteArray).toList == ([] : List UInt8))))) = true
    rw [(nil_iff' _).2 rfl]
    rfl
  · refine evF h0 ?_
    refine evS (fun k => by rw [laws_FnLatest.j0]) ?_
    refine hloop false (.inr ?_)
    rcases m3 with m3 | m3
    · rw [m3] at h0
      exact absurd rfl h0
    · exact m3
end Go.Proofs.YtagbldaiedmikaaDoor.Pure

/- Values that come in as data (strings' slices, structs, slices of structs, nested) are of the printer's kinds: one lemma a make of type. Plain lemmas for the rows of laws over such parameters. No conditions beyond what each lemma names. -/
set_option linter.unusedVariables false
namespace Go.Proofs.YtagbldaiedmikaaDoor.Y
open Go.RowKit Go.Proofs.YtagbldaiedmikaaDoorW.PrintWords Go.ChangeShapes Go.WideShapes Go.Deep




end Go.Proofs.YtagbldaiedmikaaDoor.Y

/- Three closed facts of the rows of this seat (how the program may be entered), by the first words of the translation's head row. No conditions. -/
namespace Go.Proofs.YtagbldaiedmikaaDoor.Y
open Go.ChangeShapes Go.WideShapes Go.ChangeAt Go.RowKit
def tailSigns : List Char := [Char.ofNat 108, Char.ofNat 111, Char.ofNat 111, Char.ofNat 112, Char.ofNat 46, Char.ofNat 101, Char.ofNat 120, Char.ofNat 97, Char.ofNat 109, Char.ofNat 112, Char.ofNat 108, Char.ofNat 101, Char.ofNat 47, Char.ofNat 103, Char.ofNat 48, Char.ofNat 48, Char.ofNat 50, Char.ofNat 51, Char.ofNat 51, Char.ofNat 47, Char.ofNat 108, Char.ofNat 97, Char.ofNat 119, Char.ofNat 115, Char.ofNat 46, Char.ofNat 70, Char.ofNat 110, Char.ofNat 69, Char.ofNat 120, Char.ofNat 97, Char.ofNat 99, Char.ofNat 116, Char.ofNat 80, Char.ofNat 97, Char.ofNat 116, Char.ofNat 104, Char.ofNat 79, Char.ofNat 107, Char.ofNat 32, Char.ofNat 108, Char.ofNat 111, Char.ofNat 111, Char.ofNat 112, Char.ofNat 46, Char.ofNat 101, Char.ofNat 120, Char.ofNat 97, Char.ofNat 109, Char.ofNat 112, Char.ofNat 108, Char.ofNat 101, Char.ofNat 47, Char.ofNat 103, Char.ofNat 48, Char.ofNat 48, Char.ofNat 50, Char.ofNat 51, Char.ofNat 51, Char.ofNat 47, Char.ofNat 108, Char.ofNat 97, Char.ofNat 119, Char.ofNat 115, Char.ofNat 46, Char.ofNat 70, Char.ofNat 110, Char.ofNat 69, Char.ofNat 120, Char.ofNat 97, Char.ofNat 99, Char.ofNat 116, Char.ofNat 86, Char.ofNat 101, Char.ofNat 114, Char.ofNat 115, Char.ofNat 105, Char.ofNat 111, Char.ofNat 110, Char.ofNat 79, Char.ofNat 107, Char.ofNat 32, Char.ofNat 108, Char.ofNat 111, Char.ofNat 111, Char.ofNat 112, Char.ofNat 46, Char.ofNat 101, Char.ofNat 120, Char.ofNat 97, Char.ofNat 109, Char.ofNat 112, Char.ofNat 108, Char.ofNat 101, Char.ofNat 47, Char.ofNat 103, Char.ofNat 48, Char.ofNat 48, Char.ofNat 50, Char.ofNat 51, Char.ofNat 51, Char.ofNat 47, Char.ofNat 108, Char.ofNat 97, Char.ofNat 119, Char.ofNat 115, Char.ofNat 46, Char.ofNat 70, Char.ofNat 110, Char.ofNat 69, Char.ofNat 120, Char.ofNat 97, Char.ofNat 99, Char.ofNat 116, Char.ofNat 66, Char.ofNat 117, Char.ofNat 109, Char.ofNat 112, Char.ofNat 32, Char.ofNat 108, Char.ofNat 111, Char.ofNat 111, Char.ofNat 112, Char.ofNat 46, Char.ofNat 101, Char.ofNat 120, Char.ofNat 97, Char.ofNat 109, Char.ofNat 112, Char.ofNat 108, Char.ofNat 101, Char.ofNat 47, Char.ofNat 103, Char.ofNat 48, Char.ofNat 48, Char.ofNat 50, Char.ofNat 51, Char.ofNat 51, Char.ofNat 47, Char.ofNat 108, Char.ofNat 97, Char.ofNat 119, Char.ofNat 115, Char.ofNat 46, Char.ofNat 70, Char.ofNat 110, Char.ofNat 69, Char.ofNat 120, Char.ofNat 97, Char.ofNat 99, Char.ofNat 116, Char.ofNat 76, Char.ofNat 101, Char.ofNat 115, Char.ofNat 115, Char.ofNat 86, Char.ofNat 101, Char.ofNat 114, Char.ofNat 115, Char.ofNat 105, Char.ofNat 111, Char.ofNat 110, Char.ofNat 32, Char.ofNat 108, Char.ofNat 111, Char.ofNat 111, Char.ofNat 112, Char.ofNat 46, Char.ofNat 101, Char.ofNat 120, Char.ofNat 97, Char.ofNat 109, Char.ofNat 112, Char.ofNat 108, Char.ofNat 101, Char.ofNat 47, Char.ofNat 103, Char.ofNat 48, Char.ofNat 48, Char.ofNat 50, Char.ofNat 51, Char.ofNat 51, Char.ofNat 47, Char.ofNat 108, Char.ofNat 97, Char.ofNat 119, Char.ofNat 115, Char.ofNat 46, Char.ofNat 70, Char.ofNat 110, Char.ofNat 80, Char.ofNat 114, Char.ofNat 101, Char.ofNat 32, Char.ofNat 108, Char.ofNat 111, Char.ofNat 111, Char.ofNat 112, Char.ofNat 46, Char.ofNat 101, Char.ofNat 120, Char.ofNat 97, Char.ofNat 109, Char.ofNat 112, Char.ofNat 108, Char.ofNat 101, Char.ofNat 47, Char.ofNat 103, Char.ofNat 48, Char.ofNat 48, Char.ofNat 50, Char.ofNat 51, Char.ofNat 51, Char.ofNat 47, Char.ofNat 108, Char.ofNat 97, Char.ofNat 119, Char.ofNat 115, Char.ofNat 46, Char.ofNat 70, Char.ofNat 110, Char.ofNat 79, Char.ofNat 114, Char.ofNat 100, Char.ofNat 101, Char.ofNat 114, Char.ofNat 32, Char.ofNat 108, Char.ofNat 111, Char.ofNat 111, Char.ofNat 112, Char.ofNat 46, Char.ofNat 101, Char.ofNat 120, Char.ofNat 97, Char.ofNat 109, Char.ofNat 112, Char.ofNat 108, Char.ofNat 101, Char.ofNat 47, Char.ofNat 103, Char.ofNat 48, Char.ofNat 48, Char.ofNat 50, Char.ofNat 51, Char.ofNat 51, Char.ofNat 47, Char.ofNat 108, Char.ofNat 97, Char.ofNat 119, Char.ofNat 115, Char.ofNat 46, Char.ofNat 70, Char.ofNat 110, Char.ofNat 69, Char.ofNat 120, Char.ofNat 97, Char.ofNat 99, Char.ofNat 116, Char.ofNat 76, Char.ofNat 97, Char.ofNat 116, Char.ofNat 101, Char.ofNat 115, Char.ofNat 116, Char.ofNat 32, Char.ofNat 108, Char.ofNat 111, Char.ofNat 111, Char.ofNat 112, Char.ofNat 46, Char.ofNat 101, Char.ofNat 120, Char.ofNat 97, Char.ofNat 109, Char.ofNat 112, Char.ofNat 108, Char.ofNat 101, Char.ofNat 47, Char.ofNat 103, Char.ofNat 48, Char.ofNat 48, Char.ofNat 50, Char.ofNat 51, Char.ofNat 51, Char.ofNat 47, Char.ofNat 108, Char.ofNat 97, Char.ofNat 119, Char.ofNat 115, Char.ofNat 46, Char.ofNat 70, Char.ofNat 110, Char.ofNat 76, Char.ofNat 97, Char.ofNat 116, Char.ofNat 101, Char.ofNat 115, Char.ofNat 116, Char.ofNat 32, Char.ofNat 108, Char.ofNat 111, Char.ofNat 111, Char.ofNat 112, Char.ofNat 46, Char.ofNat 101, Char.ofNat 120, Char.ofNat 97, Char.ofNat 109, Char.ofNat 112, Char.ofNat 108, Char.ofNat 101, Char.ofNat 47, Char.ofNat 103, Char.ofNat 48, Char.ofNat 48, Char.ofNat 50, Char.ofNat 51, Char.ofNat 51, Char.ofNat 47, Char.ofNat 108, Char.ofNat 97, Char.ofNat 119, Char.ofNat 115, Char.ofNat 46, Char.ofNat 70, Char.ofNat 110, Char.ofNat 69, Char.ofNat 120, Char.ofNat 97, Char.ofNat 99, Char.ofNat 116, Char.ofNat 86, Char.ofNat 101, Char.ofNat 114, Char.ofNat 115, Char.ofNat 105, Char.ofNat 111, Char.ofNat 110, Char.ofNat 84, Char.ofNat 101, Char.ofNat 120, Char.ofNat 116, Char.ofNat 32, Char.ofNat 108, Char.ofNat 111, Char.ofNat 111, Char.ofNat 112, Char.ofNat 46, Char.ofNat 101, Char.ofNat 120, Char.ofNat 97, Char.ofNat 109, Char.ofNat 112, Char.ofNat 108, Char.ofNat 101, Char.ofNat 47, Char.ofNat 103, Char.ofNat 48, Char.ofNat 48, Char.ofNat 50, Char.ofNat 51, Char.ofNat 51, Char.ofNat 47, Char.ofNat 108, Char.ofNat 97, Char.ofNat 119, Char.ofNat 115, Char.ofNat 46, Char.ofNat 70, Char.ofNat 110, Char.ofNat 69, Char.ofNat 120, Char.ofNat 97, Char.ofNat 99, Char.ofNat 116, Char.ofNat 77, Char.ofNat 97, Char.ofNat 106, Char.ofNat 111, Char.ofNat 114, Char.ofNat 79, Char.ofNat 102, Char.ofNat 32, Char.ofNat 108, Char.ofNat 111, Char.ofNat 111, Char.ofNat 112, Char.ofNat 46, Char.ofNat 101, Char.ofNat 120, Char.ofNat 97, Char.ofNat 109, Char.ofNat 112, Char.ofNat 108, Char.ofNat 101, Char.ofNat 47, Char.ofNat 103, Char.ofNat 48, Char.ofNat 48, Char.ofNat 50, Char.ofNat 51, Char.ofNat 51, Char.ofNat 47, Char.ofNat 108, Char.ofNat 97, Char.ofNat 119, Char.ofNat 115, Char.ofNat 46, Char.ofNat 70, Char.ofNat 110, Char.ofNat 69, Char.ofNat 120, Char.ofNat 97, Char.ofNat 99, Char.ofNat 116, Char.ofNat 66, Char.ofNat 97, Char.ofNat 115, Char.ofNat 101, Char.ofNat 32, Char.ofNat 108, Char.ofNat 111, Char.ofNat 111, Char.ofNat 112, Char.ofNat 46, Char.ofNat 101, Char.ofNat 120, Char.ofNat 97, Char.ofNat 109, Char.ofNat 112, Char.ofNat 108, Char.ofNat 101, Char.ofNat 47, Char.ofNat 103, Char.ofNat 48, Char.ofNat 48, Char.ofNat 50, Char.ofNat 51, Char.ofNat 51, Char.ofNat 47, Char.ofNat 108, Char.ofNat 97, Char.ofNat 119, Char.ofNat 115, Char.ofNat 46, Char.ofNat 70, Char.ofNat 110, Char.ofNat 69, Char.ofNat 120, Char.ofNat 97, Char.ofNat 99, Char.ofNat 116, Char.ofNat 80, Char.ofNat 97, Char.ofNat 114, Char.ofNat 115, Char.ofNat 101, Char.ofNat 86, Char.ofNat 101, Char.ofNat 114, Char.ofNat 115, Char.ofNat 105, Char.ofNat 111, Char.ofNat 110]
set_option maxRecDepth 100000 in
theorem initOrder_lit : Tryd.pinned.checked.prog.initOrder = "harness 8854c4987ba7e5863879e1c1f3e5572041dc37068018b6f4d5d9faa1d5368be2 cut at loop.example/g00233/laws.FnExactPathOk loop.example/g00233/laws.FnExactVersionOk loop.example/g00233/laws.FnExactBump loop.example/g00233/laws.FnExactLessVersion loop.example/g00233/laws.FnPre loop.example/g00233/laws.FnOrder loop.example/g00233/laws.FnExactLatest loop.example/g00233/laws.FnLatest loop.example/g00233/laws.FnExactVersionText loop.example/g00233/laws.FnExactMajorOf loop.example/g00233/laws.FnExactBase loop.example/g00233/laws.FnExactParseVersion" := by kernel_rfl
set_option maxRecDepth 100000 in
theorem lit_list : ("harness 8854c4987ba7e5863879e1c1f3e5572041dc37068018b6f4d5d9faa1d5368be2 cut at loop.example/g00233/laws.FnExactPathOk loop.example/g00233/laws.FnExactVersionOk loop.example/g00233/laws.FnExactBump loop.example/g00233/laws.FnExactLessVersion loop.example/g00233/laws.FnPre loop.example/g00233/laws.FnOrder loop.example/g00233/laws.FnExactLatest loop.example/g00233/laws.FnLatest loop.example/g00233/laws.FnExactVersionText loop.example/g00233/laws.FnExactMajorOf loop.example/g00233/laws.FnExactBase loop.example/g00233/laws.FnExactParseVersion" : String) = String.ofList (Char.ofNat 104 :: Char.ofNat 97 :: Char.ofNat 114 :: Char.ofNat 110 :: Char.ofNat 101 :: Char.ofNat 115 :: Char.ofNat 115 :: Char.ofNat 32 :: Char.ofNat 56 :: Char.ofNat 56 :: Char.ofNat 53 :: Char.ofNat 52 :: Char.ofNat 99 :: Char.ofNat 52 :: Char.ofNat 57 :: Char.ofNat 56 :: Char.ofNat 55 :: Char.ofNat 98 :: Char.ofNat 97 :: Char.ofNat 55 :: Char.ofNat 101 :: Char.ofNat 53 :: Char.ofNat 56 :: Char.ofNat 54 :: Char.ofNat 51 :: Char.ofNat 56 :: Char.ofNat 55 :: Char.ofNat 57 :: Char.ofNat 101 :: Char.ofNat 49 :: Char.ofNat 99 :: Char.ofNat 49 :: Char.ofNat 102 :: Char.ofNat 51 :: Char.ofNat 101 :: Char.ofNat 53 :: Char.ofNat 53 :: Char.ofNat 55 :: Char.ofNat 50 :: Char.ofNat 48 :: Char.ofNat 52 :: Char.ofNat 49 :: Char.ofNat 100 :: Char.ofNat 99 :: Char.ofNat 51 :: Char.ofNat 55 :: Char.ofNat 48 :: Char.ofNat 54 :: Char.ofNat 56 :: Char.ofNat 48 :: Char.ofNat 49 :: Char.ofNat 56 :: Char.ofNat 98 :: Char.ofNat 54 :: Char.ofNat 102 :: Char.ofNat 52 :: Char.ofNat 100 :: Char.ofNat 53 :: Char.ofNat 100 :: Char.ofNat 57 :: Char.ofNat 102 :: Char.ofNat 97 :: Char.ofNat 97 :: Char.ofNat 49 :: Char.ofNat 100 :: Char.ofNat 53 :: Char.ofNat 51 :: Char.ofNat 54 :: Char.ofNat 56 :: Char.ofNat 98 :: Char.ofNat 101 :: Char.ofNat 50 :: Char.ofNat 32 :: Char.ofNat 99 :: Char.ofNat 117 :: Char.ofNat 116 :: Char.ofNat 32 :: Char.ofNat 97 :: Char.ofNat 116 :: Char.ofNat 32 :: tailSigns) := by kernel_rfl
theorem initOrder_list : Tryd.pinned.checked.prog.initOrder.toList = Char.ofNat 104 :: Char.ofNat 97 :: Char.ofNat 114 :: Char.ofNat 110 :: Char.ofNat 101 :: Char.ofNat 115 :: Char.ofNat 115 :: Char.ofNat 32 :: Char.ofNat 56 :: Char.ofNat 56 :: Char.ofNat 53 :: Char.ofNat 52 :: Char.ofNat 99 :: Char.ofNat 52 :: Char.ofNat 57 :: Char.ofNat 56 :: Char.ofNat 55 :: Char.ofNat 98 :: Char.ofNat 97 :: Char.ofNat 55 :: Char.ofNat 101 :: Char.ofNat 53 :: Char.ofNat 56 :: Char.ofNat 54 :: Char.ofNat 51 :: Char.ofNat 56 :: Char.ofNat 55 :: Char.ofNat 57 :: Char.ofNat 101 :: Char.ofNat 49 :: Char.ofNat 99 :: Char.ofNat 49 :: Char.ofNat 102 :: Char.ofNat 51 :: Char.ofNat 101 :: Char.ofNat 53 :: Char.ofNat 53 :: Char.ofNat 55 :: Char.ofNat 50 :: Char.ofNat 48 :: Char.ofNat 52 :: Char.ofNat 49 :: Char.ofNat 100 :: Char.ofNat 99 :: Char.ofNat 51 :: Char.ofNat 55 :: Char.ofNat 48 :: Char.ofNat 54 :: Char.ofNat 56 :: Char.ofNat 48 :: Char.ofNat 49 :: Char.ofNat 56 :: Char.ofNat 98 :: Char.ofNat 54 :: Char.ofNat 102 :: Char.ofNat 52 :: Char.ofNat 100 :: Char.ofNat 53 :: Char.ofNat 100 :: Char.ofNat 57 :: Char.ofNat 102 :: Char.ofNat 97 :: Char.ofNat 97 :: Char.ofNat 49 :: Char.ofNat 100 :: Char.ofNat 53 :: Char.ofNat 51 :: Char.ofNat 54 :: Char.ofNat 56 :: Char.ofNat 98 :: Char.ofNat 101 :: Char.ofNat 50 :: Char.ofNat 32 :: Char.ofNat 99 :: Char.ofNat 117 :: Char.ofNat 116 :: Char.ofNat 32 :: Char.ofNat 97 :: Char.ofNat 116 :: Char.ofNat 32 :: tailSigns := (congrArg String.toList (initOrder_lit.trans lit_list)).trans String.toList_ofList
theorem words_at (r : List Char) : wordsSigns (Char.ofNat 104 :: Char.ofNat 97 :: Char.ofNat 114 :: Char.ofNat 110 :: Char.ofNat 101 :: Char.ofNat 115 :: Char.ofNat 115 :: Char.ofNat 32 :: Char.ofNat 56 :: Char.ofNat 56 :: Char.ofNat 53 :: Char.ofNat 52 :: Char.ofNat 99 :: Char.ofNat 52 :: Char.ofNat 57 :: Char.ofNat 56 :: Char.ofNat 55 :: Char.ofNat 98 :: Char.ofNat 97 :: Char.ofNat 55 :: Char.ofNat 101 :: Char.ofNat 53 :: Char.ofNat 56 :: Char.ofNat 54 :: Char.ofNat 51 :: Char.ofNat 56 :: Char.ofNat 55 :: Char.ofNat 57 :: Char.ofNat 101 :: Char.ofNat 49 :: Char.ofNat 99 :: Char.ofNat 49 :: Char.ofNat 102 :: Char.ofNat 51 :: Char.ofNat 101 :: Char.ofNat 53 :: Char.ofNat 53 :: Char.ofNat 55 :: Char.ofNat 50 :: Char.ofNat 48 :: Char.ofNat 52 :: Char.ofNat 49 :: Char.ofNat 100 :: Char.ofNat 99 :: Char.ofNat 51 :: Char.ofNat 55 :: Char.ofNat 48 :: Char.ofNat 54 :: Char.ofNat 56 :: Char.ofNat 48 :: Char.ofNat 49 :: Char.ofNat 56 :: Char.ofNat 98 :: Char.ofNat 54 :: Char.ofNat 102 :: Char.ofNat 52 :: Char.ofNat 100 :: Char.ofNat 53 :: Char.ofNat 100 :: Char.ofNat 57 :: Char.ofNat 102 :: Char.ofNat 97 :: Char.ofNat 97 :: Char.ofNat 49 :: Char.ofNat 100 :: Char.ofNat 53 :: Char.ofNat 51 :: Char.ofNat 54 :: Char.ofNat 56 :: Char.ofNat 98 :: Char.ofNat 101 :: Char.ofNat 50 :: Char.ofNat 32 :: Char.ofNat 99 :: Char.ofNat 117 :: Char.ofNat 116 :: Char.ofNat 32 :: Char.ofNat 97 :: Char.ofNat 116 :: Char.ofNat 32 :: r) = [Char.ofNat 104, Char.ofNat 97, Char.ofNat 114, Char.ofNat 110, Char.ofNat 101, Char.ofNat 115, Char.ofNat 115] :: [Char.ofNat 56, Char.ofNat 56, Char.ofNat 53, Char.ofNat 52, Char.ofNat 99, Char.ofNat 52, Char.ofNat 57, Char.ofNat 56, Char.ofNat 55, Char.ofNat 98, Char.ofNat 97, Char.ofNat 55, Char.ofNat 101, Char.ofNat 53, Char.ofNat 56, Char.ofNat 54, Char.ofNat 51, Char.ofNat 56, Char.ofNat 55, Char.ofNat 57, Char.ofNat 101, Char.ofNat 49, Char.ofNat 99, Char.ofNat 49, Char.ofNat 102, Char.ofNat 51, Char.ofNat 101, Char.ofNat 53, Char.ofNat 53, Char.ofNat 55, Char.ofNat 50, Char.ofNat 48, Char.ofNat 52, Char.ofNat 49, Char.ofNat 100, Char.ofNat 99, Char.ofNat 51, Char.ofNat 55, Char.ofNat 48, Char.ofNat 54, Char.ofNat 56, Char.ofNat 48, Char.ofNat 49, Char.ofNat 56, Char.ofNat 98, Char.ofNat 54, Char.ofNat 102, Char.ofNat 52, Char.ofNat 100, Char.ofNat 53, Char.ofNat 100, Char.ofNat 57, Char.ofNat 102, Char.ofNat 97, Char.ofNat 97, Char.ofNat 49, Char.ofNat 100, Char.ofNat 53, Char.ofNat 51, Char.ofNat 54, Char.ofNat 56, Char.ofNat 98, Char.ofNat 101, Char.ofNat 50] :: [Char.ofNat 99, Char.ofNat 117, Char.ofNat 116] :: [Char.ofNat 97, Char.ofNat 116] :: wordsSigns r := by kernel_rfl
theorem behind_at (t : List (List Char)) : behindMainWord ([Char.ofNat 104, Char.ofNat 97, Char.ofNat 114, Char.ofNat 110, Char.ofNat 101, Char.ofNat 115, Char.ofNat 115] :: [Char.ofNat 56, Char.ofNat 56, Char.ofNat 53, Char.ofNat 52, Char.ofNat 99, Char.ofNat 52, Char.ofNat 57, Char.ofNat 56, Char.ofNat 55, Char.ofNat 98, Char.ofNat 97, Char.ofNat 55, Char.ofNat 101, Char.ofNat 53, Char.ofNat 56, Char.ofNat 54, Char.ofNat 51, Char.ofNat 56, Char.ofNat 55, Char.ofNat 57, Char.ofNat 101, Char.ofNat 49, Char.ofNat 99, Char.ofNat 49, Char.ofNat 102, Char.ofNat 51, Char.ofNat 101, Char.ofNat 53, Char.ofNat 53, Char.ofNat 55, Char.ofNat 50, Char.ofNat 48, Char.ofNat 52, Char.ofNat 49, Char.ofNat 100, Char.ofNat 99, Char.ofNat 51, Char.ofNat 55, Char.ofNat 48, Char.ofNat 54, Char.ofNat 56, Char.ofNat 48, Char.ofNat 49, Char.ofNat 56, Char.ofNat 98, Char.ofNat 54, Char.ofNat 102, Char.ofNat 52, Char.ofNat 100, Char.ofNat 53, Char.ofNat 100, Char.ofNat 57, Char.ofNat 102, Char.ofNat 97, Char.ofNat 97, Char.ofNat 49, Char.ofNat 100, Char.ofNat 53, Char.ofNat 51, Char.ofNat 54, Char.ofNat 56, Char.ofNat 98, Char.ofNat 101, Char.ofNat 50] :: [Char.ofNat 99, Char.ofNat 117, Char.ofNat 116] :: [Char.ofNat 97, Char.ofNat 116] :: t) = [Char.ofNat 99, Char.ofNat 117, Char.ofNat 116] :: [Char.ofNat 97, Char.ofNat 116] :: t := by kernel_rfl
theorem behind_all : behindMainWord (wordsSigns Tryd.pinned.checked.prog.initOrder.toList) = [Char.ofNat 99, Char.ofNat 117, Char.ofNat 116] :: [Char.ofNat 97, Char.ofNat 116] :: wordsSigns tailSigns := by rw [initOrder_list, words_at, behind_at]
theorem make_of (c : List Char) (rest : List (List Char)) (P : Program) (h0 : (c == "gc".toList) = false) (h1 : (c == "spec".toList) = false) (h2 : (c == "cut".toList) = true) (h : behindMainWord (wordsSigns P.initOrder.toList) = c :: rest) : P.make = some .cut := by
  unfold Program.make
  rw [h]
  simp only [h0, h1, h2]
  rfl
theorem mayEnter_of (c : List Char) (rest : List (List Char)) (P : Program) (h0 : (c == "gc".toList) = false) (h1 : (c == "spec".toList) = false) (h2 : (c == "carried".toList) = false) (h : behindMainWord (wordsSigns P.initOrder.toList) = c :: rest)
    (h3 : ((stripLifts liftWords (c :: rest)).2.head? == some "cut".toList) = true) (h4 : P.laysLater = false) (h5 : P.bearsReflect = false) (h6 : P.doorFits (stripLifts liftWords (c :: rest)).1 = true) (h7 : (stripLifts liftWords (c :: rest)).1.contains "leanrows" = false) : P.mayEnter = true := by
  unfold Program.mayEnter
  rw [h]
  simp only [h0, h1, h2, h3, h4, h5, h6, h7]
  simp
theorem liftsFinal_of (c : List Char) (rest : List (List Char)) (P : Program) (h2 : (some c == some "carried".toList) = false) (h : behindMainWord (wordsSigns P.initOrder.toList) = c :: rest)
    (h3 : ((stripLifts liftWords (c :: rest)).2.head? == some "cut".toList) = true) (h7 : (stripLifts liftWords (c :: rest)).1.contains "finals" = false) : P.liftsFinal = false := by
  unfold Program.liftsFinal Program.headLifts
  rw [h]
  simp only [List.head?_cons, h2, h3, if_true, h7, Bool.false_and, Bool.or_self]
theorem strip_at (t : List (List Char)) : stripLifts liftWords ([Char.ofNat 99, Char.ofNat 117, Char.ofNat 116] :: [Char.ofNat 97, Char.ofNat 116] :: t) = ([], [Char.ofNat 99, Char.ofNat 117, Char.ofNat 116] :: [Char.ofNat 97, Char.ofNat 116] :: t) := by kernel_rfl
theorem laysLater_at : Tryd.pinned.checked.prog.laysLater = false := by kernel_rfl
theorem bearsReflect_at : Tryd.pinned.checked.prog.bearsReflect = false := by kernel_rfl
theorem doorFits_at : Tryd.pinned.checked.prog.doorFits [] = true := by kernel_rfl
theorem mayEnter_at : Tryd.pinned.checked.prog.mayEnter = true :=
  mayEnter_of _ _ _ (by kernel_rfl) (by kernel_rfl) (by kernel_rfl) behind_all (by rw [strip_at]; generalize wordsSigns tailSigns = t; kernel_rfl) laysLater_at bearsReflect_at (by rw [strip_at]; exact doorFits_at) (by rw [strip_at]; rfl)
theorem liftsFinal_at : Tryd.pinned.checked.prog.liftsFinal = false :=
  liftsFinal_of _ _ _ (by kernel_rfl) behind_all (by rw [strip_at]; generalize wordsSigns tailSigns = t; kernel_rfl) (by rw [strip_at]; rfl)
theorem make_at : Tryd.pinned.checked.prog.make = some .cut := make_of _ _ _ (by kernel_rfl) (by kernel_rfl) (by kernel_rfl) behind_all
end Go.Proofs.YtagbldaiedmikaaDoor.Y

/- A world for the witnesses: the settled one, the listed tables holding what their initialisers lay. No conditions. -/
namespace Go.Proofs.YtagbldaiedmikaaDoor.Y
open Go.ChangeShapes Go.WideShapes Go.ChangeAt Go.RowKit
noncomputable def laidWorld (os : Os) : World :=
  { World.holding Tryd.prog os ⟨#[], #[], []⟩ with heap := ((((((((((World.holding Tryd.prog os ⟨#[], #[], []⟩).heap).modify 1 (fun o => match o with | .cells _ t z => .cells #[Value.int .u64 1, Value.int .u64 10, Value.int .u64 100, Value.int .u64 1000, Value.int .u64 10000, Value.int .u64 100000, Value.int .u64 1000000, Value.int .u64 10000000, Value.int .u64 100000000, Value.int .u64 1000000000, Value.int .u64 10000000000, Value.int .u64 100000000000, Value.int .u64 1000000000000, Value.int .u64 10000000000000, Value.int .u64 100000000000000, Value.int .u64 1000000000000000, Value.int .u64 10000000000000000, Value.int .u64 100000000000000000, Value.int .u64 1000000000000000000, Value.int .u64 10000000000000000000] t z | o => o)).modify 4 (fun o => match o with | .cells _ t z => .cells ((Go.Pinned.utf8FirstZ.map fun (n : Nat) => Value.int .u8 (n : Int)).toArray) t z | o => o)).modify 5 (fun o => match o with | .cells _ t z => .cells #[Value.int .u8 128, Value.int .u8 191, Value.int .u8 160, Value.int .u8 191, Value.int .u8 128, Value.int .u8 159, Value.int .u8 144, Value.int .u8 191, Value.int .u8 128, Value.int .u8 143, Value.int .u8 0, Value.int .u8 0, Value.int .u8 0, Value.int .u8 0, Value.int .u8 0, Value.int .u8 0, Value.int .u8 0, Value.int .u8 0, Value.int .u8 0, Value.int .u8 0, Value.int .u8 0, Value.int .u8 0, Value.int .u8 0, Value.int .u8 0, Value.int .u8 0, Value.int .u8 0, Value.int .u8 0, Value.int .u8 0, Value.int .u8 0, Value.int .u8 0, Value.int .u8 0, Value.int .u8 0] t z | o => o)).modify 6 (fun o => match o with | .cells _ t z => .cells #[Value.int .u8 0, Value.int .u8 1, Value.int .u8 28, Value.int .u8 2, Value.int .u8 29, Value.int .u8 14, Value.int .u8 24, Value.int .u8 3, Value.int .u8 30, Value.int .u8 22, Value.int .u8 20, Value.int .u8 15, Value.int .u8 25, Value.int .u8 17, Value.int .u8 4, Value.int .u8 8, Value.int .u8 31, Value.int .u8 27, Value.int .u8 13, Value.int .u8 23, Value.int .u8 21, Value.int .u8 19, Value.int .u8 16, Value.int .u8 7, Value.int .u8 26, Value.int .u8 12, Value.int .u8 18, Value.int .u8 6, Value.int .u8 11, Value.int .u8 5, Value.int .u8 10, Value.int .u8 9] t z | o => o)).modify 7 (fun o => match o with | .cells _ t z => .cells #[Value.int .u8 0, Value.int .u8 1, Value.int .u8 56, Value.int .u8 2, Value.int .u8 57, Value.int .u8 49, Value.int .u8 28, Value.int .u8 3, Value.int .u8 61, Value.int .u8 58, Value.int .u8 42, Value.int .u8 50, Value.int .u8 38, Value.int .u8 29, Value.int .u8 17, Value.int .u8 4, Value.int .u8 62, Value.int .u8 47, Value.int .u8 59, Value.int .u8 36, Value.int .u8 45, Value.int .u8 43, Value.int .u8 51, Value.int .u8 22, Value.int .u8 53, Value.int .u8 39, Value.int .u8 33, Value.int .u8 30, Value.int .u8 24, Value.int .u8 18, Value.int .u8 12, Value.int .u8 5, Value.int .u8 63, Value.int .u8 55, Value.int .u8 48, Value.int .u8 27, Value.int .u8 60, Value.int .u8 41, Value.int .u8 37, Value.int .u8 16, Value.int .u8 46, Value.int .u8 35, Value.int .u8 44, Value.int .u8 21, Value.int .u8 52, Value.int .u8 32, Value.int .u8 23, Value.int .u8 11, Value.int .u8 54, Value.int .u8 26, Value.int .u8 40, Value.int .u8 15, Value.int .u8 34, Value.int .u8 20, Value.int .u8 31, Value.int .u8 10, Value.int .u8 25, Value.int .u8 14, Value.int .u8 19, Value.int .u8 9, Value.int .u8 13, Value.int .u8 8, Value.int .u8 7, Value.int .u8 6] t z | o => o)).modify 2 (fun o => match o with | .cells _ t z => .cells #[Value.iface 130 (.pointer (some ⟨(World.holding Tryd.prog os ⟨#[], #[], []⟩).heap.size + 0, 0, none⟩))] t z | o => o)).push (.cells #[Value.string ⟨#[105, 110, 118, 97, 108, 105, 100, 32, 115, 121, 110, 116, 97, 120]⟩] 132 (0, 0))).modify 3 (fun o => match o with | .cells _ t z => .cells #[Value.iface 130 (.pointer (some ⟨(World.holding Tryd.prog os ⟨#[], #[], []⟩).heap.size + 1, 0, none⟩))] t z | o => o)).push (.cells #[Value.string ⟨#[118, 97, 108, 117, 101, 32, 111, 117, 116, 32, 111, 102, 32, 114, 97, 110, 103, 101]⟩] 132 (0, 0)) }
end Go.Proofs.YtagbldaiedmikaaDoor.Y
