/- The law FnExactParseName, as a plain statement: the program's ParseName answers as the reference's. Conditions: those of the row's reading alone. -/
/- Part 10 of 11 of this claim's texts. -/
import Derived.Deep.Slices
import Derived.ChangeArms
import Derived.WideShapes
import Derived.DataReads
import Derived.Test.YtkofdkinaahbpaaDoorRows
import Derived.WalkKit
import Derived.ProofKit
import Derived.Test.YtkofdkinaahbpaaDoorCFnExactParseName0
import Derived.Test.YtkofdkinaahbpaaDoorCFnExactParseName1
import Derived.Test.YtkofdkinaahbpaaDoorCFnExactParseName2
import Derived.Test.YtkofdkinaahbpaaDoorCFnExactParseName3
import Derived.Test.YtkofdkinaahbpaaDoorCFnExactParseName4
import Derived.Test.YtkofdkinaahbpaaDoorCFnExactParseName5
import Derived.Test.YtkofdkinaahbpaaDoorCFnExactParseName6
import Derived.Test.YtkofdkinaahbpaaDoorCFnExactParseName7
import Derived.Test.YtkofdkinaahbpaaDoorCFnExactParseName8
/- A version's text, the program's and the reference's: the same. Plain lemmas. -/
set_option linter.unusedVariables false
namespace Go.Proofs.YtkofdkinaahbpaaDoor.Z
open Go.RowKit Go.Proofs.YtkofdkinaahbpaaDoorW.PrintWords Go.Proofs.YtkofdkinaahbpaaDoorW.PrintMore Go.Proofs.YtkofdkinaahbpaaDoor.X Go.Proofs.YtkofdkinaahbpaaDoor.Sp
def dB (a : Int) : ByteArray := ⟨(Lib.decDigits a.toNat).toArray⟩
theorem nd7 : ∀ n : Nat, n < 10000000 → Lib.nDigits n ≤ 7 := by
  intro n h
  have s : ∀ (m d : Nat), Lib.nDigits (m / 10) ≤ d → Lib.nDigits m ≤ d + 1 := by
    intro m d hm
    rw [Lib.nDigits]
    split <;> omega
  have b : Lib.nDigits (n / 10 / 10 / 10 / 10 / 10 / 10) ≤ 1 := by
    rw [Lib.nDigits, dif_pos (by omega)]
    exact Nat.le_refl _
  exact s _ _ (s _ _ (s _ _ (s _ _ (s _ _ (s _ _ b)))))
theorem dB_size (a : Int) (h : a ≤ 1000000) : (dB a).size ≤ 7 := by
  show (Lib.decDigits a.toNat).toArray.size ≤ 7
  rw [List.size_toArray, Lib.decDigits_length]
  exact nd7 _ (by omega)
def verT (a b c : Int) (p : ByteArray) : ByteArray :=
  if p.size = 0 then ((((((⟨#[118]⟩ : ByteArray) ++ dB a) ++ (⟨#[46]⟩ : ByteArray)) ++ dB b) ++ (⟨#[46]⟩ : ByteArray)) ++ dB c) else ((((((⟨#[118]⟩ : ByteArray) ++ dB a) ++ (⟨#[46]⟩ : ByteArray)) ++ dB b) ++ (⟨#[46]⟩ : ByteArray)) ++ dB c) ++ ((⟨#[45]⟩ : ByteArray) ++ p)
def verText (a b c : Int) (p : ByteArray) : ByteArray := if verOk a b c p = true then verT a b c p else ⟨#[]⟩
theorem verOk_in {a b c : Int} {p : ByteArray} (h : verOk a b c p = true) : (0 ≤ a ∧ a ≤ 1000000) ∧ (0 ≤ b ∧ b ≤ 1000000) ∧ (0 ≤ c ∧ c ≤ 1000000) := by
  unfold verOk in6 at h
  simp only [Bool.and_eq_true, decide_eq_true_eq] at h
  exact ⟨h.1, h.2.1, h.2.2.1⟩
theorem itoa_dB (a : Int) (h : 0 ≤ a ∧ a ≤ 1000000) : strconv_Itoa.f a = some (dB a) := by
  unfold strconv_Itoa.f dB Lib.itoa
  rw [if_pos (by omega), if_neg (by omega)]
theorem text_dB (a : Int) (h : 0 ≤ a ∧ a ≤ 1000000) : Ev (fun k => spec_l3Text.f k a) (dB a) := by
  have := text_ev a.toNat (by omega)
  rw [show ((a.toNat : Nat) : Int) = a by omega] at this
  exact this
theorem verText_both (a b c : Int) (p : ByteArray) (hp : p.size ≤ 1048576) : Ev (fun k => impl_VersionText.f k a b c p) (verText a b c p) ∧ Ev (fun k => spec_VersionText.f k a b c p) (verText a b c p) := by
  obtain ⟨hI, hS⟩ := verOk_both a b c p hp
  unfold verText
  cases hv : verOk a b c p with
  | false =>
    rw [hv] at hI hS
    refine ⟨?_, ?_⟩
    · unfold impl_VersionText.f
      exact evB hI (evF Bool.false_ne_true (evR rfl))
    · unfold spec_VersionText.f
      exact evB hS (evF Bool.false_ne_true (evR rfl))
  | true =>
    rw [hv] at hI hS
    obtain ⟨ra, rb, rc⟩ := verOk_in hv
    have za := dB_size a ra.2
    have zb := dB_size b rb.2
    have zc := dB_size c rc.2
    have ia := itoa_dB a ra
    have ib := itoa_dB b rb
    have ic := itoa_dB c rc
    have ta := text_dB a ra
    have tb := text_dB b rb
    have tc := text_dB c rc
    unfold verT
    generalize dB a = x at *
    generalize dB b = y at *
    generalize dB c = z at *
    have s1 : ((⟨#[118]⟩ : ByteArray) ++ x).size = 1 + x.size := ByteArray.size_append
    have s2 : (((⟨#[118]⟩ : ByteArray) ++ x) ++ (⟨#[46]⟩ : ByteArray)).size = 1 + x.size + 1 := by rw [ByteArray.size_append, s1]; rfl
    have s3 : ((((⟨#[118]⟩ : ByteArray) ++ x) ++ (⟨#[46]⟩ : ByteArray)) ++ y).size = 1 + x.size + 1 + y.size := by rw [ByteArray.size_append, s2]
    have s4 : (((((⟨#[118]⟩ : ByteArray) ++ x) ++ (⟨#[46]⟩ : ByteArray)) ++ y) ++ (⟨#[46]⟩ : ByteArray)).size = 1 + x.size + 1 + y.size + 1 := by rw [ByteArray.size_append, s3]; rfl
    have s5 : ((((((⟨#[118]⟩ : ByteArray) ++ x) ++ (⟨#[46]⟩ : ByteArray)) ++ y) ++ (⟨#[46]⟩ : ByteArray)) ++ z).size = 1 + x.size + 1 + y.size + 1 + z.size := by rw [ByteArray.size_append, s4]
    have s6 : (((((((⟨#[118]⟩ : ByteArray) ++ x) ++ (⟨#[46]⟩ : ByteArray)) ++ y) ++ (⟨#[46]⟩ : ByteArray)) ++ z) ++ (⟨#[45]⟩ : ByteArray)).size = 1 + x.size + 1 + y.size + 1 + z.size + 1 := by rw [ByteArray.size_append, s5]; rfl
    have s7 : ((⟨#[45]⟩ : ByteArray) ++ p).size = 1 + p.size := ByteArray.size_append
    refine ⟨?_, ?_⟩
    · unfold impl_VersionText.f
      refine evB hI (evT rfl (evC ia (evT (by omega) (evT (by omega) (evC ib (evT (by omega) (evT (by omega) (evC ic (evT (by omega) ?_)))))))))
      rw [if_pos rfl]
      by_cases h : p.size = 0
      · rw [if_pos h]
        exact evT ((nil_iff' p).2 h) (evR rfl)
      · rw [if_neg h]
        exact evF (fun e => h ((nil_iff' p).1 e)) (evT (by omega) (evT (by omega) (evR rfl)))
    · unfold spec_VersionText.f
      refine evB hS (evT rfl (evB ta (evT (by omega) (evT (by omega) (evB tb (evT (by omega) (evT (by omega) (evB tc (evT (by omega) ?_)))))))))
      rw [if_pos rfl]
      by_cases h : p.size = 0
      · rw [if_pos h]
        exact evT ((nil_iff' p).2 h) (evR rfl)
      · rw [if_neg h]
        refine evF (fun e => h ((nil_iff' p).1 e)) (evT (by omega) (evT (by omega) (evR ?_)))
        exact ByteArray.append_assoc
theorem verText_size (a b c : Int) (p : ByteArray) : (verText a b c p).size ≤ 25 + p.size := by
  unfold verText
  cases hv : verOk a b c p with
  | false => rw [if_neg Bool.false_ne_true]; show 0 ≤ _; omega
  | true =>
    obtain ⟨ra, rb, rc⟩ := verOk_in hv
    have za := dB_size a ra.2
    have zb := dB_size b rb.2
    have zc := dB_size c rc.2
    rw [if_pos rfl]
    have e1 : (⟨#[118]⟩ : ByteArray).size = 1 := rfl
    have e2 : (⟨#[46]⟩ : ByteArray).size = 1 := rfl
    have e3 : (⟨#[45]⟩ : ByteArray).size = 1 := rfl
    unfold verT
    split <;> simp only [ByteArray.size_append, e1, e2, e3] <;> omega
end Go.Proofs.YtkofdkinaahbpaaDoor.Z

/- The number that a text is, the program's way; ends of texts. Plain lemmas. -/
set_option linter.unusedVariables false
namespace Go.Proofs.YtkofdkinaahbpaaDoor.Z
open Go.RowKit Go.Proofs.YtkofdkinaahbpaaDoorW.PrintWords Go.Proofs.YtkofdkinaahbpaaDoorW.PrintMore Go.Proofs.YtkofdkinaahbpaaDoor.X Go.Proofs.YtkofdkinaahbpaaDoor.Sp
theorem ext_end (s : ByteArray) (f : Nat) : s.extract f s.size = toB (s.data.toList.drop f) := by
  rw [ext_list]
  unfold toB
  rw [List.take_of_length_le (by rw [List.length_drop, data_length]; exact Nat.le_refl _)]
theorem toB_size (l : List UInt8) : (toB l).size = l.length := by
  show l.toArray.size = _
  rw [List.size_toArray]
theorem toB_data (l : List UInt8) : (toB l).data.toList = l := by unfold toB; simp
theorem pieces_toB (c : UInt8) (s : ByteArray) : pieces c s = (pcs c s.data.toList).map toB := rfl
theorem numberOf_ev (t : ByteArray) (ht : t.size ≤ 1048576) (m : Int) (hm : m ≤ 18) : Ev (fun k => impl_numberOf.f k t m) (if num t = true ∧ (t.size : Int) ≤ m then (((val t.data.toList : Nat) : Int), true) else (0, false)) := by
  unfold impl_numberOf.f
  refine evB (num_impl t ht) ?_
  cases hn : num t with
  | false => exact evF Bool.false_ne_true (evR (by simp))
  | true =>
    refine evT rfl ?_
    by_cases h : (t.size : Int) > m
    · exact evT h (evR (by rw [if_neg (fun e => by omega)]))
    · refine evF h (evT (by omega) (evC (atoi_val hn) (evR ?_)))
      rw [if_pos ⟨rfl, by omega⟩]
theorem pow4 {n : Nat} (h : 4 ≤ n) : 10000 ≤ 10 ^ n := Nat.le_trans (by decide) (Nat.pow_le_pow_right (show 0 < 10 by decide) h)
theorem small4 {t : ByteArray} (hsh : short t = true) (h : ((val t.data.toList : Nat) : Int) ≤ 1000) : t.size ≤ 4 := by
  rcases Nat.lt_or_ge 4 t.size with h5 | h5
  · have hle := short_lead hsh (by omega)
    have h10 := pow4 (n := t.size - 1) (by omega)
    generalize val t.data.toList = v at *
    generalize 10 ^ (t.size - 1) = p at *
    omega
  · exact h5
end Go.Proofs.YtkofdkinaahbpaaDoor.Z

/- What a text is read as, the program's way and the reference's: the same version. Plain lemmas. -/
set_option linter.unusedVariables false
namespace Go.Proofs.YtkofdkinaahbpaaDoor.Z
open Go.RowKit Go.Proofs.YtkofdkinaahbpaaDoorW.PrintWords Go.Proofs.YtkofdkinaahbpaaDoorW.PrintMore Go.Proofs.YtkofdkinaahbpaaDoor.X Go.Proofs.YtkofdkinaahbpaaDoor.Sp
/-- What lies ahead of the first byte c, and behind it. -/
def cutL (c : UInt8) : List UInt8 → List UInt8 × List UInt8
  | [] => ([], [])
  | b :: l => if b = c then ([], l) else (b :: (cutL c l).1, (cutL c l).2)
theorem ix_cases (c : UInt8) : ∀ l : List UInt8, Lib.indexByte l c = -1 ∧ cutL c l = (l, []) ∨ ∃ n : Nat, Lib.indexByte l c = (n : Int) ∧ cutL c l = (l.take n, l.drop (n + 1))
  | [] => .inl ⟨rfl, rfl⟩
  | b :: l => by
    unfold cutL Lib.indexByte
    by_cases h : b = c
    · rw [if_pos h, if_pos (beq_iff_eq.2 h)]
      exact .inr ⟨0, rfl, rfl⟩
    · rw [if_neg h, if_neg (fun e => h (beq_iff_eq.1 e))]
      rcases ix_cases c l with ⟨h1, h2⟩ | ⟨n, h1, h2⟩
      · rw [h1, h2]
        exact .inl ⟨rfl, rfl⟩
      · rw [h1, h2]
        refine .inr ⟨n + 1, ?_, rfl⟩
        rw [if_neg (fun e => by have := beq_iff_eq.1 e; omega)]
        rfl
theorem cut_cutL (c : UInt8) (l : List UInt8) : (Lib.cut l [c]).1 = (cutL c l).1 ∧ (Lib.cut l [c]).2.1 = (cutL c l).2 := by
  unfold Lib.cut
  rw [Lib.index_one]
  rcases ix_cases c l with ⟨h1, h2⟩ | ⟨n, h1, h2⟩
  · rw [h1, h2, if_neg (by omega)]
    exact ⟨rfl, rfl⟩
  · rw [h1, h2, if_pos (by omega)]
    exact ⟨rfl, rfl⟩
theorem cutL_len (c : UInt8) : ∀ l : List UInt8, (cutL c l).1.length ≤ l.length ∧ (cutL c l).2.length ≤ l.length
  | [] => ⟨Nat.le_refl _, Nat.le_refl _⟩
  | b :: l => by
    have ih := cutL_len c l
    unfold cutL
    split
    · simp
    · simp; omega
theorem cut_ev (s : ByteArray) (c : UInt8) (hs : s.size ≤ 1048576) : ∃ b, strings_Cut.f s ⟨#[c]⟩ = some (toB (cutL c s.data.toList).1, toB (cutL c s.data.toList).2, b) := by
  unfold strings_Cut.f
  rw [if_pos ⟨by omega, rfl⟩]
  have h := cut_cutL c s.data.toList
  refine ⟨(Lib.cut s.data.toList [c]).2.2, ?_⟩
  show some (cutB_ c s) = _
  unfold cutB_ toB
  rw [h.1, h.2]
theorem toB_self (s : ByteArray) : toB s.data.toList = s := by
  unfold toB
  cases s
  simp
def nilB : ByteArray := ⟨#[]⟩
def noV : Int × Int × Int × ByteArray × Bool := (0, 0, 0, ⟨#[]⟩, false)
/-- What lies behind a 'v' ahead. -/
def offV (s : ByteArray) : ByteArray := if s.data.toList.head? = some 118 then toB (s.data.toList.drop 1) else s
theorem head_bt (s : ByteArray) (c : UInt8) (h : 0 < s.size) : s.data.toList.head? = some c ↔ bt s 0 = (c.toNat : Int) := by
  have hb : bt s 0 = _ := byte_at s 0 h
  have hl := data_length s
  cases hx : s.data.toList with
  | nil => rw [hx] at hl; simp at hl; omega
  | cons a m =>
    simp only [hx, List.getElem_cons_zero] at hb
    rw [hb, List.head?_cons]
    constructor
    · intro e
      rw [Option.some.inj e]
    · intro e
      rw [UInt8.toNat_inj.1 (show a.toNat = c.toNat by omega)]
theorem trim_ev (s : ByteArray) (hs : s.size ≤ 1048576) : strings_TrimPrefix.f s ⟨#[118]⟩ = some (offV s) := by
  unfold strings_TrimPrefix.f stringslite_TrimPrefix.f stringslite_HasPrefix.f offV
  have e1 : ((⟨#[118]⟩ : ByteArray).size : Int) = 1 := rfl
  have hl := data_length s
  rw [e1]
  by_cases h : (s.size : Int) ≥ 1
  · rw [if_pos h, if_pos (by omega), if_pos (by omega)]
    simp only [Option.bind_some]
    have e2 : (s.extract 0 (1 : Int).toNat).toList = s.data.toList.take 1 := by
      rw [tl, show (1 : Int).toNat = 1 from rfl, ext_list]
      simp
    have e3 : (⟨#[118]⟩ : ByteArray).toList = [118] := by rw [tl]
    rw [e2, e3]
    cases hx : s.data.toList with
    | nil => rw [hx] at hl; simp at hl; omega
    | cons a m =>
      by_cases ha : a = 118
      · subst ha
        rw [if_pos (by simp), if_pos (by omega), if_pos (by omega), if_pos (show (118 :: m : List UInt8).head? = some 118 from rfl)]
        simp only [Option.bind_some]
        rw [show (1 : Int).toNat = 1 from rfl, ext_end, hx]
      · rw [if_neg (by simp [ha]), if_neg (by simp [ha])]
        rfl
  · rw [if_neg h]
    simp only [Option.bind_some]
    have h0 : s.data.toList = [] := List.eq_nil_of_length_eq_zero (by omega)
    rw [h0, if_neg (by simp), if_neg (by simp)]
    rfl
def at3 (l : List ByteArray) (i : Int) : ByteArray := rdOf ByteArray.empty l i
def good7 (x : ByteArray) : Prop := num x = true ∧ (x.size : Int) ≤ 7
instance (x : ByteArray) : Decidable (good7 x) := by unfold good7; exact inferInstance
def valI (x : ByteArray) : Int := ((val x.data.toList : Nat) : Int)
def numsOf (t : ByteArray) : List ByteArray := pieces 46 (toB (cutL 45 t.data.toList).1)
def preOf (t : ByteArray) : ByteArray := toB (cutL 45 t.data.toList).2
/-- The program's way. -/
def readI (s : ByteArray) : Int × Int × Int × ByteArray × Bool :=
  if (numsOf (offV s)).length = 3 ∧ good7 (at3 (numsOf (offV s)) 0) ∧ good7 (at3 (numsOf (offV s)) 1) ∧ good7 (at3 (numsOf (offV s)) 2) ∧
      verText (valI (at3 (numsOf (offV s)) 0)) (valI (at3 (numsOf (offV s)) 1)) (valI (at3 (numsOf (offV s)) 2)) (preOf (offV s)) = s then
    (valI (at3 (numsOf (offV s)) 0), valI (at3 (numsOf (offV s)) 1), valI (at3 (numsOf (offV s)) 2), preOf (offV s), true) else noV
/-- The reference's way. -/
def readS (s : ByteArray) : Int × Int × Int × ByteArray × Bool :=
  if s.data.toList.head? = some 118 ∧ (numsOf (offV s)).length = 3 ∧ verOk (numS (at3 (numsOf (offV s)) 0)) (numS (at3 (numsOf (offV s)) 1)) (numS (at3 (numsOf (offV s)) 2)) (preOf (offV s)) = true ∧
      verText (numS (at3 (numsOf (offV s)) 0)) (numS (at3 (numsOf (offV s)) 1)) (numS (at3 (numsOf (offV s)) 2)) (preOf (offV s)) = s then
    (numS (at3 (numsOf (offV s)) 0), numS (at3 (numsOf (offV s)) 1), numS (at3 (numsOf (offV s)) 2), preOf (offV s), true) else noV
theorem pow7 {n : Nat} (h : 7 ≤ n) : 10000000 ≤ 10 ^ n := Nat.le_trans (by decide) (Nat.pow_le_pow_right (show 0 < 10 by decide) h)
theorem good_numS {x : ByteArray} (h : good7 x) : numS x = valI x := by
  unfold valI
  refine numS_val ?_
  unfold short
  have := h.2
  rw [h.1, decide_eq_true (by omega)]
  rfl
theorem numS_good {x : ByteArray} (h : in6 (numS x) = true) : good7 x := by
  unfold in6 at h
  have h1 := of_decide_eq_true h
  have hsh := (numS_pos x).1 h1.1
  have hv := numS_val hsh
  rw [hv] at h1
  have hn : num x = true := by unfold short at hsh; simp only [Bool.and_eq_true] at hsh; exact hsh.1
  refine ⟨hn, ?_⟩
  rcases Nat.lt_or_ge 7 x.size with h5 | h5
  · have hle := short_lead hsh (by omega)
    have h10 := pow7 (n := x.size - 1) (by omega)
    generalize val x.data.toList = v at *
    generalize 10 ^ (x.size - 1) = p at *
    omega
  · omega
theorem verText_nil {a b c : Int} {p : ByteArray} (h : verOk a b c p = false) : verText a b c p = nilB := by
  unfold verText
  rw [h, if_neg Bool.false_ne_true]
  rfl
theorem verText_v {a b c : Int} {p : ByteArray} (h : verOk a b c p = true) : (verText a b c p).data.toList.head? = some 118 := by
  unfold verText verT
  rw [if_pos h]
  have e : (⟨#[118]⟩ : ByteArray).data.toList = [118] := rfl
  split
  · simp [ByteArray.data_append]
  · simp [ByteArray.data_append]
theorem nums_nil : (numsOf (offV nilB)).length = 1 := rfl
theorem read_same (s : ByteArray) : readI s = readS s := by
  unfold readI readS
  by_cases h3 : (numsOf (offV s)).length = 3
  · by_cases hT : good7 (at3 (numsOf (offV s)) 0) ∧ good7 (at3 (numsOf (offV s)) 1) ∧ good7 (at3 (numsOf (offV s)) 2) ∧
      verText (valI (at3 (numsOf (offV s)) 0)) (valI (at3 (numsOf (offV s)) 1)) (valI (at3 (numsOf (offV s)) 2)) (preOf (offV s)) = s
    · obtain ⟨g0, g1, g2, ht⟩ := hT
      rw [if_pos ⟨h3, g0, g1, g2, ht⟩, good_numS g0, good_numS g1, good_numS g2]
      have hv : verOk (valI (at3 (numsOf (offV s)) 0)) (valI (at3 (numsOf (offV s)) 1)) (valI (at3 (numsOf (offV s)) 2)) (preOf (offV s)) = true := by
        cases hv : verOk (valI (at3 (numsOf (offV s)) 0)) (valI (at3 (numsOf (offV s)) 1)) (valI (at3 (numsOf (offV s)) 2)) (preOf (offV s)) with
        | true => rfl
        | false =>
          rw [verText_nil hv] at ht
          rw [← ht, nums_nil] at h3
          omega
      rw [if_pos ⟨ht ▸ verText_v hv, h3, hv, ht⟩]
    · rw [if_neg (fun e => hT e.2), if_neg]
      rintro ⟨_, _, hv, ht⟩
      have hin : in6 (numS (at3 (numsOf (offV s)) 0)) = true ∧ in6 (numS (at3 (numsOf (offV s)) 1)) = true ∧ in6 (numS (at3 (numsOf (offV s)) 2)) = true := by
        unfold verOk at hv
        simp only [Bool.and_eq_true] at hv
        exact ⟨hv.1, hv.2.1, hv.2.2.1⟩
      have g0 := numS_good hin.1
      have g1 := numS_good hin.2.1
      have g2 := numS_good hin.2.2
      rw [good_numS g0, good_numS g1, good_numS g2] at ht
      exact hT ⟨g0, g1, g2, ht⟩
  · rw [if_neg (fun e => h3 e.1), if_neg (fun e => h3 e.2.1)]
theorem offV_size (s : ByteArray) : (offV s).size ≤ s.size := by
  unfold offV
  split
  · rw [toB_size, List.length_drop, data_length]
    omega
  · exact Nat.le_refl _
theorem pre_size (t : ByteArray) : (preOf t).size ≤ t.size := by
  unfold preOf
  rw [toB_size]
  have := (cutL_len 45 t.data.toList).2
  rw [data_length] at this
  exact this
theorem num_size (t : ByteArray) : (toB (cutL 45 t.data.toList).1).size ≤ t.size := by
  rw [toB_size]
  have := (cutL_len 45 t.data.toList).1
  rw [data_length] at this
  exact this
theorem at3_size (t : ByteArray) (i : Nat) (h : i < (numsOf t).length) : (at3 (numsOf t) (i : Int)).size ≤ t.size := by
  have hm : at3 (numsOf t) (i : Int) ∈ numsOf t := by
    have := rdOf_get (d := ByteArray.empty) h
    rw [List.getElem?_eq_getElem h] at this
    unfold at3
    rw [← Option.some.inj this]
    exact List.getElem_mem h
  exact Nat.le_trans (pieces_mem 46 _ _ hm) (num_size t)
theorem tl_eq {a b : ByteArray} : (a.toList = b.toList) = (a = b) := propext tl_inj
theorem numOf7 (t : ByteArray) (ht : t.size ≤ 1048576) : Ev (fun k => impl_numberOf.f k t 7) (if good7 t then (valI t, true) else (0, false)) := by
  refine evE ?_ (numberOf_ev t ht 7 (by omega))
  by_cases h : good7 t
  · rw [if_pos h]
    exact if_pos h
  · rw [if_neg h]
    exact if_neg h
theorem impl_n3 (s p : ByteArray) (a b c : Int) (hp : p.size ≤ 1048576) : Ev (fun k => impl_ParseVersion.n3 k s p a b c) (if verText a b c p = s then (a, b, c, p, true) else noV) := by
  unfold impl_ParseVersion.n3
  refine evB (verText_both a b c p hp).1 ?_
  simp only [tl_eq]
  by_cases h : verText a b c p = s
  · exact evT h (evR (by rw [if_pos h]))
  · exact evF h (evR (by rw [if_neg h]; rfl))
theorem impl_read (s : ByteArray) (hs : s.size ≤ 1048576) : Ev (fun k => impl_ParseVersion.f k s) (readI s) := by
  have ho := offV_size s
  have hn := num_size (offV s)
  have hp := pre_size (offV s)
  obtain ⟨bb, hc⟩ := cut_ev (offV s) 45 (by omega)
  unfold impl_ParseVersion.f readI
  refine evC (trim_ev s hs) (evC hc ?_)
  have hsp : strings_Split.f (toB (cutL 45 (offV s).data.toList).1) (⟨#[46]⟩ : ByteArray) = some (numsOf (offV s)) := by
    unfold strings_Split.f
    rw [if_pos ⟨by omega, rfl⟩]
    rfl
  refine evC hsp ?_
  by_cases h3 : (numsOf (offV s)).length = 3
  · refine evT h3 ?_
    have z0 := at3_size (offV s) 0 (by omega)
    have z1 := at3_size (offV s) 1 (by omega)
    have z2 := at3_size (offV s) 2 (by omega)
    have f0 := numOf7 _ (Nat.le_trans z0 (by omega))
    have f1 := numOf7 _ (Nat.le_trans z1 (by omega))
    have f2 := numOf7 _ (Nat.le_trans z2 (by omega))
    show Ev (fun k => impl_ParseVersion.n0 k s (preOf (offV s)) (at3 (numsOf (offV s)) ((0 : Nat) : Int)) (at3 (numsOf (offV s)) ((1 : Nat) : Int)) (at3 (numsOf (offV s)) ((2 : Nat) : Int))) _
    unfold impl_ParseVersion.n0
    refine evB f0 ?_
    by_cases g0 : good7 (at3 (numsOf (offV s)) ((0 : Nat) : Int))
    · rw [if_pos g0]
      refine evT rfl ?_
      unfold impl_ParseVersion.n1
      refine evB f1 ?_
      by_cases g1 : good7 (at3 (numsOf (offV s)) ((1 : Nat) : Int))
      · rw [if_pos g1]
        refine evT rfl ?_
        unfold impl_ParseVersion.n2
        refine evB f2 ?_
        by_cases g2 : good7 (at3 (numsOf (offV s)) ((2 : Nat) : Int))
        · rw [if_pos g2]
          refine evT rfl (evE ?_ (impl_n3 s (preOf (offV s)) _ _ _ (by omega)))
          by_cases ht : verText (valI (at3 (numsOf (offV s)) 0)) (valI (at3 (numsOf (offV s)) 1)) (valI (at3 (numsOf (offV s)) 2)) (preOf (offV s)) = s
          · exact (if_pos ht).trans (if_pos ⟨h3, g0, g1, g2, ht⟩).symm
          · exact (if_neg ht).trans (if_neg (fun e => ht e.2.2.2.2)).symm
        · rw [if_neg g2, if_neg (fun e => g2 e.2.2.2.1)]
          exact evF Bool.false_ne_true (evR rfl)
      · rw [if_neg g1, if_neg (fun e => g1 e.2.2.1)]
        exact evF Bool.false_ne_true (evR rfl)
    · rw [if_neg g0, if_neg (fun e => g0 e.2.1)]
      exact evF Bool.false_ne_true (evR rfl)
  · rw [if_neg (fun e => h3 e.1)]
    exact evF h3 (evR rfl)
theorem spec_l0 (s t : ByteArray) (ht : t.size ≤ 1048576) (r : Int × Int × Int × ByteArray × Bool) (d : Nat) : ∀ i : Nat, i + d = t.size →
    Ev (fun k => spec_ParseVersion.n2 k s (toB (t.data.toList.take i ++ (cutL 45 (t.data.toList.drop i)).1)) (toB (cutL 45 (t.data.toList.drop i)).2)) r → Ev (fun k => spec_ParseVersion.l0 k s t (i : Int)) r := by
  induction d with
  | zero =>
    intro i hi H
    rw [List.drop_eq_nil_of_le (show t.data.toList.length ≤ i by rw [data_length]; omega), List.take_of_length_le (show t.data.toList.length ≤ i by rw [data_length]; omega)] at H
    rw [show t.data.toList ++ (cutL 45 []).1 = t.data.toList from List.append_nil _, toB_self] at H
    refine evS (fun k => by rw [spec_ParseVersion.l0]) ?_
    exact evF (by omega) H
  | succ d ih =>
    intro i hi H
    have hl : i < t.data.toList.length := by rw [data_length]; omega
    have hb := byte_at t i (by omega)
    rw [List.drop_eq_getElem_cons hl] at H
    refine evS (fun k => by rw [spec_ParseVersion.l0]) ?_
    rw [hb, w64s (show i < t.size by omega) (by omega)]
    refine evT (by omega) (evT (by omega) ?_)
    by_cases hc : t.data.toList[i] = 45
    · rw [hc] at H ⊢
      refine evT (by decide) (evT (by omega) (evT (by omega) ?_))
      rw [show (((i + 1 : Nat) : Int)).toNat = i + 1 by omega, show ((i : Nat) : Int).toNat = i by omega, ext_end, ext_list, List.drop_zero, Nat.sub_zero]
      rw [cutL, if_pos rfl, List.append_nil] at H
      exact H
    · refine evF (fun e => hc (UInt8.toNat_inj.1 (show _ = 45 by omega))) (ih (i + 1) (by omega) ?_)
      rw [cutL, if_neg hc] at H
      rw [List.take_succ_eq_append_getElem hl, List.append_assoc]
      exact H
theorem spec_n3 (s p : ByteArray) (a b c : Int) (hp : p.size ≤ 1048576) : Ev (fun k => spec_ParseVersion.n3 k s p a b c) (if verOk a b c p = true ∧ verText a b c p = s then (a, b, c, p, true) else noV) := by
  unfold spec_ParseVersion.n3
  refine evB (verOk_both a b c p hp).2 ?_
  cases hv : verOk a b c p with
  | false => exact evF Bool.false_ne_true (evR (by simp [noV]))
  | true =>
    refine evT rfl (evB (verText_both a b c p hp).2 ?_)
    simp only [tl_eq]
    by_cases h : verText a b c p = s
    · exact evT h (evR (by simp [h]))
    · exact evF h (evR (by simp [h, noV]))
theorem spec_n2 (s t : ByteArray) (ht : t.size ≤ 1048576) : Ev (fun k => spec_ParseVersion.n2 k s (toB (cutL 45 t.data.toList).1) (preOf t))
    (if (numsOf t).length = 3 ∧ verOk (numS (at3 (numsOf t) 0)) (numS (at3 (numsOf t) 1)) (numS (at3 (numsOf t) 2)) (preOf t) = true ∧ verText (numS (at3 (numsOf t) 0)) (numS (at3 (numsOf t) 1)) (numS (at3 (numsOf t) 2)) (preOf t) = s then
      (numS (at3 (numsOf t) 0), numS (at3 (numsOf t) 1), numS (at3 (numsOf t) 2), preOf t, true) else noV) := by
  have hn := num_size t
  have hp := pre_size t
  unfold spec_ParseVersion.n2
  refine evB (a := numsOf t) (split_spec _ (by omega) 46) ?_
  by_cases h3 : (numsOf t).length = 3
  · have z0 := at3_size t 0 (by omega)
    have z1 := at3_size t 1 (by omega)
    have z2 := at3_size t 2 (by omega)
    refine evT h3 (evB (numS_spec _ (Nat.le_trans z0 (by omega))) (evB (numS_spec _ (Nat.le_trans z1 (by omega))) (evB (numS_spec _ (Nat.le_trans z2 (by omega))) (evE ?_ (spec_n3 s (preOf t) _ _ _ (by omega))))))
    by_cases hh : verOk (numS (at3 (numsOf t) 0)) (numS (at3 (numsOf t) 1)) (numS (at3 (numsOf t) 2)) (preOf t) = true ∧ verText (numS (at3 (numsOf t) 0)) (numS (at3 (numsOf t) 1)) (numS (at3 (numsOf t) 2)) (preOf t) = s
    · exact (if_pos hh).trans (if_pos ⟨h3, hh⟩).symm
    · exact (if_neg hh).trans (if_neg (fun e => hh e.2)).symm
  · rw [if_neg (fun e => h3 e.1)]
    exact evF h3 (evR rfl)
theorem spec_read (s : ByteArray) (hs : s.size ≤ 1048576) : Ev (fun k => spec_ParseVersion.f k s) (readS s) := by
  unfold spec_ParseVersion.f readS
  have hl := data_length s
  by_cases h0 : s.size = 0
  · have hn : s.data.toList = [] := List.eq_nil_of_length_eq_zero (by omega)
    refine evT ((nil_iff' s).2 h0) (evR ?_)
    rw [hn, if_neg (fun e => by simp at e)]
    rfl
  · refine evF (fun e => h0 ((nil_iff' s).1 e)) (evT (by omega) ?_)
    have hh := head_bt s 118 (by omega)
    by_cases hv : bt s 0 = 118
    · have hv' : s.data.toList.head? = some 118 := hh.2 hv
      have ho : offV s = toB (s.data.toList.drop 1) := by unfold offV; rw [if_pos hv']
      refine evT hv (evT (by omega) ?_)
      rw [ext_end, ← ho]
      have hz := offV_size s
      refine spec_l0 s (offV s) (by omega) _ (offV s).size 0 (by omega) ?_
      rw [List.take_zero, List.nil_append, List.drop_zero]
      refine evE ?_ (spec_n2 s (offV s) (by omega))
      by_cases h3 : (numsOf (offV s)).length = 3 ∧ verOk (numS (at3 (numsOf (offV s)) 0)) (numS (at3 (numsOf (offV s)) 1)) (numS (at3 (numsOf (offV s)) 2)) (preOf (offV s)) = true ∧
          verText (numS (at3 (numsOf (offV s)) 0)) (numS (at3 (numsOf (offV s)) 1)) (numS (at3 (numsOf (offV s)) 2)) (preOf (offV s)) = s
      · rw [if_pos h3, if_pos ⟨hv', h3⟩]
      · rw [if_neg h3, if_neg (fun e => h3 e.2)]
    · refine evF hv (evR ?_)
      rw [if_neg (fun e => hv (hh.1 e.1))]
      rfl
theorem read_both (s : ByteArray) (hs : s.size ≤ 1048576) : Ev (fun k => impl_ParseVersion.f k s) (readS s) ∧ Ev (fun k => spec_ParseVersion.f k s) (readS s) := ⟨read_same s ▸ impl_read s hs, spec_read s hs⟩
end Go.Proofs.YtkofdkinaahbpaaDoor.Z

/- A right version comes back of its text; a text that is read as a version has that version's text. Plain lemmas. -/
set_option linter.unusedVariables false
namespace Go.Proofs.YtkofdkinaahbpaaDoor.Z
open Go.RowKit Go.Proofs.YtkofdkinaahbpaaDoorW.PrintWords Go.Proofs.YtkofdkinaahbpaaDoorW.PrintMore Go.Proofs.YtkofdkinaahbpaaDoor.X Go.Proofs.YtkofdkinaahbpaaDoor.Sp
theorem dig_of (k : Nat) (h : k < 10) : isD (UInt8.ofNat (48 + k)) = true ∧ digit (UInt8.ofNat (48 + k)) = k := by
  have e : (UInt8.ofNat (48 + k)).toNat = 48 + k := by
    rw [UInt8.toNat_ofNat']
    omega
  refine ⟨(isD_iff _).2 (by omega), ?_⟩
  unfold digit
  omega
theorem dec_all (n : Nat) : (Lib.decDigits n).all isD = true ∧ val (Lib.decDigits n) = n ∧ Lib.decDigits n ≠ [] ∧ (10 ≤ n → lead (Lib.decDigits n)) ∧ (1 ≤ n → lead (Lib.decDigits n)) := by
  induction n using Nat.strongRecOn with
  | ind n ih =>
    rw [Lib.decDigits]
    by_cases h : n < 10
    · rw [dif_pos h]
      obtain ⟨h1, h2⟩ := dig_of n h
      refine ⟨by rw [List.all_cons, h1]; rfl, ?_, by simp, fun e => by omega, fun e => ?_⟩
      · rw [show ([UInt8.ofNat (48 + n)] : List UInt8) = [] ++ [UInt8.ofNat (48 + n)] from rfl, val_snoc, h2]
        show 0 * 10 + n = n
        omega
      · unfold lead
        simp only [List.head?_cons, ne_eq, Option.some.injEq]
        intro e'
        rw [e'] at h2
        have : digit 48 = 0 := rfl
        omega
    · rw [dif_neg h]
      obtain ⟨h1, h2, h3, h4, h5⟩ := ih (n / 10) (by omega)
      obtain ⟨d1, d2⟩ := dig_of (n % 10) (by omega)
      have hl : lead (Lib.decDigits (n / 10) ++ [UInt8.ofNat (48 + n % 10)]) := by
        have := h5 (by omega)
        unfold lead at this ⊢
        cases hx : Lib.decDigits (n / 10) with
        | nil => exact absurd hx h3
        | cons x y => rw [hx] at this; exact this
      refine ⟨by rw [List.all_append, h1, List.all_cons, d1]; rfl, ?_, by simp, fun _ => hl, fun _ => hl⟩
      rw [val_snoc, h2, d2]
      omega
theorem pcs_miss (c : UInt8) (l : List UInt8) (h : ∀ u ∈ l, u ≠ c) : pcs c l = [l] := by
  induction l with
  | nil => rfl
  | cons b l ih => rw [pcs, if_neg (h b List.mem_cons_self), ih (fun u hu => h u (List.mem_cons_of_mem _ hu))]; rfl
theorem dig_ne {l : List UInt8} (h : l.all isD = true) (c : UInt8) (hc : isD c = false) : ∀ u ∈ l, u ≠ c := by
  intro u hu e
  have := List.all_eq_true.1 h u hu
  rw [e, hc] at this
  cases this
/-- The bytes of a version's text, behind the 'v'. -/
def tailB (a b c : Int) (p : ByteArray) : List UInt8 :=
  Lib.decDigits a.toNat ++ 46 :: (Lib.decDigits b.toNat ++ 46 :: (Lib.decDigits c.toNat ++ (if p.size = 0 then [] else 45 :: p.data.toList)))
theorem verT_bytes (a b c : Int) (p : ByteArray) : (verT a b c p).data.toList = 118 :: tailB a b c p := by
  unfold verT tailB dB
  by_cases h : p.size = 0
  · rw [if_pos h, if_pos h]
    simp [ByteArray.data_append]
  · rw [if_neg h, if_neg h]
    simp [ByteArray.data_append]
/-- What is read is right, and has that text. -/
theorem read_text (s : ByteArray) (a b c : Int) (p : ByteArray) (h : readS s = (a, b, c, p, true)) : verOk a b c p = true ∧ verText a b c p = s ∧ p.size ≤ s.size := by
  unfold readS at h
  split at h
  · rename_i hc
    simp only [Prod.mk.injEq] at h
    obtain ⟨rfl, rfl, rfl, rfl, _⟩ := h
    exact ⟨hc.2.2.1, hc.2.2.2, Nat.le_trans (pre_size _) (offV_size s)⟩
  · unfold noV at h
    simp at h
end Go.Proofs.YtkofdkinaahbpaaDoor.Z

/- No right version's text holds a '@'; texts cut at a byte, and their pieces. Plain lemmas. -/
set_option linter.unusedVariables false
namespace Go.Proofs.YtkofdkinaahbpaaDoor.Z
open Go.RowKit Go.Proofs.YtkofdkinaahbpaaDoorW.PrintWords Go.Proofs.YtkofdkinaahbpaaDoorW.PrintMore Go.Proofs.YtkofdkinaahbpaaDoor.X Go.Proofs.YtkofdkinaahbpaaDoor.Sp
theorem pcs_has (c : UInt8) : ∀ (l : List UInt8) (u : UInt8), u ∈ l → u = c ∨ ∃ x ∈ pcs c l, u ∈ x
  | [], u, h => by cases h
  | b :: l, u, h => by
    have ih := pcs_has c l u
    rw [pcs]
    rcases List.mem_cons.1 h with rfl | h
    · by_cases hb : u = c
      · exact .inl hb
      · rw [if_neg hb]
        cases hp : pcs c l with
        | nil => exact absurd hp (pcs_ne c l)
        | cons a t => exact .inr ⟨u :: a, by simp [onto], by simp⟩
    · rcases ih h with e | ⟨x, hx, hu⟩
      · exact .inl e
      · right
        by_cases hb : b = c
        · rw [if_pos hb]
          exact ⟨x, List.mem_cons_of_mem _ hx, hu⟩
        · rw [if_neg hb]
          cases hp : pcs c l with
          | nil => exact absurd hp (pcs_ne c l)
          | cons a t =>
            rw [hp] at hx
            rcases List.mem_cons.1 hx with rfl | hx
            · exact ⟨b :: x, by simp [onto], List.mem_cons_of_mem _ hu⟩
            · exact ⟨x, by simp [onto, hx], hu⟩
theorem pre_no (p : ByteArray) (h : pre p = true) : ∀ u ∈ p.data.toList, u ≠ 64 := by
  intro u hu e
  unfold pre at h
  simp only [Bool.and_eq_true] at h
  rcases pcs_has 46 p.data.toList u hu with h1 | ⟨x, hx, hux⟩
  · rw [e] at h1
    exact absurd h1 (by decide)
  · have hm : (⟨x.toArray⟩ : ByteArray) ∈ pieces 46 p := List.mem_map.2 ⟨x, hx, rfl⟩
    have := List.all_eq_true.1 h.1 _ hm
    unfold prt at this
    simp only [Bool.and_eq_true] at this
    have h2 := List.all_eq_true.1 this.1 u (by simpa using hux)
    rw [e] at h2
    exact absurd h2 (by decide)
theorem ver_no {a b c : Int} {p : ByteArray} (h : verOk a b c p = true) : ∀ u ∈ (verText a b c p).data.toList, u ≠ 64 := by
  have hpre : ∀ u ∈ p.data.toList, u ≠ 64 := by
    have h' := h
    unfold verOk at h'
    simp only [Bool.and_eq_true, Bool.or_eq_true, decide_eq_true_eq] at h'
    rcases h'.2.2.2 with h0 | hp
    · intro u hu
      have : p.data.toList = [] := List.eq_nil_of_length_eq_zero (by rw [data_length]; exact h0)
      rw [this] at hu
      cases hu
    · exact pre_no p hp
  have hA := dig_ne (dec_all a.toNat).1 64 rfl
  have hB := dig_ne (dec_all b.toNat).1 64 rfl
  have hC := dig_ne (dec_all c.toNat).1 64 rfl
  unfold verText
  rw [if_pos h, verT_bytes]
  unfold tailB
  intro u hu
  simp only [List.mem_cons, List.mem_append] at hu
  rcases hu with rfl | hu | rfl | hu | rfl | hu | hu
  · decide
  · exact hA u hu
  · decide
  · exact hB u hu
  · decide
  · exact hC u hu
  · split at hu
    · cases hu
    · rcases List.mem_cons.1 hu with rfl | hu
      · decide
      · exact hpre u hu
theorem cut_cases (c : UInt8) : ∀ l : List UInt8, ((∀ u ∈ l, u ≠ c) ∧ pcs c l = [l] ∧ cutL c l = (l, [])) ∨ (l = (cutL c l).1 ++ c :: (cutL c l).2 ∧ pcs c l = (cutL c l).1 :: pcs c (cutL c l).2)
  | [] => .inl ⟨fun u h => (by cases h), rfl, rfl⟩
  | b :: l => by
    by_cases hb : b = c
    · right
      rw [cutL, if_pos hb, pcs, if_pos hb]
      exact ⟨by rw [hb]; rfl, rfl⟩
    · rw [cutL, if_neg hb, pcs, if_neg hb]
      rcases cut_cases c l with ⟨h1, h2, h3⟩ | ⟨h1, h2⟩
      · left
        refine ⟨fun u hu => ?_, by rw [h2]; rfl, by rw [h3]⟩
        rcases List.mem_cons.1 hu with rfl | hu
        · exact hb
        · exact h1 u hu
      · right
        refine ⟨?_, by rw [h2]; rfl⟩
        show b :: l = b :: ((cutL c l).1 ++ c :: (cutL c l).2)
        rw [← h1]
end Go.Proofs.YtkofdkinaahbpaaDoor.Z

/- Parts of a path, the program's and the reference's: the same. Plain lemmas. -/
set_option linter.unusedVariables false
namespace Go.Proofs.YtkofdkinaahbpaaDoor.Z
open Go.RowKit Go.Proofs.YtkofdkinaahbpaaDoorW.PrintWords Go.Proofs.YtkofdkinaahbpaaDoorW.PrintMore Go.Proofs.YtkofdkinaahbpaaDoor.X Go.Proofs.YtkofdkinaahbpaaDoor.Sp
theorem fig_impl (b : Int) : impl_isFigure.f b = some (decide (48 ≤ b ∧ b ≤ 57)) := by
  unfold impl_isFigure.f
  by_cases h : b ≥ 48
  · rw [if_pos h]
    simp [show 48 ≤ b from h]
  · rw [if_neg h]
    simp [show ¬ 48 ≤ b from h]
theorem ev_rest {c0 : Bool} {z e1 e2 e3 : Prop} [Decidable z] [Decidable e1] [Decidable e2] [Decidable e3] {A : Nat → Option Bool} {r : Bool} (H : (c0 = true ∨ ¬ z ∧ (e1 ∨ e2 ∨ e3)) → Ev A r) (H' : ¬ (c0 = true ∨ ¬ z ∧ (e1 ∨ e2 ∨ e3)) → r = false) :
    Ev (fun k => if c0 = true then A k else if z then some false else if e1 then A k else if e2 then A k else if e3 then A k else some false) r := by
  refine evI (fun h => H (.inl h)) (fun h0 => evI (fun hz => evR (H' (by simp [h0, hz])).symm) (fun hz => evI (fun h => H (.inr ⟨hz, .inl h⟩)) (fun h1 => evI (fun h => H (.inr ⟨hz, .inr (.inl h)⟩)) (fun h2 => evI (fun h => H (.inr ⟨hz, .inr (.inr h)⟩)) (fun h3 => evR (H' ?_).symm)))))
  rintro (h | ⟨_, h | h | h⟩)
  · exact h0 h
  · exact h1 h
  · exact h2 h
  · exact h3 h
theorem part_both (s : ByteArray) (hs : s.size ≤ 1048576) (d : Nat) : ∀ i : Nat, i + d = s.size → ∃ r, Ev (fun k => impl_pathPartOk.l0 k s (i : Int)) r ∧ Ev (fun k => spec_l4Part.l0 k s (i : Int)) r := by
  induction d with
  | zero =>
    intro i hi
    refine ⟨decide ((1 : Int) ≤ s.size ∧ (s.size : Int) ≤ 20), ?_, ?_⟩
    · refine evS (fun k => by rw [impl_pathPartOk.l0]) (evF (by omega) ?_)
      exact evC (rng_impl _ _ _) (evR rfl)
    · refine evS (fun k => by rw [spec_l4Part.l0]) (evF (by omega) ?_)
      exact evC (rng_spec _ _ _) (evR rfl)
  | succ d ih =>
    intro i hi
    have hb := bt_range s (i : Int)
    obtain ⟨r, h1, h2⟩ := ih (i + 1) (by omega)
    have hw : wrap64 (bt s (i : Int)) = bt s (i : Int) := w64 (by omega)
    generalize hx : bt s (i : Int) = b at hb hw
    obtain ⟨r', hr⟩ : ∃ r', r' = if (97 ≤ b ∧ b ≤ 122) ∨ (48 ≤ b ∧ b ≤ 57) ∨ ¬ (i : Int) = 0 ∧ (b = 45 ∨ b = 46 ∨ b = 95) then r else false := ⟨_, rfl⟩
    have Hr : ∀ {A : Nat → Option Bool}, Ev A r → (¬ (97 ≤ b ∧ b ≤ 122)) → (decide (48 ≤ b ∧ b ≤ 57) = true ∨ ¬ (i : Int) = 0 ∧ (b = 45 ∨ b = 46 ∨ b = 95)) → Ev A r' := fun hA _ h => by
      rw [hr, if_pos (.inr (by simpa using h))]
      exact hA
    have Hn : (¬ (97 ≤ b ∧ b ≤ 122)) → ¬ (decide (48 ≤ b ∧ b ≤ 57) = true ∨ ¬ (i : Int) = 0 ∧ (b = 45 ∨ b = 46 ∨ b = 95)) → r' = false := fun ha h => by
      rw [hr, if_neg]
      rintro (h' | h')
      · exact ha h'
      · exact h (by simpa using h')
    have Hl : ∀ {A : Nat → Option Bool}, Ev A r → (97 ≤ b ∧ b ≤ 122) → Ev A r' := fun hA h => by
      rw [hr, if_pos (.inl h)]
      exact hA
    refine ⟨r', ?_, ?_⟩
    · refine evS (fun k => by rw [impl_pathPartOk.l0]) ?_
      rw [hx, w64s (show i < s.size by omega) (by omega)]
      refine evT (by omega) (evT (by omega) ?_)
      by_cases ha : b ≥ 97
      · refine evT ha ?_
        by_cases hc : b ≤ 122
        · exact evT hc (Hl h1 ⟨ha, hc⟩)
        · refine evF hc (evC (fig_impl b) ?_)
          exact ev_rest (Hr h1 (fun h => hc h.2)) (Hn (fun h => hc h.2))
      · refine evF ha (evC (fig_impl b) ?_)
        exact ev_rest (Hr h1 (fun h => ha h.1)) (Hn (fun h => ha h.1))
    · refine evS (fun k => by rw [spec_l4Part.l0]) ?_
      rw [hx, hw, w64s (show i < s.size by omega) (by omega)]
      refine evT (by omega) (evT (by omega) (evC (rng_spec _ _ _) ?_))
      by_cases ha : 97 ≤ b ∧ b ≤ 122
      · exact evT (decide_eq_true ha) (Hl h2 ha)
      · refine evF (by simpa using ha) (evC (rng_spec _ _ _) ?_)
        exact ev_rest (Hr h2 ha) (Hn ha)
theorem part_nil (s : ByteArray) (h : s.size = 0) : Ev (fun k => impl_pathPartOk.f k s) false := by
  show Ev (fun k => impl_pathPartOk.l0 k s 0) false
  refine evS (fun k => by rw [impl_pathPartOk.l0]) (evF (by omega) ?_)
  exact evC (rng_impl _ _ _) (evR (decide_eq_false (by omega)))
theorem path_l0 (s : ByteArray) (l : List ByteArray) (hl : l.length ≤ 1048577) (hm : ∀ x ∈ l, x.size ≤ 1048576) (d : Nat) : ∀ i : Nat, i + d = l.length → ∃ r, Ev (fun k => impl_PathOk.l0 k s l l (l.length : Int) (i : Int)) r ∧ Ev (fun k => spec_PathOk.l0 k s l (i : Int)) r ∧ (r = true → ∀ x ∈ l.drop i, 1 ≤ x.size) := by
  induction d with
  | zero =>
    intro i hi
    have hnil : ∀ b : Bool, b = true → ∀ x ∈ l.drop i, 1 ≤ x.size := fun b _ x hx => by rw [List.drop_eq_nil_of_le (by omega)] at hx; cases hx
    by_cases h6 : (l.length : Int) ≤ 6
    · refine ⟨decide ((s.size : Int) ≤ 60), ?_, ?_, hnil _⟩
      · refine evS (fun k => by rw [impl_PathOk.l0]) (evF (by omega) (evT h6 (evR rfl)))
      · refine evS (fun k => by rw [spec_PathOk.l0]) (evF (by omega) (evT h6 (evR rfl)))
    · refine ⟨false, ?_, ?_, hnil _⟩
      · refine evS (fun k => by rw [impl_PathOk.l0]) (evF (by omega) (evF h6 (evR rfl)))
      · refine evS (fun k => by rw [spec_PathOk.l0]) (evF (by omega) (evF h6 (evR rfl)))
  | succ d ih =>
    intro i hi
    have hz := hm _ (rdOf_mem (l := l) (i := i) (by omega))
    obtain ⟨b, p1, p2⟩ := part_both (rdOf ByteArray.empty l (i : Int)) hz _ 0 (Nat.zero_add _)
    obtain ⟨r, h1, h2, h3⟩ := ih (i + 1) (by omega)
    have il : i < l.length := by omega
    have gl : rdOf ByteArray.empty l (i : Int) = l[i] := by
      have := rdOf_get (d := ByteArray.empty) il
      rw [List.getElem?_eq_getElem il] at this
      exact (Option.some.inj this).symm
    have q1 : Ev (fun k => impl_pathPartOk.f k (rdOf ByteArray.empty l (i : Int))) b := p1
    have q2 : Ev (fun k => spec_l4Part.f k (rdOf ByteArray.empty l (i : Int))) b := p2
    cases b with
    | true =>
      refine ⟨r, ?_, ?_, fun hr x hx => ?_⟩
      rotate_left 2
      · rw [List.drop_eq_getElem_cons il] at hx
        rcases List.mem_cons.1 hx with rfl | hx
        · rw [gl] at q1
          rcases Nat.eq_zero_or_pos l[i].size with h0 | h0
          · have := ev_one q1 (part_nil _ h0)
            cases this
          · exact h0
        · exact h3 hr x hx
      · refine evS (fun k => by rw [impl_PathOk.l0]) ?_
        rw [w64s (show i < l.length by omega) (by omega)]
        exact evT (by omega) (evT (by omega) (evT (by omega) (evB q1 (evT rfl h1))))
      · refine evS (fun k => by rw [spec_PathOk.l0]) ?_
        rw [w64s (show i < l.length by omega) (by omega)]
        exact evT (by omega) (evT (by omega) (evB q2 (evT rfl h2)))
    | false =>
      refine ⟨false, ?_, ?_, fun h => by cases h⟩
      · refine evS (fun k => by rw [impl_PathOk.l0]) ?_
        exact evT (by omega) (evT (by omega) (evT (by omega) (evB q1 (evF Bool.false_ne_true (evR rfl)))))
      · refine evS (fun k => by rw [spec_PathOk.l0]) ?_
        exact evT (by omega) (evT (by omega) (evB q2 (evF Bool.false_ne_true (evR rfl))))
theorem split_impl (s : ByteArray) (hs : s.size ≤ 1048576) (c : UInt8) : strings_Split.f s (⟨#[c]⟩ : ByteArray) = some (pieces c s) := by
  unfold strings_Split.f
  rw [if_pos ⟨by omega, rfl⟩]
  rfl
theorem pathOk_both (s : ByteArray) (hs : s.size ≤ 1048576) : ∃ r, Ev (fun k => impl_PathOk.f k s) r ∧ Ev (fun k => spec_PathOk.f k s) r ∧ (r = true → ∀ x ∈ pieces 47 s, 1 ≤ x.size) := by
  have hc := pieces_count 47 s
  obtain ⟨r, h1, h2, h3⟩ := path_l0 s (pieces 47 s) (by omega) (fun x hx => by have := pieces_mem 47 s x hx; omega) _ 0 (Nat.zero_add _)
  have hS : Ev (fun k => spec_l3Split.f k s 47) (pieces 47 s) := split_spec s hs 47
  refine ⟨r, ?_, ?_, h3⟩
  · unfold impl_PathOk.f
    exact evC (split_impl s hs 47) h1
  · unfold spec_PathOk.f
    exact evB hS h2
end Go.Proofs.YtkofdkinaahbpaaDoor.Z

/- A path's last part that tells a number, the program's way and the reference's. Plain lemmas. -/
set_option linter.unusedVariables false
namespace Go.Proofs.YtkofdkinaahbpaaDoor.Z
open Go.RowKit Go.Proofs.YtkofdkinaahbpaaDoorW.PrintWords Go.Proofs.YtkofdkinaahbpaaDoorW.PrintMore Go.Proofs.YtkofdkinaahbpaaDoor.X Go.Proofs.YtkofdkinaahbpaaDoor.Sp
/-- Where the last byte c lies; -1: nowhere. -/
def lastIx (c : UInt8) (l : List UInt8) : Int := match l.reverse.findIdx? (· = c) with | some j => (l.length : Int) - 1 - j | none => -1
theorem lastIx_snoc_eq (c : UInt8) (l : List UInt8) : lastIx c (l ++ [c]) = l.length := by
  unfold lastIx
  rw [List.reverse_append, List.reverse_singleton, List.singleton_append, List.findIdx?_cons]
  simp
theorem lastIx_snoc_ne (b c : UInt8) (l : List UInt8) (h : b ≠ c) : lastIx c (l ++ [b]) = lastIx c l := by
  unfold lastIx
  rw [List.reverse_append, List.reverse_singleton, List.singleton_append, List.findIdx?_cons]
  simp only [h, decide_false, Bool.false_eq_true, if_false]
  cases l.reverse.findIdx? (fun x => decide (x = c)) with
  | none => rfl
  | some j => simp; omega
theorem last_l0 (s : ByteArray) (hs : s.size ≤ 1048576) (c : UInt8) : ∀ i : Nat, i ≤ s.size → Ev (fun k => bytealg_LastIndexByteString.l0 k s (c.toNat : Int) ((i : Int) - 1)) (lastIx c (s.data.toList.take i)) := by
  intro i
  induction i with
  | zero =>
    intro hi
    refine evS (fun k => by rw [bytealg_LastIndexByteString.l0]) ?_
    exact evF (by omega) (evR rfl)
  | succ i ih =>
    intro hi
    have hl : i < s.data.toList.length := by rw [data_length]; omega
    have hb := byte_at s i (by omega)
    have e0 : (((i + 1 : Nat) : Int) - 1) = (i : Int) := by omega
    rw [e0, List.take_succ_eq_append_getElem hl]
    refine evS (fun k => by rw [bytealg_LastIndexByteString.l0]) ?_
    rw [hb, w64 (x := (i : Int) - 1) (by omega)]
    refine evT (by omega) (evT (by omega) (evT (by omega) ?_))
    by_cases hc : s.data.toList[i] = c
    · refine evT (by rw [hc]) (evR ?_)
      rw [hc, lastIx_snoc_eq, List.length_take, Nat.min_eq_left (by omega)]
    · refine evF (fun e => hc (UInt8.toNat_inj.1 (by omega))) ?_
      rw [lastIx_snoc_ne _ _ _ hc]
      exact ih (by omega)
theorem last_ev (s : ByteArray) (hs : s.size ≤ 1048576) (c : UInt8) : Ev (fun k => strings_LastIndexByte.f k s (c.toNat : Int)) (lastIx c s.data.toList) := by
  unfold strings_LastIndexByte.f
  refine evB (a := lastIx c s.data.toList) ?_ (evR rfl)
  unfold bytealg_LastIndexByteString.f
  rw [w64 (x := (s.size : Int) - 1) (by omega)]
  have := last_l0 s hs c s.size (Nat.le_refl _)
  rwa [List.take_of_length_le (by rw [data_length]; exact Nat.le_refl _)] at this
/-- The last piece, and what is ahead of it. -/
theorem pcs_last (c : UInt8) : ∀ l : List UInt8, (lastIx c l = -1 ∧ pcs c l = [l]) ∨ ∃ a b : List UInt8, l = a ++ c :: b ∧ lastIx c l = a.length ∧ (pcs c l).getLast? = some b ∧ 2 ≤ (pcs c l).length := by
  intro l
  induction l with
  | nil => exact .inl ⟨rfl, rfl⟩
  | cons x l ih =>
    have hap : ∀ (y : UInt8) (m : List UInt8), lastIx c (y :: m) = if lastIx c m = -1 then (if y = c then 0 else -1) else lastIx c m + 1 := by
      intro y m
      unfold lastIx
      rw [List.reverse_cons, List.findIdx?_append]
      cases hf : m.reverse.findIdx? (fun x => decide (x = c)) with
      | some j =>
        have hj := List.findIdx?_eq_some_iff_getElem.1 hf
        obtain ⟨hj1, _⟩ := hj
        rw [List.length_reverse] at hj1
        simp only [Option.some_or, List.length_cons]
        rw [if_neg (by omega)]
        omega
      | none =>
        by_cases hy : y = c
        · simp [hy]
        · simp [hy]
    rw [hap]
    rcases ih with ⟨h1, h2⟩ | ⟨a, b, h1, h2, h3, h4⟩
    · rw [if_pos h1]
      by_cases hx : x = c
      · right
        refine ⟨[], l, by rw [hx]; rfl, by rw [if_pos hx]; rfl, ?_, ?_⟩
        · rw [pcs, if_pos hx, h2]
          rfl
        · rw [pcs, if_pos hx, h2]
          simp
      · left
        rw [if_neg hx]
        exact ⟨rfl, by rw [pcs, if_neg hx, h2]; rfl⟩
    · rw [if_neg (by omega)]
      right
      refine ⟨x :: a, b, by rw [h1]; rfl, by rw [h2]; simp, ?_, ?_⟩
      · by_cases hx : x = c
        · rw [pcs, if_pos hx]
          cases hp : pcs c l with
          | nil => exact absurd hp (pcs_ne c l)
          | cons u v => rw [hp] at h3; rw [List.getLast?_cons_cons]; exact h3
        · rw [pcs, if_neg hx]
          cases hp : pcs c l with
          | nil => exact absurd hp (pcs_ne c l)
          | cons u v =>
            cases v with
            | nil => rw [hp] at h4; simp at h4
            | cons p q =>
              rw [hp] at h3
              rw [List.getLast?_cons_cons] at h3
              show ((x :: u) :: p :: q).getLast? = some b
              rw [List.getLast?_cons_cons]
              exact h3
      · by_cases hx : x = c
        · rw [pcs, if_pos hx]; simp; omega
        · rw [pcs, if_neg hx]
          cases hp : pcs c l with
          | nil => exact absurd hp (pcs_ne c l)
          | cons u v => rw [hp] at h4; simpa [onto] using h4
end Go.Proofs.YtkofdkinaahbpaaDoor.Z

/- A path's number, the program's way and the reference's: the same. Plain lemmas. -/
set_option linter.unusedVariables false
namespace Go.Proofs.YtkofdkinaahbpaaDoor.Z
open Go.RowKit Go.Proofs.YtkofdkinaahbpaaDoorW.PrintWords Go.Proofs.YtkofdkinaahbpaaDoorW.PrintMore Go.Proofs.YtkofdkinaahbpaaDoor.X Go.Proofs.YtkofdkinaahbpaaDoor.Sp
theorem w64p1 (a : Nat) (h : a ≤ 2000000) : wrap64 ((a : Int) + 1) = ((a + 1 : Nat) : Int) := by rw [w64 (by omega)]; omega
theorem w64p2 (a : Nat) (h : a ≤ 2000000) : wrap64 ((a : Int) + 2) = ((a + 2 : Nat) : Int) := by rw [w64 (by omega)]; omega
set_option maxHeartbeats 1000000 in
theorem major_both (s : ByteArray) (hs : s.size ≤ 1048576) (hp : ∀ x ∈ pieces 47 s, 1 ≤ x.size) : ∃ (n : Int) (base : ByteArray), Ev (fun k => impl_cutMajor.f k s) (base, if n = 0 then 1 else n) ∧ Ev (fun k => spec_l4Major.f k s) n ∧
    (n = 0 ∧ base = s ∨ 2 ≤ n ∧ n ≤ 1000 ∧ ∃ (t : ByteArray) (a : Nat), num t = true ∧ n = ((val t.data.toList : Nat) : Int) ∧ base = s.extract 0 a ∧ s.size = a + 2 + t.size) := by
  have hL := last_ev s hs 47
  have hS : Ev (fun k => spec_l3Split.f k s 47) (pieces 47 s) := split_spec s hs 47
  have hcount := pieces_count 47 s
  have hlen1 : 1 ≤ (pieces 47 s).length := by rw [pieces_length]; omega
  have ew : wrap64 (((pieces 47 s).length : Int) - 1) = (((pieces 47 s).length - 1 : Nat) : Int) := by rw [w64 (by omega)]; omega
  rcases pcs_last 47 s.data.toList with ⟨h1, h2⟩ | ⟨a, b, h1, h2, h3, h4⟩
  · refine ⟨0, s, ?_, ?_, .inl ⟨rfl, rfl⟩⟩
    · unfold impl_cutMajor.f
      refine evB hL ?_
      rw [h1]
      refine evT (by omega) ?_
      refine evS (fun k => by rw [impl_cutMajor.j0]) ?_
      exact evT rfl (evR rfl)
    · unfold spec_l4Major.f
      refine evB hS ?_
      have hl : (pieces 47 s).length = 1 := by rw [pieces_toB, h2]; rfl
      rw [ew]
      refine evT (by omega) (evT (by omega) (evT (by omega) ?_))
      refine evS (fun k => by rw [spec_l4Major.j0]) ?_
      exact evT rfl (evR rfl)
  · have EW := Aside0.mk ew
    have H2 := Aside0.mk h2
    clear ew h2
    have hsz : s.size = a.length + 1 + b.length := by rw [← data_length, h1]; simp; omega
    have hl2 : 2 ≤ (pieces 47 s).length := by rw [pieces_toB, List.length_map]; exact h4
    have hlast : rdOf ByteArray.empty (pieces 47 s) (((pieces 47 s).length - 1 : Nat) : Int) = toB b := by
      have g := rdOf_get (d := ByteArray.empty) (l := pieces 47 s) (i := (pieces 47 s).length - 1) (by omega)
      rw [← List.getLast?_eq_getElem?, pieces_toB, List.getLast?_map, h3] at g
      exact (Option.some.inj g).symm
    have hb1 : 1 ≤ b.length := by
      have := hp _ (rdOf_mem (l := pieces 47 s) (i := (pieces 47 s).length - 1) (by omega))
      rw [hlast, toB_size] at this
      exact this
    obtain ⟨x, y, hb⟩ : ∃ x y, b = x :: y := by
      cases b with
      | nil => simp at hb1
      | cons x y => exact ⟨x, y, rfl⟩
    subst hb
    have hsz' : s.size = a.length + 2 + y.length := by rw [List.length_cons] at hsz; omega
    have hy : (toB y).size ≤ 1048576 := by rw [toB_size]; omega
    have w1 := w64p1 a.length (by omega)
    have w2 := w64p2 a.length (by omega)
    have W1 := Aside0.mk w1
    have W2 := Aside0.mk w2
    clear w1 w2
    have hbt : bt s ((a.length + 1 : Nat) : Int) = (x.toNat : Int) := by
      have hlt : a.length + 1 < s.size := by rw [List.length_cons] at hsz; omega
      have hl' : a.length + 1 < s.data.toList.length := by rw [data_length]; exact hlt
      have h5 : s.data.toList[a.length + 1]? = some x := by
        rw [h1, List.getElem?_append_right (by omega), show a.length + 1 - a.length = 1 by omega]
        rfl
      rw [List.getElem?_eq_getElem hl'] at h5
      rw [byte_at s (a.length + 1) hlt]
      exact congrArg (fun u : UInt8 => (u.toNat : Int)) (Option.some.inj h5)
    have hbl : bt (toB (x :: y)) 0 = (x.toNat : Int) := by
      have h6 := byte_at (toB (x :: y)) 0 (by rw [toB_size]; simp)
      have h7 : (toB (x :: y)).data.toList[0]? = some x := by rw [toB_data]; rfl
      rw [List.getElem?_eq_getElem (by rw [toB_data]; simp)] at h7
      exact h6.trans (congrArg (fun u : UInt8 => (u.toNat : Int)) (Option.some.inj h7))
    have ht1 : s.extract (a.length + 2) s.size = toB y := by
      rw [ext_end]
      refine congrArg toB ?_
      rw [h1, List.drop_append, List.drop_eq_nil_of_le (by omega), show a.length + 2 - a.length = 2 by omega]
      rfl
    have ht2 : (toB (x :: y)).extract 1 (toB (x :: y)).size = toB y := by
      rw [ext_end, toB_data]
      rfl
    have HBT := Aside0.mk hbt
    have HBL := Aside0.mk hbl
    clear hbt hbl
    have hne : ¬ (toB (x :: y)).toList = ([] : List UInt8) := by rw [tl, toB_data]; simp
    have hz2 : 0 < ((toB (x :: y)).size : Int) := by rw [toB_size, List.length_cons]; omega
    by_cases hx : (x.toNat : Int) = 118
    · have hxb : ((x.toNat : Int) != 118) = false := bne_eq_false_iff_eq.2 hx
      have hN := numberOf_ev (toB y) hy 4 (by omega)
      have hSn := numS_spec (toB y) hy
      by_cases hr : 2 ≤ numS (toB y) ∧ numS (toB y) ≤ 1000
      · have hsh : short (toB y) = true := (numS_pos _).1 (by omega)
        have hv := Aside0.mk (numS_val hsh)
        have hn : num (toB y) = true := by unfold short at hsh; simp at hsh; exact hsh.1
        have h4' : ((toB y).size : Int) ≤ 4 := by
          have := small4 hsh (by rw [← hv.out]; exact hr.2)
          omega
        rw [if_pos ⟨hn, h4'⟩] at hN
        refine ⟨numS (toB y), s.extract 0 a.length, ?_, ?_, .inr ⟨hr.1, hr.2, toB y, a.length, hn, hv.out, rfl, by rw [toB_size]; exact hsz'⟩⟩
        · rw [if_neg (by omega)]
          unfold impl_cutMajor.f
          refine evB hL ?_
          rw [H2.out, W1.out, HBT.out, hxb]
          refine evF (by omega) (evT (by omega) (evT (by omega) ?_))
          refine evS (fun k => by rw [impl_cutMajor.j0]) ?_
          rw [W2.out, show ((a.length + 2 : Nat) : Int).toNat = a.length + 2 by omega, ht1, show ((a.length : Nat) : Int).toNat = a.length by omega]
          refine evF Bool.false_ne_true (evT (by omega) (evT (by omega) (evB hN (evT rfl (evC (rng_impl _ _ _) ?_)))))
          refine evT (decide_eq_true (by rw [← hv.out]; exact hr)) (evT (by omega) (evT (by omega) (evR ?_)))
          rw [hv.out]
        · unfold spec_l4Major.f
          refine evB hS ?_
          rw [EW.out, hlast]
          refine evT (by omega) (evT (by omega) (evF (by omega) (evF hne (evT hz2 ?_))))
          rw [HBL.out, hxb]
          refine evS (fun k => by rw [spec_l4Major.j0]) ?_
          rw [ht2]
          refine evF Bool.false_ne_true (evT (by omega) (evB hSn (evC (rng_spec _ _ _) ?_)))
          exact evT (decide_eq_true hr) (evR rfl)
      · refine ⟨0, s, ?_, ?_, .inl ⟨rfl, rfl⟩⟩
        · unfold impl_cutMajor.f
          refine evB hL ?_
          rw [H2.out, W1.out, HBT.out, hxb]
          refine evF (by omega) (evT (by omega) (evT (by omega) ?_))
          refine evS (fun k => by rw [impl_cutMajor.j0]) ?_
          rw [W2.out, show ((a.length + 2 : Nat) : Int).toNat = a.length + 2 by omega, ht1]
          refine evF Bool.false_ne_true (evT (by omega) (evT (by omega) (evB hN ?_)))
          by_cases hc : num (toB y) = true ∧ ((toB y).size : Int) ≤ 4
          · rw [if_pos hc]
            have hsh : short (toB y) = true := by unfold short; rw [hc.1, decide_eq_true (show (toB y).size ≤ 8 by omega)]; try rfl
            refine evT rfl (evC (rng_impl _ _ _) (evF ?_ (evR rfl)))
            intro e
            have := of_decide_eq_true e
            rw [← numS_val hsh] at this
            exact hr this
          · rw [if_neg hc]
            exact evF Bool.false_ne_true (evR rfl)
        · unfold spec_l4Major.f
          refine evB hS ?_
          rw [EW.out, hlast]
          refine evT (by omega) (evT (by omega) (evF (by omega) (evF hne (evT hz2 ?_))))
          rw [HBL.out, hxb]
          refine evS (fun k => by rw [spec_l4Major.j0]) ?_
          rw [ht2]
          refine evF Bool.false_ne_true (evT (by omega) (evB hSn (evC (rng_spec _ _ _) ?_)))
          exact evF (fun e => hr (of_decide_eq_true e)) (evR rfl)
    · have hxb : ((x.toNat : Int) != 118) = true := bne_iff_ne.2 hx
      refine ⟨0, s, ?_, ?_, .inl ⟨rfl, rfl⟩⟩
      · unfold impl_cutMajor.f
        refine evB hL ?_
        rw [H2.out, W1.out, HBT.out, hxb]
        refine evF (by omega) (evT (by omega) (evT (by omega) ?_))
        refine evS (fun k => by rw [impl_cutMajor.j0]) ?_
        exact evT rfl (evR rfl)
      · unfold spec_l4Major.f
        refine evB hS ?_
        rw [EW.out, hlast]
        refine evT (by omega) (evT (by omega) (evF (by omega) (evF hne (evT hz2 ?_))))
        rw [HBL.out, hxb]
        refine evS (fun k => by rw [spec_l4Major.j0]) ?_
        exact evT rfl (evR rfl)
end Go.Proofs.YtkofdkinaahbpaaDoor.Z

/- A path's number and base, the program's and the reference's functions: the same. Plain lemmas. -/
set_option linter.unusedVariables false
namespace Go.Proofs.YtkofdkinaahbpaaDoor.Z
open Go.RowKit Go.Proofs.YtkofdkinaahbpaaDoorW.PrintWords Go.Proofs.YtkofdkinaahbpaaDoorW.PrintMore Go.Proofs.YtkofdkinaahbpaaDoor.X Go.Proofs.YtkofdkinaahbpaaDoor.Sp
theorem maj_both (s : ByteArray) (hs : s.size ≤ 1048576) : ∃ m : Int, Ev (fun k => impl_MajorOf.f k s) m ∧ Ev (fun k => spec_MajorOf.f k s) m ∧ 0 ≤ m ∧ m ≤ 1000 := by
  obtain ⟨r, h1, h2, h3⟩ := pathOk_both s hs
  cases r with
  | false =>
    refine ⟨0, ?_, ?_, by omega, by omega⟩
    · unfold impl_MajorOf.f
      exact evB h1 (evF Bool.false_ne_true (evR rfl))
    · unfold spec_MajorOf.f
      exact evB h2 (evF Bool.false_ne_true (evR rfl))
  | true =>
    obtain ⟨n, base, m1, m2, hn⟩ := major_both s hs (h3 rfl)
    refine ⟨if n = 0 then 1 else n, ?_, ?_, ?_, ?_⟩
    · unfold impl_MajorOf.f
      exact evB h1 (evT rfl (evB m1 (evR rfl)))
    · unfold spec_MajorOf.f
      refine evB h2 (evT rfl (evB m2 ?_))
      by_cases h0 : n = 0
      · exact evT h0 (evR (by rw [if_pos h0]))
      · exact evF h0 (evR (by rw [if_neg h0]))
    · split <;> omega
    · split <;> omega
end Go.Proofs.YtkofdkinaahbpaaDoor.Z

/- Does a version fit a path: the program's and the reference's answer are the same. Plain lemmas. -/
set_option linter.unusedVariables false
namespace Go.Proofs.YtkofdkinaahbpaaDoor.Z
open Go.RowKit Go.Proofs.YtkofdkinaahbpaaDoorW.PrintWords Go.Proofs.YtkofdkinaahbpaaDoorW.PrintMore Go.Proofs.YtkofdkinaahbpaaDoor.X Go.Proofs.YtkofdkinaahbpaaDoor.Sp
/-- By the path's number. -/
def fitsM (m a b c : Int) (p : ByteArray) : Bool := decide (0 < m) && (verOk a b c p && (decide (a = m) || (decide (m = 1) && decide (a = 0))))
theorem fits_of (s : ByteArray) (m a b c : Int) (p : ByteArray) (hp : p.size ≤ 1048576) (h1 : Ev (fun k => impl_MajorOf.f k s) m) (h2 : Ev (fun k => spec_MajorOf.f k s) m) :
    Ev (fun k => impl_Fits.f k s a b c p) (fitsM m a b c p) ∧ Ev (fun k => spec_Fits.f k s a b c p) (fitsM m a b c p) := by
  obtain ⟨v1, v2⟩ := verOk_both a b c p hp
  unfold impl_Fits.f spec_Fits.f fitsM
  by_cases hm : 0 < m
  · rw [decide_eq_true hm, Bool.true_and]
    cases hv : verOk a b c p with
    | false =>
      rw [hv] at v1 v2
      exact ⟨evB h1 (evT hm (evB v1 (evF Bool.false_ne_true (evR rfl)))), evB h2 (evT hm (evB v2 (evF Bool.false_ne_true (evR rfl))))⟩
    | true =>
      rw [hv] at v1 v2
      rw [Bool.true_and]
      refine ⟨evB h1 (evT hm (evB v1 (evT rfl ?_))), evB h2 (evT hm (evB v2 (evT rfl ?_)))⟩
      · by_cases ha : a = m
        · exact evT ha (evR (by rw [decide_eq_true ha]; rfl))
        · refine evF ha ?_
          rw [decide_eq_false ha, Bool.false_or]
          by_cases h0 : a = 0
          · refine evT h0 (evR ?_)
            rw [decide_eq_true h0, Bool.and_true]
            by_cases h1 : m = 1 <;> simp [h1]
          · exact evF h0 (evR (by rw [decide_eq_false h0, Bool.and_false]))
      · by_cases ha : a = m
        · exact evT ha (evR (by rw [decide_eq_true ha]; rfl))
        · refine evF ha ?_
          rw [decide_eq_false ha, Bool.false_or]
          by_cases h1 : m = 1
          · refine evT h1 (evR ?_)
            rw [decide_eq_true h1, Bool.true_and]
            by_cases h0 : a = 0 <;> simp [h0]
          · exact evF h1 (evR (by rw [decide_eq_false h1, Bool.false_and]))
  · rw [decide_eq_false hm, Bool.false_and]
    exact ⟨evB h1 (evF (by omega) (evR rfl)), evB h2 (evF (by omega) (evR rfl))⟩
theorem fits_both (s : ByteArray) (a b c : Int) (p : ByteArray) (hs : s.size ≤ 1048576) (hp : p.size ≤ 1048576) : ∃ r, Ev (fun k => impl_Fits.f k s a b c p) r ∧ Ev (fun k => spec_Fits.f k s a b c p) r ∧ (r = true → verOk a b c p = true) := by
  obtain ⟨m, h1, h2, _⟩ := maj_both s hs
  obtain ⟨f1, f2⟩ := fits_of s m a b c p hp h1 h2
  refine ⟨_, f1, f2, fun h => ?_⟩
  unfold fitsM at h
  simp only [Bool.and_eq_true] at h
  exact h.2.1
end Go.Proofs.YtkofdkinaahbpaaDoor.Z

namespace Go.Proofs.YtkofdkinaahbpaaDoor.X
open Go.RowKit Go.Proofs.YtkofdkinaahbpaaDoorW.PrintWords Go.Proofs.YtkofdkinaahbpaaDoorW.PrintLast Go.Proofs.YtkofdkinaahbpaaDoorW.PrintMore
attribute [local go_sem] max2_int min2_int max_two min_two max_three min_three max_four min_four   -- for this text's walks alone
set_option linter.unusedVariables false
set_option linter.unusedSimpArgs false

/-! ### spec_EntryName: function 20 -/
def spec_EntryName.f (k : Nat) (a0 : ByteArray) (a1_0 : Int) (a1_1 : Int) (a1_2 : Int) (a1_3 : ByteArray) : Option (ByteArray) := (spec_Fits.f k a0 a1_0 a1_1 a1_2 a1_3).bind fun t246 => (if t246 = true then (if a0.size + 1 ≤ 9223372036854775807 then ((spec_VersionText.f k a1_0 a1_1 a1_2 a1_3).bind fun t247 => (if (a0 ++ (⟨#[64]⟩ : ByteArray)).size + t247.size ≤ 9223372036854775807 then (some ((a0 ++ (⟨#[64]⟩ : ByteArray)) ++ t247)) else (none))) else (none)) else (some (⟨#[]⟩ : ByteArray)))

end Go.Proofs.YtkofdkinaahbpaaDoor.X

/- A name: the program's and the reference's are the same. Plain lemmas. -/
set_option linter.unusedVariables false
namespace Go.Proofs.YtkofdkinaahbpaaDoor.Z
open Go.RowKit Go.Proofs.YtkofdkinaahbpaaDoorW.PrintWords Go.Proofs.YtkofdkinaahbpaaDoorW.PrintMore Go.Proofs.YtkofdkinaahbpaaDoor.X Go.Proofs.YtkofdkinaahbpaaDoor.Sp
def nameT (r : Bool) (s : ByteArray) (a b c : Int) (p : ByteArray) : ByteArray := if r = true then (s ++ (⟨#[64]⟩ : ByteArray)) ++ verText a b c p else ⟨#[]⟩
theorem name_both (s : ByteArray) (a b c : Int) (p : ByteArray) (r : Bool) (hs : s.size ≤ 1048576) (hp : p.size ≤ 1048576) (f1 : Ev (fun k => impl_Fits.f k s a b c p) r) (f2 : Ev (fun k => spec_Fits.f k s a b c p) r) :
    Ev (fun k => impl_EntryName.f k s a b c p) (nameT r s a b c p) ∧ Ev (fun k => spec_EntryName.f k s a b c p) (nameT r s a b c p) := by
  obtain ⟨t1, t2⟩ := verText_both a b c p hp
  have hz := verText_size a b c p
  have hz2 : (s ++ (⟨#[64]⟩ : ByteArray)).size = s.size + 1 := ByteArray.size_append
  unfold impl_EntryName.f spec_EntryName.f nameT
  cases r with
  | false => exact ⟨evB f1 (evF Bool.false_ne_true (evR rfl)), evB f2 (evF Bool.false_ne_true (evR rfl))⟩
  | true => exact ⟨evB f1 (evT rfl (evT (by omega) (evB t1 (evT (by omega) (evR rfl))))), evB f2 (evT rfl (evT (by omega) (evB t2 (evT (by omega) (evR rfl)))))⟩
end Go.Proofs.YtkofdkinaahbpaaDoor.Z

/- What a text is read as, a name: the program's way and the reference's. Plain lemmas. -/
set_option linter.unusedVariables false
namespace Go.Proofs.YtkofdkinaahbpaaDoor.Z
open Go.RowKit Go.Proofs.YtkofdkinaahbpaaDoorW.PrintWords Go.Proofs.YtkofdkinaahbpaaDoorW.PrintMore Go.Proofs.YtkofdkinaahbpaaDoor.X Go.Proofs.YtkofdkinaahbpaaDoor.Sp
abbrev N6 := ByteArray × Int × Int × Int × ByteArray × Bool
def noN : N6 := (⟨#[]⟩, 0, 0, 0, ⟨#[]⟩, false)
theorem bytes_app (s t : ByteArray) : ((s ++ (⟨#[64]⟩ : ByteArray)) ++ t).data.toList = s.data.toList ++ 64 :: t.data.toList := by
  simp [ByteArray.data_append]
theorem eq_of_bytes {s t : ByteArray} (h : s.data.toList = t.data.toList) : s = t := by
  rw [← toB_self s, ← toB_self t, h]
theorem read_nil : readS (toB []) = noV := by
  unfold readS
  rw [if_neg]
  intro e
  have := e.1
  simp [toB] at this
theorem pname_both (s : ByteArray) (hs : s.size ≤ 1048576) : ∃ r : N6, Ev (fun k => impl_ParseName.f k s) r ∧ Ev (fun k => spec_ParseName.f k s) r ∧
    (r = noN ∨ r.2.2.2.2.2 = true ∧ r.1.size ≤ s.size ∧ r.2.2.2.2.1.size ≤ s.size ∧ Ev (fun k => impl_Fits.f k r.1 r.2.1 r.2.2.1 r.2.2.2.1 r.2.2.2.2.1) true ∧ Ev (fun k => impl_EntryName.f k r.1 r.2.1 r.2.2.1 r.2.2.2.1 r.2.2.2.2.1) s) := by
  have hl := data_length s
  obtain ⟨bb, hc⟩ := cut_ev s 64 hs
  have hS : Ev (fun k => spec_l3Split.f k s 64) (pieces 64 s) := split_spec s hs 64
  have hlen := cutL_len 64 s.data.toList
  have z1 : (toB (cutL 64 s.data.toList).1).size ≤ s.size := by rw [toB_size]; omega
  have z2 : (toB (cutL 64 s.data.toList).2).size ≤ s.size := by rw [toB_size]; omega
  unfold impl_ParseName.f spec_ParseName.f
  have hp : pieces 64 s = (pcs 64 s.data.toList).map toB := pieces_toB 64 s
  obtain ⟨q1, q2⟩ := read_both (toB (cutL 64 s.data.toList).2) (by omega)
  rcases cut_cases 64 s.data.toList with ⟨h1, h2, h3⟩ | ⟨h1, h2⟩
  · refine ⟨noN, ?_, ?_, .inl rfl⟩
    · refine evC hc (evB q1 ?_)
      rw [h3]
      exact evF (by show ¬ (readS (toB [])).2.2.2.2 = true; rw [read_nil]; decide) (evR rfl)
    · refine evB hS ?_
      rw [hp, h2]
      exact evF (by simp) (evR rfl)
  · obtain ⟨A, hA⟩ : ∃ A, (cutL 64 s.data.toList).1 = A := ⟨_, rfl⟩
    obtain ⟨B, hB⟩ : ∃ B, (cutL 64 s.data.toList).2 = B := ⟨_, rfl⟩
    rw [hA, hB] at h1 h2 hc
    rw [hA] at z1
    rw [hB] at z2 q1 q2
    have hne : s ≠ nilB := by
      intro e
      rw [e] at h1
      have : ([] : List UInt8) = A ++ 64 :: B := h1
      simp at this
    obtain ⟨⟨x, y, z, p, ok⟩, hr⟩ : ∃ v, readS (toB B) = v := ⟨_, rfl⟩
    rw [hr] at q1 q2
    cases ok with
    | false =>
      refine ⟨noN, evC hc (evB q1 (evF Bool.false_ne_true (evR rfl))), ?_, .inl rfl⟩
      refine evB hS ?_
      rw [hp, h2]
      by_cases h64 : (((A :: pcs 64 B).map toB).length : Int) = 2
      · refine evT h64 (evT (by omega) ?_)
        have e1 : rdOf ByteArray.empty ((A :: pcs 64 B).map toB) 1 = toB B := by
          rcases cut_cases 64 B with ⟨b1, b2, b3⟩ | ⟨b1, b2⟩
          · rw [b2]; rfl
          · rw [b2] at h64
            have hq : 1 ≤ (pcs 64 (cutL 64 B).2).length := by rw [pcs_length]; omega
            simp at h64
            omega
        rw [e1]
        exact evB q2 (evF Bool.false_ne_true (evR rfl))
      · exact evF h64 (evR rfl)
    | true =>
      obtain ⟨v1, v2, v3⟩ := read_text (toB B) x y z p hr
      have hno : ∀ u ∈ B, u ≠ 64 := by
        have := ver_no v1
        rw [v2, toB_data] at this
        exact this
      have e2 : (A :: pcs 64 B).map toB = [toB A, toB B] := by rw [pcs_miss 64 B hno]; rfl
      have zp : p.size ≤ s.size := by omega
      obtain ⟨r, f1, f2, _⟩ := fits_both (toB A) x y z p (by omega) (by omega)
      obtain ⟨n1, _⟩ := name_both (toB A) x y z p r (by omega) (by omega) f1 f2
      have hS2 : Ev (fun k => spec_l3Split.f k s 64) [toB A, toB B] := by rw [hp, h2, e2] at hS; exact hS
      cases r with
      | false =>
        refine ⟨noN, evC hc (evB q1 (evT rfl (evB n1 (evF ?_ (evR rfl))))), ?_, .inl rfl⟩
        · intro e
          exact hne (tl_inj.1 e).symm
        · refine evB hS2 (evT rfl (evT (by show (1 : Int) < ((2 : Nat) : Int); decide) (evB q2 (evT rfl (evT (by show (0 : Int) < ((2 : Nat) : Int); decide) (evB f2 (evF Bool.false_ne_true (evR rfl))))))))
      | true =>
        have hn : nameT true (toB A) x y z p = s := by
          unfold nameT
          rw [if_pos rfl, v2]
          apply eq_of_bytes
          rw [bytes_app, toB_data, toB_data]
          exact h1.symm
        rw [hn] at n1
        refine ⟨(toB A, x, y, z, p, true), evC hc (evB q1 (evT rfl (evB n1 (evT rfl (evF ?_ (evR rfl)))))), ?_, .inr ⟨rfl, by omega, by omega, f1, n1⟩⟩
        · intro e
          have h0 := (nil_iff' s).1 e
          apply hne
          apply eq_of_bytes
          rw [List.eq_nil_of_length_eq_zero (show s.data.toList.length = 0 by omega)]
          rfl
        · exact evB hS2 (evT rfl (evT (by show (1 : Int) < ((2 : Nat) : Int); decide) (evB q2 (evT rfl (evT (by show (0 : Int) < ((2 : Nat) : Int); decide) (evB f2 (evT rfl (evR rfl))))))))
end Go.Proofs.YtkofdkinaahbpaaDoor.Z

/- The law FnExactParseName, as a plain statement: the program's ParseName answers as the reference's. Conditions: those of the row's reading alone. -/
namespace Go.Proofs.YtkofdkinaahbpaaDoor.Pure
open Go.RowKit Go.Proofs.YtkofdkinaahbpaaDoor.X Go.Proofs.YtkofdkinaahbpaaDoor.Z Go.Proofs.YtkofdkinaahbpaaDoorW.PrintWords Go.Proofs.YtkofdkinaahbpaaDoorW.PrintLast
theorem eqNeed_same (s : ByteArray) (a b c : Int) (p : ByteArray) : laws_eqNeed.f s a b c p s a b c p = some true := by
  unfold laws_eqNeed.f laws_eqVersion.f
  rw [if_pos rfl, if_pos rfl, if_pos rfl, if_pos rfl, if_pos rfl]
  rfl
theorem FnExactParseName : laws_FnExactParseName.Pure := by
  intro s hs
  refine Ev.rounds ?_
  unfold laws_FnExactParseName.f
  refine evI (fun _ => evR rfl) (fun hl => ?_)
  obtain ⟨r, hI, hS, _⟩ := pname_both s (by omega)
  refine evB hS (evB hI (evC (eqNeed_same _ _ _ _ _) (evT rfl (evF ?_ (evR rfl)))))
  cases r.2.2.2.2.2 <;> decide
end Go.Proofs.YtkofdkinaahbpaaDoor.Pure

/- Values that come in as data (strings' slices, structs, slices of structs, nested) are of the printer's kinds: one lemma a make of type. Plain lemmas for the rows of laws over such parameters. No conditions beyond what each lemma names. -/
set_option linter.unusedVariables false
namespace Go.Proofs.YtkofdkinaahbpaaDoor.Y
open Go.RowKit Go.Proofs.YtkofdkinaahbpaaDoorW.PrintWords Go.ChangeShapes Go.WideShapes Go.Deep




end Go.Proofs.YtkofdkinaahbpaaDoor.Y

/- Three closed facts of the rows of this seat (how the program may be entered), by the first words of the translation's head row. No conditions. -/
namespace Go.Proofs.YtkofdkinaahbpaaDoor.Y
open Go.ChangeShapes Go.WideShapes Go.ChangeAt Go.RowKit
def tailSigns : List Char := [Char.ofNat 108, Char.ofNat 111, Char.ofNat 111, Char.ofNat 112, Char.ofNat 46, Char.ofNat 101, Char.ofNat 120, Char.ofNat 97, Char.ofNat 109, Char.ofNat 112, Char.ofNat 108, Char.ofNat 101, Char.ofNat 47, Char.ofNat 103, Char.ofNat 48, Char.ofNat 48, Char.ofNat 50, Char.ofNat 51, Char.ofNat 51, Char.ofNat 47, Char.ofNat 108, Char.ofNat 97, Char.ofNat 119, Char.ofNat 115, Char.ofNat 46, Char.ofNat 70, Char.ofNat 110, Char.ofNat 69, Char.ofNat 120, Char.ofNat 97, Char.ofNat 99, Char.ofNat 116, Char.ofNat 70, Char.ofNat 105, Char.ofNat 116, Char.ofNat 115, Char.ofNat 32, Char.ofNat 108, Char.ofNat 111, Char.ofNat 111, Char.ofNat 112, Char.ofNat 46, Char.ofNat 101, Char.ofNat 120, Char.ofNat 97, Char.ofNat 109, Char.ofNat 112, Char.ofNat 108, Char.ofNat 101, Char.ofNat 47, Char.ofNat 103, Char.ofNat 48, Char.ofNat 48, Char.ofNat 50, Char.ofNat 51, Char.ofNat 51, Char.ofNat 47, Char.ofNat 108, Char.ofNat 97, Char.ofNat 119, Char.ofNat 115, Char.ofNat 46, Char.ofNat 70, Char.ofNat 110, Char.ofNat 69, Char.ofNat 120, Char.ofNat 97, Char.ofNat 99, Char.ofNat 116, Char.ofNat 78, Char.ofNat 101, Char.ofNat 101, Char.ofNat 100, Char.ofNat 79, Char.ofNat 107, Char.ofNat 32, Char.ofNat 108, Char.ofNat 111, Char.ofNat 111, Char.ofNat 112, Char.ofNat 46, Char.ofNat 101, Char.ofNat 120, Char.ofNat 97, Char.ofNat 109, Char.ofNat 112, Char.ofNat 108, Char.ofNat 101, Char.ofNat 47, Char.ofNat 103, Char.ofNat 48, Char.ofNat 48, Char.ofNat 50, Char.ofNat 51, Char.ofNat 51, Char.ofNat 47, Char.ofNat 108, Char.ofNat 97, Char.ofNat 119, Char.ofNat 115, Char.ofNat 46, Char.ofNat 70, Char.ofNat 110, Char.ofNat 69, Char.ofNat 120, Char.ofNat 97, Char.ofNat 99, Char.ofNat 116, Char.ofNat 69, Char.ofNat 110, Char.ofNat 116, Char.ofNat 114, Char.ofNat 121, Char.ofNat 78, Char.ofNat 97, Char.ofNat 109, Char.ofNat 101, Char.ofNat 32, Char.ofNat 108, Char.ofNat 111, Char.ofNat 111, Char.ofNat 112, Char.ofNat 46, Char.ofNat 101, Char.ofNat 120, Char.ofNat 97, Char.ofNat 109, Char.ofNat 112, Char.ofNat 108, Char.ofNat 101, Char.ofNat 47, Char.ofNat 103, Char.ofNat 48, Char.ofNat 48, Char.ofNat 50, Char.ofNat 51, Char.ofNat 51, Char.ofNat 47, Char.ofNat 108, Char.ofNat 97, Char.ofNat 119, Char.ofNat 115, Char.ofNat 46, Char.ofNat 70, Char.ofNat 110, Char.ofNat 86, Char.ofNat 101, Char.ofNat 114, Char.ofNat 115, Char.ofNat 105, Char.ofNat 111, Char.ofNat 110, Char.ofNat 115, Char.ofNat 32, Char.ofNat 108, Char.ofNat 111, Char.ofNat 111, Char.ofNat 112, Char.ofNat 46, Char.ofNat 101, Char.ofNat 120, Char.ofNat 97, Char.ofNat 109, Char.ofNat 112, Char.ofNat 108, Char.ofNat 101, Char.ofNat 47, Char.ofNat 103, Char.ofNat 48, Char.ofNat 48, Char.ofNat 50, Char.ofNat 51, Char.ofNat 51, Char.ofNat 47, Char.ofNat 108, Char.ofNat 97, Char.ofNat 119, Char.ofNat 115, Char.ofNat 46, Char.ofNat 70, Char.ofNat 110, Char.ofNat 77, Char.ofNat 111, Char.ofNat 100, Char.ofNat 117, Char.ofNat 108, Char.ofNat 101, Char.ofNat 115, Char.ofNat 32, Char.ofNat 108, Char.ofNat 111, Char.ofNat 111, Char.ofNat 112, Char.ofNat 46, Char.ofNat 101, Char.ofNat 120, Char.ofNat 97, Char.ofNat 109, Char.ofNat 112, Char.ofNat 108, Char.ofNat 101, Char.ofNat 47, Char.ofNat 103, Char.ofNat 48, Char.ofNat 48, Char.ofNat 50, Char.ofNat 51, Char.ofNat 51, Char.ofNat 47, Char.ofNat 108, Char.ofNat 97, Char.ofNat 119, Char.ofNat 115, Char.ofNat 46, Char.ofNat 70, Char.ofNat 110, Char.ofNat 70, Char.ofNat 105, Char.ofNat 116, Char.ofNat 115, Char.ofNat 32, Char.ofNat 108, Char.ofNat 111, Char.ofNat 111, Char.ofNat 112, Char.ofNat 46, Char.ofNat 101, Char.ofNat 120, Char.ofNat 97, Char.ofNat 109, Char.ofNat 112, Char.ofNat 108, Char.ofNat 101, Char.ofNat 47, Char.ofNat 103, Char.ofNat 48, Char.ofNat 48, Char.ofNat 50, Char.ofNat 51, Char.ofNat 51, Char.ofNat 47, Char.ofNat 108, Char.ofNat 97, Char.ofNat 119, Char.ofNat 115, Char.ofNat 46, Char.ofNat 70, Char.ofNat 110, Char.ofNat 69, Char.ofNat 120, Char.ofNat 97, Char.ofNat 99, Char.ofNat 116, Char.ofNat 78, Char.ofNat 101, Char.ofNat 101, Char.ofNat 100, Char.ofNat 115, Char.ofNat 79, Char.ofNat 107, Char.ofNat 32, Char.ofNat 108, Char.ofNat 111, Char.ofNat 111, Char.ofNat 112, Char.ofNat 46, Char.ofNat 101, Char.ofNat 120, Char.ofNat 97, Char.ofNat 109, Char.ofNat 112, Char.ofNat 108, Char.ofNat 101, Char.ofNat 47, Char.ofNat 103, Char.ofNat 48, Char.ofNat 48, Char.ofNat 50, Char.ofNat 51, Char.ofNat 51, Char.ofNat 47, Char.ofNat 108, Char.ofNat 97, Char.ofNat 119, Char.ofNat 115, Char.ofNat 46, Char.ofNat 70, Char.ofNat 110, Char.ofNat 69, Char.ofNat 120, Char.ofNat 97, Char.ofNat 99, Char.ofNat 116, Char.ofNat 80, Char.ofNat 97, Char.ofNat 114, Char.ofNat 115, Char.ofNat 101, Char.ofNat 78, Char.ofNat 97, Char.ofNat 109, Char.ofNat 101, Char.ofNat 32, Char.ofNat 108, Char.ofNat 111, Char.ofNat 111, Char.ofNat 112, Char.ofNat 46, Char.ofNat 101, Char.ofNat 120, Char.ofNat 97, Char.ofNat 109, Char.ofNat 112, Char.ofNat 108, Char.ofNat 101, Char.ofNat 47, Char.ofNat 103, Char.ofNat 48, Char.ofNat 48, Char.ofNat 50, Char.ofNat 51, Char.ofNat 51, Char.ofNat 47, Char.ofNat 108, Char.ofNat 97, Char.ofNat 119, Char.ofNat 115, Char.ofNat 46, Char.ofNat 70, Char.ofNat 110, Char.ofNat 69, Char.ofNat 120, Char.ofNat 97, Char.ofNat 99, Char.ofNat 116, Char.ofNat 69, Char.ofNat 110, Char.ofNat 116, Char.ofNat 114, Char.ofNat 121, Char.ofNat 79, Char.ofNat 107]
set_option maxRecDepth 100000 in
theorem initOrder_lit : Tryd.pinned.checked.prog.initOrder = "harness ca20538b8ae1844212bbd2dcac9b02739c173303d55c1ed7aee058458b355a1f cut at loop.example/g00233/laws.FnExactFits loop.example/g00233/laws.FnExactNeedOk loop.example/g00233/laws.FnExactEntryName loop.example/g00233/laws.FnVersions loop.example/g00233/laws.FnModules loop.example/g00233/laws.FnFits loop.example/g00233/laws.FnExactNeedsOk loop.example/g00233/laws.FnExactParseName loop.example/g00233/laws.FnExactEntryOk" := by kernel_rfl
set_option maxRecDepth 100000 in
theorem lit_list : ("harness ca20538b8ae1844212bbd2dcac9b02739c173303d55c1ed7aee058458b355a1f cut at loop.example/g00233/laws.FnExactFits loop.example/g00233/laws.FnExactNeedOk loop.example/g00233/laws.FnExactEntryName loop.example/g00233/laws.FnVersions loop.example/g00233/laws.FnModules loop.example/g00233/laws.FnFits loop.example/g00233/laws.FnExactNeedsOk loop.example/g00233/laws.FnExactParseName loop.example/g00233/laws.FnExactEntryOk" : String) = String.ofList (Char.ofNat 104 :: Char.ofNat 97 :: Char.ofNat 114 :: Char.ofNat 110 :: Char.ofNat 101 :: Char.ofNat 115 :: Char.ofNat 115 :: Char.ofNat 32 :: Char.ofNat 99 :: Char.ofNat 97 :: Char.ofNat 50 :: Char.ofNat 48 :: Char.ofNat 53 :: Char.ofNat 51 :: Char.ofNat 56 :: Char.ofNat 98 :: Char.ofNat 56 :: Char.ofNat 97 :: Char.ofNat 101 :: Char.ofNat 49 :: Char.ofNat 56 :: Char.ofNat 52 :: Char.ofNat 52 :: Char.ofNat 50 :: Char.ofNat 49 :: Char.ofNat 50 :: Char.ofNat 98 :: Char.ofNat 98 :: Char.ofNat 100 :: Char.ofNat 50 :: Char.ofNat 100 :: Char.ofNat 99 :: Char.ofNat 97 :: Char.ofNat 99 :: Char.ofNat 57 :: Char.ofNat 98 :: Char.ofNat 48 :: Char.ofNat 50 :: Char.ofNat 55 :: Char.ofNat 51 :: Char.ofNat 57 :: Char.ofNat 99 :: Char.ofNat 49 :: Char.ofNat 55 :: Char.ofNat 51 :: Char.ofNat 51 :: Char.ofNat 48 :: Char.ofNat 51 :: Char.ofNat 100 :: Char.ofNat 53 :: Char.ofNat 53 :: Char.ofNat 99 :: Char.ofNat 49 :: Char.ofNat 101 :: Char.ofNat 100 :: Char.ofNat 55 :: Char.ofNat 97 :: Char.ofNat 101 :: Char.ofNat 101 :: Char.ofNat 48 :: Char.ofNat 53 :: Char.ofNat 56 :: Char.ofNat 52 :: Char.ofNat 53 :: Char.ofNat 56 :: Char.ofNat 98 :: Char.ofNat 51 :: Char.ofNat 53 :: Char.ofNat 53 :: Char.ofNat 97 :: Char.ofNat 49 :: Char.ofNat 102 :: Char.ofNat 32 :: Char.ofNat 99 :: Char.ofNat 117 :: Char.ofNat 116 :: Char.ofNat 32 :: Char.ofNat 97 :: Char.ofNat 116 :: Char.ofNat 32 :: tailSigns) := by kernel_rfl
theorem initOrder_list : Tryd.pinned.checked.prog.initOrder.toList = Char.ofNat 104 :: Char.ofNat 97 :: Char.ofNat 114 :: Char.ofNat 110 :: Char.ofNat 101 :: Char.ofNat 115 :: Char.ofNat 115 :: Char.ofNat 32 :: Char.ofNat 99 :: Char.ofNat 97 :: Char.ofNat 50 :: Char.ofNat 48 :: Char.ofNat 53 :: Char.ofNat 51 :: Char.ofNat 56 :: Char.ofNat 98 :: Char.ofNat 56 :: Char.ofNat 97 :: Char.ofNat 101 :: Char.ofNat 49 :: Char.ofNat 56 :: Char.ofNat 52 :: Char.ofNat 52 :: Char.ofNat 50 :: Char.ofNat 49 :: Char.ofNat 50 :: Char.ofNat 98 :: Char.ofNat 98 :: Char.ofNat 100 :: Char.ofNat 50 :: Char.ofNat 100 :: Char.ofNat 99 :: Char.ofNat 97 :: Char.ofNat 99 :: Char.ofNat 57 :: Char.ofNat 98 :: Char.ofNat 48 :: Char.ofNat 50 :: Char.ofNat 55 :: Char.ofNat 51 :: Char.ofNat 57 :: Char.ofNat 99 :: Char.ofNat 49 :: Char.ofNat 55 :: Char.ofNat 51 :: Char.ofNat 51 :: Char.ofNat 48 :: Char.ofNat 51 :: Char.ofNat 100 :: Char.ofNat 53 :: Char.ofNat 53 :: Char.ofNat 99 :: Char.ofNat 49 :: Char.ofNat 101 :: Char.ofNat 100 :: Char.ofNat 55 :: Char.ofNat 97 :: Char.ofNat 101 :: Char.ofNat 101 :: Char.ofNat 48 :: Char.ofNat 53 :: Char.ofNat 56 :: Char.ofNat 52 :: Char.ofNat 53 :: Char.ofNat 56 :: Char.ofNat 98 :: Char.ofNat 51 :: Char.ofNat 53 :: Char.ofNat 53 :: Char.ofNat 97 :: Char.ofNat 49 :: Char.ofNat 102 :: Char.ofNat 32 :: Char.ofNat 99 :: Char.ofNat 117 :: Char.ofNat 116 :: Char.ofNat 32 :: Char.ofNat 97 :: Char.ofNat 116 :: Char.ofNat 32 :: tailSigns := (congrArg String.toList (initOrder_lit.trans lit_list)).trans String.toList_ofList
theorem words_at (r : List Char) : wordsSigns (Char.ofNat 104 :: Char.ofNat 97 :: Char.ofNat 114 :: Char.ofNat 110 :: Char.ofNat 101 :: Char.ofNat 115 :: Char.ofNat 115 :: Char.ofNat 32 :: Char.ofNat 99 :: Char.ofNat 97 :: Char.ofNat 50 :: Char.ofNat 48 :: Char.ofNat 53 :: Char.ofNat 51 :: Char.ofNat 56 :: Char.ofNat 98 :: Char.ofNat 56 :: Char.ofNat 97 :: Char.ofNat 101 :: Char.ofNat 49 :: Char.ofNat 56 :: Char.ofNat 52 :: Char.ofNat 52 :: Char.ofNat 50 :: Char.ofNat 49 :: Char.ofNat 50 :: Char.ofNat 98 :: Char.ofNat 98 :: Char.ofNat 100 :: Char.ofNat 50 :: Char.ofNat 100 :: Char.ofNat 99 :: Char.ofNat 97 :: Char.ofNat 99 :: Char.ofNat 57 :: Char.ofNat 98 :: Char.ofNat 48 :: Char.ofNat 50 :: Char.ofNat 55 :: Char.ofNat 51 :: Char.ofNat 57 :: Char.ofNat 99 :: Char.ofNat 49 :: Char.ofNat 55 :: Char.ofNat 51 :: Char.ofNat 51 :: Char.ofNat 48 :: Char.ofNat 51 :: Char.ofNat 100 :: Char.ofNat 53 :: Char.ofNat 53 :: Char.ofNat 99 :: Char.ofNat 49 :: Char.ofNat 101 :: Char.ofNat 100 :: Char.ofNat 55 :: Char.ofNat 97 :: Char.ofNat 101 :: Char.ofNat 101 :: Char.ofNat 48 :: Char.ofNat 53 :: Char.ofNat 56 :: Char.ofNat 52 :: Char.ofNat 53 :: Char.ofNat 56 :: Char.ofNat 98 :: Char.ofNat 51 :: Char.ofNat 53 :: Char.ofNat 53 :: Char.ofNat 97 :: Char.ofNat 49 :: Char.ofNat 102 :: Char.ofNat 32 :: Char.ofNat 99 :: Char.ofNat 117 :: Char.ofNat 116 :: Char.ofNat 32 :: Char.ofNat 97 :: Char.ofNat 116 :: Char.ofNat 32 :: r) = [Char.ofNat 104, Char.ofNat 97, Char.ofNat 114, Char.ofNat 110, Char.ofNat 101, Char.ofNat 115, Char.ofNat 115] :: [Char.ofNat 99, Char.ofNat 97, Char.ofNat 50, Char.ofNat 48, Char.ofNat 53, Char.ofNat 51, Char.ofNat 56, Char.ofNat 98, Char.ofNat 56, Char.ofNat 97, Char.ofNat 101, Char.ofNat 49, Char.ofNat 56, Char.ofNat 52, Char.ofNat 52, Char.ofNat 50, Char.ofNat 49, Char.ofNat 50, Char.ofNat 98, Char.ofNat 98, Char.ofNat 100, Char.ofNat 50, Char.ofNat 100, Char.ofNat 99, Char.ofNat 97, Char.ofNat 99, Char.ofNat 57, Char.ofNat 98, Char.ofNat 48, Char.ofNat 50, Char.ofNat 55, Char.ofNat 51, Char.ofNat 57, Char.ofNat 99, Char.ofNat 49, Char.ofNat 55, Char.ofNat 51, Char.ofNat 51, Char.ofNat 48, Char.ofNat 51, Char.ofNat 100, Char.ofNat 53, Char.ofNat 53, Char.ofNat 99, Char.ofNat 49, Char.ofNat 101, Char.ofNat 100, Char.ofNat 55, Char.ofNat 97, Char.ofNat 101, Char.ofNat 101, Char.ofNat 48, Char.ofNat 53, Char.ofNat 56, Char.ofNat 52, Char.ofNat 53, Char.ofNat 56, Char.ofNat 98, Char.ofNat 51, Char.ofNat 53, Char.ofNat 53, Char.ofNat 97, Char.ofNat 49, Char.ofNat 102] :: [Char.ofNat 99, Char.ofNat 117, Char.ofNat 116] :: [Char.ofNat 97, Char.ofNat 116] :: wordsSigns r := by kernel_rfl
theorem behind_at (t : List (List Char)) : behindMainWord ([Char.ofNat 104, Char.ofNat 97, Char.ofNat 114, Char.ofNat 110, Char.ofNat 101, Char.ofNat 115, Char.ofNat 115] :: [Char.ofNat 99, Char.ofNat 97, Char.ofNat 50, Char.ofNat 48, Char.ofNat 53, Char.ofNat 51, Char.ofNat 56, Char.ofNat 98, Char.ofNat 56, Char.ofNat 97, Char.ofNat 101, Char.ofNat 49, Char.ofNat 56, Char.ofNat 52, Char.ofNat 52, Char.ofNat 50, Char.ofNat 49, Char.ofNat 50, Char.ofNat 98, Char.ofNat 98, Char.ofNat 100, Char.ofNat 50, Char.ofNat 100, Char.ofNat 99, Char.ofNat 97, Char.ofNat 99, Char.ofNat 57, Char.ofNat 98, Char.ofNat 48, Char.ofNat 50, Char.ofNat 55, Char.ofNat 51, Char.ofNat 57, Char.ofNat 99, Char.ofNat 49, Char.ofNat 55, Char.ofNat 51, Char.ofNat 51, Char.ofNat 48, Char.ofNat 51, Char.ofNat 100, Char.ofNat 53, Char.ofNat 53, Char.ofNat 99, Char.ofNat 49, Char.ofNat 101, Char.ofNat 100, Char.ofNat 55, Char.ofNat 97, Char.ofNat 101, Char.ofNat 101, Char.ofNat 48, Char.ofNat 53, Char.ofNat 56, Char.ofNat 52, Char.ofNat 53, Char.ofNat 56, Char.ofNat 98, Char.ofNat 51, Char.ofNat 53, Char.ofNat 53, Char.ofNat 97, Char.ofNat 49, Char.ofNat 102] :: [Char.ofNat 99, Char.ofNat 117, Char.ofNat 116] :: [Char.ofNat 97, Char.ofNat 116] :: t) = [Char.ofNat 99, Char.ofNat 117, Char.ofNat 116] :: [Char.ofNat 97, Char.ofNat 116] :: t := by kernel_rfl
theorem behind_all : behindMainWord (wordsSigns Tryd.pinned.checked.prog.initOrder.toList) = [Char.ofNat 99, Char.ofNat 117, Char.ofNat 116] :: [Char.ofNat 97, Char.ofNat 116] :: wordsSigns tailSigns := by rw [initOrder_list, words_at, behind_at]
theorem make_of (c : List Char) (rest : List (List Char)) (P : Program) (h0 : (c == "gc".toList) = false) (h1 : (c == "spec".toList) = false) (h2 : (c == "cut".toList) = true) (h : behindMainWord (wordsSigns P.initOrder.toList) = c :: rest) : P.make = some .cut := by
  unfold Program.make
  rw [h]
  simp only [h0, h1, h2]
  rfl
theorem mayEnter_of (c : List Char) (rest : List (List Char)) (P : Program) (h0 : (c == "gc".toList) = false) (h1 : (c == "spec".toList) = false) (h2 : (c == "carried".toList) = false) (h : behindMainWord (wordsSigns P.initOrder.toList) = c :: rest)
    (h3 : ((stripLifts liftWords (c :: rest)).2.head? == some "cut".toList) = true) (h4 : P.laysLater = false) (h5 : P.bearsReflect = false) (h6 : P.doorFits (stripLifts liftWords (c :: rest)).1 = true) (h7 : (stripLifts liftWords (c :: rest)).1.contains "leanrows" = false) : P.mayEnter = true := by
  unfold Program.mayEnter
  rw [h]
  simp only [h0, h1, h2, h3, h4, h5, h6, h7]
  simp
theorem liftsFinal_of (c : List Char) (rest : List (List Char)) (P : Program) (h2 : (some c == some "carried".toList) = false) (h : behindMainWord (wordsSigns P.initOrder.toList) = c :: rest)
    (h3 : ((stripLifts liftWords (c :: rest)).2.head? == some "cut".toList) = true) (h7 : (stripLifts liftWords (c :: rest)).1.contains "finals" = false) : P.liftsFinal = false := by
  unfold Program.liftsFinal Program.headLifts
  rw [h]
  simp only [List.head?_cons, h2, h3, if_true, h7, Bool.false_and, Bool.or_self]
theorem strip_at (t : List (List Char)) : stripLifts liftWords ([Char.ofNat 99, Char.ofNat 117, Char.ofNat 116] :: [Char.ofNat 97, Char.ofNat 116] :: t) = ([], [Char.ofNat 99, Char.ofNat 117, Char.ofNat 116] :: [Char.ofNat 97, Char.ofNat 116] :: t) := by kernel_rfl
theorem laysLater_at : Tryd.pinned.checked.prog.laysLater = false := by kernel_rfl
theorem bearsReflect_at : Tryd.pinned.checked.prog.bearsReflect = false := by kernel_rfl
theorem doorFits_at : Tryd.pinned.checked.prog.doorFits [] = true := by kernel_rfl
theorem mayEnter_at : Tryd.pinned.checked.prog.mayEnter = true :=
  mayEnter_of _ _ _ (by kernel_rfl) (by kernel_rfl) (by kernel_rfl) behind_all (by rw [strip_at]; generalize wordsSigns tailSigns = t; kernel_rfl) laysLater_at bearsReflect_at (by rw [strip_at]; exact doorFits_at) (by rw [strip_at]; rfl)
theorem liftsFinal_at : Tryd.pinned.checked.prog.liftsFinal = false :=
  liftsFinal_of _ _ _ (by kernel_rfl) behind_all (by rw [strip_at]; generalize wordsSigns tailSigns = t; kernel_rfl) (by rw [strip_at]; rfl)
theorem make_at : Tryd.pinned.checked.prog.make = some .cut := make_of _ _ _ (by kernel_rfl) (by kernel_rfl) (by kernel_rfl) behind_all
end Go.Proofs.YtkofdkinaahbpaaDoor.Y

/- A world for the witnesses: the settled one, the listed tables holding what their initialisers lay. No conditions. -/
namespace Go.Proofs.YtkofdkinaahbpaaDoor.Y
open Go.ChangeShapes Go.WideShapes Go.ChangeAt Go.RowKit
noncomputable def laidWorld (os : Os) : World :=
  { World.holding Tryd.prog os ⟨#[], #[], []⟩ with heap := ((((((((((World.holding Tryd.prog os ⟨#[], #[], []⟩).heap).modify 1 (fun o => match o with | .cells _ t z => .cells #[Value.int .u64 1, Value.int .u64 10, Value.int .u64 100, Value.int .u64 1000, Value.int .u64 10000, Value.int .u64 100000, Value.int .u64 1000000, Value.int .u64 10000000, Value.int .u64 100000000, Value.int .u64 1000000000, Value.int .u64 10000000000, Value.int .u64 100000000000, Value.int .u64 1000000000000, Value.int .u64 10000000000000, Value.int .u64 100000000000000, Value.int .u64 1000000000000000, Value.int .u64 10000000000000000, Value.int .u64 100000000000000000, Value.int .u64 1000000000000000000, Value.int .u64 10000000000000000000] t z | o => o)).modify 4 (fun o => match o with | .cells _ t z => .cells ((Go.Pinned.utf8FirstZ.map fun (n : Nat) => Value.int .u8 (n : Int)).toArray) t z | o => o)).modify 5 (fun o => match o with | .cells _ t z => .cells #[Value.int .u8 128, Value.int .u8 191, Value.int .u8 160, Value.int .u8 191, Value.int .u8 128, Value.int .u8 159, Value.int .u8 144, Value.int .u8 191, Value.int .u8 128, Value.int .u8 143, Value.int .u8 0, Value.int .u8 0, Value.int .u8 0, Value.int .u8 0, Value.int .u8 0, Value.int .u8 0, Value.int .u8 0, Value.int .u8 0, Value.int .u8 0, Value.int .u8 0, Value.int .u8 0, Value.int .u8 0, Value.int .u8 0, Value.int .u8 0, Value.int .u8 0, Value.int .u8 0, Value.int .u8 0, Value.int .u8 0, Value.int .u8 0, Value.int .u8 0, Value.int .u8 0, Value.int .u8 0] t z | o => o)).modify 6 (fun o => match o with | .cells _ t z => .cells #[Value.int .u8 0, Value.int .u8 1, Value.int .u8 28, Value.int .u8 2, Value.int .u8 29, Value.int .u8 14, Value.int .u8 24, Value.int .u8 3, Value.int .u8 30, Value.int .u8 22, Value.int .u8 20, Value.int .u8 15, Value.int .u8 25, Value.int .u8 17, Value.int .u8 4, Value.int .u8 8, Value.int .u8 31, Value.int .u8 27, Value.int .u8 13, Value.int .u8 23, Value.int .u8 21, Value.int .u8 19, Value.int .u8 16, Value.int .u8 7, Value.int .u8 26, Value.int .u8 12, Value.int .u8 18, Value.int .u8 6, Value.int .u8 11, Value.int .u8 5, Value.int .u8 10, Value.int .u8 9] t z | o => o)).modify 7 (fun o => match o with | .cells _ t z => .cells #[Value.int .u8 0, Value.int .u8 1, Value.int .u8 56, Value.int .u8 2, Value.int .u8 57, Value.int .u8 49, Value.int .u8 28, Value.int .u8 3, Value.int .u8 61, Value.int .u8 58, Value.int .u8 42, Value.int .u8 50, Value.int .u8 38, Value.int .u8 29, Value.int .u8 17, Value.int .u8 4, Value.int .u8 62, Value.int .u8 47, Value.int .u8 59, Value.int .u8 36, Value.int .u8 45, Value.int .u8 43, Value.int .u8 51, Value.int .u8 22, Value.int .u8 53, Value.int .u8 39, Value.int .u8 33, Value.int .u8 30, Value.int .u8 24, Value.int .u8 18, Value.int .u8 12, Value.int .u8 5, Value.int .u8 63, Value.int .u8 55, Value.int .u8 48, Value.int .u8 27, Value.int .u8 60, Value.int .u8 41, Value.int .u8 37, Value.int .u8 16, Value.int .u8 46, Value.int .u8 35, Value.int .u8 44, Value.int .u8 21, Value.int .u8 52, Value.int .u8 32, Value.int .u8 23, Value.int .u8 11, Value.int .u8 54, Value.int .u8 26, Value.int .u8 40, Value.int .u8 15, Value.int .u8 34, Value.int .u8 20, Value.int .u8 31, Value.int .u8 10, Value.int .u8 25, Value.int .u8 14, Value.int .u8 19, Value.int .u8 9, Value.int .u8 13, Value.int .u8 8, Value.int .u8 7, Value.int .u8 6] t z | o => o)).modify 2 (fun o => match o with | .cells _ t z => .cells #[Value.iface 150 (.pointer (some ⟨(World.holding Tryd.prog os ⟨#[], #[], []⟩).heap.size + 0, 0, none⟩))] t z | o => o)).push (.cells #[Value.string ⟨#[105, 110, 118, 97, 108, 105, 100, 32, 115, 121, 110, 116, 97, 120]⟩] 152 (0, 0))).modify 3 (fun o => match o with | .cells _ t z => .cells #[Value.iface 150 (.pointer (some ⟨(World.holding Tryd.prog os ⟨#[], #[], []⟩).heap.size + 1, 0, none⟩))] t z | o => o)).push (.cells #[Value.string ⟨#[118, 97, 108, 117, 101, 32, 111, 117, 116, 32, 111, 102, 32, 114, 97, 110, 103, 101]⟩] 152 (0, 0)) }
end Go.Proofs.YtkofdkinaahbpaaDoor.Y
