/- The law FnRead, as a plain statement: what is read of a drawn text as an entry is right, and has that text; what is read as a name has that name. Conditions: those of the row's reading alone. -/
/- Part 11 of 13 of this claim's texts. -/
import Derived.Deep.Slices
import Derived.ChangeArms
import Derived.WideShapes
import Derived.DataReads
import Derived.Test.YtgdknepphkhnlaaGreatDoorRows
import Derived.WalkKit
import Derived.ProofKit
import Derived.Test.YtgdknepphkhnlaaGreatDoorCFnRead0
import Derived.Test.YtgdknepphkhnlaaGreatDoorCFnRead1
import Derived.Test.YtgdknepphkhnlaaGreatDoorCFnRead2
import Derived.Test.YtgdknepphkhnlaaGreatDoorCFnRead3
import Derived.Test.YtgdknepphkhnlaaGreatDoorCFnRead4
import Derived.Test.YtgdknepphkhnlaaGreatDoorCFnRead5
import Derived.Test.YtgdknepphkhnlaaGreatDoorCFnRead6
import Derived.Test.YtgdknepphkhnlaaGreatDoorCFnRead7
import Derived.Test.YtgdknepphkhnlaaGreatDoorCFnRead8
import Derived.Test.YtgdknepphkhnlaaGreatDoorCFnRead9
/- What a right entry tells: it fits, its needs fit and rise, there are at most eight. Plain lemmas. -/
set_option linter.unusedVariables false
namespace Go.Proofs.YtgdknepphkhnlaaGreatDoor.Z
open Go.RowKit Go.Proofs.YtgdknepphkhnlaaGreatDoorW.PrintWords Go.Proofs.YtgdknepphkhnlaaGreatDoorW.PrintMore Go.Proofs.YtgdknepphkhnlaaGreatDoor.X Go.Proofs.YtgdknepphkhnlaaGreatDoor.Sp
def fitsN (y : S35) : Prop := Ev (fun k => impl_Fits.f k y.f0 y.f1.f0 y.f1.f1 y.f1.f2 y.f1.f3) true ∧ Ev (fun k => spec_Fits.f k y.f0 y.f1.f0 y.f1.f1 y.f1.f2 y.f1.f3) true
theorem rise_fits (l : List S35) (hn : l.length ≤ 1048576) (hl : ∀ y ∈ l, smallN y) (d : Nat) : ∀ i : Nat, i + d = l.length → Ev (fun k => spec_l5Rising.l0 k l (i : Int)) true → ∀ y ∈ l.drop i, fitsN y := by
 induction d with
 | zero =>
  intro i hi H y hy
  rw [List.drop_eq_nil_of_le z1k] at hy
  cases hy
 | succ d ih =>
  intro i hi H
  have il : i < l.length := by omega
  obtain ⟨r0, _, hS, fI, fS⟩ := need_both l[i] (hl _ (List.getElem_mem il))
  obtain ⟨r, _, q2⟩ := rise_l0 l 0 hn hl d (i + 1) z1k
  have ws := w64s (show i < l.length from il) z1k
  cases r0 with
  | false =>
   have H2 : Ev (fun k => spec_l5Rising.l0 k l (i : Int)) false := by
    refine evS (fun k => by rw [spec_l5Rising.l0]) ?_
    rw [rdN il]
    exact evT z1k (evT z1k (evB hS (evF Bool.false_ne_true (evR rfl))))
   have := ev_one H2 H
   cases this
  | true =>
   have hrest : r = true := by
    cases r with
    | true => rfl
    | false =>
     have H2 : Ev (fun k => spec_l5Rising.l0 k l (i : Int)) false := by
      refine evS (fun k => by rw [spec_l5Rising.l0]) ?_
      rw [rdN il, ws]
      refine evT z1k (evT z1k (evB hS (evT rfl ?_)))
      by_cases h0 : i = 0
      ·exact evF z1k q2
      ·have wp : wrap64 ((i : Int) - 1) = ((i - 1 : Nat) : Int) := by rw [w64 z1k]; omega
       rw [wp]
       exact evT z1k (evT z1k (evT z1k (evI (fun _ => q2) (fun _ => evR rfl))))
     have := ev_one H2 H
     cases this
   subst hrest
   intro y hy
   rw [List.drop_eq_getElem_cons il] at hy
   rcases List.mem_cons.1 hy with rfl | hy
   ·exact ⟨fI, fS⟩
   ·exact ih (i + 1) z1k q2 y hy
theorem entry_l0 (s : ByteArray) (a b c : Int) (p : ByteArray) (l : List S35) (hs : s.size ≤ 1048576) (hp : p.size ≤ 1048576) (hn : l.length ≤ 1048576) (hl : ∀ y ∈ l, smallN y) (d : Nat) : ∀ i : Nat, i + d = l.length →
  Ev (fun k => spec_EntryOk.l0 k (i : Int) s a b c p l) true → Ev (fun k => impl_Fits.f k s a b c p) true ∧ l.length ≤ 8 ∧ Ev (fun k => spec_l5Rising.f k l) true := by
 induction d with
 | zero =>
  intro i hi H
  obtain ⟨f, fI, fS, _⟩ := fits_both s a b c p hs hp
  obtain ⟨r, rI, rS⟩ := rise_both l hn hl
  have H2 : Ev (fun k => spec_EntryOk.l0 k (i : Int) s a b c p l) (f && (r && decide ((l.length : Int) ≤ 8))) := by
   refine evS (fun k => by rw [spec_EntryOk.l0]) (evF z1k (evB fS ?_))
   cases f with
   | false => exact evF Bool.false_ne_true (evR rfl)
   | true =>
    refine evT rfl ?_
    rw [Bool.true_and]
    by_cases h8 : (l.length : Int) ≤ 8
    ·exact evT h8 (evB rS (evR (by rw [decide_eq_true h8, Bool.and_true])))
    ·exact evF h8 (evR (by rw [decide_eq_false h8, Bool.and_false]))
  have e := ev_one H2 H
  simp only [Bool.and_eq_true, decide_eq_true_eq] at e
  obtain ⟨e1, e2, e3⟩ := e
  subst e1
  subst e2
  exact ⟨fI, z1k, rS⟩
 | succ d ih =>
  intro i hi H
  have il : i < l.length := by omega
  have ws := w64s (show i < l.length from il) z1k
  by_cases he : l[i].f0.toList = s.toList
  ·have H2 : Ev (fun k => spec_EntryOk.l0 k (i : Int) s a b c p l) false := by
    refine evS (fun k => by rw [spec_EntryOk.l0]) ?_
    rw [rdN il]
    exact evT z1k (evT z1k (evT he (evR rfl)))
   have := ev_one H2 H
   cases this
  ·obtain ⟨r, _, q2⟩ := entryOk_l0 s a b c p l hs hp hn hl d (i + 1) z1k
   have H2 : Ev (fun k => spec_EntryOk.l0 k (i : Int) s a b c p l) r := by
    refine evS (fun k => by rw [spec_EntryOk.l0]) ?_
    rw [rdN il, ws]
    exact evT z1k (evT z1k (evF he q2))
   rw [ev_one H2 H] at q2
   exact ih (i + 1) z1k q2
theorem entry_true (s : ByteArray) (a b c : Int) (p : ByteArray) (l : List S35) (hs : s.size ≤ 1048576) (hp : p.size ≤ 1048576) (hn : l.length ≤ 1048576) (hl : ∀ y ∈ l, smallN y) (H : Ev (fun k => spec_EntryOk.f k s a b c p l) true) :
  Ev (fun k => impl_Fits.f k s a b c p) true ∧ l.length ≤ 8 ∧ Ev (fun k => spec_l5Rising.f k l) true ∧ ∀ y ∈ l, fitsN y := by
 obtain ⟨h1, h2, h3⟩ := entry_l0 s a b c p l hs hp hn hl l.length 0 z1k H
 refine ⟨h1, h2, h3, fun y hy => ?_⟩
 have := rise_fits l hn hl l.length 0 z1k h3 y
 rw [List.drop_zero] at this
 exact this hy
end Go.Proofs.YtgdknepphkhnlaaGreatDoor.Z

/- A version's text, the program's and the reference's: the same. Plain lemmas. -/
set_option linter.unusedVariables false
namespace Go.Proofs.YtgdknepphkhnlaaGreatDoor.Z
open Go.RowKit Go.Proofs.YtgdknepphkhnlaaGreatDoorW.PrintWords Go.Proofs.YtgdknepphkhnlaaGreatDoorW.PrintMore Go.Proofs.YtgdknepphkhnlaaGreatDoor.X Go.Proofs.YtgdknepphkhnlaaGreatDoor.Sp
def dB (a : Int) : ByteArray := ⟨(Lib.decDigits a.toNat).toArray⟩
theorem nd7 : ∀ n : Nat, n < 10000000 → Lib.nDigits n ≤ 7 := by
 intro n h
 have s : ∀ (m d : Nat), Lib.nDigits (m / 10) ≤ d → Lib.nDigits m ≤ d + 1 := by
  intro m d hm
  rw [Lib.nDigits]
  split <;> omega
 have b : Lib.nDigits (n / 10 / 10 / 10 / 10 / 10 / 10) ≤ 1 := by
  rw [Lib.nDigits, dif_pos z1k]
  exact Nat.le_refl _
 exact s _ _ (s _ _ (s _ _ (s _ _ (s _ _ (s _ _ b)))))
theorem dB_size (a : Int) (h : a ≤ 1000000) : (dB a).size ≤ 7 := by
 show (Lib.decDigits a.toNat).toArray.size ≤ 7
 rw [List.size_toArray, Lib.decDigits_length]
 exact nd7 _ z1k
def verT (a b c : Int) (p : ByteArray) : ByteArray :=
 if p.size = 0 then ((((((⟨#[118]⟩ : ByteArray) ++ dB a) ++ (⟨#[46]⟩ : ByteArray)) ++ dB b) ++ (⟨#[46]⟩ : ByteArray)) ++ dB c) else ((((((⟨#[118]⟩ : ByteArray) ++ dB a) ++ (⟨#[46]⟩ : ByteArray)) ++ dB b) ++ (⟨#[46]⟩ : ByteArray)) ++ dB c) ++ ((⟨#[45]⟩ : ByteArray) ++ p)
def verText (a b c : Int) (p : ByteArray) : ByteArray := if verOk a b c p = true then verT a b c p else ⟨#[]⟩
theorem verOk_in {a b c : Int} {p : ByteArray} (h : verOk a b c p = true) : (0 ≤ a ∧ a ≤ 1000000) ∧ (0 ≤ b ∧ b ≤ 1000000) ∧ (0 ≤ c ∧ c ≤ 1000000) := by
 unfold verOk in6 at h
 simp only [Bool.and_eq_true, decide_eq_true_eq] at h
 exact ⟨h.1, h.2.1, h.2.2.1⟩
theorem itoa_dB (a : Int) (h : 0 ≤ a ∧ a ≤ 1000000) : strconv_Itoa.f a = some (dB a) := by
 unfold strconv_Itoa.f dB Lib.itoa
 rw [if_pos z1k, if_neg z1k]
theorem text_dB (a : Int) (h : 0 ≤ a ∧ a ≤ 1000000) : Ev (fun k => spec_l3Text.f k a) (dB a) := by
 have := text_ev a.toNat z1k
 rw [show ((a.toNat : Nat) : Int) = a by omega] at this
 exact this
theorem verText_both (a b c : Int) (p : ByteArray) (hp : p.size ≤ 1048576) : Ev (fun k => impl_VersionText.f k a b c p) (verText a b c p) ∧ Ev (fun k => spec_VersionText.f k a b c p) (verText a b c p) := by
 obtain ⟨hI, hS⟩ := verOk_both a b c p hp
 unfold verText
 cases hv : verOk a b c p with
 | false =>
  rw [hv] at hI hS
  refine ⟨?_, ?_⟩
  ·unfold impl_VersionText.f
   exact evB hI (evF Bool.false_ne_true (evR rfl))
  ·unfold spec_VersionText.f
   exact evB hS (evF Bool.false_ne_true (evR rfl))
 | true =>
  rw [hv] at hI hS
  obtain ⟨ra, rb, rc⟩ := verOk_in hv
  have za := dB_size a ra.2
  have zb := dB_size b rb.2
  have zc := dB_size c rc.2
  have ia := itoa_dB a ra
  have ib := itoa_dB b rb
  have ic := itoa_dB c rc
  have ta := text_dB a ra
  have tb := text_dB b rb
  have tc := text_dB c rc
  unfold verT
  generalize dB a = x at *
  generalize dB b = y at *
  generalize dB c = z at *
  have s1 : ((⟨#[118]⟩ : ByteArray) ++ x).size = 1 + x.size := ByteArray.size_append
  have s2 : (((⟨#[118]⟩ : ByteArray) ++ x) ++ (⟨#[46]⟩ : ByteArray)).size = 1 + x.size + 1 := by rw [ByteArray.size_append, s1]; rfl
  have s3 : ((((⟨#[118]⟩ : ByteArray) ++ x) ++ (⟨#[46]⟩ : ByteArray)) ++ y).size = 1 + x.size + 1 + y.size := by rw [ByteArray.size_append, s2]
  have s4 : (((((⟨#[118]⟩ : ByteArray) ++ x) ++ (⟨#[46]⟩ : ByteArray)) ++ y) ++ (⟨#[46]⟩ : ByteArray)).size = 1 + x.size + 1 + y.size + 1 := by rw [ByteArray.size_append, s3]; rfl
  have s5 : ((((((⟨#[118]⟩ : ByteArray) ++ x) ++ (⟨#[46]⟩ : ByteArray)) ++ y) ++ (⟨#[46]⟩ : ByteArray)) ++ z).size = 1 + x.size + 1 + y.size + 1 + z.size := by rw [ByteArray.size_append, s4]
  have s6 : (((((((⟨#[118]⟩ : ByteArray) ++ x) ++ (⟨#[46]⟩ : ByteArray)) ++ y) ++ (⟨#[46]⟩ : ByteArray)) ++ z) ++ (⟨#[45]⟩ : ByteArray)).size = 1 + x.size + 1 + y.size + 1 + z.size + 1 := by rw [ByteArray.size_append, s5]; rfl
  have s7 : ((⟨#[45]⟩ : ByteArray) ++ p).size = 1 + p.size := ByteArray.size_append
  refine ⟨?_, ?_⟩
  ·unfold impl_VersionText.f
   refine evB hI (evT rfl (evC ia (evT z1k (evT z1k (evC ib (evT z1k (evT z1k (evC ic (evT z1k ?_)))))))))
   rw [if_pos rfl]
   by_cases h : p.size = 0
   ·rw [if_pos h]
    exact evT ((nil_iff' p).2 h) (evR rfl)
   ·rw [if_neg h]
    exact evF (fun e => h ((nil_iff' p).1 e)) (evT z1k (evT z1k (evR rfl)))
  ·unfold spec_VersionText.f
   refine evB hS (evT rfl (evB ta (evT z1k (evT z1k (evB tb (evT z1k (evT z1k (evB tc (evT z1k ?_)))))))))
   rw [if_pos rfl]
   by_cases h : p.size = 0
   ·rw [if_pos h]
    exact evT ((nil_iff' p).2 h) (evR rfl)
   ·rw [if_neg h]
    refine evF (fun e => h ((nil_iff' p).1 e)) (evT z1k (evT z1k (evR ?_)))
    exact ByteArray.append_assoc
theorem verText_size (a b c : Int) (p : ByteArray) : (verText a b c p).size ≤ 25 + p.size := by
 unfold verText
 cases hv : verOk a b c p with
 | false => rw [if_neg Bool.false_ne_true]; show 0 ≤ _; omega
 | true =>
  obtain ⟨ra, rb, rc⟩ := verOk_in hv
  have za := dB_size a ra.2
  have zb := dB_size b rb.2
  have zc := dB_size c rc.2
  rw [if_pos rfl]
  have e1 : (⟨#[118]⟩ : ByteArray).size = 1 := rfl
  have e2 : (⟨#[46]⟩ : ByteArray).size = 1 := rfl
  have e3 : (⟨#[45]⟩ : ByteArray).size = 1 := rfl
  unfold verT
  split <;> simp only [ByteArray.size_append, e1, e2, e3] <;> omega
end Go.Proofs.YtgdknepphkhnlaaGreatDoor.Z

/- A name: the program's and the reference's are the same. Plain lemmas. -/
set_option linter.unusedVariables false
namespace Go.Proofs.YtgdknepphkhnlaaGreatDoor.Z
open Go.RowKit Go.Proofs.YtgdknepphkhnlaaGreatDoorW.PrintWords Go.Proofs.YtgdknepphkhnlaaGreatDoorW.PrintMore Go.Proofs.YtgdknepphkhnlaaGreatDoor.X Go.Proofs.YtgdknepphkhnlaaGreatDoor.Sp
def nameT (r : Bool) (s : ByteArray) (a b c : Int) (p : ByteArray) : ByteArray := if r = true then (s ++ (⟨#[64]⟩ : ByteArray)) ++ verText a b c p else ⟨#[]⟩
theorem name_both (s : ByteArray) (a b c : Int) (p : ByteArray) (r : Bool) (hs : s.size ≤ 1048576) (hp : p.size ≤ 1048576) (f1 : Ev (fun k => impl_Fits.f k s a b c p) r) (f2 : Ev (fun k => spec_Fits.f k s a b c p) r) :
  Ev (fun k => impl_EntryName.f k s a b c p) (nameT r s a b c p) ∧ Ev (fun k => spec_EntryName.f k s a b c p) (nameT r s a b c p) := by
 obtain ⟨t1, t2⟩ := verText_both a b c p hp
 have hz := verText_size a b c p
 have hz2 : (s ++ (⟨#[64]⟩ : ByteArray)).size = s.size + 1 := ByteArray.size_append
 unfold impl_EntryName.f spec_EntryName.f nameT
 cases r with
 | false => exact ⟨evB f1 (evF Bool.false_ne_true (evR rfl)), evB f2 (evF Bool.false_ne_true (evR rfl))⟩
 | true => exact ⟨evB f1 (evT rfl (evT z1k (evB t1 (evT z1k (evR rfl))))), evB f2 (evT rfl (evT z1k (evB t2 (evT z1k (evR rfl)))))⟩
end Go.Proofs.YtgdknepphkhnlaaGreatDoor.Z

/- What PutEntry computes, the program's and the reference's: the same bytes. Plain lemmas. -/
set_option linter.unusedVariables false
namespace Go.Proofs.YtgdknepphkhnlaaGreatDoor.Z
open Go.RowKit Go.Proofs.YtgdknepphkhnlaaGreatDoorW.PrintWords Go.Proofs.YtgdknepphkhnlaaGreatDoorW.PrintMore Go.Proofs.YtgdknepphkhnlaaGreatDoor.X Go.Proofs.YtgdknepphkhnlaaGreatDoor.Sp
def nmN (y : S35) : ByteArray := nameT true y.f0 y.f1.f0 y.f1.f1 y.f1.f2 y.f1.f3
theorem nameT_size (s : ByteArray) (a b c : Int) (p : ByteArray) : (nameT true s a b c p).size ≤ s.size + 26 + p.size := by
 have hz := verText_size a b c p
 unfold nameT
 rw [if_pos rfl, ByteArray.size_append, ByteArray.size_append]
 have : (⟨#[64]⟩ : ByteArray).size = 1 := rfl
 omega
theorem nmN_small {y : S35} (h : smallN y) : (nmN y).size ≤ 2097178 := by
 have := nameT_size y.f0 y.f1.f0 y.f1.f1 y.f1.f2 y.f1.f3
 obtain ⟨h1, h2⟩ := h
 unfold nmN
 omega
theorem total_small (l : List S35) (hl : ∀ y ∈ l, smallN y) : total (l.map nmN) ≤ 2097178 * l.length := by
 induction l with
 | nil => simp [total_nil]
 | cons y l ih =>
  rw [List.map_cons, total_cons, List.length_cons]
  have := ih (fun z hz => hl z (List.mem_cons_of_mem _ hz))
  have := nmN_small (hl y List.mem_cons_self)
  omega
def encE (s : ByteArray) (a b c : Int) (p : ByteArray) (l : List S35) : List Int := encT (nameT true s a b c p) ++ (encN 4 (near ((l.map nmN).length : Int)) ++ encL (l.map nmN))
theorem putE_tail (s : ByteArray) (a b c : Int) (p : ByteArray) (l : List S35) (hs : s.size ≤ 1048576) (hp : p.size ≤ 1048576) (hn : l.length ≤ 8) (hl : ∀ y ∈ l, smallN y) :
  (nameT true s a b c p).size ≤ 2097178 ∧ (([] : List Int).length + (nameT true s a b c p).size < 140737488350000) ∧ ((encT (nameT true s a b c p)).length + total (l.map nmN) + 5 * (l.map nmN).length < 140737488340000) := by
 have h1 := nameT_size s a b c p
 have h2 := total_small l hl
 have h3 := encT_length (nameT true s a b c p)
 rw [List.length_map]
 refine ⟨z1k, ?_, z1k⟩
 show 0 + _ < _
 omega
theorem specPE_l0 (s : ByteArray) (a b c : Int) (p : ByteArray) (l : List S35) (hs : s.size ≤ 1048576) (hp : p.size ≤ 1048576) (hn : l.length ≤ 8) (hl : ∀ y ∈ l, smallN y) (hf : Ev (fun k => impl_Fits.f k s a b c p) true) (hf2 : Ev (fun k => spec_Fits.f k s a b c p) true) (hfl : ∀ y ∈ l, fitsN y) (d : Nat) :
  ∀ i : Nat, i + d = l.length → Ev (fun k => spec_PutEntry.l0 k ((l.take i).map nmN) (i : Int) s a b c p l) (strOfNums (encE s a b c p l)) := by
 obtain ⟨z0, z1, z2⟩ := putE_tail s a b c p l hs hp hn hl
 induction d with
 | zero =>
  intro i hi
  refine evS (fun k => by rw [spec_PutEntry.l0]) (evF z1k ?_)
  rw [List.take_of_length_le z1k]
  obtain ⟨_, n2⟩ := name_both s a b c p true hs hp hf hf2
  refine evB n2 (evB (specText_ev [] _ z1) ?_)
  rw [List.nil_append]
  exact evB (specTexts_ev _ _ z2) (evR rfl)
 | succ d ih =>
  intro i hi
  have il : i < l.length := by omega
  have hm := List.getElem_mem il
  obtain ⟨_, n2⟩ := name_both l[i].f0 l[i].f1.f0 l[i].f1.f1 l[i].f1.f2 l[i].f1.f3 true (hl _ hm).1 (hl _ hm).2 (hfl _ hm).1 (hfl _ hm).2
  have ht : ((l.take i).map nmN).length = i := by rw [List.length_map, List.length_take]; omega
  refine evS (fun k => by rw [spec_PutEntry.l0]) ?_
  rw [rdN il, w64s il z1k]
  refine evT z1k (evT z1k (evB n2 (evT z1k ?_)))
  have := ih (i + 1) z1k
  rw [List.take_succ_eq_append_getElem il, List.map_append] at this
  exact this
theorem implPE_l0 (s : ByteArray) (a b c : Int) (p : ByteArray) (l : List S35) (hs : s.size ≤ 1048576) (hp : p.size ≤ 1048576) (hn : l.length ≤ 8) (hl : ∀ y ∈ l, smallN y) (hf : Ev (fun k => impl_Fits.f k s a b c p) true) (hf2 : Ev (fun k => spec_Fits.f k s a b c p) true) (hfl : ∀ y ∈ l, fitsN y) (d : Nat) :
  ∀ i : Nat, i + d = l.length → Ev (fun k => impl_PutEntry.l0 k ((l.take i).map nmN) l (l.length : Int) (i : Int) s a b c p l) (strOfNums (encE s a b c p l)) := by
 obtain ⟨z0, z1, z2⟩ := putE_tail s a b c p l hs hp hn hl
 induction d with
 | zero =>
  intro i hi
  refine evS (fun k => by rw [impl_PutEntry.l0]) (evF z1k ?_)
  rw [List.take_of_length_le z1k]
  obtain ⟨n1, _⟩ := name_both s a b c p true hs hp hf hf2
  refine evB n1 (evB (implputText_ev [] _ z1) ?_)
  rw [List.nil_append]
  exact evB (implputTexts_ev _ _ z2) (evR rfl)
 | succ d ih =>
  intro i hi
  have il : i < l.length := by omega
  have hm := List.getElem_mem il
  obtain ⟨n1, _⟩ := name_both l[i].f0 l[i].f1.f0 l[i].f1.f1 l[i].f1.f2 l[i].f1.f3 true (hl _ hm).1 (hl _ hm).2 (hfl _ hm).1 (hfl _ hm).2
  have ht : ((l.take i).map nmN).length = i := by rw [List.length_map, List.length_take]; omega
  have n0 : Ev (fun k => impl_nameOf.f k l[i].f0 l[i].f1.f0 l[i].f1.f1 l[i].f1.f2 l[i].f1.f3) (nmN l[i]) := by
   unfold impl_nameOf.f
   exact evB n1 (evR rfl)
  refine evS (fun k => by rw [impl_PutEntry.l0]) ?_
  rw [rdN il, w64s il z1k]
  refine evT z1k (evT z1k (evT z1k (evB n0 (evT z1k ?_))))
  have := ih (i + 1) z1k
  rw [List.take_succ_eq_append_getElem il, List.map_append] at this
  exact this
theorem putE_both (s : ByteArray) (a b c : Int) (p : ByteArray) (l : List S35) (hs : s.size ≤ 1048576) (hp : p.size ≤ 1048576) (hn : l.length ≤ 1048576) (hl : ∀ y ∈ l, smallN y) : ∃ r : Bool,
  Ev (fun k => impl_EntryOk.f k s a b c p l) r ∧ Ev (fun k => spec_EntryOk.f k s a b c p l) r ∧
  Ev (fun k => impl_PutEntry.f k s a b c p l) (if r = true then strOfNums (encE s a b c p l) else (⟨#[]⟩ : ByteArray)) ∧ Ev (fun k => spec_PutEntry.f k s a b c p l) (if r = true then strOfNums (encE s a b c p l) else (⟨#[]⟩ : ByteArray)) := by
 obtain ⟨r, q1, q2⟩ := entryOk_both s a b c p l hs hp hn hl
 refine ⟨r, q1, q2, ?_, ?_⟩
 ·unfold impl_PutEntry.f
  refine evB q1 ?_
  cases r with
  | false => exact evF Bool.false_ne_true (evR rfl)
  | true =>
   obtain ⟨f1, f2, _, f4⟩ := entry_true s a b c p l hs hp hn hl q2
   obtain ⟨r0, g1, g2, _⟩ := fits_both s a b c p hs hp
   have := ev_one g1 f1
   subst this
   exact evT rfl (implPE_l0 s a b c p l hs hp f2 hl g1 g2 f4 l.length 0 z1k)
 ·unfold spec_PutEntry.f
  refine evB q2 ?_
  cases r with
  | false => exact evF Bool.false_ne_true (evR rfl)
  | true =>
   obtain ⟨f1, f2, _, f4⟩ := entry_true s a b c p l hs hp hn hl q2
   obtain ⟨r0, g1, g2, _⟩ := fits_both s a b c p hs hp
   have := ev_one g1 f1
   subst this
   exact evT rfl (specPE_l0 s a b c p l hs hp f2 hl g1 g2 f4 l.length 0 z1k)
end Go.Proofs.YtgdknepphkhnlaaGreatDoor.Z

/- What a text is read as, the program's way and the reference's: the same version. Plain lemmas. -/
set_option linter.unusedVariables false
namespace Go.Proofs.YtgdknepphkhnlaaGreatDoor.Z
open Go.RowKit Go.Proofs.YtgdknepphkhnlaaGreatDoorW.PrintWords Go.Proofs.YtgdknepphkhnlaaGreatDoorW.PrintMore Go.Proofs.YtgdknepphkhnlaaGreatDoor.X Go.Proofs.YtgdknepphkhnlaaGreatDoor.Sp
def cutL (c : UInt8) : List UInt8 → List UInt8 × List UInt8
 | [] => ([], [])
 | b :: l => if b = c then ([], l) else (b :: (cutL c l).1, (cutL c l).2)
theorem ix_cases (c : UInt8) : ∀ l : List UInt8, Lib.indexByte l c = -1 ∧ cutL c l = (l, []) ∨ ∃ n : Nat, Lib.indexByte l c = (n : Int) ∧ cutL c l = (l.take n, l.drop (n + 1))
 | [] => .inl ⟨rfl, rfl⟩
 | b :: l => by
  unfold cutL Lib.indexByte
  by_cases h : b = c
  ·rw [if_pos h, if_pos (beq_iff_eq.2 h)]
   exact .inr ⟨0, rfl, rfl⟩
  ·rw [if_neg h, if_neg (fun e => h (beq_iff_eq.1 e))]
   rcases ix_cases c l with ⟨h1, h2⟩ | ⟨n, h1, h2⟩
   ·rw [h1, h2]
    exact .inl ⟨rfl, rfl⟩
   ·rw [h1, h2]
    refine .inr ⟨n + 1, ?_, rfl⟩
    rw [if_neg (fun e => by have := beq_iff_eq.1 e; omega)]
    rfl
theorem cut_cutL (c : UInt8) (l : List UInt8) : (Lib.cut l [c]).1 = (cutL c l).1 ∧ (Lib.cut l [c]).2.1 = (cutL c l).2 := by
 unfold Lib.cut
 rw [Lib.index_one]
 rcases ix_cases c l with ⟨h1, h2⟩ | ⟨n, h1, h2⟩
 ·rw [h1, h2, if_neg z1k]
  exact ⟨rfl, rfl⟩
 ·rw [h1, h2, if_pos z1k]
  exact ⟨rfl, rfl⟩
theorem cutL_len (c : UInt8) : ∀ l : List UInt8, (cutL c l).1.length ≤ l.length ∧ (cutL c l).2.length ≤ l.length
 | [] => ⟨Nat.le_refl _, Nat.le_refl _⟩
 | b :: l => by
  have ih := cutL_len c l
  unfold cutL
  split
  ·simp
  ·simp; omega
theorem cut_ev (s : ByteArray) (c : UInt8) (hs : s.size ≤ 1048576) : ∃ b, strings_Cut.f s ⟨#[c]⟩ = some (toB (cutL c s.data.toList).1, toB (cutL c s.data.toList).2, b) := by
 unfold strings_Cut.f
 rw [if_pos ⟨z1k, rfl⟩]
 have h := cut_cutL c s.data.toList
 refine ⟨(Lib.cut s.data.toList [c]).2.2, ?_⟩
 show some (cutB_ c s) = _
 unfold cutB_ toB
 rw [h.1, h.2]
theorem toB_self (s : ByteArray) : toB s.data.toList = s := by
 unfold toB
 cases s
 simp
def nilB : ByteArray := ⟨#[]⟩
def noV : Int × Int × Int × ByteArray × Bool := (0, 0, 0, ⟨#[]⟩, false)
def offV (s : ByteArray) : ByteArray := if s.data.toList.head? = some 118 then toB (s.data.toList.drop 1) else s
theorem head_bt (s : ByteArray) (c : UInt8) (h : 0 < s.size) : s.data.toList.head? = some c ↔ bt s 0 = (c.toNat : Int) := by
 have hb : bt s 0 = _ := byte_at s 0 h
 have hl := data_length s
 cases hx : s.data.toList with
 | nil => rw [hx] at hl; simp at hl; omega
 | cons a m =>
  simp only [hx, List.getElem_cons_zero] at hb
  rw [hb, List.head?_cons]
  constructor
  ·intro e
   rw [Option.some.inj e]
  ·intro e
   rw [UInt8.toNat_inj.1 (show a.toNat = c.toNat by omega)]
theorem trim_ev (s : ByteArray) (hs : s.size ≤ 1048576) : strings_TrimPrefix.f s ⟨#[118]⟩ = some (offV s) := by
 unfold strings_TrimPrefix.f stringslite_TrimPrefix.f stringslite_HasPrefix.f offV
 have e1 : ((⟨#[118]⟩ : ByteArray).size : Int) = 1 := rfl
 have hl := data_length s
 rw [e1]
 by_cases h : (s.size : Int) ≥ 1
 ·rw [if_pos h, if_pos z1k, if_pos z1k]
  simp only [Option.bind_some]
  have e2 : (s.extract 0 (1 : Int).toNat).toList = s.data.toList.take 1 := by
   rw [tl, show (1 : Int).toNat = 1 from rfl, ext_list]
   simp
  have e3 : (⟨#[118]⟩ : ByteArray).toList = [118] := by rw [tl]
  rw [e2, e3]
  cases hx : s.data.toList with
  | nil => rw [hx] at hl; simp at hl; omega
  | cons a m =>
   by_cases ha : a = 118
   ·subst ha
    rw [if_pos (by simp), if_pos z1k, if_pos z1k, if_pos (show (118 :: m : List UInt8).head? = some 118 from rfl)]
    simp only [Option.bind_some]
    rw [show (1 : Int).toNat = 1 from rfl, ext_end, hx]
   ·rw [if_neg (by simp [ha]), if_neg (by simp [ha])]
    rfl
 ·rw [if_neg h]
  simp only [Option.bind_some]
  have h0 : s.data.toList = [] := List.eq_nil_of_length_eq_zero z1k
  rw [h0, if_neg (by simp), if_neg (by simp)]
  rfl
def at3 (l : List ByteArray) (i : Int) : ByteArray := rdOf ByteArray.empty l i
def good7 (x : ByteArray) : Prop := num x = true ∧ (x.size : Int) ≤ 7
instance (x : ByteArray) : Decidable (good7 x) := by unfold good7; exact inferInstance
def valI (x : ByteArray) : Int := ((val x.data.toList : Nat) : Int)
def numsOf (t : ByteArray) : List ByteArray := pieces 46 (toB (cutL 45 t.data.toList).1)
def preOf (t : ByteArray) : ByteArray := toB (cutL 45 t.data.toList).2
def readI (s : ByteArray) : Int × Int × Int × ByteArray × Bool :=
 if (numsOf (offV s)).length = 3 ∧ good7 (at3 (numsOf (offV s)) 0) ∧ good7 (at3 (numsOf (offV s)) 1) ∧ good7 (at3 (numsOf (offV s)) 2) ∧
   verText (valI (at3 (numsOf (offV s)) 0)) (valI (at3 (numsOf (offV s)) 1)) (valI (at3 (numsOf (offV s)) 2)) (preOf (offV s)) = s then
  (valI (at3 (numsOf (offV s)) 0), valI (at3 (numsOf (offV s)) 1), valI (at3 (numsOf (offV s)) 2), preOf (offV s), true) else noV
def readS (s : ByteArray) : Int × Int × Int × ByteArray × Bool :=
 if s.data.toList.head? = some 118 ∧ (numsOf (offV s)).length = 3 ∧ verOk (numS (at3 (numsOf (offV s)) 0)) (numS (at3 (numsOf (offV s)) 1)) (numS (at3 (numsOf (offV s)) 2)) (preOf (offV s)) = true ∧
   verText (numS (at3 (numsOf (offV s)) 0)) (numS (at3 (numsOf (offV s)) 1)) (numS (at3 (numsOf (offV s)) 2)) (preOf (offV s)) = s then
  (numS (at3 (numsOf (offV s)) 0), numS (at3 (numsOf (offV s)) 1), numS (at3 (numsOf (offV s)) 2), preOf (offV s), true) else noV
theorem pow7 {n : Nat} (h : 7 ≤ n) : 10000000 ≤ 10 ^ n := Nat.le_trans z1l (Nat.pow_le_pow_right (show 0 < 10 by decide) h)
theorem good_numS {x : ByteArray} (h : good7 x) : numS x = valI x := by
 unfold valI
 refine numS_val ?_
 unfold short
 have := h.2
 rw [h.1, decide_eq_true z1k]
 rfl
theorem numS_good {x : ByteArray} (h : in6 (numS x) = true) : good7 x := by
 unfold in6 at h
 have h1 := of_decide_eq_true h
 have hsh := (numS_pos x).1 h1.1
 have hv := numS_val hsh
 rw [hv] at h1
 have hn : num x = true := by unfold short at hsh; simp only [Bool.and_eq_true] at hsh; exact hsh.1
 refine ⟨hn, ?_⟩
 rcases Nat.lt_or_ge 7 x.size with h5 | h5
 ·have hle := short_lead hsh z1k
  have h10 := pow7 (n := x.size - 1) z1k
  generalize val x.data.toList = v at *
  generalize 10 ^ (x.size - 1) = p at *
  omega
 ·omega
theorem verText_nil {a b c : Int} {p : ByteArray} (h : verOk a b c p = false) : verText a b c p = nilB := by
 unfold verText
 rw [h, if_neg Bool.false_ne_true]
 rfl
theorem verText_v {a b c : Int} {p : ByteArray} (h : verOk a b c p = true) : (verText a b c p).data.toList.head? = some 118 := by
 unfold verText verT
 rw [if_pos h]
 have e : (⟨#[118]⟩ : ByteArray).data.toList = [118] := rfl
 split
 ·simp [ByteArray.data_append]
 ·simp [ByteArray.data_append]
theorem nums_nil : (numsOf (offV nilB)).length = 1 := rfl
theorem read_same (s : ByteArray) : readI s = readS s := by
 unfold readI readS
 by_cases h3 : (numsOf (offV s)).length = 3
 ·by_cases hT : good7 (at3 (numsOf (offV s)) 0) ∧ good7 (at3 (numsOf (offV s)) 1) ∧ good7 (at3 (numsOf (offV s)) 2) ∧
   verText (valI (at3 (numsOf (offV s)) 0)) (valI (at3 (numsOf (offV s)) 1)) (valI (at3 (numsOf (offV s)) 2)) (preOf (offV s)) = s
  ·obtain ⟨g0, g1, g2, ht⟩ := hT
   rw [if_pos ⟨h3, g0, g1, g2, ht⟩, good_numS g0, good_numS g1, good_numS g2]
   have hv : verOk (valI (at3 (numsOf (offV s)) 0)) (valI (at3 (numsOf (offV s)) 1)) (valI (at3 (numsOf (offV s)) 2)) (preOf (offV s)) = true := by
    cases hv : verOk (valI (at3 (numsOf (offV s)) 0)) (valI (at3 (numsOf (offV s)) 1)) (valI (at3 (numsOf (offV s)) 2)) (preOf (offV s)) with
    | true => rfl
    | false =>
     rw [verText_nil hv] at ht
     rw [← ht, nums_nil] at h3
     omega
   rw [if_pos ⟨ht ▸ verText_v hv, h3, hv, ht⟩]
  ·rw [if_neg (fun e => hT e.2), if_neg]
   rintro ⟨_, _, hv, ht⟩
   have hin : in6 (numS (at3 (numsOf (offV s)) 0)) = true ∧ in6 (numS (at3 (numsOf (offV s)) 1)) = true ∧ in6 (numS (at3 (numsOf (offV s)) 2)) = true := by
    unfold verOk at hv
    simp only [Bool.and_eq_true] at hv
    exact ⟨hv.1, hv.2.1, hv.2.2.1⟩
   have g0 := numS_good hin.1
   have g1 := numS_good hin.2.1
   have g2 := numS_good hin.2.2
   rw [good_numS g0, good_numS g1, good_numS g2] at ht
   exact hT ⟨g0, g1, g2, ht⟩
 ·rw [if_neg (fun e => h3 e.1), if_neg (fun e => h3 e.2.1)]
theorem offV_size (s : ByteArray) : (offV s).size ≤ s.size := by
 unfold offV
 split
 ·rw [toB_size, List.length_drop, data_length]
  omega
 ·exact Nat.le_refl _
theorem pre_size (t : ByteArray) : (preOf t).size ≤ t.size := by
 unfold preOf
 rw [toB_size]
 have := (cutL_len 45 t.data.toList).2
 rw [data_length] at this
 exact this
theorem num_size (t : ByteArray) : (toB (cutL 45 t.data.toList).1).size ≤ t.size := by
 rw [toB_size]
 have := (cutL_len 45 t.data.toList).1
 rw [data_length] at this
 exact this
theorem at3_size (t : ByteArray) (i : Nat) (h : i < (numsOf t).length) : (at3 (numsOf t) (i : Int)).size ≤ t.size := by
 have hm : at3 (numsOf t) (i : Int) ∈ numsOf t := by
  have := rdOf_get (d := ByteArray.empty) h
  rw [List.getElem?_eq_getElem h] at this
  unfold at3
  rw [← Option.some.inj this]
  exact List.getElem_mem h
 exact Nat.le_trans (pieces_mem 46 _ _ hm) (num_size t)
theorem tl_eq {a b : ByteArray} : (a.toList = b.toList) = (a = b) := propext tl_inj
theorem numOf7 (t : ByteArray) (ht : t.size ≤ 1048576) : Ev (fun k => impl_numberOf.f k t 7) (if good7 t then (valI t, true) else (0, false)) := by
 refine evE ?_ (numberOf_ev t ht 7 z1k)
 by_cases h : good7 t
 ·rw [if_pos h]
  exact if_pos h
 ·rw [if_neg h]
  exact if_neg h
theorem impl_n3 (s p : ByteArray) (a b c : Int) (hp : p.size ≤ 1048576) : Ev (fun k => impl_ParseVersion.n3 k s p a b c) (if verText a b c p = s then (a, b, c, p, true) else noV) := by
 unfold impl_ParseVersion.n3
 refine evB (verText_both a b c p hp).1 ?_
 simp only [tl_eq]
 by_cases h : verText a b c p = s
 ·exact evT h (evR (by rw [if_pos h]))
 ·exact evF h (evR (by rw [if_neg h]; rfl))
theorem impl_read (s : ByteArray) (hs : s.size ≤ 1048576) : Ev (fun k => impl_ParseVersion.f k s) (readI s) := by
 have ho := offV_size s
 have hn := num_size (offV s)
 have hp := pre_size (offV s)
 obtain ⟨bb, hc⟩ := cut_ev (offV s) 45 z1k
 unfold impl_ParseVersion.f readI
 refine evC (trim_ev s hs) (evC hc ?_)
 have hsp : strings_Split.f (toB (cutL 45 (offV s).data.toList).1) (⟨#[46]⟩ : ByteArray) = some (numsOf (offV s)) := by
  unfold strings_Split.f
  rw [if_pos ⟨z1k, rfl⟩]
  rfl
 refine evC hsp ?_
 by_cases h3 : (numsOf (offV s)).length = 3
 ·refine evT h3 ?_
  have z0 := at3_size (offV s) 0 z1k
  have z1 := at3_size (offV s) 1 z1k
  have z2 := at3_size (offV s) 2 z1k
  have f0 := numOf7 _ (Nat.le_trans z0 z1k)
  have f1 := numOf7 _ (Nat.le_trans z1 z1k)
  have f2 := numOf7 _ (Nat.le_trans z2 z1k)
  show Ev (fun k => impl_ParseVersion.n0 k s (preOf (offV s)) (at3 (numsOf (offV s)) ((0 : Nat) : Int)) (at3 (numsOf (offV s)) ((1 : Nat) : Int)) (at3 (numsOf (offV s)) ((2 : Nat) : Int))) _
  unfold impl_ParseVersion.n0
  refine evB f0 ?_
  by_cases g0 : good7 (at3 (numsOf (offV s)) ((0 : Nat) : Int))
  ·rw [if_pos g0]
   refine evT rfl ?_
   unfold impl_ParseVersion.n1
   refine evB f1 ?_
   by_cases g1 : good7 (at3 (numsOf (offV s)) ((1 : Nat) : Int))
   ·rw [if_pos g1]
    refine evT rfl ?_
    unfold impl_ParseVersion.n2
    refine evB f2 ?_
    by_cases g2 : good7 (at3 (numsOf (offV s)) ((2 : Nat) : Int))
    ·rw [if_pos g2]
     refine evT rfl (evE ?_ (impl_n3 s (preOf (offV s)) _ _ _ z1k))
     by_cases ht : verText (valI (at3 (numsOf (offV s)) 0)) (valI (at3 (numsOf (offV s)) 1)) (valI (at3 (numsOf (offV s)) 2)) (preOf (offV s)) = s
     ·exact (if_pos ht).trans (if_pos ⟨h3, g0, g1, g2, ht⟩).symm
     ·exact (if_neg ht).trans (if_neg (fun e => ht e.2.2.2.2)).symm
    ·rw [if_neg g2, if_neg (fun e => g2 e.2.2.2.1)]
     exact evF Bool.false_ne_true (evR rfl)
   ·rw [if_neg g1, if_neg (fun e => g1 e.2.2.1)]
    exact evF Bool.false_ne_true (evR rfl)
  ·rw [if_neg g0, if_neg (fun e => g0 e.2.1)]
   exact evF Bool.false_ne_true (evR rfl)
 ·rw [if_neg (fun e => h3 e.1)]
  exact evF h3 (evR rfl)
theorem spec_l0 (s t : ByteArray) (ht : t.size ≤ 1048576) (r : Int × Int × Int × ByteArray × Bool) (d : Nat) : ∀ i : Nat, i + d = t.size →
  Ev (fun k => spec_ParseVersion.n2 k s (toB (t.data.toList.take i ++ (cutL 45 (t.data.toList.drop i)).1)) (toB (cutL 45 (t.data.toList.drop i)).2)) r → Ev (fun k => spec_ParseVersion.l0 k s t (i : Int)) r := by
 induction d with
 | zero =>
  intro i hi H
  rw [List.drop_eq_nil_of_le (show t.data.toList.length ≤ i by rw [data_length]; omega), List.take_of_length_le (show t.data.toList.length ≤ i by rw [data_length]; omega)] at H
  rw [show t.data.toList ++ (cutL 45 []).1 = t.data.toList from List.append_nil _, toB_self] at H
  refine evS (fun k => by rw [spec_ParseVersion.l0]) ?_
  exact evF z1k H
 | succ d ih =>
  intro i hi H
  have hl : i < t.data.toList.length := by rw [data_length]; omega
  have hb := byte_at t i z1k
  rw [List.drop_eq_getElem_cons hl] at H
  refine evS (fun k => by rw [spec_ParseVersion.l0]) ?_
  rw [hb, w64s (show i < t.size by omega) z1k]
  refine evT z1k (evT z1k ?_)
  by_cases hc : t.data.toList[i] = 45
  ·rw [hc] at H ⊢
   refine evT z1l (evT z1k (evT z1k ?_))
   rw [show (((i + 1 : Nat) : Int)).toNat = i + 1 by omega, show ((i : Nat) : Int).toNat = i by omega, ext_end, ext_list, List.drop_zero, Nat.sub_zero]
   rw [cutL, if_pos rfl, List.append_nil] at H
   exact H
  ·refine evF (fun e => hc (UInt8.toNat_inj.1 (show _ = 45 by omega))) (ih (i + 1) z1k ?_)
   rw [cutL, if_neg hc] at H
   rw [List.take_succ_eq_append_getElem hl, List.append_assoc]
   exact H
theorem spec_n3 (s p : ByteArray) (a b c : Int) (hp : p.size ≤ 1048576) : Ev (fun k => spec_ParseVersion.n3 k s p a b c) (if verOk a b c p = true ∧ verText a b c p = s then (a, b, c, p, true) else noV) := by
 unfold spec_ParseVersion.n3
 refine evB (verOk_both a b c p hp).2 ?_
 cases hv : verOk a b c p with
 | false => exact evF Bool.false_ne_true (evR (by simp [noV]))
 | true =>
  refine evT rfl (evB (verText_both a b c p hp).2 ?_)
  simp only [tl_eq]
  by_cases h : verText a b c p = s
  ·exact evT h (evR (by simp [h]))
  ·exact evF h (evR (by simp [h, noV]))
theorem spec_n2 (s t : ByteArray) (ht : t.size ≤ 1048576) : Ev (fun k => spec_ParseVersion.n2 k s (toB (cutL 45 t.data.toList).1) (preOf t))
  (if (numsOf t).length = 3 ∧ verOk (numS (at3 (numsOf t) 0)) (numS (at3 (numsOf t) 1)) (numS (at3 (numsOf t) 2)) (preOf t) = true ∧ verText (numS (at3 (numsOf t) 0)) (numS (at3 (numsOf t) 1)) (numS (at3 (numsOf t) 2)) (preOf t) = s then
   (numS (at3 (numsOf t) 0), numS (at3 (numsOf t) 1), numS (at3 (numsOf t) 2), preOf t, true) else noV) := by
 have hn := num_size t
 have hp := pre_size t
 unfold spec_ParseVersion.n2
 refine evB (a := numsOf t) (split_spec _ z1k 46) ?_
 by_cases h3 : (numsOf t).length = 3
 ·have z0 := at3_size t 0 z1k
  have z1 := at3_size t 1 z1k
  have z2 := at3_size t 2 z1k
  refine evT h3 (evB (numS_spec _ (Nat.le_trans z0 z1k)) (evB (numS_spec _ (Nat.le_trans z1 z1k)) (evB (numS_spec _ (Nat.le_trans z2 z1k)) (evE ?_ (spec_n3 s (preOf t) _ _ _ z1k)))))
  by_cases hh : verOk (numS (at3 (numsOf t) 0)) (numS (at3 (numsOf t) 1)) (numS (at3 (numsOf t) 2)) (preOf t) = true ∧ verText (numS (at3 (numsOf t) 0)) (numS (at3 (numsOf t) 1)) (numS (at3 (numsOf t) 2)) (preOf t) = s
  ·exact (if_pos hh).trans (if_pos ⟨h3, hh⟩).symm
  ·exact (if_neg hh).trans (if_neg (fun e => hh e.2)).symm
 ·rw [if_neg (fun e => h3 e.1)]
  exact evF h3 (evR rfl)
theorem spec_read (s : ByteArray) (hs : s.size ≤ 1048576) : Ev (fun k => spec_ParseVersion.f k s) (readS s) := by
 unfold spec_ParseVersion.f readS
 have hl := data_length s
 by_cases h0 : s.size = 0
 ·have hn : s.data.toList = [] := List.eq_nil_of_length_eq_zero z1k
  refine evT ((nil_iff' s).2 h0) (evR ?_)
  rw [hn, if_neg (fun e => by simp at e)]
  rfl
 ·refine evF (fun e => h0 ((nil_iff' s).1 e)) (evT z1k ?_)
  have hh := head_bt s 118 z1k
  by_cases hv : bt s 0 = 118
  ·have hv' : s.data.toList.head? = some 118 := hh.2 hv
   have ho : offV s = toB (s.data.toList.drop 1) := by unfold offV; rw [if_pos hv']
   refine evT hv (evT z1k ?_)
   rw [ext_end, ← ho]
   have hz := offV_size s
   refine spec_l0 s (offV s) z1k _ (offV s).size 0 z1k ?_
   rw [List.take_zero, List.nil_append, List.drop_zero]
   refine evE ?_ (spec_n2 s (offV s) z1k)
   by_cases h3 : (numsOf (offV s)).length = 3 ∧ verOk (numS (at3 (numsOf (offV s)) 0)) (numS (at3 (numsOf (offV s)) 1)) (numS (at3 (numsOf (offV s)) 2)) (preOf (offV s)) = true ∧
     verText (numS (at3 (numsOf (offV s)) 0)) (numS (at3 (numsOf (offV s)) 1)) (numS (at3 (numsOf (offV s)) 2)) (preOf (offV s)) = s
   ·rw [if_pos h3, if_pos ⟨hv', h3⟩]
   ·rw [if_neg h3, if_neg (fun e => h3 e.2)]
  ·refine evF hv (evR ?_)
   rw [if_neg (fun e => hv (hh.1 e.1))]
   rfl
theorem read_both (s : ByteArray) (hs : s.size ≤ 1048576) : Ev (fun k => impl_ParseVersion.f k s) (readS s) ∧ Ev (fun k => spec_ParseVersion.f k s) (readS s) := ⟨read_same s ▸ impl_read s hs, spec_read s hs⟩
end Go.Proofs.YtgdknepphkhnlaaGreatDoor.Z

/- A right version comes back of its text; a text that is read as a version has that version's text. Plain lemmas. -/
set_option linter.unusedVariables false
namespace Go.Proofs.YtgdknepphkhnlaaGreatDoor.Z
open Go.RowKit Go.Proofs.YtgdknepphkhnlaaGreatDoorW.PrintWords Go.Proofs.YtgdknepphkhnlaaGreatDoorW.PrintMore Go.Proofs.YtgdknepphkhnlaaGreatDoor.X Go.Proofs.YtgdknepphkhnlaaGreatDoor.Sp
theorem dig_of (k : Nat) (h : k < 10) : isD (UInt8.ofNat (48 + k)) = true ∧ digit (UInt8.ofNat (48 + k)) = k := by
 have e : (UInt8.ofNat (48 + k)).toNat = 48 + k := by
  rw [UInt8.toNat_ofNat']
  omega
 refine ⟨(isD_iff _).2 z1k, ?_⟩
 unfold digit
 omega
theorem dec_all (n : Nat) : (Lib.decDigits n).all isD = true ∧ val (Lib.decDigits n) = n ∧ Lib.decDigits n ≠ [] ∧ (10 ≤ n → lead (Lib.decDigits n)) ∧ (1 ≤ n → lead (Lib.decDigits n)) := by
 induction n using Nat.strongRecOn with
 | ind n ih =>
  rw [Lib.decDigits]
  by_cases h : n < 10
  ·rw [dif_pos h]
   obtain ⟨h1, h2⟩ := dig_of n h
   refine ⟨by rw [List.all_cons, h1]; rfl, ?_, by simp, fun e => by omega, fun e => ?_⟩
   ·rw [show ([UInt8.ofNat (48 + n)] : List UInt8) = [] ++ [UInt8.ofNat (48 + n)] from rfl, val_snoc, h2]
    show 0 * 10 + n = n
    omega
   ·unfold lead
    simp only [List.head?_cons, ne_eq, Option.some.injEq]
    intro e'
    rw [e'] at h2
    have : digit 48 = 0 := rfl
    omega
  ·rw [dif_neg h]
   obtain ⟨h1, h2, h3, h4, h5⟩ := ih (n / 10) z1k
   obtain ⟨d1, d2⟩ := dig_of (n % 10) z1k
   have hl : lead (Lib.decDigits (n / 10) ++ [UInt8.ofNat (48 + n % 10)]) := by
    have := h5 z1k
    unfold lead at this ⊢
    cases hx : Lib.decDigits (n / 10) with
    | nil => exact absurd hx h3
    | cons x y => rw [hx] at this; exact this
   refine ⟨by rw [List.all_append, h1, List.all_cons, d1]; rfl, ?_, by simp, fun _ => hl, fun _ => hl⟩
   rw [val_snoc, h2, d2]
   omega
theorem pcs_miss (c : UInt8) (l : List UInt8) (h : ∀ u ∈ l, u ≠ c) : pcs c l = [l] := by
 induction l with
 | nil => rfl
 | cons b l ih => rw [pcs, if_neg (h b List.mem_cons_self), ih (fun u hu => h u (List.mem_cons_of_mem _ hu))]; rfl
theorem dig_ne {l : List UInt8} (h : l.all isD = true) (c : UInt8) (hc : isD c = false) : ∀ u ∈ l, u ≠ c := by
 intro u hu e
 have := List.all_eq_true.1 h u hu
 rw [e, hc] at this
 cases this
def tailB (a b c : Int) (p : ByteArray) : List UInt8 :=
 Lib.decDigits a.toNat ++ 46 :: (Lib.decDigits b.toNat ++ 46 :: (Lib.decDigits c.toNat ++ (if p.size = 0 then [] else 45 :: p.data.toList)))
theorem verT_bytes (a b c : Int) (p : ByteArray) : (verT a b c p).data.toList = 118 :: tailB a b c p := by
 unfold verT tailB dB
 by_cases h : p.size = 0
 ·rw [if_pos h, if_pos h]
  simp [ByteArray.data_append]
 ·rw [if_neg h, if_neg h]
  simp [ByteArray.data_append]
theorem read_text (s : ByteArray) (a b c : Int) (p : ByteArray) (h : readS s = (a, b, c, p, true)) : verOk a b c p = true ∧ verText a b c p = s ∧ p.size ≤ s.size := by
 unfold readS at h
 split at h
 ·rename_i hc
  simp only [Prod.mk.injEq] at h
  obtain ⟨rfl, rfl, rfl, rfl, _⟩ := h
  exact ⟨hc.2.2.1, hc.2.2.2, Nat.le_trans (pre_size _) (offV_size s)⟩
 ·unfold noV at h
  simp at h
end Go.Proofs.YtgdknepphkhnlaaGreatDoor.Z

/- No right version's text holds a '@'; texts cut at a byte, and their pieces. Plain lemmas. -/
set_option linter.unusedVariables false
namespace Go.Proofs.YtgdknepphkhnlaaGreatDoor.Z
open Go.RowKit Go.Proofs.YtgdknepphkhnlaaGreatDoorW.PrintWords Go.Proofs.YtgdknepphkhnlaaGreatDoorW.PrintMore Go.Proofs.YtgdknepphkhnlaaGreatDoor.X Go.Proofs.YtgdknepphkhnlaaGreatDoor.Sp
theorem pcs_has (c : UInt8) : ∀ (l : List UInt8) (u : UInt8), u ∈ l → u = c ∨ ∃ x ∈ pcs c l, u ∈ x
 | [], u, h => by cases h
 | b :: l, u, h => by
  have ih := pcs_has c l u
  rw [pcs]
  rcases List.mem_cons.1 h with rfl | h
  ·by_cases hb : u = c
   ·exact .inl hb
   ·rw [if_neg hb]
    cases hp : pcs c l with
    | nil => exact absurd hp (pcs_ne c l)
    | cons a t => exact .inr ⟨u :: a, by simp [onto], by simp⟩
  ·rcases ih h with e | ⟨x, hx, hu⟩
   ·exact .inl e
   ·right
    by_cases hb : b = c
    ·rw [if_pos hb]
     exact ⟨x, List.mem_cons_of_mem _ hx, hu⟩
    ·rw [if_neg hb]
     cases hp : pcs c l with
     | nil => exact absurd hp (pcs_ne c l)
     | cons a t =>
      rw [hp] at hx
      rcases List.mem_cons.1 hx with rfl | hx
      ·exact ⟨b :: x, by simp [onto], List.mem_cons_of_mem _ hu⟩
      ·exact ⟨x, by simp [onto, hx], hu⟩
theorem pre_no (p : ByteArray) (h : pre p = true) : ∀ u ∈ p.data.toList, u ≠ 64 := by
 intro u hu e
 unfold pre at h
 simp only [Bool.and_eq_true] at h
 rcases pcs_has 46 p.data.toList u hu with h1 | ⟨x, hx, hux⟩
 ·rw [e] at h1
  exact absurd h1 z1l
 ·have hm : (⟨x.toArray⟩ : ByteArray) ∈ pieces 46 p := List.mem_map.2 ⟨x, hx, rfl⟩
  have := List.all_eq_true.1 h.1 _ hm
  unfold prt at this
  simp only [Bool.and_eq_true] at this
  have h2 := List.all_eq_true.1 this.1 u (by simpa using hux)
  rw [e] at h2
  exact absurd h2 z1l
theorem ver_no {a b c : Int} {p : ByteArray} (h : verOk a b c p = true) : ∀ u ∈ (verText a b c p).data.toList, u ≠ 64 := by
 have hpre : ∀ u ∈ p.data.toList, u ≠ 64 := by
  have h' := h
  unfold verOk at h'
  simp only [Bool.and_eq_true, Bool.or_eq_true, decide_eq_true_eq] at h'
  rcases h'.2.2.2 with h0 | hp
  ·intro u hu
   have : p.data.toList = [] := List.eq_nil_of_length_eq_zero (by rw [data_length]; exact h0)
   rw [this] at hu
   cases hu
  ·exact pre_no p hp
 have hA := dig_ne (dec_all a.toNat).1 64 rfl
 have hB := dig_ne (dec_all b.toNat).1 64 rfl
 have hC := dig_ne (dec_all c.toNat).1 64 rfl
 unfold verText
 rw [if_pos h, verT_bytes]
 unfold tailB
 intro u hu
 simp only [List.mem_cons, List.mem_append] at hu
 rcases hu with rfl | hu | rfl | hu | rfl | hu | hu
 ·decide
 ·exact hA u hu
 ·decide
 ·exact hB u hu
 ·decide
 ·exact hC u hu
 ·split at hu
  ·cases hu
  ·rcases List.mem_cons.1 hu with rfl | hu
   ·decide
   ·exact hpre u hu
theorem cut_cases (c : UInt8) : ∀ l : List UInt8, ((∀ u ∈ l, u ≠ c) ∧ pcs c l = [l] ∧ cutL c l = (l, [])) ∨ (l = (cutL c l).1 ++ c :: (cutL c l).2 ∧ pcs c l = (cutL c l).1 :: pcs c (cutL c l).2)
 | [] => .inl ⟨fun u h => (by cases h), rfl, rfl⟩
 | b :: l => by
  by_cases hb : b = c
  ·right
   rw [cutL, if_pos hb, pcs, if_pos hb]
   exact ⟨by rw [hb]; rfl, rfl⟩
  ·rw [cutL, if_neg hb, pcs, if_neg hb]
   rcases cut_cases c l with ⟨h1, h2, h3⟩ | ⟨h1, h2⟩
   ·left
    refine ⟨fun u hu => ?_, by rw [h2]; rfl, by rw [h3]⟩
    rcases List.mem_cons.1 hu with rfl | hu
    ·exact hb
    ·exact h1 u hu
   ·right
    refine ⟨?_, by rw [h2]; rfl⟩
    show b :: l = b :: ((cutL c l).1 ++ c :: (cutL c l).2)
    rw [← h1]
end Go.Proofs.YtgdknepphkhnlaaGreatDoor.Z

/- What a text is read as, a name: the program's way and the reference's. Plain lemmas. -/
set_option linter.unusedVariables false
namespace Go.Proofs.YtgdknepphkhnlaaGreatDoor.Z
open Go.RowKit Go.Proofs.YtgdknepphkhnlaaGreatDoorW.PrintWords Go.Proofs.YtgdknepphkhnlaaGreatDoorW.PrintMore Go.Proofs.YtgdknepphkhnlaaGreatDoor.X Go.Proofs.YtgdknepphkhnlaaGreatDoor.Sp
abbrev N6 := ByteArray × Int × Int × Int × ByteArray × Bool
def noN : N6 := (⟨#[]⟩, 0, 0, 0, ⟨#[]⟩, false)
theorem bytes_app (s t : ByteArray) : ((s ++ (⟨#[64]⟩ : ByteArray)) ++ t).data.toList = s.data.toList ++ 64 :: t.data.toList := by
 simp [ByteArray.data_append]
theorem eq_of_bytes {s t : ByteArray} (h : s.data.toList = t.data.toList) : s = t := by
 rw [← toB_self s, ← toB_self t, h]
theorem read_nil : readS (toB []) = noV := by
 unfold readS
 rw [if_neg]
 intro e
 have := e.1
 simp [toB] at this
theorem pname_both (s : ByteArray) (hs : s.size ≤ 1048576) : ∃ r : N6, Ev (fun k => impl_ParseName.f k s) r ∧ Ev (fun k => spec_ParseName.f k s) r ∧
  (r = noN ∨ r.2.2.2.2.2 = true ∧ r.1.size ≤ s.size ∧ r.2.2.2.2.1.size ≤ s.size ∧ Ev (fun k => impl_Fits.f k r.1 r.2.1 r.2.2.1 r.2.2.2.1 r.2.2.2.2.1) true ∧ Ev (fun k => impl_EntryName.f k r.1 r.2.1 r.2.2.1 r.2.2.2.1 r.2.2.2.2.1) s) := by
 have hl := data_length s
 obtain ⟨bb, hc⟩ := cut_ev s 64 hs
 have hS : Ev (fun k => spec_l3Split.f k s 64) (pieces 64 s) := split_spec s hs 64
 have hlen := cutL_len 64 s.data.toList
 have z1 : (toB (cutL 64 s.data.toList).1).size ≤ s.size := by rw [toB_size]; omega
 have z2 : (toB (cutL 64 s.data.toList).2).size ≤ s.size := by rw [toB_size]; omega
 unfold impl_ParseName.f spec_ParseName.f
 have hp : pieces 64 s = (pcs 64 s.data.toList).map toB := pieces_toB 64 s
 obtain ⟨q1, q2⟩ := read_both (toB (cutL 64 s.data.toList).2) z1k
 rcases cut_cases 64 s.data.toList with ⟨h1, h2, h3⟩ | ⟨h1, h2⟩
 ·refine ⟨noN, ?_, ?_, .inl rfl⟩
  ·refine evC hc (evB q1 ?_)
   rw [h3]
   exact evF (by show ¬ (readS (toB [])).2.2.2.2 = true; rw [read_nil]; decide) (evR rfl)
  ·refine evB hS ?_
   rw [hp, h2]
   exact evF (by simp) (evR rfl)
 ·obtain ⟨A, hA⟩ : ∃ A, (cutL 64 s.data.toList).1 = A := ⟨_, rfl⟩
  obtain ⟨B, hB⟩ : ∃ B, (cutL 64 s.data.toList).2 = B := ⟨_, rfl⟩
  rw [hA, hB] at h1 h2 hc
  rw [hA] at z1
  rw [hB] at z2 q1 q2
  have hne : s ≠ nilB := by
   intro e
   rw [e] at h1
   have : ([] : List UInt8) = A ++ 64 :: B := h1
   simp at this
  obtain ⟨⟨x, y, z, p, ok⟩, hr⟩ : ∃ v, readS (toB B) = v := ⟨_, rfl⟩
  rw [hr] at q1 q2
  cases ok with
  | false =>
   refine ⟨noN, evC hc (evB q1 (evF Bool.false_ne_true (evR rfl))), ?_, .inl rfl⟩
   refine evB hS ?_
   rw [hp, h2]
   by_cases h64 : (((A :: pcs 64 B).map toB).length : Int) = 2
   ·refine evT h64 (evT z1k ?_)
    have e1 : rdOf ByteArray.empty ((A :: pcs 64 B).map toB) 1 = toB B := by
     rcases cut_cases 64 B with ⟨b1, b2, b3⟩ | ⟨b1, b2⟩
     ·rw [b2]; rfl
     ·rw [b2] at h64
      have hq : 1 ≤ (pcs 64 (cutL 64 B).2).length := by rw [pcs_length]; omega
      simp at h64
      omega
    rw [e1]
    exact evB q2 (evF Bool.false_ne_true (evR rfl))
   ·exact evF h64 (evR rfl)
  | true =>
   obtain ⟨v1, v2, v3⟩ := read_text (toB B) x y z p hr
   have hno : ∀ u ∈ B, u ≠ 64 := by
    have := ver_no v1
    rw [v2, toB_data] at this
    exact this
   have e2 : (A :: pcs 64 B).map toB = [toB A, toB B] := by rw [pcs_miss 64 B hno]; rfl
   have zp : p.size ≤ s.size := by omega
   obtain ⟨r, f1, f2, _⟩ := fits_both (toB A) x y z p z1k z1k
   obtain ⟨n1, _⟩ := name_both (toB A) x y z p r z1k z1k f1 f2
   have hS2 : Ev (fun k => spec_l3Split.f k s 64) [toB A, toB B] := by rw [hp, h2, e2] at hS; exact hS
   cases r with
   | false =>
    refine ⟨noN, evC hc (evB q1 (evT rfl (evB n1 (evF ?_ (evR rfl))))), ?_, .inl rfl⟩
    ·intro e
     exact hne (tl_inj.1 e).symm
    ·refine evB hS2 (evT rfl (evT (by show (1 : Int) < ((2 : Nat) : Int); decide) (evB q2 (evT rfl (evT (by show (0 : Int) < ((2 : Nat) : Int); decide) (evB f2 (evF Bool.false_ne_true (evR rfl))))))))
   | true =>
    have hn : nameT true (toB A) x y z p = s := by
     unfold nameT
     rw [if_pos rfl, v2]
     apply eq_of_bytes
     rw [bytes_app, toB_data, toB_data]
     exact h1.symm
    rw [hn] at n1
    refine ⟨(toB A, x, y, z, p, true), evC hc (evB q1 (evT rfl (evB n1 (evT rfl (evF ?_ (evR rfl)))))), ?_, .inr ⟨rfl, z1k, z1k, f1, n1⟩⟩
    ·intro e
     have h0 := (nil_iff' s).1 e
     apply hne
     apply eq_of_bytes
     rw [List.eq_nil_of_length_eq_zero (show s.data.toList.length = 0 by omega)]
     rfl
    ·exact evB hS2 (evT rfl (evT (by show (1 : Int) < ((2 : Nat) : Int); decide) (evB q2 (evT rfl (evT (by show (0 : Int) < ((2 : Nat) : Int); decide) (evB f2 (evT rfl (evR rfl))))))))
end Go.Proofs.YtgdknepphkhnlaaGreatDoor.Z

/- What GetNum takes is just what PutNum writes: the bytes of a number that is read are that number's. No Go, no memory. -/
set_option linter.unusedVariables false
namespace Go.Proofs.YtgdknepphkhnlaaGreatDoor.Z
open Go.RowKit Go.Proofs.YtgdknepphkhnlaaGreatDoorW.PrintWords Go.Proofs.YtgdknepphkhnlaaGreatDoorW.PrintMore Go.Proofs.YtgdknepphkhnlaaGreatDoor.X
def Canon (b : List Int) (p i : Nat) (m : Int) (r : Int × Int × Bool) : Prop :=
 r.2.2 = true → ∃ q : Nat, r.1 = m + (q : Int) * 2 ^ (7 * i) ∧ (q = 0 → i = 0) ∧ r.2.1 = ((p + (encN (4 - i) q).length : Nat) : Int) ∧ (b.drop p).take (encN (4 - i) q).length = encN (4 - i) q ∧ i ≤ 4
theorem drop_rdI (b : List Int) (p : Nat) (h : p < b.length) : b.drop p = rd b (p : Int) :: b.drop (p + 1) := by
 rw [List.drop_eq_getElem_cons h]
 have := rd_get h
 rw [List.getElem?_eq_getElem h] at this
 rw [Option.some.inj this]
theorem canon_end {b : List Int} {p i : Nat} {m N : Int} (hp : p < b.length) (hc : 0 ≤ rd b (p : Int) ∧ rd b (p : Int) ≤ 255) (h1 : ¬ rd b (p : Int) > 127) (hN : m + rd b (p : Int) % 128 * 2 ^ (7 * i) = N) (h0 : rd b (p : Int) = 0 → i = 0) (hi : i ≤ 4) : Canon b p i m (N, ((p + 1 : Nat) : Int), true) := by
 intro _
 obtain ⟨c, hcc⟩ := Int.eq_ofNat_of_zero_le hc.1
 have he : encN (4 - i) c = [(c : Int)] := by
  have h127 : c ≤ 127 := by omega
  cases hd : 4 - i with
  | zero => simp [encN]; omega
  | succ d => rw [encN, if_neg z1k]; simp; omega
 refine ⟨c, ?_, fun h => h0 z1k, ?_, ?_, hi⟩
 ·show N = _
  rw [← hN, hcc, show (c : Int) % 128 = c by omega]
 ·rw [he]
  rfl
 ·rw [he, drop_rdI b p hp, hcc]
  rfl
theorem canon_on {b : List Int} {p i : Nat} {m N : Int} {r : Int × Int × Bool} (hp : p < b.length) (hc : 0 ≤ rd b (p : Int) ∧ rd b (p : Int) ≤ 255) (h1 : rd b (p : Int) > 127) (hN : m + rd b (p : Int) % 128 * 2 ^ (7 * i) = N) (g : Canon b (p + 1) (i + 1) N r) : Canon b p i m r := by
 intro hr
 obtain ⟨q, g1, g2, g3, g4, g5⟩ := g hr
 obtain ⟨c, hcc⟩ := Int.eq_ofNat_of_zero_le hc.1
 have hq : 1 ≤ q := by
  rcases Nat.eq_zero_or_pos q with h | h
  ·have := g2 h
   omega
  ·exact h
 have he : encN (4 - i) (c % 128 + 128 * q) = (c : Int) :: encN (4 - (i + 1)) q := by
  rw [show 4 - i = (4 - (i + 1)) + 1 by omega, encN, if_pos z1k, show (c % 128 + 128 * q) / 128 = q by omega]
  congr 1
  omega
 refine ⟨c % 128 + 128 * q, ?_, fun h => by omega, ?_, ?_, z1k⟩
 ·rw [g1, ← hN, hcc, show 7 * (i + 1) = 7 * i + 7 by omega, Int.pow_add]
  generalize (2 : Int) ^ (7 * i) = P
  have e : ((c % 128 + 128 * q : Nat) : Int) = (c : Int) % 128 + 128 * (q : Int) := by omega
  rw [e, Int.add_mul, Int.add_assoc]
  congr 2
  rw [show (2 : Int) ^ 7 = 128 by decide, Int.mul_comm P 128, ← Int.mul_assoc, Int.mul_comm (q : Int) 128]
 ·rw [g3, he, List.length_cons]
  omega
 ·rw [he, List.length_cons, drop_rdI b p hp, List.take_succ_cons, g4, hcc]
theorem gn_canon (b : List Int) (hb : ∀ x ∈ b, (Lit.int .u8 x).wf = true) (hl : b.length ≤ 140737488355328) (a : Nat) (d : Nat) : ∀ (i : Nat) (n : Int), i + d = 5 → a < b.length → 0 ≤ n ∧ n < 2 ^ (7 * i) →
  ∃ r, Ev (fun k => spec_GetNum.l0 k b (a : Int) n (i : Int)) r ∧ Ev (fun k => impl_GetNum.l0 k b ((a + i : Nat) : Int) n (i : Int)) r ∧ Canon b (a + i) i n r := by
 induction d with
 | zero =>
  intro i n hi ha hn
  refine ⟨(0, 0, false), ?_, ?_, fun h => (by cases h)⟩
  ·exact evS (fun k => by rw [spec_GetNum.l0]) (evF z1k (evS (fun k => by rw [spec_GetNum.j1]) (evF (by simp) (evR rfl))))
  ·exact evS (fun k => by rw [impl_GetNum.l0]) (evF z1k (evS (fun k => by rw [impl_GetNum.j1]) (evF (by simp) (evR rfl))))
 | succ d ih =>
  intro i n hi ha hn
  have hw : wrap64 ((a : Int) + (i : Int)) = ((a + i : Nat) : Int) := by rw [w64 z1k]; omega
  by_cases hp : a + i < b.length
  ·have hc := rd_byte hb ((a + i : Nat) : Int)
   have hv := gn_step (i := i) z1k hc hn
   have hN := pow_next (i := i) (y := rd b ((a + i : Nat) : Int) % 128) z1k hn z1k
   have hu := u64_ok (i := i) z1k
   have hwc : wrap64 (rd b ((a + i : Nat) : Int)) = rd b ((a + i : Nat) : Int) := w64 z1k
   have hs1 : ∀ r, Ev (fun k => spec_GetNum.j1 k b (a : Int) n (i : Int) true) r → Ev (fun k => spec_GetNum.l0 k b (a : Int) n (i : Int)) r := by
    intro r h
    refine evS (fun k => by rw [spec_GetNum.l0]) (evT z1k (evT z1k (evT z1k ?_)))
    rw [hw, decide_eq_true z1k]
    exact h
   have hi1 : ∀ r, Ev (fun k => impl_GetNum.j1 k b ((a + i : Nat) : Int) n (i : Int) true) r → Ev (fun k => impl_GetNum.l0 k b ((a + i : Nat) : Int) n (i : Int)) r := by
    intro r h
    refine evS (fun k => by rw [impl_GetNum.l0]) (evT z1k ?_)
    rw [decide_eq_true z1k]
    exact h
   generalize hN' : n + rd b ((a + i : Nat) : Int) % 128 * 2 ^ (7 * i) = N at *
   by_cases h1 : rd b ((a + i : Nat) : Int) > 127
   ·obtain ⟨r, e1, e2, g⟩ := ih (i + 1) N z1k ha hN
    refine ⟨r, hs1 r ?_, hi1 r ?_, canon_on hp hc h1 hN' g⟩
    ·refine evS (fun k => by rw [spec_GetNum.j1]) (evT rfl ?_)
     rw [hw]
     refine evT z1k (evT z1k (evT hu ?_))
     rw [hv, hwc, w64s (show i < 6 by omega) z1k]
     exact evT h1 e1
    ·refine evS (fun k => by rw [impl_GetNum.j1]) (evT rfl (evT z1k (evT z1k (evT hu ?_))))
     rw [hv, hwc, w64s (show i < 6 by omega) z1k, w64s (show a + i < b.length by omega) z1k]
     exact evF z1k e2
   ·have hgen : ∀ r : Int × Int × Bool, (if (rd b ((a + i : Nat) : Int) = 0 ∧ 0 < i) ∨ N > 1000000000 then ((0 : Int), (0 : Int), false) else (N, ((a + i + 1 : Nat) : Int), true)) = r →
      Ev (fun k => spec_GetNum.l0 k b (a : Int) n (i : Int)) r ∧ Ev (fun k => impl_GetNum.l0 k b ((a + i : Nat) : Int) n (i : Int)) r := by
     intro r hr
     refine ⟨hs1 r ?_, hi1 r ?_⟩
     ·refine evS (fun k => by rw [spec_GetNum.j1]) (evT rfl ?_)
      rw [hw]
      refine evT z1k (evT z1k (evT hu ?_))
      rw [hv, hwc, w64s (show a + i < b.length by omega) z1k]
      refine evF h1 (evI (fun h2 => evI (fun h3 => ?_) (fun h3 => evI (fun h4 => ?_) (fun h4 => ?_))) (fun h2 => evI (fun h4 => ?_) (fun h4 => ?_)))
      ·rw [if_pos (.inl ⟨h3, z1k⟩)] at hr
       exact evR hr
      ·rw [if_pos (.inr h4)] at hr
       exact evR hr
      ·rw [if_neg z1k] at hr
       exact evR hr
      ·rw [if_pos (.inr h4)] at hr
       exact evR hr
      ·rw [if_neg z1k] at hr
       exact evR hr
     ·refine evS (fun k => by rw [impl_GetNum.j1]) (evT rfl (evT z1k (evT z1k (evT hu ?_))))
      rw [hv, hwc, w64s (show a + i < b.length by omega) z1k]
      refine evT z1k (evI (fun h3 => evI (fun h2 => ?_) (fun h2 => evI (fun h4 => ?_) (fun h4 => ?_))) (fun h3 => evI (fun h4 => ?_) (fun h4 => ?_)))
      ·rw [if_pos (.inl ⟨h3, z1k⟩)] at hr
       exact evR hr
      ·rw [if_pos (.inr h4)] at hr
       exact evR hr
      ·rw [if_neg z1k] at hr
       exact evR hr
      ·rw [if_pos (.inr h4)] at hr
       exact evR hr
      ·rw [if_neg z1k] at hr
       exact evR hr
    obtain ⟨e1, e2⟩ := hgen _ rfl
    refine ⟨_, e1, e2, ?_⟩
    split
    ·exact fun h => (by cases h)
    ·rename_i hno
     exact canon_end hp hc h1 hN' (fun h => by omega) z1k
  ·refine ⟨(0, 0, false), ?_, ?_, fun h => (by cases h)⟩
   ·refine evS (fun k => by rw [spec_GetNum.l0]) (evT z1k (evT z1k (evT z1k ?_)))
    rw [hw, decide_eq_false z1k]
    exact evS (fun k => by rw [spec_GetNum.j1]) (evF (by simp) (evR rfl))
   ·refine evS (fun k => by rw [impl_GetNum.l0]) (evT z1k ?_)
    rw [decide_eq_false z1k]
    exact evS (fun k => by rw [impl_GetNum.j1]) (evF (by simp) (evR rfl))
theorem getNum_canon (b : List Int) (hb : ∀ x ∈ b, (Lit.int .u8 x).wf = true) (hl : b.length ≤ 140737488355328) (a : Nat) (r : Int × Int × Bool) (h : Ev (fun k => impl_GetNum.f k b (a : Int)) r) (hr : r.2.2 = true) :
  ∃ q : Nat, r.1 = (q : Int) ∧ q ≤ 1000000000 ∧ r.2.1 = ((a + (encN 4 q).length : Nat) : Int) ∧ b.drop a = encN 4 q ++ b.drop (a + (encN 4 q).length) := by
 have hlen : wrap64 ((b.length : Int) - 1) = (b.length : Int) - 1 := w64 z1k
 obtain ⟨r', _, e2, g⟩ := getNum_both b hb hl (a : Int)
 have er := ev_one e2 h
 subst er
 rcases g with g | ⟨_, g1, g2, g3, g4, g5⟩
 ·rw [g] at hr
  cases hr
 obtain ⟨r2, _, f2, c2⟩ := gn_canon b hb hl a 5 0 0 rfl z1k z1l
 have f3 : Ev (fun k => impl_GetNum.f k b (a : Int)) r2 := by
  unfold impl_GetNum.f impl_inRange.f
  rw [hlen]
  refine evC (a := true) ?_ (evT rfl f2)
  rw [if_pos z1k, decide_eq_true z1k]
 have e3 := ev_one f3 h
 subst e3
 obtain ⟨q, q1, _, q3, q4, _⟩ := c2 hr
 have q1' : r2.1 = (q : Int) := by rw [q1]; omega
 refine ⟨q, q1', z1k, q3, ?_⟩
 have := (List.take_append_drop (encN 4 q).length (b.drop a)).symm
 rw [show 4 - 0 = 4 from rfl] at q4
 rw [Nat.add_zero] at q4
 rw [q4, List.drop_drop] at this
 exact this
end Go.Proofs.YtgdknepphkhnlaaGreatDoor.Z

/- What GetText and GetTexts compute, the program's and the reference's: the same. No Go, no memory. -/
set_option linter.unusedVariables false
namespace Go.Proofs.YtgdknepphkhnlaaGreatDoor.Z
open Go.RowKit Go.Proofs.YtgdknepphkhnlaaGreatDoorW.PrintWords Go.Proofs.YtgdknepphkhnlaaGreatDoorW.PrintMore Go.Proofs.YtgdknepphkhnlaaGreatDoor.X
def TextOk (len : Nat) (a : Int) (r : ByteArray × Int × Bool) : Prop := r.2.2 = false ∨ r.2.2 = true ∧ a < r.2.1 ∧ r.2.1 ≤ len
def textOf (b : List Int) (r : Int × Int × Bool) : ByteArray × Int × Bool :=
 if r.2.2 = true then (if r.1 > (b.length : Int) - r.2.1 then ((⟨#[]⟩ : ByteArray), 0, false) else (strOfNums ((b.take (r.2.1 + r.1).toNat).drop r.2.1.toNat), r.2.1 + r.1, true)) else ((⟨#[]⟩ : ByteArray), 0, false)
theorem textOf_ok {b : List Int} {a : Int} {r : Int × Int × Bool} (g : GetOk b.length a r) : TextOk b.length a (textOf b r) := by
 unfold textOf
 split
 ·rename_i h
  rcases g with rfl | ⟨_, g1, g2, g3, g4, g5⟩
  ·cases h
  ·split
   ·exact .inl rfl
   ·exact .inr ⟨rfl, by show a < r.2.1 + r.1; omega, by show r.2.1 + r.1 ≤ _; omega⟩
 ·exact .inl rfl
theorem specText_of {b : List Int} (hl : b.length ≤ 140737488355328) {a : Int} {r : Int × Int × Bool} (h : Ev (fun k => spec_GetNum.f k b a) r) (g : GetOk b.length a r) : Ev (fun k => spec_GetText.f k b a) (textOf b r) := by
 unfold spec_GetText.f
 refine evB h ?_
 unfold textOf
 rcases g with rfl | ⟨g0, g1, g2, g3, g4, g5⟩
 ·exact evF (by simp) (evR rfl)
 ·have h1 : wrap64 ((b.length : Int) - r.2.1) = (b.length : Int) - r.2.1 := w64 z1k
  rw [h1]
  refine evT g0 (evI (fun h2 => ?_) (fun h2 => ?_))
  ·exact evR (by rw [if_pos g0, if_pos h2])
  ·by_cases h3 : 0 ≤ r.2.1
   ·have h4 : wrap64 (r.2.1 + r.1) = r.2.1 + r.1 := w64 z1k
    rw [h4]
    exact evT h3 (evT z1k (evT z1k (evR (by rw [if_pos g0, if_neg h2]))))
   ·exfalso
    omega
theorem implText_of {b : List Int} (hl : b.length ≤ 140737488355328) {a : Int} {r : Int × Int × Bool} (h : Ev (fun k => impl_GetNum.f k b a) r) (g : GetOk b.length a r) : Ev (fun k => impl_GetText.f k b a) (textOf b r) := by
 unfold impl_GetText.f
 refine evB h ?_
 unfold textOf
 rcases g with rfl | ⟨g0, g1, g2, g3, g4, g5⟩
 ·exact evF (by simp) (evR rfl)
 ·have h1 : wrap64 ((b.length : Int) - r.2.1) = (b.length : Int) - r.2.1 := w64 z1k
  rw [h1]
  refine evT g0 (evI (fun h2 => ?_) (fun h2 => ?_))
  ·exact evR (by rw [if_pos g0, if_pos h2])
  ·by_cases h3 : 0 ≤ r.2.1
   ·have h4 : wrap64 (r.2.1 + r.1) = r.2.1 + r.1 := w64 z1k
    rw [h4]
    exact evT h3 (evT z1k (evT z1k (evR (by rw [if_pos g0, if_neg h2]))))
   ·exfalso
    omega
theorem getText_both (b : List Int) (hb : ∀ x ∈ b, (Lit.int .u8 x).wf = true) (hl : b.length ≤ 140737488355328) (a : Int) :
  ∃ r, Ev (fun k => spec_GetText.f k b a) r ∧ Ev (fun k => impl_GetText.f k b a) r ∧ TextOk b.length a r := by
 obtain ⟨r, e1, e2, g⟩ := getNum_both b hb hl a
 exact ⟨_, specText_of hl e1 g, implText_of hl e2 g, textOf_ok g⟩
end Go.Proofs.YtgdknepphkhnlaaGreatDoor.Z

/- What GetTexts computes, the program's and the reference's: the same. No Go, no memory. -/
set_option linter.unusedVariables false
namespace Go.Proofs.YtgdknepphkhnlaaGreatDoor.Z
open Go.RowKit Go.Proofs.YtgdknepphkhnlaaGreatDoorW.PrintWords Go.Proofs.YtgdknepphkhnlaaGreatDoorW.PrintMore Go.Proofs.YtgdknepphkhnlaaGreatDoor.X
theorem gts_both (b : List Int) (hb : ∀ x ∈ b, (Lit.int .u8 x).wf = true) (hl : b.length ≤ 140737488355328) (n : Nat) (hn : n ≤ 200) (d : Nat) : ∀ (i : Nat) (p : Int) (acc : List ByteArray), i + d = n → acc.length = i → -9223372036854775808 ≤ p →
  ∃ r, Ev (fun k => spec_GetTexts.l0 k b (n : Int) p acc (i : Int)) r ∧ Ev (fun k => impl_GetTexts.l0 k b p acc (n : Int) (i : Int)) r ∧ r.1.length ≤ 200 := by
 induction d with
 | zero =>
  intro i p acc hi ha hp
  exact ⟨(acc, p, true), evS (fun k => by rw [spec_GetTexts.l0]) (evF z1k (evR rfl)), evS (fun k => by rw [impl_GetTexts.l0]) (evF z1k (evR rfl)), by show acc.length ≤ 200; omega⟩
 | succ d ih =>
  intro i p acc hi ha hp
  obtain ⟨t, e1, e2, g⟩ := getText_both b hb hl p
  by_cases ht : t.2.2 = true
  ·have hp2 : -9223372036854775808 ≤ t.2.1 := by
    rcases g with g | ⟨_, g, _⟩
    ·rw [g] at ht
     cases ht
    ·omega
   obtain ⟨r, e3, e4, h⟩ := ih (i + 1) t.2.1 (acc ++ [t.1]) z1k (by simp; omega) hp2
   refine ⟨r, ?_, ?_, h⟩
   ·refine evS (fun k => by rw [spec_GetTexts.l0]) (evT z1k (evB e1 ?_))
    refine evT ht (evT z1k ?_)
    rw [w64s (show i < n by omega) z1k]
    exact e3
   ·refine evS (fun k => by rw [impl_GetTexts.l0]) (evT z1k (evB e2 ?_))
    refine evT ht (evT z1k ?_)
    rw [w64s (show i < n by omega) z1k]
    exact e4
  ·exact ⟨(([] : List ByteArray), 0, false), evS (fun k => by rw [spec_GetTexts.l0]) (evT z1k (evB e1 (evF ht (evR rfl)))), evS (fun k => by rw [impl_GetTexts.l0]) (evT z1k (evB e2 (evF ht (evR rfl)))), by show 0 ≤ 200; omega⟩
theorem getTexts_both (b : List Int) (hb : ∀ x ∈ b, (Lit.int .u8 x).wf = true) (hl : b.length ≤ 140737488355328) (a : Int) :
  ∃ r, Ev (fun k => spec_GetTexts.f k b a) r ∧ Ev (fun k => impl_GetTexts.f k b a) r ∧ r.1.length ≤ 200 := by
 obtain ⟨t, e1, e2, g⟩ := getNum_both b hb hl a
 have hS : ∀ n p, Ev (fun k => spec_GetTexts.j0 k b n p true) (([] : List ByteArray), (0 : Int), false) := fun n p => evS (fun k => by rw [spec_GetTexts.j0]) (evT rfl (evR rfl))
 have hI : ∀ n p, Ev (fun k => impl_GetTexts.j0 k b n p true) (([] : List ByteArray), (0 : Int), false) := fun n p => evS (fun k => by rw [impl_GetTexts.j0]) (evT rfl (evR rfl))
 by_cases ht : t.2.2 = true
 ·have g' : 0 ≤ t.1 ∧ a < t.2.1 ∧ 0 ≤ a := by
   rcases g with rfl | ⟨_, g1, _, g2, _, g3⟩
   ·cases ht
   ·exact ⟨g1, g2, g3⟩
  by_cases hn : t.1 > 200
  ·refine ⟨(([] : List ByteArray), 0, false), ?_, ?_, by show 0 ≤ 200; omega⟩
   ·unfold spec_GetTexts.f
    refine evB e1 (evT ht ?_)
    rw [decide_eq_true hn]
    exact hS _ _
   ·unfold impl_GetTexts.f
    refine evB e2 (evT ht ?_)
    rw [decide_eq_true hn]
    exact hI _ _
  ·obtain ⟨n, hn'⟩ := Int.eq_ofNat_of_zero_le g'.1
   obtain ⟨r, e3, e4, h⟩ := gts_both b hb hl n z1k n 0 t.2.1 [] z1k rfl z1k
   have e3' : Ev (fun k => spec_GetTexts.l0 k b (n : Int) t.2.1 [] 0) r := e3
   have e4' : Ev (fun k => impl_GetTexts.l0 k b t.2.1 [] (n : Int) 0) r := e4
   refine ⟨r, ?_, ?_, h⟩
   ·unfold spec_GetTexts.f
    refine evB e1 (evT ht ?_)
    rw [decide_eq_false hn, hn']
    exact evS (fun k => by rw [spec_GetTexts.j0]) (evF Bool.false_ne_true e3')
   ·unfold impl_GetTexts.f
    refine evB e2 (evT ht ?_)
    rw [decide_eq_false hn, hn']
    exact evS (fun k => by rw [impl_GetTexts.j0]) (evF Bool.false_ne_true e4')
 ·refine ⟨(([] : List ByteArray), 0, false), ?_, ?_, by show 0 ≤ 200; omega⟩
  ·unfold spec_GetTexts.f
   exact evB e1 (evF ht (hS _ _))
  ·unfold impl_GetTexts.f
   exact evB e2 (evF ht (hI _ _))
end Go.Proofs.YtgdknepphkhnlaaGreatDoor.Z

/- What GetText and GetTexts take is just what PutText and PutTexts write. No Go, no memory. -/
set_option linter.unusedVariables false
namespace Go.Proofs.YtgdknepphkhnlaaGreatDoor.Z
open Go.RowKit Go.Proofs.YtgdknepphkhnlaaGreatDoorW.PrintWords Go.Proofs.YtgdknepphkhnlaaGreatDoorW.PrintMore Go.Proofs.YtgdknepphkhnlaaGreatDoor.X
theorem bytes_strOf (L : List Int) (h : ∀ x ∈ L, (Lit.int .u8 x).wf = true) : bytesOf (strOfNums L) = L := by
 have e : bytesOf (strOfNums L) = L.map (fun x => (((UInt8.ofNat x.toNat).toNat : Nat) : Int)) := by
  simp [strOfNums, bytesOf]
 rw [e]
 conv => rhs; rw [← List.map_id L]
 refine List.map_congr_left (fun x hx => ?_)
 have h1 := h x hx
 simp [Lit.wf, IntKind.min, IntKind.max, IntKind.signed, IntKind.bits] at h1
 show (((UInt8.ofNat x.toNat).toNat : Nat) : Int) = x
 rw [UInt8.toNat_ofNat']
 omega
theorem getText_canon (b : List Int) (hb : ∀ x ∈ b, (Lit.int .u8 x).wf = true) (hl : b.length ≤ 140737488355328) (a : Nat) (r : ByteArray × Int × Bool) (h : Ev (fun k => impl_GetText.f k b (a : Int)) r) (hr : r.2.2 = true) :
  r.2.1 = ((a + (encT r.1).length : Nat) : Int) ∧ b.drop a = encT r.1 ++ b.drop (a + (encT r.1).length) ∧ r.1.size + 1 ≤ (encT r.1).length ∧ a + (encT r.1).length ≤ b.length := by
 obtain ⟨t, _, e2, g⟩ := getNum_both b hb hl (a : Int)
 have er := ev_one (implText_of hl e2 g) h
 subst er
 unfold textOf at hr ⊢
 split at hr
 ·rename_i ht
  split at hr
  ·cases hr
  ·rename_i hle
   obtain ⟨q, q1, q2, q3, q4⟩ := getNum_canon b hb hl a t e2 ht
   rw [if_pos ht, if_neg hle]
   rw [q1, q3] at hle
   have hp := encN_pos 4 q
   generalize hn : a + (encN 4 q).length = n at q3 q4 hle
   rw [q1, q3, show ((n : Int) + (q : Int)).toNat = n + q by omega, show (n : Int).toNat = n by omega]
   have hcut : (b.take (n + q)).drop n = (b.drop n).take q := by rw [List.drop_take, show n + q - n = q by omega]
   rw [hcut]
   have hlen : ((b.drop n).take q).length = q := by rw [List.length_take, List.length_drop]; omega
   have hby : bytesOf (strOfNums ((b.drop n).take q)) = (b.drop n).take q := bytes_strOf _ (fun x hx => hb x (List.mem_of_mem_drop (List.mem_of_mem_take hx)))
   have hsz : (strOfNums ((b.drop n).take q)).size = q := by
    rw [← bytesOf_length, hby, hlen]
   have he : encT (strOfNums ((b.drop n).take q)) = encN 4 q ++ (b.drop n).take q := by
    unfold encT
    rw [hsz, near_of q2, hby]
   show (n : Int) + (q : Int) = ((a + (encT (strOfNums ((b.drop n).take q))).length : Nat) : Int) ∧ b.drop a = encT (strOfNums ((b.drop n).take q)) ++ b.drop (a + (encT (strOfNums ((b.drop n).take q))).length) ∧ (strOfNums ((b.drop n).take q)).size + 1 ≤ (encT (strOfNums ((b.drop n).take q))).length ∧ a + (encT (strOfNums ((b.drop n).take q))).length ≤ b.length
   rw [hsz, he, List.length_append, hlen]
   refine ⟨z1k, ?_, z1k, z1k⟩
   rw [q4, show a + ((encN 4 q).length + q) = n + q by omega, List.append_assoc, ← List.drop_drop, List.take_append_drop]
 ·cases hr
theorem gts_canon (b : List Int) (hb : ∀ x ∈ b, (Lit.int .u8 x).wf = true) (hl : b.length ≤ 140737488355328) (n : Nat) (hn : n ≤ 200) (d : Nat) : ∀ (i p : Nat) (acc : List ByteArray) (r : List ByteArray × Int × Bool), i + d = n → acc.length = i →
  Ev (fun k => impl_GetTexts.l0 k b (p : Int) acc (n : Int) (i : Int)) r → r.2.2 = true → p ≤ b.length →
  ∃ M : List ByteArray, r.1 = acc ++ M ∧ M.length = d ∧ r.2.1 = ((p + (encL M).length : Nat) : Int) ∧ b.drop p = encL M ++ b.drop (p + (encL M).length) ∧ p + (encL M).length ≤ b.length ∧ ∀ y ∈ M, y.size ≤ b.length := by
 induction d with
 | zero =>
  intro i p acc r hi ha H hr hp
  have H2 : Ev (fun k => impl_GetTexts.l0 k b (p : Int) acc (n : Int) (i : Int)) (acc, (p : Int), true) := evS (fun k => by rw [impl_GetTexts.l0]) (evF z1k (evR rfl))
  have e := ev_one H2 H
  subst e
  exact ⟨[], by simp, rfl, by simp [encL], by simp [encL], by simp [encL]; exact hp, fun y hy => by cases hy⟩
 | succ d ih =>
  intro i p acc r hi ha H hr hp
  obtain ⟨t, _, e2, g⟩ := getText_both b hb hl (p : Int)
  by_cases ht : t.2.2 = true
  ·obtain ⟨c1, c2, c3, c4⟩ := getText_canon b hb hl p t e2 ht
   obtain ⟨r', _, e4, _⟩ := gts_both b hb hl n hn d (i + 1) t.2.1 (acc ++ [t.1]) z1k (by simp; omega) z1k
   have H2 : Ev (fun k => impl_GetTexts.l0 k b (p : Int) acc (n : Int) (i : Int)) r' := by
    refine evS (fun k => by rw [impl_GetTexts.l0]) (evT z1k (evB e2 ?_))
    refine evT ht (evT z1k ?_)
    rw [w64s (show i < n by omega) z1k]
    exact e4
   have e := ev_one H2 H
   subst e
   rw [c1] at e4
   obtain ⟨M, m1, m2, m3, m4, m5, m6⟩ := ih (i + 1) (p + (encT t.1).length) (acc ++ [t.1]) r' z1k (by simp; omega) e4 hr c4
   refine ⟨t.1 :: M, ?_, by rw [List.length_cons, m2], ?_, ?_, ?_, ?_⟩
   ·rw [m1, List.append_assoc]
    rfl
   ·rw [m3, encL_cons, List.length_append]
    omega
   ·rw [c2, encL_cons, List.append_assoc, List.length_append, ← Nat.add_assoc, ← m4]
   ·rw [encL_cons, List.length_append]
    omega
   ·intro y hy
    rcases List.mem_cons.1 hy with rfl | hy
    ·omega
    ·exact m6 y hy
  ·have H2 : Ev (fun k => impl_GetTexts.l0 k b (p : Int) acc (n : Int) (i : Int)) (([] : List ByteArray), (0 : Int), false) := evS (fun k => by rw [impl_GetTexts.l0]) (evT z1k (evB e2 (evF ht (evR rfl))))
   have e := ev_one H2 H
   subst e
   cases hr
theorem getTexts_canon (b : List Int) (hb : ∀ x ∈ b, (Lit.int .u8 x).wf = true) (hl : b.length ≤ 140737488355328) (a : Nat) (r : List ByteArray × Int × Bool) (h : Ev (fun k => impl_GetTexts.f k b (a : Int)) r) (hr : r.2.2 = true) :
  r.2.1 = ((a + (encN 4 r.1.length ++ encL r.1).length : Nat) : Int) ∧ b.drop a = (encN 4 r.1.length ++ encL r.1) ++ b.drop (a + (encN 4 r.1.length ++ encL r.1).length) ∧ r.1.length ≤ 200 ∧ a + (encN 4 r.1.length ++ encL r.1).length ≤ b.length ∧ ∀ y ∈ r.1, y.size ≤ b.length := by
 obtain ⟨t, _, e2, g⟩ := getNum_both b hb hl (a : Int)
 have hI : ∀ n p, Ev (fun k => impl_GetTexts.j0 k b n p true) (([] : List ByteArray), (0 : Int), false) := fun n p => evS (fun k => by rw [impl_GetTexts.j0]) (evT rfl (evR rfl))
 by_cases ht : t.2.2 = true
 ·obtain ⟨q, q1, q2, q3, q4⟩ := getNum_canon b hb hl a t e2 ht
  have g4 : t.2.1 ≤ b.length := by
   rcases g with g | ⟨_, _, _, _, g4, _⟩
   ·rw [g] at ht
    cases ht
   ·exact g4
  by_cases hn : t.1 > 200
  ·have H2 : Ev (fun k => impl_GetTexts.f k b (a : Int)) (([] : List ByteArray), (0 : Int), false) := by
    unfold impl_GetTexts.f
    refine evB e2 (evT ht ?_)
    rw [decide_eq_true hn]
    exact hI _ _
   have e := ev_one H2 h
   subst e
   cases hr
  ·obtain ⟨r', _, e4, _⟩ := gts_both b hb hl q z1k q 0 t.2.1 [] z1k rfl z1k
   have H2 : Ev (fun k => impl_GetTexts.f k b (a : Int)) r' := by
    unfold impl_GetTexts.f
    refine evB e2 (evT ht ?_)
    rw [decide_eq_false hn, q1]
    refine evS (fun k => by rw [impl_GetTexts.j0]) ?_
    exact evF Bool.false_ne_true e4
   have e := ev_one H2 h
   subst e
   rw [q3] at e4
   obtain ⟨M, m1, m2, m3, m4, m5, m6⟩ := gts_canon b hb hl q z1k q 0 (a + (encN 4 q).length) [] r' z1k rfl e4 hr z1k
   rw [List.nil_append] at m1
   rw [m1, m2, List.length_append]
   refine ⟨by rw [m3]; omega, ?_, z1k, z1k, m6⟩
   rw [← Nat.add_assoc, List.append_assoc, ← m4]
   exact q4
 ·have H2 : Ev (fun k => impl_GetTexts.f k b (a : Int)) (([] : List ByteArray), (0 : Int), false) := by
   unfold impl_GetTexts.f
   exact evB e2 (evF ht (hI _ _))
  have e := ev_one H2 h
  subst e
  cases hr
end Go.Proofs.YtgdknepphkhnlaaGreatDoor.Z

/- What GetEntry computes, the program's and the reference's: the same; and what is read is right and has that text. Plain lemmas. -/
set_option linter.unusedVariables false
namespace Go.Proofs.YtgdknepphkhnlaaGreatDoor.Z
open Go.RowKit Go.Proofs.YtgdknepphkhnlaaGreatDoorW.PrintWords Go.Proofs.YtgdknepphkhnlaaGreatDoorW.PrintMore Go.Proofs.YtgdknepphkhnlaaGreatDoor.X Go.Proofs.YtgdknepphkhnlaaGreatDoor.Sp
theorem bytes_wf (s : ByteArray) : ∀ x ∈ bytesOf s, (Lit.int .u8 x).wf = true := by
 intro x hx
 simp only [bytesOf, List.mem_map] at hx
 obtain ⟨b, _, rfl⟩ := hx
 have := b.toNat_lt
 simp [Lit.wf, IntKind.min, IntKind.max, IntKind.signed, IntKind.bits]
 omega
theorem str_of_bytes (s : ByteArray) : strOfNums (bytesOf s) = s := by
 cases s with
 | mk d =>
  have h : ((fun n : Int => UInt8.ofNat n.toNat) ∘ fun b : UInt8 => (b.toNat : Int)) = id := by
   funext b
   simp
  simp [strOfNums, bytesOf, h]
theorem strOf_len (l : List Int) : (strOfNums l).size = l.length := by simp [strOfNums, ByteArray.size]
theorem text_none (b : List Int) (hb : ∀ x ∈ b, (Lit.int .u8 x).wf = true) (hl : b.length ≤ 140737488355328) (a : Int) (r : ByteArray × Int × Bool) (h : Ev (fun k => impl_GetText.f k b a) r) (hr : r.2.2 = false) : r = ((⟨#[]⟩ : ByteArray), (0 : Int), false) := by
 obtain ⟨t, _, e2, g⟩ := getNum_both b hb hl a
 have er := ev_one (implText_of hl e2 g) h
 subst er
 unfold textOf at hr ⊢
 split at hr
 ·rename_i ht
  split at hr
  ·rename_i hle
   rw [if_pos ht, if_pos hle]
  ·cases hr
 ·rename_i ht
  rw [if_neg ht]
theorem pname_need (s : ByteArray) (hs : s.size ≤ 1048576) : (Ev (fun k => impl_ParseName.f k s) noN ∧ Ev (fun k => spec_ParseName.f k s) noN) ∨ ∃ y : S35, Ev (fun k => impl_ParseName.f k s) (y.f0, y.f1.f0, y.f1.f1, y.f1.f2, y.f1.f3, true) ∧
  Ev (fun k => spec_ParseName.f k s) (y.f0, y.f1.f0, y.f1.f1, y.f1.f2, y.f1.f3, true) ∧ y.f0.size ≤ s.size ∧ y.f1.f3.size ≤ s.size ∧ fitsN y ∧ nmN y = s := by
 obtain ⟨⟨a, b, c, d, e, ok⟩, h1, h2, h3⟩ := pname_both s hs
 rcases h3 with h3 | ⟨h3, z1, z2, f1, n1⟩
 ·rw [h3] at h1 h2
  exact .inl ⟨h1, h2⟩
 ·simp only at h3 z1 z2 f1 n1
  subst h3
  refine .inr ⟨⟨a, ⟨b, c, d, e⟩⟩, h1, h2, z1, z2, ?_⟩
  obtain ⟨r, g1, g2, _⟩ := fits_both a b c d e z1k z1k
  have hr := ev_one g1 f1
  subst hr
  refine ⟨⟨g1, g2⟩, ?_⟩
  exact ev_one (name_both a b c d e true z1k z1k g1 g2).1 n1
abbrev E7 := ByteArray × Int × Int × Int × ByteArray × List S35 × Bool
def noE : E7 := (⟨#[]⟩, 0, 0, 0, ⟨#[]⟩, [], false)
theorem names_loop (x : ByteArray) (L : List ByteArray) (hL : L.length ≤ 200) (hs : ∀ y ∈ L, y.size ≤ 1048576) (s : ByteArray) (a b c : Int) (p : ByteArray) (d : Nat) : ∀ (i : Nat) (acc : List S35), i + d = L.length → acc.length = i →
  (Ev (fun k => impl_GetEntry.l0 k x L (L.length : Int) (i : Int) s a b c p acc) noE ∧ Ev (fun k => spec_GetEntry.l0 k L (i : Int) (⟨#[]⟩ : ByteArray) 0 0 0 (⟨#[]⟩ : ByteArray) s a b c p acc) noE) ∨
  ∃ M : List S35, M.map nmN = L.drop i ∧ (∀ y ∈ M, smallN y ∧ fitsN y) ∧
   (∀ r, Ev (fun k => impl_GetEntry.l0 k x L (L.length : Int) (L.length : Int) s a b c p (acc ++ M)) r → Ev (fun k => impl_GetEntry.l0 k x L (L.length : Int) (i : Int) s a b c p acc) r) ∧
   (∀ r, Ev (fun k => spec_GetEntry.l0 k L (L.length : Int) (⟨#[]⟩ : ByteArray) 0 0 0 (⟨#[]⟩ : ByteArray) s a b c p (acc ++ M)) r → Ev (fun k => spec_GetEntry.l0 k L (i : Int) (⟨#[]⟩ : ByteArray) 0 0 0 (⟨#[]⟩ : ByteArray) s a b c p acc) r) := by
 induction d with
 | zero =>
  intro i acc hi ha
  refine .inr ⟨[], ?_, (fun y hy => (by cases hy)), fun r hr => ?_, fun r hr => ?_⟩
  ·rw [List.drop_eq_nil_of_le z1k]
   rfl
  ·rw [List.append_nil] at hr
   rw [show (i : Int) = (L.length : Int) by omega]
   exact hr
  ·rw [List.append_nil] at hr
   rw [show (i : Int) = (L.length : Int) by omega]
   exact hr
 | succ d ih =>
  intro i acc hi ha
  have il : i < L.length := by omega
  have hd := drop_rd L i il
  have hm := hs _ (List.mem_of_getElem? (rdOf_get (d := ByteArray.empty) il))
  rcases pname_need (rdOf ByteArray.empty L (i : Int)) hm with ⟨n1, n2⟩ | ⟨y, n1, n2, z1, z2, hf, hn⟩
  ·refine .inl ⟨?_, ?_⟩
   ·refine evS (fun k => by rw [impl_GetEntry.l0]) ?_
    exact evT z1k (evT z1k (evT z1k (evB n1 (evF Bool.false_ne_true (evR rfl)))))
   ·refine evS (fun k => by rw [spec_GetEntry.l0]) ?_
    exact evT z1k (evT z1k (evB n2 (evF Bool.false_ne_true (evR rfl))))
  ·have hI : ∀ r, Ev (fun k => impl_GetEntry.l0 k x L (L.length : Int) ((i + 1 : Nat) : Int) s a b c p (acc ++ [y])) r → Ev (fun k => impl_GetEntry.l0 k x L (L.length : Int) (i : Int) s a b c p acc) r := by
    intro r hr
    refine evS (fun k => by rw [impl_GetEntry.l0]) ?_
    rw [w64s il z1k]
    exact evT z1k (evT z1k (evT z1k (evB n1 (evT rfl (evT z1k hr)))))
   have hS : ∀ r, Ev (fun k => spec_GetEntry.l0 k L ((i + 1 : Nat) : Int) (⟨#[]⟩ : ByteArray) 0 0 0 (⟨#[]⟩ : ByteArray) s a b c p (acc ++ [y])) r → Ev (fun k => spec_GetEntry.l0 k L (i : Int) (⟨#[]⟩ : ByteArray) 0 0 0 (⟨#[]⟩ : ByteArray) s a b c p acc) r := by
    intro r hr
    refine evS (fun k => by rw [spec_GetEntry.l0]) ?_
    rw [w64s il z1k]
    exact evT z1k (evT z1k (evB n2 (evT rfl (evT z1k hr))))
   rcases ih (i + 1) (acc ++ [y]) z1k (by rw [List.length_append, ha]; rfl) with ⟨q1, q2⟩ | ⟨M, m1, m2, m3, m4⟩
   ·exact .inl ⟨hI _ q1, hS _ q2⟩
   ·refine .inr ⟨y :: M, ?_, ?_, fun r hr => ?_, fun r hr => ?_⟩
    ·rw [List.map_cons, m1, hn, hd]
    ·intro z hz
     rcases List.mem_cons.1 hz with rfl | hz
     ·exact ⟨⟨z1k, z1k⟩, hf⟩
     ·exact m2 z hz
    ·exact hI r (m3 r (by rw [List.append_assoc]; exact hr))
    ·exact hS r (m4 r (by rw [List.append_assoc]; exact hr))
def GotE (s : ByteArray) (r : E7) : Prop := r = noE ∨ r.2.2.2.2.2.2 = true ∧ r.1.size ≤ 1048576 ∧ r.2.2.2.2.1.size ≤ 1048576 ∧ r.2.2.2.2.2.1.length ≤ 8 ∧ (∀ y ∈ r.2.2.2.2.2.1, smallN y) ∧
 Ev (fun k => impl_EntryOk.f k r.1 r.2.1 r.2.2.1 r.2.2.2.1 r.2.2.2.2.1 r.2.2.2.2.2.1) true ∧ Ev (fun k => impl_PutEntry.f k r.1 r.2.1 r.2.2.1 r.2.2.2.1 r.2.2.2.2.1 r.2.2.2.2.2.1) s
theorem getE_both (s : ByteArray) (hs : s.size ≤ 1048576) : ∃ r : E7, Ev (fun k => impl_GetEntry.f k s) r ∧ Ev (fun k => spec_GetEntry.f k s) r ∧ GotE s r := by
 have hb := bytes_wf s
 have hl : (bytesOf s).length ≤ 1048576 := by rw [bytesOf_length]; exact hs
 obtain ⟨B, hB⟩ : ∃ B, bytesOf s = B := ⟨_, rfl⟩
 have hBs : strOfNums B = s := by rw [← hB]; exact str_of_bytes s
 rw [hB] at hb hl
 obtain ⟨⟨t1, t2, t3⟩, ts, ti, tg⟩ := getText_both B hb z1k 0
 have hno : ∀ (u : List ByteArray × Int × Bool) (n : N6), Ev (fun k => spec_GetTexts.f k B t2) u → Ev (fun k => impl_getter_texts.f k B t2 (!t3)) (if t3 = true ∧ u.2.2 = true then u.1 else [], if t3 = true ∧ u.2.2 = true then u.2.1 else t2, !(t3 && u.2.2)) →
   Ev (fun k => impl_getter_text.f k B 0 false) (t1, t2, !t3) → Ev (fun k => impl_ParseName.f k t1) n → Ev (fun k => spec_ParseName.f k t1) n → (t3 && u.2.2 && n.2.2.2.2.2) = false →
   Ev (fun k => impl_GetEntry.f k s) noE ∧ Ev (fun k => spec_GetEntry.f k s) noE := by
  intro u n us ui tt n1 n2 hz
  constructor
  ·unfold impl_GetEntry.f
   rw [hB]
   refine evT z1k (evC rfl (evB tt (evB ui (evB n1 ?_))))
   cases h3 : (t3 && u.2.2) with
   | false =>
    refine evT rfl (evS (fun k => by rw [impl_GetEntry.j0]) ?_)
    exact evT rfl (evR rfl)
   | true =>
    rw [h3, Bool.true_and] at hz
    refine evF (by show ¬ ((!true) = true); decide) (evS (fun k => by rw [impl_GetEntry.j0]) ?_)
    refine evT ?_ (evR rfl)
    rw [hz]
    rfl
  ·unfold spec_GetEntry.f
   rw [hB]
   refine evT z1k (evC rfl (evB ts (evB us (evB n2 ?_))))
   have hj : ∀ m, Ev (fun k => spec_GetEntry.j0 k u.1 true (⟨#[]⟩ : ByteArray) 0 0 0 (⟨#[]⟩ : ByteArray) n.1 n.2.1 n.2.2.1 n.2.2.2.1 m) noE := by
    intro m
    refine evS (fun k => by rw [spec_GetEntry.j0]) ?_
    exact evT rfl (evR rfl)
   cases t3 with
   | false => exact evF Bool.false_ne_true (hj _)
   | true =>
    refine evT rfl ?_
    cases h3 : u.2.2 with
    | false => exact evF Bool.false_ne_true (hj _)
    | true =>
     refine evT rfl ?_
     rw [h3] at hz
     refine evF (fun e => ?_) (hj _)
     rw [e] at hz
     cases hz
 have tt : Ev (fun k => impl_getter_text.f k B 0 false) (t1, t2, !t3) := by
  unfold impl_getter_text.f
  refine evB ti (evF Bool.false_ne_true ?_)
  cases t3 with
  | true => exact evT rfl (evR rfl)
  | false =>
   refine evF Bool.false_ne_true (evR ?_)
   have h0 : (t1, t2, false) = ((⟨#[]⟩ : ByteArray), (0 : Int), false) := text_none B hb z1k 0 _ ti rfl
   injection h0 with h1 h2
   injection h2 with h2 _
   rw [h1, h2]
   rfl
 have ht1 : t1.size ≤ 1048576 := by
  cases t3 with
  | true =>
   obtain ⟨_, c2, c3, c4⟩ := getText_canon B hb z1k 0 _ ti rfl
   simp only at c3 c4
   omega
  | false =>
   have h0 : (t1, t2, false) = ((⟨#[]⟩ : ByteArray), (0 : Int), false) := text_none B hb z1k 0 _ ti rfl
   injection h0 with h1 h2
   rw [h1]
   decide
 obtain ⟨⟨u1, u2, u3⟩, us, ui, _⟩ := getTexts_both B hb z1k t2
 have uu : Ev (fun k => impl_getter_texts.f k B t2 (!t3)) (if t3 = true ∧ u3 = true then u1 else [], if t3 = true ∧ u3 = true then u2 else t2, !(t3 && u3)) := by
  unfold impl_getter_texts.f
  refine evB ui ?_
  cases t3 with
  | false => exact evT rfl (evR (by simp))
  | true =>
   refine evF z1l ?_
   cases u3 with
   | true => exact evT rfl (evR (by simp))
   | false => exact evF Bool.false_ne_true (evR (by simp))
 rcases pname_need t1 ht1 with ⟨n1, n2⟩ | ⟨y, n1, n2, z1, z2, hf, hn⟩
 ·obtain ⟨q1, q2⟩ := hno (u1, u2, u3) noN us uu tt n1 n2 (by simp [noN])
  exact ⟨noE, q1, q2, .inl rfl⟩
 cases h3 : (t3 && u3) with
 | false =>
  obtain ⟨q1, q2⟩ := hno (u1, u2, u3) _ us uu tt n1 n2 (by simp only [h3, Bool.false_and])
  exact ⟨noE, q1, q2, .inl rfl⟩
 | true =>
  rw [Bool.and_eq_true] at h3
  obtain ⟨rfl, rfl⟩ := h3
  obtain ⟨c1, c2, c3, c4⟩ := getText_canon B hb z1k 0 _ ti rfl
  simp only [Nat.zero_add, List.drop_zero] at c1 c2 c3 c4
  subst c1
  obtain ⟨d1, d2, d3, d4, d5⟩ := getTexts_canon B hb z1k _ _ ui rfl
  simp only at d1 d2 d3 d4 d5
  subst d1
  obtain ⟨E, hE⟩ : ∃ E : List Int, encT t1 ++ (encN 4 u1.length ++ encL u1) = E := ⟨_, rfl⟩
  have hEl : (encT t1).length + (encN 4 u1.length ++ encL u1).length = E.length := by
   have he := congrArg List.length hE
   rw [List.length_append] at he
   exact he
  have hBE : B = E ++ B.drop E.length := by
   rw [d2, hEl, ← List.append_assoc, hE] at c2
   exact c2
  rw [hEl] at d4
  have uu' : Ev (fun k => impl_getter_texts.f k B ((encT t1).length : Int) false) (u1, (((encT t1).length + (encN 4 u1.length ++ encL u1).length : Nat) : Int), false) := uu
  have hI : ∀ r, Ev (fun k => impl_GetEntry.l0 k s u1 (u1.length : Int) 0 y.f0 y.f1.f0 y.f1.f1 y.f1.f2 y.f1.f3 []) r → Ev (fun k => impl_GetEntry.f k s) r := by
   intro r hr
   unfold impl_GetEntry.f
   rw [hB]
   refine evT z1k (evC rfl (evB tt (evB uu' (evB n1 (evF Bool.false_ne_true ?_)))))
   refine evS (fun k => by rw [impl_GetEntry.j0]) ?_
   exact evF (by show ¬ ((!true) = true); decide) hr
  by_cases hq : E.length = B.length
  ·have hBB : B = E := by
    rw [hBE, List.drop_eq_nil_of_le z1k, List.append_nil]
   have hS : ∀ r, Ev (fun k => spec_GetEntry.l0 k u1 0 (⟨#[]⟩ : ByteArray) 0 0 0 (⟨#[]⟩ : ByteArray) y.f0 y.f1.f0 y.f1.f1 y.f1.f2 y.f1.f3 []) r → Ev (fun k => spec_GetEntry.f k s) r := by
    intro r hr
    unfold spec_GetEntry.f
    rw [hB]
    refine evT z1k (evC rfl (evB ts (evB us (evB n2 (evT rfl (evT rfl (evT rfl ?_)))))))
    refine evS (fun k => by rw [spec_GetEntry.j0]) ?_
    refine evF ?_ hr
    show ¬ ((((((encT t1).length + (encN 4 u1.length ++ encL u1).length : Nat) : Int) != (B.length : Int))) = true)
    rw [hEl, hq]
    simp
   rcases names_loop s u1 d3 (fun z hz => by have := d5 z hz; omega) y.f0 y.f1.f0 y.f1.f1 y.f1.f2 y.f1.f3 u1.length 0 [] z1k rfl with ⟨q1, q2⟩ | ⟨M, m1, m2, m3, m4⟩
   ·exact ⟨noE, hI _ q1, hS _ q2, .inl rfl⟩
   ·rw [List.drop_zero] at m1
    rw [List.nil_append] at m3 m4
    have hMl : M.length = u1.length := by rw [← m1, List.length_map]
    obtain ⟨r, o1, o2, o3, _⟩ := putE_both y.f0 y.f1.f0 y.f1.f1 y.f1.f2 y.f1.f3 M z1k z1k z1k (fun z hz => (m2 z hz).1)
    have hen : encE y.f0 y.f1.f0 y.f1.f1 y.f1.f2 y.f1.f3 M = B := by
     rw [hBB, ← hE]
     unfold encE
     rw [m1, near_of z1k]
     congr 1
     exact congrArg encT hn
    rw [hen, hBs] at o3
    cases r with
    | false =>
     refine ⟨noE, hI _ (m3 _ ?_), hS _ (m4 _ ?_), .inl rfl⟩
     ·refine evS (fun k => by rw [impl_GetEntry.l0]) ?_
      refine evF z1k (evB o3 (evF ?_ (evR rfl)))
      intro e
      have e2 : (⟨#[]⟩ : ByteArray) = s := tl_inj.1 e
      have h0 : s.size = 0 := by rw [← e2]; rfl
      rw [← hBs, strOf_len] at h0
      omega
     ·refine evS (fun k => by rw [spec_GetEntry.l0]) ?_
      refine evF z1k (evB o2 (evF Bool.false_ne_true (evR rfl)))
    | true =>
     obtain ⟨_, f2, _, _⟩ := entry_true y.f0 y.f1.f0 y.f1.f1 y.f1.f2 y.f1.f3 M z1k z1k z1k (fun z hz => (m2 z hz).1) o2
     refine ⟨(y.f0, y.f1.f0, y.f1.f1, y.f1.f2, y.f1.f3, M, true), hI _ (m3 _ ?_), hS _ (m4 _ ?_), .inr ⟨rfl, by show y.f0.size ≤ _; omega, by show y.f1.f3.size ≤ _; omega, f2, fun z hz => (m2 z hz).1, o1, o3⟩⟩
     ·refine evS (fun k => by rw [impl_GetEntry.l0]) ?_
      exact evF z1k (evB o3 (evT rfl (evR rfl)))
     ·refine evS (fun k => by rw [spec_GetEntry.l0]) ?_
      exact evF z1k (evB o2 (evT rfl (evR rfl)))
  ·have hS : Ev (fun k => spec_GetEntry.f k s) noE := by
    unfold spec_GetEntry.f
    rw [hB]
    refine evT z1k (evC rfl (evB ts (evB us (evB n2 (evT rfl (evT rfl (evT rfl ?_)))))))
    refine evS (fun k => by rw [spec_GetEntry.j0]) ?_
    refine evT ?_ (evR rfl)
    show ((((((encT t1).length + (encN 4 u1.length ++ encL u1).length : Nat) : Int) != (B.length : Int))) = true)
    rw [hEl]
    exact bne_iff_ne.2 z1k
   rcases names_loop s u1 d3 (fun z hz => by have := d5 z hz; omega) y.f0 y.f1.f0 y.f1.f1 y.f1.f2 y.f1.f3 u1.length 0 [] z1k rfl with ⟨q1, _⟩ | ⟨M, m1, m2, m3, m4⟩
   ·exact ⟨noE, hI _ q1, hS, .inl rfl⟩
   ·rw [List.drop_zero] at m1
    rw [List.nil_append] at m3
    have hMl : M.length = u1.length := by rw [← m1, List.length_map]
    obtain ⟨r, o1, o2, o3, _⟩ := putE_both y.f0 y.f1.f0 y.f1.f1 y.f1.f2 y.f1.f3 M z1k z1k z1k (fun z hz => (m2 z hz).1)
    have hen : encE y.f0 y.f1.f0 y.f1.f1 y.f1.f2 y.f1.f3 M = E := by
     rw [← hE]
     unfold encE
     rw [m1, near_of z1k]
     congr 1
     exact congrArg encT hn
    rw [hen] at o3
    refine ⟨noE, hI _ (m3 _ ?_), hS, .inl rfl⟩
    refine evS (fun k => by rw [impl_GetEntry.l0]) ?_
    refine evF z1k (evB o3 (evF ?_ (evR rfl)))
    intro e
    have e2 := tl_inj.1 e
    have hsz : s.size = B.length := by rw [← hBs, strOf_len]
    cases r with
    | false =>
     have h0 : s.size = 0 := by rw [← e2]; rfl
     omega
    | true =>
     have h0 : s.size = E.length := by rw [← e2]; exact strOf_len E
     omega
end Go.Proofs.YtgdknepphkhnlaaGreatDoor.Z

/- What the reference's draws of one number give. No Go, no memory. -/
set_option linter.unusedVariables false
namespace Go.Proofs.YtgdknepphkhnlaaGreatDoor.Z
open Go.RowKit Go.Proofs.YtgdknepphkhnlaaGreatDoorW.PrintWords Go.Proofs.YtgdknepphkhnlaaGreatDoorW.PrintMore Go.Proofs.YtgdknepphkhnlaaGreatDoor.X
theorem and255 (a : Int) : 0 ≤ Go.bits .and .i64 a 255 ∧ Go.bits .and .i64 a 255 ≤ 255 := by
 have h : ((BitVec.ofInt 64 a &&& BitVec.ofInt 64 255).toNat) ≤ 255 := by
  rw [BitVec.toNat_and]
  exact Nat.and_le_right
 have h2 : Go.bits .and .i64 a 255 = IntKind.i64.wrap (((BitVec.ofInt 64 a &&& BitVec.ofInt 64 255).toNat : Nat) : Int) := rfl
 rw [h2, wi64, w64 z1k]
 omega
def At (l : List Int) (i : Int) : Prop := 0 ≤ i ∧ i ≤ l.length
theorem byte_some (l : List Int) (hl : l.length ≤ 140737488355328) (i h : Int) (hi : At l i) : ∃ x i' h', spec_l1Byte.f l i h = some (x, i', h') ∧ 0 ≤ x ∧ x ≤ 255 ∧ At l i' := by
 unfold At at *
 unfold spec_l1Byte.f
 by_cases h1 : i < (l.length : Int)
 ·rw [if_pos h1, if_pos hi.1, w64 (x := i + 1) z1k]
  exact ⟨_, _, _, rfl, (and255 _).1, (and255 _).2, z1k, z1k⟩
 ·rw [if_neg h1]
  exact ⟨_, _, _, rfl, (and255 _).1, (and255 _).2, hi⟩
theorem below_some (l : List Int) (hl : l.length ≤ 140737488355328) (i h n : Int) (hi : At l i) (hn : n ≤ 1000000) : ∃ x i' h', spec_l1Below.f l i h n = some (x, i', h') ∧ 0 ≤ x ∧ (x < n ∨ x = 0) ∧ At l i' := by
 unfold spec_l1Below.f
 by_cases h0 : n ≤ 0
 ·rw [if_pos h0]
  exact ⟨_, _, _, rfl, z1k, .inr rfl, hi⟩
 rw [if_neg h0]
 by_cases h1 : n ≤ 256
 ·rw [if_pos h1]
  obtain ⟨x, i', h', e, hx0, hx1, hi'⟩ := byte_some l hl i h hi
  rw [e]
  simp only [Option.bind_some]
  rw [if_neg z1k, Int.tmod_eq_emod_of_nonneg hx0]
  exact ⟨_, _, _, rfl, Int.emod_nonneg _ z1k, .inl (Int.emod_lt_of_pos _ z1k), hi'⟩
 ·rw [if_neg h1]
  obtain ⟨x, i1, h1', e1, hx0, hx1, hi1⟩ := byte_some l hl i h hi
  obtain ⟨y, i2, h2', e2, hy0, hy1, hi2⟩ := byte_some l hl i1 h1' hi1
  obtain ⟨z, i3, h3', e3, hz0, hz1, hi3⟩ := byte_some l hl i2 h2' hi2
  rw [e1]
  simp only [Option.bind_some]
  rw [e2]
  simp only [Option.bind_some]
  rw [e3]
  simp only [Option.bind_some]
  rw [if_neg z1k, w64 (x := x * 65536) z1k, w64 (x := y * 256) z1k, w64 (x := x * 65536 + y * 256) z1k, w64 (x := x * 65536 + y * 256 + z) z1k, Int.tmod_eq_emod_of_nonneg z1k]
  exact ⟨_, _, _, rfl, Int.emod_nonneg _ z1k, .inl (Int.emod_lt_of_pos _ z1k), hi3⟩
theorem int_some (l : List Int) (hl : l.length ≤ 140737488355328) (i h : Int) (m : List Int) (hi : At l i) (hm : 0 < m.length) (hm2 : m.length ≤ 1000) : ∃ x i' h', spec_l1Int.f l i h m = some (x, i', h') ∧ x ∈ m ∧ At l i' := by
 unfold spec_l1Int.f
 obtain ⟨x, i', h', e, hx0, hx1, hi'⟩ := below_some l hl i h (m.length : Int) hi z1k
 rw [e]
 simp only [Option.bind_some]
 rw [if_pos hx0, if_pos z1k]
 refine ⟨_, _, _, rfl, ?_, hi'⟩
 have := rd_get (l := m) (i := x.toNat) z1k
 rw [show ((x.toNat : Nat) : Int) = x by omega] at this
 exact List.mem_of_getElem? this
theorem new_l0 (l : List Int) (hl : l.length ≤ 140737488355328) (d : Nat) : ∀ (j : Nat) (h : Int), j + d = l.length → ∃ h', Ev (fun k => spec_l1New.l0 k l h (j : Int)) (l, 0, h') := by
 induction d with
 | zero =>
  intro j h hj
  exact ⟨h, evS (fun k => by rw [spec_l1New.l0]) (evF z1k (evR rfl))⟩
 | succ d ih =>
  intro j h hj
  by_cases h4 : (j : Int) < 4000
  ·obtain ⟨h', e⟩ := ih (j + 1) (Go.bits .and .i64 (wrap64 ((wrap64 ((wrap64 (h * 137)) + (wrap64 (rd l (j : Int))))) + 11)) 1073741823) z1k
   refine ⟨h', evS (fun k => by rw [spec_l1New.l0]) (evT z1k (evT h4 (evT z1k ?_)))⟩
   rw [w64s (show j < l.length by omega) z1k]
   exact e
  ·exact ⟨h, evS (fun k => by rw [spec_l1New.l0]) (evT z1k (evF h4 (evR rfl)))⟩
theorem new_some (l : List Int) (hl : l.length ≤ 140737488355328) : ∃ h', Ev (fun k => spec_l1New.f k l) (l, 0, h') := by
 obtain ⟨h', e⟩ := new_l0 l hl l.length 0 (wrap64 (372372 + (l.length : Int))) z1k
 exact ⟨h', e⟩
theorem at_zero (l : List Int) : At l 0 := ⟨z1k, z1k⟩
end Go.Proofs.YtgdknepphkhnlaaGreatDoor.Z

/- A drawn text. No Go, no memory. -/
set_option linter.unusedVariables false
namespace Go.Proofs.YtgdknepphkhnlaaGreatDoor.Z
open Go.RowKit Go.Proofs.YtgdknepphkhnlaaGreatDoorW.PrintWords Go.Proofs.YtgdknepphkhnlaaGreatDoorW.PrintMore Go.Proofs.YtgdknepphkhnlaaGreatDoor.X
theorem str_some (l : List Int) (hl : l.length ≤ 140737488355328) (i h : Int) (m : List ByteArray) (hi : At l i) (hm : 0 < m.length) (hm2 : m.length ≤ 1000) : ∃ x i' h', spec_l1Str.f l i h m = some (x, i', h') ∧ x ∈ m ∧ At l i' := by
 unfold spec_l1Str.f
 obtain ⟨x, i', h', e, hx0, hx1, hi'⟩ := below_some l hl i h (m.length : Int) hi z1k
 rw [e]
 simp only [Option.bind_some]
 rw [if_pos hx0, if_pos z1k]
 refine ⟨_, _, _, rfl, ?_, hi'⟩
 have := rdOf_get (d := ByteArray.empty) (l := m) (i := x.toNat) z1k
 rw [show ((x.toNat : Nat) : Int) = x by omega] at this
 exact List.mem_of_getElem? this
end Go.Proofs.YtgdknepphkhnlaaGreatDoor.Z

namespace Go.Proofs.YtgdknepphkhnlaaGreatDoor.X
open Go.RowKit Go.Proofs.YtgdknepphkhnlaaGreatDoorW.PrintWords Go.Proofs.YtgdknepphkhnlaaGreatDoorW.PrintLast Go.Proofs.YtgdknepphkhnlaaGreatDoorW.PrintMore
attribute [local go_sem] max2_int min2_int max_two min_two max_three min_three max_four min_four
set_option linter.unusedVariables false
set_option linter.unusedSimpArgs false
def spec_l3Any.f (s0_0 : List Int) (s0_1 : Int) (s0_2 : Int) : Option (Int × Int × Int × ByteArray × Int × Int) := (spec_l3Draw.f s0_0 s0_1 s0_2).bind fun bt725 => ((spec_l1Below.f s0_0 bt725.2.2.2.2.1 bt725.2.2.2.2.2 12).bind fun bt732 => (if bt732.1 = 0 then ((spec_l1Int.f s0_0 bt732.2.1 bt732.2.2 (([(-1), 1000000, 1000001] : List Int))).bind fun bt738 => (some (bt738.1, bt725.2.1, bt725.2.2.1, bt725.2.2.2.1, bt738.2.1, bt738.2.2))) else (if bt732.1 = 1 then ((spec_l1Str.f s0_0 bt732.2.1 bt732.2.2 (([(⟨#[46]⟩ : ByteArray), (⟨#[48, 49]⟩ : ByteArray), (⟨#[97, 46, 46, 98]⟩ : ByteArray), (⟨#[97, 46, 98, 46, 99, 46, 100]⟩ : ByteArray), (⟨#[97, 46, 98, 46, 99, 46, 100, 46, 101]⟩ : ByteArray), (⟨#[110, 105, 110, 101, 98, 121, 116, 101, 115]⟩ : ByteArray), (⟨#[195, 169]⟩ : ByteArray), (⟨#[48]⟩ : ByteArray), (⟨#[97, 95, 98]⟩ : ByteArray)] : List ByteArray))).bind fun bt744 => (some (bt725.1, bt725.2.1, bt725.2.2.1, bt744.1, bt744.2.1, bt744.2.2))) else (if bt732.1 = 2 then ((spec_l1Int.f s0_0 bt732.2.1 bt732.2.2 (([(-1), 1000000, 1000001] : List Int))).bind fun bt750 => (some (bt725.1, bt725.2.1, bt750.1, bt725.2.2.2.1, bt750.2.1, bt750.2.2))) else (some (bt725.1, bt725.2.1, bt725.2.2.1, bt725.2.2.2.1, bt732.2.1, bt732.2.2))))))
end Go.Proofs.YtgdknepphkhnlaaGreatDoor.X

/- Drawn versions that may be wrong, and drawn texts. Plain lemmas. -/
set_option linter.unusedVariables false
namespace Go.Proofs.YtgdknepphkhnlaaGreatDoor.Z
open Go.RowKit Go.Proofs.YtgdknepphkhnlaaGreatDoorW.PrintWords Go.Proofs.YtgdknepphkhnlaaGreatDoorW.PrintMore Go.Proofs.YtgdknepphkhnlaaGreatDoor.X
end Go.Proofs.YtgdknepphkhnlaaGreatDoor.Z

namespace Go.Proofs.YtgdknepphkhnlaaGreatDoor.X
open Go.RowKit Go.Proofs.YtgdknepphkhnlaaGreatDoorW.PrintWords Go.Proofs.YtgdknepphkhnlaaGreatDoorW.PrintLast Go.Proofs.YtgdknepphkhnlaaGreatDoorW.PrintMore
attribute [local go_sem] max2_int min2_int max_two min_two max_three min_three max_four min_four
set_option linter.unusedVariables false
set_option linter.unusedSimpArgs false
def spec_l4Any.f (s0_0 : List Int) (s0_1 : Int) (s0_2 : Int) : Option (ByteArray × Int × Int) := (spec_l1Once.f s0_0 s0_1 s0_2 4).bind fun bt712 => (if bt712.1 = true then ((spec_l1Str.f s0_0 bt712.2.1 bt712.2.2 (([(⟨#[]⟩ : ByteArray), (⟨#[47]⟩ : ByteArray), (⟨#[97, 47, 47, 98]⟩ : ByteArray), (⟨#[65]⟩ : ByteArray), (⟨#[45, 97]⟩ : ByteArray), (⟨#[97, 47, 118, 49]⟩ : ByteArray), (⟨#[97, 47, 118, 50]⟩ : ByteArray), (⟨#[97, 47, 118, 48, 50]⟩ : ByteArray), (⟨#[118, 50]⟩ : ByteArray), (⟨#[97, 47, 118, 49, 48, 48, 48]⟩ : ByteArray), (⟨#[97, 47, 118, 49, 48, 48, 49]⟩ : ByteArray), (⟨#[97, 47, 98, 47, 99, 47, 100, 47, 101, 47, 102]⟩ : ByteArray), (⟨#[97, 47, 98, 47, 99, 47, 100, 47, 101, 47, 102, 47, 103]⟩ : ByteArray), (⟨#[116, 119, 101, 110, 116, 121, 111, 110, 101, 98, 121, 116, 101, 115, 45, 116, 119, 101, 110, 116, 121]⟩ : ByteArray), (⟨#[97, 46, 98, 95, 99, 45, 100, 47, 118, 51]⟩ : ByteArray), (⟨#[46, 97]⟩ : ByteArray)] : List ByteArray))).bind fun bt718 => (some (bt718.1, bt718.2.1, bt718.2.2))) else ((spec_l4Path.f s0_0 bt712.2.1 bt712.2.2).bind fun bt721 => (some (bt721.1, bt721.2.1, bt721.2.2))))
end Go.Proofs.YtgdknepphkhnlaaGreatDoor.X

/- Drawn paths and needs: always some, of small size. Plain lemmas. -/
set_option linter.unusedVariables false
namespace Go.Proofs.YtgdknepphkhnlaaGreatDoor.Z
open Go.RowKit Go.Proofs.YtgdknepphkhnlaaGreatDoorW.PrintWords Go.Proofs.YtgdknepphkhnlaaGreatDoorW.PrintMore Go.Proofs.YtgdknepphkhnlaaGreatDoor.X
def paths6 : List ByteArray := [(⟨#[97, 46, 111, 114, 103, 47, 120]⟩ : ByteArray), (⟨#[97, 46, 111, 114, 103, 47, 121]⟩ : ByteArray), (⟨#[98, 46, 105, 111, 47, 122]⟩ : ByteArray), (⟨#[98, 46, 105, 111, 47, 122, 47, 118, 50]⟩ : ByteArray), (⟨#[99]⟩ : ByteArray), (⟨#[97, 46, 111, 114, 103, 47, 119]⟩ : ByteArray)]
theorem paths_small : ∀ p ∈ paths6, p.size ≤ 100 := by decide +kernel
theorem path4_some (l : List Int) (hl : l.length ≤ 140737488355328) (i h : Int) (hi : At l i) : ∃ s i' h', spec_l4Path.f l i h = some (s, i', h') ∧ s ∈ paths6 ∧ At l i' := by
 obtain ⟨s, i1, h1, e1, s0, a1⟩ := str_some l hl i h paths6 hi z1l z1l
 have e1' := e1
 unfold paths6 at e1'
 unfold spec_l4Path.f
 rw [e1']
 exact ⟨s, i1, h1, rfl, s0, a1⟩
end Go.Proofs.YtgdknepphkhnlaaGreatDoor.Z

/- What makes an entry right: it fits, its needs fit and rise, there are at most eight, and none has its path. Plain lemmas. -/
set_option linter.unusedVariables false
namespace Go.Proofs.YtgdknepphkhnlaaGreatDoor.Z
open Go.RowKit Go.Proofs.YtgdknepphkhnlaaGreatDoorW.PrintWords Go.Proofs.YtgdknepphkhnlaaGreatDoorW.PrintMore Go.Proofs.YtgdknepphkhnlaaGreatDoor.X Go.Proofs.YtgdknepphkhnlaaGreatDoor.Sp
theorem rise_true (l : List S35) (hn : l.length ≤ 1048576) (hl : ∀ y ∈ l, smallN y) (hf : ∀ y ∈ l, fitsN y) (hp : l.Pairwise (fun x y => Op.bytesLess x.f0.toList y.f0.toList = true)) (d : Nat) : ∀ i : Nat, i + d = l.length → Ev (fun k => spec_l5Rising.l0 k l (i : Int)) true := by
 induction d with
 | zero =>
  intro i hi
  refine evS (fun k => by rw [spec_l5Rising.l0]) ?_
  exact evF z1k (evR rfl)
 | succ d ih =>
  intro i hi
  have il : i < l.length := by omega
  have ws := w64s (show i < l.length from il) z1k
  obtain ⟨r0, _, hS, _, fS⟩ := need_both l[i] (hl _ (List.getElem_mem il))
  have h0 := ev_one fS (hf _ (List.getElem_mem il)).2
  subst h0
  refine evS (fun k => by rw [spec_l5Rising.l0]) ?_
  rw [rdN il, ws]
  refine evT z1k (evT z1k (evB hS (evT rfl ?_)))
  by_cases h0 : i = 0
  ·exact evF z1k (ih (i + 1) z1k)
  ·have wp : wrap64 ((i : Int) - 1) = ((i - 1 : Nat) : Int) := by rw [w64 z1k]; omega
   have ip : i - 1 < l.length := by omega
   rw [wp, rdN ip]
   exact evT z1k (evT z1k (evT z1k (evT (List.pairwise_iff_getElem.1 hp (i - 1) i ip il z1k) (ih (i + 1) z1k))))
theorem entry_l1 (s : ByteArray) (a b c : Int) (p : ByteArray) (l : List S35) (hs : s.size ≤ 1048576) (hp : p.size ≤ 1048576) (hn : l.length ≤ 8) (hl : ∀ y ∈ l, smallN y) (hne : ∀ y ∈ l, y.f0 ≠ s)
  (hf : Ev (fun k => spec_Fits.f k s a b c p) true) (hr : Ev (fun k => spec_l5Rising.f k l) true) (d : Nat) : ∀ i : Nat, i + d = l.length → Ev (fun k => spec_EntryOk.l0 k (i : Int) s a b c p l) true := by
 induction d with
 | zero =>
  intro i hi
  refine evS (fun k => by rw [spec_EntryOk.l0]) (evF z1k (evB hf (evT rfl ?_)))
  exact evT (show (l.length : Int) ≤ 8 by omega) (evB hr (evR rfl))
 | succ d ih =>
  intro i hi
  have il : i < l.length := by omega
  have ws := w64s (show i < l.length from il) z1k
  refine evS (fun k => by rw [spec_EntryOk.l0]) ?_
  rw [rdN il, ws]
  refine evT z1k (evT z1k (evF (fun e => hne _ (List.getElem_mem il) (tl_inj.1 e)) (ih (i + 1) z1k)))
theorem entry_ok (s : ByteArray) (a b c : Int) (p : ByteArray) (l : List S35) (hs : s.size ≤ 1048576) (hp : p.size ≤ 1048576) (hn : l.length ≤ 8) (hl : ∀ y ∈ l, smallN y) (hne : ∀ y ∈ l, y.f0 ≠ s)
  (hf : Ev (fun k => spec_Fits.f k s a b c p) true) (hfl : ∀ y ∈ l, fitsN y) (hpw : l.Pairwise (fun x y => Op.bytesLess x.f0.toList y.f0.toList = true)) :
  Ev (fun k => spec_EntryOk.f k s a b c p l) true ∧ Ev (fun k => impl_EntryOk.f k s a b c p l) true := by
 have hr : Ev (fun k => spec_l5Rising.f k l) true := by
  unfold spec_l5Rising.f
  exact rise_true l z1k hl hfl hpw l.length 0 z1k
 have h1 : Ev (fun k => spec_EntryOk.f k s a b c p l) true := by
  unfold spec_EntryOk.f
  exact entry_l1 s a b c p l hs hp hn hl hne hf hr l.length 0 z1k
 obtain ⟨r, q1, q2⟩ := entryOk_both s a b c p l hs hp z1k hl
 have e := ev_one q2 h1
 subst e
 exact ⟨h1, q1⟩
end Go.Proofs.YtgdknepphkhnlaaGreatDoor.Z

/- An element put into a rising list, in the place of its like. Plain lemmas. -/
set_option linter.unusedVariables false
namespace Go.Proofs.YtgdknepphkhnlaaGreatDoor.Z
def putT {α : Type} (key : α → Nat) (n : α) : Bool → List α → List α
 | true, [] => []
 | false, [] => [n]
 | true, x :: l => if key x = key n then putT key n true l else x :: putT key n true l
 | false, x :: l => if key n ≤ key x then (if key x = key n then n :: putT key n true l else n :: x :: putT key n true l) else x :: putT key n false l
theorem putT_mem {α : Type} (key : α → Nat) (n : α) (l : List α) : (∀ y ∈ putT key n true l, y ∈ l ∧ key y ≠ key n) ∧ ∀ y ∈ putT key n false l, y = n ∨ y ∈ l := by
 induction l with
 | nil => exact ⟨fun y hy => (by cases hy), fun y hy => .inl (by simpa [putT] using hy)⟩
 | cons x l ih =>
  refine ⟨fun y hy => ?_, fun y hy => ?_⟩
  ·unfold putT at hy
   split at hy
   ·have := ih.1 y hy
    exact ⟨List.mem_cons_of_mem _ this.1, this.2⟩
   ·rename_i hne
    rcases List.mem_cons.1 hy with rfl | hy
    ·exact ⟨List.mem_cons_self, hne⟩
    ·have := ih.1 y hy
     exact ⟨List.mem_cons_of_mem _ this.1, this.2⟩
  ·unfold putT at hy
   split at hy
   ·split at hy
    ·rcases List.mem_cons.1 hy with rfl | hy
     ·exact .inl rfl
     ·exact .inr (List.mem_cons_of_mem _ (ih.1 y hy).1)
    ·rcases List.mem_cons.1 hy with rfl | hy
     ·exact .inl rfl
     ·rcases List.mem_cons.1 hy with rfl | hy
      ·exact .inr List.mem_cons_self
      ·exact .inr (List.mem_cons_of_mem _ (ih.1 y hy).1)
   ·rcases List.mem_cons.1 hy with rfl | hy
    ·exact .inr List.mem_cons_self
    ·rcases ih.2 y hy with h | h
     ·exact .inl h
     ·exact .inr (List.mem_cons_of_mem _ h)
theorem putT_len {α : Type} (key : α → Nat) (n : α) (l : List α) : (putT key n true l).length ≤ l.length ∧ (putT key n false l).length ≤ l.length + 1 := by
 induction l with
 | nil => simp [putT]
 | cons x l ih =>
  refine ⟨?_, ?_⟩
  ·unfold putT
   split
   ·rw [List.length_cons]
    omega
   ·rw [List.length_cons, List.length_cons]
    omega
  ·unfold putT
   split
   ·split
    ·rw [List.length_cons, List.length_cons]
     omega
    ·rw [List.length_cons, List.length_cons, List.length_cons]
     omega
   ·rw [List.length_cons, List.length_cons]
    omega
theorem putT_rise {α : Type} (key : α → Nat) (n : α) (l : List α) (h : l.Pairwise (fun x y => key x < key y)) : (putT key n true l).Pairwise (fun x y => key x < key y) ∧ (putT key n false l).Pairwise (fun x y => key x < key y) := by
 induction l with
 | nil => exact ⟨List.Pairwise.nil, by simp [putT]⟩
 | cons x l ih =>
  obtain ⟨hx, hl⟩ := List.pairwise_cons.1 h
  obtain ⟨i1, i2⟩ := ih hl
  have m1 := (putT_mem key n l).1
  have m2 := (putT_mem key n l).2
  refine ⟨?_, ?_⟩
  ·unfold putT
   split
   ·exact i1
   ·exact List.pairwise_cons.2 ⟨fun y hy => hx y (m1 y hy).1, i1⟩
  ·unfold putT
   split
   ·rename_i hle
    split
    ·rename_i heq
     exact List.pairwise_cons.2 ⟨fun y hy => by have := hx y (m1 y hy).1; omega, i1⟩
    ·rename_i hne
     refine List.pairwise_cons.2 ⟨fun y hy => ?_, List.pairwise_cons.2 ⟨fun y hy => hx y (m1 y hy).1, i1⟩⟩
     rcases List.mem_cons.1 hy with rfl | hy
     ·omega
     ·have := hx y (m1 y hy).1
      omega
   ·rename_i hlt
    refine List.pairwise_cons.2 ⟨fun y hy => ?_, i2⟩
    rcases m2 y hy with rfl | hy
    ·omega
    ·exact hx y hy
end Go.Proofs.YtgdknepphkhnlaaGreatDoor.Z

/- A drawn need always fits; how the drawn paths rise. Plain lemmas. -/
set_option linter.unusedVariables false
namespace Go.Proofs.YtgdknepphkhnlaaGreatDoor.Z
open Go.RowKit Go.Proofs.YtgdknepphkhnlaaGreatDoorW.PrintWords Go.Proofs.YtgdknepphkhnlaaGreatDoorW.PrintMore Go.Proofs.YtgdknepphkhnlaaGreatDoor.X Go.Proofs.YtgdknepphkhnlaaGreatDoor.Sp
def pres10 : List ByteArray := [(⟨#[]⟩ : ByteArray), (⟨#[]⟩ : ByteArray), (⟨#[]⟩ : ByteArray), (⟨#[114, 99, 46, 49]⟩ : ByteArray), (⟨#[97, 108, 112, 104, 97]⟩ : ByteArray), (⟨#[114, 99, 46, 50]⟩ : ByteArray), (⟨#[49]⟩ : ByteArray), (⟨#[50, 46, 120]⟩ : ByteArray), (⟨#[98, 101, 116, 97, 45, 49]⟩ : ByteArray), (⟨#[114, 99]⟩ : ByteArray)]
theorem pres_ok : ∀ p ∈ pres10, (decide (p.size = 0) || pre p) = true := by decide +kernel
theorem pres_small : ∀ p ∈ pres10, p.size ≤ 100 := by decide +kernel
theorem paths_major : ∀ s ∈ paths6, spec_MajorOf.f 100 s = some 1 ∨ spec_MajorOf.f 100 s = some 2 := by decide +kernel
def rank (s : ByteArray) : Nat := (paths6.filter (fun p => Op.bytesLess p.toList s.toList)).length
theorem paths_rank : ∀ s ∈ paths6, ∀ t ∈ paths6, (Op.bytesLess s.toList t.toList = true ↔ rank s < rank t) ∧ (s = t ↔ rank s = rank t) := by decide +kernel
theorem draw3_pre (l : List Int) (hl : l.length ≤ 140737488355328) (i h : Int) (hi : At l i) : ∃ x y z p i' h', spec_l3Draw.f l i h = some (x, y, z, p, i', h') ∧ 0 ≤ x ∧ x ≤ 2 ∧ 0 ≤ y ∧ y < 4 ∧ 0 ≤ z ∧ z < 3 ∧ p ∈ pres10 ∧ At l i' := by
 unfold spec_l3Draw.f
 obtain ⟨x, i1, h1, e1, x0, a1⟩ := int_some l hl i h [1, 0, 1, 2] hi (by simp) (by simp)
 obtain ⟨y, i2, h2, e2, y0, y1, a2⟩ := below_some l hl i1 h1 4 a1 z1k
 obtain ⟨z, i3, h3, e3, z0, z1, a3⟩ := below_some l hl i2 h2 3 a2 z1k
 obtain ⟨p, i4, h4, e4, p0, a4⟩ := str_some l hl i3 h3 pres10 a3 z1l z1l
 have e4' := e4
 unfold pres10 at e4'
 refine ⟨x, y, z, p, i4, h4, ?_, ?_, ?_, y0, z1k, z0, z1k, p0, a4⟩
 ·rw [e1]
  simp only [Option.bind_some]
  rw [e2]
  simp only [Option.bind_some]
  rw [e3]
  simp only [Option.bind_some]
  rw [e4']
  rfl
 ·simp only [List.mem_cons, List.not_mem_nil, or_false] at x0; omega
 ·simp only [List.mem_cons, List.not_mem_nil, or_false] at x0; omega
theorem fits_true (s : ByteArray) (m a b c : Int) (p : ByteArray) (hs : s ∈ paths6) (hm : m = 1 ∨ m = 2) (mS : Ev (fun k => spec_MajorOf.f k s) m) (ha : a = m ∨ m = 1 ∧ a = 0) (hb : 0 ≤ b ∧ b < 4) (hc : 0 ≤ c ∧ c < 3) (hp : p ∈ pres10) :
  Ev (fun k => impl_Fits.f k s a b c p) true ∧ Ev (fun k => spec_Fits.f k s a b c p) true := by
 have hz := paths_small s hs
 have hq := pres_small p hp
 obtain ⟨m', mI, mS', _, _⟩ := maj_both s z1k
 have e := ev_one mS' mS
 subst e
 have hv : verOk a b c p = true := by
  unfold verOk in6
  rw [pres_ok p hp, decide_eq_true (show 0 ≤ a ∧ a ≤ 1000000 by omega), decide_eq_true (show 0 ≤ b ∧ b ≤ 1000000 by omega), decide_eq_true (show 0 ≤ c ∧ c ≤ 1000000 by omega)]
  rfl
 have hf : fitsM m' a b c p = true := by
  unfold fitsM
  simp only [Bool.and_eq_true, Bool.or_eq_true, decide_eq_true_eq]
  exact ⟨z1k, hv, ha⟩
 have F := fits_of s m' a b c p z1k mI mS
 rw [hf] at F
 exact F
theorem need5_fits (l : List Int) (hl : l.length ≤ 140737488355328) (i h : Int) (hi : At l i) : ∃ s a b c p i' h', Ev (fun k => spec_l5Need.f k l i h) (s, a, b, c, p, i', h') ∧ s ∈ paths6 ∧ p.size ≤ 100 ∧ At l i' ∧
  Ev (fun k => impl_Fits.f k s a b c p) true ∧ Ev (fun k => spec_Fits.f k s a b c p) true := by
 obtain ⟨s, i1, h1, e1, s0, a1⟩ := path4_some l hl i h hi
 have sz := paths_small s s0
 obtain ⟨x, y, z, p, i2, h2, e2, _, _, y0, y1, z0, z1, hp, a2⟩ := draw3_pre l hl i1 h1 a1
 have hq := pres_small p hp
 obtain ⟨n, i3, h3, e3, _, _, a3⟩ := below_some l hl i2 h2 4 a2 z1k
 have e4 : spec_l1Once.f l i2 h2 4 = some (n == 0, i3, h3) := by unfold spec_l1Once.f; rw [e3]; rfl
 have hM : Ev (fun k => spec_MajorOf.f k s) 1 ∨ Ev (fun k => spec_MajorOf.f k s) 2 := (paths_major s s0).imp (fun e => Ev.of (spec_MajorOf.mono s) e) (fun e => Ev.of (spec_MajorOf.mono s) e)
 unfold spec_l5Need.f
 rcases hM with mS | mS
 ·cases hn : (n == 0) with
  | true =>
   rw [hn] at e4
   exact ⟨s, 0, y, z, p, i3, h3, evC e1 (evC e2 (evB mS (evT rfl (evC e4 (evT rfl (evR rfl)))))), s0, hq, a3, fits_true s 1 0 y z p s0 (.inl rfl) mS (.inr ⟨rfl, rfl⟩) ⟨y0, y1⟩ ⟨z0, z1⟩ hp⟩
  | false =>
   rw [hn] at e4
   exact ⟨s, 1, y, z, p, i3, h3, evC e1 (evC e2 (evB mS (evT rfl (evC e4 (evF Bool.false_ne_true (evR rfl)))))), s0, hq, a3, fits_true s 1 1 y z p s0 (.inl rfl) mS (.inl rfl) ⟨y0, y1⟩ ⟨z0, z1⟩ hp⟩
 ·exact ⟨s, 2, y, z, p, i2, h2, evC e1 (evC e2 (evB mS (evF z1l (evR rfl)))), s0, hq, a2, fits_true s 2 2 y z p s0 (.inr rfl) mS (.inl rfl) ⟨y0, y1⟩ ⟨z0, z1⟩ hp⟩
end Go.Proofs.YtgdknepphkhnlaaGreatDoor.Z

/- The needs of a drawn entry stay right as one more is put among them. Plain lemmas. -/
set_option linter.unusedVariables false
namespace Go.Proofs.YtgdknepphkhnlaaGreatDoor.Z
open Go.RowKit Go.Proofs.YtgdknepphkhnlaaGreatDoorW.PrintWords Go.Proofs.YtgdknepphkhnlaaGreatDoorW.PrintMore Go.Proofs.YtgdknepphkhnlaaGreatDoor.X Go.Proofs.YtgdknepphkhnlaaGreatDoor.Sp
def keyN (y : S35) : Nat := rank y.f0
def InvE (s : ByteArray) (l : List S35) (j : Nat) : Prop := (∀ y ∈ l, y.f0 ∈ paths6 ∧ y.f1.f3.size ≤ 100 ∧ fitsN y ∧ y.f0 ≠ s) ∧ l.Pairwise (fun x y => keyN x < keyN y) ∧ l.length ≤ j
theorem inv_nil (s : ByteArray) : InvE s [] 0 := ⟨fun y hy => (by cases hy), List.Pairwise.nil, Nat.le_refl 0⟩
theorem inv_put {s : ByteArray} {l : List S35} {j : Nat} (h : InvE s l j) (n : S35) (hn : n.f0 ∈ paths6 ∧ n.f1.f3.size ≤ 100 ∧ fitsN n ∧ n.f0 ≠ s) : InvE s (putT keyN n false l) (j + 1) := by
 refine ⟨fun y hy => ?_, (putT_rise keyN n l h.2.1).2, by have := (putT_len keyN n l).2; have := h.2.2; omega⟩
 rcases (putT_mem keyN n l).2 y hy with rfl | hy
 ·exact hn
 ·exact h.1 y hy
theorem inv_more {s : ByteArray} {l : List S35} {j j' : Nat} (h : InvE s l j) (hj : j ≤ j') : InvE s l j' := ⟨h.1, h.2.1, Nat.le_trans h.2.2 hj⟩
theorem inv_small {s : ByteArray} {l : List S35} {j : Nat} (h : InvE s l j) : ∀ y ∈ l, smallN y := by
 intro y hy
 obtain ⟨h1, h2, _⟩ := h.1 y hy
 have := paths_small _ h1
 exact ⟨z1k, z1k⟩
theorem inv_ok {s : ByteArray} {l : List S35} {j : Nat} (h : InvE s l j) (hj : j ≤ 8) (hs : s ∈ paths6) (a b c : Int) (p : ByteArray) (hp : p.size ≤ 100) (hf : Ev (fun k => spec_Fits.f k s a b c p) true) :
  Ev (fun k => spec_EntryOk.f k s a b c p l) true ∧ Ev (fun k => impl_EntryOk.f k s a b c p l) true := by
 have hz := paths_small s hs
 refine entry_ok s a b c p l z1k z1k (Nat.le_trans h.2.2 hj) (inv_small h) (fun y hy => (h.1 y hy).2.2.2) hf (fun y hy => (h.1 y hy).2.2.1) ?_
 refine List.Pairwise.imp_of_mem (fun {x y} hx hy hxy => ?_) h.2.1
 exact ((paths_rank _ (h.1 x hx).1 _ (h.1 y hy).1).1).2 hxy
end Go.Proofs.YtgdknepphkhnlaaGreatDoor.Z

/- The drawn needs of an entry: put in order, each right. Plain lemmas. -/
set_option linter.unusedVariables false
namespace Go.Proofs.YtgdknepphkhnlaaGreatDoor.Z
open Go.RowKit Go.Proofs.YtgdknepphkhnlaaGreatDoorW.PrintWords Go.Proofs.YtgdknepphkhnlaaGreatDoorW.PrintMore Go.Proofs.YtgdknepphkhnlaaGreatDoor.X Go.Proofs.YtgdknepphkhnlaaGreatDoor.Sp
theorem put_l0 (l : List S35) (n : S35) (hl : l.length ≤ 100) (hp : ∀ y ∈ l, y.f0 ∈ paths6) (hn : n.f0 ∈ paths6) (d : Nat) : ∀ (i : Nat) (out : List S35) (put : Bool), i + d = l.length → out.length ≤ 2 * i →
  Ev (fun k => spec_l5Put.l0 k l out put (i : Int) n.f0 n.f1.f0 n.f1.f1 n.f1.f2 n.f1.f3) (out ++ putT keyN n put (l.drop i)) := by
 induction d with
 | zero =>
  intro i out put hi ho
  rw [List.drop_eq_nil_of_le z1k]
  refine evS (fun k => by rw [spec_l5Put.l0]) ?_
  refine evF z1k ?_
  cases put with
  | true => exact evT rfl (evR (by simp [putT]))
  | false => exact evF Bool.false_ne_true (evT z1k (evR rfl))
 | succ d ih =>
  intro i out put hi ho
  have il : i < l.length := by omega
  have ws := w64s (show i < l.length from il) z1k
  have hx := hp _ (List.getElem_mem il)
  obtain ⟨r1, r2⟩ := paths_rank _ hx _ hn
  have heq : (l[i].f0.toList = n.f0.toList) ↔ keyN l[i] = keyN n := tl_inj.trans r2
  have hd : l.drop i = l[i] :: l.drop (i + 1) := List.drop_eq_getElem_cons il
  rw [hd]
  cases put with
  | true =>
   refine evS (fun k => by rw [spec_l5Put.l0]) ?_
   refine evT z1k (evT rfl ?_)
   refine evS (fun k => by rw [spec_l5Put.j1]) ?_
   refine evF Bool.false_ne_true (evT z1k (evT z1k ?_))
   rw [rdN il, ws]
   by_cases he : keyN l[i] = keyN n
   ·refine evT (heq.2 he) ?_
    have := ih (i + 1) out true z1k z1k
    rw [putT, if_pos he]
    exact this
   ·refine evF (fun e => he (heq.1 e)) (evT z1k ?_)
    have := ih (i + 1) (out ++ [l[i]]) true z1k z8i
    rw [putT, if_neg he]
    rw [List.append_assoc] at this
    exact this
  | false =>
   refine evS (fun k => by rw [spec_l5Put.l0]) ?_
   refine evT z1k (evF Bool.false_ne_true (evT z1k ?_))
   rw [rdN il]
   by_cases hlt : keyN l[i] < keyN n
   ·have hb : Op.bytesLess l[i].f0.toList n.f0.toList = true := r1.2 hlt
    rw [hb]
    refine evS (fun k => by rw [spec_l5Put.j1]) ?_
    refine evF z1l (evT z1k (evT z1k ?_))
    rw [rdN il, ws]
    refine evF (fun e => by have := heq.1 e; omega) (evT z1k ?_)
    have := ih (i + 1) (out ++ [l[i]]) false z1k z8i
    rw [putT, if_neg z1k]
    rw [List.append_assoc] at this
    exact this
   ·have hb : Op.bytesLess l[i].f0.toList n.f0.toList = false := by
     cases h : Op.bytesLess l[i].f0.toList n.f0.toList with
     | false => rfl
     | true => exact absurd (r1.1 h) hlt
    rw [hb]
    refine evS (fun k => by rw [spec_l5Put.j1]) ?_
    refine evT rfl (evT z1k (evC rfl (evT z1k (evT z1k ?_))))
    rw [rdN il, ws]
    by_cases he : keyN l[i] = keyN n
    ·refine evT (heq.2 he) ?_
     have := ih (i + 1) (out ++ [n]) true z1k z8i
     rw [putT, if_pos z1k, if_pos he]
     rw [List.append_assoc] at this
     exact this
    ·refine evF (fun e => he (heq.1 e)) (evT (by rw [List.length_append]; show out.length + 1 < _; omega) ?_)
     have := ih (i + 1) (out ++ [n] ++ [l[i]]) true z1k (by rw [List.length_append, List.length_append]; show out.length + 1 + 1 ≤ _; omega)
     rw [putT, if_pos z1k, if_neg he]
     refine evE ?_ this
     rw [List.append_assoc, List.append_assoc]
     rfl
theorem put_ev (l : List S35) (n : S35) (hl : l.length ≤ 100) (hp : ∀ y ∈ l, y.f0 ∈ paths6) (hn : n.f0 ∈ paths6) : Ev (fun k => spec_l5Put.f k l n.f0 n.f1.f0 n.f1.f1 n.f1.f2 n.f1.f3) (putT keyN n false l) := by
 unfold spec_l5Put.f
 have := put_l0 l n hl hp hn l.length 0 [] false z1k (by simp)
 rw [List.nil_append, List.drop_zero] at this
 exact this
theorem entry5_l0 (C : List Int) (hC : C.length ≤ 140737488355328) (s : ByteArray) (a b c : Int) (p : ByteArray) (j : Nat) : ∀ (m : Nat) (l : List S35) (i h : Int), m + j ≤ 8 → At C i → InvE s l m →
  ∃ l' i' h', Ev (fun k => spec_l5Entry.l0 k (j : Int) C i h s a b c p l) (s, a, b, c, p, l', i', h') ∧ InvE s l' 8 ∧ At C i' := by
 induction j with
 | zero =>
  intro m l i h hm hi hI
  exact ⟨l, i, h, evS (fun k => by rw [spec_l5Entry.l0]) (evF z1k (evR rfl)), inv_more hI z1k, hi⟩
 | succ j ih =>
  intro m l i h hm hi hI
  obtain ⟨s1, a1, b1, c1, p1, i1, h1, e1, m1, q1, z1, f1, g1⟩ := need5_fits C hC i h hi
  have hw : wrap64 (((j + 1 : Nat) : Int) - 1) = (j : Int) := by rw [w64 z1k]; omega
  by_cases he : s1.toList = s.toList
  ·obtain ⟨l', i', h', e2, I2, A2⟩ := ih m l i1 h1 z1k z1 hI
   refine ⟨l', i', h', evS (fun k => by rw [spec_l5Entry.l0]) (evT z1k (evB e1 (evT he ?_))), I2, A2⟩
   rw [hw]
   exact e2
  ·have hne : s1 ≠ s := fun e => he (by rw [e])
   have hP := put_ev l ⟨s1, ⟨a1, b1, c1, p1⟩⟩ (by have := hI.2.2; omega) (fun y hy => (hI.1 y hy).1) m1
   obtain ⟨l', i', h', e2, I2, A2⟩ := ih (m + 1) _ i1 h1 z1k z1 (inv_put hI ⟨s1, ⟨a1, b1, c1, p1⟩⟩ ⟨m1, q1, ⟨f1, g1⟩, hne⟩)
   refine ⟨l', i', h', evS (fun k => by rw [spec_l5Entry.l0]) (evT z1k (evB e1 (evF he (evB hP ?_)))), I2, A2⟩
   rw [hw]
   exact e2
theorem entry5_some (C : List Int) (hC : C.length ≤ 140737488355328) (i h : Int) (hi : At C i) : ∃ s a b c p l i' h', Ev (fun k => spec_l5Entry.f k C i h) (s, a, b, c, p, l, i', h') ∧ s ∈ paths6 ∧ p.size ≤ 100 ∧ At C i' ∧ InvE s l 8 ∧ Ev (fun k => spec_Fits.f k s a b c p) true := by
 obtain ⟨s1, a1, b1, c1, p1, i1, h1, e1, m1, q1, z1, f1, g1⟩ := need5_fits C hC i h hi
 obtain ⟨n, i2, h2, e2, n0, n1, a2⟩ := below_some C hC i1 h1 4 z1 z1k
 obtain ⟨m, hm⟩ := Int.eq_ofNat_of_zero_le n0
 subst hm
 obtain ⟨l', i', h', e3, I3, A3⟩ := entry5_l0 C hC s1 a1 b1 c1 p1 m 0 [] i2 h2 z1k a2 (inv_nil s1)
 unfold spec_l5Entry.f
 exact ⟨s1, a1, b1, c1, p1, l', i', h', evB e1 (evC e2 e3), m1, q1, A3, I3, g1⟩
end Go.Proofs.YtgdknepphkhnlaaGreatDoor.Z

/- Drawn texts that may be an entry's or a name's: some, of small size. Plain lemmas. -/
set_option linter.unusedVariables false
namespace Go.Proofs.YtgdknepphkhnlaaGreatDoor.Z
open Go.RowKit Go.Proofs.YtgdknepphkhnlaaGreatDoorW.PrintWords Go.Proofs.YtgdknepphkhnlaaGreatDoorW.PrintMore Go.Proofs.YtgdknepphkhnlaaGreatDoor.X Go.Proofs.YtgdknepphkhnlaaGreatDoor.Sp
theorem strOf_len' (l : List Int) : (strOfNums l).size = l.length := by simp [strOfNums, ByteArray.size]
theorem total_of (l : List S35) (hl : ∀ y ∈ l, y.f0.size ≤ 100 ∧ y.f1.f3.size ≤ 100) : total (l.map nmN) ≤ 226 * l.length := by
 induction l with
 | nil => simp [total_nil]
 | cons y l ih =>
  rw [List.map_cons, total_cons, List.length_cons]
  have := ih (fun z hz => hl z (List.mem_cons_of_mem _ hz))
  have h1 := nameT_size y.f0 y.f1.f0 y.f1.f1 y.f1.f2 y.f1.f3
  obtain ⟨h2, h3⟩ := hl y List.mem_cons_self
  have : (nmN y).size ≤ 226 := by unfold nmN; omega
  omega
theorem encE_len (s : ByteArray) (a b c : Int) (p : ByteArray) (l : List S35) (hs : s.size ≤ 100) (hp : p.size ≤ 100) (hn : l.length ≤ 8) (hl : ∀ y ∈ l, y.f0.size ≤ 100 ∧ y.f1.f3.size ≤ 100) : 0 < (encE s a b c p l).length ∧ (encE s a b c p l).length ≤ 10000 := by
 have e0 := nameT_size s a b c p
 have e1 := encT_length (nameT true s a b c p)
 have e2 := encN_length 4 (near ((l.map nmN).length : Int))
 have e3 := encL_length (l.map nmN)
 have e4 := total_of l hl
 have e5 := encN_pos 4 (near ((l.map nmN).length : Int))
 rw [List.length_map] at e2 e3 e5
 unfold encE
 rw [List.length_append, List.length_append, List.length_map]
 omega
theorem drawGE_some (C : List Int) (hC : C.length ≤ 140737488355328) : ∃ s, Ev (fun k => spec_DrawGetEntry.f k C) s ∧ s.size ≤ 10000 := by
 obtain ⟨h0, e0⟩ := new_some C hC
 obtain ⟨s, a, b, c, p, l, i1, h1, e1, m1, q1, a1, I1, f1⟩ := entry5_some C hC 0 h0 (at_zero C)
 have hs := paths_small s m1
 have hl := I1.2.2
 have ht : ∀ y ∈ l, y.f0.size ≤ 100 ∧ y.f1.f3.size ≤ 100 := fun y hy => ⟨paths_small _ (I1.1 y hy).1, (I1.1 y hy).2.1⟩
 obtain ⟨ok, _⟩ := inv_ok I1 z1k m1 a b c p q1 f1
 obtain ⟨r, _, o2, _, o4⟩ := putE_both s a b c p l z1k z1k z1k (inv_small I1)
 have hr := ev_one o2 ok
 subst hr
 rw [if_pos rfl] at o4
 obtain ⟨z0, z1⟩ := encE_len s a b c p l hs q1 hl ht
 generalize encE s a b c p l = B at o4 z0 z1
 have hT := strOf_len' B
 generalize strOfNums B = T at o4 hT
 have hY : (bytesOf T).length = B.length := by rw [bytesOf_length]; exact hT
 generalize hy : bytesOf T = Y at hY
 obtain ⟨n, i2, h2, e2, n0, n1, a2⟩ := below_some C hC i1 h1 5 a1 z1k
 obtain ⟨x, i3, h3, e3, x0, x1, a3⟩ := below_some C hC i2 h2 (Y.length : Int) a2 z1k
 unfold spec_DrawGetEntry.f
 by_cases c0 : n = 0
 ·obtain ⟨u, i4, h4, e4, _, _⟩ := int_some C hC i3 h3 ([0, 1, 2, 97, 64, 128] : List Int) a3 z1l z1l
  refine ⟨strOfNums (Y.set (x : Int).toNat (u % 256)), evB e0 (evB e1 (evB o4 (evT z1k ?_))), by rw [strOf_len', List.length_set]; omega⟩
  rw [hy]
  exact evC rfl (evC e2 (evT c0 (evC e3 (evC e4 (evT x0 (evT z1k (evR rfl)))))))
 ·by_cases c1 : n = 1
  ·refine ⟨strOfNums (Y.take (x : Int).toNat), evB e0 (evB e1 (evB o4 (evT z1k ?_))), by rw [strOf_len', List.length_take]; omega⟩
   rw [hy]
   exact evC rfl (evC e2 (evF c0 (evT c1 (evC e3 (evT x0 (evT z1k (evR rfl)))))))
  ·refine ⟨strOfNums Y, evB e0 (evB e1 (evB o4 (evT z1k ?_))), by rw [strOf_len']; omega⟩
   rw [hy]
   exact evC rfl (evC e2 (evF c0 (evF c1 (evR rfl))))
def names9 : List ByteArray := [(⟨#[]⟩ : ByteArray), (⟨#[64]⟩ : ByteArray), (⟨#[97]⟩ : ByteArray), (⟨#[97, 64, 118, 49, 46, 48, 46, 48, 64]⟩ : ByteArray), (⟨#[97, 64, 118, 50, 46, 48, 46, 48]⟩ : ByteArray), (⟨#[97, 47, 118, 50, 64, 118, 50, 46, 48, 46, 48]⟩ : ByteArray), (⟨#[97, 64, 49, 46, 48, 46, 48]⟩ : ByteArray), (⟨#[64, 118, 49, 46, 48, 46, 48]⟩ : ByteArray), (⟨#[65, 64, 118, 49, 46, 48, 46, 48]⟩ : ByteArray)]
theorem names_small : ∀ p ∈ names9, p.size ≤ 100 := by decide +kernel
theorem drawPN_some (C : List Int) (hC : C.length ≤ 140737488355328) : ∃ s, Ev (fun k => spec_DrawParseName.f k C) s ∧ s.size ≤ 10000 := by
 obtain ⟨h0, e0⟩ := new_some C hC
 obtain ⟨s, a, b, c, p, i1, h1, e1, m1, q1, a1, f1, f2⟩ := need5_fits C hC 0 h0 (at_zero C)
 have hs := paths_small s m1
 obtain ⟨n, i2, h2, e2, _, _, a2⟩ := below_some C hC i1 h1 3 a1 z1k
 have e3 : spec_l1Once.f C i1 h1 3 = some (n == 0, i2, h2) := by unfold spec_l1Once.f; rw [e2]; rfl
 unfold spec_DrawParseName.f
 cases hn : (n == 0) with
 | true =>
  rw [hn] at e3
  obtain ⟨t, i4, h4, e4, t0, _⟩ := str_some C hC i2 h2 names9 a2 z1l z1l
  have e4' := e4
  unfold names9 at e4'
  exact ⟨t, evB e0 (evB e1 (evC e3 (evT rfl (evC e4' (evR rfl))))), by have := names_small t t0; omega⟩
 | false =>
  rw [hn] at e3
  obtain ⟨_, n2⟩ := name_both s a b c p true z1k z1k f1 f2
  exact ⟨nameT true s a b c p, evB e0 (evB e1 (evC e3 (evF Bool.false_ne_true (evB n2 (evR rfl))))), by have := nameT_size s a b c p; omega⟩
end Go.Proofs.YtgdknepphkhnlaaGreatDoor.Z

/- The law FnRead, as a plain statement: what is read of a drawn text as an entry is right, and has that text; what is read as a name has that name. Conditions: those of the row's reading alone. -/
namespace Go.Proofs.YtgdknepphkhnlaaGreatDoor.Pure
open Go.RowKit Go.Proofs.YtgdknepphkhnlaaGreatDoor.X Go.Proofs.YtgdknepphkhnlaaGreatDoor.Z Go.Proofs.YtgdknepphkhnlaaGreatDoorW.PrintWords Go.Proofs.YtgdknepphkhnlaaGreatDoorW.PrintLast
theorem evS' {α : Type} {f g : Nat → Option α} {r : α} (h : ∀ k, f k = g k) (k : Ev g r) : Ev f r := by
 have : f = g := funext h
 rw [this]
 exact k
theorem FnRead : laws_FnRead.Pure := by
 intro l0 h1 h2 h3
 refine Ev.rounds ?_
 unfold laws_FnRead.f
 refine evC (by unfold laws_big.f; rfl) (evI (fun _ => evR rfl) (fun hl' => ?_))
 obtain ⟨s, dS, zS⟩ := drawGE_some l0 z1k
 obtain ⟨t, dT, zT⟩ := drawPN_some l0 z1k
 obtain ⟨⟨a, b, c, d, p, l, ok⟩, g1, g2, g3⟩ := getE_both s z1k
 have hname : ∃ n : N6, Ev (fun k => impl_ParseName.f k t) n ∧ Ev (fun k => spec_ParseName.f k t) n ∧ (n.2.2.2.2.2 = true → Ev (fun k => impl_EntryName.f k n.1 n.2.1 n.2.2.1 n.2.2.2.1 n.2.2.2.2.1) t) := by
  rcases pname_need t z1k with ⟨n1, n2⟩ | ⟨y, n1, n2, z1, z2, hf, hn⟩
  ·exact ⟨noN, n1, n2, fun e => (by cases e)⟩
  ·refine ⟨_, n1, n2, fun _ => ?_⟩
   have := (name_both y.f0 y.f1.f0 y.f1.f1 y.f1.f2 y.f1.f3 true z1k z1k hf.1 hf.2).1
   rw [← hn]
   exact this
 obtain ⟨⟨n1, n2, n3, n4, n5, is⟩, p1, p2, p3⟩ := hname
 refine evB dS (evB g1 (evB g2 (evB dT (evB p1 (evB p2 (evT (by simp) (evT (by simp) ?_)))))))
 have htail : ∀ f : Nat → Option Bool, (∀ k, f k = if is = true then (impl_EntryName.f k n1 n2 n3 n4 n5).bind fun t903 => some (t903.toList == t.toList) else some true) → Ev f true := by
  intro f hf
  refine evS' hf ?_
  cases is with
  | true => exact evT rfl (evB (p3 rfl) (evR (by simp)))
  | false => exact evF Bool.false_ne_true (evR rfl)
 rcases g3 with g3 | ⟨q1, _, _, _, _, q6, q7⟩
 ·have hok : ok = false := congrArg (fun r : E7 => r.2.2.2.2.2.2) g3
  subst hok
  exact evF Bool.false_ne_true (htail _ (fun k => rfl))
 ·have hok : ok = true := q1
  subst hok
  exact evT rfl (evB q6 (evT rfl (evB q7 (evT rfl (htail _ (fun k => rfl))))))
end Go.Proofs.YtgdknepphkhnlaaGreatDoor.Pure

/- Values that come in as data (strings' slices, structs, slices of structs, nested) are of the printer's kinds: one lemma a make of type. Plain lemmas for the rows of laws over such parameters. No conditions beyond what each lemma names. -/
set_option linter.unusedVariables false
namespace Go.Proofs.YtgdknepphkhnlaaGreatDoor.Y
open Go.RowKit Go.Proofs.YtgdknepphkhnlaaGreatDoorW.PrintWords Go.ChangeShapes Go.WideShapes Go.Deep
end Go.Proofs.YtgdknepphkhnlaaGreatDoor.Y

/- Three closed facts of the rows of this seat (how the program may be entered), by the first words of the translation's head row. No conditions. -/
namespace Go.Proofs.YtgdknepphkhnlaaGreatDoor.Y
open Go.ChangeShapes Go.WideShapes Go.ChangeAt Go.RowKit
def tailSigns : List Char := [Char.ofNat 108, Char.ofNat 111, Char.ofNat 111, Char.ofNat 112, Char.ofNat 46, Char.ofNat 101, Char.ofNat 120, Char.ofNat 97, Char.ofNat 109, Char.ofNat 112, Char.ofNat 108, Char.ofNat 101, Char.ofNat 47, Char.ofNat 103, Char.ofNat 48, Char.ofNat 48, Char.ofNat 50, Char.ofNat 51, Char.ofNat 51, Char.ofNat 47, Char.ofNat 108, Char.ofNat 97, Char.ofNat 119, Char.ofNat 115, Char.ofNat 46, Char.ofNat 70, Char.ofNat 110, Char.ofNat 69, Char.ofNat 110, Char.ofNat 116, Char.ofNat 114, Char.ofNat 105, Char.ofNat 101, Char.ofNat 115, Char.ofNat 32, Char.ofNat 108, Char.ofNat 111, Char.ofNat 111, Char.ofNat 112, Char.ofNat 46, Char.ofNat 101, Char.ofNat 120, Char.ofNat 97, Char.ofNat 109, Char.ofNat 112, Char.ofNat 108, Char.ofNat 101, Char.ofNat 47, Char.ofNat 103, Char.ofNat 48, Char.ofNat 48, Char.ofNat 50, Char.ofNat 51, Char.ofNat 51, Char.ofNat 47, Char.ofNat 108, Char.ofNat 97, Char.ofNat 119, Char.ofNat 115, Char.ofNat 46, Char.ofNat 70, Char.ofNat 110, Char.ofNat 69, Char.ofNat 120, Char.ofNat 97, Char.ofNat 99, Char.ofNat 116, Char.ofNat 71, Char.ofNat 101, Char.ofNat 116, Char.ofNat 69, Char.ofNat 110, Char.ofNat 116, Char.ofNat 114, Char.ofNat 121, Char.ofNat 32, Char.ofNat 108, Char.ofNat 111, Char.ofNat 111, Char.ofNat 112, Char.ofNat 46, Char.ofNat 101, Char.ofNat 120, Char.ofNat 97, Char.ofNat 109, Char.ofNat 112, Char.ofNat 108, Char.ofNat 101, Char.ofNat 47, Char.ofNat 103, Char.ofNat 48, Char.ofNat 48, Char.ofNat 50, Char.ofNat 51, Char.ofNat 51, Char.ofNat 47, Char.ofNat 108, Char.ofNat 97, Char.ofNat 119, Char.ofNat 115, Char.ofNat 46, Char.ofNat 70, Char.ofNat 110, Char.ofNat 82, Char.ofNat 101, Char.ofNat 97, Char.ofNat 100, Char.ofNat 32, Char.ofNat 108, Char.ofNat 111, Char.ofNat 111, Char.ofNat 112, Char.ofNat 46, Char.ofNat 101, Char.ofNat 120, Char.ofNat 97, Char.ofNat 109, Char.ofNat 112, Char.ofNat 108, Char.ofNat 101, Char.ofNat 47, Char.ofNat 103, Char.ofNat 48, Char.ofNat 48, Char.ofNat 50, Char.ofNat 51, Char.ofNat 51, Char.ofNat 47, Char.ofNat 108, Char.ofNat 97, Char.ofNat 119, Char.ofNat 115, Char.ofNat 46, Char.ofNat 70, Char.ofNat 110, Char.ofNat 69, Char.ofNat 120, Char.ofNat 97, Char.ofNat 99, Char.ofNat 116, Char.ofNat 80, Char.ofNat 117, Char.ofNat 116, Char.ofNat 69, Char.ofNat 110, Char.ofNat 116, Char.ofNat 114, Char.ofNat 121]
set_option maxRecDepth 100000 in
theorem initOrder_lit : Tryz.pinned.checked.prog.initOrder = "harness 6d29ea37bb3f2b96e849b59654e73d13cb16360989e6b50d65bf3eda784cb5ab cut at loop.example/g00233/laws.FnEntries loop.example/g00233/laws.FnExactGetEntry loop.example/g00233/laws.FnRead loop.example/g00233/laws.FnExactPutEntry" := by kernel_rfl
set_option maxRecDepth 100000 in
theorem lit_list : ("harness 6d29ea37bb3f2b96e849b59654e73d13cb16360989e6b50d65bf3eda784cb5ab cut at loop.example/g00233/laws.FnEntries loop.example/g00233/laws.FnExactGetEntry loop.example/g00233/laws.FnRead loop.example/g00233/laws.FnExactPutEntry" : String) = String.ofList (Char.ofNat 104 :: Char.ofNat 97 :: Char.ofNat 114 :: Char.ofNat 110 :: Char.ofNat 101 :: Char.ofNat 115 :: Char.ofNat 115 :: Char.ofNat 32 :: Char.ofNat 54 :: Char.ofNat 100 :: Char.ofNat 50 :: Char.ofNat 57 :: Char.ofNat 101 :: Char.ofNat 97 :: Char.ofNat 51 :: Char.ofNat 55 :: Char.ofNat 98 :: Char.ofNat 98 :: Char.ofNat 51 :: Char.ofNat 102 :: Char.ofNat 50 :: Char.ofNat 98 :: Char.ofNat 57 :: Char.ofNat 54 :: Char.ofNat 101 :: Char.ofNat 56 :: Char.ofNat 52 :: Char.ofNat 57 :: Char.ofNat 98 :: Char.ofNat 53 :: Char.ofNat 57 :: Char.ofNat 54 :: Char.ofNat 53 :: Char.ofNat 52 :: Char.ofNat 101 :: Char.ofNat 55 :: Char.ofNat 51 :: Char.ofNat 100 :: Char.ofNat 49 :: Char.ofNat 51 :: Char.ofNat 99 :: Char.ofNat 98 :: Char.ofNat 49 :: Char.ofNat 54 :: Char.ofNat 51 :: Char.ofNat 54 :: Char.ofNat 48 :: Char.ofNat 57 :: Char.ofNat 56 :: Char.ofNat 57 :: Char.ofNat 101 :: Char.ofNat 54 :: Char.ofNat 98 :: Char.ofNat 53 :: Char.ofNat 48 :: Char.ofNat 100 :: Char.ofNat 54 :: Char.ofNat 53 :: Char.ofNat 98 :: Char.ofNat 102 :: Char.ofNat 51 :: Char.ofNat 101 :: Char.ofNat 100 :: Char.ofNat 97 :: Char.ofNat 55 :: Char.ofNat 56 :: Char.ofNat 52 :: Char.ofNat 99 :: Char.ofNat 98 :: Char.ofNat 53 :: Char.ofNat 97 :: Char.ofNat 98 :: Char.ofNat 32 :: Char.ofNat 99 :: Char.ofNat 117 :: Char.ofNat 116 :: Char.ofNat 32 :: Char.ofNat 97 :: Char.ofNat 116 :: Char.ofNat 32 :: tailSigns) := by kernel_rfl
theorem initOrder_list : Tryz.pinned.checked.prog.initOrder.toList = Char.ofNat 104 :: Char.ofNat 97 :: Char.ofNat 114 :: Char.ofNat 110 :: Char.ofNat 101 :: Char.ofNat 115 :: Char.ofNat 115 :: Char.ofNat 32 :: Char.ofNat 54 :: Char.ofNat 100 :: Char.ofNat 50 :: Char.ofNat 57 :: Char.ofNat 101 :: Char.ofNat 97 :: Char.ofNat 51 :: Char.ofNat 55 :: Char.ofNat 98 :: Char.ofNat 98 :: Char.ofNat 51 :: Char.ofNat 102 :: Char.ofNat 50 :: Char.ofNat 98 :: Char.ofNat 57 :: Char.ofNat 54 :: Char.ofNat 101 :: Char.ofNat 56 :: Char.ofNat 52 :: Char.ofNat 57 :: Char.ofNat 98 :: Char.ofNat 53 :: Char.ofNat 57 :: Char.ofNat 54 :: Char.ofNat 53 :: Char.ofNat 52 :: Char.ofNat 101 :: Char.ofNat 55 :: Char.ofNat 51 :: Char.ofNat 100 :: Char.ofNat 49 :: Char.ofNat 51 :: Char.ofNat 99 :: Char.ofNat 98 :: Char.ofNat 49 :: Char.ofNat 54 :: Char.ofNat 51 :: Char.ofNat 54 :: Char.ofNat 48 :: Char.ofNat 57 :: Char.ofNat 56 :: Char.ofNat 57 :: Char.ofNat 101 :: Char.ofNat 54 :: Char.ofNat 98 :: Char.ofNat 53 :: Char.ofNat 48 :: Char.ofNat 100 :: Char.ofNat 54 :: Char.ofNat 53 :: Char.ofNat 98 :: Char.ofNat 102 :: Char.ofNat 51 :: Char.ofNat 101 :: Char.ofNat 100 :: Char.ofNat 97 :: Char.ofNat 55 :: Char.ofNat 56 :: Char.ofNat 52 :: Char.ofNat 99 :: Char.ofNat 98 :: Char.ofNat 53 :: Char.ofNat 97 :: Char.ofNat 98 :: Char.ofNat 32 :: Char.ofNat 99 :: Char.ofNat 117 :: Char.ofNat 116 :: Char.ofNat 32 :: Char.ofNat 97 :: Char.ofNat 116 :: Char.ofNat 32 :: tailSigns := (congrArg String.toList (initOrder_lit.trans lit_list)).trans String.toList_ofList
theorem words_at (r : List Char) : wordsSigns (Char.ofNat 104 :: Char.ofNat 97 :: Char.ofNat 114 :: Char.ofNat 110 :: Char.ofNat 101 :: Char.ofNat 115 :: Char.ofNat 115 :: Char.ofNat 32 :: Char.ofNat 54 :: Char.ofNat 100 :: Char.ofNat 50 :: Char.ofNat 57 :: Char.ofNat 101 :: Char.ofNat 97 :: Char.ofNat 51 :: Char.ofNat 55 :: Char.ofNat 98 :: Char.ofNat 98 :: Char.ofNat 51 :: Char.ofNat 102 :: Char.ofNat 50 :: Char.ofNat 98 :: Char.ofNat 57 :: Char.ofNat 54 :: Char.ofNat 101 :: Char.ofNat 56 :: Char.ofNat 52 :: Char.ofNat 57 :: Char.ofNat 98 :: Char.ofNat 53 :: Char.ofNat 57 :: Char.ofNat 54 :: Char.ofNat 53 :: Char.ofNat 52 :: Char.ofNat 101 :: Char.ofNat 55 :: Char.ofNat 51 :: Char.ofNat 100 :: Char.ofNat 49 :: Char.ofNat 51 :: Char.ofNat 99 :: Char.ofNat 98 :: Char.ofNat 49 :: Char.ofNat 54 :: Char.ofNat 51 :: Char.ofNat 54 :: Char.ofNat 48 :: Char.ofNat 57 :: Char.ofNat 56 :: Char.ofNat 57 :: Char.ofNat 101 :: Char.ofNat 54 :: Char.ofNat 98 :: Char.ofNat 53 :: Char.ofNat 48 :: Char.ofNat 100 :: Char.ofNat 54 :: Char.ofNat 53 :: Char.ofNat 98 :: Char.ofNat 102 :: Char.ofNat 51 :: Char.ofNat 101 :: Char.ofNat 100 :: Char.ofNat 97 :: Char.ofNat 55 :: Char.ofNat 56 :: Char.ofNat 52 :: Char.ofNat 99 :: Char.ofNat 98 :: Char.ofNat 53 :: Char.ofNat 97 :: Char.ofNat 98 :: Char.ofNat 32 :: Char.ofNat 99 :: Char.ofNat 117 :: Char.ofNat 116 :: Char.ofNat 32 :: Char.ofNat 97 :: Char.ofNat 116 :: Char.ofNat 32 :: r) = [Char.ofNat 104, Char.ofNat 97, Char.ofNat 114, Char.ofNat 110, Char.ofNat 101, Char.ofNat 115, Char.ofNat 115] :: [Char.ofNat 54, Char.ofNat 100, Char.ofNat 50, Char.ofNat 57, Char.ofNat 101, Char.ofNat 97, Char.ofNat 51, Char.ofNat 55, Char.ofNat 98, Char.ofNat 98, Char.ofNat 51, Char.ofNat 102, Char.ofNat 50, Char.ofNat 98, Char.ofNat 57, Char.ofNat 54, Char.ofNat 101, Char.ofNat 56, Char.ofNat 52, Char.ofNat 57, Char.ofNat 98, Char.ofNat 53, Char.ofNat 57, Char.ofNat 54, Char.ofNat 53, Char.ofNat 52, Char.ofNat 101, Char.ofNat 55, Char.ofNat 51, Char.ofNat 100, Char.ofNat 49, Char.ofNat 51, Char.ofNat 99, Char.ofNat 98, Char.ofNat 49, Char.ofNat 54, Char.ofNat 51, Char.ofNat 54, Char.ofNat 48, Char.ofNat 57, Char.ofNat 56, Char.ofNat 57, Char.ofNat 101, Char.ofNat 54, Char.ofNat 98, Char.ofNat 53, Char.ofNat 48, Char.ofNat 100, Char.ofNat 54, Char.ofNat 53, Char.ofNat 98, Char.ofNat 102, Char.ofNat 51, Char.ofNat 101, Char.ofNat 100, Char.ofNat 97, Char.ofNat 55, Char.ofNat 56, Char.ofNat 52, Char.ofNat 99, Char.ofNat 98, Char.ofNat 53, Char.ofNat 97, Char.ofNat 98] :: [Char.ofNat 99, Char.ofNat 117, Char.ofNat 116] :: [Char.ofNat 97, Char.ofNat 116] :: wordsSigns r := by kernel_rfl
theorem behind_at (t : List (List Char)) : behindMainWord ([Char.ofNat 104, Char.ofNat 97, Char.ofNat 114, Char.ofNat 110, Char.ofNat 101, Char.ofNat 115, Char.ofNat 115] :: [Char.ofNat 54, Char.ofNat 100, Char.ofNat 50, Char.ofNat 57, Char.ofNat 101, Char.ofNat 97, Char.ofNat 51, Char.ofNat 55, Char.ofNat 98, Char.ofNat 98, Char.ofNat 51, Char.ofNat 102, Char.ofNat 50, Char.ofNat 98, Char.ofNat 57, Char.ofNat 54, Char.ofNat 101, Char.ofNat 56, Char.ofNat 52, Char.ofNat 57, Char.ofNat 98, Char.ofNat 53, Char.ofNat 57, Char.ofNat 54, Char.ofNat 53, Char.ofNat 52, Char.ofNat 101, Char.ofNat 55, Char.ofNat 51, Char.ofNat 100, Char.ofNat 49, Char.ofNat 51, Char.ofNat 99, Char.ofNat 98, Char.ofNat 49, Char.ofNat 54, Char.ofNat 51, Char.ofNat 54, Char.ofNat 48, Char.ofNat 57, Char.ofNat 56, Char.ofNat 57, Char.ofNat 101, Char.ofNat 54, Char.ofNat 98, Char.ofNat 53, Char.ofNat 48, Char.ofNat 100, Char.ofNat 54, Char.ofNat 53, Char.ofNat 98, Char.ofNat 102, Char.ofNat 51, Char.ofNat 101, Char.ofNat 100, Char.ofNat 97, Char.ofNat 55, Char.ofNat 56, Char.ofNat 52, Char.ofNat 99, Char.ofNat 98, Char.ofNat 53, Char.ofNat 97, Char.ofNat 98] :: [Char.ofNat 99, Char.ofNat 117, Char.ofNat 116] :: [Char.ofNat 97, Char.ofNat 116] :: t) = [Char.ofNat 99, Char.ofNat 117, Char.ofNat 116] :: [Char.ofNat 97, Char.ofNat 116] :: t := by kernel_rfl
theorem behind_all : behindMainWord (wordsSigns Tryz.pinned.checked.prog.initOrder.toList) = [Char.ofNat 99, Char.ofNat 117, Char.ofNat 116] :: [Char.ofNat 97, Char.ofNat 116] :: wordsSigns tailSigns := by rw [initOrder_list, words_at, behind_at]
theorem make_of (c : List Char) (rest : List (List Char)) (P : Program) (h0 : (c == "gc".toList) = false) (h1 : (c == "spec".toList) = false) (h2 : (c == "cut".toList) = true) (h : behindMainWord (wordsSigns P.initOrder.toList) = c :: rest) : P.make = some .cut := by
 unfold Program.make
 rw [h]
 simp only [h0, h1, h2]
 rfl
theorem mayEnter_of (c : List Char) (rest : List (List Char)) (P : Program) (h0 : (c == "gc".toList) = false) (h1 : (c == "spec".toList) = false) (h2 : (c == "carried".toList) = false) (h : behindMainWord (wordsSigns P.initOrder.toList) = c :: rest)
  (h3 : ((stripLifts liftWords (c :: rest)).2.head? == some "cut".toList) = true) (h4 : P.laysLater = false) (h5 : P.bearsReflect = false) (h6 : P.doorFits (stripLifts liftWords (c :: rest)).1 = true) (h7 : (stripLifts liftWords (c :: rest)).1.contains "leanrows" = false) : P.mayEnter = true := by
 unfold Program.mayEnter
 rw [h]
 simp only [h0, h1, h2, h3, h4, h5, h6, h7]
 simp
theorem liftsFinal_of (c : List Char) (rest : List (List Char)) (P : Program) (h2 : (some c == some "carried".toList) = false) (h : behindMainWord (wordsSigns P.initOrder.toList) = c :: rest)
  (h3 : ((stripLifts liftWords (c :: rest)).2.head? == some "cut".toList) = true) (h7 : (stripLifts liftWords (c :: rest)).1.contains "finals" = false) : P.liftsFinal = false := by
 unfold Program.liftsFinal Program.headLifts
 rw [h]
 simp only [List.head?_cons, h2, h3, if_true, h7, Bool.false_and, Bool.or_self]
theorem strip_at (t : List (List Char)) : stripLifts liftWords ([Char.ofNat 99, Char.ofNat 117, Char.ofNat 116] :: [Char.ofNat 97, Char.ofNat 116] :: t) = ([], [Char.ofNat 99, Char.ofNat 117, Char.ofNat 116] :: [Char.ofNat 97, Char.ofNat 116] :: t) := by kernel_rfl
theorem laysLater_at : Tryz.pinned.checked.prog.laysLater = false := by kernel_rfl
theorem bearsReflect_at : Tryz.pinned.checked.prog.bearsReflect = false := by kernel_rfl
theorem doorFits_at : Tryz.pinned.checked.prog.doorFits [] = true := by kernel_rfl
theorem mayEnter_at : Tryz.pinned.checked.prog.mayEnter = true :=
 mayEnter_of _ _ _ z1m z1m z1m behind_all (by rw [strip_at]; generalize wordsSigns tailSigns = t; kernel_rfl) laysLater_at bearsReflect_at (by rw [strip_at]; exact doorFits_at) (by rw [strip_at]; rfl)
theorem liftsFinal_at : Tryz.pinned.checked.prog.liftsFinal = false :=
 liftsFinal_of _ _ _ z1m behind_all (by rw [strip_at]; generalize wordsSigns tailSigns = t; kernel_rfl) (by rw [strip_at]; rfl)
theorem make_at : Tryz.pinned.checked.prog.make = some .cut := make_of _ _ _ z1m z1m z1m behind_all
end Go.Proofs.YtgdknepphkhnlaaGreatDoor.Y
