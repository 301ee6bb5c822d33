/- The law FnExactParseVersion, as a plain statement: the program's ParseVersion answers as the reference's. Conditions: those of the row's reading alone. -/
/- Part 7 of 8 of this claim's texts. -/
import Derived.Test.YtagbldaiedmikaaDoorWWords
import Derived.Deep.Slices
import Derived.ChangeArms
import Derived.WideShapes
import Derived.DataReads
import Derived.Test.YtagbldaiedmikaaDoorRows
import Derived.WalkKit
import Derived.ProofKit
import Derived.Test.YtagbldaiedmikaaDoorCFnExactParseVersion3
import Derived.Test.YtagbldaiedmikaaDoorCFnExactParseVersion5
/- What a text is read as, the program's way and the reference's: the same version. Plain lemmas. -/
set_option linter.unusedVariables false
namespace Go.Proofs.YtagbldaiedmikaaDoor.Z
open Go.RowKit Go.Proofs.YtagbldaiedmikaaDoorW.PrintWords Go.Proofs.YtagbldaiedmikaaDoorW.PrintMore Go.Proofs.YtagbldaiedmikaaDoor.X Go.Proofs.YtagbldaiedmikaaDoor.Sp
/-- What lies ahead of the first byte c, and behind it. -/
def cutL (c : UInt8) : List UInt8 → List UInt8 × List UInt8
  | [] => ([], [])
  | b :: l => if b = c then ([], l) else (b :: (cutL c l).1, (cutL c l).2)
theorem ix_cases (c : UInt8) : ∀ l : List UInt8, Lib.indexByte l c = -1 ∧ cutL c l = (l, []) ∨ ∃ n : Nat, Lib.indexByte l c = (n : Int) ∧ cutL c l = (l.take n, l.drop (n + 1))
  | [] => .inl ⟨rfl, rfl⟩
  | b :: l => by
    unfold cutL Lib.indexByte
    by_cases h : b = c
    · rw [if_pos h, if_pos (beq_iff_eq.2 h)]
      exact .inr ⟨0, rfl, rfl⟩
    · rw [if_neg h, if_neg (fun e => h (beq_iff_eq.1 e))]
      rcases ix_cases c l with ⟨h1, h2⟩ | ⟨n, h1, h2⟩
      · rw [h1, h2]
        exact .inl ⟨rfl, rfl⟩
      · rw [h1, h2]
        refine .inr ⟨n + 1, ?_, rfl⟩
        rw [if_neg (fun e => by have := beq_iff_eq.1 e; omega)]
        rfl
theorem cut_cutL (c : UInt8) (l : List UInt8) : (Lib.cut l [c]).1 = (cutL c l).1 ∧ (Lib.cut l [c]).2.1 = (cutL c l).2 := by
  unfold Lib.cut
  rw [Lib.index_one]
  rcases ix_cases c l with ⟨h1, h2⟩ | ⟨n, h1, h2⟩
  · rw [h1, h2, if_neg (by omega)]
    exact ⟨rfl, rfl⟩
  · rw [h1, h2, if_pos (by omega)]
    exact ⟨rfl, rfl⟩
theorem cutL_len (c : UInt8) : ∀ l : List UInt8, (cutL c l).1.length ≤ l.length ∧ (cutL c l).2.length ≤ l.length
  | [] => ⟨Nat.le_refl _, Nat.le_refl _⟩
  | b :: l => by
    have ih := cutL_len c l
    unfold cutL
    split
    · simp
    · simp; omega
theorem cut_ev (s : ByteArray) (c : UInt8) (hs : s.size ≤ 1048576) : ∃ b, strings_Cut.f s ⟨#[c]⟩ = some (toB (cutL c s.data.toList).1, toB (cutL c s.data.toList).2, b) := by
  unfold strings_Cut.f
  rw [if_pos ⟨by omega, rfl⟩]
  have h := cut_cutL c s.data.toList
  refine ⟨(Lib.cut s.data.toList [c]).2.2, ?_⟩
  show some (cutB_ c s) = _
  unfold cutB_ toB
  rw [h.1, h.2]
theorem toB_self (s : ByteArray) : toB s.data.toList = s := by
  unfold toB
  cases s
  simp
def nilB : ByteArray := ⟨#[]⟩
def noV : Int × Int × Int × ByteArray × Bool := (0, 0, 0, ⟨#[]⟩, false)
/-- What lies behind a 'v' ahead. -/
def offV (s : ByteArray) : ByteArray := if s.data.toList.head? = some 118 then toB (s.data.toList.drop 1) else s
theorem head_bt (s : ByteArray) (c : UInt8) (h : 0 < s.size) : s.data.toList.head? = some c ↔ bt s 0 = (c.toNat : Int) := by
  have hb : bt s 0 = _ := byte_at s 0 h
  have hl := data_length s
  cases hx : s.data.toList with
  | nil => rw [hx] at hl; simp at hl; omega
  | cons a m =>
    simp only [hx, List.getElem_cons_zero] at hb
    rw [hb, List.head?_cons]
    constructor
    · intro e
      rw [Option.some.inj e]
    · intro e
      rw [UInt8.toNat_inj.1 (show a.toNat = c.toNat by omega)]
theorem trim_ev (s : ByteArray) (hs : s.size ≤ 1048576) : strings_TrimPrefix.f s ⟨#[118]⟩ = some (offV s) := by
  unfold strings_TrimPrefix.f stringslite_TrimPrefix.f stringslite_HasPrefix.f offV
  have e1 : ((⟨#[118]⟩ : ByteArray).size : Int) = 1 := rfl
  have hl := data_length s
  rw [e1]
  by_cases h : (s.size : Int) ≥ 1
  · rw [if_pos h, if_pos (by omega), if_pos (by omega)]
    simp only [Option.bind_some]
    have e2 : (s.extract 0 (1 : Int).toNat).toList = s.data.toList.take 1 := by
      rw [tl, show (1 : Int).toNat = 1 from rfl, ext_list]
      simp
    have e3 : (⟨#[118]⟩ : ByteArray).toList = [118] := by rw [tl]
    rw [e2, e3]
    cases hx : s.data.toList with
    | nil => rw [hx] at hl; simp at hl; omega
    | cons a m =>
      by_cases ha : a = 118
      · subst ha
        rw [if_pos (by simp), if_pos (by omega), if_pos (by omega), if_pos (show (118 :: m : List UInt8).head? = some 118 from rfl)]
        simp only [Option.bind_some]
        rw [show (1 : Int).toNat = 1 from rfl, ext_end, hx]
      · rw [if_neg (by simp [ha]), if_neg (by simp [ha])]
        rfl
  · rw [if_neg h]
    simp only [Option.bind_some]
    have h0 : s.data.toList = [] := List.eq_nil_of_length_eq_zero (by omega)
    rw [h0, if_neg (by simp), if_neg (by simp)]
    rfl
def at3 (l : List ByteArray) (i : Int) : ByteArray := rdOf ByteArray.empty l i
def good7 (x : ByteArray) : Prop := num x = true ∧ (x.size : Int) ≤ 7
instance (x : ByteArray) : Decidable (good7 x) := by unfold good7; exact inferInstance
def valI (x : ByteArray) : Int := ((val x.data.toList : Nat) : Int)
def numsOf (t : ByteArray) : List ByteArray := pieces 46 (toB (cutL 45 t.data.toList).1)
def preOf (t : ByteArray) : ByteArray := toB (cutL 45 t.data.toList).2
/-- The program's way. -/
def readI (s : ByteArray) : Int × Int × Int × ByteArray × Bool :=
  if (numsOf (offV s)).length = 3 ∧ good7 (at3 (numsOf (offV s)) 0) ∧ good7 (at3 (numsOf (offV s)) 1) ∧ good7 (at3 (numsOf (offV s)) 2) ∧
      verText (valI (at3 (numsOf (offV s)) 0)) (valI (at3 (numsOf (offV s)) 1)) (valI (at3 (numsOf (offV s)) 2)) (preOf (offV s)) = s then
    (valI (at3 (numsOf (offV s)) 0), valI (at3 (numsOf (offV s)) 1), valI (at3 (numsOf (offV s)) 2), preOf (offV s), true) else noV
/-- The reference's way. -/
def readS (s : ByteArray) : Int × Int × Int × ByteArray × Bool :=
  if s.data.toList.head? = some 118 ∧ (numsOf (offV s)).length = 3 ∧ verOk (numS (at3 (numsOf (offV s)) 0)) (numS (at3 (numsOf (offV s)) 1)) (numS (at3 (numsOf (offV s)) 2)) (preOf (offV s)) = true ∧
      verText (numS (at3 (numsOf (offV s)) 0)) (numS (at3 (numsOf (offV s)) 1)) (numS (at3 (numsOf (offV s)) 2)) (preOf (offV s)) = s then
    (numS (at3 (numsOf (offV s)) 0), numS (at3 (numsOf (offV s)) 1), numS (at3 (numsOf (offV s)) 2), preOf (offV s), true) else noV
theorem pow7 {n : Nat} (h : 7 ≤ n) : 10000000 ≤ 10 ^ n := Nat.le_trans (by decide) (Nat.pow_le_pow_right (show 0 < 10 by decide) h)
theorem good_numS {x : ByteArray} (h : good7 x) : numS x = valI x := by
  unfold valI
  refine numS_val ?_
  unfold short
  have := h.2
  rw [h.1, decide_eq_true (by omega)]
  rfl
theorem numS_good {x : ByteArray} (h : in6 (numS x) = true) : good7 x := by
  unfold in6 at h
  have h1 := of_decide_eq_true h
  have hsh := (numS_pos x).1 h1.1
  have hv := numS_val hsh
  rw [hv] at h1
  have hn : num x = true := by unfold short at hsh; simp only [Bool.and_eq_true] at hsh; exact hsh.1
  refine ⟨hn, ?_⟩
  rcases Nat.lt_or_ge 7 x.size with h5 | h5
  · have hle := short_lead hsh (by omega)
    have h10 := pow7 (n := x.size - 1) (by omega)
    generalize val x.data.toList = v at *
    generalize 10 ^ (x.size - 1) = p at *
    omega
  · omega
theorem verText_nil {a b c : Int} {p : ByteArray} (h : verOk a b c p = false) : verText a b c p = nilB := by
  unfold verText
  rw [h, if_neg Bool.false_ne_true]
  rfl
theorem verText_v {a b c : Int} {p : ByteArray} (h : verOk a b c p = true) : (verText a b c p).data.toList.head? = some 118 := by
  unfold verText verT
  rw [if_pos h]
  have e : (⟨#[118]⟩ : ByteArray).data.toList = [118] := rfl
  split
  · simp [ByteArray.data_append]
  · simp [ByteArray.data_append]
theorem nums_nil : (numsOf (offV nilB)).length = 1 := rfl
theorem read_same (s : ByteArray) : readI s = readS s := by
  unfold readI readS
  by_cases h3 : (numsOf (offV s)).length = 3
  · by_cases hT : good7 (at3 (numsOf (offV s)) 0) ∧ good7 (at3 (numsOf (offV s)) 1) ∧ good7 (at3 (numsOf (offV s)) 2) ∧
      verText (valI (at3 (numsOf (offV s)) 0)) (valI (at3 (numsOf (offV s)) 1)) (valI (at3 (numsOf (offV s)) 2)) (preOf (offV s)) = s
    · obtain ⟨g0, g1, g2, ht⟩ := hT
      rw [if_pos ⟨h3, g0, g1, g2, ht⟩, good_numS g0, good_numS g1, good_numS g2]
      have hv : verOk (valI (at3 (numsOf (offV s)) 0)) (valI (at3 (numsOf (offV s)) 1)) (valI (at3 (numsOf (offV s)) 2)) (preOf (offV s)) = true := by
        cases hv : verOk (valI (at3 (numsOf (offV s)) 0)) (valI (at3 (numsOf (offV s)) 1)) (valI (at3 (numsOf (offV s)) 2)) (preOf (offV s)) with
        | true => rfl
        | false =>
          rw [verText_nil hv] at ht
          rw [← ht, nums_nil] at h3
          omega
      rw [if_pos ⟨ht ▸ verText_v hv, h3, hv, ht⟩]
    · rw [if_neg (fun e => hT e.2), if_neg]
      rintro ⟨_, _, hv, ht⟩
      have hin : in6 (numS (at3 (numsOf (offV s)) 0)) = true ∧ in6 (numS (at3 (numsOf (offV s)) 1)) = true ∧ in6 (numS (at3 (numsOf (offV s)) 2)) = true := by
        unfold verOk at hv
        simp only [Bool.and_eq_true] at hv
        exact ⟨hv.1, hv.2.1, hv.2.2.1⟩
      have g0 := numS_good hin.1
      have g1 := numS_good hin.2.1
      have g2 := numS_good hin.2.2
      rw [good_numS g0, good_numS g1, good_numS g2] at ht
      exact hT ⟨g0, g1, g2, ht⟩
  · rw [if_neg (fun e => h3 e.1), if_neg (fun e => h3 e.2.1)]
theorem offV_size (s : ByteArray) : (offV s).size ≤ s.size := by
  unfold offV
  split
  · rw [toB_size, List.length_drop, data_length]
    omega
  · exact Nat.le_refl _
theorem pre_size (t : ByteArray) : (preOf t).size ≤ t.size := by
  unfold preOf
  rw [toB_size]
  have := (cutL_len 45 t.data.toList).2
  rw [data_length] at this
  exact this
theorem num_size (t : ByteArray) : (toB (cutL 45 t.data.toList).1).size ≤ t.size := by
  rw [toB_size]
  have := (cutL_len 45 t.data.toList).1
  rw [data_length] at this
  exact this
theorem at3_size (t : ByteArray) (i : Nat) (h : i < (numsOf t).length) : (at3 (numsOf t) (i : Int)).size ≤ t.size := by
  have hm : at3 (numsOf t) (i : Int) ∈ numsOf t := by
    have := rdOf_get (d := ByteArray.empty) h
    rw [List.getElem?_eq_getElem h] at this
    unfold at3
    rw [← Option.some.inj this]
    exact List.getElem_mem h
  exact Nat.le_trans (pieces_mem 46 _ _ hm) (num_size t)
theorem tl_eq {a b : ByteArray} : (a.toList = b.toList) = (a = b) := propext tl_inj
theorem numOf7 (t : ByteArray) (ht : t.size ≤ 1048576) : Ev (fun k => impl_numberOf.f k t 7) (if good7 t then (valI t, true) else (0, false)) := by
  refine evE ?_ (numberOf_ev t ht 7 (by omega))
  by_cases h : good7 t
  · rw [if_pos h]
    exact if_pos h
  · rw [if_neg h]
    exact if_neg h
theorem impl_n3 (s p : ByteArray) (a b c : Int) (hp : p.size ≤ 1048576) : Ev (fun k => impl_ParseVersion.n3 k s p a b c) (if verText a b c p = s then (a, b, c, p, true) else noV) := by
  unfold impl_ParseVersion.n3
  refine evB (verText_both a b c p hp).1 ?_
  simp only [tl_eq]
  by_cases h : verText a b c p = s
  · exact evT h (evR (by rw [if_pos h]))
  · exact evF h (evR (by rw [if_neg h]; rfl))
theorem impl_read (s : ByteArray) (hs : s.size ≤ 1048576) : Ev (fun k => impl_ParseVersion.f k s) (readI s) := by
  have ho := offV_size s
  have hn := num_size (offV s)
  have hp := pre_size (offV s)
  obtain ⟨bb, hc⟩ := cut_ev (offV s) 45 (by omega)
  unfold impl_ParseVersion.f readI
  refine evC (trim_ev s hs) (evC hc ?_)
  have hsp : strings_Split.f (toB (cutL 45 (offV s).data.toList).1) (⟨#[46]⟩ : ByteArray) = some (numsOf (offV s)) := by
    unfold strings_Split.f
    rw [if_pos ⟨by omega, rfl⟩]
    rfl
  refine evC hsp ?_
  by_cases h3 : (numsOf (offV s)).length = 3
  · refine evT h3 ?_
    have z0 := at3_size (offV s) 0 (by omega)
    have z1 := at3_size (offV s) 1 (by omega)
    have z2 := at3_size (offV s) 2 (by omega)
    have f0 := numOf7 _ (Nat.le_trans z0 (by omega))
    have f1 := numOf7 _ (Nat.le_trans z1 (by omega))
    have f2 := numOf7 _ (Nat.le_trans z2 (by omega))
    show Ev (fun k => impl_ParseVersion.n0 k s (preOf (offV s)) (at3 (numsOf (offV s)) ((0 : Nat) : Int)) (at3 (numsOf (offV s)) ((1 : Nat) : Int)) (at3 (numsOf (offV s)) ((2 : Nat) : Int))) _
    unfold impl_ParseVersion.n0
    refine evB f0 ?_
    by_cases g0 : good7 (at3 (numsOf (offV s)) ((0 : Nat) : Int))
    · rw [if_pos g0]
      refine evT rfl ?_
      unfold impl_ParseVersion.n1
      refine evB f1 ?_
      by_cases g1 : good7 (at3 (numsOf (offV s)) ((1 : Nat) : Int))
      · rw [if_pos g1]
        refine evT rfl ?_
        unfold impl_ParseVersion.n2
        refine evB f2 ?_
        by_cases g2 : good7 (at3 (numsOf (offV s)) ((2 : Nat) : Int))
        · rw [if_pos g2]
          refine evT rfl (evE ?_ (impl_n3 s (preOf (offV s)) _ _ _ (by omega)))
          by_cases ht : verText (valI (at3 (numsOf (offV s)) 0)) (valI (at3 (numsOf (offV s)) 1)) (valI (at3 (numsOf (offV s)) 2)) (preOf (offV s)) = s
          · exact (if_pos ht).trans (if_pos ⟨h3, g0, g1, g2, ht⟩).symm
          · exact (if_neg ht).trans (if_neg (fun e => ht e.2.2.2.2)).symm
        · rw [if_neg g2, if_neg (fun e => g2 e.2.2.2.1)]
          exact evF Bool.false_ne_true (evR rfl)
      · rw [if_neg g1, if_neg (fun e => g1 e.2.2.1)]
        exact evF Bool.false_ne_true (evR rfl)
    · rw [if_neg g0, if_neg (fun e => g0 e.2.1)]
      exact evF Bool.false_ne_true (evR rfl)
  · rw [if_neg (fun e => h3 e.1)]
    exact evF h3 (evR rfl)
theorem spec_l0 (s t : ByteArray) (ht : t.size ≤ 1048576) (r : Int × Int × Int × ByteArray × Bool) (d : Nat) : ∀ i : Nat, i + d = t.size →
    Ev (fun k => spec_ParseVersion.n2 k s (toB (t.data.toList.take i ++ (cutL 45 (t.data.toList.drop i)).1)) (toB (cutL 45 (t.data.toList.drop i)).2)) r → Ev (fun k => spec_ParseVersion.l0 k s t (i : Int)) r := by
  induction d with
  | zero =>
    intro i hi H
    rw [List.drop_eq_nil_of_le (show t.data.toList.length ≤ i by rw [data_length]; omega), List.take_of_length_le (show t.data.toList.length ≤ i by rw [data_length]; omega)] at H
    rw [show t.data.toList ++ (cutL 45 []).1 = t.data.toList from List.append_nil _, toB_self] at H
    refine evS (fun k => by rw [spec_ParseVersion.l0]) ?_
    exact evF (by omega) H
  | succ d ih =>
    intro i hi H
    have hl : i < t.data.toList.length := by rw [data_length]; omega
    have hb := byte_at t i (by omega)
    rw [List.drop_eq_getElem_cons hl] at H
    refine evS (fun k => by rw [spec_ParseVersion.l0]) ?_
    rw [hb, w64s (show i < t.size by omega) (by omega)]
    refine evT (by omega) (evT (by omega) ?_)
    by_cases hc : t.data.toList[i] = 45
    · rw [hc] at H ⊢
      refine evT (by decide) (evT (by omega) (evT (by omega) ?_))
      rw [show (((i + 1 : Nat) : Int)).toNat = i + 1 by omega, show ((i : Nat) : Int).toNat = i by omega, ext_end, ext_list, List.drop_zero, Nat.sub_zero]
      rw [cutL, if_pos rfl, List.append_nil] at H
      exact H
    · refine evF (fun e => hc (UInt8.toNat_inj.1 (show _ = 45 by omega))) (ih (i + 1) (by omega) ?_)
      rw [cutL, if_neg hc] at H
      rw [List.take_succ_eq_append_getElem hl, List.append_assoc]
      exact H
theorem spec_n3 (s p : ByteArray) (a b c : Int) (hp : p.size ≤ 1048576) : Ev (fun k => spec_ParseVersion.n3 k s p a b c) (if verOk a b c p = true ∧ verText a b c p = s then (a, b, c, p, true) else noV) := by
  unfold spec_ParseVersion.n3
  refine evB (verOk_both a b c p hp).2 ?_
  cases hv : verOk a b c p with
  | false => exact evF Bool.false_ne_true (evR (by simp [noV]))
  | true =>
    refine evT rfl (evB (verText_both a b c p hp).2 ?_)
    simp only [tl_eq]
    by_cases h : verText a b c p = s
    · exact evT h (evR (by simp [h]))
    · exact evF h (evR (by simp [h, noV]))
theorem spec_n2 (s t : ByteArray) (ht : t.size ≤ 1048576) : Ev (fun k => spec_ParseVersion.n2 k s (toB (cutL 45 t.data.toList).1) (preOf t))
    (if (numsOf t).length = 3 ∧ verOk (numS (at3 (numsOf t) 0)) (numS (at3 (numsOf t) 1)) (numS (at3 (numsOf t) 2)) (preOf t) = true ∧ verText (numS (at3 (numsOf t) 0)) (numS (at3 (numsOf t) 1)) (numS (at3 (numsOf t) 2)) (preOf t) = s then
      (numS (at3 (numsOf t) 0), numS (at3 (numsOf t) 1), numS (at3 (numsOf t) 2), preOf t, true) else noV) := by
  have hn := num_size t
  have hp := pre_size t
  unfold spec_ParseVersion.n2
  refine evB (a := numsOf t) (split_spec _ (by omega) 46) ?_
  by_cases h3 : (numsOf t).length = 3
  · have z0 := at3_size t 0 (by omega)
    have z1 := at3_size t 1 (by omega)
    have z2 := at3_size t 2 (by omega)
    refine evT h3 (evB (numS_spec _ (Nat.le_trans z0 (by omega))) (evB (numS_spec _ (Nat.le_trans z1 (by omega))) (evB (numS_spec _ (Nat.le_trans z2 (by omega))) (evE ?_ (spec_n3 s (preOf t) _ _ _ (by omega))))))
    by_cases hh : verOk (numS (at3 (numsOf t) 0)) (numS (at3 (numsOf t) 1)) (numS (at3 (numsOf t) 2)) (preOf t) = true ∧ verText (numS (at3 (numsOf t) 0)) (numS (at3 (numsOf t) 1)) (numS (at3 (numsOf t) 2)) (preOf t) = s
    · exact (if_pos hh).trans (if_pos ⟨h3, hh⟩).symm
    · exact (if_neg hh).trans (if_neg (fun e => hh e.2)).symm
  · rw [if_neg (fun e => h3 e.1)]
    exact evF h3 (evR rfl)
theorem spec_read (s : ByteArray) (hs : s.size ≤ 1048576) : Ev (fun k => spec_ParseVersion.f k s) (readS s) := by
  unfold spec_ParseVersion.f readS
  have hl := data_length s
  by_cases h0 : s.size = 0
  · have hn : s.data.toList = [] := List.eq_nil_of_length_eq_zero (by omega)
    refine evT ((nil_iff' s).2 h0) (evR ?_)
    rw [hn, if_neg (fun e => by simp at e)]
    rfl
  · refine evF (fun e => h0 ((nil_iff' s).1 e)) (evT (by omega) ?_)
    have hh := head_bt s 118 (by omega)
    by_cases hv : bt s 0 = 118
    · have hv' : s.data.toList.head? = some 118 := hh.2 hv
      have ho : offV s = toB (s.data.toList.drop 1) := by unfold offV; rw [if_pos hv']
      refine evT hv (evT (by omega) ?_)
      rw [ext_end, ← ho]
      have hz := offV_size s
      refine spec_l0 s (offV s) (by omega) _ (offV s).size 0 (by omega) ?_
      rw [List.take_zero, List.nil_append, List.drop_zero]
      refine evE ?_ (spec_n2 s (offV s) (by omega))
      by_cases h3 : (numsOf (offV s)).length = 3 ∧ verOk (numS (at3 (numsOf (offV s)) 0)) (numS (at3 (numsOf (offV s)) 1)) (numS (at3 (numsOf (offV s)) 2)) (preOf (offV s)) = true ∧
          verText (numS (at3 (numsOf (offV s)) 0)) (numS (at3 (numsOf (offV s)) 1)) (numS (at3 (numsOf (offV s)) 2)) (preOf (offV s)) = s
      · rw [if_pos h3, if_pos ⟨hv', h3⟩]
      · rw [if_neg h3, if_neg (fun e => h3 e.2)]
    · refine evF hv (evR ?_)
      rw [if_neg (fun e => hv (hh.1 e.1))]
      rfl
theorem read_both (s : ByteArray) (hs : s.size ≤ 1048576) : Ev (fun k => impl_ParseVersion.f k s) (readS s) ∧ Ev (fun k => spec_ParseVersion.f k s) (readS s) := ⟨read_same s ▸ impl_read s hs, spec_read s hs⟩
end Go.Proofs.YtagbldaiedmikaaDoor.Z

/- The law FnExactParseVersion, as a plain statement: the program's ParseVersion answers as the reference's. Conditions: those of the row's reading alone. -/
namespace Go.Proofs.YtagbldaiedmikaaDoor.Pure
open Go.RowKit Go.Proofs.YtagbldaiedmikaaDoor.X Go.Proofs.YtagbldaiedmikaaDoor.Z Go.Proofs.YtagbldaiedmikaaDoorW.PrintWords Go.Proofs.YtagbldaiedmikaaDoorW.PrintLast
theorem eqVersion_same (a b c : Int) (p : ByteArray) : laws_eqVersion.f a b c p a b c p = some true := by
  unfold laws_eqVersion.f
  rw [if_pos rfl, if_pos rfl, if_pos rfl, if_pos rfl]
theorem FnExactParseVersion : laws_FnExactParseVersion.Pure := by
  intro s hs
  refine Ev.rounds ?_
  unfold laws_FnExactParseVersion.f
  refine evI (fun _ => evR rfl) (fun hl => ?_)
  obtain ⟨hI, hS⟩ := read_both s (by omega)
  refine evB hS (evB hI (evC (eqVersion_same _ _ _ _) (evT rfl (evF ?_ (evR rfl)))))
  cases (readS s).2.2.2.2 <;> decide
end Go.Proofs.YtagbldaiedmikaaDoor.Pure

/- Values that come in as data (strings' slices, structs, slices of structs, nested) are of the printer's kinds: one lemma a make of type. Plain lemmas for the rows of laws over such parameters. No conditions beyond what each lemma names. -/
set_option linter.unusedVariables false
namespace Go.Proofs.YtagbldaiedmikaaDoor.Y
open Go.RowKit Go.Proofs.YtagbldaiedmikaaDoorW.PrintWords Go.ChangeShapes Go.WideShapes Go.Deep

/-- What is read as data of type T is of kind d, and G holds of what it says. -/
def Opn {α : Type} (P : Program) (d : Kd α) (T : TypeId) (G : α → Prop) : Prop :=
  ∀ {H : Type} (enc : TypeId × Value → H) (w : World) (spare : Nat → Bool) (held : Bool) (fuel : Nat) (cs : List Value) (x : DataW H × List MemPlace), DataW.trod enc P w 0 spare held fuel T cs = some x → ∃ y, d.K w y cs ∧ G y

theorem Opn.int {P : Program} {T : TypeId} {k : IntKind} (h : P.underlying T = some (.int k)) : Opn P (Kd.int k) T (fun n => (Lit.int k n).wf = true) := by
  intro H enc w spare held fuel cs x hx
  obtain ⟨n, rfl, _, hn⟩ := DataW.trod_int h hx
  exact ⟨n, rfl, hn⟩
theorem Opn.bool {P : Program} {T : TypeId} (h : P.underlying T = some .bool) : Opn P Kd.bool T (fun _ => True) := by
  intro H enc w spare held fuel cs x hx
  obtain ⟨n, rfl, _⟩ := DataW.trod_bool h hx
  exact ⟨n, rfl, trivial⟩
theorem Opn.string {P : Program} {T : TypeId} (h : P.underlying T = some .string) : Opn P Kd.string T (fun s => s.size ≤ maxLen) := by
  intro H enc w spare held fuel cs x hx
  obtain ⟨s, rfl, _, hs⟩ := DataW.trod_string h hx
  exact ⟨s, rfl, hs⟩
theorem Opn.slice {α : Type} {P : Program} {d : Kd α} {T e : TypeId} {G : α → Prop} [Inhabited α] (h : P.underlying T = some (.slice e)) (he : P.cellsOf e = d.sz) (ho : Opn P d e G) :
    Opn P (Kd.slice e d) T (fun l => l.length ≤ maxLen ∧ ∀ y, y ∈ l → G y) := by
  intro H enc w spare held fuel cs x hx
  rcases open_slice h hx with ⟨rfl, _⟩ | ⟨a, len, cap, m, n, D, Pl, rfl, _, hl, hm, hmm, _, hel⟩
  · exact ⟨[], ⟨none, 0, rfl, Nat.le_refl _, rfl, by simp, fun hn => absurd hn (Nat.lt_irrefl 0)⟩, by simp, fun y hy => by cases hy⟩
  · have hlm : len ≤ m := by rw [hmm]; split <;> omega
    have each : ∀ i, i < len → ∃ y, (∃ c, c.length = d.sz ∧ d.K w y c ∧ ∀ j u, c[j]? = some u → w.cell? (a.add (i * d.sz + j)) = some u) ∧ G y := by
      intro i hi
      obtain ⟨c, hc, ht⟩ := hel i (by omega)
      obtain ⟨y, hk, hg⟩ := ho enc w spare held n c _ ht
      obtain ⟨_, hlen, hcell⟩ := World.cells?_some hc
      refine ⟨y, ⟨c, hlen.trans he, hk, fun j u hu => ?_⟩, hg⟩
      have hj : j < P.cellsOf e := by rw [← hlen]; exact (List.getElem?_eq_some_iff.1 hu).1
      have := hcell j hj
      rw [Go.Deep.add_add, hu, he] at this
      exact this
    obtain ⟨f, hf⟩ := choose_lt each
    have hlen : ((List.range len).map f).length = len := by simp
    have hm' : len ≤ maxLen := Nat.le_trans hl hm
    refine ⟨(List.range len).map f, ⟨some a, cap, by rw [hlen], by rw [hlen]; exact hl, by rw [hlen], by rw [hlen]; unfold maxLen at hm'; exact hm', fun _ => ⟨a, rfl, fun j p hp => ?_⟩⟩, by rw [hlen]; exact hm', fun y hy => ?_⟩
    · obtain ⟨hj, rfl⟩ := List.getElem?_eq_some_iff.1 hp
      rw [hlen] at hj
      simp only [List.getElem_map, List.getElem_range]
      exact (hf j hj).1
    · obtain ⟨i, hi, rfl⟩ := List.mem_map.1 hy
      exact (hf i (List.mem_range.1 hi)).2

/-- The fields from cell 'off' on. -/
def FOpn {α : Type} (P : Program) (d : Kd α) (off : Nat) (fs : List Field) (G : α → Prop) : Prop :=
  ∀ {H : Type} (enc : TypeId × Value → H) (w : World) (spare : Nat → Bool) (held : Bool) (fuel : Nat) (cs : List Value),
    (∀ f, f ∈ fs → ∃ x, DataW.trod enc P w 0 spare held fuel f.type ((cs.drop f.offset).take (P.cellsOf f.type)) = some x) → cs.length = off + d.sz → ∃ y, d.K w y (cs.drop off) ∧ G y
theorem FOpn.one {α : Type} {P : Program} {d : Kd α} {off : Nat} {f : Field} {G : α → Prop} (hf : f.offset = off) (hc : P.cellsOf f.type = d.sz) (ho : Opn P d f.type G) : FOpn P d off [f] G := by
  intro H enc w spare held fuel cs hx hl
  obtain ⟨x, hx⟩ := hx f (by simp)
  rw [hf, hc, List.take_of_length_le (by simp; omega)] at hx
  exact ho enc w spare held fuel _ x hx
theorem FOpn.cons {α β : Type} {P : Program} {d : Kd α} {d' : Kd β} {off : Nat} {f : Field} {fs : List Field} {G : α → Prop} {G' : β → Prop} (hf : f.offset = off) (hc : P.cellsOf f.type = d.sz) (ho : Opn P d f.type G)
    (hs : FOpn P d' (off + d.sz) fs G') : FOpn P (Kd.pair d d') off (f :: fs) (fun y => G y.1 ∧ G' y.2) := by
  intro H enc w spare held fuel cs hx hl
  have hl' : cs.length = off + (d.sz + d'.sz) := hl
  obtain ⟨x, h1⟩ := hx f (by simp)
  rw [hf, hc] at h1
  obtain ⟨y, hy, gy⟩ := ho enc w spare held fuel _ x h1
  obtain ⟨z, hz, gz⟩ := hs enc w spare held fuel cs (fun g hg => hx g (List.mem_cons_of_mem _ hg)) (by omega)
  refine ⟨(y, z), ⟨_, _, ?_, hy, hz⟩, gy, gz⟩
  rw [← List.drop_drop, List.take_append_drop]
theorem Opn.struct {α β : Type} {P : Program} {d : Kd α} {T : TypeId} {fs : Array Field} {fl : List Field} {G : α → Prop} {G' : β → Prop} {proj : β → α} (mk : α → β) (h : P.underlying T = some (.struct fs)) (hfl : fs.toList = fl) (hc : P.cellsOf T = d.sz)
    (hmk : ∀ y, proj (mk y) = y) (hG : ∀ y, G y → G' (mk y)) (hs : FOpn P d 0 fl G) : Opn P (Kd.iso d proj) T G' := by
  intro H enc w spare held fuel cs x hx
  obtain ⟨xs, n, rfl, _, hlen, hxs, hall⟩ := DataW.trod_struct h hx
  obtain ⟨y, hy, gy⟩ := hs enc w spare held n cs (fun f hf => by
    rw [← hfl] at hf
    obtain ⟨i, hi, he⟩ := List.getElem_of_mem hf
    have hi' : i < fs.size := by simpa using hi
    have h1 : fs[i]? = some f := by rw [Array.getElem?_eq_getElem hi']; simpa using he
    exact ⟨_, (hall i f h1).trans (List.getElem?_eq_getElem (by omega))⟩) (by rw [hlen, hc, Nat.zero_add])
  refine ⟨mk y, ?_, hG y gy⟩
  show d.K w (proj (mk y)) cs
  rw [hmk]
  exact hy

/-- A parameter that is a slice. -/
theorem Opn.arg_slice {α : Type} {P : Program} {d : Kd α} {T e : TypeId} {G : α → Prop} [Inhabited α] (h : P.underlying T = some (.slice e)) (he : P.cellsOf e = d.sz) (ho : Opn P d e G)
    {H : Type} {enc : TypeId × Value → H} {w : World} {spare : Nat → Bool} {held : Bool} {v : Value} {D : DataW H} {ps : List MemPlace} {r : Reach} {b : Nat} (hv : Value.okWide P w r b T v) (hx : DataW.Trod enc P w 0 spare held T v D ps) :
    ∃ (A : Option Addr) (c : Nat) (l : List α), v = .slice A l.length c ∧ l.length ≤ c ∧ d.C w A l.length l ∧ l.length ≤ maxLen ∧ ∀ y, y ∈ l → G y := by
  obtain ⟨a, len, cap, rfl⟩ := okWide_slice h hv
  obtain ⟨fuel, hf⟩ := hx
  obtain ⟨l, ⟨A, c, hcs, hlc, hC⟩, hg1, hg2⟩ := Opn.slice h he ho enc w spare held fuel _ _ hf
  have hcs' : [Value.slice a len cap] = [Value.slice A l.length c] := hcs
  injection hcs' with h1 _
  exact ⟨A, c, l, h1, hlc, hC, hg1, hg2⟩
/-- A parameter that is a struct. -/
theorem Opn.arg_struct {α : Type} {P : Program} {d : Kd α} {T : TypeId} {G : α → Prop} {fs : Array Field} (hu : P.underlying T = some (.struct fs)) (ho : Opn P d T G)
    {H : Type} {enc : TypeId × Value → H} {w : World} {spare : Nat → Bool} {held : Bool} {v : Value} {D : DataW H} {ps : List MemPlace} {r : Reach} {b : Nat} (hv : Value.okWide P w r b T v) (hx : DataW.Trod enc P w 0 spare held T v D ps) :
    ∃ (cs : List Value) (y : α), v = .agg cs.toArray ∧ d.K w y cs ∧ G y := by
  obtain ⟨cs, rfl, _⟩ := okWide_struct hu hv
  obtain ⟨fuel, hf⟩ := hx
  obtain ⟨y, hk, hg⟩ := ho enc w spare held fuel _ _ hf
  exact ⟨cs.toList, y, by simp, hk, hg⟩
end Go.Proofs.YtagbldaiedmikaaDoor.Y

/- Three closed facts of the rows of this seat (how the program may be entered), by the first words of the translation's head row. No conditions. -/
namespace Go.Proofs.YtagbldaiedmikaaDoor.Y
open Go.ChangeShapes Go.WideShapes Go.ChangeAt Go.RowKit
def tailSigns : List Char := [Char.ofNat 108, Char.ofNat 111, Char.ofNat 111, Char.ofNat 112, Char.ofNat 46, Char.ofNat 101, Char.ofNat 120, Char.ofNat 97, Char.ofNat 109, Char.ofNat 112, Char.ofNat 108, Char.ofNat 101, Char.ofNat 47, Char.ofNat 103, Char.ofNat 48, Char.ofNat 48, Char.ofNat 50, Char.ofNat 51, Char.ofNat 51, Char.ofNat 47, Char.ofNat 108, Char.ofNat 97, Char.ofNat 119, Char.ofNat 115, Char.ofNat 46, Char.ofNat 70, Char.ofNat 110, Char.ofNat 69, Char.ofNat 120, Char.ofNat 97, Char.ofNat 99, Char.ofNat 116, Char.ofNat 80, Char.ofNat 97, Char.ofNat 116, Char.ofNat 104, Char.ofNat 79, Char.ofNat 107, Char.ofNat 32, Char.ofNat 108, Char.ofNat 111, Char.ofNat 111, Char.ofNat 112, Char.ofNat 46, Char.ofNat 101, Char.ofNat 120, Char.ofNat 97, Char.ofNat 109, Char.ofNat 112, Char.ofNat 108, Char.ofNat 101, Char.ofNat 47, Char.ofNat 103, Char.ofNat 48, Char.ofNat 48, Char.ofNat 50, Char.ofNat 51, Char.ofNat 51, Char.ofNat 47, Char.ofNat 108, Char.ofNat 97, Char.ofNat 119, Char.ofNat 115, Char.ofNat 46, Char.ofNat 70, Char.ofNat 110, Char.ofNat 69, Char.ofNat 120, Char.ofNat 97, Char.ofNat 99, Char.ofNat 116, Char.ofNat 86, Char.ofNat 101, Char.ofNat 114, Char.ofNat 115, Char.ofNat 105, Char.ofNat 111, Char.ofNat 110, Char.ofNat 79, Char.ofNat 107, Char.ofNat 32, Char.ofNat 108, Char.ofNat 111, Char.ofNat 111, Char.ofNat 112, Char.ofNat 46, Char.ofNat 101, Char.ofNat 120, Char.ofNat 97, Char.ofNat 109, Char.ofNat 112, Char.ofNat 108, Char.ofNat 101, Char.ofNat 47, Char.ofNat 103, Char.ofNat 48, Char.ofNat 48, Char.ofNat 50, Char.ofNat 51, Char.ofNat 51, Char.ofNat 47, Char.ofNat 108, Char.ofNat 97, Char.ofNat 119, Char.ofNat 115, Char.ofNat 46, Char.ofNat 70, Char.ofNat 110, Char.ofNat 69, Char.ofNat 120, Char.ofNat 97, Char.ofNat 99, Char.ofNat 116, Char.ofNat 66, Char.ofNat 117, Char.ofNat 109, Char.ofNat 112, Char.ofNat 32, Char.ofNat 108, Char.ofNat 111, Char.ofNat 111, Char.ofNat 112, Char.ofNat 46, Char.ofNat 101, Char.ofNat 120, Char.ofNat 97, Char.ofNat 109, Char.ofNat 112, Char.ofNat 108, Char.ofNat 101, Char.ofNat 47, Char.ofNat 103, Char.ofNat 48, Char.ofNat 48, Char.ofNat 50, Char.ofNat 51, Char.ofNat 51, Char.ofNat 47, Char.ofNat 108, Char.ofNat 97, Char.ofNat 119, Char.ofNat 115, Char.ofNat 46, Char.ofNat 70, Char.ofNat 110, Char.ofNat 69, Char.ofNat 120, Char.ofNat 97, Char.ofNat 99, Char.ofNat 116, Char.ofNat 76, Char.ofNat 101, Char.ofNat 115, Char.ofNat 115, Char.ofNat 86, Char.ofNat 101, Char.ofNat 114, Char.ofNat 115, Char.ofNat 105, Char.ofNat 111, Char.ofNat 110, Char.ofNat 32, Char.ofNat 108, Char.ofNat 111, Char.ofNat 111, Char.ofNat 112, Char.ofNat 46, Char.ofNat 101, Char.ofNat 120, Char.ofNat 97, Char.ofNat 109, Char.ofNat 112, Char.ofNat 108, Char.ofNat 101, Char.ofNat 47, Char.ofNat 103, Char.ofNat 48, Char.ofNat 48, Char.ofNat 50, Char.ofNat 51, Char.ofNat 51, Char.ofNat 47, Char.ofNat 108, Char.ofNat 97, Char.ofNat 119, Char.ofNat 115, Char.ofNat 46, Char.ofNat 70, Char.ofNat 110, Char.ofNat 80, Char.ofNat 114, Char.ofNat 101, Char.ofNat 32, Char.ofNat 108, Char.ofNat 111, Char.ofNat 111, Char.ofNat 112, Char.ofNat 46, Char.ofNat 101, Char.ofNat 120, Char.ofNat 97, Char.ofNat 109, Char.ofNat 112, Char.ofNat 108, Char.ofNat 101, Char.ofNat 47, Char.ofNat 103, Char.ofNat 48, Char.ofNat 48, Char.ofNat 50, Char.ofNat 51, Char.ofNat 51, Char.ofNat 47, Char.ofNat 108, Char.ofNat 97, Char.ofNat 119, Char.ofNat 115, Char.ofNat 46, Char.ofNat 70, Char.ofNat 110, Char.ofNat 79, Char.ofNat 114, Char.ofNat 100, Char.ofNat 101, Char.ofNat 114, Char.ofNat 32, Char.ofNat 108, Char.ofNat 111, Char.ofNat 111, Char.ofNat 112, Char.ofNat 46, Char.ofNat 101, Char.ofNat 120, Char.ofNat 97, Char.ofNat 109, Char.ofNat 112, Char.ofNat 108, Char.ofNat 101, Char.ofNat 47, Char.ofNat 103, Char.ofNat 48, Char.ofNat 48, Char.ofNat 50, Char.ofNat 51, Char.ofNat 51, Char.ofNat 47, Char.ofNat 108, Char.ofNat 97, Char.ofNat 119, Char.ofNat 115, Char.ofNat 46, Char.ofNat 70, Char.ofNat 110, Char.ofNat 69, Char.ofNat 120, Char.ofNat 97, Char.ofNat 99, Char.ofNat 116, Char.ofNat 76, Char.ofNat 97, Char.ofNat 116, Char.ofNat 101, Char.ofNat 115, Char.ofNat 116, Char.ofNat 32, Char.ofNat 108, Char.ofNat 111, Char.ofNat 111, Char.ofNat 112, Char.ofNat 46, Char.ofNat 101, Char.ofNat 120, Char.ofNat 97, Char.ofNat 109, Char.ofNat 112, Char.ofNat 108, Char.ofNat 101, Char.ofNat 47, Char.ofNat 103, Char.ofNat 48, Char.ofNat 48, Char.ofNat 50, Char.ofNat 51, Char.ofNat 51, Char.ofNat 47, Char.ofNat 108, Char.ofNat 97, Char.ofNat 119, Char.ofNat 115, Char.ofNat 46, Char.ofNat 70, Char.ofNat 110, Char.ofNat 76, Char.ofNat 97, Char.ofNat 116, Char.ofNat 101, Char.ofNat 115, Char.ofNat 116, Char.ofNat 32, Char.ofNat 108, Char.ofNat 111, Char.ofNat 111, Char.ofNat 112, Char.ofNat 46, Char.ofNat 101, Char.ofNat 120, Char.ofNat 97, Char.ofNat 109, Char.ofNat 112, Char.ofNat 108, Char.ofNat 101, Char.ofNat 47, Char.ofNat 103, Char.ofNat 48, Char.ofNat 48, Char.ofNat 50, Char.ofNat 51, Char.ofNat 51, Char.ofNat 47, Char.ofNat 108, Char.ofNat 97, Char.ofNat 119, Char.ofNat 115, Char.ofNat 46, Char.ofNat 70, Char.ofNat 110, Char.ofNat 69, Char.ofNat 120, Char.ofNat 97, Char.ofNat 99, Char.ofNat 116, Char.ofNat 86, Char.ofNat 101, Char.ofNat 114, Char.ofNat 115, Char.ofNat 105, Char.ofNat 111, Char.ofNat 110, Char.ofNat 84, Char.ofNat 101, Char.ofNat 120, Char.ofNat 116, Char.ofNat 32, Char.ofNat 108, Char.ofNat 111, Char.ofNat 111, Char.ofNat 112, Char.ofNat 46, Char.ofNat 101, Char.ofNat 120, Char.ofNat 97, Char.ofNat 109, Char.ofNat 112, Char.ofNat 108, Char.ofNat 101, Char.ofNat 47, Char.ofNat 103, Char.ofNat 48, Char.ofNat 48, Char.ofNat 50, Char.ofNat 51, Char.ofNat 51, Char.ofNat 47, Char.ofNat 108, Char.ofNat 97, Char.ofNat 119, Char.ofNat 115, Char.ofNat 46, Char.ofNat 70, Char.ofNat 110, Char.ofNat 69, Char.ofNat 120, Char.ofNat 97, Char.ofNat 99, Char.ofNat 116, Char.ofNat 77, Char.ofNat 97, Char.ofNat 106, Char.ofNat 111, Char.ofNat 114, Char.ofNat 79, Char.ofNat 102, Char.ofNat 32, Char.ofNat 108, Char.ofNat 111, Char.ofNat 111, Char.ofNat 112, Char.ofNat 46, Char.ofNat 101, Char.ofNat 120, Char.ofNat 97, Char.ofNat 109, Char.ofNat 112, Char.ofNat 108, Char.ofNat 101, Char.ofNat 47, Char.ofNat 103, Char.ofNat 48, Char.ofNat 48, Char.ofNat 50, Char.ofNat 51, Char.ofNat 51, Char.ofNat 47, Char.ofNat 108, Char.ofNat 97, Char.ofNat 119, Char.ofNat 115, Char.ofNat 46, Char.ofNat 70, Char.ofNat 110, Char.ofNat 69, Char.ofNat 120, Char.ofNat 97, Char.ofNat 99, Char.ofNat 116, Char.ofNat 66, Char.ofNat 97, Char.ofNat 115, Char.ofNat 101, Char.ofNat 32, Char.ofNat 108, Char.ofNat 111, Char.ofNat 111, Char.ofNat 112, Char.ofNat 46, Char.ofNat 101, Char.ofNat 120, Char.ofNat 97, Char.ofNat 109, Char.ofNat 112, Char.ofNat 108, Char.ofNat 101, Char.ofNat 47, Char.ofNat 103, Char.ofNat 48, Char.ofNat 48, Char.ofNat 50, Char.ofNat 51, Char.ofNat 51, Char.ofNat 47, Char.ofNat 108, Char.ofNat 97, Char.ofNat 119, Char.ofNat 115, Char.ofNat 46, Char.ofNat 70, Char.ofNat 110, Char.ofNat 69, Char.ofNat 120, Char.ofNat 97, Char.ofNat 99, Char.ofNat 116, Char.ofNat 80, Char.ofNat 97, Char.ofNat 114, Char.ofNat 115, Char.ofNat 101, Char.ofNat 86, Char.ofNat 101, Char.ofNat 114, Char.ofNat 115, Char.ofNat 105, Char.ofNat 111, Char.ofNat 110]
set_option maxRecDepth 100000 in
theorem initOrder_lit : Tryd.pinned.checked.prog.initOrder = "harness 8854c4987ba7e5863879e1c1f3e5572041dc37068018b6f4d5d9faa1d5368be2 cut at loop.example/g00233/laws.FnExactPathOk loop.example/g00233/laws.FnExactVersionOk loop.example/g00233/laws.FnExactBump loop.example/g00233/laws.FnExactLessVersion loop.example/g00233/laws.FnPre loop.example/g00233/laws.FnOrder loop.example/g00233/laws.FnExactLatest loop.example/g00233/laws.FnLatest loop.example/g00233/laws.FnExactVersionText loop.example/g00233/laws.FnExactMajorOf loop.example/g00233/laws.FnExactBase loop.example/g00233/laws.FnExactParseVersion" := by kernel_rfl
set_option maxRecDepth 100000 in
theorem lit_list : ("harness 8854c4987ba7e5863879e1c1f3e5572041dc37068018b6f4d5d9faa1d5368be2 cut at loop.example/g00233/laws.FnExactPathOk loop.example/g00233/laws.FnExactVersionOk loop.example/g00233/laws.FnExactBump loop.example/g00233/laws.FnExactLessVersion loop.example/g00233/laws.FnPre loop.example/g00233/laws.FnOrder loop.example/g00233/laws.FnExactLatest loop.example/g00233/laws.FnLatest loop.example/g00233/laws.FnExactVersionText loop.example/g00233/laws.FnExactMajorOf loop.example/g00233/laws.FnExactBase loop.example/g00233/laws.FnExactParseVersion" : String) = String.ofList (Char.ofNat 104 :: Char.ofNat 97 :: Char.ofNat 114 :: Char.ofNat 110 :: Char.ofNat 101 :: Char.ofNat 115 :: Char.ofNat 115 :: Char.ofNat 32 :: Char.ofNat 56 :: Char.ofNat 56 :: Char.ofNat 53 :: Char.ofNat 52 :: Char.ofNat 99 :: Char.ofNat 52 :: Char.ofNat 57 :: Char.ofNat 56 :: Char.ofNat 55 :: Char.ofNat 98 :: Char.ofNat 97 :: Char.ofNat 55 :: Char.ofNat 101 :: Char.ofNat 53 :: Char.ofNat 56 :: Char.ofNat 54 :: Char.ofNat 51 :: Char.ofNat 56 :: Char.ofNat 55 :: Char.ofNat 57 :: Char.ofNat 101 :: Char.ofNat 49 :: Char.ofNat 99 :: Char.ofNat 49 :: Char.ofNat 102 :: Char.ofNat 51 :: Char.ofNat 101 :: Char.ofNat 53 :: Char.ofNat 53 :: Char.ofNat 55 :: Char.ofNat 50 :: Char.ofNat 48 :: Char.ofNat 52 :: Char.ofNat 49 :: Char.ofNat 100 :: Char.ofNat 99 :: Char.ofNat 51 :: Char.ofNat 55 :: Char.ofNat 48 :: Char.ofNat 54 :: Char.ofNat 56 :: Char.ofNat 48 :: Char.ofNat 49 :: Char.ofNat 56 :: Char.ofNat 98 :: Char.ofNat 54 :: Char.ofNat 102 :: Char.ofNat 52 :: Char.ofNat 100 :: Char.ofNat 53 :: Char.ofNat 100 :: Char.ofNat 57 :: Char.ofNat 102 :: Char.ofNat 97 :: Char.ofNat 97 :: Char.ofNat 49 :: Char.ofNat 100 :: Char.ofNat 53 :: Char.ofNat 51 :: Char.ofNat 54 :: Char.ofNat 56 :: Char.ofNat 98 :: Char.ofNat 101 :: Char.ofNat 50 :: Char.ofNat 32 :: Char.ofNat 99 :: Char.ofNat 117 :: Char.ofNat 116 :: Char.ofNat 32 :: Char.ofNat 97 :: Char.ofNat 116 :: Char.ofNat 32 :: tailSigns) := by kernel_rfl
theorem initOrder_list : Tryd.pinned.checked.prog.initOrder.toList = Char.ofNat 104 :: Char.ofNat 97 :: Char.ofNat 114 :: Char.ofNat 110 :: Char.ofNat 101 :: Char.ofNat 115 :: Char.ofNat 115 :: Char.ofNat 32 :: Char.ofNat 56 :: Char.ofNat 56 :: Char.ofNat 53 :: Char.ofNat 52 :: Char.ofNat 99 :: Char.ofNat 52 :: Char.ofNat 57 :: Char.ofNat 56 :: Char.ofNat 55 :: Char.ofNat 98 :: Char.ofNat 97 :: Char.ofNat 55 :: Char.ofNat 101 :: Char.ofNat 53 :: Char.ofNat 56 :: Char.ofNat 54 :: Char.ofNat 51 :: Char.ofNat 56 :: Char.ofNat 55 :: Char.ofNat 57 :: Char.ofNat 101 :: Char.ofNat 49 :: Char.ofNat 99 :: Char.ofNat 49 :: Char.ofNat 102 :: Char.ofNat 51 :: Char.ofNat 101 :: Char.ofNat 53 :: Char.ofNat 53 :: Char.ofNat 55 :: Char.ofNat 50 :: Char.ofNat 48 :: Char.ofNat 52 :: Char.ofNat 49 :: Char.ofNat 100 :: Char.ofNat 99 :: Char.ofNat 51 :: Char.ofNat 55 :: Char.ofNat 48 :: Char.ofNat 54 :: Char.ofNat 56 :: Char.ofNat 48 :: Char.ofNat 49 :: Char.ofNat 56 :: Char.ofNat 98 :: Char.ofNat 54 :: Char.ofNat 102 :: Char.ofNat 52 :: Char.ofNat 100 :: Char.ofNat 53 :: Char.ofNat 100 :: Char.ofNat 57 :: Char.ofNat 102 :: Char.ofNat 97 :: Char.ofNat 97 :: Char.ofNat 49 :: Char.ofNat 100 :: Char.ofNat 53 :: Char.ofNat 51 :: Char.ofNat 54 :: Char.ofNat 56 :: Char.ofNat 98 :: Char.ofNat 101 :: Char.ofNat 50 :: Char.ofNat 32 :: Char.ofNat 99 :: Char.ofNat 117 :: Char.ofNat 116 :: Char.ofNat 32 :: Char.ofNat 97 :: Char.ofNat 116 :: Char.ofNat 32 :: tailSigns := (congrArg String.toList (initOrder_lit.trans lit_list)).trans String.toList_ofList
theorem words_at (r : List Char) : wordsSigns (Char.ofNat 104 :: Char.ofNat 97 :: Char.ofNat 114 :: Char.ofNat 110 :: Char.ofNat 101 :: Char.ofNat 115 :: Char.ofNat 115 :: Char.ofNat 32 :: Char.ofNat 56 :: Char.ofNat 56 :: Char.ofNat 53 :: Char.ofNat 52 :: Char.ofNat 99 :: Char.ofNat 52 :: Char.ofNat 57 :: Char.ofNat 56 :: Char.ofNat 55 :: Char.ofNat 98 :: Char.ofNat 97 :: Char.ofNat 55 :: Char.ofNat 101 :: Char.ofNat 53 :: Char.ofNat 56 :: Char.ofNat 54 :: Char.ofNat 51 :: Char.ofNat 56 :: Char.ofNat 55 :: Char.ofNat 57 :: Char.ofNat 101 :: Char.ofNat 49 :: Char.ofNat 99 :: Char.ofNat 49 :: Char.ofNat 102 :: Char.ofNat 51 :: Char.ofNat 101 :: Char.ofNat 53 :: Char.ofNat 53 :: Char.ofNat 55 :: Char.ofNat 50 :: Char.ofNat 48 :: Char.ofNat 52 :: Char.ofNat 49 :: Char.ofNat 100 :: Char.ofNat 99 :: Char.ofNat 51 :: Char.ofNat 55 :: Char.ofNat 48 :: Char.ofNat 54 :: Char.ofNat 56 :: Char.ofNat 48 :: Char.ofNat 49 :: Char.ofNat 56 :: Char.ofNat 98 :: Char.ofNat 54 :: Char.ofNat 102 :: Char.ofNat 52 :: Char.ofNat 100 :: Char.ofNat 53 :: Char.ofNat 100 :: Char.ofNat 57 :: Char.ofNat 102 :: Char.ofNat 97 :: Char.ofNat 97 :: Char.ofNat 49 :: Char.ofNat 100 :: Char.ofNat 53 :: Char.ofNat 51 :: Char.ofNat 54 :: Char.ofNat 56 :: Char.ofNat 98 :: Char.ofNat 101 :: Char.ofNat 50 :: Char.ofNat 32 :: Char.ofNat 99 :: Char.ofNat 117 :: Char.ofNat 116 :: Char.ofNat 32 :: Char.ofNat 97 :: Char.ofNat 116 :: Char.ofNat 32 :: r) = [Char.ofNat 104, Char.ofNat 97, Char.ofNat 114, Char.ofNat 110, Char.ofNat 101, Char.ofNat 115, Char.ofNat 115] :: [Char.ofNat 56, Char.ofNat 56, Char.ofNat 53, Char.ofNat 52, Char.ofNat 99, Char.ofNat 52, Char.ofNat 57, Char.ofNat 56, Char.ofNat 55, Char.ofNat 98, Char.ofNat 97, Char.ofNat 55, Char.ofNat 101, Char.ofNat 53, Char.ofNat 56, Char.ofNat 54, Char.ofNat 51, Char.ofNat 56, Char.ofNat 55, Char.ofNat 57, Char.ofNat 101, Char.ofNat 49, Char.ofNat 99, Char.ofNat 49, Char.ofNat 102, Char.ofNat 51, Char.ofNat 101, Char.ofNat 53, Char.ofNat 53, Char.ofNat 55, Char.ofNat 50, Char.ofNat 48, Char.ofNat 52, Char.ofNat 49, Char.ofNat 100, Char.ofNat 99, Char.ofNat 51, Char.ofNat 55, Char.ofNat 48, Char.ofNat 54, Char.ofNat 56, Char.ofNat 48, Char.ofNat 49, Char.ofNat 56, Char.ofNat 98, Char.ofNat 54, Char.ofNat 102, Char.ofNat 52, Char.ofNat 100, Char.ofNat 53, Char.ofNat 100, Char.ofNat 57, Char.ofNat 102, Char.ofNat 97, Char.ofNat 97, Char.ofNat 49, Char.ofNat 100, Char.ofNat 53, Char.ofNat 51, Char.ofNat 54, Char.ofNat 56, Char.ofNat 98, Char.ofNat 101, Char.ofNat 50] :: [Char.ofNat 99, Char.ofNat 117, Char.ofNat 116] :: [Char.ofNat 97, Char.ofNat 116] :: wordsSigns r := by kernel_rfl
theorem behind_at (t : List (List Char)) : behindMainWord ([Char.ofNat 104, Char.ofNat 97, Char.ofNat 114, Char.ofNat 110, Char.ofNat 101, Char.ofNat 115, Char.ofNat 115] :: [Char.ofNat 56, Char.ofNat 56, Char.ofNat 53, Char.ofNat 52, Char.ofNat 99, Char.ofNat 52, Char.ofNat 57, Char.ofNat 56, Char.ofNat 55, Char.ofNat 98, Char.ofNat 97, Char.ofNat 55, Char.ofNat 101, Char.ofNat 53, Char.ofNat 56, Char.ofNat 54, Char.ofNat 51, Char.ofNat 56, Char.ofNat 55, Char.ofNat 57, Char.ofNat 101, Char.ofNat 49, Char.ofNat 99, Char.ofNat 49, Char.ofNat 102, Char.ofNat 51, Char.ofNat 101, Char.ofNat 53, Char.ofNat 53, Char.ofNat 55, Char.ofNat 50, Char.ofNat 48, Char.ofNat 52, Char.ofNat 49, Char.ofNat 100, Char.ofNat 99, Char.ofNat 51, Char.ofNat 55, Char.ofNat 48, Char.ofNat 54, Char.ofNat 56, Char.ofNat 48, Char.ofNat 49, Char.ofNat 56, Char.ofNat 98, Char.ofNat 54, Char.ofNat 102, Char.ofNat 52, Char.ofNat 100, Char.ofNat 53, Char.ofNat 100, Char.ofNat 57, Char.ofNat 102, Char.ofNat 97, Char.ofNat 97, Char.ofNat 49, Char.ofNat 100, Char.ofNat 53, Char.ofNat 51, Char.ofNat 54, Char.ofNat 56, Char.ofNat 98, Char.ofNat 101, Char.ofNat 50] :: [Char.ofNat 99, Char.ofNat 117, Char.ofNat 116] :: [Char.ofNat 97, Char.ofNat 116] :: t) = [Char.ofNat 99, Char.ofNat 117, Char.ofNat 116] :: [Char.ofNat 97, Char.ofNat 116] :: t := by kernel_rfl
theorem behind_all : behindMainWord (wordsSigns Tryd.pinned.checked.prog.initOrder.toList) = [Char.ofNat 99, Char.ofNat 117, Char.ofNat 116] :: [Char.ofNat 97, Char.ofNat 116] :: wordsSigns tailSigns := by rw [initOrder_list, words_at, behind_at]
theorem make_of (c : List Char) (rest : List (List Char)) (P : Program) (h0 : (c == "gc".toList) = false) (h1 : (c == "spec".toList) = false) (h2 : (c == "cut".toList) = true) (h : behindMainWord (wordsSigns P.initOrder.toList) = c :: rest) : P.make = some .cut := by
  unfold Program.make
  rw [h]
  simp only [h0, h1, h2]
  rfl
theorem mayEnter_of (c : List Char) (rest : List (List Char)) (P : Program) (h0 : (c == "gc".toList) = false) (h1 : (c == "spec".toList) = false) (h2 : (c == "carried".toList) = false) (h : behindMainWord (wordsSigns P.initOrder.toList) = c :: rest)
    (h3 : ((stripLifts liftWords (c :: rest)).2.head? == some "cut".toList) = true) (h4 : P.laysLater = false) (h5 : P.bearsReflect = false) (h6 : P.doorFits (stripLifts liftWords (c :: rest)).1 = true) (h7 : (stripLifts liftWords (c :: rest)).1.contains "leanrows" = false) : P.mayEnter = true := by
  unfold Program.mayEnter
  rw [h]
  simp only [h0, h1, h2, h3, h4, h5, h6, h7]
  simp
theorem liftsFinal_of (c : List Char) (rest : List (List Char)) (P : Program) (h2 : (some c == some "carried".toList) = false) (h : behindMainWord (wordsSigns P.initOrder.toList) = c :: rest)
    (h3 : ((stripLifts liftWords (c :: rest)).2.head? == some "cut".toList) = true) (h7 : (stripLifts liftWords (c :: rest)).1.contains "finals" = false) : P.liftsFinal = false := by
  unfold Program.liftsFinal Program.headLifts
  rw [h]
  simp only [List.head?_cons, h2, h3, if_true, h7, Bool.false_and, Bool.or_self]
theorem strip_at (t : List (List Char)) : stripLifts liftWords ([Char.ofNat 99, Char.ofNat 117, Char.ofNat 116] :: [Char.ofNat 97, Char.ofNat 116] :: t) = ([], [Char.ofNat 99, Char.ofNat 117, Char.ofNat 116] :: [Char.ofNat 97, Char.ofNat 116] :: t) := by kernel_rfl
theorem laysLater_at : Tryd.pinned.checked.prog.laysLater = false := by kernel_rfl
theorem bearsReflect_at : Tryd.pinned.checked.prog.bearsReflect = false := by kernel_rfl
theorem doorFits_at : Tryd.pinned.checked.prog.doorFits [] = true := by kernel_rfl
theorem mayEnter_at : Tryd.pinned.checked.prog.mayEnter = true :=
  mayEnter_of _ _ _ (by kernel_rfl) (by kernel_rfl) (by kernel_rfl) behind_all (by rw [strip_at]; generalize wordsSigns tailSigns = t; kernel_rfl) laysLater_at bearsReflect_at (by rw [strip_at]; exact doorFits_at) (by rw [strip_at]; rfl)
theorem liftsFinal_at : Tryd.pinned.checked.prog.liftsFinal = false :=
  liftsFinal_of _ _ _ (by kernel_rfl) behind_all (by rw [strip_at]; generalize wordsSigns tailSigns = t; kernel_rfl) (by rw [strip_at]; rfl)
theorem make_at : Tryd.pinned.checked.prog.make = some .cut := make_of _ _ _ (by kernel_rfl) (by kernel_rfl) (by kernel_rfl) behind_all
end Go.Proofs.YtagbldaiedmikaaDoor.Y

/- A world for the witnesses: the settled one, the listed tables holding what their initialisers lay. No conditions. -/
namespace Go.Proofs.YtagbldaiedmikaaDoor.Y
open Go.ChangeShapes Go.WideShapes Go.ChangeAt Go.RowKit
noncomputable def laidWorld (os : Os) : World :=
  { World.holding Tryd.prog os ⟨#[], #[], []⟩ with heap := ((((((((((World.holding Tryd.prog os ⟨#[], #[], []⟩).heap).modify 1 (fun o => match o with | .cells _ t z => .cells #[Value.int .u64 1, Value.int .u64 10, Value.int .u64 100, Value.int .u64 1000, Value.int .u64 10000, Value.int .u64 100000, Value.int .u64 1000000, Value.int .u64 10000000, Value.int .u64 100000000, Value.int .u64 1000000000, Value.int .u64 10000000000, Value.int .u64 100000000000, Value.int .u64 1000000000000, Value.int .u64 10000000000000, Value.int .u64 100000000000000, Value.int .u64 1000000000000000, Value.int .u64 10000000000000000, Value.int .u64 100000000000000000, Value.int .u64 1000000000000000000, Value.int .u64 10000000000000000000] t z | o => o)).modify 4 (fun o => match o with | .cells _ t z => .cells ((Go.Pinned.utf8FirstZ.map fun (n : Nat) => Value.int .u8 (n : Int)).toArray) t z | o => o)).modify 5 (fun o => match o with | .cells _ t z => .cells #[Value.int .u8 128, Value.int .u8 191, Value.int .u8 160, Value.int .u8 191, Value.int .u8 128, Value.int .u8 159, Value.int .u8 144, Value.int .u8 191, Value.int .u8 128, Value.int .u8 143, Value.int .u8 0, Value.int .u8 0, Value.int .u8 0, Value.int .u8 0, Value.int .u8 0, Value.int .u8 0, Value.int .u8 0, Value.int .u8 0, Value.int .u8 0, Value.int .u8 0, Value.int .u8 0, Value.int .u8 0, Value.int .u8 0, Value.int .u8 0, Value.int .u8 0, Value.int .u8 0, Value.int .u8 0, Value.int .u8 0, Value.int .u8 0, Value.int .u8 0, Value.int .u8 0, Value.int .u8 0] t z | o => o)).modify 6 (fun o => match o with | .cells _ t z => .cells #[Value.int .u8 0, Value.int .u8 1, Value.int .u8 28, Value.int .u8 2, Value.int .u8 29, Value.int .u8 14, Value.int .u8 24, Value.int .u8 3, Value.int .u8 30, Value.int .u8 22, Value.int .u8 20, Value.int .u8 15, Value.int .u8 25, Value.int .u8 17, Value.int .u8 4, Value.int .u8 8, Value.int .u8 31, Value.int .u8 27, Value.int .u8 13, Value.int .u8 23, Value.int .u8 21, Value.int .u8 19, Value.int .u8 16, Value.int .u8 7, Value.int .u8 26, Value.int .u8 12, Value.int .u8 18, Value.int .u8 6, Value.int .u8 11, Value.int .u8 5, Value.int .u8 10, Value.int .u8 9] t z | o => o)).modify 7 (fun o => match o with | .cells _ t z => .cells #[Value.int .u8 0, Value.int .u8 1, Value.int .u8 56, Value.int .u8 2, Value.int .u8 57, Value.int .u8 49, Value.int .u8 28, Value.int .u8 3, Value.int .u8 61, Value.int .u8 58, Value.int .u8 42, Value.int .u8 50, Value.int .u8 38, Value.int .u8 29, Value.int .u8 17, Value.int .u8 4, Value.int .u8 62, Value.int .u8 47, Value.int .u8 59, Value.int .u8 36, Value.int .u8 45, Value.int .u8 43, Value.int .u8 51, Value.int .u8 22, Value.int .u8 53, Value.int .u8 39, Value.int .u8 33, Value.int .u8 30, Value.int .u8 24, Value.int .u8 18, Value.int .u8 12, Value.int .u8 5, Value.int .u8 63, Value.int .u8 55, Value.int .u8 48, Value.int .u8 27, Value.int .u8 60, Value.int .u8 41, Value.int .u8 37, Value.int .u8 16, Value.int .u8 46, Value.int .u8 35, Value.int .u8 44, Value.int .u8 21, Value.int .u8 52, Value.int .u8 32, Value.int .u8 23, Value.int .u8 11, Value.int .u8 54, Value.int .u8 26, Value.int .u8 40, Value.int .u8 15, Value.int .u8 34, Value.int .u8 20, Value.int .u8 31, Value.int .u8 10, Value.int .u8 25, Value.int .u8 14, Value.int .u8 19, Value.int .u8 9, Value.int .u8 13, Value.int .u8 8, Value.int .u8 7, Value.int .u8 6] t z | o => o)).modify 2 (fun o => match o with | .cells _ t z => .cells #[Value.iface 130 (.pointer (some ⟨(World.holding Tryd.prog os ⟨#[], #[], []⟩).heap.size + 0, 0, none⟩))] t z | o => o)).push (.cells #[Value.string ⟨#[105, 110, 118, 97, 108, 105, 100, 32, 115, 121, 110, 116, 97, 120]⟩] 132 (0, 0))).modify 3 (fun o => match o with | .cells _ t z => .cells #[Value.iface 130 (.pointer (some ⟨(World.holding Tryd.prog os ⟨#[], #[], []⟩).heap.size + 1, 0, none⟩))] t z | o => o)).push (.cells #[Value.string ⟨#[118, 97, 108, 117, 101, 32, 111, 117, 116, 32, 111, 102, 32, 114, 97, 110, 103, 101]⟩] 132 (0, 0)) }
end Go.Proofs.YtagbldaiedmikaaDoor.Y
