/- The law FnExactEntryOk, as a plain statement: the program's EntryOk answers as the reference's. Conditions: those of the row's reading alone. -/
/- Part 10 of 11 of this claim's texts. -/
import Derived.Deep.Slices
import Derived.ChangeArms
import Derived.WideShapes
import Derived.DataReads
import Derived.Test.YtkofdkinaahbpaaDoorRows
import Derived.WalkKit
import Derived.ProofKit
import Derived.Test.YtkofdkinaahbpaaDoorCFnExactEntryOk0
import Derived.Test.YtkofdkinaahbpaaDoorCFnExactEntryOk1
import Derived.Test.YtkofdkinaahbpaaDoorCFnExactEntryOk2
import Derived.Test.YtkofdkinaahbpaaDoorCFnExactEntryOk3
import Derived.Test.YtkofdkinaahbpaaDoorCFnExactEntryOk4
import Derived.Test.YtkofdkinaahbpaaDoorCFnExactEntryOk5
import Derived.Test.YtkofdkinaahbpaaDoorCFnExactEntryOk6
import Derived.Test.YtkofdkinaahbpaaDoorCFnExactEntryOk7
import Derived.Test.YtkofdkinaahbpaaDoorCFnExactEntryOk8
/- A path's number, the program's way and the reference's: the same. Plain lemmas. -/
set_option linter.unusedVariables false
namespace Go.Proofs.YtkofdkinaahbpaaDoor.Z
open Go.RowKit Go.Proofs.YtkofdkinaahbpaaDoorW.PrintWords Go.Proofs.YtkofdkinaahbpaaDoorW.PrintMore Go.Proofs.YtkofdkinaahbpaaDoor.X Go.Proofs.YtkofdkinaahbpaaDoor.Sp
theorem w64p1 (a : Nat) (h : a ≤ 2000000) : wrap64 ((a : Int) + 1) = ((a + 1 : Nat) : Int) := by rw [w64 (by omega)]; omega
theorem w64p2 (a : Nat) (h : a ≤ 2000000) : wrap64 ((a : Int) + 2) = ((a + 2 : Nat) : Int) := by rw [w64 (by omega)]; omega
set_option maxHeartbeats 1000000 in
theorem major_both (s : ByteArray) (hs : s.size ≤ 1048576) (hp : ∀ x ∈ pieces 47 s, 1 ≤ x.size) : ∃ (n : Int) (base : ByteArray), Ev (fun k => impl_cutMajor.f k s) (base, if n = 0 then 1 else n) ∧ Ev (fun k => spec_l4Major.f k s) n ∧
    (n = 0 ∧ base = s ∨ 2 ≤ n ∧ n ≤ 1000 ∧ ∃ (t : ByteArray) (a : Nat), num t = true ∧ n = ((val t.data.toList : Nat) : Int) ∧ base = s.extract 0 a ∧ s.size = a + 2 + t.size) := by
  have hL := last_ev s hs 47
  have hS : Ev (fun k => spec_l3Split.f k s 47) (pieces 47 s) := split_spec s hs 47
  have hcount := pieces_count 47 s
  have hlen1 : 1 ≤ (pieces 47 s).length := by rw [pieces_length]; omega
  have ew : wrap64 (((pieces 47 s).length : Int) - 1) = (((pieces 47 s).length - 1 : Nat) : Int) := by rw [w64 (by omega)]; omega
  rcases pcs_last 47 s.data.toList with ⟨h1, h2⟩ | ⟨a, b, h1, h2, h3, h4⟩
  · refine ⟨0, s, ?_, ?_, .inl ⟨rfl, rfl⟩⟩
    · unfold impl_cutMajor.f
      refine evB hL ?_
      rw [h1]
      refine evT (by omega) ?_
      refine evS (fun k => by rw [impl_cutMajor.j0]) ?_
      exact evT rfl (evR rfl)
    · unfold spec_l4Major.f
      refine evB hS ?_
      have hl : (pieces 47 s).length = 1 := by rw [pieces_toB, h2]; rfl
      rw [ew]
      refine evT (by omega) (evT (by omega) (evT (by omega) ?_))
      refine evS (fun k => by rw [spec_l4Major.j0]) ?_
      exact evT rfl (evR rfl)
  · have EW := Aside0.mk ew
    have H2 := Aside0.mk h2
    clear ew h2
    have hsz : s.size = a.length + 1 + b.length := by rw [← data_length, h1]; simp; omega
    have hl2 : 2 ≤ (pieces 47 s).length := by rw [pieces_toB, List.length_map]; exact h4
    have hlast : rdOf ByteArray.empty (pieces 47 s) (((pieces 47 s).length - 1 : Nat) : Int) = toB b := by
      have g := rdOf_get (d := ByteArray.empty) (l := pieces 47 s) (i := (pieces 47 s).length - 1) (by omega)
      rw [← List.getLast?_eq_getElem?, pieces_toB, List.getLast?_map, h3] at g
      exact (Option.some.inj g).symm
    have hb1 : 1 ≤ b.length := by
      have := hp _ (rdOf_mem (l := pieces 47 s) (i := (pieces 47 s).length - 1) (by omega))
      rw [hlast, toB_size] at this
      exact this
    obtain ⟨x, y, hb⟩ : ∃ x y, b = x :: y := by
      cases b with
      | nil => simp at hb1
      | cons x y => exact ⟨x, y, rfl⟩
    subst hb
    have hsz' : s.size = a.length + 2 + y.length := by rw [List.length_cons] at hsz; omega
    have hy : (toB y).size ≤ 1048576 := by rw [toB_size]; omega
    have w1 := w64p1 a.length (by omega)
    have w2 := w64p2 a.length (by omega)
    have W1 := Aside0.mk w1
    have W2 := Aside0.mk w2
    clear w1 w2
    have hbt : bt s ((a.length + 1 : Nat) : Int) = (x.toNat : Int) := by
      have hlt : a.length + 1 < s.size := by rw [List.length_cons] at hsz; omega
      have hl' : a.length + 1 < s.data.toList.length := by rw [data_length]; exact hlt
      have h5 : s.data.toList[a.length + 1]? = some x := by
        rw [h1, List.getElem?_append_right (by omega), show a.length + 1 - a.length = 1 by omega]
        rfl
      rw [List.getElem?_eq_getElem hl'] at h5
      rw [byte_at s (a.length + 1) hlt]
      exact congrArg (fun u : UInt8 => (u.toNat : Int)) (Option.some.inj h5)
    have hbl : bt (toB (x :: y)) 0 = (x.toNat : Int) := by
      have h6 := byte_at (toB (x :: y)) 0 (by rw [toB_size]; simp)
      have h7 : (toB (x :: y)).data.toList[0]? = some x := by rw [toB_data]; rfl
      rw [List.getElem?_eq_getElem (by rw [toB_data]; simp)] at h7
      exact h6.trans (congrArg (fun u : UInt8 => (u.toNat : Int)) (Option.some.inj h7))
    have ht1 : s.extract (a.length + 2) s.size = toB y := by
      rw [ext_end]
      refine congrArg toB ?_
      rw [h1, List.drop_append, List.drop_eq_nil_of_le (by omega), show a.length + 2 - a.length = 2 by omega]
      rfl
    have ht2 : (toB (x :: y)).extract 1 (toB (x :: y)).size = toB y := by
      rw [ext_end, toB_data]
      rfl
    have HBT := Aside0.mk hbt
    have HBL := Aside0.mk hbl
    clear hbt hbl
    have hne : ¬ (toB (x :: y)).toList = ([] : List UInt8) := by rw [tl, toB_data]; simp
    have hz2 : 0 < ((toB (x :: y)).size : Int) := by rw [toB_size, List.length_cons]; omega
    by_cases hx : (x.toNat : Int) = 118
    · have hxb : ((x.toNat : Int) != 118) = false := bne_eq_false_iff_eq.2 hx
      have hN := numberOf_ev (toB y) hy 4 (by omega)
      have hSn := numS_spec (toB y) hy
      by_cases hr : 2 ≤ numS (toB y) ∧ numS (toB y) ≤ 1000
      · have hsh : short (toB y) = true := (numS_pos _).1 (by omega)
        have hv := Aside0.mk (numS_val hsh)
        have hn : num (toB y) = true := by unfold short at hsh; simp at hsh; exact hsh.1
        have h4' : ((toB y).size : Int) ≤ 4 := by
          have := small4 hsh (by rw [← hv.out]; exact hr.2)
          omega
        rw [if_pos ⟨hn, h4'⟩] at hN
        refine ⟨numS (toB y), s.extract 0 a.length, ?_, ?_, .inr ⟨hr.1, hr.2, toB y, a.length, hn, hv.out, rfl, by rw [toB_size]; exact hsz'⟩⟩
        · rw [if_neg (by omega)]
          unfold impl_cutMajor.f
          refine evB hL ?_
          rw [H2.out, W1.out, HBT.out, hxb]
          refine evF (by omega) (evT (by omega) (evT (by omega) ?_))
          refine evS (fun k => by rw [impl_cutMajor.j0]) ?_
          rw [W2.out, show ((a.length + 2 : Nat) : Int).toNat = a.length + 2 by omega, ht1, show ((a.length : Nat) : Int).toNat = a.length by omega]
          refine evF Bool.false_ne_true (evT (by omega) (evT (by omega) (evB hN (evT rfl (evC (rng_impl _ _ _) ?_)))))
          refine evT (decide_eq_true (by rw [← hv.out]; exact hr)) (evT (by omega) (evT (by omega) (evR ?_)))
          rw [hv.out]
        · unfold spec_l4Major.f
          refine evB hS ?_
          rw [EW.out, hlast]
          refine evT (by omega) (evT (by omega) (evF (by omega) (evF hne (evT hz2 ?_))))
          rw [HBL.out, hxb]
          refine evS (fun k => by rw [spec_l4Major.j0]) ?_
          rw [ht2]
          refine evF Bool.false_ne_true (evT (by omega) (evB hSn (evC (rng_spec _ _ _) ?_)))
          exact evT (decide_eq_true hr) (evR rfl)
      · refine ⟨0, s, ?_, ?_, .inl ⟨rfl, rfl⟩⟩
        · unfold impl_cutMajor.f
          refine evB hL ?_
          rw [H2.out, W1.out, HBT.out, hxb]
          refine evF (by omega) (evT (by omega) (evT (by omega) ?_))
          refine evS (fun k => by rw [impl_cutMajor.j0]) ?_
          rw [W2.out, show ((a.length + 2 : Nat) : Int).toNat = a.length + 2 by omega, ht1]
          refine evF Bool.false_ne_true (evT (by omega) (evT (by omega) (evB hN ?_)))
          by_cases hc : num (toB y) = true ∧ ((toB y).size : Int) ≤ 4
          · rw [if_pos hc]
            have hsh : short (toB y) = true := by unfold short; rw [hc.1, decide_eq_true (show (toB y).size ≤ 8 by omega)]; try rfl
            refine evT rfl (evC (rng_impl _ _ _) (evF ?_ (evR rfl)))
            intro e
            have := of_decide_eq_true e
            rw [← numS_val hsh] at this
            exact hr this
          · rw [if_neg hc]
            exact evF Bool.false_ne_true (evR rfl)
        · unfold spec_l4Major.f
          refine evB hS ?_
          rw [EW.out, hlast]
          refine evT (by omega) (evT (by omega) (evF (by omega) (evF hne (evT hz2 ?_))))
          rw [HBL.out, hxb]
          refine evS (fun k => by rw [spec_l4Major.j0]) ?_
          rw [ht2]
          refine evF Bool.false_ne_true (evT (by omega) (evB hSn (evC (rng_spec _ _ _) ?_)))
          exact evF (fun e => hr (of_decide_eq_true e)) (evR rfl)
    · have hxb : ((x.toNat : Int) != 118) = true := bne_iff_ne.2 hx
      refine ⟨0, s, ?_, ?_, .inl ⟨rfl, rfl⟩⟩
      · unfold impl_cutMajor.f
        refine evB hL ?_
        rw [H2.out, W1.out, HBT.out, hxb]
        refine evF (by omega) (evT (by omega) (evT (by omega) ?_))
        refine evS (fun k => by rw [impl_cutMajor.j0]) ?_
        exact evT rfl (evR rfl)
      · unfold spec_l4Major.f
        refine evB hS ?_
        rw [EW.out, hlast]
        refine evT (by omega) (evT (by omega) (evF (by omega) (evF hne (evT hz2 ?_))))
        rw [HBL.out, hxb]
        refine evS (fun k => by rw [spec_l4Major.j0]) ?_
        exact evT rfl (evR rfl)
end Go.Proofs.YtkofdkinaahbpaaDoor.Z

/- A path's number and base, the program's and the reference's functions: the same. Plain lemmas. -/
set_option linter.unusedVariables false
namespace Go.Proofs.YtkofdkinaahbpaaDoor.Z
open Go.RowKit Go.Proofs.YtkofdkinaahbpaaDoorW.PrintWords Go.Proofs.YtkofdkinaahbpaaDoorW.PrintMore Go.Proofs.YtkofdkinaahbpaaDoor.X Go.Proofs.YtkofdkinaahbpaaDoor.Sp
theorem maj_both (s : ByteArray) (hs : s.size ≤ 1048576) : ∃ m : Int, Ev (fun k => impl_MajorOf.f k s) m ∧ Ev (fun k => spec_MajorOf.f k s) m ∧ 0 ≤ m ∧ m ≤ 1000 := by
  obtain ⟨r, h1, h2, h3⟩ := pathOk_both s hs
  cases r with
  | false =>
    refine ⟨0, ?_, ?_, by omega, by omega⟩
    · unfold impl_MajorOf.f
      exact evB h1 (evF Bool.false_ne_true (evR rfl))
    · unfold spec_MajorOf.f
      exact evB h2 (evF Bool.false_ne_true (evR rfl))
  | true =>
    obtain ⟨n, base, m1, m2, hn⟩ := major_both s hs (h3 rfl)
    refine ⟨if n = 0 then 1 else n, ?_, ?_, ?_, ?_⟩
    · unfold impl_MajorOf.f
      exact evB h1 (evT rfl (evB m1 (evR rfl)))
    · unfold spec_MajorOf.f
      refine evB h2 (evT rfl (evB m2 ?_))
      by_cases h0 : n = 0
      · exact evT h0 (evR (by rw [if_pos h0]))
      · exact evF h0 (evR (by rw [if_neg h0]))
    · split <;> omega
    · split <;> omega
end Go.Proofs.YtkofdkinaahbpaaDoor.Z

/- Right versions, the program's and the reference's: the same. Plain lemmas. -/
set_option linter.unusedVariables false
namespace Go.Proofs.YtkofdkinaahbpaaDoor.Z
open Go.RowKit Go.Proofs.YtkofdkinaahbpaaDoorW.PrintWords Go.Proofs.YtkofdkinaahbpaaDoorW.PrintMore Go.Proofs.YtkofdkinaahbpaaDoor.X Go.Proofs.YtkofdkinaahbpaaDoor.Sp
/-- A sign of a part. -/
def pch (b : Int) : Prop := (97 ≤ b ∧ b ≤ 122) ∨ (65 ≤ b ∧ b ≤ 90) ∨ (48 ≤ b ∧ b ≤ 57) ∨ b = 45
instance (b : Int) : Decidable (pch b) := by unfold pch; infer_instance
def pchU (u : UInt8) : Bool := decide (pch (u.toNat : Int))
theorem ev_fig {b : Int} {A : Nat → Option Bool} {r : Bool} (H : (48 ≤ b ∧ b ≤ 57) ∨ b = 45 → Ev A r) (H' : ¬ ((48 ≤ b ∧ b ≤ 57) ∨ b = 45) → r = false) :
    Ev (fun k => (impl_isFigure.f b).bind fun t => if t = true then A k else if b = 45 then A k else some false) r := by
  refine evC (figure_ev b) ?_
  by_cases h : 48 ≤ b ∧ b ≤ 57
  · exact evT (decide_eq_true h) (H (.inl h))
  · refine evF (by simpa using h) ?_
    by_cases h2 : b = 45
    · exact evT h2 (H (.inr h2))
    · exact evF h2 (evR (H' (fun e => e.elim h h2)).symm)
theorem ev_sign {b : Int} {A : Nat → Option Bool} {r : Bool} (H : pch b → Ev A r) (H' : ¬ pch b → r = false) :
    Ev (fun k => if b ≥ 97 then (if b ≤ 122 then A k else (if b ≥ 65 then (if b ≤ 90 then A k else ((impl_isFigure.f b).bind fun t => if t = true then A k else if b = 45 then A k else some false)) else ((impl_isFigure.f b).bind fun t => if t = true then A k else if b = 45 then A k else some false))) else (if b ≥ 65 then (if b ≤ 90 then A k else ((impl_isFigure.f b).bind fun t => if t = true then A k else if b = 45 then A k else some false)) else ((impl_isFigure.f b).bind fun t => if t = true then A k else if b = 45 then A k else some false))) r := by
  have F : (¬ (97 ≤ b ∧ b ≤ 122)) → (¬ (65 ≤ b ∧ b ≤ 90)) → Ev (fun k => (impl_isFigure.f b).bind fun t => if t = true then A k else if b = 45 then A k else some false) r := fun h1 h2 =>
    ev_fig (fun h => H (by unfold pch; omega)) (fun h => H' (by unfold pch; omega))
  have M : (¬ (97 ≤ b ∧ b ≤ 122)) → Ev (fun k => if b ≥ 65 then (if b ≤ 90 then A k else ((impl_isFigure.f b).bind fun t => if t = true then A k else if b = 45 then A k else some false)) else ((impl_isFigure.f b).bind fun t => if t = true then A k else if b = 45 then A k else some false)) r := fun h1 => by
    by_cases h : b ≥ 65
    · refine evT h ?_
      by_cases h2 : b ≤ 90
      · exact evT h2 (H (by unfold pch; omega))
      · exact evF h2 (F h1 (by omega))
    · exact evF h (F h1 (by omega))
  by_cases h : b ≥ 97
  · refine evT h ?_
    by_cases h2 : b ≤ 122
    · exact evT h2 (H (by unfold pch; omega))
    · exact evF h2 (M (by omega))
  · exact evF h (M (by omega))
theorem ev_signS {b : Int} {A : Nat → Option Bool} {r : Bool} (H : pch b → Ev A r) (H' : ¬ pch b → r = false) :
    Ev (fun k => (spec_l1In.f b 97 122).bind fun t => (if t = true then A k else ((spec_l1In.f b 65 90).bind fun t => (if t = true then A k else ((spec_l1In.f b 48 57).bind fun t => (if t = true then A k else (if b = 45 then A k else (some false)))))))) r := by
  refine evC (rng_spec _ _ _) ?_
  by_cases h1 : 97 ≤ b ∧ b ≤ 122
  · exact evT (decide_eq_true h1) (H (by unfold pch; omega))
  refine evF (by simpa using h1) (evC (rng_spec _ _ _) ?_)
  by_cases h2 : 65 ≤ b ∧ b ≤ 90
  · exact evT (decide_eq_true h2) (H (by unfold pch; omega))
  refine evF (by simpa using h2) (evC (rng_spec _ _ _) ?_)
  by_cases h3 : 48 ≤ b ∧ b ≤ 57
  · exact evT (decide_eq_true h3) (H (by unfold pch; omega))
  refine evF (by simpa using h3) ?_
  by_cases h4 : b = 45
  · exact evT h4 (H (by unfold pch; omega))
  · exact evF h4 (evR (H' (by unfold pch; omega)).symm)
/-- A part. -/
def prtE (s : ByteArray) : Bool := decide ((1 : Int) ≤ s.size ∧ (s.size : Int) ≤ 8) && (!figs s || num s)
def prt (s : ByteArray) : Bool := s.data.toList.all pchU && prtE s
theorem prt_l0 (s : ByteArray) (hs : s.size ≤ 1048576) (d : Nat) : ∀ i : Nat, i + d = s.size → Ev (fun k => impl_partOk.l0 k s (i : Int)) ((s.data.toList.drop i).all pchU && prtE s) ∧ Ev (fun k => spec_l3Part.l0 k s (i : Int)) ((s.data.toList.drop i).all pchU && prtE s) := by
  induction d with
  | zero =>
    intro i hi
    rw [List.drop_eq_nil_of_le (show s.data.toList.length ≤ i by rw [data_length]; omega), List.all_nil, Bool.true_and]
    unfold prtE
    constructor
    · refine evS (fun k => by rw [impl_partOk.l0]) (evF (by omega) (evC (rng_impl _ _ _) ?_))
      cases hd : decide ((1 : Int) ≤ s.size ∧ (s.size : Int) ≤ 8) with
      | false => exact evF Bool.false_ne_true (evR rfl)
      | true =>
        refine evT rfl (evB (figs_impl s hs) ?_)
        cases hf : figs s with
        | false => exact evF Bool.false_ne_true (evR rfl)
        | true => exact evT rfl (evB (num_impl s hs) (evR (by simp)))
    · refine evS (fun k => by rw [spec_l3Part.l0]) (evF (by omega) (evC (rng_spec _ _ _) ?_))
      cases hd : decide ((1 : Int) ≤ s.size ∧ (s.size : Int) ≤ 8) with
      | false => exact evF Bool.false_ne_true (evR rfl)
      | true =>
        have h8 := of_decide_eq_true hd
        refine evT rfl (evB (figs_spec s hs) ?_)
        cases hf : figs s with
        | false => exact evF Bool.false_ne_true (evR rfl)
        | true =>
          refine evT rfl (evB (numS_spec s hs) (evR ?_))
          unfold numS short
          rw [decide_eq_true (show s.size ≤ 8 by omega)]
          cases num s with
          | true => simp
          | false => simp
  | succ d ih =>
    intro i hi
    have hl : i < s.data.toList.length := by rw [data_length]; omega
    have hb := byte_at s i (by omega)
    obtain ⟨h1, h2⟩ := ih (i + 1) (by omega)
    have hlt : (s.data.toList[i]).toNat < 256 := UInt8.toNat_lt _
    have he : (s.data.toList.drop i).all pchU = (pchU s.data.toList[i] && (s.data.toList.drop (i + 1)).all pchU) := by
      rw [List.drop_eq_getElem_cons hl]
      rfl
    have hw : wrap64 (((s.data.toList[i]).toNat : Nat) : Int) = (((s.data.toList[i]).toNat : Nat) : Int) := w64 (by omega)
    rw [he]
    have Hp : pch ((s.data.toList[i].toNat : Nat) : Int) → pchU s.data.toList[i] = true := fun h => decide_eq_true h
    have Hn : ¬ pch ((s.data.toList[i].toNat : Nat) : Int) → (pchU s.data.toList[i] && (s.data.toList.drop (i + 1)).all pchU && prtE s) = false := fun h => by
      have : pchU s.data.toList[i] = false := decide_eq_false h
      rw [this]
      rfl
    constructor
    · refine evS (fun k => by rw [impl_partOk.l0]) ?_
      rw [hb, w64s (show i < s.size by omega) (by omega)]
      refine evT (by omega) (evT (by omega) ?_)
      exact ev_sign (fun h => by rw [Hp h, Bool.true_and]; exact h1) Hn
    · refine evS (fun k => by rw [spec_l3Part.l0]) ?_
      rw [hb, hw, w64s (show i < s.size by omega) (by omega)]
      refine evT (by omega) (evT (by omega) ?_)
      exact ev_signS (fun h => by rw [Hp h, Bool.true_and]; exact h2) Hn
theorem prt_impl (s : ByteArray) (hs : s.size ≤ 1048576) : Ev (fun k => impl_partOk.f k s) (prt s) := (prt_l0 s hs s.size 0 (by omega)).1
theorem prt_spec (s : ByteArray) (hs : s.size ≤ 1048576) : Ev (fun k => spec_l3Part.f k s) (prt s) := (prt_l0 s hs s.size 0 (by omega)).2
theorem pre_l0 (l : List ByteArray) (hl : l.length ≤ 1048577) (zl : ∀ x ∈ l, x.size ≤ 1048576) (d : Nat) : ∀ i : Nat, i + d = l.length → Ev (fun k => impl_VersionOk.l0 k l (i : Int)) ((l.drop i).all prt && decide (l.length ≤ 4)) ∧ Ev (fun k => spec_l3Pre.l0 k l (i : Int)) ((l.drop i).all prt && decide (l.length ≤ 4)) := by
  induction d with
  | zero =>
    intro i hi
    rw [List.drop_eq_nil_of_le (by omega), List.all_nil, Bool.true_and]
    have e : decide ((l.length : Int) ≤ 4) = decide (l.length ≤ 4) := decide_eq_decide.2 (by omega)
    constructor
    · refine evS (fun k => by rw [impl_VersionOk.l0]) (evF (by omega) (evR e))
    · refine evS (fun k => by rw [spec_l3Pre.l0]) (evF (by omega) (evR e))
  | succ d ih =>
    intro i hi
    have il : i < l.length := by omega
    have gl : rdOf ByteArray.empty l (i : Int) = l[i] := by
      have := rdOf_get (d := ByteArray.empty) il
      rw [List.getElem?_eq_getElem il] at this
      exact (Option.some.inj this).symm
    have hz := zl _ (List.getElem_mem il)
    obtain ⟨h1, h2⟩ := ih (i + 1) (by omega)
    have he : (l.drop i).all prt = (prt l[i] && (l.drop (i + 1)).all prt) := by
      rw [List.drop_eq_getElem_cons il]
      rfl
    rw [he]
    have p1 := prt_impl l[i] hz
    have p2 := prt_spec l[i] hz
    cases hp : prt l[i] with
    | true =>
      rw [hp] at p1 p2
      rw [Bool.true_and]
      constructor
      · refine evS (fun k => by rw [impl_VersionOk.l0]) ?_
        rw [gl, w64s il (by omega)]
        exact evT (by omega) (evT (by omega) (evB p1 (evT rfl h1)))
      · refine evS (fun k => by rw [spec_l3Pre.l0]) ?_
        rw [gl, w64s il (by omega)]
        exact evT (by omega) (evT (by omega) (evB p2 (evT rfl h2)))
    | false =>
      rw [hp] at p1 p2
      constructor
      · refine evS (fun k => by rw [impl_VersionOk.l0]) ?_
        rw [gl]
        exact evT (by omega) (evT (by omega) (evB p1 (evF Bool.false_ne_true (evR rfl))))
      · refine evS (fun k => by rw [spec_l3Pre.l0]) ?_
        rw [gl]
        exact evT (by omega) (evT (by omega) (evB p2 (evF Bool.false_ne_true (evR rfl))))
def pre (p : ByteArray) : Bool := (pieces 46 p).all prt && decide ((pieces 46 p).length ≤ 4)
def in6 (a : Int) : Bool := decide (0 ≤ a ∧ a ≤ 1000000)
def verOk (a b c : Int) (p : ByteArray) : Bool := in6 a && (in6 b && (in6 c && (decide (p.size = 0) || pre p)))
theorem nil_iff' (s : ByteArray) : s.toList = ([] : List UInt8) ↔ s.size = 0 := by
  rw [tl]
  have := data_length s
  constructor
  · intro e; rw [e] at this; simpa using this.symm
  · intro e; exact List.eq_nil_of_length_eq_zero (by omega)
theorem verOk_both (a b c : Int) (p : ByteArray) (hp : p.size ≤ 1048576) : Ev (fun k => impl_VersionOk.f k a b c p) (verOk a b c p) ∧ Ev (fun k => spec_VersionOk.f k a b c p) (verOk a b c p) := by
  have hc := pieces_count 46 p
  obtain ⟨l1, l2⟩ := pre_l0 (pieces 46 p) (by omega) (fun x hx => by have := pieces_mem 46 p x hx; omega) _ 0 (Nat.zero_add _)
  rw [List.drop_zero] at l1 l2
  have hS : Ev (fun k => spec_l3Split.f k p 46) (pieces 46 p) := split_spec p hp 46
  have hI : strings_Split.f p (⟨#[46]⟩ : ByteArray) = some (pieces 46 p) := by
    unfold strings_Split.f
    rw [if_pos ⟨by omega, rfl⟩]
    rfl
  have tI : Ev (fun k => impl_VersionOk.f0 k p) (decide (p.size = 0) || pre p) := by
    unfold impl_VersionOk.f0
    by_cases h : p.size = 0
    · exact evT ((nil_iff' p).2 h) (evR (by rw [decide_eq_true h]; rfl))
    · refine evF (fun e => h ((nil_iff' p).1 e)) (evC hI ?_)
      rw [decide_eq_false h, Bool.false_or]
      exact l1
  have tS : Ev (fun k => if p.toList = ([] : List UInt8) then (some true) else ((spec_l3Pre.f k p).bind fun t146 => (some t146))) (decide (p.size = 0) || pre p) := by
    by_cases h : p.size = 0
    · exact evT ((nil_iff' p).2 h) (evR (by rw [decide_eq_true h]; rfl))
    · refine evF (fun e => h ((nil_iff' p).1 e)) ?_
      rw [decide_eq_false h, Bool.false_or]
      refine evB ?_ (evR rfl)
      unfold spec_l3Pre.f
      exact evB hS l2
  unfold verOk
  constructor
  · unfold impl_VersionOk.f
    refine evC (rng_impl _ _ _) ?_
    show Ev (fun k => if in6 a = true then _ else _) _
    cases in6 a with
    | false => exact evF Bool.false_ne_true (evR rfl)
    | true =>
      refine evT rfl ?_
      unfold impl_VersionOk.f2
      refine evC (rng_impl _ _ _) ?_
      show Ev (fun k => if in6 b = true then _ else _) _
      cases in6 b with
      | false => exact evF Bool.false_ne_true (evR rfl)
      | true =>
        refine evT rfl ?_
        unfold impl_VersionOk.f1
        refine evC (rng_impl _ _ _) ?_
        show Ev (fun k => if in6 c = true then _ else _) _
        cases in6 c with
        | false => exact evF Bool.false_ne_true (evR rfl)
        | true => exact evT rfl tI
  · unfold spec_VersionOk.f
    refine evC (rng_spec _ _ _) ?_
    show Ev (fun k => if in6 a = true then _ else _) _
    cases in6 a with
    | false => exact evF Bool.false_ne_true (evR rfl)
    | true =>
      refine evT rfl (evC (rng_spec _ _ _) ?_)
      show Ev (fun k => if in6 b = true then _ else _) _
      cases in6 b with
      | false => exact evF Bool.false_ne_true (evR rfl)
      | true =>
        refine evT rfl (evC (rng_spec _ _ _) ?_)
        show Ev (fun k => if in6 c = true then _ else _) _
        cases in6 c with
        | false => exact evF Bool.false_ne_true (evR rfl)
        | true => exact evT rfl tS
end Go.Proofs.YtkofdkinaahbpaaDoor.Z

/- Does a version fit a path: the program's and the reference's answer are the same. Plain lemmas. -/
set_option linter.unusedVariables false
namespace Go.Proofs.YtkofdkinaahbpaaDoor.Z
open Go.RowKit Go.Proofs.YtkofdkinaahbpaaDoorW.PrintWords Go.Proofs.YtkofdkinaahbpaaDoorW.PrintMore Go.Proofs.YtkofdkinaahbpaaDoor.X Go.Proofs.YtkofdkinaahbpaaDoor.Sp
/-- By the path's number. -/
def fitsM (m a b c : Int) (p : ByteArray) : Bool := decide (0 < m) && (verOk a b c p && (decide (a = m) || (decide (m = 1) && decide (a = 0))))
theorem fits_of (s : ByteArray) (m a b c : Int) (p : ByteArray) (hp : p.size ≤ 1048576) (h1 : Ev (fun k => impl_MajorOf.f k s) m) (h2 : Ev (fun k => spec_MajorOf.f k s) m) :
    Ev (fun k => impl_Fits.f k s a b c p) (fitsM m a b c p) ∧ Ev (fun k => spec_Fits.f k s a b c p) (fitsM m a b c p) := by
  obtain ⟨v1, v2⟩ := verOk_both a b c p hp
  unfold impl_Fits.f spec_Fits.f fitsM
  by_cases hm : 0 < m
  · rw [decide_eq_true hm, Bool.true_and]
    cases hv : verOk a b c p with
    | false =>
      rw [hv] at v1 v2
      exact ⟨evB h1 (evT hm (evB v1 (evF Bool.false_ne_true (evR rfl)))), evB h2 (evT hm (evB v2 (evF Bool.false_ne_true (evR rfl))))⟩
    | true =>
      rw [hv] at v1 v2
      rw [Bool.true_and]
      refine ⟨evB h1 (evT hm (evB v1 (evT rfl ?_))), evB h2 (evT hm (evB v2 (evT rfl ?_)))⟩
      · by_cases ha : a = m
        · exact evT ha (evR (by rw [decide_eq_true ha]; rfl))
        · refine evF ha ?_
          rw [decide_eq_false ha, Bool.false_or]
          by_cases h0 : a = 0
          · refine evT h0 (evR ?_)
            rw [decide_eq_true h0, Bool.and_true]
            by_cases h1 : m = 1 <;> simp [h1]
          · exact evF h0 (evR (by rw [decide_eq_false h0, Bool.and_false]))
      · by_cases ha : a = m
        · exact evT ha (evR (by rw [decide_eq_true ha]; rfl))
        · refine evF ha ?_
          rw [decide_eq_false ha, Bool.false_or]
          by_cases h1 : m = 1
          · refine evT h1 (evR ?_)
            rw [decide_eq_true h1, Bool.true_and]
            by_cases h0 : a = 0 <;> simp [h0]
          · exact evF h1 (evR (by rw [decide_eq_false h1, Bool.false_and]))
  · rw [decide_eq_false hm, Bool.false_and]
    exact ⟨evB h1 (evF (by omega) (evR rfl)), evB h2 (evF (by omega) (evR rfl))⟩
theorem fits_both (s : ByteArray) (a b c : Int) (p : ByteArray) (hs : s.size ≤ 1048576) (hp : p.size ≤ 1048576) : ∃ r, Ev (fun k => impl_Fits.f k s a b c p) r ∧ Ev (fun k => spec_Fits.f k s a b c p) r ∧ (r = true → verOk a b c p = true) := by
  obtain ⟨m, h1, h2, _⟩ := maj_both s hs
  obtain ⟨f1, f2⟩ := fits_of s m a b c p hp h1 h2
  refine ⟨_, f1, f2, fun h => ?_⟩
  unfold fitsM at h
  simp only [Bool.and_eq_true] at h
  exact h.2.1
end Go.Proofs.YtkofdkinaahbpaaDoor.Z

/- Needs that rise by their paths: the program's way and the reference's. Plain lemmas. -/
set_option linter.unusedVariables false
namespace Go.Proofs.YtkofdkinaahbpaaDoor.Z
open Go.RowKit Go.Proofs.YtkofdkinaahbpaaDoorW.PrintWords Go.Proofs.YtkofdkinaahbpaaDoorW.PrintMore Go.Proofs.YtkofdkinaahbpaaDoor.X Go.Proofs.YtkofdkinaahbpaaDoor.Sp
theorem rdN {xs : List S34} {i : Nat} (h : i < xs.length) : rd_T34 xs (i : Int) = xs[i] := by
  unfold rd_T34
  simp [List.getD_eq_getElem?_getD, h]
def smallN (y : S34) : Prop := y.f0.size ≤ 1048576 ∧ y.f1.f3.size ≤ 1048576
theorem need_both (y : S34) (h : smallN y) : ∃ r, Ev (fun k => impl_NeedOk.f k y.f0 y.f1.f0 y.f1.f1 y.f1.f2 y.f1.f3) r ∧ Ev (fun k => spec_NeedOk.f k y.f0 y.f1.f0 y.f1.f1 y.f1.f2 y.f1.f3) r ∧ Ev (fun k => impl_Fits.f k y.f0 y.f1.f0 y.f1.f1 y.f1.f2 y.f1.f3) r ∧ Ev (fun k => spec_Fits.f k y.f0 y.f1.f0 y.f1.f1 y.f1.f2 y.f1.f3) r := by
  obtain ⟨r, hI, hS, _⟩ := fits_both y.f0 y.f1.f0 y.f1.f1 y.f1.f2 y.f1.f3 h.1 h.2
  refine ⟨r, ?_, ?_, hI, hS⟩
  · unfold impl_NeedOk.f
    exact evB hI (evR rfl)
  · unfold spec_NeedOk.f
    exact evB hS (evR rfl)
theorem rise_l0 (l : List S34) (most : Int) (hn : l.length ≤ 1048576) (hl : ∀ y ∈ l, smallN y) (d : Nat) : ∀ i : Nat, i + d = l.length → ∃ r : Bool,
    Ev (fun k => impl_ascending.l0 k l most l (l.length : Int) (i : Int)) (r && decide ((l.length : Int) ≤ most)) ∧ Ev (fun k => spec_l5Rising.l0 k l (i : Int)) r := by
  induction d with
  | zero =>
    intro i hi
    refine ⟨true, ?_, ?_⟩
    · refine evS (fun k => by rw [impl_ascending.l0]) ?_
      exact evF (by omega) (evR (by rw [Bool.true_and]))
    · refine evS (fun k => by rw [spec_l5Rising.l0]) ?_
      exact evF (by omega) (evR rfl)
  | succ d ih =>
    intro i hi
    have il : i < l.length := by omega
    obtain ⟨r0, hI, hS, _, _⟩ := need_both l[i] (hl _ (List.getElem_mem il))
    obtain ⟨r, q1, q2⟩ := ih (i + 1) (by omega)
    have ws := w64s (show i < l.length from il) (by omega)
    cases r0 with
    | false =>
      refine ⟨false, ?_, ?_⟩
      · refine evS (fun k => by rw [impl_ascending.l0]) ?_
        rw [rdN il]
        exact evT (by omega) (evT (by omega) (evT (by omega) (evB hI (evF Bool.false_ne_true (evR rfl)))))
      · refine evS (fun k => by rw [spec_l5Rising.l0]) ?_
        rw [rdN il]
        exact evT (by omega) (evT (by omega) (evB hS (evF Bool.false_ne_true (evR rfl))))
    | true =>
      by_cases h0 : i = 0
      · refine ⟨r, ?_, ?_⟩
        · refine evS (fun k => by rw [impl_ascending.l0]) ?_
          rw [rdN il, ws]
          exact evT (by omega) (evT (by omega) (evT (by omega) (evB hI (evT rfl (evF (by omega) q1)))))
        · refine evS (fun k => by rw [spec_l5Rising.l0]) ?_
          rw [rdN il, ws]
          exact evT (by omega) (evT (by omega) (evB hS (evT rfl (evF (by omega) q2))))
      · have ip : i - 1 < l.length := by omega
        have wp : wrap64 ((i : Int) - 1) = ((i - 1 : Nat) : Int) := by rw [w64 (by omega)]; omega
        by_cases hb : Op.bytesLess l[i - 1].f0.toList l[i].f0.toList = true
        · refine ⟨r, ?_, ?_⟩
          · refine evS (fun k => by rw [impl_ascending.l0]) ?_
            rw [rdN il, ws, wp, rdN ip]
            exact evT (by omega) (evT (by omega) (evT (by omega) (evB hI (evT rfl (evT (by omega) (evT (by omega) (evT (by omega) (evT hb q1))))))))
          · refine evS (fun k => by rw [spec_l5Rising.l0]) ?_
            rw [rdN il, ws, wp, rdN ip]
            exact evT (by omega) (evT (by omega) (evB hS (evT rfl (evT (by omega) (evT (by omega) (evT (by omega) (evT hb q2)))))))
        · refine ⟨false, ?_, ?_⟩
          · refine evS (fun k => by rw [impl_ascending.l0]) ?_
            rw [rdN il, ws, wp, rdN ip]
            exact evT (by omega) (evT (by omega) (evT (by omega) (evB hI (evT rfl (evT (by omega) (evT (by omega) (evT (by omega) (evF hb (evR rfl)))))))))
          · refine evS (fun k => by rw [spec_l5Rising.l0]) ?_
            rw [rdN il, ws, wp, rdN ip]
            exact evT (by omega) (evT (by omega) (evB hS (evT rfl (evT (by omega) (evT (by omega) (evT (by omega) (evF hb (evR rfl))))))))
theorem rise_both (l : List S34) (hn : l.length ≤ 1048576) (hl : ∀ y ∈ l, smallN y) : ∃ r : Bool, (∀ most : Int, Ev (fun k => impl_ascending.f k l most) (r && decide ((l.length : Int) ≤ most))) ∧ Ev (fun k => spec_l5Rising.f k l) r := by
  obtain ⟨r, q1, q2⟩ := rise_l0 l 0 hn hl l.length 0 (by omega)
  refine ⟨r, fun most => ?_, by unfold spec_l5Rising.f; exact q2⟩
  obtain ⟨r', p1, p2⟩ := rise_l0 l most hn hl l.length 0 (by omega)
  rw [ev_one p2 q2] at p1
  unfold impl_ascending.f
  exact p1
end Go.Proofs.YtkofdkinaahbpaaDoor.Z

/- What the laws over needs reckon ahead of the call: sizes, copies, likeness. Plain lemmas. -/
set_option linter.unusedVariables false
namespace Go.Proofs.YtkofdkinaahbpaaDoor.Z
open Go.RowKit Go.Proofs.YtkofdkinaahbpaaDoorW.PrintWords Go.Proofs.YtkofdkinaahbpaaDoorW.PrintMore Go.Proofs.YtkofdkinaahbpaaDoor.X Go.Proofs.YtkofdkinaahbpaaDoor.Sp
theorem rdL {xs : List S30} {i : Nat} (h : i < xs.length) : rd_T30 xs (i : Int) = xs[i] := by
  unfold rd_T30
  simp [List.getD_eq_getElem?_getD, h]
def cvN (y : S30) : S34 := ⟨y.f0, ⟨y.f1.f0, y.f1.f1, y.f1.f2, y.f1.f3⟩⟩
theorem toN_l0 (l : List S30) (hn : l.length ≤ 1048576) (d : Nat) : ∀ (i : Nat) (m : List S34), i + d = l.length → m.length = l.length → (∀ j, j < i → m[j]? = (l.map cvN)[j]?) → Ev (fun k => laws_toNeedS.l0 k l m (i : Int)) (l.map cvN) := by
  induction d with
  | zero =>
    intro i m hi hm h
    refine evS (fun k => by rw [laws_toNeedS.l0]) (evF (by omega) (evR ?_))
    exact ext_get (by rw [List.length_map]; exact hm) (fun j hj => h j (by rw [List.length_map] at hj; omega))
  | succ d ih =>
    intro i m hi hm h
    have il : i < l.length := by omega
    refine evS (fun k => by rw [laws_toNeedS.l0]) ?_
    rw [rdL il, w64s il (by omega)]
    refine evT (by omega) (evT (by omega) (evC rfl (evT (by omega) ?_)))
    refine ih (i + 1) _ (by omega) (by simpa using hm) ?_
    have := set_next (x := cvN l[i]) (m := l.map cvN) (by rw [List.length_map]; exact hm) (by rw [List.length_map]; exact il) (by simp [il]) h
    show ∀ j, j < i + 1 → (m.set (i : Int).toNat (cvN l[i]))[j]? = (l.map cvN)[j]?
    rw [show ((i : Nat) : Int).toNat = i by omega]
    exact this
theorem toN_ev (l : List S30) (hn : l.length ≤ 1048576) : Ev (fun k => laws_toNeedS.f k l) (l.map cvN) := by
  unfold laws_toNeedS.f
  exact evT (by omega) (evT (by omega) (toN_l0 l hn l.length 0 _ (by omega) (by simp) (by intro j hj; omega)))
theorem eqN_l0 (l : List S34) (hn : l.length ≤ 1048576) (d : Nat) : ∀ i : Nat, i + d = l.length → Ev (fun k => laws_eqNeedS.l0 k l l (i : Int)) true := by
  induction d with
  | zero =>
    intro i hi
    refine evS (fun k => by rw [laws_eqNeedS.l0]) ?_
    exact evF (by omega) (evR rfl)
  | succ d ih =>
    intro i hi
    have il : i < l.length := by omega
    refine evS (fun k => by rw [laws_eqNeedS.l0]) ?_
    rw [w64s il (by omega)]
    refine evT (by omega) (evT (by omega) (evT (by omega) (evC (a := true) ?_ (evT rfl (ih (i + 1) (by omega))))))
    unfold laws_eqNeed.f laws_eqVersion.f
    rw [if_pos rfl, if_pos rfl, if_pos rfl, if_pos rfl, if_pos rfl]
    rfl
theorem eqN_same (l : List S34) (hn : l.length ≤ 1048576) : Ev (fun k => laws_eqNeedS.f k l l) true := by
  unfold laws_eqNeedS.f
  exact evT rfl (eqN_l0 l hn l.length 0 (by omega))
/-- The size of one need. -/
theorem szN_one (y : S30) (left : Int) (h0 : 0 ≤ left) (h1 : left ≤ 1048576) (ha : y.f0.size ≤ 9223372036854775807) (hb : y.f1.f3.size ≤ 9223372036854775807) :
    ∃ r : Int, laws_szNeed.f y.f0 y.f1.f0 y.f1.f1 y.f1.f2 y.f1.f3 left = some r ∧ (r < 0 ∨ 0 ≤ r ∧ r ≤ left ∧ y.f0.size ≤ 1048576 ∧ y.f1.f3.size ≤ 1048576) := by
  unfold laws_szNeed.f laws_szVersion.f
  rw [w64 (x := left - (y.f0.size : Int)) (by omega)]
  by_cases c0 : left - (y.f0.size : Int) < 0
  · rw [if_pos c0]
    exact ⟨-1, rfl, .inl (by omega)⟩
  · rw [if_neg c0, w64 (x := left - (y.f0.size : Int) - (y.f1.f3.size : Int)) (by omega)]
    by_cases c1 : left - (y.f0.size : Int) - (y.f1.f3.size : Int) < 0
    · rw [if_pos c1]
      exact ⟨-1, rfl, .inl (by omega)⟩
    · rw [if_neg c1]
      simp only [Option.bind_some]
      rw [if_neg c1]
      exact ⟨_, rfl, .inr ⟨by omega, by omega, by omega, by omega⟩⟩
theorem szN_l0 (l : List S30) (hn : l.length ≤ 9223372036854775807) (hs : ∀ y ∈ l, y.f0.size ≤ 9223372036854775807 ∧ y.f1.f3.size ≤ 9223372036854775807) (d : Nat) : ∀ (i : Nat) (left : Int), i + d = l.length → 0 ≤ left → left ≤ 1048576 →
    ∃ r : Int, Ev (fun k => laws_szNeedS.l0 k l left (i : Int)) r ∧ (r < 0 ∨ 0 ≤ r ∧ ∀ y ∈ l.drop i, smallN (cvN y)) := by
  induction d with
  | zero =>
    intro i left hi h0 h1
    refine ⟨left, ?_, .inr ⟨h0, ?_⟩⟩
    · refine evS (fun k => by rw [laws_szNeedS.l0]) ?_
      exact evF (by omega) (evR rfl)
    · rw [List.drop_eq_nil_of_le (by omega)]
      intro y hy
      cases hy
  | succ d ih =>
    intro i left hi h0 h1
    have il : i < l.length := by omega
    obtain ⟨ha, hb⟩ := hs _ (List.getElem_mem il)
    obtain ⟨q, hq, hq2⟩ := szN_one l[i] left h0 h1 ha hb
    by_cases hlt : q < 0
    · refine ⟨-1, ?_, .inl (by omega)⟩
      refine evS (fun k => by rw [laws_szNeedS.l0]) ?_
      rw [rdL il]
      exact evT (by omega) (evT (by omega) (evC hq (evT hlt (evR rfl))))
    · rcases hq2 with h | ⟨q0, q1, qa, qb⟩
      · exact absurd h hlt
      obtain ⟨r, hr, hr2⟩ := ih (i + 1) q (by omega) q0 (by omega)
      refine ⟨r, ?_, ?_⟩
      · refine evS (fun k => by rw [laws_szNeedS.l0]) ?_
        rw [rdL il, w64s il (by omega)]
        exact evT (by omega) (evT (by omega) (evC hq (evF hlt hr)))
      · rcases hr2 with h | ⟨h, h'⟩
        · exact .inl h
        · refine .inr ⟨h, ?_⟩
          rw [List.drop_eq_getElem_cons il]
          intro y hy
          rcases List.mem_cons.1 hy with rfl | hy
          · exact ⟨qa, qb⟩
          · exact h' y hy
/-- The size of needs: too great, or all are small. -/
theorem szN_ev (l : List S30) (left : Int) (h0 : 0 ≤ left) (h1 : left ≤ 1048576) (hn : l.length ≤ 9223372036854775807) (hs : ∀ y ∈ l, y.f0.size ≤ 9223372036854775807 ∧ y.f1.f3.size ≤ 9223372036854775807) :
    ∃ r : Int, Ev (fun k => laws_szNeedS.f k l left) r ∧ (r < 0 ∨ 0 ≤ r ∧ l.length ≤ 1048576 ∧ ∀ y ∈ l.map cvN, smallN y) := by
  unfold laws_szNeedS.f
  rw [w64 (x := left - (l.length : Int)) (by omega)]
  by_cases c : left - (l.length : Int) < 0
  · exact ⟨-1, evT c (evR rfl), .inl (by omega)⟩
  · obtain ⟨r, hr, hr2⟩ := szN_l0 l (by omega) hs l.length 0 (left - (l.length : Int)) (by omega) (by omega) (by omega)
    refine ⟨r, evF c hr, ?_⟩
    rcases hr2 with h | ⟨h, h'⟩
    · exact .inl h
    · refine .inr ⟨h, by omega, fun y hy => ?_⟩
      obtain ⟨z, hz, rfl⟩ := List.mem_map.1 hy
      rw [List.drop_zero] at h'
      exact h' z hz
end Go.Proofs.YtkofdkinaahbpaaDoor.Z

/- Right entries: the program's way and the reference's. Plain lemmas. -/
set_option linter.unusedVariables false
namespace Go.Proofs.YtkofdkinaahbpaaDoor.Z
open Go.RowKit Go.Proofs.YtkofdkinaahbpaaDoorW.PrintWords Go.Proofs.YtkofdkinaahbpaaDoorW.PrintMore Go.Proofs.YtkofdkinaahbpaaDoor.X Go.Proofs.YtkofdkinaahbpaaDoor.Sp
theorem entryOk_l0 (s : ByteArray) (a b c : Int) (p : ByteArray) (l : List S34) (hs : s.size ≤ 1048576) (hp : p.size ≤ 1048576) (hn : l.length ≤ 1048576) (hl : ∀ y ∈ l, smallN y) (d : Nat) : ∀ i : Nat, i + d = l.length → ∃ r : Bool,
    Ev (fun k => impl_EntryOk.l0 k l (l.length : Int) (i : Int) s a b c p l) r ∧ Ev (fun k => spec_EntryOk.l0 k (i : Int) s a b c p l) r := by
  induction d with
  | zero =>
    intro i hi
    obtain ⟨f, fI, fS, _⟩ := fits_both s a b c p hs hp
    obtain ⟨r, rI, rS⟩ := rise_both l hn hl
    refine ⟨f && (r && decide ((l.length : Int) ≤ 8)), ?_, ?_⟩
    · refine evS (fun k => by rw [impl_EntryOk.l0]) (evF (by omega) (evB fI ?_))
      cases f with
      | false => exact evF Bool.false_ne_true (evR rfl)
      | true => exact evT rfl (evB (rI 8) (evR rfl))
    · refine evS (fun k => by rw [spec_EntryOk.l0]) (evF (by omega) (evB fS ?_))
      cases f with
      | false => exact evF Bool.false_ne_true (evR rfl)
      | true =>
        refine evT rfl ?_
        rw [Bool.true_and]
        by_cases h8 : (l.length : Int) ≤ 8
        · exact evT h8 (evB rS (evR (by rw [decide_eq_true h8, Bool.and_true])))
        · exact evF h8 (evR (by rw [decide_eq_false h8, Bool.and_false]))
  | succ d ih =>
    intro i hi
    have il : i < l.length := by omega
    have ws := w64s (show i < l.length from il) (by omega)
    by_cases he : l[i].f0.toList = s.toList
    · refine ⟨false, ?_, ?_⟩
      · refine evS (fun k => by rw [impl_EntryOk.l0]) ?_
        rw [rdN il]
        exact evT (by omega) (evT (by omega) (evT (by omega) (evT he (evR rfl))))
      · refine evS (fun k => by rw [spec_EntryOk.l0]) ?_
        rw [rdN il]
        exact evT (by omega) (evT (by omega) (evT he (evR rfl)))
    · obtain ⟨r, q1, q2⟩ := ih (i + 1) (by omega)
      refine ⟨r, ?_, ?_⟩
      · refine evS (fun k => by rw [impl_EntryOk.l0]) ?_
        rw [rdN il, ws]
        exact evT (by omega) (evT (by omega) (evT (by omega) (evF he q1)))
      · refine evS (fun k => by rw [spec_EntryOk.l0]) ?_
        rw [rdN il, ws]
        exact evT (by omega) (evT (by omega) (evF he q2))
theorem entryOk_both (s : ByteArray) (a b c : Int) (p : ByteArray) (l : List S34) (hs : s.size ≤ 1048576) (hp : p.size ≤ 1048576) (hn : l.length ≤ 1048576) (hl : ∀ y ∈ l, smallN y) : ∃ r : Bool,
    Ev (fun k => impl_EntryOk.f k s a b c p l) r ∧ Ev (fun k => spec_EntryOk.f k s a b c p l) r := by
  unfold impl_EntryOk.f spec_EntryOk.f
  exact entryOk_l0 s a b c p l hs hp hn hl l.length 0 (by omega)
end Go.Proofs.YtkofdkinaahbpaaDoor.Z

/- The law FnExactEntryOk, as a plain statement: the program's EntryOk answers as the reference's. Conditions: those of the row's reading alone. -/
namespace Go.Proofs.YtkofdkinaahbpaaDoor.Pure
open Go.RowKit Go.Proofs.YtkofdkinaahbpaaDoor.X Go.Proofs.YtkofdkinaahbpaaDoor.Z Go.Proofs.YtkofdkinaahbpaaDoorW.PrintWords Go.Proofs.YtkofdkinaahbpaaDoorW.PrintLast
theorem FnExactEntryOk : laws_FnExactEntryOk.Pure := by
  intro s a b c p l ⟨hs, ⟨_, _, _, hp⟩, hl, hy⟩
  refine Ev.rounds ?_
  unfold laws_FnExactEntryOk.f
  unfold maxLen at hl hy hs hp
  have e0 : wrap64 ((1048576 : Int) - (s.size : Int)) = 1048576 - (s.size : Int) := w64 (by omega)
  by_cases h0 : (1048576 : Int) - (s.size : Int) < 0
  · refine evB (a := -1) ?_ (evT (by omega) (evR rfl))
    unfold laws_szEntry.f
    rw [e0]
    exact evT h0 (evR rfl)
  have e1 : wrap64 ((1048576 : Int) - (s.size : Int) - (p.size : Int)) = 1048576 - (s.size : Int) - (p.size : Int) := w64 (by omega)
  by_cases h1 : (1048576 : Int) - (s.size : Int) - (p.size : Int) < 0
  · refine evB (a := -1) ?_ (evT (by omega) (evR rfl))
    unfold laws_szEntry.f laws_szVersion.f
    rw [e0, e1, if_pos h1]
    exact evF h0 (evC rfl (evT (by omega) (evR rfl)))
  obtain ⟨q, hq, hq2⟩ := szN_ev l (1048576 - (s.size : Int) - (p.size : Int)) (by omega) (by omega) (by omega) (fun y h => by have := hy y h; omega)
  by_cases h2 : q < 0
  · refine evB (a := -1) ?_ (evT (by omega) (evR rfl))
    unfold laws_szEntry.f laws_szVersion.f
    rw [e0, e1, if_neg h1]
    exact evF h0 (evC rfl (evF h1 (evB hq (evT h2 (evR rfl)))))
  refine evB (a := q) ?_ (evF h2 ?_)
  · unfold laws_szEntry.f laws_szVersion.f
    rw [e0, e1, if_neg h1]
    exact evF h0 (evC rfl (evF h1 (evB hq (evF h2 (evR rfl)))))
  rcases hq2 with h | ⟨h, hn, hsm⟩
  · exact absurd h h2
  have hm : (l.map cvN).length ≤ 1048576 := by rw [List.length_map]; exact hn
  have hT : Ev (fun k => laws_toEntry.f k s a b c p l) (s, a, b, c, p, l.map cvN) := by
    unfold laws_toEntry.f
    exact evC rfl (evB (toN_ev l hn) (evR rfl))
  obtain ⟨r, hI, hS⟩ := entryOk_both s a b c p (l.map cvN) (by omega) (by omega) hm hsm
  refine evB hT (evB hS (evB hT (evB hI (evF ?_ (evB hT (evB (a := true) ?_ (evT rfl (evR rfl))))))))
  · cases r <;> decide
  · unfold laws_eqEntry.f laws_eqVersion.f
    refine evT rfl ?_
    rw [if_pos rfl, if_pos rfl, if_pos rfl, if_pos rfl]
    exact evC rfl (evT rfl (evB (eqN_same _ hm) (evT rfl (evR rfl))))
end Go.Proofs.YtkofdkinaahbpaaDoor.Pure

/- Values that come in as data (strings' slices, structs, slices of structs, nested) are of the printer's kinds: one lemma a make of type. Plain lemmas for the rows of laws over such parameters. No conditions beyond what each lemma names. -/
set_option linter.unusedVariables false
namespace Go.Proofs.YtkofdkinaahbpaaDoor.Y
open Go.RowKit Go.Proofs.YtkofdkinaahbpaaDoorW.PrintWords Go.ChangeShapes Go.WideShapes Go.Deep

/-- What is read as data of type T is of kind d, and G holds of what it says. -/
def Opn {α : Type} (P : Program) (d : Kd α) (T : TypeId) (G : α → Prop) : Prop :=
  ∀ {H : Type} (enc : TypeId × Value → H) (w : World) (spare : Nat → Bool) (held : Bool) (fuel : Nat) (cs : List Value) (x : DataW H × List MemPlace), DataW.trod enc P w 0 spare held fuel T cs = some x → ∃ y, d.K w y cs ∧ G y

theorem Opn.int {P : Program} {T : TypeId} {k : IntKind} (h : P.underlying T = some (.int k)) : Opn P (Kd.int k) T (fun n => (Lit.int k n).wf = true) := by
  intro H enc w spare held fuel cs x hx
  obtain ⟨n, rfl, _, hn⟩ := DataW.trod_int h hx
  exact ⟨n, rfl, hn⟩
theorem Opn.string {P : Program} {T : TypeId} (h : P.underlying T = some .string) : Opn P Kd.string T (fun s => s.size ≤ maxLen) := by
  intro H enc w spare held fuel cs x hx
  obtain ⟨s, rfl, _, hs⟩ := DataW.trod_string h hx
  exact ⟨s, rfl, hs⟩
theorem Opn.slice {α : Type} {P : Program} {d : Kd α} {T e : TypeId} {G : α → Prop} [Inhabited α] (h : P.underlying T = some (.slice e)) (he : P.cellsOf e = d.sz) (ho : Opn P d e G) :
    Opn P (Kd.slice e d) T (fun l => l.length ≤ maxLen ∧ ∀ y, y ∈ l → G y) := by
  intro H enc w spare held fuel cs x hx
  rcases open_slice h hx with ⟨rfl, _⟩ | ⟨a, len, cap, m, n, D, Pl, rfl, _, hl, hm, hmm, _, hel⟩
  · exact ⟨[], ⟨none, 0, rfl, Nat.le_refl _, rfl, by simp, fun hn => absurd hn (Nat.lt_irrefl 0)⟩, by simp, fun y hy => by cases hy⟩
  · have hlm : len ≤ m := by rw [hmm]; split <;> omega
    have each : ∀ i, i < len → ∃ y, (∃ c, c.length = d.sz ∧ d.K w y c ∧ ∀ j u, c[j]? = some u → w.cell? (a.add (i * d.sz + j)) = some u) ∧ G y := by
      intro i hi
      obtain ⟨c, hc, ht⟩ := hel i (by omega)
      obtain ⟨y, hk, hg⟩ := ho enc w spare held n c _ ht
      obtain ⟨_, hlen, hcell⟩ := World.cells?_some hc
      refine ⟨y, ⟨c, hlen.trans he, hk, fun j u hu => ?_⟩, hg⟩
      have hj : j < P.cellsOf e := by rw [← hlen]; exact (List.getElem?_eq_some_iff.1 hu).1
      have := hcell j hj
      rw [Go.Deep.add_add, hu, he] at this
      exact this
    obtain ⟨f, hf⟩ := choose_lt each
    have hlen : ((List.range len).map f).length = len := by simp
    have hm' : len ≤ maxLen := Nat.le_trans hl hm
    refine ⟨(List.range len).map f, ⟨some a, cap, by rw [hlen], by rw [hlen]; exact hl, by rw [hlen], by rw [hlen]; unfold maxLen at hm'; exact hm', fun _ => ⟨a, rfl, fun j p hp => ?_⟩⟩, by rw [hlen]; exact hm', fun y hy => ?_⟩
    · obtain ⟨hj, rfl⟩ := List.getElem?_eq_some_iff.1 hp
      rw [hlen] at hj
      simp only [List.getElem_map, List.getElem_range]
      exact (hf j hj).1
    · obtain ⟨i, hi, rfl⟩ := List.mem_map.1 hy
      exact (hf i (List.mem_range.1 hi)).2

/-- The fields from cell 'off' on. -/
def FOpn {α : Type} (P : Program) (d : Kd α) (off : Nat) (fs : List Field) (G : α → Prop) : Prop :=
  ∀ {H : Type} (enc : TypeId × Value → H) (w : World) (spare : Nat → Bool) (held : Bool) (fuel : Nat) (cs : List Value),
    (∀ f, f ∈ fs → ∃ x, DataW.trod enc P w 0 spare held fuel f.type ((cs.drop f.offset).take (P.cellsOf f.type)) = some x) → cs.length = off + d.sz → ∃ y, d.K w y (cs.drop off) ∧ G y
theorem FOpn.one {α : Type} {P : Program} {d : Kd α} {off : Nat} {f : Field} {G : α → Prop} (hf : f.offset = off) (hc : P.cellsOf f.type = d.sz) (ho : Opn P d f.type G) : FOpn P d off [f] G := by
  intro H enc w spare held fuel cs hx hl
  obtain ⟨x, hx⟩ := hx f (by simp)
  rw [hf, hc, List.take_of_length_le (by simp; omega)] at hx
  exact ho enc w spare held fuel _ x hx
theorem FOpn.cons {α β : Type} {P : Program} {d : Kd α} {d' : Kd β} {off : Nat} {f : Field} {fs : List Field} {G : α → Prop} {G' : β → Prop} (hf : f.offset = off) (hc : P.cellsOf f.type = d.sz) (ho : Opn P d f.type G)
    (hs : FOpn P d' (off + d.sz) fs G') : FOpn P (Kd.pair d d') off (f :: fs) (fun y => G y.1 ∧ G' y.2) := by
  intro H enc w spare held fuel cs hx hl
  have hl' : cs.length = off + (d.sz + d'.sz) := hl
  obtain ⟨x, h1⟩ := hx f (by simp)
  rw [hf, hc] at h1
  obtain ⟨y, hy, gy⟩ := ho enc w spare held fuel _ x h1
  obtain ⟨z, hz, gz⟩ := hs enc w spare held fuel cs (fun g hg => hx g (List.mem_cons_of_mem _ hg)) (by omega)
  refine ⟨(y, z), ⟨_, _, ?_, hy, hz⟩, gy, gz⟩
  rw [← List.drop_drop, List.take_append_drop]
theorem Opn.struct {α β : Type} {P : Program} {d : Kd α} {T : TypeId} {fs : Array Field} {fl : List Field} {G : α → Prop} {G' : β → Prop} {proj : β → α} (mk : α → β) (h : P.underlying T = some (.struct fs)) (hfl : fs.toList = fl) (hc : P.cellsOf T = d.sz)
    (hmk : ∀ y, proj (mk y) = y) (hG : ∀ y, G y → G' (mk y)) (hs : FOpn P d 0 fl G) : Opn P (Kd.iso d proj) T G' := by
  intro H enc w spare held fuel cs x hx
  obtain ⟨xs, n, rfl, _, hlen, hxs, hall⟩ := DataW.trod_struct h hx
  obtain ⟨y, hy, gy⟩ := hs enc w spare held n cs (fun f hf => by
    rw [← hfl] at hf
    obtain ⟨i, hi, he⟩ := List.getElem_of_mem hf
    have hi' : i < fs.size := by simpa using hi
    have h1 : fs[i]? = some f := by rw [Array.getElem?_eq_getElem hi']; simpa using he
    exact ⟨_, (hall i f h1).trans (List.getElem?_eq_getElem (by omega))⟩) (by rw [hlen, hc, Nat.zero_add])
  refine ⟨mk y, ?_, hG y gy⟩
  show d.K w (proj (mk y)) cs
  rw [hmk]
  exact hy

/-- A parameter that is a struct. -/
theorem Opn.arg_struct {α : Type} {P : Program} {d : Kd α} {T : TypeId} {G : α → Prop} {fs : Array Field} (hu : P.underlying T = some (.struct fs)) (ho : Opn P d T G)
    {H : Type} {enc : TypeId × Value → H} {w : World} {spare : Nat → Bool} {held : Bool} {v : Value} {D : DataW H} {ps : List MemPlace} {r : Reach} {b : Nat} (hv : Value.okWide P w r b T v) (hx : DataW.Trod enc P w 0 spare held T v D ps) :
    ∃ (cs : List Value) (y : α), v = .agg cs.toArray ∧ d.K w y cs ∧ G y := by
  obtain ⟨cs, rfl, _⟩ := okWide_struct hu hv
  obtain ⟨fuel, hf⟩ := hx
  obtain ⟨y, hk, hg⟩ := ho enc w spare held fuel _ _ hf
  exact ⟨cs.toList, y, by simp, hk, hg⟩
end Go.Proofs.YtkofdkinaahbpaaDoor.Y

/- Three closed facts of the rows of this seat (how the program may be entered), by the first words of the translation's head row. No conditions. -/
namespace Go.Proofs.YtkofdkinaahbpaaDoor.Y
open Go.ChangeShapes Go.WideShapes Go.ChangeAt Go.RowKit
def tailSigns : List Char := [Char.ofNat 108, Char.ofNat 111, Char.ofNat 111, Char.ofNat 112, Char.ofNat 46, Char.ofNat 101, Char.ofNat 120, Char.ofNat 97, Char.ofNat 109, Char.ofNat 112, Char.ofNat 108, Char.ofNat 101, Char.ofNat 47, Char.ofNat 103, Char.ofNat 48, Char.ofNat 48, Char.ofNat 50, Char.ofNat 51, Char.ofNat 51, Char.ofNat 47, Char.ofNat 108, Char.ofNat 97, Char.ofNat 119, Char.ofNat 115, Char.ofNat 46, Char.ofNat 70, Char.ofNat 110, Char.ofNat 69, Char.ofNat 120, Char.ofNat 97, Char.ofNat 99, Char.ofNat 116, Char.ofNat 70, Char.ofNat 105, Char.ofNat 116, Char.ofNat 115, Char.ofNat 32, Char.ofNat 108, Char.ofNat 111, Char.ofNat 111, Char.ofNat 112, Char.ofNat 46, Char.ofNat 101, Char.ofNat 120, Char.ofNat 97, Char.ofNat 109, Char.ofNat 112, Char.ofNat 108, Char.ofNat 101, Char.ofNat 47, Char.ofNat 103, Char.ofNat 48, Char.ofNat 48, Char.ofNat 50, Char.ofNat 51, Char.ofNat 51, Char.ofNat 47, Char.ofNat 108, Char.ofNat 97, Char.ofNat 119, Char.ofNat 115, Char.ofNat 46, Char.ofNat 70, Char.ofNat 110, Char.ofNat 69, Char.ofNat 120, Char.ofNat 97, Char.ofNat 99, Char.ofNat 116, Char.ofNat 78, Char.ofNat 101, Char.ofNat 101, Char.ofNat 100, Char.ofNat 79, Char.ofNat 107, Char.ofNat 32, Char.ofNat 108, Char.ofNat 111, Char.ofNat 111, Char.ofNat 112, Char.ofNat 46, Char.ofNat 101, Char.ofNat 120, Char.ofNat 97, Char.ofNat 109, Char.ofNat 112, Char.ofNat 108, Char.ofNat 101, Char.ofNat 47, Char.ofNat 103, Char.ofNat 48, Char.ofNat 48, Char.ofNat 50, Char.ofNat 51, Char.ofNat 51, Char.ofNat 47, Char.ofNat 108, Char.ofNat 97, Char.ofNat 119, Char.ofNat 115, Char.ofNat 46, Char.ofNat 70, Char.ofNat 110, Char.ofNat 69, Char.ofNat 120, Char.ofNat 97, Char.ofNat 99, Char.ofNat 116, Char.ofNat 69, Char.ofNat 110, Char.ofNat 116, Char.ofNat 114, Char.ofNat 121, Char.ofNat 78, Char.ofNat 97, Char.ofNat 109, Char.ofNat 101, Char.ofNat 32, Char.ofNat 108, Char.ofNat 111, Char.ofNat 111, Char.ofNat 112, Char.ofNat 46, Char.ofNat 101, Char.ofNat 120, Char.ofNat 97, Char.ofNat 109, Char.ofNat 112, Char.ofNat 108, Char.ofNat 101, Char.ofNat 47, Char.ofNat 103, Char.ofNat 48, Char.ofNat 48, Char.ofNat 50, Char.ofNat 51, Char.ofNat 51, Char.ofNat 47, Char.ofNat 108, Char.ofNat 97, Char.ofNat 119, Char.ofNat 115, Char.ofNat 46, Char.ofNat 70, Char.ofNat 110, Char.ofNat 86, Char.ofNat 101, Char.ofNat 114, Char.ofNat 115, Char.ofNat 105, Char.ofNat 111, Char.ofNat 110, Char.ofNat 115, Char.ofNat 32, Char.ofNat 108, Char.ofNat 111, Char.ofNat 111, Char.ofNat 112, Char.ofNat 46, Char.ofNat 101, Char.ofNat 120, Char.ofNat 97, Char.ofNat 109, Char.ofNat 112, Char.ofNat 108, Char.ofNat 101, Char.ofNat 47, Char.ofNat 103, Char.ofNat 48, Char.ofNat 48, Char.ofNat 50, Char.ofNat 51, Char.ofNat 51, Char.ofNat 47, Char.ofNat 108, Char.ofNat 97, Char.ofNat 119, Char.ofNat 115, Char.ofNat 46, Char.ofNat 70, Char.ofNat 110, Char.ofNat 77, Char.ofNat 111, Char.ofNat 100, Char.ofNat 117, Char.ofNat 108, Char.ofNat 101, Char.ofNat 115, Char.ofNat 32, Char.ofNat 108, Char.ofNat 111, Char.ofNat 111, Char.ofNat 112, Char.ofNat 46, Char.ofNat 101, Char.ofNat 120, Char.ofNat 97, Char.ofNat 109, Char.ofNat 112, Char.ofNat 108, Char.ofNat 101, Char.ofNat 47, Char.ofNat 103, Char.ofNat 48, Char.ofNat 48, Char.ofNat 50, Char.ofNat 51, Char.ofNat 51, Char.ofNat 47, Char.ofNat 108, Char.ofNat 97, Char.ofNat 119, Char.ofNat 115, Char.ofNat 46, Char.ofNat 70, Char.ofNat 110, Char.ofNat 70, Char.ofNat 105, Char.ofNat 116, Char.ofNat 115, Char.ofNat 32, Char.ofNat 108, Char.ofNat 111, Char.ofNat 111, Char.ofNat 112, Char.ofNat 46, Char.ofNat 101, Char.ofNat 120, Char.ofNat 97, Char.ofNat 109, Char.ofNat 112, Char.ofNat 108, Char.ofNat 101, Char.ofNat 47, Char.ofNat 103, Char.ofNat 48, Char.ofNat 48, Char.ofNat 50, Char.ofNat 51, Char.ofNat 51, Char.ofNat 47, Char.ofNat 108, Char.ofNat 97, Char.ofNat 119, Char.ofNat 115, Char.ofNat 46, Char.ofNat 70, Char.ofNat 110, Char.ofNat 69, Char.ofNat 120, Char.ofNat 97, Char.ofNat 99, Char.ofNat 116, Char.ofNat 78, Char.ofNat 101, Char.ofNat 101, Char.ofNat 100, Char.ofNat 115, Char.ofNat 79, Char.ofNat 107, Char.ofNat 32, Char.ofNat 108, Char.ofNat 111, Char.ofNat 111, Char.ofNat 112, Char.ofNat 46, Char.ofNat 101, Char.ofNat 120, Char.ofNat 97, Char.ofNat 109, Char.ofNat 112, Char.ofNat 108, Char.ofNat 101, Char.ofNat 47, Char.ofNat 103, Char.ofNat 48, Char.ofNat 48, Char.ofNat 50, Char.ofNat 51, Char.ofNat 51, Char.ofNat 47, Char.ofNat 108, Char.ofNat 97, Char.ofNat 119, Char.ofNat 115, Char.ofNat 46, Char.ofNat 70, Char.ofNat 110, Char.ofNat 69, Char.ofNat 120, Char.ofNat 97, Char.ofNat 99, Char.ofNat 116, Char.ofNat 80, Char.ofNat 97, Char.ofNat 114, Char.ofNat 115, Char.ofNat 101, Char.ofNat 78, Char.ofNat 97, Char.ofNat 109, Char.ofNat 101, Char.ofNat 32, Char.ofNat 108, Char.ofNat 111, Char.ofNat 111, Char.ofNat 112, Char.ofNat 46, Char.ofNat 101, Char.ofNat 120, Char.ofNat 97, Char.ofNat 109, Char.ofNat 112, Char.ofNat 108, Char.ofNat 101, Char.ofNat 47, Char.ofNat 103, Char.ofNat 48, Char.ofNat 48, Char.ofNat 50, Char.ofNat 51, Char.ofNat 51, Char.ofNat 47, Char.ofNat 108, Char.ofNat 97, Char.ofNat 119, Char.ofNat 115, Char.ofNat 46, Char.ofNat 70, Char.ofNat 110, Char.ofNat 69, Char.ofNat 120, Char.ofNat 97, Char.ofNat 99, Char.ofNat 116, Char.ofNat 69, Char.ofNat 110, Char.ofNat 116, Char.ofNat 114, Char.ofNat 121, Char.ofNat 79, Char.ofNat 107]
set_option maxRecDepth 100000 in
theorem initOrder_lit : Tryd.pinned.checked.prog.initOrder = "harness ca20538b8ae1844212bbd2dcac9b02739c173303d55c1ed7aee058458b355a1f cut at loop.example/g00233/laws.FnExactFits loop.example/g00233/laws.FnExactNeedOk loop.example/g00233/laws.FnExactEntryName loop.example/g00233/laws.FnVersions loop.example/g00233/laws.FnModules loop.example/g00233/laws.FnFits loop.example/g00233/laws.FnExactNeedsOk loop.example/g00233/laws.FnExactParseName loop.example/g00233/laws.FnExactEntryOk" := by kernel_rfl
set_option maxRecDepth 100000 in
theorem lit_list : ("harness ca20538b8ae1844212bbd2dcac9b02739c173303d55c1ed7aee058458b355a1f cut at loop.example/g00233/laws.FnExactFits loop.example/g00233/laws.FnExactNeedOk loop.example/g00233/laws.FnExactEntryName loop.example/g00233/laws.FnVersions loop.example/g00233/laws.FnModules loop.example/g00233/laws.FnFits loop.example/g00233/laws.FnExactNeedsOk loop.example/g00233/laws.FnExactParseName loop.example/g00233/laws.FnExactEntryOk" : String) = String.ofList (Char.ofNat 104 :: Char.ofNat 97 :: Char.ofNat 114 :: Char.ofNat 110 :: Char.ofNat 101 :: Char.ofNat 115 :: Char.ofNat 115 :: Char.ofNat 32 :: Char.ofNat 99 :: Char.ofNat 97 :: Char.ofNat 50 :: Char.ofNat 48 :: Char.ofNat 53 :: Char.ofNat 51 :: Char.ofNat 56 :: Char.ofNat 98 :: Char.ofNat 56 :: Char.ofNat 97 :: Char.ofNat 101 :: Char.ofNat 49 :: Char.ofNat 56 :: Char.ofNat 52 :: Char.ofNat 52 :: Char.ofNat 50 :: Char.ofNat 49 :: Char.ofNat 50 :: Char.ofNat 98 :: Char.ofNat 98 :: Char.ofNat 100 :: Char.ofNat 50 :: Char.ofNat 100 :: Char.ofNat 99 :: Char.ofNat 97 :: Char.ofNat 99 :: Char.ofNat 57 :: Char.ofNat 98 :: Char.ofNat 48 :: Char.ofNat 50 :: Char.ofNat 55 :: Char.ofNat 51 :: Char.ofNat 57 :: Char.ofNat 99 :: Char.ofNat 49 :: Char.ofNat 55 :: Char.ofNat 51 :: Char.ofNat 51 :: Char.ofNat 48 :: Char.ofNat 51 :: Char.ofNat 100 :: Char.ofNat 53 :: Char.ofNat 53 :: Char.ofNat 99 :: Char.ofNat 49 :: Char.ofNat 101 :: Char.ofNat 100 :: Char.ofNat 55 :: Char.ofNat 97 :: Char.ofNat 101 :: Char.ofNat 101 :: Char.ofNat 48 :: Char.ofNat 53 :: Char.ofNat 56 :: Char.ofNat 52 :: Char.ofNat 53 :: Char.ofNat 56 :: Char.ofNat 98 :: Char.ofNat 51 :: Char.ofNat 53 :: Char.ofNat 53 :: Char.ofNat 97 :: Char.ofNat 49 :: Char.ofNat 102 :: Char.ofNat 32 :: Char.ofNat 99 :: Char.ofNat 117 :: Char.ofNat 116 :: Char.ofNat 32 :: Char.ofNat 97 :: Char.ofNat 116 :: Char.ofNat 32 :: tailSigns) := by kernel_rfl
theorem initOrder_list : Tryd.pinned.checked.prog.initOrder.toList = Char.ofNat 104 :: Char.ofNat 97 :: Char.ofNat 114 :: Char.ofNat 110 :: Char.ofNat 101 :: Char.ofNat 115 :: Char.ofNat 115 :: Char.ofNat 32 :: Char.ofNat 99 :: Char.ofNat 97 :: Char.ofNat 50 :: Char.ofNat 48 :: Char.ofNat 53 :: Char.ofNat 51 :: Char.ofNat 56 :: Char.ofNat 98 :: Char.ofNat 56 :: Char.ofNat 97 :: Char.ofNat 101 :: Char.ofNat 49 :: Char.ofNat 56 :: Char.ofNat 52 :: Char.ofNat 52 :: Char.ofNat 50 :: Char.ofNat 49 :: Char.ofNat 50 :: Char.ofNat 98 :: Char.ofNat 98 :: Char.ofNat 100 :: Char.ofNat 50 :: Char.ofNat 100 :: Char.ofNat 99 :: Char.ofNat 97 :: Char.ofNat 99 :: Char.ofNat 57 :: Char.ofNat 98 :: Char.ofNat 48 :: Char.ofNat 50 :: Char.ofNat 55 :: Char.ofNat 51 :: Char.ofNat 57 :: Char.ofNat 99 :: Char.ofNat 49 :: Char.ofNat 55 :: Char.ofNat 51 :: Char.ofNat 51 :: Char.ofNat 48 :: Char.ofNat 51 :: Char.ofNat 100 :: Char.ofNat 53 :: Char.ofNat 53 :: Char.ofNat 99 :: Char.ofNat 49 :: Char.ofNat 101 :: Char.ofNat 100 :: Char.ofNat 55 :: Char.ofNat 97 :: Char.ofNat 101 :: Char.ofNat 101 :: Char.ofNat 48 :: Char.ofNat 53 :: Char.ofNat 56 :: Char.ofNat 52 :: Char.ofNat 53 :: Char.ofNat 56 :: Char.ofNat 98 :: Char.ofNat 51 :: Char.ofNat 53 :: Char.ofNat 53 :: Char.ofNat 97 :: Char.ofNat 49 :: Char.ofNat 102 :: Char.ofNat 32 :: Char.ofNat 99 :: Char.ofNat 117 :: Char.ofNat 116 :: Char.ofNat 32 :: Char.ofNat 97 :: Char.ofNat 116 :: Char.ofNat 32 :: tailSigns := (congrArg String.toList (initOrder_lit.trans lit_list)).trans String.toList_ofList
theorem words_at (r : List Char) : wordsSigns (Char.ofNat 104 :: Char.ofNat 97 :: Char.ofNat 114 :: Char.ofNat 110 :: Char.ofNat 101 :: Char.ofNat 115 :: Char.ofNat 115 :: Char.ofNat 32 :: Char.ofNat 99 :: Char.ofNat 97 :: Char.ofNat 50 :: Char.ofNat 48 :: Char.ofNat 53 :: Char.ofNat 51 :: Char.ofNat 56 :: Char.ofNat 98 :: Char.ofNat 56 :: Char.ofNat 97 :: Char.ofNat 101 :: Char.ofNat 49 :: Char.ofNat 56 :: Char.ofNat 52 :: Char.ofNat 52 :: Char.ofNat 50 :: Char.ofNat 49 :: Char.ofNat 50 :: Char.ofNat 98 :: Char.ofNat 98 :: Char.ofNat 100 :: Char.ofNat 50 :: Char.ofNat 100 :: Char.ofNat 99 :: Char.ofNat 97 :: Char.ofNat 99 :: Char.ofNat 57 :: Char.ofNat 98 :: Char.ofNat 48 :: Char.ofNat 50 :: Char.ofNat 55 :: Char.ofNat 51 :: Char.ofNat 57 :: Char.ofNat 99 :: Char.ofNat 49 :: Char.ofNat 55 :: Char.ofNat 51 :: Char.ofNat 51 :: Char.ofNat 48 :: Char.ofNat 51 :: Char.ofNat 100 :: Char.ofNat 53 :: Char.ofNat 53 :: Char.ofNat 99 :: Char.ofNat 49 :: Char.ofNat 101 :: Char.ofNat 100 :: Char.ofNat 55 :: Char.ofNat 97 :: Char.ofNat 101 :: Char.ofNat 101 :: Char.ofNat 48 :: Char.ofNat 53 :: Char.ofNat 56 :: Char.ofNat 52 :: Char.ofNat 53 :: Char.ofNat 56 :: Char.ofNat 98 :: Char.ofNat 51 :: Char.ofNat 53 :: Char.ofNat 53 :: Char.ofNat 97 :: Char.ofNat 49 :: Char.ofNat 102 :: Char.ofNat 32 :: Char.ofNat 99 :: Char.ofNat 117 :: Char.ofNat 116 :: Char.ofNat 32 :: Char.ofNat 97 :: Char.ofNat 116 :: Char.ofNat 32 :: r) = [Char.ofNat 104, Char.ofNat 97, Char.ofNat 114, Char.ofNat 110, Char.ofNat 101, Char.ofNat 115, Char.ofNat 115] :: [Char.ofNat 99, Char.ofNat 97, Char.ofNat 50, Char.ofNat 48, Char.ofNat 53, Char.ofNat 51, Char.ofNat 56, Char.ofNat 98, Char.ofNat 56, Char.ofNat 97, Char.ofNat 101, Char.ofNat 49, Char.ofNat 56, Char.ofNat 52, Char.ofNat 52, Char.ofNat 50, Char.ofNat 49, Char.ofNat 50, Char.ofNat 98, Char.ofNat 98, Char.ofNat 100, Char.ofNat 50, Char.ofNat 100, Char.ofNat 99, Char.ofNat 97, Char.ofNat 99, Char.ofNat 57, Char.ofNat 98, Char.ofNat 48, Char.ofNat 50, Char.ofNat 55, Char.ofNat 51, Char.ofNat 57, Char.ofNat 99, Char.ofNat 49, Char.ofNat 55, Char.ofNat 51, Char.ofNat 51, Char.ofNat 48, Char.ofNat 51, Char.ofNat 100, Char.ofNat 53, Char.ofNat 53, Char.ofNat 99, Char.ofNat 49, Char.ofNat 101, Char.ofNat 100, Char.ofNat 55, Char.ofNat 97, Char.ofNat 101, Char.ofNat 101, Char.ofNat 48, Char.ofNat 53, Char.ofNat 56, Char.ofNat 52, Char.ofNat 53, Char.ofNat 56, Char.ofNat 98, Char.ofNat 51, Char.ofNat 53, Char.ofNat 53, Char.ofNat 97, Char.ofNat 49, Char.ofNat 102] :: [Char.ofNat 99, Char.ofNat 117, Char.ofNat 116] :: [Char.ofNat 97, Char.ofNat 116] :: wordsSigns r := by kernel_rfl
theorem behind_at (t : List (List Char)) : behindMainWord ([Char.ofNat 104, Char.ofNat 97, Char.ofNat 114, Char.ofNat 110, Char.ofNat 101, Char.ofNat 115, Char.ofNat 115] :: [Char.ofNat 99, Char.ofNat 97, Char.ofNat 50, Char.ofNat 48, Char.ofNat 53, Char.ofNat 51, Char.ofNat 56, Char.ofNat 98, Char.ofNat 56, Char.ofNat 97, Char.ofNat 101, Char.ofNat 49, Char.ofNat 56, Char.ofNat 52, Char.ofNat 52, Char.ofNat 50, Char.ofNat 49, Char.ofNat 50, Char.ofNat 98, Char.ofNat 98, Char.ofNat 100, Char.ofNat 50, Char.ofNat 100, Char.ofNat 99, Char.ofNat 97, Char.ofNat 99, Char.ofNat 57, Char.ofNat 98, Char.ofNat 48, Char.ofNat 50, Char.ofNat 55, Char.ofNat 51, Char.ofNat 57, Char.ofNat 99, Char.ofNat 49, Char.ofNat 55, Char.ofNat 51, Char.ofNat 51, Char.ofNat 48, Char.ofNat 51, Char.ofNat 100, Char.ofNat 53, Char.ofNat 53, Char.ofNat 99, Char.ofNat 49, Char.ofNat 101, Char.ofNat 100, Char.ofNat 55, Char.ofNat 97, Char.ofNat 101, Char.ofNat 101, Char.ofNat 48, Char.ofNat 53, Char.ofNat 56, Char.ofNat 52, Char.ofNat 53, Char.ofNat 56, Char.ofNat 98, Char.ofNat 51, Char.ofNat 53, Char.ofNat 53, Char.ofNat 97, Char.ofNat 49, Char.ofNat 102] :: [Char.ofNat 99, Char.ofNat 117, Char.ofNat 116] :: [Char.ofNat 97, Char.ofNat 116] :: t) = [Char.ofNat 99, Char.ofNat 117, Char.ofNat 116] :: [Char.ofNat 97, Char.ofNat 116] :: t := by kernel_rfl
theorem behind_all : behindMainWord (wordsSigns Tryd.pinned.checked.prog.initOrder.toList) = [Char.ofNat 99, Char.ofNat 117, Char.ofNat 116] :: [Char.ofNat 97, Char.ofNat 116] :: wordsSigns tailSigns := by rw [initOrder_list, words_at, behind_at]
theorem make_of (c : List Char) (rest : List (List Char)) (P : Program) (h0 : (c == "gc".toList) = false) (h1 : (c == "spec".toList) = false) (h2 : (c == "cut".toList) = true) (h : behindMainWord (wordsSigns P.initOrder.toList) = c :: rest) : P.make = some .cut := by
  unfold Program.make
  rw [h]
  simp only [h0, h1, h2]
  rfl
theorem mayEnter_of (c : List Char) (rest : List (List Char)) (P : Program) (h0 : (c == "gc".toList) = false) (h1 : (c == "spec".toList) = false) (h2 : (c == "carried".toList) = false) (h : behindMainWord (wordsSigns P.initOrder.toList) = c :: rest)
    (h3 : ((stripLifts liftWords (c :: rest)).2.head? == some "cut".toList) = true) (h4 : P.laysLater = false) (h5 : P.bearsReflect = false) (h6 : P.doorFits (stripLifts liftWords (c :: rest)).1 = true) (h7 : (stripLifts liftWords (c :: rest)).1.contains "leanrows" = false) : P.mayEnter = true := by
  unfold Program.mayEnter
  rw [h]
  simp only [h0, h1, h2, h3, h4, h5, h6, h7]
  simp
theorem liftsFinal_of (c : List Char) (rest : List (List Char)) (P : Program) (h2 : (some c == some "carried".toList) = false) (h : behindMainWord (wordsSigns P.initOrder.toList) = c :: rest)
    (h3 : ((stripLifts liftWords (c :: rest)).2.head? == some "cut".toList) = true) (h7 : (stripLifts liftWords (c :: rest)).1.contains "finals" = false) : P.liftsFinal = false := by
  unfold Program.liftsFinal Program.headLifts
  rw [h]
  simp only [List.head?_cons, h2, h3, if_true, h7, Bool.false_and, Bool.or_self]
theorem strip_at (t : List (List Char)) : stripLifts liftWords ([Char.ofNat 99, Char.ofNat 117, Char.ofNat 116] :: [Char.ofNat 97, Char.ofNat 116] :: t) = ([], [Char.ofNat 99, Char.ofNat 117, Char.ofNat 116] :: [Char.ofNat 97, Char.ofNat 116] :: t) := by kernel_rfl
theorem laysLater_at : Tryd.pinned.checked.prog.laysLater = false := by kernel_rfl
theorem bearsReflect_at : Tryd.pinned.checked.prog.bearsReflect = false := by kernel_rfl
theorem doorFits_at : Tryd.pinned.checked.prog.doorFits [] = true := by kernel_rfl
theorem mayEnter_at : Tryd.pinned.checked.prog.mayEnter = true :=
  mayEnter_of _ _ _ (by kernel_rfl) (by kernel_rfl) (by kernel_rfl) behind_all (by rw [strip_at]; generalize wordsSigns tailSigns = t; kernel_rfl) laysLater_at bearsReflect_at (by rw [strip_at]; exact doorFits_at) (by rw [strip_at]; rfl)
theorem liftsFinal_at : Tryd.pinned.checked.prog.liftsFinal = false :=
  liftsFinal_of _ _ _ (by kernel_rfl) behind_all (by rw [strip_at]; generalize wordsSigns tailSigns = t; kernel_rfl) (by rw [strip_at]; rfl)
theorem make_at : Tryd.pinned.checked.prog.make = some .cut := make_of _ _ _ (by kernel_rfl) (by kernel_rfl) (by kernel_rfl) behind_all
end Go.Proofs.YtkofdkinaahbpaaDoor.Y

/- A world for the witnesses: the settled one, the listed tables holding what their initialisers lay. No conditions. -/
namespace Go.Proofs.YtkofdkinaahbpaaDoor.Y
open Go.ChangeShapes Go.WideShapes Go.ChangeAt Go.RowKit
noncomputable def laidWorld (os : Os) : World :=
  { World.holding Tryd.prog os ⟨#[], #[], []⟩ with heap := ((((((((((World.holding Tryd.prog os ⟨#[], #[], []⟩).heap).modify 1 (fun o => match o with | .cells _ t z => .cells #[Value.int .u64 1, Value.int .u64 10, Value.int .u64 100, Value.int .u64 1000, Value.int .u64 10000, Value.int .u64 100000, Value.int .u64 1000000, Value.int .u64 10000000, Value.int .u64 100000000, Value.int .u64 1000000000, Value.int .u64 10000000000, Value.int .u64 100000000000, Value.int .u64 1000000000000, Value.int .u64 10000000000000, Value.int .u64 100000000000000, Value.int .u64 1000000000000000, Value.int .u64 10000000000000000, Value.int .u64 100000000000000000, Value.int .u64 1000000000000000000, Value.int .u64 10000000000000000000] t z | o => o)).modify 4 (fun o => match o with | .cells _ t z => .cells ((Go.Pinned.utf8FirstZ.map fun (n : Nat) => Value.int .u8 (n : Int)).toArray) t z | o => o)).modify 5 (fun o => match o with | .cells _ t z => .cells #[Value.int .u8 128, Value.int .u8 191, Value.int .u8 160, Value.int .u8 191, Value.int .u8 128, Value.int .u8 159, Value.int .u8 144, Value.int .u8 191, Value.int .u8 128, Value.int .u8 143, Value.int .u8 0, Value.int .u8 0, Value.int .u8 0, Value.int .u8 0, Value.int .u8 0, Value.int .u8 0, Value.int .u8 0, Value.int .u8 0, Value.int .u8 0, Value.int .u8 0, Value.int .u8 0, Value.int .u8 0, Value.int .u8 0, Value.int .u8 0, Value.int .u8 0, Value.int .u8 0, Value.int .u8 0, Value.int .u8 0, Value.int .u8 0, Value.int .u8 0, Value.int .u8 0, Value.int .u8 0] t z | o => o)).modify 6 (fun o => match o with | .cells _ t z => .cells #[Value.int .u8 0, Value.int .u8 1, Value.int .u8 28, Value.int .u8 2, Value.int .u8 29, Value.int .u8 14, Value.int .u8 24, Value.int .u8 3, Value.int .u8 30, Value.int .u8 22, Value.int .u8 20, Value.int .u8 15, Value.int .u8 25, Value.int .u8 17, Value.int .u8 4, Value.int .u8 8, Value.int .u8 31, Value.int .u8 27, Value.int .u8 13, Value.int .u8 23, Value.int .u8 21, Value.int .u8 19, Value.int .u8 16, Value.int .u8 7, Value.int .u8 26, Value.int .u8 12, Value.int .u8 18, Value.int .u8 6, Value.int .u8 11, Value.int .u8 5, Value.int .u8 10, Value.int .u8 9] t z | o => o)).modify 7 (fun o => match o with | .cells _ t z => .cells #[Value.int .u8 0, Value.int .u8 1, Value.int .u8 56, Value.int .u8 2, Value.int .u8 57, Value.int .u8 49, Value.int .u8 28, Value.int .u8 3, Value.int .u8 61, Value.int .u8 58, Value.int .u8 42, Value.int .u8 50, Value.int .u8 38, Value.int .u8 29, Value.int .u8 17, Value.int .u8 4, Value.int .u8 62, Value.int .u8 47, Value.int .u8 59, Value.int .u8 36, Value.int .u8 45, Value.int .u8 43, Value.int .u8 51, Value.int .u8 22, Value.int .u8 53, Value.int .u8 39, Value.int .u8 33, Value.int .u8 30, Value.int .u8 24, Value.int .u8 18, Value.int .u8 12, Value.int .u8 5, Value.int .u8 63, Value.int .u8 55, Value.int .u8 48, Value.int .u8 27, Value.int .u8 60, Value.int .u8 41, Value.int .u8 37, Value.int .u8 16, Value.int .u8 46, Value.int .u8 35, Value.int .u8 44, Value.int .u8 21, Value.int .u8 52, Value.int .u8 32, Value.int .u8 23, Value.int .u8 11, Value.int .u8 54, Value.int .u8 26, Value.int .u8 40, Value.int .u8 15, Value.int .u8 34, Value.int .u8 20, Value.int .u8 31, Value.int .u8 10, Value.int .u8 25, Value.int .u8 14, Value.int .u8 19, Value.int .u8 9, Value.int .u8 13, Value.int .u8 8, Value.int .u8 7, Value.int .u8 6] t z | o => o)).modify 2 (fun o => match o with | .cells _ t z => .cells #[Value.iface 150 (.pointer (some ⟨(World.holding Tryd.prog os ⟨#[], #[], []⟩).heap.size + 0, 0, none⟩))] t z | o => o)).push (.cells #[Value.string ⟨#[105, 110, 118, 97, 108, 105, 100, 32, 115, 121, 110, 116, 97, 120]⟩] 152 (0, 0))).modify 3 (fun o => match o with | .cells _ t z => .cells #[Value.iface 150 (.pointer (some ⟨(World.holding Tryd.prog os ⟨#[], #[], []⟩).heap.size + 1, 0, none⟩))] t z | o => o)).push (.cells #[Value.string ⟨#[118, 97, 108, 117, 101, 32, 111, 117, 116, 32, 111, 102, 32, 114, 97, 110, 103, 101]⟩] 152 (0, 0)) }
end Go.Proofs.YtkofdkinaahbpaaDoor.Y
