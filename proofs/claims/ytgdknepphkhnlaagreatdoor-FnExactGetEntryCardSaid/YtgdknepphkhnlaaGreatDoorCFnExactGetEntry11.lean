/- The law FnExactGetEntry, as a plain statement: the program's GetEntry answers as the reference's, and shares no memory with another call's answer. Conditions: those of the row's reading alone. -/
/- Part 12 of 13 of this claim's texts. -/
import Derived.Deep.Slices
import Derived.ChangeArms
import Derived.WideShapes
import Derived.DataReads
import Derived.Test.YtgdknepphkhnlaaGreatDoorRows
import Derived.WalkKit
import Derived.ProofKit
import Derived.Test.YtgdknepphkhnlaaGreatDoorCFnExactGetEntry0
import Derived.Test.YtgdknepphkhnlaaGreatDoorCFnExactGetEntry1
import Derived.Test.YtgdknepphkhnlaaGreatDoorCFnExactGetEntry4
import Derived.Test.YtgdknepphkhnlaaGreatDoorCFnExactGetEntry8
import Derived.Test.YtgdknepphkhnlaaGreatDoorCFnExactGetEntry9
import Derived.Test.YtgdknepphkhnlaaGreatDoorCFnExactGetEntry10
/- What GetEntry computes, the program's and the reference's: the same; and what is read is right and has that text. Plain lemmas. -/
set_option linter.unusedVariables false
namespace Go.Proofs.YtgdknepphkhnlaaGreatDoor.Z
open Go.RowKit Go.Proofs.YtgdknepphkhnlaaGreatDoorW.PrintWords Go.Proofs.YtgdknepphkhnlaaGreatDoorW.PrintMore Go.Proofs.YtgdknepphkhnlaaGreatDoor.X Go.Proofs.YtgdknepphkhnlaaGreatDoor.Sp
theorem bytes_wf (s : ByteArray) : ∀ x ∈ bytesOf s, (Lit.int .u8 x).wf = true := by
 intro x hx
 simp only [bytesOf, List.mem_map] at hx
 obtain ⟨b, _, rfl⟩ := hx
 have := b.toNat_lt
 simp [Lit.wf, IntKind.min, IntKind.max, IntKind.signed, IntKind.bits]
 omega
theorem str_of_bytes (s : ByteArray) : strOfNums (bytesOf s) = s := by
 cases s with
 | mk d =>
  have h : ((fun n : Int => UInt8.ofNat n.toNat) ∘ fun b : UInt8 => (b.toNat : Int)) = id := by
   funext b
   simp
  simp [strOfNums, bytesOf, h]
theorem strOf_len (l : List Int) : (strOfNums l).size = l.length := by simp [strOfNums, ByteArray.size]
theorem text_none (b : List Int) (hb : ∀ x ∈ b, (Lit.int .u8 x).wf = true) (hl : b.length ≤ 140737488355328) (a : Int) (r : ByteArray × Int × Bool) (h : Ev (fun k => impl_GetText.f k b a) r) (hr : r.2.2 = false) : r = ((⟨#[]⟩ : ByteArray), (0 : Int), false) := by
 obtain ⟨t, _, e2, g⟩ := getNum_both b hb hl a
 have er := ev_one (implText_of hl e2 g) h
 subst er
 unfold textOf at hr ⊢
 split at hr
 ·rename_i ht
  split at hr
  ·rename_i hle
   rw [if_pos ht, if_pos hle]
  ·cases hr
 ·rename_i ht
  rw [if_neg ht]
theorem pname_need (s : ByteArray) (hs : s.size ≤ 1048576) : (Ev (fun k => impl_ParseName.f k s) noN ∧ Ev (fun k => spec_ParseName.f k s) noN) ∨ ∃ y : S35, Ev (fun k => impl_ParseName.f k s) (y.f0, y.f1.f0, y.f1.f1, y.f1.f2, y.f1.f3, true) ∧
  Ev (fun k => spec_ParseName.f k s) (y.f0, y.f1.f0, y.f1.f1, y.f1.f2, y.f1.f3, true) ∧ y.f0.size ≤ s.size ∧ y.f1.f3.size ≤ s.size ∧ fitsN y ∧ nmN y = s := by
 obtain ⟨⟨a, b, c, d, e, ok⟩, h1, h2, h3⟩ := pname_both s hs
 rcases h3 with h3 | ⟨h3, z1, z2, f1, n1⟩
 ·rw [h3] at h1 h2
  exact .inl ⟨h1, h2⟩
 ·simp only at h3 z1 z2 f1 n1
  subst h3
  refine .inr ⟨⟨a, ⟨b, c, d, e⟩⟩, h1, h2, z1, z2, ?_⟩
  obtain ⟨r, g1, g2, _⟩ := fits_both a b c d e zq zq
  have hr := ev_one g1 f1
  subst hr
  refine ⟨⟨g1, g2⟩, ?_⟩
  exact ev_one (name_both a b c d e true zq zq g1 g2).1 n1
abbrev E7 := ByteArray × Int × Int × Int × ByteArray × List S35 × Bool
def noE : E7 := (⟨#[]⟩, 0, 0, 0, ⟨#[]⟩, [], false)
theorem names_loop (x : ByteArray) (L : List ByteArray) (hL : L.length ≤ 200) (hs : ∀ y ∈ L, y.size ≤ 1048576) (s : ByteArray) (a b c : Int) (p : ByteArray) (d : Nat) : ∀ (i : Nat) (acc : List S35), i + d = L.length → acc.length = i →
  (Ev (fun k => impl_GetEntry.l0 k x L (L.length : Int) (i : Int) s a b c p acc) noE ∧ Ev (fun k => spec_GetEntry.l0 k L (i : Int) (⟨#[]⟩ : ByteArray) 0 0 0 (⟨#[]⟩ : ByteArray) s a b c p acc) noE) ∨
  ∃ M : List S35, M.map nmN = L.drop i ∧ (∀ y ∈ M, smallN y ∧ fitsN y) ∧
   (∀ r, Ev (fun k => impl_GetEntry.l0 k x L (L.length : Int) (L.length : Int) s a b c p (acc ++ M)) r → Ev (fun k => impl_GetEntry.l0 k x L (L.length : Int) (i : Int) s a b c p acc) r) ∧
   (∀ r, Ev (fun k => spec_GetEntry.l0 k L (L.length : Int) (⟨#[]⟩ : ByteArray) 0 0 0 (⟨#[]⟩ : ByteArray) s a b c p (acc ++ M)) r → Ev (fun k => spec_GetEntry.l0 k L (i : Int) (⟨#[]⟩ : ByteArray) 0 0 0 (⟨#[]⟩ : ByteArray) s a b c p acc) r) := by
 induction d with
 | zero =>
  intro i acc hi ha
  refine .inr ⟨[], ?_, (fun y hy => (by cases hy)), fun r hr => ?_, fun r hr => ?_⟩
  ·rw [List.drop_eq_nil_of_le zq]
   rfl
  ·rw [List.append_nil] at hr
   rw [show (i : Int) = (L.length : Int) by omega]
   exact hr
  ·rw [List.append_nil] at hr
   rw [show (i : Int) = (L.length : Int) by omega]
   exact hr
 | succ d ih =>
  intro i acc hi ha
  have il : i < L.length := by omega
  have hd := drop_rd L i il
  have hm := hs _ (List.mem_of_getElem? (rdOf_get (d := ByteArray.empty) il))
  rcases pname_need (rdOf ByteArray.empty L (i : Int)) hm with ⟨n1, n2⟩ | ⟨y, n1, n2, z1, z2, hf, hn⟩
  ·refine .inl ⟨?_, ?_⟩
   ·refine evS (fun k => by rw [impl_GetEntry.l0]) ?_
    exact evT zq (evT zq (evT zq (evB n1 (evF Bool.false_ne_true (evR rfl)))))
   ·refine evS (fun k => by rw [spec_GetEntry.l0]) ?_
    exact evT zq (evT zq (evB n2 (evF Bool.false_ne_true (evR rfl))))
  ·have hI : ∀ r, Ev (fun k => impl_GetEntry.l0 k x L (L.length : Int) ((i + 1 : Nat) : Int) s a b c p (acc ++ [y])) r → Ev (fun k => impl_GetEntry.l0 k x L (L.length : Int) (i : Int) s a b c p acc) r := by
    intro r hr
    refine evS (fun k => by rw [impl_GetEntry.l0]) ?_
    rw [w64s il zq]
    exact evT zq (evT zq (evT zq (evB n1 (evT rfl (evT zq hr)))))
   have hS : ∀ r, Ev (fun k => spec_GetEntry.l0 k L ((i + 1 : Nat) : Int) (⟨#[]⟩ : ByteArray) 0 0 0 (⟨#[]⟩ : ByteArray) s a b c p (acc ++ [y])) r → Ev (fun k => spec_GetEntry.l0 k L (i : Int) (⟨#[]⟩ : ByteArray) 0 0 0 (⟨#[]⟩ : ByteArray) s a b c p acc) r := by
    intro r hr
    refine evS (fun k => by rw [spec_GetEntry.l0]) ?_
    rw [w64s il zq]
    exact evT zq (evT zq (evB n2 (evT rfl (evT zq hr))))
   rcases ih (i + 1) (acc ++ [y]) zq (by rw [List.length_append, ha]; rfl) with ⟨q1, q2⟩ | ⟨M, m1, m2, m3, m4⟩
   ·exact .inl ⟨hI _ q1, hS _ q2⟩
   ·refine .inr ⟨y :: M, ?_, ?_, fun r hr => ?_, fun r hr => ?_⟩
    ·rw [List.map_cons, m1, hn, hd]
    ·intro z hz
     rcases List.mem_cons.1 hz with rfl | hz
     ·exact ⟨⟨zq, zq⟩, hf⟩
     ·exact m2 z hz
    ·exact hI r (m3 r (by rw [List.append_assoc]; exact hr))
    ·exact hS r (m4 r (by rw [List.append_assoc]; exact hr))
def GotE (s : ByteArray) (r : E7) : Prop := r = noE ∨ r.2.2.2.2.2.2 = true ∧ r.1.size ≤ 1048576 ∧ r.2.2.2.2.1.size ≤ 1048576 ∧ r.2.2.2.2.2.1.length ≤ 8 ∧ (∀ y ∈ r.2.2.2.2.2.1, smallN y) ∧
 Ev (fun k => impl_EntryOk.f k r.1 r.2.1 r.2.2.1 r.2.2.2.1 r.2.2.2.2.1 r.2.2.2.2.2.1) true ∧ Ev (fun k => impl_PutEntry.f k r.1 r.2.1 r.2.2.1 r.2.2.2.1 r.2.2.2.2.1 r.2.2.2.2.2.1) s
theorem getE_both (s : ByteArray) (hs : s.size ≤ 1048576) : ∃ r : E7, Ev (fun k => impl_GetEntry.f k s) r ∧ Ev (fun k => spec_GetEntry.f k s) r ∧ GotE s r := by
 have hb := bytes_wf s
 have hl : (bytesOf s).length ≤ 1048576 := by rw [bytesOf_length]; exact hs
 obtain ⟨B, hB⟩ : ∃ B, bytesOf s = B := ⟨_, rfl⟩
 have hBs : strOfNums B = s := by rw [← hB]; exact str_of_bytes s
 rw [hB] at hb hl
 obtain ⟨⟨t1, t2, t3⟩, ts, ti, tg⟩ := getText_both B hb zq 0
 have hno : ∀ (u : List ByteArray × Int × Bool) (n : N6), Ev (fun k => spec_GetTexts.f k B t2) u → Ev (fun k => impl_getter_texts.f k B t2 (!t3)) (if t3 = true ∧ u.2.2 = true then u.1 else [], if t3 = true ∧ u.2.2 = true then u.2.1 else t2, !(t3 && u.2.2)) →
   Ev (fun k => impl_getter_text.f k B 0 false) (t1, t2, !t3) → Ev (fun k => impl_ParseName.f k t1) n → Ev (fun k => spec_ParseName.f k t1) n → (t3 && u.2.2 && n.2.2.2.2.2) = false →
   Ev (fun k => impl_GetEntry.f k s) noE ∧ Ev (fun k => spec_GetEntry.f k s) noE := by
  intro u n us ui tt n1 n2 hz
  constructor
  ·unfold impl_GetEntry.f
   rw [hB]
   refine evT zq (evC rfl (evB tt (evB ui (evB n1 ?_))))
   cases h3 : (t3 && u.2.2) with
   | false =>
    refine evT rfl (evS (fun k => by rw [impl_GetEntry.j0]) ?_)
    exact evT rfl (evR rfl)
   | true =>
    rw [h3, Bool.true_and] at hz
    refine evF (by show ¬ ((!true) = true); decide) (evS (fun k => by rw [impl_GetEntry.j0]) ?_)
    refine evT ?_ (evR rfl)
    rw [hz]
    rfl
  ·unfold spec_GetEntry.f
   rw [hB]
   refine evT zq (evC rfl (evB ts (evB us (evB n2 ?_))))
   have hj : ∀ m, Ev (fun k => spec_GetEntry.j0 k u.1 true (⟨#[]⟩ : ByteArray) 0 0 0 (⟨#[]⟩ : ByteArray) n.1 n.2.1 n.2.2.1 n.2.2.2.1 m) noE := by
    intro m
    refine evS (fun k => by rw [spec_GetEntry.j0]) ?_
    exact evT rfl (evR rfl)
   cases t3 with
   | false => exact evF Bool.false_ne_true (hj _)
   | true =>
    refine evT rfl ?_
    cases h3 : u.2.2 with
    | false => exact evF Bool.false_ne_true (hj _)
    | true =>
     refine evT rfl ?_
     rw [h3] at hz
     refine evF (fun e => ?_) (hj _)
     rw [e] at hz
     cases hz
 have tt : Ev (fun k => impl_getter_text.f k B 0 false) (t1, t2, !t3) := by
  unfold impl_getter_text.f
  refine evB ti (evF Bool.false_ne_true ?_)
  cases t3 with
  | true => exact evT rfl (evR rfl)
  | false =>
   refine evF Bool.false_ne_true (evR ?_)
   have h0 : (t1, t2, false) = ((⟨#[]⟩ : ByteArray), (0 : Int), false) := text_none B hb zq 0 _ ti rfl
   injection h0 with h1 h2
   injection h2 with h2 _
   rw [h1, h2]
   rfl
 have ht1 : t1.size ≤ 1048576 := by
  cases t3 with
  | true =>
   obtain ⟨_, c2, c3, c4⟩ := getText_canon B hb zq 0 _ ti rfl
   simp only at c3 c4
   omega
  | false =>
   have h0 : (t1, t2, false) = ((⟨#[]⟩ : ByteArray), (0 : Int), false) := text_none B hb zq 0 _ ti rfl
   injection h0 with h1 h2
   rw [h1]
   decide
 obtain ⟨⟨u1, u2, u3⟩, us, ui, _⟩ := getTexts_both B hb zq t2
 have uu : Ev (fun k => impl_getter_texts.f k B t2 (!t3)) (if t3 = true ∧ u3 = true then u1 else [], if t3 = true ∧ u3 = true then u2 else t2, !(t3 && u3)) := by
  unfold impl_getter_texts.f
  refine evB ui ?_
  cases t3 with
  | false => exact evT rfl (evR (by simp))
  | true =>
   refine evF z1g ?_
   cases u3 with
   | true => exact evT rfl (evR (by simp))
   | false => exact evF Bool.false_ne_true (evR (by simp))
 rcases pname_need t1 ht1 with ⟨n1, n2⟩ | ⟨y, n1, n2, z1, z2, hf, hn⟩
 ·obtain ⟨q1, q2⟩ := hno (u1, u2, u3) noN us uu tt n1 n2 (by simp [noN])
  exact ⟨noE, q1, q2, .inl rfl⟩
 cases h3 : (t3 && u3) with
 | false =>
  obtain ⟨q1, q2⟩ := hno (u1, u2, u3) _ us uu tt n1 n2 (by simp only [h3, Bool.false_and])
  exact ⟨noE, q1, q2, .inl rfl⟩
 | true =>
  rw [Bool.and_eq_true] at h3
  obtain ⟨rfl, rfl⟩ := h3
  obtain ⟨c1, c2, c3, c4⟩ := getText_canon B hb zq 0 _ ti rfl
  simp only [Nat.zero_add, List.drop_zero] at c1 c2 c3 c4
  subst c1
  obtain ⟨d1, d2, d3, d4, d5⟩ := getTexts_canon B hb zq _ _ ui rfl
  simp only at d1 d2 d3 d4 d5
  subst d1
  obtain ⟨E, hE⟩ : ∃ E : List Int, encT t1 ++ (encN 4 u1.length ++ encL u1) = E := ⟨_, rfl⟩
  have hEl : (encT t1).length + (encN 4 u1.length ++ encL u1).length = E.length := by
   have he := congrArg List.length hE
   rw [List.length_append] at he
   exact he
  have hBE : B = E ++ B.drop E.length := by
   rw [d2, hEl, ← List.append_assoc, hE] at c2
   exact c2
  rw [hEl] at d4
  have uu' : Ev (fun k => impl_getter_texts.f k B ((encT t1).length : Int) false) (u1, (((encT t1).length + (encN 4 u1.length ++ encL u1).length : Nat) : Int), false) := uu
  have hI : ∀ r, Ev (fun k => impl_GetEntry.l0 k s u1 (u1.length : Int) 0 y.f0 y.f1.f0 y.f1.f1 y.f1.f2 y.f1.f3 []) r → Ev (fun k => impl_GetEntry.f k s) r := by
   intro r hr
   unfold impl_GetEntry.f
   rw [hB]
   refine evT zq (evC rfl (evB tt (evB uu' (evB n1 (evF Bool.false_ne_true ?_)))))
   refine evS (fun k => by rw [impl_GetEntry.j0]) ?_
   exact evF (by show ¬ ((!true) = true); decide) hr
  by_cases hq : E.length = B.length
  ·have hBB : B = E := by
    rw [hBE, List.drop_eq_nil_of_le zq, List.append_nil]
   have hS : ∀ r, Ev (fun k => spec_GetEntry.l0 k u1 0 (⟨#[]⟩ : ByteArray) 0 0 0 (⟨#[]⟩ : ByteArray) y.f0 y.f1.f0 y.f1.f1 y.f1.f2 y.f1.f3 []) r → Ev (fun k => spec_GetEntry.f k s) r := by
    intro r hr
    unfold spec_GetEntry.f
    rw [hB]
    refine evT zq (evC rfl (evB ts (evB us (evB n2 (evT rfl (evT rfl (evT rfl ?_)))))))
    refine evS (fun k => by rw [spec_GetEntry.j0]) ?_
    refine evF ?_ hr
    show ¬ ((((((encT t1).length + (encN 4 u1.length ++ encL u1).length : Nat) : Int) != (B.length : Int))) = true)
    rw [hEl, hq]
    simp
   rcases names_loop s u1 d3 (fun z hz => by have := d5 z hz; omega) y.f0 y.f1.f0 y.f1.f1 y.f1.f2 y.f1.f3 u1.length 0 [] zq rfl with ⟨q1, q2⟩ | ⟨M, m1, m2, m3, m4⟩
   ·exact ⟨noE, hI _ q1, hS _ q2, .inl rfl⟩
   ·rw [List.drop_zero] at m1
    rw [List.nil_append] at m3 m4
    have hMl : M.length = u1.length := by rw [← m1, List.length_map]
    obtain ⟨r, o1, o2, o3, _⟩ := putE_both y.f0 y.f1.f0 y.f1.f1 y.f1.f2 y.f1.f3 M zq zq zq (fun z hz => (m2 z hz).1)
    have hen : encE y.f0 y.f1.f0 y.f1.f1 y.f1.f2 y.f1.f3 M = B := by
     rw [hBB, ← hE]
     unfold encE
     rw [m1, near_of zq]
     congr 1
     exact congrArg encT hn
    rw [hen, hBs] at o3
    cases r with
    | false =>
     refine ⟨noE, hI _ (m3 _ ?_), hS _ (m4 _ ?_), .inl rfl⟩
     ·refine evS (fun k => by rw [impl_GetEntry.l0]) ?_
      refine evF zq (evB o3 (evF ?_ (evR rfl)))
      intro e
      have e2 : (⟨#[]⟩ : ByteArray) = s := tl_inj.1 e
      have h0 : s.size = 0 := by rw [← e2]; rfl
      rw [← hBs, strOf_len] at h0
      omega
     ·refine evS (fun k => by rw [spec_GetEntry.l0]) ?_
      refine evF zq (evB o2 (evF Bool.false_ne_true (evR rfl)))
    | true =>
     obtain ⟨_, f2, _, _⟩ := entry_true y.f0 y.f1.f0 y.f1.f1 y.f1.f2 y.f1.f3 M zq zq zq (fun z hz => (m2 z hz).1) o2
     refine ⟨(y.f0, y.f1.f0, y.f1.f1, y.f1.f2, y.f1.f3, M, true), hI _ (m3 _ ?_), hS _ (m4 _ ?_), .inr ⟨rfl, by show y.f0.size ≤ _; omega, by show y.f1.f3.size ≤ _; omega, f2, fun z hz => (m2 z hz).1, o1, o3⟩⟩
     ·refine evS (fun k => by rw [impl_GetEntry.l0]) ?_
      exact evF zq (evB o3 (evT rfl (evR rfl)))
     ·refine evS (fun k => by rw [spec_GetEntry.l0]) ?_
      exact evF zq (evB o2 (evT rfl (evR rfl)))
  ·have hS : Ev (fun k => spec_GetEntry.f k s) noE := by
    unfold spec_GetEntry.f
    rw [hB]
    refine evT zq (evC rfl (evB ts (evB us (evB n2 (evT rfl (evT rfl (evT rfl ?_)))))))
    refine evS (fun k => by rw [spec_GetEntry.j0]) ?_
    refine evT ?_ (evR rfl)
    show ((((((encT t1).length + (encN 4 u1.length ++ encL u1).length : Nat) : Int) != (B.length : Int))) = true)
    rw [hEl]
    exact bne_iff_ne.2 zq
   rcases names_loop s u1 d3 (fun z hz => by have := d5 z hz; omega) y.f0 y.f1.f0 y.f1.f1 y.f1.f2 y.f1.f3 u1.length 0 [] zq rfl with ⟨q1, _⟩ | ⟨M, m1, m2, m3, m4⟩
   ·exact ⟨noE, hI _ q1, hS, .inl rfl⟩
   ·rw [List.drop_zero] at m1
    rw [List.nil_append] at m3
    have hMl : M.length = u1.length := by rw [← m1, List.length_map]
    obtain ⟨r, o1, o2, o3, _⟩ := putE_both y.f0 y.f1.f0 y.f1.f1 y.f1.f2 y.f1.f3 M zq zq zq (fun z hz => (m2 z hz).1)
    have hen : encE y.f0 y.f1.f0 y.f1.f1 y.f1.f2 y.f1.f3 M = E := by
     rw [← hE]
     unfold encE
     rw [m1, near_of zq]
     congr 1
     exact congrArg encT hn
    rw [hen] at o3
    refine ⟨noE, hI _ (m3 _ ?_), hS, .inl rfl⟩
    refine evS (fun k => by rw [impl_GetEntry.l0]) ?_
    refine evF zq (evB o3 (evF ?_ (evR rfl)))
    intro e
    have e2 := tl_inj.1 e
    have hsz : s.size = B.length := by rw [← hBs, strOf_len]
    cases r with
    | false =>
     have h0 : s.size = 0 := by rw [← e2]; rfl
     omega
    | true =>
     have h0 : s.size = E.length := by rw [← e2]; exact strOf_len E
     omega
end Go.Proofs.YtgdknepphkhnlaaGreatDoor.Z

namespace Go.Proofs.YtgdknepphkhnlaaGreatDoor.X
open Go.RowKit Go.Proofs.YtgdknepphkhnlaaGreatDoorW.PrintWords Go.Proofs.YtgdknepphkhnlaaGreatDoorW.PrintLast Go.Proofs.YtgdknepphkhnlaaGreatDoorW.PrintMore
attribute [local go_sem] max2_int min2_int max_two min_two max_three min_three max_four min_four
set_option linter.unusedVariables false
set_option linter.unusedSimpArgs false
def laws_szVersion.f (a0_0 : Int) (a0_1 : Int) (a0_2 : Int) (a0_3 : ByteArray) (a1 : Int) : Option (Int) := if (wrap64 (a1 - (a0_3.size : Int))) < 0 then (some (-1)) else (some (wrap64 (a1 - (a0_3.size : Int))))
def laws_szNeed.f (a0_0 : ByteArray) (a0_1 : Int) (a0_2 : Int) (a0_3 : Int) (a0_4 : ByteArray) (a1 : Int) : Option (Int) := if (wrap64 (a1 - (a0_0.size : Int))) < 0 then (some (-1)) else ((laws_szVersion.f a0_1 a0_2 a0_3 a0_4 (wrap64 (a1 - (a0_0.size : Int)))).bind fun t228 => (if t228 < 0 then (some (-1)) else (some t228)))
def laws_szNeedS.l0 : Nat → List (S110) → Int → Int → Option (Int)
 | 0, _, _, _ => none
 | k + 1, x0, x1, x5 => if x5 < (x0.length : Int) then (if 0 ≤ x5 then ((laws_szNeed.f ((rd_T110 x0 x5).f0) ((rd_T110 x0 x5).f1.f0) ((rd_T110 x0 x5).f1.f1) ((rd_T110 x0 x5).f1.f2) ((rd_T110 x0 x5).f1.f3) x1).bind fun t230 => (if t230 < 0 then (some (-1)) else (laws_szNeedS.l0 k x0 t230 (wrap64 (x5 + 1))))) else (none)) else (some x1)
def laws_szNeedS.f (k : Nat) (l0 : List (S110)) (a1 : Int) : Option (Int) := if (wrap64 (a1 - (l0.length : Int))) < 0 then (some (-1)) else (laws_szNeedS.l0 k l0 (wrap64 (a1 - (l0.length : Int))) 0)
def laws_toVersion.f (a0_0 : Int) (a0_1 : Int) (a0_2 : Int) (a0_3 : ByteArray) : Option (Int × Int × Int × ByteArray) := some (a0_0, a0_1, a0_2, a0_3)
def laws_toNeed.f (a0_0 : ByteArray) (a0_1 : Int) (a0_2 : Int) (a0_3 : Int) (a0_4 : ByteArray) : Option (ByteArray × Int × Int × Int × ByteArray) := (laws_toVersion.f a0_1 a0_2 a0_3 a0_4).bind fun bt357 => (some (a0_0, bt357.1, bt357.2.1, bt357.2.2.1, bt357.2.2.2))
def laws_toNeedS.l0 : Nat → List (S110) → List (S35) → Int → Option ((List (S35)))
 | 0, _, _, _ => none
 | k + 1, x0, x3, x4 => if x4 < (x0.length : Int) then (if 0 ≤ x4 then ((laws_toNeed.f ((rd_T110 x0 x4).f0) ((rd_T110 x0 x4).f1.f0) ((rd_T110 x0 x4).f1.f1) ((rd_T110 x0 x4).f1.f2) ((rd_T110 x0 x4).f1.f3)).bind fun bt365 => (if x4 < (x3.length : Int) then (laws_toNeedS.l0 k x0 (x3.set (x4 : Int).toNat (⟨bt365.1, (⟨bt365.2.1, bt365.2.2.1, bt365.2.2.2.1, bt365.2.2.2.2⟩ : S25)⟩ : S35)) (wrap64 (x4 + 1))) else (none))) else (none)) else (some x3)
def laws_toNeedS.f (k : Nat) (l0 : List (S110)) : Option ((List (S35))) := if 0 ≤ (l0.length : Int) then (if ((l0.length : Int) : Int).toNat ≤ 5026338869833 then (laws_toNeedS.l0 k l0 (List.replicate ((l0.length : Int) : Int).toNat z35) 0) else (none)) else (none)
end Go.Proofs.YtgdknepphkhnlaaGreatDoor.X

/- What the laws over needs reckon ahead of the call: sizes, copies, likeness. Plain lemmas. -/
set_option linter.unusedVariables false
namespace Go.Proofs.YtgdknepphkhnlaaGreatDoor.Z
open Go.RowKit Go.Proofs.YtgdknepphkhnlaaGreatDoorW.PrintWords Go.Proofs.YtgdknepphkhnlaaGreatDoorW.PrintMore Go.Proofs.YtgdknepphkhnlaaGreatDoor.X Go.Proofs.YtgdknepphkhnlaaGreatDoor.Sp
theorem eqN_l0 (l : List S35) (hn : l.length ≤ 1048576) (d : Nat) : ∀ i : Nat, i + d = l.length → Ev (fun k => laws_eqNeedS.l0 k l l (i : Int)) true := by
 induction d with
 | zero =>
  intro i hi
  refine evS (fun k => by rw [laws_eqNeedS.l0]) ?_
  exact evF zq (evR rfl)
 | succ d ih =>
  intro i hi
  have il : i < l.length := by omega
  refine evS (fun k => by rw [laws_eqNeedS.l0]) ?_
  rw [w64s il zq]
  refine evT zq (evT zq (evT zq (evC (a := true) ?_ (evT rfl (ih (i + 1) zq)))))
  unfold laws_eqNeed.f laws_eqVersion.f
  rw [if_pos rfl, if_pos rfl, if_pos rfl, if_pos rfl, if_pos rfl]
  rfl
theorem eqN_same (l : List S35) (hn : l.length ≤ 1048576) : Ev (fun k => laws_eqNeedS.f k l l) true := by
 unfold laws_eqNeedS.f
 exact evT rfl (eqN_l0 l hn l.length 0 zq)
end Go.Proofs.YtgdknepphkhnlaaGreatDoor.Z

/- Marks over needs: the text of a mark, and that marks are held. No Go, no memory. -/
set_option linter.unusedVariables false
namespace Go.Proofs.YtgdknepphkhnlaaGreatDoor.Z
open Go.RowKit Go.Proofs.YtgdknepphkhnlaaGreatDoorW.PrintWords Go.Proofs.YtgdknepphkhnlaaGreatDoorW.PrintMore Go.Proofs.YtgdknepphkhnlaaGreatDoor.X Go.Proofs.YtgdknepphkhnlaaGreatDoor.Sp
theorem strOf_size (l : List Int) : (strOfNums l).size = l.length := by simp [strOfNums, ByteArray.size]
theorem app_size (a b : ByteArray) : (a ++ b).size = a.size + b.size := ByteArray.size_append
theorem markText_l0 (d : Nat) : ∀ (x : Int) (s : ByteArray), x < 10 ^ d → x ≤ 9223372036854775807 → s.size + d ≤ 1000 → ∃ r, Ev (fun k => laws_markText.l0 k x s) r := by
 induction d with
 | zero =>
  intro x s hx hb h
  exact ⟨_, evS (fun k => by rw [laws_markText.l0]) (evF (by simp at hx; omega) (evT zq (evR rfl)))⟩
 | succ d ih =>
  intro x s hx hb h
  by_cases h0 : x > 0
  ·have hq : wrap64 (Int.tdiv x 10) = x / 10 := by
    rw [Int.tdiv_eq_ediv_of_nonneg zq, w64 zq]
   have hlt : x / 10 < 10 ^ d := by
    rw [Int.ediv_lt_iff_lt_mul zq]
    rw [Int.pow_succ] at hx
    exact hx
   obtain ⟨r, hr⟩ := ih (x / 10) (strOfNums [(wrap64 (48 + (Int.tmod x 10))) % 256] ++ s) hlt zq (by rw [app_size, strOf_size]; simp; omega)
   refine ⟨r, evS (fun k => by rw [laws_markText.l0]) ?_⟩
   refine evT h0 ?_
   refine evC rfl ?_
   refine evT (by rw [strOf_size]; simp; omega) ?_
   rw [hq]
   exact hr
  ·exact ⟨_, evS (fun k => by rw [laws_markText.l0]) (evF h0 (evT zq (evR rfl)))⟩
theorem markText_some (x : Int) (hb : x ≤ 9223372036854775807) : ∃ r, Ev (fun k => laws_markText.f k x) r := by
 unfold laws_markText.f
 by_cases h0 : x ≤ 0
 ·exact ⟨_, evT h0 (evR rfl)⟩
 ·obtain ⟨r, hr⟩ := markText_l0 20 x (⟨#[]⟩ : ByteArray) zq hb z1g
  exact ⟨r, evF h0 hr⟩
noncomputable def mT (x : Int) : ByteArray := if hb : x ≤ 9223372036854775807 then Classical.choose (markText_some x hb) else ⟨#[]⟩
theorem mT_ev {x : Int} (hb : x ≤ 9223372036854775807) : Ev (fun k => laws_markText.f k x) (mT x) := by
 unfold mT
 rw [dif_pos hb]
 exact Classical.choose_spec (markText_some x hb)
theorem rd_setN (m : List S35) (i : Nat) (e : S35) (h : i < m.length) : rd_T35 (m.set i e) (i : Int) = e := by
 rw [rdN (show i < (m.set i e).length by rw [List.length_set]; exact h), List.getElem_set_self]
noncomputable def mkNd (x : Int) : S35 := ⟨mT x, ⟨x + 1, x + 2, x + 3, mT (x + 4)⟩⟩
noncomputable def mkL (n : Nat) (a : Int) : List S35 := (List.range n).map fun (i : Nat) => mkNd (a + 5 * (i : Int))
theorem mkL_length (n : Nat) (a : Int) : (mkL n a).length = n := by simp [mkL]
theorem mkL_get {n : Nat} (a : Int) {i : Nat} (h : i < n) : (mkL n a)[i]? = some (mkNd (a + 5 * (i : Int))) := by simp [mkL, h]
theorem mkL_rd {n : Nat} (a : Int) {i : Nat} (h : i < n) : rd_T35 (mkL n a) (i : Int) = mkNd (a + 5 * (i : Int)) := by
 have hl : i < (mkL n a).length := by rw [mkL_length]; exact h
 rw [rdN hl]
 have := mkL_get a h
 rw [List.getElem?_eq_getElem hl] at this
 exact Option.some.inj this
theorem markN_l0 (n : Nat) (a : Int) (ha : 0 ≤ a) (hn : a + 5 * n ≤ 4611686018427387904) (d : Nat) : ∀ (i : Nat) (m : List S35), i + d = n → m.length = n → (∀ j, j < i → m[j]? = (mkL n a)[j]?) → Ev (fun k => laws_markNeedS.l0 k m (a + 5 * (i : Int)) (i : Int)) (a + 5 * (n : Int), mkL n a) := by
 induction d with
 | zero =>
  intro i m hi hm h
  refine evS (fun k => by rw [laws_markNeedS.l0]) (evF zq (evR ?_))
  rw [ext_get (m := mkL n a) (by rw [mkL_length]; exact hm) (fun j hj => h j (by rw [mkL_length] at hj; omega)), show i = n by omega]
 | succ d ih =>
  intro i m hi hm h
  have il : i < m.length := by omega
  have hx0 : 0 ≤ a + 5 * (i : Int) := by omega
  have hx1 : a + 5 * (i : Int) + 5 ≤ 4611686018427387904 := by omega
  have hnext := ih (i + 1) (m.set i (mkNd (a + 5 * (i : Int)))) zq (by rw [List.length_set]; exact hm) (set_next (by rw [mkL_length]; exact hm) (by rw [mkL_length]; omega) (mkL_get a zq) h)
  rw [show a + 5 * ((i + 1 : Nat) : Int) = a + 5 * (i : Int) + 5 by omega] at hnext
  generalize hx : a + 5 * (i : Int) = x at hx0 hx1 hnext ⊢
  have e1 : wrap64 (x + 1) = x + 1 := w64 zq
  have e2 : wrap64 (x + 1 + 1) = x + 2 := by rw [w64 zq]; omega
  have e3 : wrap64 (x + 2 + 1) = x + 3 := by rw [w64 zq]; omega
  have e4 : wrap64 (x + 3 + 1) = x + 4 := by rw [w64 zq]; omega
  have e5 : wrap64 (x + 4 + 1) = x + 5 := by rw [w64 zq]; omega
  refine evS (fun k => by rw [laws_markNeedS.l0]) (evT zq ?_)
  refine evB (mT_ev zq) (evT zq ?_)
  refine evC rfl (evC rfl (evC rfl (evC rfl ?_)))
  simp only [e1, e2, e3, e4, e5, Int.toNat_natCast, rd_setN _ _ _ (show i < m.length from il), List.set_set]
  refine evB (mT_ev zq) ?_
  rw [w64s il zq]
  exact hnext
theorem markN_ev (l : List S35) (a : Int) (ha : 0 ≤ a) (hn : a + 5 * l.length ≤ 4611686018427387904) : Ev (fun k => laws_markNeedS.f k l a) (a + 5 * (l.length : Int), mkL l.length a) := by
 have h := markN_l0 l.length a ha hn l.length 0 l zq rfl (by intro j hj; omega)
 rw [show a + 5 * ((0 : Nat) : Int) = a by omega] at h
 exact h
theorem heldN_l0 (n : Nat) (a : Int) (ha : 0 ≤ a) (hn : a + 5 * n ≤ 4611686018427387904) (d : Nat) : ∀ (i : Nat), i + d = n → Ev (fun k => laws_heldNeedS.l0 k (mkL n a) (a + 5 * (i : Int)) (i : Int)) (a + 5 * (n : Int)) := by
 induction d with
 | zero =>
  intro i hi
  refine evS (fun k => by rw [laws_heldNeedS.l0]) (evF (by rw [mkL_length]; omega) (evR ?_))
  rw [show i = n by omega]
 | succ d ih =>
  intro i hi
  have il : i < n := by omega
  have hnext := ih (i + 1) zq
  rw [show a + 5 * ((i + 1 : Nat) : Int) = a + 5 * (i : Int) + 5 by omega] at hnext
  refine evS (fun k => by rw [laws_heldNeedS.l0]) (evT (by rw [mkL_length]; omega) (evT zq ?_))
  rw [mkL_rd a il, w64s il zq]
  have hx0 : 0 ≤ a + 5 * (i : Int) := by omega
  have hx1 : a + 5 * (i : Int) + 5 ≤ 4611686018427387904 := by omega
  generalize hx : a + 5 * (i : Int) = x at hx0 hx1 hnext ⊢
  have e1 : wrap64 (x + 1) = x + 1 := w64 zq
  have e2 : wrap64 (x + 1 + 1) = x + 2 := by rw [w64 zq]; omega
  have e3 : wrap64 (x + 2 + 1) = x + 3 := by rw [w64 zq]; omega
  have e4 : wrap64 (x + 3 + 1) = x + 4 := by rw [w64 zq]; omega
  have e5 : wrap64 (x + 4 + 1) = x + 5 := by rw [w64 zq]; omega
  simp only [e1, e2, e3, e4, e5]
  exact evB (mT_ev zq) (evT rfl (evT rfl (evT rfl (evT rfl (evB (mT_ev zq) (evT rfl hnext))))))
theorem heldN_ev (n : Nat) (a : Int) (ha : 0 ≤ a) (hn : a + 5 * n ≤ 4611686018427387904) : Ev (fun k => laws_heldNeedS.f k (mkL n a) a) (a + 5 * (n : Int)) := by
 have h := heldN_l0 n a ha hn n 0 zq
 rw [show a + 5 * ((0 : Nat) : Int) = a by omega] at h
 exact h
theorem markE_ev (s : ByteArray) (x y z : Int) (p : ByteArray) (l : List S35) (a : Int) (ha : 0 ≤ a) (hn : a + 5 * l.length ≤ 4611686018427387904) : Ev (fun k => laws_markEntry.f k s x y z p l a) (a + 5 * (l.length : Int), mkL l.length a) := by
 unfold laws_markEntry.f
 exact evB (markN_ev l a ha hn) (evR rfl)
theorem heldE_ev (s : ByteArray) (x y z : Int) (p : ByteArray) (n : Nat) (a : Int) (ha : 0 ≤ a) (hn : a + 5 * n ≤ 4611686018427387904) : Ev (fun k => laws_heldEntry.f k s x y z p (mkL n a) a) (a + 5 * (n : Int)) := by
 unfold laws_heldEntry.f
 exact evB (heldN_ev n a ha hn) (evF zq (evR rfl))
theorem eqE_same (s : ByteArray) (x y z : Int) (p : ByteArray) (l : List S35) (hn : l.length ≤ 1048576) : Ev (fun k => laws_eqEntry.f k s x y z p l s x y z p l) true := by
 unfold laws_eqEntry.f laws_eqVersion.f
 refine evT rfl ?_
 rw [if_pos rfl, if_pos rfl, if_pos rfl, if_pos rfl]
 exact evC rfl (evT rfl (evB (eqN_same _ hn) (evT rfl (evR rfl))))
end Go.Proofs.YtgdknepphkhnlaaGreatDoor.Z

/- The law FnExactGetEntry, as a plain statement: the program's GetEntry answers as the reference's, and shares no memory with another call's answer. Conditions: those of the row's reading alone. -/
namespace Go.Proofs.YtgdknepphkhnlaaGreatDoor.Pure
open Go.RowKit Go.Proofs.YtgdknepphkhnlaaGreatDoor.X Go.Proofs.YtgdknepphkhnlaaGreatDoor.Z Go.Proofs.YtgdknepphkhnlaaGreatDoorW.PrintWords Go.Proofs.YtgdknepphkhnlaaGreatDoorW.PrintLast
theorem FnExactGetEntry : laws_FnExactGetEntry.Pure := by
 intro s _
 refine Ev.rounds ?_
 unfold laws_FnExactGetEntry.f
 refine evI (fun _ => evR rfl) (fun hs => ?_)
 obtain ⟨⟨a, b, c, d, p, l, ok⟩, h1, h2, h3⟩ := getE_both s zq
 have hl : l.length ≤ 8 := by
  rcases h3 with h | ⟨_, _, _, h, _⟩
  ·have h6 : l = [] := congrArg (fun r : E7 => r.2.2.2.2.2.1) h
   rw [h6]
   decide
  ·exact h
 have hE := eqE_same a b c d p l zq
 have hM := markE_ev a b c d p l 1 zq zq
 have hH := heldE_ev a b c d p l.length 1 zq zq
 refine evB h2 (evB h1 (evB hE (evT rfl ?_)))
 refine evS (fun k => by rw [laws_FnExactGetEntry.j0]) ?_
 refine evF (by simp) (evB hM (evB hH ?_))
 refine evF (show ¬ ((1 : Int) + 5 * (l.length : Int) < 0) by omega) ?_
 refine evT rfl (evB h1 (evB hE (evT rfl ?_)))
 refine evS (fun k => by rw [laws_FnExactGetEntry.j1]) ?_
 refine evF (by simp) (evB hH ?_)
 refine evF (show ¬ ((1 : Int) + 5 * (l.length : Int) < 0) by omega) ?_
 exact evT rfl (evR rfl)
end Go.Proofs.YtgdknepphkhnlaaGreatDoor.Pure

/- Values that come in as data (strings' slices, structs, slices of structs, nested) are of the printer's kinds: one lemma a make of type. Plain lemmas for the rows of laws over such parameters. No conditions beyond what each lemma names. -/
set_option linter.unusedVariables false
namespace Go.Proofs.YtgdknepphkhnlaaGreatDoor.Y
open Go.RowKit Go.Proofs.YtgdknepphkhnlaaGreatDoorW.PrintWords Go.ChangeShapes Go.WideShapes Go.Deep
end Go.Proofs.YtgdknepphkhnlaaGreatDoor.Y

/- Three closed facts of the rows of this seat (how the program may be entered), by the first words of the translation's head row. No conditions. -/
namespace Go.Proofs.YtgdknepphkhnlaaGreatDoor.Y
open Go.ChangeShapes Go.WideShapes Go.ChangeAt Go.RowKit
def tailSigns : List Char := [Char.ofNat 108, Char.ofNat 111, Char.ofNat 111, Char.ofNat 112, Char.ofNat 46, Char.ofNat 101, Char.ofNat 120, Char.ofNat 97, Char.ofNat 109, Char.ofNat 112, Char.ofNat 108, Char.ofNat 101, Char.ofNat 47, Char.ofNat 103, Char.ofNat 48, Char.ofNat 48, Char.ofNat 50, Char.ofNat 51, Char.ofNat 51, Char.ofNat 47, Char.ofNat 108, Char.ofNat 97, Char.ofNat 119, Char.ofNat 115, Char.ofNat 46, Char.ofNat 70, Char.ofNat 110, Char.ofNat 69, Char.ofNat 110, Char.ofNat 116, Char.ofNat 114, Char.ofNat 105, Char.ofNat 101, Char.ofNat 115, Char.ofNat 32, Char.ofNat 108, Char.ofNat 111, Char.ofNat 111, Char.ofNat 112, Char.ofNat 46, Char.ofNat 101, Char.ofNat 120, Char.ofNat 97, Char.ofNat 109, Char.ofNat 112, Char.ofNat 108, Char.ofNat 101, Char.ofNat 47, Char.ofNat 103, Char.ofNat 48, Char.ofNat 48, Char.ofNat 50, Char.ofNat 51, Char.ofNat 51, Char.ofNat 47, Char.ofNat 108, Char.ofNat 97, Char.ofNat 119, Char.ofNat 115, Char.ofNat 46, Char.ofNat 70, Char.ofNat 110, Char.ofNat 69, Char.ofNat 120, Char.ofNat 97, Char.ofNat 99, Char.ofNat 116, Char.ofNat 71, Char.ofNat 101, Char.ofNat 116, Char.ofNat 69, Char.ofNat 110, Char.ofNat 116, Char.ofNat 114, Char.ofNat 121, Char.ofNat 32, Char.ofNat 108, Char.ofNat 111, Char.ofNat 111, Char.ofNat 112, Char.ofNat 46, Char.ofNat 101, Char.ofNat 120, Char.ofNat 97, Char.ofNat 109, Char.ofNat 112, Char.ofNat 108, Char.ofNat 101, Char.ofNat 47, Char.ofNat 103, Char.ofNat 48, Char.ofNat 48, Char.ofNat 50, Char.ofNat 51, Char.ofNat 51, Char.ofNat 47, Char.ofNat 108, Char.ofNat 97, Char.ofNat 119, Char.ofNat 115, Char.ofNat 46, Char.ofNat 70, Char.ofNat 110, Char.ofNat 82, Char.ofNat 101, Char.ofNat 97, Char.ofNat 100, Char.ofNat 32, Char.ofNat 108, Char.ofNat 111, Char.ofNat 111, Char.ofNat 112, Char.ofNat 46, Char.ofNat 101, Char.ofNat 120, Char.ofNat 97, Char.ofNat 109, Char.ofNat 112, Char.ofNat 108, Char.ofNat 101, Char.ofNat 47, Char.ofNat 103, Char.ofNat 48, Char.ofNat 48, Char.ofNat 50, Char.ofNat 51, Char.ofNat 51, Char.ofNat 47, Char.ofNat 108, Char.ofNat 97, Char.ofNat 119, Char.ofNat 115, Char.ofNat 46, Char.ofNat 70, Char.ofNat 110, Char.ofNat 69, Char.ofNat 120, Char.ofNat 97, Char.ofNat 99, Char.ofNat 116, Char.ofNat 80, Char.ofNat 117, Char.ofNat 116, Char.ofNat 69, Char.ofNat 110, Char.ofNat 116, Char.ofNat 114, Char.ofNat 121]
set_option maxRecDepth 100000 in
theorem initOrder_lit : Tryz.pinned.checked.prog.initOrder = "harness 6d29ea37bb3f2b96e849b59654e73d13cb16360989e6b50d65bf3eda784cb5ab cut at loop.example/g00233/laws.FnEntries loop.example/g00233/laws.FnExactGetEntry loop.example/g00233/laws.FnRead loop.example/g00233/laws.FnExactPutEntry" := by kernel_rfl
set_option maxRecDepth 100000 in
theorem lit_list : ("harness 6d29ea37bb3f2b96e849b59654e73d13cb16360989e6b50d65bf3eda784cb5ab cut at loop.example/g00233/laws.FnEntries loop.example/g00233/laws.FnExactGetEntry loop.example/g00233/laws.FnRead loop.example/g00233/laws.FnExactPutEntry" : String) = String.ofList (Char.ofNat 104 :: Char.ofNat 97 :: Char.ofNat 114 :: Char.ofNat 110 :: Char.ofNat 101 :: Char.ofNat 115 :: Char.ofNat 115 :: Char.ofNat 32 :: Char.ofNat 54 :: Char.ofNat 100 :: Char.ofNat 50 :: Char.ofNat 57 :: Char.ofNat 101 :: Char.ofNat 97 :: Char.ofNat 51 :: Char.ofNat 55 :: Char.ofNat 98 :: Char.ofNat 98 :: Char.ofNat 51 :: Char.ofNat 102 :: Char.ofNat 50 :: Char.ofNat 98 :: Char.ofNat 57 :: Char.ofNat 54 :: Char.ofNat 101 :: Char.ofNat 56 :: Char.ofNat 52 :: Char.ofNat 57 :: Char.ofNat 98 :: Char.ofNat 53 :: Char.ofNat 57 :: Char.ofNat 54 :: Char.ofNat 53 :: Char.ofNat 52 :: Char.ofNat 101 :: Char.ofNat 55 :: Char.ofNat 51 :: Char.ofNat 100 :: Char.ofNat 49 :: Char.ofNat 51 :: Char.ofNat 99 :: Char.ofNat 98 :: Char.ofNat 49 :: Char.ofNat 54 :: Char.ofNat 51 :: Char.ofNat 54 :: Char.ofNat 48 :: Char.ofNat 57 :: Char.ofNat 56 :: Char.ofNat 57 :: Char.ofNat 101 :: Char.ofNat 54 :: Char.ofNat 98 :: Char.ofNat 53 :: Char.ofNat 48 :: Char.ofNat 100 :: Char.ofNat 54 :: Char.ofNat 53 :: Char.ofNat 98 :: Char.ofNat 102 :: Char.ofNat 51 :: Char.ofNat 101 :: Char.ofNat 100 :: Char.ofNat 97 :: Char.ofNat 55 :: Char.ofNat 56 :: Char.ofNat 52 :: Char.ofNat 99 :: Char.ofNat 98 :: Char.ofNat 53 :: Char.ofNat 97 :: Char.ofNat 98 :: Char.ofNat 32 :: Char.ofNat 99 :: Char.ofNat 117 :: Char.ofNat 116 :: Char.ofNat 32 :: Char.ofNat 97 :: Char.ofNat 116 :: Char.ofNat 32 :: tailSigns) := by kernel_rfl
theorem initOrder_list : Tryz.pinned.checked.prog.initOrder.toList = Char.ofNat 104 :: Char.ofNat 97 :: Char.ofNat 114 :: Char.ofNat 110 :: Char.ofNat 101 :: Char.ofNat 115 :: Char.ofNat 115 :: Char.ofNat 32 :: Char.ofNat 54 :: Char.ofNat 100 :: Char.ofNat 50 :: Char.ofNat 57 :: Char.ofNat 101 :: Char.ofNat 97 :: Char.ofNat 51 :: Char.ofNat 55 :: Char.ofNat 98 :: Char.ofNat 98 :: Char.ofNat 51 :: Char.ofNat 102 :: Char.ofNat 50 :: Char.ofNat 98 :: Char.ofNat 57 :: Char.ofNat 54 :: Char.ofNat 101 :: Char.ofNat 56 :: Char.ofNat 52 :: Char.ofNat 57 :: Char.ofNat 98 :: Char.ofNat 53 :: Char.ofNat 57 :: Char.ofNat 54 :: Char.ofNat 53 :: Char.ofNat 52 :: Char.ofNat 101 :: Char.ofNat 55 :: Char.ofNat 51 :: Char.ofNat 100 :: Char.ofNat 49 :: Char.ofNat 51 :: Char.ofNat 99 :: Char.ofNat 98 :: Char.ofNat 49 :: Char.ofNat 54 :: Char.ofNat 51 :: Char.ofNat 54 :: Char.ofNat 48 :: Char.ofNat 57 :: Char.ofNat 56 :: Char.ofNat 57 :: Char.ofNat 101 :: Char.ofNat 54 :: Char.ofNat 98 :: Char.ofNat 53 :: Char.ofNat 48 :: Char.ofNat 100 :: Char.ofNat 54 :: Char.ofNat 53 :: Char.ofNat 98 :: Char.ofNat 102 :: Char.ofNat 51 :: Char.ofNat 101 :: Char.ofNat 100 :: Char.ofNat 97 :: Char.ofNat 55 :: Char.ofNat 56 :: Char.ofNat 52 :: Char.ofNat 99 :: Char.ofNat 98 :: Char.ofNat 53 :: Char.ofNat 97 :: Char.ofNat 98 :: Char.ofNat 32 :: Char.ofNat 99 :: Char.ofNat 117 :: Char.ofNat 116 :: Char.ofNat 32 :: Char.ofNat 97 :: Char.ofNat 116 :: Char.ofNat 32 :: tailSigns := (congrArg String.toList (initOrder_lit.trans lit_list)).trans String.toList_ofList
theorem words_at (r : List Char) : wordsSigns (Char.ofNat 104 :: Char.ofNat 97 :: Char.ofNat 114 :: Char.ofNat 110 :: Char.ofNat 101 :: Char.ofNat 115 :: Char.ofNat 115 :: Char.ofNat 32 :: Char.ofNat 54 :: Char.ofNat 100 :: Char.ofNat 50 :: Char.ofNat 57 :: Char.ofNat 101 :: Char.ofNat 97 :: Char.ofNat 51 :: Char.ofNat 55 :: Char.ofNat 98 :: Char.ofNat 98 :: Char.ofNat 51 :: Char.ofNat 102 :: Char.ofNat 50 :: Char.ofNat 98 :: Char.ofNat 57 :: Char.ofNat 54 :: Char.ofNat 101 :: Char.ofNat 56 :: Char.ofNat 52 :: Char.ofNat 57 :: Char.ofNat 98 :: Char.ofNat 53 :: Char.ofNat 57 :: Char.ofNat 54 :: Char.ofNat 53 :: Char.ofNat 52 :: Char.ofNat 101 :: Char.ofNat 55 :: Char.ofNat 51 :: Char.ofNat 100 :: Char.ofNat 49 :: Char.ofNat 51 :: Char.ofNat 99 :: Char.ofNat 98 :: Char.ofNat 49 :: Char.ofNat 54 :: Char.ofNat 51 :: Char.ofNat 54 :: Char.ofNat 48 :: Char.ofNat 57 :: Char.ofNat 56 :: Char.ofNat 57 :: Char.ofNat 101 :: Char.ofNat 54 :: Char.ofNat 98 :: Char.ofNat 53 :: Char.ofNat 48 :: Char.ofNat 100 :: Char.ofNat 54 :: Char.ofNat 53 :: Char.ofNat 98 :: Char.ofNat 102 :: Char.ofNat 51 :: Char.ofNat 101 :: Char.ofNat 100 :: Char.ofNat 97 :: Char.ofNat 55 :: Char.ofNat 56 :: Char.ofNat 52 :: Char.ofNat 99 :: Char.ofNat 98 :: Char.ofNat 53 :: Char.ofNat 97 :: Char.ofNat 98 :: Char.ofNat 32 :: Char.ofNat 99 :: Char.ofNat 117 :: Char.ofNat 116 :: Char.ofNat 32 :: Char.ofNat 97 :: Char.ofNat 116 :: Char.ofNat 32 :: r) = [Char.ofNat 104, Char.ofNat 97, Char.ofNat 114, Char.ofNat 110, Char.ofNat 101, Char.ofNat 115, Char.ofNat 115] :: [Char.ofNat 54, Char.ofNat 100, Char.ofNat 50, Char.ofNat 57, Char.ofNat 101, Char.ofNat 97, Char.ofNat 51, Char.ofNat 55, Char.ofNat 98, Char.ofNat 98, Char.ofNat 51, Char.ofNat 102, Char.ofNat 50, Char.ofNat 98, Char.ofNat 57, Char.ofNat 54, Char.ofNat 101, Char.ofNat 56, Char.ofNat 52, Char.ofNat 57, Char.ofNat 98, Char.ofNat 53, Char.ofNat 57, Char.ofNat 54, Char.ofNat 53, Char.ofNat 52, Char.ofNat 101, Char.ofNat 55, Char.ofNat 51, Char.ofNat 100, Char.ofNat 49, Char.ofNat 51, Char.ofNat 99, Char.ofNat 98, Char.ofNat 49, Char.ofNat 54, Char.ofNat 51, Char.ofNat 54, Char.ofNat 48, Char.ofNat 57, Char.ofNat 56, Char.ofNat 57, Char.ofNat 101, Char.ofNat 54, Char.ofNat 98, Char.ofNat 53, Char.ofNat 48, Char.ofNat 100, Char.ofNat 54, Char.ofNat 53, Char.ofNat 98, Char.ofNat 102, Char.ofNat 51, Char.ofNat 101, Char.ofNat 100, Char.ofNat 97, Char.ofNat 55, Char.ofNat 56, Char.ofNat 52, Char.ofNat 99, Char.ofNat 98, Char.ofNat 53, Char.ofNat 97, Char.ofNat 98] :: [Char.ofNat 99, Char.ofNat 117, Char.ofNat 116] :: [Char.ofNat 97, Char.ofNat 116] :: wordsSigns r := by kernel_rfl
theorem behind_at (t : List (List Char)) : behindMainWord ([Char.ofNat 104, Char.ofNat 97, Char.ofNat 114, Char.ofNat 110, Char.ofNat 101, Char.ofNat 115, Char.ofNat 115] :: [Char.ofNat 54, Char.ofNat 100, Char.ofNat 50, Char.ofNat 57, Char.ofNat 101, Char.ofNat 97, Char.ofNat 51, Char.ofNat 55, Char.ofNat 98, Char.ofNat 98, Char.ofNat 51, Char.ofNat 102, Char.ofNat 50, Char.ofNat 98, Char.ofNat 57, Char.ofNat 54, Char.ofNat 101, Char.ofNat 56, Char.ofNat 52, Char.ofNat 57, Char.ofNat 98, Char.ofNat 53, Char.ofNat 57, Char.ofNat 54, Char.ofNat 53, Char.ofNat 52, Char.ofNat 101, Char.ofNat 55, Char.ofNat 51, Char.ofNat 100, Char.ofNat 49, Char.ofNat 51, Char.ofNat 99, Char.ofNat 98, Char.ofNat 49, Char.ofNat 54, Char.ofNat 51, Char.ofNat 54, Char.ofNat 48, Char.ofNat 57, Char.ofNat 56, Char.ofNat 57, Char.ofNat 101, Char.ofNat 54, Char.ofNat 98, Char.ofNat 53, Char.ofNat 48, Char.ofNat 100, Char.ofNat 54, Char.ofNat 53, Char.ofNat 98, Char.ofNat 102, Char.ofNat 51, Char.ofNat 101, Char.ofNat 100, Char.ofNat 97, Char.ofNat 55, Char.ofNat 56, Char.ofNat 52, Char.ofNat 99, Char.ofNat 98, Char.ofNat 53, Char.ofNat 97, Char.ofNat 98] :: [Char.ofNat 99, Char.ofNat 117, Char.ofNat 116] :: [Char.ofNat 97, Char.ofNat 116] :: t) = [Char.ofNat 99, Char.ofNat 117, Char.ofNat 116] :: [Char.ofNat 97, Char.ofNat 116] :: t := by kernel_rfl
theorem behind_all : behindMainWord (wordsSigns Tryz.pinned.checked.prog.initOrder.toList) = [Char.ofNat 99, Char.ofNat 117, Char.ofNat 116] :: [Char.ofNat 97, Char.ofNat 116] :: wordsSigns tailSigns := by rw [initOrder_list, words_at, behind_at]
theorem make_of (c : List Char) (rest : List (List Char)) (P : Program) (h0 : (c == "gc".toList) = false) (h1 : (c == "spec".toList) = false) (h2 : (c == "cut".toList) = true) (h : behindMainWord (wordsSigns P.initOrder.toList) = c :: rest) : P.make = some .cut := by
 unfold Program.make
 rw [h]
 simp only [h0, h1, h2]
 rfl
theorem mayEnter_of (c : List Char) (rest : List (List Char)) (P : Program) (h0 : (c == "gc".toList) = false) (h1 : (c == "spec".toList) = false) (h2 : (c == "carried".toList) = false) (h : behindMainWord (wordsSigns P.initOrder.toList) = c :: rest)
  (h3 : ((stripLifts liftWords (c :: rest)).2.head? == some "cut".toList) = true) (h4 : P.laysLater = false) (h5 : P.bearsReflect = false) (h6 : P.doorFits (stripLifts liftWords (c :: rest)).1 = true) (h7 : (stripLifts liftWords (c :: rest)).1.contains "leanrows" = false) : P.mayEnter = true := by
 unfold Program.mayEnter
 rw [h]
 simp only [h0, h1, h2, h3, h4, h5, h6, h7]
 simp
theorem liftsFinal_of (c : List Char) (rest : List (List Char)) (P : Program) (h2 : (some c == some "carried".toList) = false) (h : behindMainWord (wordsSigns P.initOrder.toList) = c :: rest)
  (h3 : ((stripLifts liftWords (c :: rest)).2.head? == some "cut".toList) = true) (h7 : (stripLifts liftWords (c :: rest)).1.contains "finals" = false) : P.liftsFinal = false := by
 unfold Program.liftsFinal Program.headLifts
 rw [h]
 simp only [List.head?_cons, h2, h3, if_true, h7, Bool.false_and, Bool.or_self]
theorem strip_at (t : List (List Char)) : stripLifts liftWords ([Char.ofNat 99, Char.ofNat 117, Char.ofNat 116] :: [Char.ofNat 97, Char.ofNat 116] :: t) = ([], [Char.ofNat 99, Char.ofNat 117, Char.ofNat 116] :: [Char.ofNat 97, Char.ofNat 116] :: t) := by kernel_rfl
theorem laysLater_at : Tryz.pinned.checked.prog.laysLater = false := by kernel_rfl
theorem bearsReflect_at : Tryz.pinned.checked.prog.bearsReflect = false := by kernel_rfl
theorem doorFits_at : Tryz.pinned.checked.prog.doorFits [] = true := by kernel_rfl
theorem mayEnter_at : Tryz.pinned.checked.prog.mayEnter = true :=
 mayEnter_of _ _ _ z1a z1a z1a behind_all (by rw [strip_at]; generalize wordsSigns tailSigns = t; kernel_rfl) laysLater_at bearsReflect_at (by rw [strip_at]; exact doorFits_at) (by rw [strip_at]; rfl)
theorem liftsFinal_at : Tryz.pinned.checked.prog.liftsFinal = false :=
 liftsFinal_of _ _ _ z1a behind_all (by rw [strip_at]; generalize wordsSigns tailSigns = t; kernel_rfl) (by rw [strip_at]; rfl)
theorem make_at : Tryz.pinned.checked.prog.make = some .cut := make_of _ _ _ z1a z1a z1a behind_all
end Go.Proofs.YtgdknepphkhnlaaGreatDoor.Y

/- A world for the witnesses: the settled one, the listed tables holding what their initialisers lay. No conditions. -/
namespace Go.Proofs.YtgdknepphkhnlaaGreatDoor.Y
open Go.ChangeShapes Go.WideShapes Go.ChangeAt Go.RowKit
noncomputable def laidWorld (os : Os) : World :=
 { World.holding Tryz.prog os ⟨#[], #[], []⟩ with heap := ((((((((((World.holding Tryz.prog os ⟨#[], #[], []⟩).heap).modify 3 (fun o => match o with | .cells _ t z => .cells #[Value.int .u64 1, Value.int .u64 10, Value.int .u64 100, Value.int .u64 1000, Value.int .u64 10000, Value.int .u64 100000, Value.int .u64 1000000, Value.int .u64 10000000, Value.int .u64 100000000, Value.int .u64 1000000000, Value.int .u64 10000000000, Value.int .u64 100000000000, Value.int .u64 1000000000000, Value.int .u64 10000000000000, Value.int .u64 100000000000000, Value.int .u64 1000000000000000, Value.int .u64 10000000000000000, Value.int .u64 100000000000000000, Value.int .u64 1000000000000000000, Value.int .u64 10000000000000000000] t z | o => o)).modify 4 (fun o => match o with | .cells _ t z => .cells ((Go.Pinned.utf8FirstZ.map fun (n : Nat) => Value.int .u8 (n : Int)).toArray) t z | o => o)).modify 5 (fun o => match o with | .cells _ t z => .cells #[Value.int .u8 128, Value.int .u8 191, Value.int .u8 160, Value.int .u8 191, Value.int .u8 128, Value.int .u8 159, Value.int .u8 144, Value.int .u8 191, Value.int .u8 128, Value.int .u8 143, Value.int .u8 0, Value.int .u8 0, Value.int .u8 0, Value.int .u8 0, Value.int .u8 0, Value.int .u8 0, Value.int .u8 0, Value.int .u8 0, Value.int .u8 0, Value.int .u8 0, Value.int .u8 0, Value.int .u8 0, Value.int .u8 0, Value.int .u8 0, Value.int .u8 0, Value.int .u8 0, Value.int .u8 0, Value.int .u8 0, Value.int .u8 0, Value.int .u8 0, Value.int .u8 0, Value.int .u8 0] t z | o => o)).modify 6 (fun o => match o with | .cells _ t z => .cells #[Value.int .u8 0, Value.int .u8 1, Value.int .u8 28, Value.int .u8 2, Value.int .u8 29, Value.int .u8 14, Value.int .u8 24, Value.int .u8 3, Value.int .u8 30, Value.int .u8 22, Value.int .u8 20, Value.int .u8 15, Value.int .u8 25, Value.int .u8 17, Value.int .u8 4, Value.int .u8 8, Value.int .u8 31, Value.int .u8 27, Value.int .u8 13, Value.int .u8 23, Value.int .u8 21, Value.int .u8 19, Value.int .u8 16, Value.int .u8 7, Value.int .u8 26, Value.int .u8 12, Value.int .u8 18, Value.int .u8 6, Value.int .u8 11, Value.int .u8 5, Value.int .u8 10, Value.int .u8 9] t z | o => o)).modify 7 (fun o => match o with | .cells _ t z => .cells #[Value.int .u8 0, Value.int .u8 1, Value.int .u8 56, Value.int .u8 2, Value.int .u8 57, Value.int .u8 49, Value.int .u8 28, Value.int .u8 3, Value.int .u8 61, Value.int .u8 58, Value.int .u8 42, Value.int .u8 50, Value.int .u8 38, Value.int .u8 29, Value.int .u8 17, Value.int .u8 4, Value.int .u8 62, Value.int .u8 47, Value.int .u8 59, Value.int .u8 36, Value.int .u8 45, Value.int .u8 43, Value.int .u8 51, Value.int .u8 22, Value.int .u8 53, Value.int .u8 39, Value.int .u8 33, Value.int .u8 30, Value.int .u8 24, Value.int .u8 18, Value.int .u8 12, Value.int .u8 5, Value.int .u8 63, Value.int .u8 55, Value.int .u8 48, Value.int .u8 27, Value.int .u8 60, Value.int .u8 41, Value.int .u8 37, Value.int .u8 16, Value.int .u8 46, Value.int .u8 35, Value.int .u8 44, Value.int .u8 21, Value.int .u8 52, Value.int .u8 32, Value.int .u8 23, Value.int .u8 11, Value.int .u8 54, Value.int .u8 26, Value.int .u8 40, Value.int .u8 15, Value.int .u8 34, Value.int .u8 20, Value.int .u8 31, Value.int .u8 10, Value.int .u8 25, Value.int .u8 14, Value.int .u8 19, Value.int .u8 9, Value.int .u8 13, Value.int .u8 8, Value.int .u8 7, Value.int .u8 6] t z | o => o)).modify 1 (fun o => match o with | .cells _ t z => .cells #[Value.iface 164 (.pointer (some ⟨(World.holding Tryz.prog os ⟨#[], #[], []⟩).heap.size + 0, 0, none⟩))] t z | o => o)).push (.cells #[Value.string ⟨#[105, 110, 118, 97, 108, 105, 100, 32, 115, 121, 110, 116, 97, 120]⟩] 166 (0, 0))).modify 2 (fun o => match o with | .cells _ t z => .cells #[Value.iface 164 (.pointer (some ⟨(World.holding Tryz.prog os ⟨#[], #[], []⟩).heap.size + 1, 0, none⟩))] t z | o => o)).push (.cells #[Value.string ⟨#[118, 97, 108, 117, 101, 32, 111, 117, 116, 32, 111, 102, 32, 114, 97, 110, 103, 101]⟩] 166 (0, 0)) }
end Go.Proofs.YtgdknepphkhnlaaGreatDoor.Y
