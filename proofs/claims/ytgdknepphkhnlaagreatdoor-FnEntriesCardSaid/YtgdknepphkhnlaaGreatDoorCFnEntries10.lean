/- The law FnEntries, as a plain statement: a drawn entry that is right comes back of its text; a name does, too. Conditions: those of the row's reading alone. -/
/- Part 11 of 12 of this claim's texts. -/
import Derived.Deep.Slices
import Derived.ChangeArms
import Derived.WideShapes
import Derived.DataReads
import Derived.Test.YtgdknepphkhnlaaGreatDoorRows
import Derived.WalkKit
import Derived.ProofKit
import Derived.Test.YtgdknepphkhnlaaGreatDoorCFnEntries0
import Derived.Test.YtgdknepphkhnlaaGreatDoorCFnEntries1
import Derived.Test.YtgdknepphkhnlaaGreatDoorCFnEntries6
import Derived.Test.YtgdknepphkhnlaaGreatDoorCFnEntries7
import Derived.Test.YtgdknepphkhnlaaGreatDoorCFnEntries8
import Derived.Test.YtgdknepphkhnlaaGreatDoorCFnEntries9
/- A right path's base is a right path. Plain lemmas. -/
set_option linter.unusedVariables false
namespace Go.Proofs.YtgdknepphkhnlaaGreatDoor.Z
open Go.RowKit Go.Proofs.YtgdknepphkhnlaaGreatDoorW.PrintWords Go.Proofs.YtgdknepphkhnlaaGreatDoorW.PrintMore Go.Proofs.YtgdknepphkhnlaaGreatDoor.X Go.Proofs.YtgdknepphkhnlaaGreatDoor.Sp
theorem get_rd {l : List ByteArray} {i : Nat} (il : i < l.length) : rdOf ByteArray.empty l (i : Int) = l[i] := by
 have := rdOf_get (d := ByteArray.empty) il
 rw [List.getElem?_eq_getElem il] at this
 exact (Option.some.inj this).symm
theorem path_true (s : ByteArray) (l : List ByteArray) (hl : l.length ≤ 1048577) (hm : ∀ x ∈ l, x.size ≤ 1048576) (d : Nat) : ∀ i : Nat, i + d = l.length → Ev (fun k => impl_PathOk.l0 k s l l (l.length : Int) (i : Int)) true →
  (∀ x ∈ l.drop i, Ev (fun k => impl_pathPartOk.f k x) true) ∧ l.length ≤ 6 ∧ s.size ≤ 60 := by
 induction d with
 | zero =>
  intro i hi H
  refine ⟨fun x hx => (by rw [List.drop_eq_nil_of_le zp] at hx; cases hx), ?_⟩
  by_cases h6 : (l.length : Int) ≤ 6
  ·have H2 : Ev (fun k => impl_PathOk.l0 k s l l (l.length : Int) (i : Int)) (decide ((s.size : Int) ≤ 60)) := evS (fun k => by rw [impl_PathOk.l0]) (evF zp (evT h6 (evR rfl)))
   have := of_decide_eq_true (ev_one H2 H)
   omega
  ·have H2 : Ev (fun k => impl_PathOk.l0 k s l l (l.length : Int) (i : Int)) false := evS (fun k => by rw [impl_PathOk.l0]) (evF zp (evF h6 (evR rfl)))
   have := ev_one H2 H
   cases this
 | succ d ih =>
  intro i hi H
  have il : i < l.length := by omega
  obtain ⟨b, p1, _⟩ := part_both l[i] (hm _ (List.getElem_mem il)) _ 0 (Nat.zero_add _)
  have q1 : Ev (fun k => impl_pathPartOk.f k l[i]) b := p1
  obtain ⟨r, g1, _, _⟩ := path_l0 s l hl hm d (i + 1) zp
  cases b with
  | false =>
   have H2 : Ev (fun k => impl_PathOk.l0 k s l l (l.length : Int) (i : Int)) false := by
    refine evS (fun k => by rw [impl_PathOk.l0]) ?_
    rw [get_rd il]
    exact evT zp (evT zp (evT zp (evB q1 (evF Bool.false_ne_true (evR rfl)))))
   have := ev_one H2 H
   cases this
  | true =>
   have H2 : Ev (fun k => impl_PathOk.l0 k s l l (l.length : Int) (i : Int)) r := by
    refine evS (fun k => by rw [impl_PathOk.l0]) ?_
    rw [get_rd il, w64s il zp]
    exact evT zp (evT zp (evT zp (evB q1 (evT rfl g1))))
   rw [ev_one H2 H] at g1
   obtain ⟨h1, h2⟩ := ih (i + 1) zp g1
   refine ⟨fun x hx => ?_, h2⟩
   rw [List.drop_eq_getElem_cons il] at hx
   rcases List.mem_cons.1 hx with rfl | hx
   ·exact q1
   ·exact h1 x hx
end Go.Proofs.YtgdknepphkhnlaaGreatDoor.Z

/- A right path holds no '@'. Plain lemmas. -/
set_option linter.unusedVariables false
namespace Go.Proofs.YtgdknepphkhnlaaGreatDoor.Z
open Go.RowKit Go.Proofs.YtgdknepphkhnlaaGreatDoorW.PrintWords Go.Proofs.YtgdknepphkhnlaaGreatDoorW.PrintMore Go.Proofs.YtgdknepphkhnlaaGreatDoor.X Go.Proofs.YtgdknepphkhnlaaGreatDoor.Sp
theorem part_no (s : ByteArray) (hs : s.size ≤ 1048576) (d : Nat) : ∀ i : Nat, i + d = s.size → Ev (fun k => impl_pathPartOk.l0 k s (i : Int)) true → ∀ u ∈ s.data.toList.drop i, u ≠ 64 := by
 induction d with
 | zero =>
  intro i hi H u hu
  rw [List.drop_eq_nil_of_le (by rw [data_length]; omega)] at hu
  cases hu
 | succ d ih =>
  intro i hi H u hu
  have hl : i < s.data.toList.length := by rw [data_length]; omega
  have hb := byte_at s i zp
  have ws := w64s (show i < s.size by omega) zp
  obtain ⟨r, h1, _⟩ := part_both s hs d (i + 1) zp
  cases r with
  | false =>
   have H2 : Ev (fun k => impl_pathPartOk.l0 k s (i : Int)) false := by
    refine evS (fun k => by rw [impl_pathPartOk.l0]) ?_
    rw [ws]
    have F : Ev (fun k => (impl_isFigure.f (bt s (i : Int))).bind fun t => (if t = true then (impl_pathPartOk.l0 k s ((i + 1 : Nat) : Int)) else (if (i : Int) = 0 then (some false) else (if (bt s (i : Int)) = 45 then (impl_pathPartOk.l0 k s ((i + 1 : Nat) : Int)) else (if (bt s (i : Int)) = 46 then (impl_pathPartOk.l0 k s ((i + 1 : Nat) : Int)) else (if (bt s (i : Int)) = 95 then (impl_pathPartOk.l0 k s ((i + 1 : Nat) : Int)) else (some false))))))) false :=
     evC (fig_impl _) (evI (fun _ => h1) (fun _ => evI (fun _ => evR rfl) (fun _ => evI (fun _ => h1) (fun _ => evI (fun _ => h1) (fun _ => evI (fun _ => h1) (fun _ => evR rfl))))))
    exact evT zp (evT zp (evI (fun _ => evI (fun _ => h1) (fun _ => F)) (fun _ => F)))
   have := ev_one H2 H
   cases this
  | true =>
   rw [List.drop_eq_getElem_cons hl] at hu
   rcases List.mem_cons.1 hu with rfl | hu
   ·intro e
    rw [e] at hb
    have H2 : Ev (fun k => impl_pathPartOk.l0 k s (i : Int)) false := by
     refine evS (fun k => by rw [impl_pathPartOk.l0]) ?_
     rw [hb]
     refine evT zp (evT zp (evF zt (evC (fig_impl _) (evF zt (evI (fun _ => evR rfl) (fun _ => evF zt (evF zt (evF zt (evR rfl)))))))))
    have := ev_one H2 H
    cases this
   ·exact ih (i + 1) zp h1 u hu
theorem path_no (s : ByteArray) (hs : s.size ≤ 1048576) (H : Ev (fun k => impl_PathOk.f k s) true) : ∀ u ∈ s.data.toList, u ≠ 64 := by
 have hc := pieces_count 47 s
 have H2 : Ev (fun k => impl_PathOk.l0 k s (pieces 47 s) (pieces 47 s) ((pieces 47 s).length : Int) ((0 : Nat) : Int)) true := by
  obtain ⟨r, h1, _, _⟩ := path_l0 s (pieces 47 s) zp (fun x hx => by have := pieces_mem 47 s x hx; omega) _ 0 (Nat.zero_add _)
  have : Ev (fun k => impl_PathOk.f k s) r := by unfold impl_PathOk.f; exact evC (split_impl s hs 47) h1
  rw [ev_one this H] at h1
  exact h1
 obtain ⟨q1, _, _⟩ := path_true s (pieces 47 s) zp (fun x hx => by have := pieces_mem 47 s x hx; omega) _ 0 (Nat.zero_add _) H2
 rw [List.drop_zero] at q1
 intro u hu
 rcases pcs_has 47 s.data.toList u hu with h | ⟨x, hx, hux⟩
 ·rw [h]
  decide
 ·have hm : toB x ∈ pieces 47 s := by rw [pieces_toB]; exact List.mem_map.2 ⟨x, hx, rfl⟩
  have hz := pieces_mem 47 s _ hm
  have := part_no (toB x) zp (toB x).size 0 zp (q1 _ hm) u
  rw [List.drop_zero, toB_data] at this
  exact this hux
end Go.Proofs.YtgdknepphkhnlaaGreatDoor.Z

/- A right name comes back of its text. Plain lemmas. -/
set_option linter.unusedVariables false
namespace Go.Proofs.YtgdknepphkhnlaaGreatDoor.Z
open Go.RowKit Go.Proofs.YtgdknepphkhnlaaGreatDoorW.PrintWords Go.Proofs.YtgdknepphkhnlaaGreatDoorW.PrintMore Go.Proofs.YtgdknepphkhnlaaGreatDoor.X Go.Proofs.YtgdknepphkhnlaaGreatDoor.Sp
theorem fits_parts (s : ByteArray) (a b c : Int) (p : ByteArray) (hs : s.size ≤ 1048576) (hp : p.size ≤ 1048576) (f : Ev (fun k => impl_Fits.f k s a b c p) true) : Ev (fun k => impl_PathOk.f k s) true ∧ verOk a b c p = true := by
 obtain ⟨r, p1, p2, _⟩ := pathOk_both s hs
 cases r with
 | false =>
  exfalso
  have mI : Ev (fun k => impl_MajorOf.f k s) 0 := by
   unfold impl_MajorOf.f
   exact evB p1 (evF Bool.false_ne_true (evR rfl))
  have mS : Ev (fun k => spec_MajorOf.f k s) 0 := by
   unfold spec_MajorOf.f
   exact evB p2 (evF Bool.false_ne_true (evR rfl))
  have := ev_one (fits_of s 0 a b c p hp mI mS).1 f
  have e : fitsM 0 a b c p = false := rfl
  rw [e] at this
  cases this
 | true =>
  refine ⟨p1, ?_⟩
  obtain ⟨r, f1, _, f3⟩ := fits_both s a b c p hs hp
  exact f3 (ev_one f1 f)
theorem name_back (s : ByteArray) (a b c : Int) (p : ByteArray) (hs : s.size ≤ 100000) (hp : p.size ≤ 100000) (f : Ev (fun k => impl_Fits.f k s a b c p) true) :
  Ev (fun k => impl_EntryName.f k s a b c p) (nameT true s a b c p) ∧ Ev (fun k => impl_ParseName.f k (nameT true s a b c p)) (s, a, b, c, p, true) ∧ (nameT true s a b c p).size ≤ s.size + 26 + p.size := by
 obtain ⟨hpath, hv⟩ := fits_parts s a b c p zp zp f
 have hno := path_no s zp hpath
 obtain ⟨r, f1, f2, _⟩ := fits_both s a b c p zp zp
 have hr := ev_one f1 f
 subst hr
 obtain ⟨n1, _⟩ := name_both s a b c p true zp zp f1 f2
 have hz := verText_size a b c p
 have hsz : (nameT true s a b c p).size = s.size + 1 + (verText a b c p).size := by
  unfold nameT
  rw [if_pos rfl, ByteArray.size_append, ByteArray.size_append]
  rfl
 have hd : (nameT true s a b c p).data.toList = s.data.toList ++ 64 :: (verText a b c p).data.toList := by
  unfold nameT
  rw [if_pos rfl]
  exact bytes_app s _
 obtain ⟨bb, hc⟩ := cut_ev (nameT true s a b c p) 64 zp
 rw [hd, cutL_hit 64 _ _ hno, toB_self, toB_self] at hc
 obtain ⟨q1, _⟩ := read_both (verText a b c p) zp
 rw [read_back a b c p hv] at q1
 refine ⟨n1, ?_, zp⟩
 unfold impl_ParseName.f
 refine evC hc (evB q1 (evT rfl (evB n1 (evT rfl (evF ?_ (evR rfl))))))
 intro e
 have := (nil_iff' _).1 e
 omega
end Go.Proofs.YtgdknepphkhnlaaGreatDoor.Z

/- An entry comes back of its text. Plain lemmas. -/
set_option linter.unusedVariables false
namespace Go.Proofs.YtgdknepphkhnlaaGreatDoor.Z
open Go.RowKit Go.Proofs.YtgdknepphkhnlaaGreatDoorW.PrintWords Go.Proofs.YtgdknepphkhnlaaGreatDoorW.PrintMore Go.Proofs.YtgdknepphkhnlaaGreatDoor.X Go.Proofs.YtgdknepphkhnlaaGreatDoor.Sp
theorem encN_wf (d : Nat) : ∀ n, ∀ x ∈ encN d n, (Lit.int .u8 x).wf = true := by
 have hb : ∀ x : Int, 0 ≤ x → x ≤ 255 → (Lit.int .u8 x).wf = true := by
  intro x h0 h1
  simp [Lit.wf, IntKind.min, IntKind.max, IntKind.signed, IntKind.bits]
  omega
 induction d with
 | zero =>
  intro n x hx
  rw [encN, List.mem_singleton] at hx
  exact hb x zp zp
 | succ d ih =>
  intro n x hx
  unfold encN at hx
  split at hx
  ·rcases List.mem_cons.1 hx with rfl | hx
   ·exact hb _ zp zp
   ·exact ih _ x hx
  ·rw [List.mem_singleton] at hx
   exact hb x zp zp
theorem encT_wf (s : ByteArray) : ∀ x ∈ encT s, (Lit.int .u8 x).wf = true := by
 intro x hx
 unfold encT at hx
 rcases List.mem_append.1 hx with hx | hx
 ·exact encN_wf 4 _ x hx
 ·exact bytes_wf s x hx
theorem encL_wf (l : List ByteArray) : ∀ x ∈ encL l, (Lit.int .u8 x).wf = true := by
 induction l with
 | nil => intro x hx; simp [encL] at hx
 | cons s l ih =>
  intro x hx
  rw [encL_cons] at hx
  rcases List.mem_append.1 hx with hx | hx
  ·exact encT_wf s x hx
  ·exact ih x hx
theorem nmN_tiny {y : S35} (h1 : y.f0.size ≤ 100) (h2 : y.f1.f3.size ≤ 100) : (nmN y).size ≤ 226 := by
 have := nameT_size y.f0 y.f1.f0 y.f1.f1 y.f1.f2 y.f1.f3
 unfold nmN
 omega
theorem total_tiny (l : List S35) (hl : ∀ y ∈ l, y.f0.size ≤ 100 ∧ y.f1.f3.size ≤ 100) : total (l.map nmN) ≤ 226 * l.length := by
 induction l with
 | nil => simp [total_nil]
 | cons y l ih =>
  rw [List.map_cons, total_cons, List.length_cons]
  have := ih (fun z hz => hl z (List.mem_cons_of_mem _ hz))
  have := nmN_tiny (hl y List.mem_cons_self).1 (hl y List.mem_cons_self).2
  omega
theorem back_loop (x : ByteArray) (l : List S35) (hn : l.length ≤ 200) (hl : ∀ y ∈ l, y.f0.size ≤ 100 ∧ y.f1.f3.size ≤ 100) (hf : ∀ y ∈ l, fitsN y) (s : ByteArray) (a b c : Int) (p : ByteArray) (r : E7)
  (H : Ev (fun k => impl_GetEntry.l0 k x (l.map nmN) ((l.map nmN).length : Int) (l.length : Int) s a b c p l) r) (d : Nat) : ∀ i : Nat, i + d = l.length → Ev (fun k => impl_GetEntry.l0 k x (l.map nmN) ((l.map nmN).length : Int) (i : Int) s a b c p (l.take i)) r := by
 induction d with
 | zero =>
  intro i hi
  rw [List.take_of_length_le zp, show (i : Int) = (l.length : Int) by omega]
  exact H
 | succ d ih =>
  intro i hi
  have il : i < l.length := by omega
  have hm := List.getElem_mem il
  have iL : i < (l.map nmN).length := by rw [List.length_map]; exact il
  obtain ⟨_, n2, _⟩ := name_back l[i].f0 l[i].f1.f0 l[i].f1.f1 l[i].f1.f2 l[i].f1.f3 (by have := (hl _ hm).1; omega) (by have := (hl _ hm).2; omega) (hf _ hm).1
  have hr : rdOf ByteArray.empty (l.map nmN) (i : Int) = nmN l[i] := by
   have := rdOf_get (d := ByteArray.empty) iL
   rw [List.getElem?_eq_getElem iL, List.getElem_map] at this
   exact (Option.some.inj this).symm
  have hnext := ih (i + 1) zp
  rw [List.take_succ_eq_append_getElem il] at hnext
  refine evS (fun k => by rw [impl_GetEntry.l0]) ?_
  rw [hr, w64s iL (by rw [List.length_map]; omega)]
  refine evT zp (evT zp (evT zp (evB n2 (evT rfl ?_))))
  exact evT (by rw [List.length_take]; omega) hnext
theorem getE_back (s : ByteArray) (a b c : Int) (p : ByteArray) (l : List S35) (hs : s.size ≤ 100) (hp : p.size ≤ 100) (hn : l.length ≤ 8) (hl : ∀ y ∈ l, y.f0.size ≤ 100 ∧ y.f1.f3.size ≤ 100) (hok : Ev (fun k => spec_EntryOk.f k s a b c p l) true) :
  Ev (fun k => impl_GetEntry.f k (strOfNums (encE s a b c p l))) (s, a, b, c, p, l, true) := by
 have hsm : ∀ y ∈ l, smallN y := fun y hy => ⟨by have := (hl y hy).1; omega, by have := (hl y hy).2; omega⟩
 obtain ⟨f1, _, _, f4⟩ := entry_true s a b c p l zp zp zp hsm hok
 obtain ⟨r, o1, o2, o3, _⟩ := putE_both s a b c p l zp zp zp hsm
 have hr := ev_one o2 hok
 subst hr
 rw [if_pos rfl] at o3
 obtain ⟨_, n2, n3⟩ := name_back s a b c p zp zp f1
 obtain ⟨N, hN⟩ : ∃ N, nameT true s a b c p = N := ⟨_, rfl⟩
 rw [hN] at n2 n3
 have hLl : (l.map nmN).length = l.length := List.length_map ..
 have htot := total_tiny l hl
 have hLs : ∀ y ∈ l.map nmN, y.size ≤ 226 := by
  intro y hy
  obtain ⟨z, hz, rfl⟩ := List.mem_map.1 hy
  exact nmN_tiny (hl z hz).1 (hl z hz).2
 obtain ⟨B, hB⟩ : ∃ B, encE s a b c p l = B := ⟨_, rfl⟩
 rw [hB] at o3 ⊢
 have hB2 : encT N ++ (encN 4 (l.map nmN).length ++ encL (l.map nmN)) = B := by
  rw [← hB]
  unfold encE
  rw [hN, near_of zp]
 have hBw : ∀ x ∈ B, (Lit.int .u8 x).wf = true := by
  intro x hx
  rw [← hB2] at hx
  rcases List.mem_append.1 hx with hx | hx
  ·exact encT_wf N x hx
  ·rcases List.mem_append.1 hx with hx | hx
   ·exact encN_wf 4 _ x hx
   ·exact encL_wf _ x hx
 have hBl : B.length ≤ 10000 := by
  rw [← hB2, List.length_append, List.length_append]
  have e1 := encT_length N
  have e2 := encN_length 4 (l.map nmN).length
  have e3 := encL_length (l.map nmN)
  omega
 have t1 := implText_put [] N (encN 4 (l.map nmN).length ++ encL (l.map nmN)) zp (by rw [List.nil_append, hB2]; omega)
 rw [List.nil_append, hB2] at t1
 have t2 := implTexts_put (encT N) (l.map nmN) zp (fun y hy => by have := hLs y hy; omega) [] (by rw [List.append_nil, hB2]; omega)
 rw [List.append_nil, hB2] at t2
 have g1 : Ev (fun k => impl_getter_text.f k B 0 false) (N, ((([] : List Int).length + (encT N).length : Nat) : Int), false) := by
  unfold impl_getter_text.f
  exact evB t1 (evF Bool.false_ne_true (evT rfl (evR rfl)))
 have g2 : Ev (fun k => impl_getter_texts.f k B ((([] : List Int).length + (encT N).length : Nat) : Int) false) (l.map nmN, (((encT N).length + (encN 4 (l.map nmN).length ++ encL (l.map nmN)).length : Nat) : Int), false) := by
  unfold impl_getter_texts.f
  rw [show ((([] : List Int).length + (encT N).length : Nat) : Int) = ((encT N).length : Int) by simp]
  exact evB t2 (evF Bool.false_ne_true (evT rfl (evR rfl)))
 have hend : Ev (fun k => impl_GetEntry.l0 k (strOfNums B) (l.map nmN) ((l.map nmN).length : Int) (l.length : Int) s a b c p l) (s, a, b, c, p, l, true) := by
  refine evS (fun k => by rw [impl_GetEntry.l0]) ?_
  exact evF zp (evB o3 (evT rfl (evR rfl)))
 have hloop := back_loop (strOfNums B) l zp hl f4 s a b c p _ hend l.length 0 zp
 rw [List.take_zero] at hloop
 unfold impl_GetEntry.f
 rw [bytes_strOf B hBw]
 refine evT (by rw [strOf_len]; omega) (evC rfl (evB g1 (evB g2 (evB n2 ?_))))
 refine evF Bool.false_ne_true ?_
 refine evS (fun k => by rw [impl_GetEntry.j0]) ?_
 exact evF (by show ¬ ((!true) = true); decide) hloop
end Go.Proofs.YtgdknepphkhnlaaGreatDoor.Z

/- What the reference's draws of one number give. No Go, no memory. -/
set_option linter.unusedVariables false
namespace Go.Proofs.YtgdknepphkhnlaaGreatDoor.Z
open Go.RowKit Go.Proofs.YtgdknepphkhnlaaGreatDoorW.PrintWords Go.Proofs.YtgdknepphkhnlaaGreatDoorW.PrintMore Go.Proofs.YtgdknepphkhnlaaGreatDoor.X
theorem and255 (a : Int) : 0 ≤ Go.bits .and .i64 a 255 ∧ Go.bits .and .i64 a 255 ≤ 255 := by
 have h : ((BitVec.ofInt 64 a &&& BitVec.ofInt 64 255).toNat) ≤ 255 := by
  rw [BitVec.toNat_and]
  exact Nat.and_le_right
 have h2 : Go.bits .and .i64 a 255 = IntKind.i64.wrap (((BitVec.ofInt 64 a &&& BitVec.ofInt 64 255).toNat : Nat) : Int) := rfl
 rw [h2, wi64, w64 zp]
 omega
def At (l : List Int) (i : Int) : Prop := 0 ≤ i ∧ i ≤ l.length
theorem byte_some (l : List Int) (hl : l.length ≤ 140737488355328) (i h : Int) (hi : At l i) : ∃ x i' h', spec_l1Byte.f l i h = some (x, i', h') ∧ 0 ≤ x ∧ x ≤ 255 ∧ At l i' := by
 unfold At at *
 unfold spec_l1Byte.f
 by_cases h1 : i < (l.length : Int)
 ·rw [if_pos h1, if_pos hi.1, w64 (x := i + 1) zp]
  exact ⟨_, _, _, rfl, (and255 _).1, (and255 _).2, zp, zp⟩
 ·rw [if_neg h1]
  exact ⟨_, _, _, rfl, (and255 _).1, (and255 _).2, hi⟩
theorem below_some (l : List Int) (hl : l.length ≤ 140737488355328) (i h n : Int) (hi : At l i) (hn : n ≤ 1000000) : ∃ x i' h', spec_l1Below.f l i h n = some (x, i', h') ∧ 0 ≤ x ∧ (x < n ∨ x = 0) ∧ At l i' := by
 unfold spec_l1Below.f
 by_cases h0 : n ≤ 0
 ·rw [if_pos h0]
  exact ⟨_, _, _, rfl, zp, .inr rfl, hi⟩
 rw [if_neg h0]
 by_cases h1 : n ≤ 256
 ·rw [if_pos h1]
  obtain ⟨x, i', h', e, hx0, hx1, hi'⟩ := byte_some l hl i h hi
  rw [e]
  simp only [Option.bind_some]
  rw [if_neg zp, Int.tmod_eq_emod_of_nonneg hx0]
  exact ⟨_, _, _, rfl, Int.emod_nonneg _ zp, .inl (Int.emod_lt_of_pos _ zp), hi'⟩
 ·rw [if_neg h1]
  obtain ⟨x, i1, h1', e1, hx0, hx1, hi1⟩ := byte_some l hl i h hi
  obtain ⟨y, i2, h2', e2, hy0, hy1, hi2⟩ := byte_some l hl i1 h1' hi1
  obtain ⟨z, i3, h3', e3, hz0, hz1, hi3⟩ := byte_some l hl i2 h2' hi2
  rw [e1]
  simp only [Option.bind_some]
  rw [e2]
  simp only [Option.bind_some]
  rw [e3]
  simp only [Option.bind_some]
  rw [if_neg zp, w64 (x := x * 65536) zp, w64 (x := y * 256) zp, w64 (x := x * 65536 + y * 256) zp, w64 (x := x * 65536 + y * 256 + z) zp, Int.tmod_eq_emod_of_nonneg zp]
  exact ⟨_, _, _, rfl, Int.emod_nonneg _ zp, .inl (Int.emod_lt_of_pos _ zp), hi3⟩
theorem int_some (l : List Int) (hl : l.length ≤ 140737488355328) (i h : Int) (m : List Int) (hi : At l i) (hm : 0 < m.length) (hm2 : m.length ≤ 1000) : ∃ x i' h', spec_l1Int.f l i h m = some (x, i', h') ∧ x ∈ m ∧ At l i' := by
 unfold spec_l1Int.f
 obtain ⟨x, i', h', e, hx0, hx1, hi'⟩ := below_some l hl i h (m.length : Int) hi zp
 rw [e]
 simp only [Option.bind_some]
 rw [if_pos hx0, if_pos zp]
 refine ⟨_, _, _, rfl, ?_, hi'⟩
 have := rd_get (l := m) (i := x.toNat) zp
 rw [show ((x.toNat : Nat) : Int) = x by omega] at this
 exact List.mem_of_getElem? this
theorem new_l0 (l : List Int) (hl : l.length ≤ 140737488355328) (d : Nat) : ∀ (j : Nat) (h : Int), j + d = l.length → ∃ h', Ev (fun k => spec_l1New.l0 k l h (j : Int)) (l, 0, h') := by
 induction d with
 | zero =>
  intro j h hj
  exact ⟨h, evS (fun k => by rw [spec_l1New.l0]) (evF zp (evR rfl))⟩
 | succ d ih =>
  intro j h hj
  by_cases h4 : (j : Int) < 4000
  ·obtain ⟨h', e⟩ := ih (j + 1) (Go.bits .and .i64 (wrap64 ((wrap64 ((wrap64 (h * 137)) + (wrap64 (rd l (j : Int))))) + 11)) 1073741823) zp
   refine ⟨h', evS (fun k => by rw [spec_l1New.l0]) (evT zp (evT h4 (evT zp ?_)))⟩
   rw [w64s (show j < l.length by omega) zp]
   exact e
  ·exact ⟨h, evS (fun k => by rw [spec_l1New.l0]) (evT zp (evF h4 (evR rfl)))⟩
theorem new_some (l : List Int) (hl : l.length ≤ 140737488355328) : ∃ h', Ev (fun k => spec_l1New.f k l) (l, 0, h') := by
 obtain ⟨h', e⟩ := new_l0 l hl l.length 0 (wrap64 (372372 + (l.length : Int))) zp
 exact ⟨h', e⟩
theorem at_zero (l : List Int) : At l 0 := ⟨zp, zp⟩
end Go.Proofs.YtgdknepphkhnlaaGreatDoor.Z

/- A drawn text. No Go, no memory. -/
set_option linter.unusedVariables false
namespace Go.Proofs.YtgdknepphkhnlaaGreatDoor.Z
open Go.RowKit Go.Proofs.YtgdknepphkhnlaaGreatDoorW.PrintWords Go.Proofs.YtgdknepphkhnlaaGreatDoorW.PrintMore Go.Proofs.YtgdknepphkhnlaaGreatDoor.X
theorem str_some (l : List Int) (hl : l.length ≤ 140737488355328) (i h : Int) (m : List ByteArray) (hi : At l i) (hm : 0 < m.length) (hm2 : m.length ≤ 1000) : ∃ x i' h', spec_l1Str.f l i h m = some (x, i', h') ∧ x ∈ m ∧ At l i' := by
 unfold spec_l1Str.f
 obtain ⟨x, i', h', e, hx0, hx1, hi'⟩ := below_some l hl i h (m.length : Int) hi zp
 rw [e]
 simp only [Option.bind_some]
 rw [if_pos hx0, if_pos zp]
 refine ⟨_, _, _, rfl, ?_, hi'⟩
 have := rdOf_get (d := ByteArray.empty) (l := m) (i := x.toNat) zp
 rw [show ((x.toNat : Nat) : Int) = x by omega] at this
 exact List.mem_of_getElem? this
end Go.Proofs.YtgdknepphkhnlaaGreatDoor.Z

/- Drawn versions that may be wrong, and drawn texts. Plain lemmas. -/
set_option linter.unusedVariables false
namespace Go.Proofs.YtgdknepphkhnlaaGreatDoor.Z
open Go.RowKit Go.Proofs.YtgdknepphkhnlaaGreatDoorW.PrintWords Go.Proofs.YtgdknepphkhnlaaGreatDoorW.PrintMore Go.Proofs.YtgdknepphkhnlaaGreatDoor.X
theorem three_small : ∀ p ∈ ([(⟨#[]⟩ : ByteArray), (⟨#[]⟩ : ByteArray), (⟨#[]⟩ : ByteArray), (⟨#[114, 99, 46, 49]⟩ : ByteArray), (⟨#[97, 108, 112, 104, 97]⟩ : ByteArray), (⟨#[114, 99, 46, 50]⟩ : ByteArray), (⟨#[49]⟩ : ByteArray), (⟨#[50, 46, 120]⟩ : ByteArray), (⟨#[98, 101, 116, 97, 45, 49]⟩ : ByteArray), (⟨#[114, 99]⟩ : ByteArray)] : List ByteArray), p.size ≤ 100 := by decide +kernel
theorem any_small : ∀ p ∈ ([(⟨#[46]⟩ : ByteArray), (⟨#[48, 49]⟩ : ByteArray), (⟨#[97, 46, 46, 98]⟩ : ByteArray), (⟨#[97, 46, 98, 46, 99, 46, 100]⟩ : ByteArray), (⟨#[97, 46, 98, 46, 99, 46, 100, 46, 101]⟩ : ByteArray), (⟨#[110, 105, 110, 101, 98, 121, 116, 101, 115]⟩ : ByteArray), (⟨#[195, 169]⟩ : ByteArray), (⟨#[48]⟩ : ByteArray), (⟨#[97, 95, 98]⟩ : ByteArray)] : List ByteArray), p.size ≤ 100 := by decide +kernel
theorem draw3_small (l : List Int) (hl : l.length ≤ 140737488355328) (i h : Int) (hi : At l i) : ∃ x y z p i' h', spec_l3Draw.f l i h = some (x, y, z, p, i', h') ∧ 0 ≤ x ∧ x ≤ 2 ∧ 0 ≤ y ∧ y < 4 ∧ 0 ≤ z ∧ z < 3 ∧ p.size ≤ 100 ∧ At l i' := by
 unfold spec_l3Draw.f
 obtain ⟨x, i1, h1, e1, x0, a1⟩ := int_some l hl i h [1, 0, 1, 2] hi (by simp) (by simp)
 obtain ⟨y, i2, h2, e2, y0, y1, a2⟩ := below_some l hl i1 h1 4 a1 zp
 obtain ⟨z, i3, h3, e3, z0, z1, a3⟩ := below_some l hl i2 h2 3 a2 zp
 obtain ⟨p, i4, h4, e4, p0, a4⟩ := str_some l hl i3 h3 ([(⟨#[]⟩ : ByteArray), (⟨#[]⟩ : ByteArray), (⟨#[]⟩ : ByteArray), (⟨#[114, 99, 46, 49]⟩ : ByteArray), (⟨#[97, 108, 112, 104, 97]⟩ : ByteArray), (⟨#[114, 99, 46, 50]⟩ : ByteArray), (⟨#[49]⟩ : ByteArray), (⟨#[50, 46, 120]⟩ : ByteArray), (⟨#[98, 101, 116, 97, 45, 49]⟩ : ByteArray), (⟨#[114, 99]⟩ : ByteArray)]) a3 zt zt
 refine ⟨x, y, z, p, i4, h4, ?_, ?_, ?_, y0, zp, z0, zp, ?_, a4⟩
 ·rw [e1]
  simp only [Option.bind_some]
  rw [e2]
  simp only [Option.bind_some]
  rw [e3]
  simp only [Option.bind_some]
  rw [e4]
  rfl
 ·simp only [List.mem_cons, List.not_mem_nil, or_false] at x0; omega
 ·simp only [List.mem_cons, List.not_mem_nil, or_false] at x0; omega
 ·exact three_small p p0
theorem any3_some (l : List Int) (hl : l.length ≤ 140737488355328) (i h : Int) (hi : At l i) : ∃ x y z p i' h', spec_l3Any.f l i h = some (x, y, z, p, i', h') ∧ p.size ≤ 100 ∧ At l i' := by
 obtain ⟨x, y, z, p, i1, h1, e1, _, _, _, _, _, _, p0, a1⟩ := draw3_small l hl i h hi
 obtain ⟨n, i2, h2, e2, _, _, a2⟩ := below_some l hl i1 h1 12 a1 zp
 obtain ⟨q, i3, h3, e3, q0, a3⟩ := int_some l hl i2 h2 [(-1), 1000000, 1000001] a2 (by simp) (by simp)
 obtain ⟨t, i4, h4, e4, t0, a4⟩ := str_some l hl i2 h2 ([(⟨#[46]⟩ : ByteArray), (⟨#[48, 49]⟩ : ByteArray), (⟨#[97, 46, 46, 98]⟩ : ByteArray), (⟨#[97, 46, 98, 46, 99, 46, 100]⟩ : ByteArray), (⟨#[97, 46, 98, 46, 99, 46, 100, 46, 101]⟩ : ByteArray), (⟨#[110, 105, 110, 101, 98, 121, 116, 101, 115]⟩ : ByteArray), (⟨#[195, 169]⟩ : ByteArray), (⟨#[48]⟩ : ByteArray), (⟨#[97, 95, 98]⟩ : ByteArray)]) a2 zt zt
 have t1 : t.size ≤ 100 := any_small t t0
 unfold spec_l3Any.f
 rw [e1]
 simp only [Option.bind_some]
 rw [e2]
 simp only [Option.bind_some]
 by_cases c0 : n = 0
 ·rw [if_pos c0, e3]
  exact ⟨_, _, _, _, _, _, rfl, p0, a3⟩
 ·rw [if_neg c0]
  by_cases c1 : n = 1
  ·rw [if_pos c1, e4]
   exact ⟨_, _, _, _, _, _, rfl, t1, a4⟩
  ·rw [if_neg c1]
   by_cases c2 : n = 2
   ·rw [if_pos c2, e3]
    exact ⟨_, _, _, _, _, _, rfl, p0, a3⟩
   ·rw [if_neg c2]
    exact ⟨_, _, _, _, _, _, rfl, p0, a2⟩
end Go.Proofs.YtgdknepphkhnlaaGreatDoor.Z

/- Drawn paths and needs: always some, of small size. Plain lemmas. -/
set_option linter.unusedVariables false
namespace Go.Proofs.YtgdknepphkhnlaaGreatDoor.Z
open Go.RowKit Go.Proofs.YtgdknepphkhnlaaGreatDoorW.PrintWords Go.Proofs.YtgdknepphkhnlaaGreatDoorW.PrintMore Go.Proofs.YtgdknepphkhnlaaGreatDoor.X
def paths6 : List ByteArray := [(⟨#[97, 46, 111, 114, 103, 47, 120]⟩ : ByteArray), (⟨#[97, 46, 111, 114, 103, 47, 121]⟩ : ByteArray), (⟨#[98, 46, 105, 111, 47, 122]⟩ : ByteArray), (⟨#[98, 46, 105, 111, 47, 122, 47, 118, 50]⟩ : ByteArray), (⟨#[99]⟩ : ByteArray), (⟨#[97, 46, 111, 114, 103, 47, 119]⟩ : ByteArray)]
def odds16 : List ByteArray := [(⟨#[]⟩ : ByteArray), (⟨#[47]⟩ : ByteArray), (⟨#[97, 47, 47, 98]⟩ : ByteArray), (⟨#[65]⟩ : ByteArray), (⟨#[45, 97]⟩ : ByteArray), (⟨#[97, 47, 118, 49]⟩ : ByteArray), (⟨#[97, 47, 118, 50]⟩ : ByteArray), (⟨#[97, 47, 118, 48, 50]⟩ : ByteArray), (⟨#[118, 50]⟩ : ByteArray), (⟨#[97, 47, 118, 49, 48, 48, 48]⟩ : ByteArray), (⟨#[97, 47, 118, 49, 48, 48, 49]⟩ : ByteArray), (⟨#[97, 47, 98, 47, 99, 47, 100, 47, 101, 47, 102]⟩ : ByteArray), (⟨#[97, 47, 98, 47, 99, 47, 100, 47, 101, 47, 102, 47, 103]⟩ : ByteArray), (⟨#[116, 119, 101, 110, 116, 121, 111, 110, 101, 98, 121, 116, 101, 115, 45, 116, 119, 101, 110, 116, 121]⟩ : ByteArray), (⟨#[97, 46, 98, 95, 99, 45, 100, 47, 118, 51]⟩ : ByteArray), (⟨#[46, 97]⟩ : ByteArray)]
theorem paths_small : ∀ p ∈ paths6, p.size ≤ 100 := by decide +kernel
theorem odds_small : ∀ p ∈ odds16, p.size ≤ 100 := by decide +kernel
theorem path4_some (l : List Int) (hl : l.length ≤ 140737488355328) (i h : Int) (hi : At l i) : ∃ s i' h', spec_l4Path.f l i h = some (s, i', h') ∧ s ∈ paths6 ∧ At l i' := by
 obtain ⟨s, i1, h1, e1, s0, a1⟩ := str_some l hl i h paths6 hi zt zt
 have e1' := e1
 unfold paths6 at e1'
 unfold spec_l4Path.f
 rw [e1']
 exact ⟨s, i1, h1, rfl, s0, a1⟩
theorem any4_some (l : List Int) (hl : l.length ≤ 140737488355328) (i h : Int) (hi : At l i) : ∃ s i' h', spec_l4Any.f l i h = some (s, i', h') ∧ (s ∈ odds16 ∨ s ∈ paths6) ∧ s.size ≤ 100 ∧ At l i' := by
 obtain ⟨n, i1, h1, e1, _, _, a1⟩ := below_some l hl i h 4 hi zp
 have e2 : spec_l1Once.f l i h 4 = some (n == 0, i1, h1) := by unfold spec_l1Once.f; rw [e1]; rfl
 unfold spec_l4Any.f
 rw [e2]
 simp only [Option.bind_some]
 cases hn : (n == 0) with
 | true =>
  obtain ⟨s, i2, h2, e3, s0, a2⟩ := str_some l hl i1 h1 odds16 a1 zt zt
  have e3' := e3
  unfold odds16 at e3'
  rw [if_pos rfl, e3']
  exact ⟨s, i2, h2, rfl, .inl s0, odds_small s s0, a2⟩
 | false =>
  obtain ⟨s, i2, h2, e3, s0, a2⟩ := path4_some l hl i1 h1 a1
  rw [if_neg Bool.false_ne_true, e3]
  exact ⟨s, i2, h2, rfl, .inr s0, paths_small s s0, a2⟩
end Go.Proofs.YtgdknepphkhnlaaGreatDoor.Z

/- What makes an entry right: it fits, its needs fit and rise, there are at most eight, and none has its path. Plain lemmas. -/
set_option linter.unusedVariables false
namespace Go.Proofs.YtgdknepphkhnlaaGreatDoor.Z
open Go.RowKit Go.Proofs.YtgdknepphkhnlaaGreatDoorW.PrintWords Go.Proofs.YtgdknepphkhnlaaGreatDoorW.PrintMore Go.Proofs.YtgdknepphkhnlaaGreatDoor.X Go.Proofs.YtgdknepphkhnlaaGreatDoor.Sp
end Go.Proofs.YtgdknepphkhnlaaGreatDoor.Z

/- An element put into a rising list, in the place of its like. Plain lemmas. -/
set_option linter.unusedVariables false
namespace Go.Proofs.YtgdknepphkhnlaaGreatDoor.Z
def putT {α : Type} (key : α → Nat) (n : α) : Bool → List α → List α
 | true, [] => []
 | false, [] => [n]
 | true, x :: l => if key x = key n then putT key n true l else x :: putT key n true l
 | false, x :: l => if key n ≤ key x then (if key x = key n then n :: putT key n true l else n :: x :: putT key n true l) else x :: putT key n false l
theorem putT_mem {α : Type} (key : α → Nat) (n : α) (l : List α) : (∀ y ∈ putT key n true l, y ∈ l ∧ key y ≠ key n) ∧ ∀ y ∈ putT key n false l, y = n ∨ y ∈ l := by
 induction l with
 | nil => exact ⟨fun y hy => (by cases hy), fun y hy => .inl (by simpa [putT] using hy)⟩
 | cons x l ih =>
  refine ⟨fun y hy => ?_, fun y hy => ?_⟩
  ·unfold putT at hy
   split at hy
   ·have := ih.1 y hy
    exact ⟨List.mem_cons_of_mem _ this.1, this.2⟩
   ·rename_i hne
    rcases List.mem_cons.1 hy with rfl | hy
    ·exact ⟨List.mem_cons_self, hne⟩
    ·have := ih.1 y hy
     exact ⟨List.mem_cons_of_mem _ this.1, this.2⟩
  ·unfold putT at hy
   split at hy
   ·split at hy
    ·rcases List.mem_cons.1 hy with rfl | hy
     ·exact .inl rfl
     ·exact .inr (List.mem_cons_of_mem _ (ih.1 y hy).1)
    ·rcases List.mem_cons.1 hy with rfl | hy
     ·exact .inl rfl
     ·rcases List.mem_cons.1 hy with rfl | hy
      ·exact .inr List.mem_cons_self
      ·exact .inr (List.mem_cons_of_mem _ (ih.1 y hy).1)
   ·rcases List.mem_cons.1 hy with rfl | hy
    ·exact .inr List.mem_cons_self
    ·rcases ih.2 y hy with h | h
     ·exact .inl h
     ·exact .inr (List.mem_cons_of_mem _ h)
theorem putT_len {α : Type} (key : α → Nat) (n : α) (l : List α) : (putT key n true l).length ≤ l.length ∧ (putT key n false l).length ≤ l.length + 1 := by
 induction l with
 | nil => simp [putT]
 | cons x l ih =>
  refine ⟨?_, ?_⟩
  ·unfold putT
   split
   ·rw [List.length_cons]
    omega
   ·rw [List.length_cons, List.length_cons]
    omega
  ·unfold putT
   split
   ·split
    ·rw [List.length_cons, List.length_cons]
     omega
    ·rw [List.length_cons, List.length_cons, List.length_cons]
     omega
   ·rw [List.length_cons, List.length_cons]
    omega
theorem putT_rise {α : Type} (key : α → Nat) (n : α) (l : List α) (h : l.Pairwise (fun x y => key x < key y)) : (putT key n true l).Pairwise (fun x y => key x < key y) ∧ (putT key n false l).Pairwise (fun x y => key x < key y) := by
 induction l with
 | nil => exact ⟨List.Pairwise.nil, by simp [putT]⟩
 | cons x l ih =>
  obtain ⟨hx, hl⟩ := List.pairwise_cons.1 h
  obtain ⟨i1, i2⟩ := ih hl
  have m1 := (putT_mem key n l).1
  have m2 := (putT_mem key n l).2
  refine ⟨?_, ?_⟩
  ·unfold putT
   split
   ·exact i1
   ·exact List.pairwise_cons.2 ⟨fun y hy => hx y (m1 y hy).1, i1⟩
  ·unfold putT
   split
   ·rename_i hle
    split
    ·rename_i heq
     exact List.pairwise_cons.2 ⟨fun y hy => by have := hx y (m1 y hy).1; omega, i1⟩
    ·rename_i hne
     refine List.pairwise_cons.2 ⟨fun y hy => ?_, List.pairwise_cons.2 ⟨fun y hy => hx y (m1 y hy).1, i1⟩⟩
     rcases List.mem_cons.1 hy with rfl | hy
     ·omega
     ·have := hx y (m1 y hy).1
      omega
   ·rename_i hlt
    refine List.pairwise_cons.2 ⟨fun y hy => ?_, i2⟩
    rcases m2 y hy with rfl | hy
    ·omega
    ·exact hx y hy
end Go.Proofs.YtgdknepphkhnlaaGreatDoor.Z

/- A drawn need always fits; how the drawn paths rise. Plain lemmas. -/
set_option linter.unusedVariables false
namespace Go.Proofs.YtgdknepphkhnlaaGreatDoor.Z
open Go.RowKit Go.Proofs.YtgdknepphkhnlaaGreatDoorW.PrintWords Go.Proofs.YtgdknepphkhnlaaGreatDoorW.PrintMore Go.Proofs.YtgdknepphkhnlaaGreatDoor.X Go.Proofs.YtgdknepphkhnlaaGreatDoor.Sp
def pres10 : List ByteArray := [(⟨#[]⟩ : ByteArray), (⟨#[]⟩ : ByteArray), (⟨#[]⟩ : ByteArray), (⟨#[114, 99, 46, 49]⟩ : ByteArray), (⟨#[97, 108, 112, 104, 97]⟩ : ByteArray), (⟨#[114, 99, 46, 50]⟩ : ByteArray), (⟨#[49]⟩ : ByteArray), (⟨#[50, 46, 120]⟩ : ByteArray), (⟨#[98, 101, 116, 97, 45, 49]⟩ : ByteArray), (⟨#[114, 99]⟩ : ByteArray)]
theorem pres_ok : ∀ p ∈ pres10, (decide (p.size = 0) || pre p) = true := by decide +kernel
theorem pres_small : ∀ p ∈ pres10, p.size ≤ 100 := by decide +kernel
theorem paths_major : ∀ s ∈ paths6, spec_MajorOf.f 100 s = some 1 ∨ spec_MajorOf.f 100 s = some 2 := by decide +kernel
def rank (s : ByteArray) : Nat := (paths6.filter (fun p => Op.bytesLess p.toList s.toList)).length
theorem paths_rank : ∀ s ∈ paths6, ∀ t ∈ paths6, (Op.bytesLess s.toList t.toList = true ↔ rank s < rank t) ∧ (s = t ↔ rank s = rank t) := by decide +kernel
theorem draw3_pre (l : List Int) (hl : l.length ≤ 140737488355328) (i h : Int) (hi : At l i) : ∃ x y z p i' h', spec_l3Draw.f l i h = some (x, y, z, p, i', h') ∧ 0 ≤ x ∧ x ≤ 2 ∧ 0 ≤ y ∧ y < 4 ∧ 0 ≤ z ∧ z < 3 ∧ p ∈ pres10 ∧ At l i' := by
 unfold spec_l3Draw.f
 obtain ⟨x, i1, h1, e1, x0, a1⟩ := int_some l hl i h [1, 0, 1, 2] hi (by simp) (by simp)
 obtain ⟨y, i2, h2, e2, y0, y1, a2⟩ := below_some l hl i1 h1 4 a1 zp
 obtain ⟨z, i3, h3, e3, z0, z1, a3⟩ := below_some l hl i2 h2 3 a2 zp
 obtain ⟨p, i4, h4, e4, p0, a4⟩ := str_some l hl i3 h3 pres10 a3 zt zt
 have e4' := e4
 unfold pres10 at e4'
 refine ⟨x, y, z, p, i4, h4, ?_, ?_, ?_, y0, zp, z0, zp, p0, a4⟩
 ·rw [e1]
  simp only [Option.bind_some]
  rw [e2]
  simp only [Option.bind_some]
  rw [e3]
  simp only [Option.bind_some]
  rw [e4']
  rfl
 ·simp only [List.mem_cons, List.not_mem_nil, or_false] at x0; omega
 ·simp only [List.mem_cons, List.not_mem_nil, or_false] at x0; omega
theorem fits_true (s : ByteArray) (m a b c : Int) (p : ByteArray) (hs : s ∈ paths6) (hm : m = 1 ∨ m = 2) (mS : Ev (fun k => spec_MajorOf.f k s) m) (ha : a = m ∨ m = 1 ∧ a = 0) (hb : 0 ≤ b ∧ b < 4) (hc : 0 ≤ c ∧ c < 3) (hp : p ∈ pres10) :
  Ev (fun k => impl_Fits.f k s a b c p) true ∧ Ev (fun k => spec_Fits.f k s a b c p) true := by
 have hz := paths_small s hs
 have hq := pres_small p hp
 obtain ⟨m', mI, mS', _, _⟩ := maj_both s zp
 have e := ev_one mS' mS
 subst e
 have hv : verOk a b c p = true := by
  unfold verOk in6
  rw [pres_ok p hp, decide_eq_true (show 0 ≤ a ∧ a ≤ 1000000 by omega), decide_eq_true (show 0 ≤ b ∧ b ≤ 1000000 by omega), decide_eq_true (show 0 ≤ c ∧ c ≤ 1000000 by omega)]
  rfl
 have hf : fitsM m' a b c p = true := by
  unfold fitsM
  simp only [Bool.and_eq_true, Bool.or_eq_true, decide_eq_true_eq]
  exact ⟨zp, hv, ha⟩
 have F := fits_of s m' a b c p zp mI mS
 rw [hf] at F
 exact F
theorem need5_fits (l : List Int) (hl : l.length ≤ 140737488355328) (i h : Int) (hi : At l i) : ∃ s a b c p i' h', Ev (fun k => spec_l5Need.f k l i h) (s, a, b, c, p, i', h') ∧ s ∈ paths6 ∧ p.size ≤ 100 ∧ At l i' ∧
  Ev (fun k => impl_Fits.f k s a b c p) true ∧ Ev (fun k => spec_Fits.f k s a b c p) true := by
 obtain ⟨s, i1, h1, e1, s0, a1⟩ := path4_some l hl i h hi
 have sz := paths_small s s0
 obtain ⟨x, y, z, p, i2, h2, e2, _, _, y0, y1, z0, z1, hp, a2⟩ := draw3_pre l hl i1 h1 a1
 have hq := pres_small p hp
 obtain ⟨n, i3, h3, e3, _, _, a3⟩ := below_some l hl i2 h2 4 a2 zp
 have e4 : spec_l1Once.f l i2 h2 4 = some (n == 0, i3, h3) := by unfold spec_l1Once.f; rw [e3]; rfl
 have hM : Ev (fun k => spec_MajorOf.f k s) 1 ∨ Ev (fun k => spec_MajorOf.f k s) 2 := (paths_major s s0).imp (fun e => Ev.of (spec_MajorOf.mono s) e) (fun e => Ev.of (spec_MajorOf.mono s) e)
 unfold spec_l5Need.f
 rcases hM with mS | mS
 ·cases hn : (n == 0) with
  | true =>
   rw [hn] at e4
   exact ⟨s, 0, y, z, p, i3, h3, evC e1 (evC e2 (evB mS (evT rfl (evC e4 (evT rfl (evR rfl)))))), s0, hq, a3, fits_true s 1 0 y z p s0 (.inl rfl) mS (.inr ⟨rfl, rfl⟩) ⟨y0, y1⟩ ⟨z0, z1⟩ hp⟩
  | false =>
   rw [hn] at e4
   exact ⟨s, 1, y, z, p, i3, h3, evC e1 (evC e2 (evB mS (evT rfl (evC e4 (evF Bool.false_ne_true (evR rfl)))))), s0, hq, a3, fits_true s 1 1 y z p s0 (.inl rfl) mS (.inl rfl) ⟨y0, y1⟩ ⟨z0, z1⟩ hp⟩
 ·exact ⟨s, 2, y, z, p, i2, h2, evC e1 (evC e2 (evB mS (evF zt (evR rfl)))), s0, hq, a2, fits_true s 2 2 y z p s0 (.inr rfl) mS (.inl rfl) ⟨y0, y1⟩ ⟨z0, z1⟩ hp⟩
end Go.Proofs.YtgdknepphkhnlaaGreatDoor.Z

/- The needs of a drawn entry stay right as one more is put among them. Plain lemmas. -/
set_option linter.unusedVariables false
namespace Go.Proofs.YtgdknepphkhnlaaGreatDoor.Z
open Go.RowKit Go.Proofs.YtgdknepphkhnlaaGreatDoorW.PrintWords Go.Proofs.YtgdknepphkhnlaaGreatDoorW.PrintMore Go.Proofs.YtgdknepphkhnlaaGreatDoor.X Go.Proofs.YtgdknepphkhnlaaGreatDoor.Sp
def keyN (y : S35) : Nat := rank y.f0
def InvE (s : ByteArray) (l : List S35) (j : Nat) : Prop := (∀ y ∈ l, y.f0 ∈ paths6 ∧ y.f1.f3.size ≤ 100 ∧ fitsN y ∧ y.f0 ≠ s) ∧ l.Pairwise (fun x y => keyN x < keyN y) ∧ l.length ≤ j
theorem inv_nil (s : ByteArray) : InvE s [] 0 := ⟨fun y hy => (by cases hy), List.Pairwise.nil, Nat.le_refl 0⟩
theorem inv_put {s : ByteArray} {l : List S35} {j : Nat} (h : InvE s l j) (n : S35) (hn : n.f0 ∈ paths6 ∧ n.f1.f3.size ≤ 100 ∧ fitsN n ∧ n.f0 ≠ s) : InvE s (putT keyN n false l) (j + 1) := by
 refine ⟨fun y hy => ?_, (putT_rise keyN n l h.2.1).2, by have := (putT_len keyN n l).2; have := h.2.2; omega⟩
 rcases (putT_mem keyN n l).2 y hy with rfl | hy
 ·exact hn
 ·exact h.1 y hy
theorem inv_more {s : ByteArray} {l : List S35} {j j' : Nat} (h : InvE s l j) (hj : j ≤ j') : InvE s l j' := ⟨h.1, h.2.1, Nat.le_trans h.2.2 hj⟩
end Go.Proofs.YtgdknepphkhnlaaGreatDoor.Z

/- The drawn needs of an entry: put in order, each right. Plain lemmas. -/
set_option linter.unusedVariables false
namespace Go.Proofs.YtgdknepphkhnlaaGreatDoor.Z
open Go.RowKit Go.Proofs.YtgdknepphkhnlaaGreatDoorW.PrintWords Go.Proofs.YtgdknepphkhnlaaGreatDoorW.PrintMore Go.Proofs.YtgdknepphkhnlaaGreatDoor.X Go.Proofs.YtgdknepphkhnlaaGreatDoor.Sp
theorem put_l0 (l : List S35) (n : S35) (hl : l.length ≤ 100) (hp : ∀ y ∈ l, y.f0 ∈ paths6) (hn : n.f0 ∈ paths6) (d : Nat) : ∀ (i : Nat) (out : List S35) (put : Bool), i + d = l.length → out.length ≤ 2 * i →
  Ev (fun k => spec_l5Put.l0 k l out put (i : Int) n.f0 n.f1.f0 n.f1.f1 n.f1.f2 n.f1.f3) (out ++ putT keyN n put (l.drop i)) := by
 induction d with
 | zero =>
  intro i out put hi ho
  rw [List.drop_eq_nil_of_le zp]
  refine evS (fun k => by rw [spec_l5Put.l0]) ?_
  refine evF zp ?_
  cases put with
  | true => exact evT rfl (evR (by simp [putT]))
  | false => exact evF Bool.false_ne_true (evT zp (evR rfl))
 | succ d ih =>
  intro i out put hi ho
  have il : i < l.length := by omega
  have ws := w64s (show i < l.length from il) zp
  have hx := hp _ (List.getElem_mem il)
  obtain ⟨r1, r2⟩ := paths_rank _ hx _ hn
  have heq : (l[i].f0.toList = n.f0.toList) ↔ keyN l[i] = keyN n := tl_inj.trans r2
  have hd : l.drop i = l[i] :: l.drop (i + 1) := List.drop_eq_getElem_cons il
  rw [hd]
  cases put with
  | true =>
   refine evS (fun k => by rw [spec_l5Put.l0]) ?_
   refine evT zp (evT rfl ?_)
   refine evS (fun k => by rw [spec_l5Put.j1]) ?_
   refine evF Bool.false_ne_true (evT zp (evT zp ?_))
   rw [rdN il, ws]
   by_cases he : keyN l[i] = keyN n
   ·refine evT (heq.2 he) ?_
    have := ih (i + 1) out true zp zp
    rw [putT, if_pos he]
    exact this
   ·refine evF (fun e => he (heq.1 e)) (evT zp ?_)
    have := ih (i + 1) (out ++ [l[i]]) true zp z6s
    rw [putT, if_neg he]
    rw [List.append_assoc] at this
    exact this
  | false =>
   refine evS (fun k => by rw [spec_l5Put.l0]) ?_
   refine evT zp (evF Bool.false_ne_true (evT zp ?_))
   rw [rdN il]
   by_cases hlt : keyN l[i] < keyN n
   ·have hb : Op.bytesLess l[i].f0.toList n.f0.toList = true := r1.2 hlt
    rw [hb]
    refine evS (fun k => by rw [spec_l5Put.j1]) ?_
    refine evF zt (evT zp (evT zp ?_))
    rw [rdN il, ws]
    refine evF (fun e => by have := heq.1 e; omega) (evT zp ?_)
    have := ih (i + 1) (out ++ [l[i]]) false zp z6s
    rw [putT, if_neg zp]
    rw [List.append_assoc] at this
    exact this
   ·have hb : Op.bytesLess l[i].f0.toList n.f0.toList = false := by
     cases h : Op.bytesLess l[i].f0.toList n.f0.toList with
     | false => rfl
     | true => exact absurd (r1.1 h) hlt
    rw [hb]
    refine evS (fun k => by rw [spec_l5Put.j1]) ?_
    refine evT rfl (evT zp (evC rfl (evT zp (evT zp ?_))))
    rw [rdN il, ws]
    by_cases he : keyN l[i] = keyN n
    ·refine evT (heq.2 he) ?_
     have := ih (i + 1) (out ++ [n]) true zp z6s
     rw [putT, if_pos zp, if_pos he]
     rw [List.append_assoc] at this
     exact this
    ·refine evF (fun e => he (heq.1 e)) (evT (by rw [List.length_append]; show out.length + 1 < _; omega) ?_)
     have := ih (i + 1) (out ++ [n] ++ [l[i]]) true zp (by rw [List.length_append, List.length_append]; show out.length + 1 + 1 ≤ _; omega)
     rw [putT, if_pos zp, if_neg he]
     refine evE ?_ this
     rw [List.append_assoc, List.append_assoc]
     rfl
theorem put_ev (l : List S35) (n : S35) (hl : l.length ≤ 100) (hp : ∀ y ∈ l, y.f0 ∈ paths6) (hn : n.f0 ∈ paths6) : Ev (fun k => spec_l5Put.f k l n.f0 n.f1.f0 n.f1.f1 n.f1.f2 n.f1.f3) (putT keyN n false l) := by
 unfold spec_l5Put.f
 have := put_l0 l n hl hp hn l.length 0 [] false zp (by simp)
 rw [List.nil_append, List.drop_zero] at this
 exact this
theorem entry5_l0 (C : List Int) (hC : C.length ≤ 140737488355328) (s : ByteArray) (a b c : Int) (p : ByteArray) (j : Nat) : ∀ (m : Nat) (l : List S35) (i h : Int), m + j ≤ 8 → At C i → InvE s l m →
  ∃ l' i' h', Ev (fun k => spec_l5Entry.l0 k (j : Int) C i h s a b c p l) (s, a, b, c, p, l', i', h') ∧ InvE s l' 8 ∧ At C i' := by
 induction j with
 | zero =>
  intro m l i h hm hi hI
  exact ⟨l, i, h, evS (fun k => by rw [spec_l5Entry.l0]) (evF zp (evR rfl)), inv_more hI zp, hi⟩
 | succ j ih =>
  intro m l i h hm hi hI
  obtain ⟨s1, a1, b1, c1, p1, i1, h1, e1, m1, q1, z1, f1, g1⟩ := need5_fits C hC i h hi
  have hw : wrap64 (((j + 1 : Nat) : Int) - 1) = (j : Int) := by rw [w64 zp]; omega
  by_cases he : s1.toList = s.toList
  ·obtain ⟨l', i', h', e2, I2, A2⟩ := ih m l i1 h1 zp z1 hI
   refine ⟨l', i', h', evS (fun k => by rw [spec_l5Entry.l0]) (evT zp (evB e1 (evT he ?_))), I2, A2⟩
   rw [hw]
   exact e2
  ·have hne : s1 ≠ s := fun e => he (by rw [e])
   have hP := put_ev l ⟨s1, ⟨a1, b1, c1, p1⟩⟩ (by have := hI.2.2; omega) (fun y hy => (hI.1 y hy).1) m1
   obtain ⟨l', i', h', e2, I2, A2⟩ := ih (m + 1) _ i1 h1 zp z1 (inv_put hI ⟨s1, ⟨a1, b1, c1, p1⟩⟩ ⟨m1, q1, ⟨f1, g1⟩, hne⟩)
   refine ⟨l', i', h', evS (fun k => by rw [spec_l5Entry.l0]) (evT zp (evB e1 (evF he (evB hP ?_)))), I2, A2⟩
   rw [hw]
   exact e2
theorem entry5_some (C : List Int) (hC : C.length ≤ 140737488355328) (i h : Int) (hi : At C i) : ∃ s a b c p l i' h', Ev (fun k => spec_l5Entry.f k C i h) (s, a, b, c, p, l, i', h') ∧ s ∈ paths6 ∧ p.size ≤ 100 ∧ At C i' ∧ InvE s l 8 ∧ Ev (fun k => spec_Fits.f k s a b c p) true := by
 obtain ⟨s1, a1, b1, c1, p1, i1, h1, e1, m1, q1, z1, f1, g1⟩ := need5_fits C hC i h hi
 obtain ⟨n, i2, h2, e2, n0, n1, a2⟩ := below_some C hC i1 h1 4 z1 zp
 obtain ⟨m, hm⟩ := Int.eq_ofNat_of_zero_le n0
 subst hm
 obtain ⟨l', i', h', e3, I3, A3⟩ := entry5_l0 C hC s1 a1 b1 c1 p1 m 0 [] i2 h2 zp a2 (inv_nil s1)
 unfold spec_l5Entry.f
 exact ⟨s1, a1, b1, c1, p1, l', i', h', evB e1 (evC e2 e3), m1, q1, A3, I3, g1⟩
end Go.Proofs.YtgdknepphkhnlaaGreatDoor.Z

/- A drawn entry that may be wrong: some, of small size. Plain lemmas. -/
set_option linter.unusedVariables false
namespace Go.Proofs.YtgdknepphkhnlaaGreatDoor.Z
open Go.RowKit Go.Proofs.YtgdknepphkhnlaaGreatDoorW.PrintWords Go.Proofs.YtgdknepphkhnlaaGreatDoorW.PrintMore Go.Proofs.YtgdknepphkhnlaaGreatDoor.X Go.Proofs.YtgdknepphkhnlaaGreatDoor.Sp
def tinyN (y : S35) : Prop := y.f0.size ≤ 100 ∧ y.f1.f3.size ≤ 100
theorem inv_tiny {s : ByteArray} {l : List S35} {j : Nat} (h : InvE s l j) : ∀ y ∈ l, tinyN y := fun y hy => ⟨paths_small _ (h.1 y hy).1, (h.1 y hy).2.1⟩
theorem any5_some (C : List Int) (hC : C.length ≤ 140737488355328) (i h : Int) (hi : At C i) : ∃ s a b c p l i' h', Ev (fun k => spec_l5Any.f k C i h) (s, a, b, c, p, l, i', h') ∧ s.size ≤ 100 ∧ p.size ≤ 100 ∧ l.length ≤ 9 ∧ (∀ y ∈ l, tinyN y) ∧ At C i' := by
 obtain ⟨s, a, b, c, p, l, i1, h1, e1, m1, q1, a1, I1, _⟩ := entry5_some C hC i h hi
 have hs := paths_small s m1
 have hl := I1.2.2
 have ht := inv_tiny I1
 obtain ⟨n, i2, h2, e2, n0, n1, a2⟩ := below_some C hC i1 h1 10 a1 zp
 unfold spec_l5Any.f
 by_cases c0 : n = 0
 ·obtain ⟨s3, i3, h3, e3, _, z3, a3⟩ := any4_some C hC i2 h2 a2
  exact ⟨s3, a, b, c, p, l, i3, h3, evB e1 (evC e2 (evT c0 (evC e3 (evR rfl)))), z3, q1, zp, ht, a3⟩
 ·by_cases c1 : n = 1
  ·obtain ⟨x, y, z, q, i3, h3, e3, z3, a3⟩ := any3_some C hC i2 h2 a2
   exact ⟨s, x, y, z, q, l, i3, h3, evB e1 (evC e2 (evF c0 (evT c1 (evC e3 (evR rfl))))), hs, z3, zp, ht, a3⟩
  ·by_cases c2 : n = 2
   ·obtain ⟨s4, a4, b4, c4, p4, i4, h4, e4, m4, q4, z4, _, _⟩ := need5_fits C hC i2 h2 a2
    refine ⟨s, a, b, c, p, l ++ [⟨s4, ⟨a4, b4, c4, p4⟩⟩], i4, h4, evB e1 (evC e2 (evF c0 (evF c1 (evT c2 (evB e4 (evT (show l.length < 2513169434916 by omega) (evR rfl))))))), hs, q1, by rw [List.length_append]; show l.length + 1 ≤ 9; omega, fun y hy => ?_, z4⟩
    rcases List.mem_append.1 hy with hy | hy
    ·exact ht y hy
    ·obtain rfl := List.mem_singleton.1 hy
     exact ⟨paths_small _ m4, q4⟩
   ·exact ⟨s, a, b, c, p, l, i2, h2, evB e1 (evC e2 (evF c0 (evF c1 (evF c2 (evR rfl))))), hs, q1, zp, ht, a2⟩
theorem drawPE_some (C : List Int) (hC : C.length ≤ 140737488355328) : ∃ s a b c p l, Ev (fun k => spec_DrawPutEntry.f k C) (s, a, b, c, p, l) ∧ s.size ≤ 100 ∧ p.size ≤ 100 ∧ l.length ≤ 9 ∧ ∀ y ∈ l, tinyN y := by
 obtain ⟨h0, e0⟩ := new_some C hC
 obtain ⟨s, a, b, c, p, l, i', h', e1, z1, z2, z3, z4, _⟩ := any5_some C hC 0 h0 (at_zero C)
 unfold spec_DrawPutEntry.f
 exact ⟨s, a, b, c, p, l, evB e0 (evB e1 (evR rfl)), z1, z2, z3, z4⟩
end Go.Proofs.YtgdknepphkhnlaaGreatDoor.Z

/- The law FnEntries, as a plain statement: a drawn entry that is right comes back of its text; a name does, too. Conditions: those of the row's reading alone. -/
namespace Go.Proofs.YtgdknepphkhnlaaGreatDoor.Pure
open Go.RowKit Go.Proofs.YtgdknepphkhnlaaGreatDoor.X Go.Proofs.YtgdknepphkhnlaaGreatDoor.Z Go.Proofs.YtgdknepphkhnlaaGreatDoorW.PrintWords Go.Proofs.YtgdknepphkhnlaaGreatDoorW.PrintLast
theorem same_l0 (l : List S35) (hn : l.length ≤ 1048576) (d : Nat) : ∀ i : Nat, i + d = l.length → Ev (fun k => laws_sameNeeds.l0 k l l (i : Int)) true := by
 induction d with
 | zero =>
  intro i hi
  refine evS (fun k => by rw [laws_sameNeeds.l0]) ?_
  exact evF zp (evR rfl)
 | succ d ih =>
  intro i hi
  have il : i < l.length := by omega
  refine evS (fun k => by rw [laws_sameNeeds.l0]) ?_
  rw [w64s il zp]
  refine evT zp (evT zp (evT zp (evF ?_ (ih (i + 1) zp))))
  simp
theorem same_ev (s : ByteArray) (a b c : Int) (p : ByteArray) (l : List S35) (hn : l.length ≤ 1048576) : Ev (fun k => laws_sameEntry.f k s a b c p l s a b c p l) true := by
 unfold laws_sameEntry.f laws_sameNeeds.f
 exact evT rfl (evT (by simp) (evB (evT rfl (same_l0 l hn l.length 0 zp)) (evR rfl)))
theorem FnEntries : laws_FnEntries.Pure := by
 intro l0 h1 h2 h3
 refine Ev.rounds ?_
 unfold laws_FnEntries.f
 refine evC (by unfold laws_big.f; rfl) (evI (fun _ => evR rfl) (fun hl' => ?_))
 obtain ⟨s, a, b, c, p, l, hD, hs, hp, hn, ht⟩ := drawPE_some l0 zp
 have hsm : ∀ y ∈ l, smallN y := fun y hy => ⟨by have := (ht y hy).1; omega, by have := (ht y hy).2; omega⟩
 obtain ⟨r, o1, o2, o3, _⟩ := putE_both s a b c p l zp zp zp hsm
 refine evB hD (evB o3 (evB o2 ?_))
 cases r with
 | false => exact evF Bool.false_ne_true (evT ((nil_iff' _).2 rfl) (evB o1 (evR rfl)))
 | true =>
  obtain ⟨f1, f2, f3, f4⟩ := entry_true s a b c p l zp zp zp hsm o2
  have hG := getE_back s a b c p l hs hp f2 ht o2
  obtain ⟨n1, n2, _⟩ := name_back s a b c p zp zp f1
  have hNd : Ev (fun k => impl_NeedOk.f k s a b c p) true := by
   unfold impl_NeedOk.f
   exact evB f1 (evR rfl)
  obtain ⟨q, q1, q2⟩ := rise_both l zp hsm
  have hq := ev_one q2 f3
  subst hq
  have hNs : Ev (fun k => impl_NeedsOk.f k l) true := by
   unfold impl_NeedsOk.f
   refine evB (q1 20) (evR ?_)
   rw [Bool.true_and]
   exact decide_eq_true zp
  refine evT rfl (evB hG (evB n1 (evB n2 (evT rfl (evB (same_ev s a b c p l zp) (evT rfl (evT rfl (evT rfl (evT ?_ (evB hNd (evT rfl (evB hNs (evR rfl)))))))))))))
  simp
end Go.Proofs.YtgdknepphkhnlaaGreatDoor.Pure

/- Values that come in as data (strings' slices, structs, slices of structs, nested) are of the printer's kinds: one lemma a make of type. Plain lemmas for the rows of laws over such parameters. No conditions beyond what each lemma names. -/
set_option linter.unusedVariables false
namespace Go.Proofs.YtgdknepphkhnlaaGreatDoor.Y
open Go.RowKit Go.Proofs.YtgdknepphkhnlaaGreatDoorW.PrintWords Go.ChangeShapes Go.WideShapes Go.Deep
end Go.Proofs.YtgdknepphkhnlaaGreatDoor.Y

/- Three closed facts of the rows of this seat (how the program may be entered), by the first words of the translation's head row. No conditions. -/
namespace Go.Proofs.YtgdknepphkhnlaaGreatDoor.Y
open Go.ChangeShapes Go.WideShapes Go.ChangeAt Go.RowKit
def tailSigns : List Char := [Char.ofNat 108, Char.ofNat 111, Char.ofNat 111, Char.ofNat 112, Char.ofNat 46, Char.ofNat 101, Char.ofNat 120, Char.ofNat 97, Char.ofNat 109, Char.ofNat 112, Char.ofNat 108, Char.ofNat 101, Char.ofNat 47, Char.ofNat 103, Char.ofNat 48, Char.ofNat 48, Char.ofNat 50, Char.ofNat 51, Char.ofNat 51, Char.ofNat 47, Char.ofNat 108, Char.ofNat 97, Char.ofNat 119, Char.ofNat 115, Char.ofNat 46, Char.ofNat 70, Char.ofNat 110, Char.ofNat 69, Char.ofNat 110, Char.ofNat 116, Char.ofNat 114, Char.ofNat 105, Char.ofNat 101, Char.ofNat 115, Char.ofNat 32, Char.ofNat 108, Char.ofNat 111, Char.ofNat 111, Char.ofNat 112, Char.ofNat 46, Char.ofNat 101, Char.ofNat 120, Char.ofNat 97, Char.ofNat 109, Char.ofNat 112, Char.ofNat 108, Char.ofNat 101, Char.ofNat 47, Char.ofNat 103, Char.ofNat 48, Char.ofNat 48, Char.ofNat 50, Char.ofNat 51, Char.ofNat 51, Char.ofNat 47, Char.ofNat 108, Char.ofNat 97, Char.ofNat 119, Char.ofNat 115, Char.ofNat 46, Char.ofNat 70, Char.ofNat 110, Char.ofNat 69, Char.ofNat 120, Char.ofNat 97, Char.ofNat 99, Char.ofNat 116, Char.ofNat 71, Char.ofNat 101, Char.ofNat 116, Char.ofNat 69, Char.ofNat 110, Char.ofNat 116, Char.ofNat 114, Char.ofNat 121, Char.ofNat 32, Char.ofNat 108, Char.ofNat 111, Char.ofNat 111, Char.ofNat 112, Char.ofNat 46, Char.ofNat 101, Char.ofNat 120, Char.ofNat 97, Char.ofNat 109, Char.ofNat 112, Char.ofNat 108, Char.ofNat 101, Char.ofNat 47, Char.ofNat 103, Char.ofNat 48, Char.ofNat 48, Char.ofNat 50, Char.ofNat 51, Char.ofNat 51, Char.ofNat 47, Char.ofNat 108, Char.ofNat 97, Char.ofNat 119, Char.ofNat 115, Char.ofNat 46, Char.ofNat 70, Char.ofNat 110, Char.ofNat 82, Char.ofNat 101, Char.ofNat 97, Char.ofNat 100, Char.ofNat 32, Char.ofNat 108, Char.ofNat 111, Char.ofNat 111, Char.ofNat 112, Char.ofNat 46, Char.ofNat 101, Char.ofNat 120, Char.ofNat 97, Char.ofNat 109, Char.ofNat 112, Char.ofNat 108, Char.ofNat 101, Char.ofNat 47, Char.ofNat 103, Char.ofNat 48, Char.ofNat 48, Char.ofNat 50, Char.ofNat 51, Char.ofNat 51, Char.ofNat 47, Char.ofNat 108, Char.ofNat 97, Char.ofNat 119, Char.ofNat 115, Char.ofNat 46, Char.ofNat 70, Char.ofNat 110, Char.ofNat 69, Char.ofNat 120, Char.ofNat 97, Char.ofNat 99, Char.ofNat 116, Char.ofNat 80, Char.ofNat 117, Char.ofNat 116, Char.ofNat 69, Char.ofNat 110, Char.ofNat 116, Char.ofNat 114, Char.ofNat 121]
set_option maxRecDepth 100000 in
theorem initOrder_lit : Tryz.pinned.checked.prog.initOrder = "harness 6d29ea37bb3f2b96e849b59654e73d13cb16360989e6b50d65bf3eda784cb5ab cut at loop.example/g00233/laws.FnEntries loop.example/g00233/laws.FnExactGetEntry loop.example/g00233/laws.FnRead loop.example/g00233/laws.FnExactPutEntry" := by kernel_rfl
set_option maxRecDepth 100000 in
theorem lit_list : ("harness 6d29ea37bb3f2b96e849b59654e73d13cb16360989e6b50d65bf3eda784cb5ab cut at loop.example/g00233/laws.FnEntries loop.example/g00233/laws.FnExactGetEntry loop.example/g00233/laws.FnRead loop.example/g00233/laws.FnExactPutEntry" : String) = String.ofList (Char.ofNat 104 :: Char.ofNat 97 :: Char.ofNat 114 :: Char.ofNat 110 :: Char.ofNat 101 :: Char.ofNat 115 :: Char.ofNat 115 :: Char.ofNat 32 :: Char.ofNat 54 :: Char.ofNat 100 :: Char.ofNat 50 :: Char.ofNat 57 :: Char.ofNat 101 :: Char.ofNat 97 :: Char.ofNat 51 :: Char.ofNat 55 :: Char.ofNat 98 :: Char.ofNat 98 :: Char.ofNat 51 :: Char.ofNat 102 :: Char.ofNat 50 :: Char.ofNat 98 :: Char.ofNat 57 :: Char.ofNat 54 :: Char.ofNat 101 :: Char.ofNat 56 :: Char.ofNat 52 :: Char.ofNat 57 :: Char.ofNat 98 :: Char.ofNat 53 :: Char.ofNat 57 :: Char.ofNat 54 :: Char.ofNat 53 :: Char.ofNat 52 :: Char.ofNat 101 :: Char.ofNat 55 :: Char.ofNat 51 :: Char.ofNat 100 :: Char.ofNat 49 :: Char.ofNat 51 :: Char.ofNat 99 :: Char.ofNat 98 :: Char.ofNat 49 :: Char.ofNat 54 :: Char.ofNat 51 :: Char.ofNat 54 :: Char.ofNat 48 :: Char.ofNat 57 :: Char.ofNat 56 :: Char.ofNat 57 :: Char.ofNat 101 :: Char.ofNat 54 :: Char.ofNat 98 :: Char.ofNat 53 :: Char.ofNat 48 :: Char.ofNat 100 :: Char.ofNat 54 :: Char.ofNat 53 :: Char.ofNat 98 :: Char.ofNat 102 :: Char.ofNat 51 :: Char.ofNat 101 :: Char.ofNat 100 :: Char.ofNat 97 :: Char.ofNat 55 :: Char.ofNat 56 :: Char.ofNat 52 :: Char.ofNat 99 :: Char.ofNat 98 :: Char.ofNat 53 :: Char.ofNat 97 :: Char.ofNat 98 :: Char.ofNat 32 :: Char.ofNat 99 :: Char.ofNat 117 :: Char.ofNat 116 :: Char.ofNat 32 :: Char.ofNat 97 :: Char.ofNat 116 :: Char.ofNat 32 :: tailSigns) := by kernel_rfl
theorem initOrder_list : Tryz.pinned.checked.prog.initOrder.toList = Char.ofNat 104 :: Char.ofNat 97 :: Char.ofNat 114 :: Char.ofNat 110 :: Char.ofNat 101 :: Char.ofNat 115 :: Char.ofNat 115 :: Char.ofNat 32 :: Char.ofNat 54 :: Char.ofNat 100 :: Char.ofNat 50 :: Char.ofNat 57 :: Char.ofNat 101 :: Char.ofNat 97 :: Char.ofNat 51 :: Char.ofNat 55 :: Char.ofNat 98 :: Char.ofNat 98 :: Char.ofNat 51 :: Char.ofNat 102 :: Char.ofNat 50 :: Char.ofNat 98 :: Char.ofNat 57 :: Char.ofNat 54 :: Char.ofNat 101 :: Char.ofNat 56 :: Char.ofNat 52 :: Char.ofNat 57 :: Char.ofNat 98 :: Char.ofNat 53 :: Char.ofNat 57 :: Char.ofNat 54 :: Char.ofNat 53 :: Char.ofNat 52 :: Char.ofNat 101 :: Char.ofNat 55 :: Char.ofNat 51 :: Char.ofNat 100 :: Char.ofNat 49 :: Char.ofNat 51 :: Char.ofNat 99 :: Char.ofNat 98 :: Char.ofNat 49 :: Char.ofNat 54 :: Char.ofNat 51 :: Char.ofNat 54 :: Char.ofNat 48 :: Char.ofNat 57 :: Char.ofNat 56 :: Char.ofNat 57 :: Char.ofNat 101 :: Char.ofNat 54 :: Char.ofNat 98 :: Char.ofNat 53 :: Char.ofNat 48 :: Char.ofNat 100 :: Char.ofNat 54 :: Char.ofNat 53 :: Char.ofNat 98 :: Char.ofNat 102 :: Char.ofNat 51 :: Char.ofNat 101 :: Char.ofNat 100 :: Char.ofNat 97 :: Char.ofNat 55 :: Char.ofNat 56 :: Char.ofNat 52 :: Char.ofNat 99 :: Char.ofNat 98 :: Char.ofNat 53 :: Char.ofNat 97 :: Char.ofNat 98 :: Char.ofNat 32 :: Char.ofNat 99 :: Char.ofNat 117 :: Char.ofNat 116 :: Char.ofNat 32 :: Char.ofNat 97 :: Char.ofNat 116 :: Char.ofNat 32 :: tailSigns := (congrArg String.toList (initOrder_lit.trans lit_list)).trans String.toList_ofList
theorem words_at (r : List Char) : wordsSigns (Char.ofNat 104 :: Char.ofNat 97 :: Char.ofNat 114 :: Char.ofNat 110 :: Char.ofNat 101 :: Char.ofNat 115 :: Char.ofNat 115 :: Char.ofNat 32 :: Char.ofNat 54 :: Char.ofNat 100 :: Char.ofNat 50 :: Char.ofNat 57 :: Char.ofNat 101 :: Char.ofNat 97 :: Char.ofNat 51 :: Char.ofNat 55 :: Char.ofNat 98 :: Char.ofNat 98 :: Char.ofNat 51 :: Char.ofNat 102 :: Char.ofNat 50 :: Char.ofNat 98 :: Char.ofNat 57 :: Char.ofNat 54 :: Char.ofNat 101 :: Char.ofNat 56 :: Char.ofNat 52 :: Char.ofNat 57 :: Char.ofNat 98 :: Char.ofNat 53 :: Char.ofNat 57 :: Char.ofNat 54 :: Char.ofNat 53 :: Char.ofNat 52 :: Char.ofNat 101 :: Char.ofNat 55 :: Char.ofNat 51 :: Char.ofNat 100 :: Char.ofNat 49 :: Char.ofNat 51 :: Char.ofNat 99 :: Char.ofNat 98 :: Char.ofNat 49 :: Char.ofNat 54 :: Char.ofNat 51 :: Char.ofNat 54 :: Char.ofNat 48 :: Char.ofNat 57 :: Char.ofNat 56 :: Char.ofNat 57 :: Char.ofNat 101 :: Char.ofNat 54 :: Char.ofNat 98 :: Char.ofNat 53 :: Char.ofNat 48 :: Char.ofNat 100 :: Char.ofNat 54 :: Char.ofNat 53 :: Char.ofNat 98 :: Char.ofNat 102 :: Char.ofNat 51 :: Char.ofNat 101 :: Char.ofNat 100 :: Char.ofNat 97 :: Char.ofNat 55 :: Char.ofNat 56 :: Char.ofNat 52 :: Char.ofNat 99 :: Char.ofNat 98 :: Char.ofNat 53 :: Char.ofNat 97 :: Char.ofNat 98 :: Char.ofNat 32 :: Char.ofNat 99 :: Char.ofNat 117 :: Char.ofNat 116 :: Char.ofNat 32 :: Char.ofNat 97 :: Char.ofNat 116 :: Char.ofNat 32 :: r) = [Char.ofNat 104, Char.ofNat 97, Char.ofNat 114, Char.ofNat 110, Char.ofNat 101, Char.ofNat 115, Char.ofNat 115] :: [Char.ofNat 54, Char.ofNat 100, Char.ofNat 50, Char.ofNat 57, Char.ofNat 101, Char.ofNat 97, Char.ofNat 51, Char.ofNat 55, Char.ofNat 98, Char.ofNat 98, Char.ofNat 51, Char.ofNat 102, Char.ofNat 50, Char.ofNat 98, Char.ofNat 57, Char.ofNat 54, Char.ofNat 101, Char.ofNat 56, Char.ofNat 52, Char.ofNat 57, Char.ofNat 98, Char.ofNat 53, Char.ofNat 57, Char.ofNat 54, Char.ofNat 53, Char.ofNat 52, Char.ofNat 101, Char.ofNat 55, Char.ofNat 51, Char.ofNat 100, Char.ofNat 49, Char.ofNat 51, Char.ofNat 99, Char.ofNat 98, Char.ofNat 49, Char.ofNat 54, Char.ofNat 51, Char.ofNat 54, Char.ofNat 48, Char.ofNat 57, Char.ofNat 56, Char.ofNat 57, Char.ofNat 101, Char.ofNat 54, Char.ofNat 98, Char.ofNat 53, Char.ofNat 48, Char.ofNat 100, Char.ofNat 54, Char.ofNat 53, Char.ofNat 98, Char.ofNat 102, Char.ofNat 51, Char.ofNat 101, Char.ofNat 100, Char.ofNat 97, Char.ofNat 55, Char.ofNat 56, Char.ofNat 52, Char.ofNat 99, Char.ofNat 98, Char.ofNat 53, Char.ofNat 97, Char.ofNat 98] :: [Char.ofNat 99, Char.ofNat 117, Char.ofNat 116] :: [Char.ofNat 97, Char.ofNat 116] :: wordsSigns r := by kernel_rfl
theorem behind_at (t : List (List Char)) : behindMainWord ([Char.ofNat 104, Char.ofNat 97, Char.ofNat 114, Char.ofNat 110, Char.ofNat 101, Char.ofNat 115, Char.ofNat 115] :: [Char.ofNat 54, Char.ofNat 100, Char.ofNat 50, Char.ofNat 57, Char.ofNat 101, Char.ofNat 97, Char.ofNat 51, Char.ofNat 55, Char.ofNat 98, Char.ofNat 98, Char.ofNat 51, Char.ofNat 102, Char.ofNat 50, Char.ofNat 98, Char.ofNat 57, Char.ofNat 54, Char.ofNat 101, Char.ofNat 56, Char.ofNat 52, Char.ofNat 57, Char.ofNat 98, Char.ofNat 53, Char.ofNat 57, Char.ofNat 54, Char.ofNat 53, Char.ofNat 52, Char.ofNat 101, Char.ofNat 55, Char.ofNat 51, Char.ofNat 100, Char.ofNat 49, Char.ofNat 51, Char.ofNat 99, Char.ofNat 98, Char.ofNat 49, Char.ofNat 54, Char.ofNat 51, Char.ofNat 54, Char.ofNat 48, Char.ofNat 57, Char.ofNat 56, Char.ofNat 57, Char.ofNat 101, Char.ofNat 54, Char.ofNat 98, Char.ofNat 53, Char.ofNat 48, Char.ofNat 100, Char.ofNat 54, Char.ofNat 53, Char.ofNat 98, Char.ofNat 102, Char.ofNat 51, Char.ofNat 101, Char.ofNat 100, Char.ofNat 97, Char.ofNat 55, Char.ofNat 56, Char.ofNat 52, Char.ofNat 99, Char.ofNat 98, Char.ofNat 53, Char.ofNat 97, Char.ofNat 98] :: [Char.ofNat 99, Char.ofNat 117, Char.ofNat 116] :: [Char.ofNat 97, Char.ofNat 116] :: t) = [Char.ofNat 99, Char.ofNat 117, Char.ofNat 116] :: [Char.ofNat 97, Char.ofNat 116] :: t := by kernel_rfl
theorem behind_all : behindMainWord (wordsSigns Tryz.pinned.checked.prog.initOrder.toList) = [Char.ofNat 99, Char.ofNat 117, Char.ofNat 116] :: [Char.ofNat 97, Char.ofNat 116] :: wordsSigns tailSigns := by rw [initOrder_list, words_at, behind_at]
theorem make_of (c : List Char) (rest : List (List Char)) (P : Program) (h0 : (c == "gc".toList) = false) (h1 : (c == "spec".toList) = false) (h2 : (c == "cut".toList) = true) (h : behindMainWord (wordsSigns P.initOrder.toList) = c :: rest) : P.make = some .cut := by
 unfold Program.make
 rw [h]
 simp only [h0, h1, h2]
 rfl
theorem mayEnter_of (c : List Char) (rest : List (List Char)) (P : Program) (h0 : (c == "gc".toList) = false) (h1 : (c == "spec".toList) = false) (h2 : (c == "carried".toList) = false) (h : behindMainWord (wordsSigns P.initOrder.toList) = c :: rest)
  (h3 : ((stripLifts liftWords (c :: rest)).2.head? == some "cut".toList) = true) (h4 : P.laysLater = false) (h5 : P.bearsReflect = false) (h6 : P.doorFits (stripLifts liftWords (c :: rest)).1 = true) (h7 : (stripLifts liftWords (c :: rest)).1.contains "leanrows" = false) : P.mayEnter = true := by
 unfold Program.mayEnter
 rw [h]
 simp only [h0, h1, h2, h3, h4, h5, h6, h7]
 simp
theorem liftsFinal_of (c : List Char) (rest : List (List Char)) (P : Program) (h2 : (some c == some "carried".toList) = false) (h : behindMainWord (wordsSigns P.initOrder.toList) = c :: rest)
  (h3 : ((stripLifts liftWords (c :: rest)).2.head? == some "cut".toList) = true) (h7 : (stripLifts liftWords (c :: rest)).1.contains "finals" = false) : P.liftsFinal = false := by
 unfold Program.liftsFinal Program.headLifts
 rw [h]
 simp only [List.head?_cons, h2, h3, if_true, h7, Bool.false_and, Bool.or_self]
theorem strip_at (t : List (List Char)) : stripLifts liftWords ([Char.ofNat 99, Char.ofNat 117, Char.ofNat 116] :: [Char.ofNat 97, Char.ofNat 116] :: t) = ([], [Char.ofNat 99, Char.ofNat 117, Char.ofNat 116] :: [Char.ofNat 97, Char.ofNat 116] :: t) := by kernel_rfl
theorem laysLater_at : Tryz.pinned.checked.prog.laysLater = false := by kernel_rfl
theorem bearsReflect_at : Tryz.pinned.checked.prog.bearsReflect = false := by kernel_rfl
theorem doorFits_at : Tryz.pinned.checked.prog.doorFits [] = true := by kernel_rfl
theorem mayEnter_at : Tryz.pinned.checked.prog.mayEnter = true :=
 mayEnter_of _ _ _ zq zq zq behind_all (by rw [strip_at]; generalize wordsSigns tailSigns = t; kernel_rfl) laysLater_at bearsReflect_at (by rw [strip_at]; exact doorFits_at) (by rw [strip_at]; rfl)
theorem liftsFinal_at : Tryz.pinned.checked.prog.liftsFinal = false :=
 liftsFinal_of _ _ _ zq behind_all (by rw [strip_at]; generalize wordsSigns tailSigns = t; kernel_rfl) (by rw [strip_at]; rfl)
theorem make_at : Tryz.pinned.checked.prog.make = some .cut := make_of _ _ _ zq zq zq behind_all
end Go.Proofs.YtgdknepphkhnlaaGreatDoor.Y

/- A world for the witnesses: the settled one, the listed tables holding what their initialisers lay. No conditions. -/
namespace Go.Proofs.YtgdknepphkhnlaaGreatDoor.Y
open Go.ChangeShapes Go.WideShapes Go.ChangeAt Go.RowKit
noncomputable def laidWorld (os : Os) : World :=
 { World.holding Tryz.prog os ⟨#[], #[], []⟩ with heap := ((((((((((World.holding Tryz.prog os ⟨#[], #[], []⟩).heap).modify 3 (fun o => match o with | .cells _ t z => .cells #[Value.int .u64 1, Value.int .u64 10, Value.int .u64 100, Value.int .u64 1000, Value.int .u64 10000, Value.int .u64 100000, Value.int .u64 1000000, Value.int .u64 10000000, Value.int .u64 100000000, Value.int .u64 1000000000, Value.int .u64 10000000000, Value.int .u64 100000000000, Value.int .u64 1000000000000, Value.int .u64 10000000000000, Value.int .u64 100000000000000, Value.int .u64 1000000000000000, Value.int .u64 10000000000000000, Value.int .u64 100000000000000000, Value.int .u64 1000000000000000000, Value.int .u64 10000000000000000000] t z | o => o)).modify 4 (fun o => match o with | .cells _ t z => .cells ((Go.Pinned.utf8FirstZ.map fun (n : Nat) => Value.int .u8 (n : Int)).toArray) t z | o => o)).modify 5 (fun o => match o with | .cells _ t z => .cells #[Value.int .u8 128, Value.int .u8 191, Value.int .u8 160, Value.int .u8 191, Value.int .u8 128, Value.int .u8 159, Value.int .u8 144, Value.int .u8 191, Value.int .u8 128, Value.int .u8 143, Value.int .u8 0, Value.int .u8 0, Value.int .u8 0, Value.int .u8 0, Value.int .u8 0, Value.int .u8 0, Value.int .u8 0, Value.int .u8 0, Value.int .u8 0, Value.int .u8 0, Value.int .u8 0, Value.int .u8 0, Value.int .u8 0, Value.int .u8 0, Value.int .u8 0, Value.int .u8 0, Value.int .u8 0, Value.int .u8 0, Value.int .u8 0, Value.int .u8 0, Value.int .u8 0, Value.int .u8 0] t z | o => o)).modify 6 (fun o => match o with | .cells _ t z => .cells #[Value.int .u8 0, Value.int .u8 1, Value.int .u8 28, Value.int .u8 2, Value.int .u8 29, Value.int .u8 14, Value.int .u8 24, Value.int .u8 3, Value.int .u8 30, Value.int .u8 22, Value.int .u8 20, Value.int .u8 15, Value.int .u8 25, Value.int .u8 17, Value.int .u8 4, Value.int .u8 8, Value.int .u8 31, Value.int .u8 27, Value.int .u8 13, Value.int .u8 23, Value.int .u8 21, Value.int .u8 19, Value.int .u8 16, Value.int .u8 7, Value.int .u8 26, Value.int .u8 12, Value.int .u8 18, Value.int .u8 6, Value.int .u8 11, Value.int .u8 5, Value.int .u8 10, Value.int .u8 9] t z | o => o)).modify 7 (fun o => match o with | .cells _ t z => .cells #[Value.int .u8 0, Value.int .u8 1, Value.int .u8 56, Value.int .u8 2, Value.int .u8 57, Value.int .u8 49, Value.int .u8 28, Value.int .u8 3, Value.int .u8 61, Value.int .u8 58, Value.int .u8 42, Value.int .u8 50, Value.int .u8 38, Value.int .u8 29, Value.int .u8 17, Value.int .u8 4, Value.int .u8 62, Value.int .u8 47, Value.int .u8 59, Value.int .u8 36, Value.int .u8 45, Value.int .u8 43, Value.int .u8 51, Value.int .u8 22, Value.int .u8 53, Value.int .u8 39, Value.int .u8 33, Value.int .u8 30, Value.int .u8 24, Value.int .u8 18, Value.int .u8 12, Value.int .u8 5, Value.int .u8 63, Value.int .u8 55, Value.int .u8 48, Value.int .u8 27, Value.int .u8 60, Value.int .u8 41, Value.int .u8 37, Value.int .u8 16, Value.int .u8 46, Value.int .u8 35, Value.int .u8 44, Value.int .u8 21, Value.int .u8 52, Value.int .u8 32, Value.int .u8 23, Value.int .u8 11, Value.int .u8 54, Value.int .u8 26, Value.int .u8 40, Value.int .u8 15, Value.int .u8 34, Value.int .u8 20, Value.int .u8 31, Value.int .u8 10, Value.int .u8 25, Value.int .u8 14, Value.int .u8 19, Value.int .u8 9, Value.int .u8 13, Value.int .u8 8, Value.int .u8 7, Value.int .u8 6] t z | o => o)).modify 1 (fun o => match o with | .cells _ t z => .cells #[Value.iface 164 (.pointer (some ⟨(World.holding Tryz.prog os ⟨#[], #[], []⟩).heap.size + 0, 0, none⟩))] t z | o => o)).push (.cells #[Value.string ⟨#[105, 110, 118, 97, 108, 105, 100, 32, 115, 121, 110, 116, 97, 120]⟩] 166 (0, 0))).modify 2 (fun o => match o with | .cells _ t z => .cells #[Value.iface 164 (.pointer (some ⟨(World.holding Tryz.prog os ⟨#[], #[], []⟩).heap.size + 1, 0, none⟩))] t z | o => o)).push (.cells #[Value.string ⟨#[118, 97, 108, 117, 101, 32, 111, 117, 116, 32, 111, 102, 32, 114, 97, 110, 103, 101]⟩] 166 (0, 0)) }
end Go.Proofs.YtgdknepphkhnlaaGreatDoor.Y
