/- The law FnTexts, as a plain statement: drawn texts come back of their bytes, with what is behind them left. Conditions: those of the row's reading alone. -/
/- Part 5 of 6 of this claim's texts. -/
import Derived.Test.YtmkhhnfmahdijaaWWords
import Derived.Deep.Slices
import Derived.ChangeArms
import Derived.WideShapes
import Derived.DataReads
import Derived.Test.YtmkhhnfmahdijaaRows
import Derived.WalkKit
import Derived.ProofKit
import Derived.Test.YtmkhhnfmahdijaaCFnTexts0
import Derived.Test.YtmkhhnfmahdijaaCFnTexts1
import Derived.Test.YtmkhhnfmahdijaaCFnTexts2
import Derived.Test.YtmkhhnfmahdijaaCFnTexts3
/- What GetTexts computes, the program's and the reference's: the same. No Go, no memory. -/
set_option linter.unusedVariables false
namespace Go.Proofs.Ytmkhhnfmahdijaa.Z
open Go.RowKit Go.Proofs.YtmkhhnfmahdijaaW.PrintWords Go.Proofs.YtmkhhnfmahdijaaW.PrintMore Go.Proofs.Ytmkhhnfmahdijaa.X

theorem gts_both (b : List Int) (hb : ∀ x ∈ b, (Lit.int .u8 x).wf = true) (hl : b.length ≤ 140737488355328) (n : Nat) (hn : n ≤ 200) (d : Nat) : ∀ (i : Nat) (p : Int) (acc : List ByteArray), i + d = n → acc.length = i → -9223372036854775808 ≤ p →
    ∃ r, Ev (fun k => spec_GetTexts.l0 k b (n : Int) p acc (i : Int)) r ∧ Ev (fun k => impl_GetTexts.l0 k b p acc (n : Int) (i : Int)) r ∧ r.1.length ≤ 200 := by
  induction d with
  | zero =>
    intro i p acc hi ha hp
    exact ⟨(acc, p, true), evS (fun k => by rw [spec_GetTexts.l0]) (evF (by omega) (evR rfl)), evS (fun k => by rw [impl_GetTexts.l0]) (evF (by omega) (evR rfl)), by show acc.length ≤ 200; omega⟩
  | succ d ih =>
    intro i p acc hi ha hp
    obtain ⟨t, e1, e2, g⟩ := getText_both b hb hl p
    by_cases ht : t.2.2 = true
    · have hp2 : -9223372036854775808 ≤ t.2.1 := by
        rcases g with g | ⟨_, g, _⟩
        · rw [g] at ht
          cases ht
        · omega
      obtain ⟨r, e3, e4, h⟩ := ih (i + 1) t.2.1 (acc ++ [t.1]) (by omega) (by simp; omega) hp2
      refine ⟨r, ?_, ?_, h⟩
      · refine evS (fun k => by rw [spec_GetTexts.l0]) (evT (by omega) (evB e1 ?_))
        refine evT ht (evT (by omega) ?_)
        rw [w64s (show i < n by omega) (by omega)]
        exact e3
      · refine evS (fun k => by rw [impl_GetTexts.l0]) (evT (by omega) (evB e2 ?_))
        refine evT ht (evT (by omega) ?_)
        rw [w64s (show i < n by omega) (by omega)]
        exact e4
    · exact ⟨(([] : List ByteArray), 0, false), evS (fun k => by rw [spec_GetTexts.l0]) (evT (by omega) (evB e1 (evF ht (evR rfl)))), evS (fun k => by rw [impl_GetTexts.l0]) (evT (by omega) (evB e2 (evF ht (evR rfl)))), by show 0 ≤ 200; omega⟩
theorem getTexts_both (b : List Int) (hb : ∀ x ∈ b, (Lit.int .u8 x).wf = true) (hl : b.length ≤ 140737488355328) (a : Int) :
    ∃ r, Ev (fun k => spec_GetTexts.f k b a) r ∧ Ev (fun k => impl_GetTexts.f k b a) r ∧ r.1.length ≤ 200 := by
  obtain ⟨t, e1, e2, g⟩ := getNum_both b hb hl a
  have hS : ∀ n p, Ev (fun k => spec_GetTexts.j0 k b n p true) (([] : List ByteArray), (0 : Int), false) := fun n p => evS (fun k => by rw [spec_GetTexts.j0]) (evT rfl (evR rfl))
  have hI : ∀ n p, Ev (fun k => impl_GetTexts.j0 k b n p true) (([] : List ByteArray), (0 : Int), false) := fun n p => evS (fun k => by rw [impl_GetTexts.j0]) (evT rfl (evR rfl))
  by_cases ht : t.2.2 = true
  · have g' : 0 ≤ t.1 ∧ a < t.2.1 ∧ 0 ≤ a := by
      rcases g with rfl | ⟨_, g1, _, g2, _, g3⟩
      · cases ht
      · exact ⟨g1, g2, g3⟩
    by_cases hn : t.1 > 200
    · refine ⟨(([] : List ByteArray), 0, false), ?_, ?_, by show 0 ≤ 200; omega⟩
      · unfold spec_GetTexts.f
        refine evB e1 (evT ht ?_)
        rw [decide_eq_true hn]
        exact hS _ _
      · unfold impl_GetTexts.f
        refine evB e2 (evT ht ?_)
        rw [decide_eq_true hn]
        exact hI _ _
    · obtain ⟨n, hn'⟩ := Int.eq_ofNat_of_zero_le g'.1
      obtain ⟨r, e3, e4, h⟩ := gts_both b hb hl n (by omega) n 0 t.2.1 [] (by omega) rfl (by omega)
      have e3' : Ev (fun k => spec_GetTexts.l0 k b (n : Int) t.2.1 [] 0) r := e3
      have e4' : Ev (fun k => impl_GetTexts.l0 k b t.2.1 [] (n : Int) 0) r := e4
      refine ⟨r, ?_, ?_, h⟩
      · unfold spec_GetTexts.f
        refine evB e1 (evT ht ?_)
        rw [decide_eq_false hn, hn']
        exact evS (fun k => by rw [spec_GetTexts.j0]) (evF Bool.false_ne_true e3')
      · unfold impl_GetTexts.f
        refine evB e2 (evT ht ?_)
        rw [decide_eq_false hn, hn']
        exact evS (fun k => by rw [impl_GetTexts.j0]) (evF Bool.false_ne_true e4')
  · refine ⟨(([] : List ByteArray), 0, false), ?_, ?_, by show 0 ≤ 200; omega⟩
    · unfold spec_GetTexts.f
      exact evB e1 (evF ht (hS _ _))
    · unfold impl_GetTexts.f
      exact evB e2 (evF ht (hI _ _))
end Go.Proofs.Ytmkhhnfmahdijaa.Z

/- Numbers and texts come back of their bytes: the program's GetNum, GetText and GetTexts behind its PutNum, PutText and PutTexts. No Go, no memory. -/
set_option linter.unusedVariables false
namespace Go.Proofs.Ytmkhhnfmahdijaa.Z
open Go.RowKit Go.Proofs.YtmkhhnfmahdijaaW.PrintWords Go.Proofs.YtmkhhnfmahdijaaW.PrintMore Go.Proofs.Ytmkhhnfmahdijaa.X

theorem rd_app (p q : List Int) (c : Int) : rd (p ++ c :: q) (p.length : Int) = c := by simp [rd]
theorem implGet_on {B : List Int} {p i : Nat} {m c : Int} {r : Int × Int × Bool} (hB : B.length ≤ 140737488355328) (hp : p < B.length) (hc : rd B (p : Int) = c) (h127 : 127 < c) (hc2 : c ≤ 255) (hi : i < 5) (hm : 0 ≤ m ∧ m < 2 ^ (7 * i))
    (h : Ev (fun k => impl_GetNum.l0 k B ((p + 1 : Nat) : Int) (m + c % 128 * 2 ^ (7 * i)) ((i + 1 : Nat) : Int)) r) : Ev (fun k => impl_GetNum.l0 k B (p : Int) m (i : Int)) r := by
  have hv := gn_step (c := c) (i := i) hi (by omega) hm
  have hu := u64_ok (i := i) hi
  have hwc : wrap64 c = c := w64 (by omega)
  refine evS (fun k => by rw [impl_GetNum.l0]) (evT (by omega) ?_)
  rw [decide_eq_true (by omega)]
  refine evS (fun k => by rw [impl_GetNum.j1]) (evT rfl (evT (by omega) (evT (by omega) (evT hu ?_))))
  rw [hc, hv, hwc, w64s (show i < 6 by omega) (by omega), w64s (show p < B.length by omega) (by omega)]
  exact evF (by omega) h
theorem implGet_end {B : List Int} {p i : Nat} {m c : Int} (hB : B.length ≤ 140737488355328) (hp : p < B.length) (hc : rd B (p : Int) = c) (h127 : c ≤ 127) (hc2 : 0 ≤ c) (hi : i < 5) (hm : 0 ≤ m ∧ m < 2 ^ (7 * i))
    (h0 : c = 0 → i = 0) (hN : m + c * 2 ^ (7 * i) ≤ 1000000000) : Ev (fun k => impl_GetNum.l0 k B (p : Int) m (i : Int)) (m + c * 2 ^ (7 * i), ((p + 1 : Nat) : Int), true) := by
  have hv := gn_step (c := c) (i := i) hi (by omega) hm
  rw [show c % 128 = c by omega] at hv
  have hu := u64_ok (i := i) hi
  have hwc : wrap64 c = c := w64 (by omega)
  refine evS (fun k => by rw [impl_GetNum.l0]) (evT (by omega) ?_)
  rw [decide_eq_true (by omega)]
  refine evS (fun k => by rw [impl_GetNum.j1]) (evT rfl (evT (by omega) (evT (by omega) (evT hu ?_))))
  rw [hc, hv, hwc, w64s (show p < B.length by omega) (by omega)]
  generalize m + c * 2 ^ (7 * i) = N at hN ⊢
  refine evT (by omega) (evI (fun h3 => ?_) (fun h3 => ?_))
  · have := h0 h3
    exact evF (by omega) (evF (by omega) (evR rfl))
  · exact evF (by omega) (evR rfl)
theorem implGet_enc (d : Nat) : ∀ (i n : Nat) (m : Int) (pre post : List Int), d + i ≤ 4 → n < 128 ^ (d + 1) → (n = 0 → i = 0) → 0 ≤ m ∧ m < 2 ^ (7 * i) → m + (n : Int) * 2 ^ (7 * i) ≤ 1000000000 →
    (pre ++ encN d n ++ post).length ≤ 140737488355328 →
    Ev (fun k => impl_GetNum.l0 k (pre ++ encN d n ++ post) (pre.length : Int) m (i : Int)) (m + (n : Int) * 2 ^ (7 * i), ((pre.length + (encN d n).length : Nat) : Int), true) := by
  induction d with
  | zero =>
    intro i n m pre post hd hn h0 hm hN hl
    have he : encN 0 n = [(n : Int)] := by simp [encN]; simp at hn; omega
    rw [he] at hl ⊢
    simp only [List.append_assoc, List.singleton_append] at hl ⊢
    have := implGet_end (B := pre ++ (n : Int) :: post) (p := pre.length) (i := i) (m := m) (c := (n : Int)) hl (by simp) (rd_app _ _ _) (by simp at hn; omega) (by omega) (by omega) hm (by omega) hN
    simpa using this
  | succ d ih =>
    intro i n m pre post hd hn h0 hm hN hl
    by_cases h : n > 127
    · have he : encN (d + 1) n = ((n % 128 + 128 : Nat) : Int) :: encN d (n / 128) := by rw [encN, if_pos h]
      rw [he] at hl ⊢
      have hp : (2 : Int) ^ (7 * (i + 1)) = 128 * 2 ^ (7 * i) := by
        rw [show 7 * (i + 1) = 7 * i + 7 by omega, Int.pow_add]
        omega
      have hdm : (n : Int) = 128 * ((n / 128 : Nat) : Int) + ((n % 128 : Nat) : Int) := by omega
      have hval : m + ((n % 128 + 128 : Nat) : Int) % 128 * 2 ^ (7 * i) + ((n / 128 : Nat) : Int) * 2 ^ (7 * (i + 1)) = m + (n : Int) * 2 ^ (7 * i) := by
        have h9 : ((n / 128 : Nat) : Int) * (128 * 2 ^ (7 * i)) = 128 * (((n / 128 : Nat) : Int) * 2 ^ (7 * i)) := Int.mul_left_comm _ _ _
        rw [hp, show ((n % 128 + 128 : Nat) : Int) % 128 = ((n % 128 : Nat) : Int) by omega, hdm, Int.add_mul, Int.mul_assoc, h9]
        omega
      have h2 := ih (i + 1) (n / 128) (m + ((n % 128 + 128 : Nat) : Int) % 128 * 2 ^ (7 * i)) (pre ++ [((n % 128 + 128 : Nat) : Int)]) post (by omega) (by rw [Nat.div_lt_iff_lt_mul (by decide)]; rw [Nat.pow_succ] at hn; exact hn) (by omega) (pow_next (by omega) hm (by omega)) (by rw [hval]; exact hN) (by simpa using hl)
      rw [hval] at h2
      have h3 := implGet_on (B := pre ++ ((n % 128 + 128 : Nat) : Int) :: encN d (n / 128) ++ post) (p := pre.length) (i := i) (m := m) (c := ((n % 128 + 128 : Nat) : Int)) (r := (m + (n : Int) * 2 ^ (7 * i), ((pre.length + (((n % 128 + 128 : Nat) : Int) :: encN d (n / 128)).length : Nat) : Int), true)) hl (by simp) (by rw [List.append_assoc]; exact rd_app _ _ _) (by omega) (by omega) (by omega) hm (by
          refine evE ?_ (by simpa using h2)
          simp
          omega)
      exact h3
    · have he : encN (d + 1) n = [(n : Int)] := by rw [encN, if_neg h]; simp; omega
      rw [he] at hl ⊢
      simp only [List.append_assoc, List.singleton_append] at hl ⊢
      have := implGet_end (B := pre ++ (n : Int) :: post) (p := pre.length) (i := i) (m := m) (c := (n : Int)) hl (by simp) (rd_app _ _ _) (by omega) (by omega) (by omega) hm (by omega) hN
      simpa using this
theorem implGet_put (b : List Int) (n : Nat) (post : List Int) (hn : n ≤ 1000000000) (hl : (b ++ encN 4 n ++ post).length ≤ 140737488355328) :
    Ev (fun k => impl_GetNum.f k (b ++ encN 4 n ++ post) (b.length : Int)) ((n : Int), ((b.length + (encN 4 n).length : Nat) : Int), true) := by
  have hp := encN_pos 4 n
  have hlen : (b ++ encN 4 n ++ post).length = b.length + (encN 4 n).length + post.length := by simp; omega
  unfold impl_GetNum.f impl_inRange.f
  rw [w64 (x := ((b ++ encN 4 n ++ post).length : Int) - 1) (by omega)]
  refine evC (a := true) ?_ (evT rfl ?_)
  · rw [if_pos (by omega), decide_eq_true (by omega)]
  · have := implGet_enc 4 0 n 0 b post (by omega) (by omega) (by omega) (by decide) (by simp; omega) hl
    simpa using this

/-- All groups but the last one go on. -/
theorem encN_init (d : Nat) : ∀ n, ∀ x ∈ (encN d n).dropLast, 127 < x ∧ x ≤ 255 := by
  induction d with
  | zero => intro n x hx; simp [encN] at hx
  | succ d ih =>
    intro n x hx
    unfold encN at hx
    split at hx
    · have hne : encN d (n / 128) ≠ [] := by
        intro e
        have := encN_pos d (n / 128)
        rw [e] at this
        cases this
      rw [List.dropLast_cons_of_ne_nil hne] at hx
      rcases List.mem_cons.1 hx with rfl | hx
      · omega
      · exact ih _ x hx
    · simp at hx
theorem implGet_cut (d : Nat) : ∀ (i : Nat) (m : Int) (pre q : List Int), d + i = 5 → (∀ x ∈ q, 127 < x ∧ x ≤ 255) → 0 ≤ m ∧ m < 2 ^ (7 * i) → (pre ++ q).length ≤ 140737488355328 →
    Ev (fun k => impl_GetNum.l0 k (pre ++ q) (pre.length : Int) m (i : Int)) ((0 : Int), (0 : Int), false) := by
  induction d with
  | zero =>
    intro i m pre q hi hq hm hl
    exact evS (fun k => by rw [impl_GetNum.l0]) (evF (by omega) (evS (fun k => by rw [impl_GetNum.j1]) (evF (by simp) (evR rfl))))
  | succ d ih =>
    intro i m pre q hi hq hm hl
    cases q with
    | nil =>
      refine evS (fun k => by rw [impl_GetNum.l0]) (evT (by omega) ?_)
      rw [decide_eq_false (by simp)]
      exact evS (fun k => by rw [impl_GetNum.j1]) (evF (by simp) (evR rfl))
    | cons c q =>
      have hc := hq c (by simp)
      have h2 := ih (i + 1) (m + c % 128 * 2 ^ (7 * i)) (pre ++ [c]) q (by omega) (fun x hx => hq x (by simp [hx])) (pow_next (by omega) hm (by omega)) (by simpa using hl)
      exact implGet_on hl (by simp) (rd_app _ _ _) hc.1 hc.2 (by omega) hm (by simpa using h2)
theorem implGet_short (b : List Int) (n : Nat) (hn : n ≤ 1000000000) (hl : (b ++ encN 4 n).length ≤ 140737488355328) :
    ∃ r, Ev (fun k => impl_GetNum.f k (b ++ (encN 4 n).dropLast) (b.length : Int)) r ∧ r.2.2 = false := by
  refine ⟨((0 : Int), (0 : Int), false), ?_, rfl⟩
  have hl2 : (b ++ (encN 4 n).dropLast).length ≤ 140737488355328 := by
    rw [List.length_append, List.length_dropLast]
    rw [List.length_append] at hl
    omega
  unfold impl_GetNum.f impl_inRange.f
  rw [w64 (x := ((b ++ (encN 4 n).dropLast).length : Int) - 1) (by omega)]
  by_cases h : (b.length : Int) ≤ ((b ++ (encN 4 n).dropLast).length : Int) - 1
  · refine evC (a := true) ?_ (evT rfl ?_)
    · rw [if_pos (by omega), decide_eq_true h]
    · exact implGet_cut 5 0 0 b _ (by omega) (encN_init 4 n) (by decide) hl2
  · refine evC (a := false) ?_ (evF (by simp) (evR rfl))
    rw [if_pos (by omega), decide_eq_false h]

theorem str_bytes (s : ByteArray) : strOfNums (bytesOf s) = s := by
  cases s with
  | mk d =>
    have h : ((fun n : Int => UInt8.ofNat n.toNat) ∘ fun b : UInt8 => (b.toNat : Int)) = id := by
      funext b
      simp
    simp [strOfNums, bytesOf, h]
theorem implText_put (b : List Int) (s : ByteArray) (post : List Int) (hs : s.size ≤ 1000000000) (hl : (b ++ encT s ++ post).length ≤ 140737488355328) :
    Ev (fun k => impl_GetText.f k (b ++ encT s ++ post) (b.length : Int)) (s, ((b.length + (encT s).length : Nat) : Int), true) := by
  have hne : near (s.size : Int) = s.size := near_of hs
  have he : b ++ encT s ++ post = b ++ encN 4 s.size ++ (bytesOf s ++ post) := by rw [encT, hne]; simp
  have hlen : (encT s).length = (encN 4 s.size).length + s.size := by rw [encT, hne, List.length_append, bytesOf_length]
  rw [he] at hl ⊢
  have h1 := implGet_put b s.size (bytesOf s ++ post) hs hl
  have hlen2 : (b ++ encN 4 s.size ++ (bytesOf s ++ post)).length = b.length + (encN 4 s.size).length + s.size + post.length := by simp [bytesOf_length]; omega
  have hp := encN_pos 4 s.size
  have g : GetOk (b ++ encN 4 s.size ++ (bytesOf s ++ post)).length (b.length : Int) ((s.size : Int), ((b.length + (encN 4 s.size).length : Nat) : Int), true) :=
    .inr ⟨rfl, by show (0 : Int) ≤ (s.size : Int); omega, by show (s.size : Int) ≤ _; omega, by show (b.length : Int) < ((b.length + (encN 4 s.size).length : Nat) : Int); omega, by show ((b.length + (encN 4 s.size).length : Nat) : Int) ≤ _; omega, by omega⟩
  refine evE ?_ (implText_of hl h1 g)
  unfold textOf
  rw [if_pos rfl, if_neg (by show ¬ ((s.size : Int) > _ - ((b.length + (encN 4 s.size).length : Nat) : Int)); omega)]
  have hA : (b ++ encN 4 s.size).length = b.length + (encN 4 s.size).length := by simp
  have hcut : ((b ++ encN 4 s.size ++ (bytesOf s ++ post)).take ((((b.length + (encN 4 s.size).length : Nat) : Int) + (s.size : Int)).toNat)).drop ((b.length + (encN 4 s.size).length : Nat) : Int).toNat = bytesOf s := by
    rw [show (((b.length + (encN 4 s.size).length : Nat) : Int) + (s.size : Int)).toNat = (b ++ encN 4 s.size).length + s.size by omega, show ((b.length + (encN 4 s.size).length : Nat) : Int).toNat = (b ++ encN 4 s.size).length by omega]
    rw [List.take_length_add_append, List.drop_left, ← bytesOf_length s, List.take_left]
  show (strOfNums _, _, true) = _
  rw [hcut, str_bytes, hlen]
  congr 2
  show ((b.length + (encN 4 s.size).length : Nat) : Int) + (s.size : Int) = _
  omega

theorem implTexts_back (l : List ByteArray) (hn : l.length ≤ 200) (hs : ∀ s ∈ l, s.size ≤ 1000000000) (post : List Int) (d : Nat) : ∀ (i : Nat) (pre : List Int) (acc : List ByteArray), i + d = l.length → acc = l.take i →
    (pre ++ encL (l.drop i) ++ post).length ≤ 140737488355328 →
    Ev (fun k => impl_GetTexts.l0 k (pre ++ encL (l.drop i) ++ post) (pre.length : Int) acc (l.length : Int) (i : Int)) (l, ((pre.length + (encL (l.drop i)).length : Nat) : Int), true) := by
  induction d with
  | zero =>
    intro i pre acc hi ha hl
    refine evS (fun k => by rw [impl_GetTexts.l0]) (evF (by omega) (evR ?_))
    rw [ha, List.take_of_length_le (by omega), List.drop_eq_nil_of_le (by omega)]
    simp [encL]
  | succ d ih =>
    intro i pre acc hi ha hl
    have hd := drop_rd l i (by omega)
    have hg := rdOf_get (d := ByteArray.empty) (l := l) (i := i) (by omega)
    have hm := hs _ (List.mem_of_getElem? hg)
    rw [hd, encL_cons] at hl ⊢
    generalize hx : rdOf ByteArray.empty l (i : Int) = x at hl hm hg ⊢
    have e1 : pre ++ (encT x ++ encL (l.drop (i + 1))) ++ post = pre ++ encT x ++ (encL (l.drop (i + 1)) ++ post) := by simp
    have e2 : pre ++ (encT x ++ encL (l.drop (i + 1))) ++ post = (pre ++ encT x) ++ encL (l.drop (i + 1)) ++ post := by simp
    have hT := implText_put pre x (encL (l.drop (i + 1)) ++ post) hm (by rw [← e1]; exact hl)
    rw [← e1] at hT
    have h2 := ih (i + 1) (pre ++ encT x) (acc ++ [x]) (by omega) (by
      rw [ha, List.take_succ_eq_append_getElem (by omega)]
      rw [List.getElem?_eq_getElem (by omega)] at hg
      rw [Option.some.inj hg]) (by rw [← e2]; exact hl)
    rw [← e2] at h2
    refine evS (fun k => by rw [impl_GetTexts.l0]) (evT (by omega) (evB hT ?_))
    refine evT rfl ?_
    refine evT (by rw [ha, List.length_take]; omega) ?_
    rw [w64s (show i < l.length by omega) (by omega)]
    rw [show ((pre.length + (encT x).length : Nat) : Int) = ((pre ++ encT x).length : Int) by simp]
    refine evE ?_ h2
    congr 2
    simp
    omega
theorem implTexts_put (b : List Int) (l : List ByteArray) (hn : l.length ≤ 200) (hs : ∀ s ∈ l, s.size ≤ 1000000000) (post : List Int) (hl : (b ++ (encN 4 l.length ++ encL l) ++ post).length ≤ 140737488355328) :
    Ev (fun k => impl_GetTexts.f k (b ++ (encN 4 l.length ++ encL l) ++ post) (b.length : Int)) (l, ((b.length + (encN 4 l.length ++ encL l).length : Nat) : Int), true) := by
  have e1 : b ++ (encN 4 l.length ++ encL l) ++ post = b ++ encN 4 l.length ++ (encL l ++ post) := by simp
  have e2 : b ++ (encN 4 l.length ++ encL l) ++ post = (b ++ encN 4 l.length) ++ encL (l.drop 0) ++ post := by simp
  have h1 := implGet_put b l.length (encL l ++ post) (by omega) (by rw [← e1]; exact hl)
  rw [← e1] at h1
  have h2 := implTexts_back l hn hs post l.length 0 (b ++ encN 4 l.length) [] (by omega) (by simp) (by rw [← e2]; exact hl)
  rw [← e2] at h2
  unfold impl_GetTexts.f
  refine evB h1 (evT rfl ?_)
  rw [decide_eq_false (by show ¬ ((l.length : Int) > 200); omega)]
  refine evS (fun k => by rw [impl_GetTexts.j0]) (evF Bool.false_ne_true ?_)
  rw [show ((b.length + (encN 4 l.length).length : Nat) : Int) = ((b ++ encN 4 l.length).length : Int) by simp]
  refine evE ?_ h2
  congr 2
  simp
  omega
end Go.Proofs.Ytmkhhnfmahdijaa.Z

/- What the reference's draws give: always something, of small size. No Go, no memory. -/
set_option linter.unusedVariables false
namespace Go.Proofs.Ytmkhhnfmahdijaa.Z
open Go.RowKit Go.Proofs.YtmkhhnfmahdijaaW.PrintWords Go.Proofs.YtmkhhnfmahdijaaW.PrintMore Go.Proofs.Ytmkhhnfmahdijaa.X

theorem and255 (a : Int) : 0 ≤ Go.bits .and .i64 a 255 ∧ Go.bits .and .i64 a 255 ≤ 255 := by
  have h : ((BitVec.ofInt 64 a &&& BitVec.ofInt 64 255).toNat) ≤ 255 := by
    rw [BitVec.toNat_and]
    exact Nat.and_le_right
  have h2 : Go.bits .and .i64 a 255 = IntKind.i64.wrap (((BitVec.ofInt 64 a &&& BitVec.ofInt 64 255).toNat : Nat) : Int) := rfl
  rw [h2, wi64, w64 (by omega)]
  omega
/-- A place of the cursor over l. -/
def At (l : List Int) (i : Int) : Prop := 0 ≤ i ∧ i ≤ l.length
theorem byte_some (l : List Int) (hl : l.length ≤ 140737488355328) (i h : Int) (hi : At l i) : ∃ x i' h', spec_l1Byte.f l i h = some (x, i', h') ∧ 0 ≤ x ∧ x ≤ 255 ∧ At l i' := by
  unfold At at *
  unfold spec_l1Byte.f
  by_cases h1 : i < (l.length : Int)
  · rw [if_pos h1, if_pos hi.1, w64 (x := i + 1) (by omega)]
    exact ⟨_, _, _, rfl, (and255 _).1, (and255 _).2, by omega, by omega⟩
  · rw [if_neg h1]
    exact ⟨_, _, _, rfl, (and255 _).1, (and255 _).2, hi⟩
theorem below_some (l : List Int) (hl : l.length ≤ 140737488355328) (i h n : Int) (hi : At l i) (hn : n ≤ 1000000) : ∃ x i' h', spec_l1Below.f l i h n = some (x, i', h') ∧ 0 ≤ x ∧ (x < n ∨ x = 0) ∧ At l i' := by
  unfold spec_l1Below.f
  by_cases h0 : n ≤ 0
  · rw [if_pos h0]
    exact ⟨_, _, _, rfl, by omega, .inr rfl, hi⟩
  rw [if_neg h0]
  by_cases h1 : n ≤ 256
  · rw [if_pos h1]
    obtain ⟨x, i', h', e, hx0, hx1, hi'⟩ := byte_some l hl i h hi
    rw [e]
    simp only [Option.bind_some]
    rw [if_neg (by omega), Int.tmod_eq_emod_of_nonneg hx0]
    exact ⟨_, _, _, rfl, Int.emod_nonneg _ (by omega), .inl (Int.emod_lt_of_pos _ (by omega)), hi'⟩
  · rw [if_neg h1]
    obtain ⟨x, i1, h1', e1, hx0, hx1, hi1⟩ := byte_some l hl i h hi
    obtain ⟨y, i2, h2', e2, hy0, hy1, hi2⟩ := byte_some l hl i1 h1' hi1
    obtain ⟨z, i3, h3', e3, hz0, hz1, hi3⟩ := byte_some l hl i2 h2' hi2
    rw [e1]
    simp only [Option.bind_some]
    rw [e2]
    simp only [Option.bind_some]
    rw [e3]
    simp only [Option.bind_some]
    rw [if_neg (by omega), w64 (x := x * 65536) (by omega), w64 (x := y * 256) (by omega), w64 (x := x * 65536 + y * 256) (by omega), w64 (x := x * 65536 + y * 256 + z) (by omega), Int.tmod_eq_emod_of_nonneg (by omega)]
    exact ⟨_, _, _, rfl, Int.emod_nonneg _ (by omega), .inl (Int.emod_lt_of_pos _ (by omega)), hi3⟩
theorem int_some (l : List Int) (hl : l.length ≤ 140737488355328) (i h : Int) (m : List Int) (hi : At l i) (hm : 0 < m.length) (hm2 : m.length ≤ 1000) : ∃ x i' h', spec_l1Int.f l i h m = some (x, i', h') ∧ x ∈ m ∧ At l i' := by
  unfold spec_l1Int.f
  obtain ⟨x, i', h', e, hx0, hx1, hi'⟩ := below_some l hl i h (m.length : Int) hi (by omega)
  rw [e]
  simp only [Option.bind_some]
  rw [if_pos hx0, if_pos (by omega)]
  refine ⟨_, _, _, rfl, ?_, hi'⟩
  have := rd_get (l := m) (i := x.toNat) (by omega)
  rw [show ((x.toNat : Nat) : Int) = x by omega] at this
  exact List.mem_of_getElem? this
theorem bytes_l0 (l : List Int) (hl : l.length ≤ 140737488355328) (n : Nat) (hn : n ≤ 1000000) (d : Nat) : ∀ (j : Nat) (acc : List Int) (i h : Int), j + d = n → acc.length = j → (∀ x ∈ acc, 0 ≤ x ∧ x ≤ 255) → At l i →
    ∃ r i' h', Ev (fun k => spec_l1Bytes.l0 k (n : Int) acc (j : Int) l i h) (r, i', h') ∧ r.length = n ∧ (∀ x ∈ r, 0 ≤ x ∧ x ≤ 255) ∧ At l i' := by
  induction d with
  | zero =>
    intro j acc i h hj ha hb hi
    exact ⟨acc, i, h, evS (fun k => by rw [spec_l1Bytes.l0]) (evF (by omega) (evR rfl)), by omega, hb, hi⟩
  | succ d ih =>
    intro j acc i h hj ha hb hi
    obtain ⟨x, i1, h1, e, hx0, hx1, hi1⟩ := byte_some l hl i h hi
    obtain ⟨r, i', h', e2, h3, h4, h5⟩ := ih (j + 1) (acc ++ [x % 256]) i1 h1 (by omega) (by simp; omega) (by
      intro y hy
      rcases List.mem_append.1 hy with hy | hy
      · exact hb y hy
      · rw [List.mem_singleton.1 hy]
        omega) hi1
    refine ⟨r, i', h', ?_, h3, h4, h5⟩
    refine evS (fun k => by rw [spec_l1Bytes.l0]) (evT (by omega) (evC e ?_))
    refine evT (by omega) ?_
    rw [w64s (show j < n by omega) (by omega)]
    exact e2
theorem bytes_some (l : List Int) (hl : l.length ≤ 140737488355328) (n : Int) (h0 : 0 ≤ n) (hn : n ≤ 1000000) (i h : Int) (hi : At l i) :
    ∃ r i' h', Ev (fun k => spec_l1Bytes.f k l i h n) (r, i', h') ∧ (r.length : Int) = n ∧ (∀ x ∈ r, 0 ≤ x ∧ x ≤ 255) ∧ At l i' := by
  obtain ⟨m, rfl⟩ := Int.eq_ofNat_of_zero_le h0
  obtain ⟨r, i', h', e, h1, h2, h3⟩ := bytes_l0 l hl m (by omega) m 0 [] i h (by omega) rfl (by intro x hx; cases hx) hi
  exact ⟨r, i', h', e, by omega, h2, h3⟩
theorem some_some (l : List Int) (hl : l.length ≤ 140737488355328) (i h : Int) (hi : At l i) :
    ∃ r i' h', Ev (fun k => spec_l1Some.f k l i h) (r, i', h') ∧ r.length ≤ 9 ∧ (∀ x ∈ r, 0 ≤ x ∧ x ≤ 255) ∧ At l i' := by
  obtain ⟨n, i1, h1, e1, hn, hi1⟩ := int_some l hl i h [0, 1, 2, 5, 9] hi (by decide) (by decide)
  have hn' : 0 ≤ n ∧ n ≤ 9 := by simp at hn; omega
  obtain ⟨r, i', h', e2, h2, h3, h4⟩ := bytes_some l hl n hn'.1 (by omega) i1 h1 hi1
  refine ⟨r, i', h', ?_, by omega, h3, h4⟩
  unfold spec_l1Some.f
  exact evC e1 (evB e2 (evR rfl))
theorem new_l0 (l : List Int) (hl : l.length ≤ 140737488355328) (d : Nat) : ∀ (j : Nat) (h : Int), j + d = l.length → ∃ h', Ev (fun k => spec_l1New.l0 k l h (j : Int)) (l, 0, h') := by
  induction d with
  | zero =>
    intro j h hj
    exact ⟨h, evS (fun k => by rw [spec_l1New.l0]) (evF (by omega) (evR rfl))⟩
  | succ d ih =>
    intro j h hj
    by_cases h4 : (j : Int) < 4000
    · obtain ⟨h', e⟩ := ih (j + 1) (Go.bits .and .i64 (wrap64 ((wrap64 ((wrap64 (h * 137)) + (wrap64 (rd l (j : Int))))) + 11)) 1073741823) (by omega)
      refine ⟨h', evS (fun k => by rw [spec_l1New.l0]) (evT (by omega) (evT h4 (evT (by omega) ?_)))⟩
      rw [w64s (show j < l.length by omega) (by omega)]
      exact e
    · exact ⟨h, evS (fun k => by rw [spec_l1New.l0]) (evT (by omega) (evF h4 (evR rfl)))⟩
theorem new_some (l : List Int) (hl : l.length ≤ 140737488355328) : ∃ h', Ev (fun k => spec_l1New.f k l) (l, 0, h') := by
  obtain ⟨h', e⟩ := new_l0 l hl l.length 0 (wrap64 (372372 + (l.length : Int))) (by omega)
  exact ⟨h', e⟩
theorem strOf_size' (l : List Int) : (strOfNums l).size = l.length := by simp [strOfNums, ByteArray.size]
theorem at_zero (l : List Int) : At l 0 := ⟨by omega, by omega⟩
theorem u8_wf {x : Int} (h : 0 ≤ x ∧ x ≤ 255) : (Lit.int .u8 x).wf = true := by
  simp [Lit.wf, IntKind.min, IntKind.max, IntKind.signed, IntKind.bits]
  omega
end Go.Proofs.Ytmkhhnfmahdijaa.Z

/- Drawn texts: always some, small. No Go, no memory. -/
set_option linter.unusedVariables false
namespace Go.Proofs.Ytmkhhnfmahdijaa.Z
open Go.RowKit Go.Proofs.YtmkhhnfmahdijaaW.PrintWords Go.Proofs.YtmkhhnfmahdijaaW.PrintMore Go.Proofs.Ytmkhhnfmahdijaa.X

theorem str_some (l : List Int) (hl : l.length ≤ 140737488355328) (i h : Int) (m : List ByteArray) (hi : At l i) (hm : 0 < m.length) (hm2 : m.length ≤ 1000) : ∃ x i' h', spec_l1Str.f l i h m = some (x, i', h') ∧ x ∈ m ∧ At l i' := by
  unfold spec_l1Str.f
  obtain ⟨x, i', h', e, hx0, hx1, hi'⟩ := below_some l hl i h (m.length : Int) hi (by omega)
  rw [e]
  simp only [Option.bind_some]
  rw [if_pos hx0, if_pos (by omega)]
  refine ⟨_, _, _, rfl, ?_, hi'⟩
  have := rdOf_get (d := ByteArray.empty) (l := m) (i := x.toNat) (by omega)
  rw [show ((x.toNat : Nat) : Int) = x by omega] at this
  exact List.mem_of_getElem? this
theorem texts_l0 (l : List Int) (hl : l.length ≤ 140737488355328) (d : Nat) : ∀ (acc : List ByteArray) (i h : Int), d ≤ 100 → acc.length + d ≤ 100 → (∀ s ∈ acc, s.size ≤ 15) → At l i →
    ∃ r i' h', Ev (fun k => spec_l1Texts.l0 k acc (d : Int) l i h) (r, i', h') ∧ r.length ≤ acc.length + d ∧ (∀ s ∈ r, s.size ≤ 15) ∧ At l i' := by
  induction d with
  | zero =>
    intro acc i h hd ha hs hi
    exact ⟨acc, i, h, evS (fun k => by rw [spec_l1Texts.l0]) (evF (by omega) (evR rfl)), by omega, hs, hi⟩
  | succ d ih =>
    intro acc i h hd ha hs hi
    obtain ⟨x, i1, h1, e, hx, hi1⟩ := str_some l hl i h [(⟨#[]⟩ : ByteArray), (⟨#[97]⟩ : ByteArray), (⟨#[98, 99]⟩ : ByteArray), (⟨#[0, 255]⟩ : ByteArray), (⟨#[115, 111, 109, 101, 32, 109, 111, 114, 101, 32, 98, 121, 116, 101, 115]⟩ : ByteArray)] hi (by decide) (by decide)
    have hx2 : x.size ≤ 15 := by
      simp only [List.mem_cons, List.not_mem_nil, or_false] at hx
      rcases hx with rfl | rfl | rfl | rfl | rfl <;> decide
    obtain ⟨r, i', h', e2, h3, h4, h5⟩ := ih (acc ++ [x]) i1 h1 (by omega) (by simp; omega) (by
      intro s hs'
      rcases List.mem_append.1 hs' with hs' | hs'
      · exact hs s hs'
      · rw [List.mem_singleton.1 hs']
        exact hx2) hi1
    refine ⟨r, i', h', ?_, by simp at h3; omega, h4, h5⟩
    refine evS (fun k => by rw [spec_l1Texts.l0]) (evT (by omega) (evC e ?_))
    refine evT (by omega) ?_
    rw [w64 (x := ((d + 1 : Nat) : Int) - 1) (by omega), show ((d + 1 : Nat) : Int) - 1 = (d : Int) by omega]
    exact e2
theorem texts_some (l : List Int) (hl : l.length ≤ 140737488355328) (i h : Int) (hi : At l i) :
    ∃ r i' h', Ev (fun k => spec_l1Texts.f k l i h) (r, i', h') ∧ r.length ≤ 5 ∧ (∀ s ∈ r, s.size ≤ 15) ∧ At l i' := by
  obtain ⟨n, i1, h1, e1, n0, n1, hi1⟩ := below_some l hl i h 5 hi (by omega)
  obtain ⟨m, rfl⟩ := Int.eq_ofNat_of_zero_le n0
  obtain ⟨r, i', h', e2, h2, h3, h4⟩ := texts_l0 l hl m [] i1 h1 (by omega) (by simp; omega) (by intro s hs; cases hs) hi1
  refine ⟨r, i', h', ?_, by simp at h2; omega, h3, h4⟩
  unfold spec_l1Texts.f
  exact evC e1 e2
theorem total_small {l : List ByteArray} {c : Nat} (h : ∀ s ∈ l, s.size ≤ c) : total l ≤ l.length * c := by
  induction l with
  | nil => simp [total_nil]
  | cons a l ih =>
    rw [total_cons, List.length_cons, Nat.succ_mul]
    have h1 := h a (by simp)
    have h2 := ih (fun s hs => h s (by simp [hs]))
    omega
end Go.Proofs.Ytmkhhnfmahdijaa.Z

/- The law FnTexts, as a plain statement: drawn texts come back of their bytes, with what is behind them left. Conditions: those of the row's reading alone. -/
set_option linter.unusedVariables false
namespace Go.Proofs.Ytmkhhnfmahdijaa.Pure
open Go.RowKit Go.Proofs.Ytmkhhnfmahdijaa.X Go.Proofs.Ytmkhhnfmahdijaa.Z Go.Proofs.YtmkhhnfmahdijaaW.PrintWords Go.Proofs.YtmkhhnfmahdijaaW.PrintLast
theorem sameTexts_l0 (a : List ByteArray) (hn : a.length ≤ 4611686018427387904) (d : Nat) : ∀ (i : Nat), i + d = a.length → Ev (fun k => laws_sameTexts.l0 k a a (i : Int)) true := by
  induction d with
  | zero =>
    intro i hi
    exact evS (fun k => by rw [laws_sameTexts.l0]) (evF (by omega) (evR rfl))
  | succ d ih =>
    intro i hi
    refine evS (fun k => by rw [laws_sameTexts.l0]) (evT (by omega) (evT (by omega) (evT (by omega) (evT rfl ?_))))
    rw [w64s (show i < a.length by omega) (by omega)]
    exact ih (i + 1) (by omega)
theorem sameTexts_same (a : List ByteArray) (hn : a.length ≤ 4611686018427387904) : Ev (fun k => laws_sameTexts.f k a a) true := by
  unfold laws_sameTexts.f
  exact evT rfl (sameTexts_l0 a hn a.length 0 (by omega))
theorem FnTexts : laws_FnTexts.Pure := by
  intro l0 h1 h2 h3
  refine Ev.rounds ?_
  unfold laws_FnTexts.f
  refine evC (by unfold laws_big.f; rfl) (evI (fun _ => evR rfl) (fun hl => ?_))
  have hl' : l0.length ≤ 140737488355328 := by omega
  obtain ⟨h', e1⟩ := new_some l0 hl'
  obtain ⟨b, i2, h2', e2, b1, b2, a2⟩ := some_some l0 hl' 0 h' (at_zero _)
  obtain ⟨l, i3, h3', e3, l1, l2, a3⟩ := texts_some l0 hl' i2 h2' a2
  have hD : Ev (fun k => spec_DrawPutTexts.f k l0) (b, l) := by
    unfold spec_DrawPutTexts.f
    exact evB e1 (evB e2 (evB e3 (evR rfl)))
  have ht := total_small l2
  have hne : near (l.length : Int) = l.length := near_of (by omega)
  have hP := implTexts_ev b l (by omega)
  rw [hne] at hP
  have hlen := encN_length 4 l.length
  have hlen2 := encL_length l
  have hB := implTexts_put b l (by omega) (fun s hs => by have := l2 s hs; omega) [1, 2] (by simp; omega)
  refine evB hD (evB hP ?_)
  refine evC rfl (evT (by simp; omega) ?_)
  refine evC rfl ?_
  refine evC rfl (evT (by simp; omega) ?_)
  simp only [List.nil_append]
  refine evB hB (evT rfl (evB (sameTexts_same l (by omega)) (evT rfl (evR ?_))))
  simp
end Go.Proofs.Ytmkhhnfmahdijaa.Pure

/- Values that come in as data (strings' slices, structs, slices of structs, nested) are of the printer's kinds: one lemma a make of type. Plain lemmas for the rows of laws over such parameters. No conditions beyond what each lemma names. -/
set_option linter.unusedVariables false
namespace Go.Proofs.Ytmkhhnfmahdijaa.Y
open Go.RowKit Go.Proofs.YtmkhhnfmahdijaaW.PrintWords Go.ChangeShapes Go.WideShapes Go.Deep

/-- What is read as data of type T is of kind d, and G holds of what it says. -/
def Opn {α : Type} (P : Program) (d : Kd α) (T : TypeId) (G : α → Prop) : Prop :=
  ∀ {H : Type} (enc : TypeId × Value → H) (w : World) (spare : Nat → Bool) (held : Bool) (fuel : Nat) (cs : List Value) (x : DataW H × List MemPlace), DataW.trod enc P w 0 spare held fuel T cs = some x → ∃ y, d.K w y cs ∧ G y

theorem Opn.int {P : Program} {T : TypeId} {k : IntKind} (h : P.underlying T = some (.int k)) : Opn P (Kd.int k) T (fun n => (Lit.int k n).wf = true) := by
  intro H enc w spare held fuel cs x hx
  obtain ⟨n, rfl, _, hn⟩ := DataW.trod_int h hx
  exact ⟨n, rfl, hn⟩
theorem Opn.bool {P : Program} {T : TypeId} (h : P.underlying T = some .bool) : Opn P Kd.bool T (fun _ => True) := by
  intro H enc w spare held fuel cs x hx
  obtain ⟨n, rfl, _⟩ := DataW.trod_bool h hx
  exact ⟨n, rfl, trivial⟩
theorem Opn.string {P : Program} {T : TypeId} (h : P.underlying T = some .string) : Opn P Kd.string T (fun s => s.size ≤ maxLen) := by
  intro H enc w spare held fuel cs x hx
  obtain ⟨s, rfl, _, hs⟩ := DataW.trod_string h hx
  exact ⟨s, rfl, hs⟩
theorem Opn.slice {α : Type} {P : Program} {d : Kd α} {T e : TypeId} {G : α → Prop} [Inhabited α] (h : P.underlying T = some (.slice e)) (he : P.cellsOf e = d.sz) (ho : Opn P d e G) :
    Opn P (Kd.slice e d) T (fun l => l.length ≤ maxLen ∧ ∀ y, y ∈ l → G y) := by
  intro H enc w spare held fuel cs x hx
  rcases open_slice h hx with ⟨rfl, _⟩ | ⟨a, len, cap, m, n, D, Pl, rfl, _, hl, hm, hmm, _, hel⟩
  · exact ⟨[], ⟨none, 0, rfl, Nat.le_refl _, rfl, by simp, fun hn => absurd hn (Nat.lt_irrefl 0)⟩, by simp, fun y hy => by cases hy⟩
  · have hlm : len ≤ m := by rw [hmm]; split <;> omega
    have each : ∀ i, i < len → ∃ y, (∃ c, c.length = d.sz ∧ d.K w y c ∧ ∀ j u, c[j]? = some u → w.cell? (a.add (i * d.sz + j)) = some u) ∧ G y := by
      intro i hi
      obtain ⟨c, hc, ht⟩ := hel i (by omega)
      obtain ⟨y, hk, hg⟩ := ho enc w spare held n c _ ht
      obtain ⟨_, hlen, hcell⟩ := World.cells?_some hc
      refine ⟨y, ⟨c, hlen.trans he, hk, fun j u hu => ?_⟩, hg⟩
      have hj : j < P.cellsOf e := by rw [← hlen]; exact (List.getElem?_eq_some_iff.1 hu).1
      have := hcell j hj
      rw [Go.Deep.add_add, hu, he] at this
      exact this
    obtain ⟨f, hf⟩ := choose_lt each
    have hlen : ((List.range len).map f).length = len := by simp
    have hm' : len ≤ maxLen := Nat.le_trans hl hm
    refine ⟨(List.range len).map f, ⟨some a, cap, by rw [hlen], by rw [hlen]; exact hl, by rw [hlen], by rw [hlen]; unfold maxLen at hm'; exact hm', fun _ => ⟨a, rfl, fun j p hp => ?_⟩⟩, by rw [hlen]; exact hm', fun y hy => ?_⟩
    · obtain ⟨hj, rfl⟩ := List.getElem?_eq_some_iff.1 hp
      rw [hlen] at hj
      simp only [List.getElem_map, List.getElem_range]
      exact (hf j hj).1
    · obtain ⟨i, hi, rfl⟩ := List.mem_map.1 hy
      exact (hf i (List.mem_range.1 hi)).2

/-- The fields from cell 'off' on. -/
def FOpn {α : Type} (P : Program) (d : Kd α) (off : Nat) (fs : List Field) (G : α → Prop) : Prop :=
  ∀ {H : Type} (enc : TypeId × Value → H) (w : World) (spare : Nat → Bool) (held : Bool) (fuel : Nat) (cs : List Value),
    (∀ f, f ∈ fs → ∃ x, DataW.trod enc P w 0 spare held fuel f.type ((cs.drop f.offset).take (P.cellsOf f.type)) = some x) → cs.length = off + d.sz → ∃ y, d.K w y (cs.drop off) ∧ G y
theorem FOpn.one {α : Type} {P : Program} {d : Kd α} {off : Nat} {f : Field} {G : α → Prop} (hf : f.offset = off) (hc : P.cellsOf f.type = d.sz) (ho : Opn P d f.type G) : FOpn P d off [f] G := by
  intro H enc w spare held fuel cs hx hl
  obtain ⟨x, hx⟩ := hx f (by simp)
  rw [hf, hc, List.take_of_length_le (by simp; omega)] at hx
  exact ho enc w spare held fuel _ x hx
theorem FOpn.cons {α β : Type} {P : Program} {d : Kd α} {d' : Kd β} {off : Nat} {f : Field} {fs : List Field} {G : α → Prop} {G' : β → Prop} (hf : f.offset = off) (hc : P.cellsOf f.type = d.sz) (ho : Opn P d f.type G)
    (hs : FOpn P d' (off + d.sz) fs G') : FOpn P (Kd.pair d d') off (f :: fs) (fun y => G y.1 ∧ G' y.2) := by
  intro H enc w spare held fuel cs hx hl
  have hl' : cs.length = off + (d.sz + d'.sz) := hl
  obtain ⟨x, h1⟩ := hx f (by simp)
  rw [hf, hc] at h1
  obtain ⟨y, hy, gy⟩ := ho enc w spare held fuel _ x h1
  obtain ⟨z, hz, gz⟩ := hs enc w spare held fuel cs (fun g hg => hx g (List.mem_cons_of_mem _ hg)) (by omega)
  refine ⟨(y, z), ⟨_, _, ?_, hy, hz⟩, gy, gz⟩
  rw [← List.drop_drop, List.take_append_drop]
theorem Opn.struct {α β : Type} {P : Program} {d : Kd α} {T : TypeId} {fs : Array Field} {fl : List Field} {G : α → Prop} {G' : β → Prop} {proj : β → α} (mk : α → β) (h : P.underlying T = some (.struct fs)) (hfl : fs.toList = fl) (hc : P.cellsOf T = d.sz)
    (hmk : ∀ y, proj (mk y) = y) (hG : ∀ y, G y → G' (mk y)) (hs : FOpn P d 0 fl G) : Opn P (Kd.iso d proj) T G' := by
  intro H enc w spare held fuel cs x hx
  obtain ⟨xs, n, rfl, _, hlen, hxs, hall⟩ := DataW.trod_struct h hx
  obtain ⟨y, hy, gy⟩ := hs enc w spare held n cs (fun f hf => by
    rw [← hfl] at hf
    obtain ⟨i, hi, he⟩ := List.getElem_of_mem hf
    have hi' : i < fs.size := by simpa using hi
    have h1 : fs[i]? = some f := by rw [Array.getElem?_eq_getElem hi']; simpa using he
    exact ⟨_, (hall i f h1).trans (List.getElem?_eq_getElem (by omega))⟩) (by rw [hlen, hc, Nat.zero_add])
  refine ⟨mk y, ?_, hG y gy⟩
  show d.K w (proj (mk y)) cs
  rw [hmk]
  exact hy

/-- A parameter that is a slice. -/
theorem Opn.arg_slice {α : Type} {P : Program} {d : Kd α} {T e : TypeId} {G : α → Prop} [Inhabited α] (h : P.underlying T = some (.slice e)) (he : P.cellsOf e = d.sz) (ho : Opn P d e G)
    {H : Type} {enc : TypeId × Value → H} {w : World} {spare : Nat → Bool} {held : Bool} {v : Value} {D : DataW H} {ps : List MemPlace} {r : Reach} {b : Nat} (hv : Value.okWide P w r b T v) (hx : DataW.Trod enc P w 0 spare held T v D ps) :
    ∃ (A : Option Addr) (c : Nat) (l : List α), v = .slice A l.length c ∧ l.length ≤ c ∧ d.C w A l.length l ∧ l.length ≤ maxLen ∧ ∀ y, y ∈ l → G y := by
  obtain ⟨a, len, cap, rfl⟩ := okWide_slice h hv
  obtain ⟨fuel, hf⟩ := hx
  obtain ⟨l, ⟨A, c, hcs, hlc, hC⟩, hg1, hg2⟩ := Opn.slice h he ho enc w spare held fuel _ _ hf
  have hcs' : [Value.slice a len cap] = [Value.slice A l.length c] := hcs
  injection hcs' with h1 _
  exact ⟨A, c, l, h1, hlc, hC, hg1, hg2⟩
/-- A parameter that is a struct. -/
theorem Opn.arg_struct {α : Type} {P : Program} {d : Kd α} {T : TypeId} {G : α → Prop} {fs : Array Field} (hu : P.underlying T = some (.struct fs)) (ho : Opn P d T G)
    {H : Type} {enc : TypeId × Value → H} {w : World} {spare : Nat → Bool} {held : Bool} {v : Value} {D : DataW H} {ps : List MemPlace} {r : Reach} {b : Nat} (hv : Value.okWide P w r b T v) (hx : DataW.Trod enc P w 0 spare held T v D ps) :
    ∃ (cs : List Value) (y : α), v = .agg cs.toArray ∧ d.K w y cs ∧ G y := by
  obtain ⟨cs, rfl, _⟩ := okWide_struct hu hv
  obtain ⟨fuel, hf⟩ := hx
  obtain ⟨y, hk, hg⟩ := ho enc w spare held fuel _ _ hf
  exact ⟨cs.toList, y, by simp, hk, hg⟩
end Go.Proofs.Ytmkhhnfmahdijaa.Y

/- Three closed facts of the rows of this seat (how the program may be entered), by the first words of the translation's head row. No conditions. -/
namespace Go.Proofs.Ytmkhhnfmahdijaa.Y
open Go.ChangeShapes Go.WideShapes Go.ChangeAt Go.RowKit
def tailSigns : List Char := [Char.ofNat 108, Char.ofNat 111, Char.ofNat 111, Char.ofNat 112, Char.ofNat 46, Char.ofNat 101, Char.ofNat 120, Char.ofNat 97, Char.ofNat 109, Char.ofNat 112, Char.ofNat 108, Char.ofNat 101, Char.ofNat 47, Char.ofNat 103, Char.ofNat 48, Char.ofNat 48, Char.ofNat 50, Char.ofNat 51, Char.ofNat 51, Char.ofNat 47, Char.ofNat 108, Char.ofNat 97, Char.ofNat 119, Char.ofNat 115, Char.ofNat 46, Char.ofNat 70, Char.ofNat 110, Char.ofNat 69, Char.ofNat 120, Char.ofNat 97, Char.ofNat 99, Char.ofNat 116, Char.ofNat 67, Char.ofNat 111, Char.ofNat 110, Char.ofNat 115, Char.ofNat 116, Char.ofNat 97, Char.ofNat 110, Char.ofNat 116, Char.ofNat 115, Char.ofNat 32, Char.ofNat 108, Char.ofNat 111, Char.ofNat 111, Char.ofNat 112, Char.ofNat 46, Char.ofNat 101, Char.ofNat 120, Char.ofNat 97, Char.ofNat 109, Char.ofNat 112, Char.ofNat 108, Char.ofNat 101, Char.ofNat 47, Char.ofNat 103, Char.ofNat 48, Char.ofNat 48, Char.ofNat 50, Char.ofNat 51, Char.ofNat 51, Char.ofNat 47, Char.ofNat 108, Char.ofNat 97, Char.ofNat 119, Char.ofNat 115, Char.ofNat 46, Char.ofNat 70, Char.ofNat 110, Char.ofNat 69, Char.ofNat 120, Char.ofNat 97, Char.ofNat 99, Char.ofNat 116, Char.ofNat 72, Char.ofNat 101, Char.ofNat 120, Char.ofNat 79, Char.ofNat 102, Char.ofNat 32, Char.ofNat 108, Char.ofNat 111, Char.ofNat 111, Char.ofNat 112, Char.ofNat 46, Char.ofNat 101, Char.ofNat 120, Char.ofNat 97, Char.ofNat 109, Char.ofNat 112, Char.ofNat 108, Char.ofNat 101, Char.ofNat 47, Char.ofNat 103, Char.ofNat 48, Char.ofNat 48, Char.ofNat 50, Char.ofNat 51, Char.ofNat 51, Char.ofNat 47, Char.ofNat 108, Char.ofNat 97, Char.ofNat 119, Char.ofNat 115, Char.ofNat 46, Char.ofNat 70, Char.ofNat 110, Char.ofNat 69, Char.ofNat 120, Char.ofNat 97, Char.ofNat 99, Char.ofNat 116, Char.ofNat 85, Char.ofNat 110, Char.ofNat 72, Char.ofNat 101, Char.ofNat 120, Char.ofNat 32, Char.ofNat 108, Char.ofNat 111, Char.ofNat 111, Char.ofNat 112, Char.ofNat 46, Char.ofNat 101, Char.ofNat 120, Char.ofNat 97, Char.ofNat 109, Char.ofNat 112, Char.ofNat 108, Char.ofNat 101, Char.ofNat 47, Char.ofNat 103, Char.ofNat 48, Char.ofNat 48, Char.ofNat 50, Char.ofNat 51, Char.ofNat 51, Char.ofNat 47, Char.ofNat 108, Char.ofNat 97, Char.ofNat 119, Char.ofNat 115, Char.ofNat 46, Char.ofNat 70, Char.ofNat 110, Char.ofNat 69, Char.ofNat 120, Char.ofNat 97, Char.ofNat 99, Char.ofNat 116, Char.ofNat 71, Char.ofNat 101, Char.ofNat 116, Char.ofNat 78, Char.ofNat 117, Char.ofNat 109, Char.ofNat 32, Char.ofNat 108, Char.ofNat 111, Char.ofNat 111, Char.ofNat 112, Char.ofNat 46, Char.ofNat 101, Char.ofNat 120, Char.ofNat 97, Char.ofNat 109, Char.ofNat 112, Char.ofNat 108, Char.ofNat 101, Char.ofNat 47, Char.ofNat 103, Char.ofNat 48, Char.ofNat 48, Char.ofNat 50, Char.ofNat 51, Char.ofNat 51, Char.ofNat 47, Char.ofNat 108, Char.ofNat 97, Char.ofNat 119, Char.ofNat 115, Char.ofNat 46, Char.ofNat 70, Char.ofNat 110, Char.ofNat 69, Char.ofNat 120, Char.ofNat 97, Char.ofNat 99, Char.ofNat 116, Char.ofNat 80, Char.ofNat 97, Char.ofNat 100, Char.ofNat 100, Char.ofNat 101, Char.ofNat 100, Char.ofNat 32, Char.ofNat 108, Char.ofNat 111, Char.ofNat 111, Char.ofNat 112, Char.ofNat 46, Char.ofNat 101, Char.ofNat 120, Char.ofNat 97, Char.ofNat 109, Char.ofNat 112, Char.ofNat 108, Char.ofNat 101, Char.ofNat 47, Char.ofNat 103, Char.ofNat 48, Char.ofNat 48, Char.ofNat 50, Char.ofNat 51, Char.ofNat 51, Char.ofNat 47, Char.ofNat 108, Char.ofNat 97, Char.ofNat 119, Char.ofNat 115, Char.ofNat 46, Char.ofNat 70, Char.ofNat 110, Char.ofNat 69, Char.ofNat 120, Char.ofNat 97, Char.ofNat 99, Char.ofNat 116, Char.ofNat 71, Char.ofNat 101, Char.ofNat 116, Char.ofNat 84, Char.ofNat 101, Char.ofNat 120, Char.ofNat 116, Char.ofNat 32, Char.ofNat 108, Char.ofNat 111, Char.ofNat 111, Char.ofNat 112, Char.ofNat 46, Char.ofNat 101, Char.ofNat 120, Char.ofNat 97, Char.ofNat 109, Char.ofNat 112, Char.ofNat 108, Char.ofNat 101, Char.ofNat 47, Char.ofNat 103, Char.ofNat 48, Char.ofNat 48, Char.ofNat 50, Char.ofNat 51, Char.ofNat 51, Char.ofNat 47, Char.ofNat 108, Char.ofNat 97, Char.ofNat 119, Char.ofNat 115, Char.ofNat 46, Char.ofNat 70, Char.ofNat 110, Char.ofNat 69, Char.ofNat 120, Char.ofNat 97, Char.ofNat 99, Char.ofNat 116, Char.ofNat 80, Char.ofNat 117, Char.ofNat 116, Char.ofNat 78, Char.ofNat 117, Char.ofNat 109, Char.ofNat 32, Char.ofNat 108, Char.ofNat 111, Char.ofNat 111, Char.ofNat 112, Char.ofNat 46, Char.ofNat 101, Char.ofNat 120, Char.ofNat 97, Char.ofNat 109, Char.ofNat 112, Char.ofNat 108, Char.ofNat 101, Char.ofNat 47, Char.ofNat 103, Char.ofNat 48, Char.ofNat 48, Char.ofNat 50, Char.ofNat 51, Char.ofNat 51, Char.ofNat 47, Char.ofNat 108, Char.ofNat 97, Char.ofNat 119, Char.ofNat 115, Char.ofNat 46, Char.ofNat 70, Char.ofNat 110, Char.ofNat 69, Char.ofNat 120, Char.ofNat 97, Char.ofNat 99, Char.ofNat 116, Char.ofNat 80, Char.ofNat 117, Char.ofNat 116, Char.ofNat 84, Char.ofNat 101, Char.ofNat 120, Char.ofNat 116, Char.ofNat 32, Char.ofNat 108, Char.ofNat 111, Char.ofNat 111, Char.ofNat 112, Char.ofNat 46, Char.ofNat 101, Char.ofNat 120, Char.ofNat 97, Char.ofNat 109, Char.ofNat 112, Char.ofNat 108, Char.ofNat 101, Char.ofNat 47, Char.ofNat 103, Char.ofNat 48, Char.ofNat 48, Char.ofNat 50, Char.ofNat 51, Char.ofNat 51, Char.ofNat 47, Char.ofNat 108, Char.ofNat 97, Char.ofNat 119, Char.ofNat 115, Char.ofNat 46, Char.ofNat 70, Char.ofNat 110, Char.ofNat 78, Char.ofNat 117, Char.ofNat 109, Char.ofNat 115, Char.ofNat 32, Char.ofNat 108, Char.ofNat 111, Char.ofNat 111, Char.ofNat 112, Char.ofNat 46, Char.ofNat 101, Char.ofNat 120, Char.ofNat 97, Char.ofNat 109, Char.ofNat 112, Char.ofNat 108, Char.ofNat 101, Char.ofNat 47, Char.ofNat 103, Char.ofNat 48, Char.ofNat 48, Char.ofNat 50, Char.ofNat 51, Char.ofNat 51, Char.ofNat 47, Char.ofNat 108, Char.ofNat 97, Char.ofNat 119, Char.ofNat 115, Char.ofNat 46, Char.ofNat 70, Char.ofNat 110, Char.ofNat 69, Char.ofNat 120, Char.ofNat 97, Char.ofNat 99, Char.ofNat 116, Char.ofNat 69, Char.ofNat 100, Char.ofNat 103, Char.ofNat 101, Char.ofNat 79, Char.ofNat 107, Char.ofNat 32, Char.ofNat 108, Char.ofNat 111, Char.ofNat 111, Char.ofNat 112, Char.ofNat 46, Char.ofNat 101, Char.ofNat 120, Char.ofNat 97, Char.ofNat 109, Char.ofNat 112, Char.ofNat 108, Char.ofNat 101, Char.ofNat 47, Char.ofNat 103, Char.ofNat 48, Char.ofNat 48, Char.ofNat 50, Char.ofNat 51, Char.ofNat 51, Char.ofNat 47, Char.ofNat 108, Char.ofNat 97, Char.ofNat 119, Char.ofNat 115, Char.ofNat 46, Char.ofNat 70, Char.ofNat 110, Char.ofNat 69, Char.ofNat 120, Char.ofNat 97, Char.ofNat 99, Char.ofNat 116, Char.ofNat 80, Char.ofNat 117, Char.ofNat 116, Char.ofNat 84, Char.ofNat 101, Char.ofNat 120, Char.ofNat 116, Char.ofNat 115, Char.ofNat 32, Char.ofNat 108, Char.ofNat 111, Char.ofNat 111, Char.ofNat 112, Char.ofNat 46, Char.ofNat 101, Char.ofNat 120, Char.ofNat 97, Char.ofNat 109, Char.ofNat 112, Char.ofNat 108, Char.ofNat 101, Char.ofNat 47, Char.ofNat 103, Char.ofNat 48, Char.ofNat 48, Char.ofNat 50, Char.ofNat 51, Char.ofNat 51, Char.ofNat 47, Char.ofNat 108, Char.ofNat 97, Char.ofNat 119, Char.ofNat 115, Char.ofNat 46, Char.ofNat 70, Char.ofNat 110, Char.ofNat 84, Char.ofNat 101, Char.ofNat 120, Char.ofNat 116, Char.ofNat 115, Char.ofNat 32, Char.ofNat 108, Char.ofNat 111, Char.ofNat 111, Char.ofNat 112, Char.ofNat 46, Char.ofNat 101, Char.ofNat 120, Char.ofNat 97, Char.ofNat 109, Char.ofNat 112, Char.ofNat 108, Char.ofNat 101, Char.ofNat 47, Char.ofNat 103, Char.ofNat 48, Char.ofNat 48, Char.ofNat 50, Char.ofNat 51, Char.ofNat 51, Char.ofNat 47, Char.ofNat 108, Char.ofNat 97, Char.ofNat 119, Char.ofNat 115, Char.ofNat 46, Char.ofNat 70, Char.ofNat 110, Char.ofNat 69, Char.ofNat 120, Char.ofNat 97, Char.ofNat 99, Char.ofNat 116, Char.ofNat 71, Char.ofNat 101, Char.ofNat 116, Char.ofNat 84, Char.ofNat 101, Char.ofNat 120, Char.ofNat 116, Char.ofNat 115, Char.ofNat 32, Char.ofNat 108, Char.ofNat 111, Char.ofNat 111, Char.ofNat 112, Char.ofNat 46, Char.ofNat 101, Char.ofNat 120, Char.ofNat 97, Char.ofNat 109, Char.ofNat 112, Char.ofNat 108, Char.ofNat 101, Char.ofNat 47, Char.ofNat 103, Char.ofNat 48, Char.ofNat 48, Char.ofNat 50, Char.ofNat 51, Char.ofNat 51, Char.ofNat 47, Char.ofNat 108, Char.ofNat 97, Char.ofNat 119, Char.ofNat 115, Char.ofNat 46, Char.ofNat 70, Char.ofNat 110, Char.ofNat 82, Char.ofNat 111, Char.ofNat 111, Char.ofNat 116, Char.ofNat 115, Char.ofNat 32, Char.ofNat 108, Char.ofNat 111, Char.ofNat 111, Char.ofNat 112, Char.ofNat 46, Char.ofNat 101, Char.ofNat 120, Char.ofNat 97, Char.ofNat 109, Char.ofNat 112, Char.ofNat 108, Char.ofNat 101, Char.ofNat 47, Char.ofNat 103, Char.ofNat 48, Char.ofNat 48, Char.ofNat 50, Char.ofNat 51, Char.ofNat 51, Char.ofNat 47, Char.ofNat 108, Char.ofNat 97, Char.ofNat 119, Char.ofNat 115, Char.ofNat 46, Char.ofNat 70, Char.ofNat 110, Char.ofNat 69, Char.ofNat 120, Char.ofNat 97, Char.ofNat 99, Char.ofNat 116, Char.ofNat 76, Char.ofNat 101, Char.ofNat 97, Char.ofNat 102, Char.ofNat 72, Char.ofNat 97, Char.ofNat 115, Char.ofNat 104, Char.ofNat 32, Char.ofNat 108, Char.ofNat 111, Char.ofNat 111, Char.ofNat 112, Char.ofNat 46, Char.ofNat 101, Char.ofNat 120, Char.ofNat 97, Char.ofNat 109, Char.ofNat 112, Char.ofNat 108, Char.ofNat 101, Char.ofNat 47, Char.ofNat 103, Char.ofNat 48, Char.ofNat 48, Char.ofNat 50, Char.ofNat 51, Char.ofNat 51, Char.ofNat 47, Char.ofNat 108, Char.ofNat 97, Char.ofNat 119, Char.ofNat 115, Char.ofNat 46, Char.ofNat 70, Char.ofNat 110, Char.ofNat 69, Char.ofNat 120, Char.ofNat 97, Char.ofNat 99, Char.ofNat 116, Char.ofNat 78, Char.ofNat 111, Char.ofNat 100, Char.ofNat 101, Char.ofNat 72, Char.ofNat 97, Char.ofNat 115, Char.ofNat 104, Char.ofNat 32, Char.ofNat 108, Char.ofNat 111, Char.ofNat 111, Char.ofNat 112, Char.ofNat 46, Char.ofNat 101, Char.ofNat 120, Char.ofNat 97, Char.ofNat 109, Char.ofNat 112, Char.ofNat 108, Char.ofNat 101, Char.ofNat 47, Char.ofNat 103, Char.ofNat 48, Char.ofNat 48, Char.ofNat 50, Char.ofNat 51, Char.ofNat 51, Char.ofNat 47, Char.ofNat 108, Char.ofNat 97, Char.ofNat 119, Char.ofNat 115, Char.ofNat 46, Char.ofNat 70, Char.ofNat 110, Char.ofNat 69, Char.ofNat 120, Char.ofNat 97, Char.ofNat 99, Char.ofNat 116, Char.ofNat 68, Char.ofNat 105, Char.ofNat 103, Char.ofNat 101, Char.ofNat 115, Char.ofNat 116, Char.ofNat 32, Char.ofNat 108, Char.ofNat 111, Char.ofNat 111, Char.ofNat 112, Char.ofNat 46, Char.ofNat 101, Char.ofNat 120, Char.ofNat 97, Char.ofNat 109, Char.ofNat 112, Char.ofNat 108, Char.ofNat 101, Char.ofNat 47, Char.ofNat 103, Char.ofNat 48, Char.ofNat 48, Char.ofNat 50, Char.ofNat 51, Char.ofNat 51, Char.ofNat 47, Char.ofNat 108, Char.ofNat 97, Char.ofNat 119, Char.ofNat 115, Char.ofNat 46, Char.ofNat 70, Char.ofNat 110, Char.ofNat 80, Char.ofNat 97, Char.ofNat 116, Char.ofNat 104, Char.ofNat 115, Char.ofNat 32, Char.ofNat 108, Char.ofNat 111, Char.ofNat 111, Char.ofNat 112, Char.ofNat 46, Char.ofNat 101, Char.ofNat 120, Char.ofNat 97, Char.ofNat 109, Char.ofNat 112, Char.ofNat 108, Char.ofNat 101, Char.ofNat 47, Char.ofNat 103, Char.ofNat 48, Char.ofNat 48, Char.ofNat 50, Char.ofNat 51, Char.ofNat 51, Char.ofNat 47, Char.ofNat 108, Char.ofNat 97, Char.ofNat 119, Char.ofNat 115, Char.ofNat 46, Char.ofNat 70, Char.ofNat 110, Char.ofNat 71, Char.ofNat 114, Char.ofNat 111, Char.ofNat 119, Char.ofNat 110, Char.ofNat 32, Char.ofNat 108, Char.ofNat 111, Char.ofNat 111, Char.ofNat 112, Char.ofNat 46, Char.ofNat 101, Char.ofNat 120, Char.ofNat 97, Char.ofNat 109, Char.ofNat 112, Char.ofNat 108, Char.ofNat 101, Char.ofNat 47, Char.ofNat 103, Char.ofNat 48, Char.ofNat 48, Char.ofNat 50, Char.ofNat 51, Char.ofNat 51, Char.ofNat 47, Char.ofNat 108, Char.ofNat 97, Char.ofNat 119, Char.ofNat 115, Char.ofNat 46, Char.ofNat 70, Char.ofNat 110, Char.ofNat 69, Char.ofNat 120, Char.ofNat 97, Char.ofNat 99, Char.ofNat 116, Char.ofNat 82, Char.ofNat 111, Char.ofNat 111, Char.ofNat 116, Char.ofNat 79, Char.ofNat 102, Char.ofNat 32, Char.ofNat 108, Char.ofNat 111, Char.ofNat 111, Char.ofNat 112, Char.ofNat 46, Char.ofNat 101, Char.ofNat 120, Char.ofNat 97, Char.ofNat 109, Char.ofNat 112, Char.ofNat 108, Char.ofNat 101, Char.ofNat 47, Char.ofNat 103, Char.ofNat 48, Char.ofNat 48, Char.ofNat 50, Char.ofNat 51, Char.ofNat 51, Char.ofNat 47, Char.ofNat 108, Char.ofNat 97, Char.ofNat 119, Char.ofNat 115, Char.ofNat 46, Char.ofNat 70, Char.ofNat 110, Char.ofNat 68, Char.ofNat 105, Char.ofNat 103, Char.ofNat 101, Char.ofNat 115, Char.ofNat 116, Char.ofNat 115, Char.ofNat 32, Char.ofNat 108, Char.ofNat 111, Char.ofNat 111, Char.ofNat 112, Char.ofNat 46, Char.ofNat 101, Char.ofNat 120, Char.ofNat 97, Char.ofNat 109, Char.ofNat 112, Char.ofNat 108, Char.ofNat 101, Char.ofNat 47, Char.ofNat 103, Char.ofNat 48, Char.ofNat 48, Char.ofNat 50, Char.ofNat 51, Char.ofNat 51, Char.ofNat 47, Char.ofNat 108, Char.ofNat 97, Char.ofNat 119, Char.ofNat 115, Char.ofNat 46, Char.ofNat 70, Char.ofNat 110, Char.ofNat 69, Char.ofNat 120, Char.ofNat 97, Char.ofNat 99, Char.ofNat 116, Char.ofNat 67, Char.ofNat 104, Char.ofNat 101, Char.ofNat 99, Char.ofNat 107, Char.ofNat 73, Char.ofNat 110, Char.ofNat 32, Char.ofNat 108, Char.ofNat 111, Char.ofNat 111, Char.ofNat 112, Char.ofNat 46, Char.ofNat 101, Char.ofNat 120, Char.ofNat 97, Char.ofNat 109, Char.ofNat 112, Char.ofNat 108, Char.ofNat 101, Char.ofNat 47, Char.ofNat 103, Char.ofNat 48, Char.ofNat 48, Char.ofNat 50, Char.ofNat 51, Char.ofNat 51, Char.ofNat 47, Char.ofNat 108, Char.ofNat 97, Char.ofNat 119, Char.ofNat 115, Char.ofNat 46, Char.ofNat 70, Char.ofNat 110, Char.ofNat 69, Char.ofNat 120, Char.ofNat 97, Char.ofNat 99, Char.ofNat 116, Char.ofNat 67, Char.ofNat 104, Char.ofNat 101, Char.ofNat 99, Char.ofNat 107, Char.ofNat 71, Char.ofNat 114, Char.ofNat 111, Char.ofNat 119, Char.ofNat 32, Char.ofNat 108, Char.ofNat 111, Char.ofNat 111, Char.ofNat 112, Char.ofNat 46, Char.ofNat 101, Char.ofNat 120, Char.ofNat 97, Char.ofNat 109, Char.ofNat 112, Char.ofNat 108, Char.ofNat 101, Char.ofNat 47, Char.ofNat 103, Char.ofNat 48, Char.ofNat 48, Char.ofNat 50, Char.ofNat 51, Char.ofNat 51, Char.ofNat 47, Char.ofNat 108, Char.ofNat 97, Char.ofNat 119, Char.ofNat 115, Char.ofNat 46, Char.ofNat 70, Char.ofNat 110, Char.ofNat 69, Char.ofNat 120, Char.ofNat 97, Char.ofNat 99, Char.ofNat 116, Char.ofNat 73, Char.ofNat 110, Char.ofNat 80, Char.ofNat 97, Char.ofNat 116, Char.ofNat 104, Char.ofNat 32, Char.ofNat 108, Char.ofNat 111, Char.ofNat 111, Char.ofNat 112, Char.ofNat 46, Char.ofNat 101, Char.ofNat 120, Char.ofNat 97, Char.ofNat 109, Char.ofNat 112, Char.ofNat 108, Char.ofNat 101, Char.ofNat 47, Char.ofNat 103, Char.ofNat 48, Char.ofNat 48, Char.ofNat 50, Char.ofNat 51, Char.ofNat 51, Char.ofNat 47, Char.ofNat 108, Char.ofNat 97, Char.ofNat 119, Char.ofNat 115, Char.ofNat 46, Char.ofNat 70, Char.ofNat 110, Char.ofNat 69, Char.ofNat 120, Char.ofNat 97, Char.ofNat 99, Char.ofNat 116, Char.ofNat 71, Char.ofNat 114, Char.ofNat 111, Char.ofNat 119, Char.ofNat 80, Char.ofNat 97, Char.ofNat 116, Char.ofNat 104]
set_option maxRecDepth 100000 in
theorem initOrder_lit : Try.pinned.checked.prog.initOrder = "harness 2030bd7aaa6f326128d74bbc92777a6f2b658087ac5cca4802849e451c912101 cut at loop.example/g00233/laws.FnExactConstants loop.example/g00233/laws.FnExactHexOf loop.example/g00233/laws.FnExactUnHex loop.example/g00233/laws.FnExactGetNum loop.example/g00233/laws.FnExactPadded loop.example/g00233/laws.FnExactGetText loop.example/g00233/laws.FnExactPutNum loop.example/g00233/laws.FnExactPutText loop.example/g00233/laws.FnNums loop.example/g00233/laws.FnExactEdgeOk loop.example/g00233/laws.FnExactPutTexts loop.example/g00233/laws.FnTexts loop.example/g00233/laws.FnExactGetTexts loop.example/g00233/laws.FnRoots loop.example/g00233/laws.FnExactLeafHash loop.example/g00233/laws.FnExactNodeHash loop.example/g00233/laws.FnExactDigest loop.example/g00233/laws.FnPaths loop.example/g00233/laws.FnGrown loop.example/g00233/laws.FnExactRootOf loop.example/g00233/laws.FnDigests loop.example/g00233/laws.FnExactCheckIn loop.example/g00233/laws.FnExactCheckGrow loop.example/g00233/laws.FnExactInPath loop.example/g00233/laws.FnExactGrowPath" := by kernel_rfl
set_option maxRecDepth 100000 in
theorem lit_list : ("harness 2030bd7aaa6f326128d74bbc92777a6f2b658087ac5cca4802849e451c912101 cut at loop.example/g00233/laws.FnExactConstants loop.example/g00233/laws.FnExactHexOf loop.example/g00233/laws.FnExactUnHex loop.example/g00233/laws.FnExactGetNum loop.example/g00233/laws.FnExactPadded loop.example/g00233/laws.FnExactGetText loop.example/g00233/laws.FnExactPutNum loop.example/g00233/laws.FnExactPutText loop.example/g00233/laws.FnNums loop.example/g00233/laws.FnExactEdgeOk loop.example/g00233/laws.FnExactPutTexts loop.example/g00233/laws.FnTexts loop.example/g00233/laws.FnExactGetTexts loop.example/g00233/laws.FnRoots loop.example/g00233/laws.FnExactLeafHash loop.example/g00233/laws.FnExactNodeHash loop.example/g00233/laws.FnExactDigest loop.example/g00233/laws.FnPaths loop.example/g00233/laws.FnGrown loop.example/g00233/laws.FnExactRootOf loop.example/g00233/laws.FnDigests loop.example/g00233/laws.FnExactCheckIn loop.example/g00233/laws.FnExactCheckGrow loop.example/g00233/laws.FnExactInPath loop.example/g00233/laws.FnExactGrowPath" : String) = String.ofList (Char.ofNat 104 :: Char.ofNat 97 :: Char.ofNat 114 :: Char.ofNat 110 :: Char.ofNat 101 :: Char.ofNat 115 :: Char.ofNat 115 :: Char.ofNat 32 :: Char.ofNat 50 :: Char.ofNat 48 :: Char.ofNat 51 :: Char.ofNat 48 :: Char.ofNat 98 :: Char.ofNat 100 :: Char.ofNat 55 :: Char.ofNat 97 :: Char.ofNat 97 :: Char.ofNat 97 :: Char.ofNat 54 :: Char.ofNat 102 :: Char.ofNat 51 :: Char.ofNat 50 :: Char.ofNat 54 :: Char.ofNat 49 :: Char.ofNat 50 :: Char.ofNat 56 :: Char.ofNat 100 :: Char.ofNat 55 :: Char.ofNat 52 :: Char.ofNat 98 :: Char.ofNat 98 :: Char.ofNat 99 :: Char.ofNat 57 :: Char.ofNat 50 :: Char.ofNat 55 :: Char.ofNat 55 :: Char.ofNat 55 :: Char.ofNat 97 :: Char.ofNat 54 :: Char.ofNat 102 :: Char.ofNat 50 :: Char.ofNat 98 :: Char.ofNat 54 :: Char.ofNat 53 :: Char.ofNat 56 :: Char.ofNat 48 :: Char.ofNat 56 :: Char.ofNat 55 :: Char.ofNat 97 :: Char.ofNat 99 :: Char.ofNat 53 :: Char.ofNat 99 :: Char.ofNat 99 :: Char.ofNat 97 :: Char.ofNat 52 :: Char.ofNat 56 :: Char.ofNat 48 :: Char.ofNat 50 :: Char.ofNat 56 :: Char.ofNat 52 :: Char.ofNat 57 :: Char.ofNat 101 :: Char.ofNat 52 :: Char.ofNat 53 :: Char.ofNat 49 :: Char.ofNat 99 :: Char.ofNat 57 :: Char.ofNat 49 :: Char.ofNat 50 :: Char.ofNat 49 :: Char.ofNat 48 :: Char.ofNat 49 :: Char.ofNat 32 :: Char.ofNat 99 :: Char.ofNat 117 :: Char.ofNat 116 :: Char.ofNat 32 :: Char.ofNat 97 :: Char.ofNat 116 :: Char.ofNat 32 :: tailSigns) := by kernel_rfl
theorem initOrder_list : Try.pinned.checked.prog.initOrder.toList = Char.ofNat 104 :: Char.ofNat 97 :: Char.ofNat 114 :: Char.ofNat 110 :: Char.ofNat 101 :: Char.ofNat 115 :: Char.ofNat 115 :: Char.ofNat 32 :: Char.ofNat 50 :: Char.ofNat 48 :: Char.ofNat 51 :: Char.ofNat 48 :: Char.ofNat 98 :: Char.ofNat 100 :: Char.ofNat 55 :: Char.ofNat 97 :: Char.ofNat 97 :: Char.ofNat 97 :: Char.ofNat 54 :: Char.ofNat 102 :: Char.ofNat 51 :: Char.ofNat 50 :: Char.ofNat 54 :: Char.ofNat 49 :: Char.ofNat 50 :: Char.ofNat 56 :: Char.ofNat 100 :: Char.ofNat 55 :: Char.ofNat 52 :: Char.ofNat 98 :: Char.ofNat 98 :: Char.ofNat 99 :: Char.ofNat 57 :: Char.ofNat 50 :: Char.ofNat 55 :: Char.ofNat 55 :: Char.ofNat 55 :: Char.ofNat 97 :: Char.ofNat 54 :: Char.ofNat 102 :: Char.ofNat 50 :: Char.ofNat 98 :: Char.ofNat 54 :: Char.ofNat 53 :: Char.ofNat 56 :: Char.ofNat 48 :: Char.ofNat 56 :: Char.ofNat 55 :: Char.ofNat 97 :: Char.ofNat 99 :: Char.ofNat 53 :: Char.ofNat 99 :: Char.ofNat 99 :: Char.ofNat 97 :: Char.ofNat 52 :: Char.ofNat 56 :: Char.ofNat 48 :: Char.ofNat 50 :: Char.ofNat 56 :: Char.ofNat 52 :: Char.ofNat 57 :: Char.ofNat 101 :: Char.ofNat 52 :: Char.ofNat 53 :: Char.ofNat 49 :: Char.ofNat 99 :: Char.ofNat 57 :: Char.ofNat 49 :: Char.ofNat 50 :: Char.ofNat 49 :: Char.ofNat 48 :: Char.ofNat 49 :: Char.ofNat 32 :: Char.ofNat 99 :: Char.ofNat 117 :: Char.ofNat 116 :: Char.ofNat 32 :: Char.ofNat 97 :: Char.ofNat 116 :: Char.ofNat 32 :: tailSigns := (congrArg String.toList (initOrder_lit.trans lit_list)).trans String.toList_ofList
theorem words_at (r : List Char) : wordsSigns (Char.ofNat 104 :: Char.ofNat 97 :: Char.ofNat 114 :: Char.ofNat 110 :: Char.ofNat 101 :: Char.ofNat 115 :: Char.ofNat 115 :: Char.ofNat 32 :: Char.ofNat 50 :: Char.ofNat 48 :: Char.ofNat 51 :: Char.ofNat 48 :: Char.ofNat 98 :: Char.ofNat 100 :: Char.ofNat 55 :: Char.ofNat 97 :: Char.ofNat 97 :: Char.ofNat 97 :: Char.ofNat 54 :: Char.ofNat 102 :: Char.ofNat 51 :: Char.ofNat 50 :: Char.ofNat 54 :: Char.ofNat 49 :: Char.ofNat 50 :: Char.ofNat 56 :: Char.ofNat 100 :: Char.ofNat 55 :: Char.ofNat 52 :: Char.ofNat 98 :: Char.ofNat 98 :: Char.ofNat 99 :: Char.ofNat 57 :: Char.ofNat 50 :: Char.ofNat 55 :: Char.ofNat 55 :: Char.ofNat 55 :: Char.ofNat 97 :: Char.ofNat 54 :: Char.ofNat 102 :: Char.ofNat 50 :: Char.ofNat 98 :: Char.ofNat 54 :: Char.ofNat 53 :: Char.ofNat 56 :: Char.ofNat 48 :: Char.ofNat 56 :: Char.ofNat 55 :: Char.ofNat 97 :: Char.ofNat 99 :: Char.ofNat 53 :: Char.ofNat 99 :: Char.ofNat 99 :: Char.ofNat 97 :: Char.ofNat 52 :: Char.ofNat 56 :: Char.ofNat 48 :: Char.ofNat 50 :: Char.ofNat 56 :: Char.ofNat 52 :: Char.ofNat 57 :: Char.ofNat 101 :: Char.ofNat 52 :: Char.ofNat 53 :: Char.ofNat 49 :: Char.ofNat 99 :: Char.ofNat 57 :: Char.ofNat 49 :: Char.ofNat 50 :: Char.ofNat 49 :: Char.ofNat 48 :: Char.ofNat 49 :: Char.ofNat 32 :: Char.ofNat 99 :: Char.ofNat 117 :: Char.ofNat 116 :: Char.ofNat 32 :: Char.ofNat 97 :: Char.ofNat 116 :: Char.ofNat 32 :: r) = [Char.ofNat 104, Char.ofNat 97, Char.ofNat 114, Char.ofNat 110, Char.ofNat 101, Char.ofNat 115, Char.ofNat 115] :: [Char.ofNat 50, Char.ofNat 48, Char.ofNat 51, Char.ofNat 48, Char.ofNat 98, Char.ofNat 100, Char.ofNat 55, Char.ofNat 97, Char.ofNat 97, Char.ofNat 97, Char.ofNat 54, Char.ofNat 102, Char.ofNat 51, Char.ofNat 50, Char.ofNat 54, Char.ofNat 49, Char.ofNat 50, Char.ofNat 56, Char.ofNat 100, Char.ofNat 55, Char.ofNat 52, Char.ofNat 98, Char.ofNat 98, Char.ofNat 99, Char.ofNat 57, Char.ofNat 50, Char.ofNat 55, Char.ofNat 55, Char.ofNat 55, Char.ofNat 97, Char.ofNat 54, Char.ofNat 102, Char.ofNat 50, Char.ofNat 98, Char.ofNat 54, Char.ofNat 53, Char.ofNat 56, Char.ofNat 48, Char.ofNat 56, Char.ofNat 55, Char.ofNat 97, Char.ofNat 99, Char.ofNat 53, Char.ofNat 99, Char.ofNat 99, Char.ofNat 97, Char.ofNat 52, Char.ofNat 56, Char.ofNat 48, Char.ofNat 50, Char.ofNat 56, Char.ofNat 52, Char.ofNat 57, Char.ofNat 101, Char.ofNat 52, Char.ofNat 53, Char.ofNat 49, Char.ofNat 99, Char.ofNat 57, Char.ofNat 49, Char.ofNat 50, Char.ofNat 49, Char.ofNat 48, Char.ofNat 49] :: [Char.ofNat 99, Char.ofNat 117, Char.ofNat 116] :: [Char.ofNat 97, Char.ofNat 116] :: wordsSigns r := by kernel_rfl
theorem behind_at (t : List (List Char)) : behindMainWord ([Char.ofNat 104, Char.ofNat 97, Char.ofNat 114, Char.ofNat 110, Char.ofNat 101, Char.ofNat 115, Char.ofNat 115] :: [Char.ofNat 50, Char.ofNat 48, Char.ofNat 51, Char.ofNat 48, Char.ofNat 98, Char.ofNat 100, Char.ofNat 55, Char.ofNat 97, Char.ofNat 97, Char.ofNat 97, Char.ofNat 54, Char.ofNat 102, Char.ofNat 51, Char.ofNat 50, Char.ofNat 54, Char.ofNat 49, Char.ofNat 50, Char.ofNat 56, Char.ofNat 100, Char.ofNat 55, Char.ofNat 52, Char.ofNat 98, Char.ofNat 98, Char.ofNat 99, Char.ofNat 57, Char.ofNat 50, Char.ofNat 55, Char.ofNat 55, Char.ofNat 55, Char.ofNat 97, Char.ofNat 54, Char.ofNat 102, Char.ofNat 50, Char.ofNat 98, Char.ofNat 54, Char.ofNat 53, Char.ofNat 56, Char.ofNat 48, Char.ofNat 56, Char.ofNat 55, Char.ofNat 97, Char.ofNat 99, Char.ofNat 53, Char.ofNat 99, Char.ofNat 99, Char.ofNat 97, Char.ofNat 52, Char.ofNat 56, Char.ofNat 48, Char.ofNat 50, Char.ofNat 56, Char.ofNat 52, Char.ofNat 57, Char.ofNat 101, Char.ofNat 52, Char.ofNat 53, Char.ofNat 49, Char.ofNat 99, Char.ofNat 57, Char.ofNat 49, Char.ofNat 50, Char.ofNat 49, Char.ofNat 48, Char.ofNat 49] :: [Char.ofNat 99, Char.ofNat 117, Char.ofNat 116] :: [Char.ofNat 97, Char.ofNat 116] :: t) = [Char.ofNat 99, Char.ofNat 117, Char.ofNat 116] :: [Char.ofNat 97, Char.ofNat 116] :: t := by kernel_rfl
theorem behind_all : behindMainWord (wordsSigns Try.pinned.checked.prog.initOrder.toList) = [Char.ofNat 99, Char.ofNat 117, Char.ofNat 116] :: [Char.ofNat 97, Char.ofNat 116] :: wordsSigns tailSigns := by rw [initOrder_list, words_at, behind_at]
theorem make_of (c : List Char) (rest : List (List Char)) (P : Program) (h0 : (c == "gc".toList) = false) (h1 : (c == "spec".toList) = false) (h2 : (c == "cut".toList) = true) (h : behindMainWord (wordsSigns P.initOrder.toList) = c :: rest) : P.make = some .cut := by
  unfold Program.make
  rw [h]
  simp only [h0, h1, h2]
  rfl
theorem mayEnter_of (c : List Char) (rest : List (List Char)) (P : Program) (h0 : (c == "gc".toList) = false) (h1 : (c == "spec".toList) = false) (h2 : (c == "carried".toList) = false) (h : behindMainWord (wordsSigns P.initOrder.toList) = c :: rest)
    (h3 : ((stripLifts liftWords (c :: rest)).2.head? == some "cut".toList) = true) (h4 : P.laysLater = false) (h5 : P.bearsReflect = false) (h6 : P.doorFits (stripLifts liftWords (c :: rest)).1 = true) (h7 : (stripLifts liftWords (c :: rest)).1.contains "leanrows" = false) : P.mayEnter = true := by
  unfold Program.mayEnter
  rw [h]
  simp only [h0, h1, h2, h3, h4, h5, h6, h7]
  simp
theorem liftsFinal_of (c : List Char) (rest : List (List Char)) (P : Program) (h2 : (some c == some "carried".toList) = false) (h : behindMainWord (wordsSigns P.initOrder.toList) = c :: rest)
    (h3 : ((stripLifts liftWords (c :: rest)).2.head? == some "cut".toList) = true) (h7 : (stripLifts liftWords (c :: rest)).1.contains "finals" = false) : P.liftsFinal = false := by
  unfold Program.liftsFinal Program.headLifts
  rw [h]
  simp only [List.head?_cons, h2, h3, if_true, h7, Bool.false_and, Bool.or_self]
theorem strip_at (t : List (List Char)) : stripLifts liftWords ([Char.ofNat 99, Char.ofNat 117, Char.ofNat 116] :: [Char.ofNat 97, Char.ofNat 116] :: t) = ([], [Char.ofNat 99, Char.ofNat 117, Char.ofNat 116] :: [Char.ofNat 97, Char.ofNat 116] :: t) := by kernel_rfl
theorem laysLater_at : Try.pinned.checked.prog.laysLater = false := by kernel_rfl
theorem bearsReflect_at : Try.pinned.checked.prog.bearsReflect = false := by kernel_rfl
theorem doorFits_at : Try.pinned.checked.prog.doorFits [] = true := by kernel_rfl
theorem mayEnter_at : Try.pinned.checked.prog.mayEnter = true :=
  mayEnter_of _ _ _ (by kernel_rfl) (by kernel_rfl) (by kernel_rfl) behind_all (by rw [strip_at]; generalize wordsSigns tailSigns = t; kernel_rfl) laysLater_at bearsReflect_at (by rw [strip_at]; exact doorFits_at) (by rw [strip_at]; rfl)
theorem liftsFinal_at : Try.pinned.checked.prog.liftsFinal = false :=
  liftsFinal_of _ _ _ (by kernel_rfl) behind_all (by rw [strip_at]; generalize wordsSigns tailSigns = t; kernel_rfl) (by rw [strip_at]; rfl)
theorem make_at : Try.pinned.checked.prog.make = some .cut := make_of _ _ _ (by kernel_rfl) (by kernel_rfl) (by kernel_rfl) behind_all
end Go.Proofs.Ytmkhhnfmahdijaa.Y
