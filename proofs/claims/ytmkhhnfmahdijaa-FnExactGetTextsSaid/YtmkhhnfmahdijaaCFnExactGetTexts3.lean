/- The law FnExactGetTexts, as a plain statement: the program's GetTexts answers as the reference's, leaves its argument alone and shares no memory. Conditions: those of the row's reading alone. -/
/- Part 4 of 5 of this claim's texts. -/
import Derived.Test.YtmkhhnfmahdijaaWWords
import Derived.Deep.Slices
import Derived.ChangeArms
import Derived.WideShapes
import Derived.DataReads
import Derived.Test.YtmkhhnfmahdijaaRows
import Derived.WalkKit
import Derived.ProofKit
import Derived.Test.YtmkhhnfmahdijaaCFnExactGetTexts0
import Derived.Test.YtmkhhnfmahdijaaCFnExactGetTexts1
import Derived.Test.YtmkhhnfmahdijaaCFnExactGetTexts2
/- What GetNum computes, the program's and the reference's, step by step: the same. No Go, no memory. -/
set_option linter.unusedVariables false
namespace Go.Proofs.Ytmkhhnfmahdijaa.Z
open Go.RowKit Go.Proofs.YtmkhhnfmahdijaaW.PrintWords Go.Proofs.YtmkhhnfmahdijaaW.PrintMore Go.Proofs.Ytmkhhnfmahdijaa.X

theorem or_comm64 (k : IntKind) (a b : Int) : Go.bits .or k a b = Go.bits .or k b a := by simp [Go.bits, BitVec.or_comm]
theorem and127 {c : Int} (hc : 0 ≤ c ∧ c ≤ 255) : Go.bits .and .i64 (wrap64 c) 127 = c % 128 := by
  rw [w64 (by omega)]
  exact bits_mask .i64 63 (by decide) wraps_i64 7 (by decide) c hc.1 (by omega)
theorem shl_at {y : Int} {i : Nat} (hi : i < 5) (hy : 0 ≤ y ∧ y < 128) : shl .i64 y (IntKind.u64.wrap (wrap64 (7 * (i : Int)))) = y * 2 ^ (7 * i) := by
  have h : i = 0 ∨ i = 1 ∨ i = 2 ∨ i = 3 ∨ i = 4 := by omega
  rcases h with rfl | rfl | rfl | rfl | rfl
  all_goals
    unfold shl
    rw [wi64]
    simp [IntKind.wrap, IntKind.bits, IntKind.signed, wrap64]
    omega
theorem gn_step {c n : Int} {i : Nat} (hi : i < 5) (hc : 0 ≤ c ∧ c ≤ 255) (hn : 0 ≤ n ∧ n < 2 ^ (7 * i)) :
    Go.bits .or .i64 n (shl .i64 (Go.bits .and .i64 (wrap64 c) 127) (IntKind.u64.wrap (wrap64 (7 * (i : Int))))) = n + (c % 128) * 2 ^ (7 * i) := by
  rw [and127 hc, shl_at hi (by omega), or_comm64]
  have hm : 0 ≤ c % 128 ∧ c % 128 < 128 := by omega
  generalize c % 128 = y at hm
  have h : i = 0 ∨ i = 1 ∨ i = 2 ∨ i = 3 ∨ i = 4 := by omega
  rcases h with rfl | rfl | rfl | rfl | rfl
  all_goals
    rw [bits_join .i64 63 (by decide) wraps_i64 _ _ _ (by omega) (by simp) (by omega) hn.1 hn.2 (by omega)]
    omega
theorem pow_next {n y : Int} {i : Nat} (hi : i < 5) (hn : 0 ≤ n ∧ n < 2 ^ (7 * i)) (hy : 0 ≤ y ∧ y < 128) : 0 ≤ n + y * 2 ^ (7 * i) ∧ n + y * 2 ^ (7 * i) < 2 ^ (7 * (i + 1)) := by
  have h : i = 0 ∨ i = 1 ∨ i = 2 ∨ i = 3 ∨ i = 4 := by omega
  rcases h with rfl | rfl | rfl | rfl | rfl <;> omega
theorem u64_ok {i : Nat} (hi : i < 5) : 0 ≤ IntKind.u64.wrap (wrap64 (7 * (i : Int))) := by
  rw [w64 (by omega), wu64 (by omega)]
  omega

/-- What an answer of GetNum is. -/
def GetOk (len : Nat) (a : Int) (r : Int × Int × Bool) : Prop := r = (0, 0, false) ∨ r.2.2 = true ∧ 0 ≤ r.1 ∧ r.1 ≤ 1000000000 ∧ a < r.2.1 ∧ r.2.1 ≤ len ∧ 0 ≤ a
theorem rd_byte {b : List Int} (hb : ∀ x ∈ b, (Lit.int .u8 x).wf = true) (i : Int) : 0 ≤ rd b i ∧ rd b i ≤ 255 := by
  unfold rd
  rcases Nat.lt_or_ge i.toNat b.length with h | h
  · have h1 := hb _ (List.getElem_mem h)
    rw [List.getD_eq_getElem?_getD, List.getElem?_eq_getElem h]
    simp [Lit.wf, IntKind.min, IntKind.max, IntKind.signed, IntKind.bits] at h1
    simp
    omega
  · rw [List.getD_eq_getElem?_getD, List.getElem?_eq_none h]
    simp

theorem gn_both (b : List Int) (hb : ∀ x ∈ b, (Lit.int .u8 x).wf = true) (hl : b.length ≤ 140737488355328) (a : Nat) (d : Nat) : ∀ (i : Nat) (n : Int), i + d = 5 → a < b.length → 0 ≤ n ∧ n < 2 ^ (7 * i) →
    ∃ r, Ev (fun k => spec_GetNum.l0 k b (a : Int) n (i : Int)) r ∧ Ev (fun k => impl_GetNum.l0 k b ((a + i : Nat) : Int) n (i : Int)) r ∧ GetOk b.length a r := by
  induction d with
  | zero =>
    intro i n hi ha hn
    refine ⟨(0, 0, false), ?_, ?_, .inl rfl⟩
    · exact evS (fun k => by rw [spec_GetNum.l0]) (evF (by omega) (evS (fun k => by rw [spec_GetNum.j1]) (evF (by simp) (evR rfl))))
    · exact evS (fun k => by rw [impl_GetNum.l0]) (evF (by omega) (evS (fun k => by rw [impl_GetNum.j1]) (evF (by simp) (evR rfl))))
  | succ d ih =>
    intro i n hi ha hn
    have hw : wrap64 ((a : Int) + (i : Int)) = ((a + i : Nat) : Int) := by rw [w64 (by omega)]; omega
    by_cases hp : a + i < b.length
    · have hc := rd_byte hb ((a + i : Nat) : Int)
      have hv := gn_step (i := i) (by omega) hc hn
      have hN := pow_next (i := i) (y := rd b ((a + i : Nat) : Int) % 128) (by omega) hn (by omega)
      have hu := u64_ok (i := i) (by omega)
      have hwc : wrap64 (rd b ((a + i : Nat) : Int)) = rd b ((a + i : Nat) : Int) := w64 (by omega)
      have hs1 : ∀ r, Ev (fun k => spec_GetNum.j1 k b (a : Int) n (i : Int) true) r → Ev (fun k => spec_GetNum.l0 k b (a : Int) n (i : Int)) r := by
        intro r h
        refine evS (fun k => by rw [spec_GetNum.l0]) (evT (by omega) (evT (by omega) (evT (by omega) ?_)))
        rw [hw, decide_eq_true (by omega)]
        exact h
      have hi1 : ∀ r, Ev (fun k => impl_GetNum.j1 k b ((a + i : Nat) : Int) n (i : Int) true) r → Ev (fun k => impl_GetNum.l0 k b ((a + i : Nat) : Int) n (i : Int)) r := by
        intro r h
        refine evS (fun k => by rw [impl_GetNum.l0]) (evT (by omega) ?_)
        rw [decide_eq_true (by omega)]
        exact h
      generalize hN' : n + rd b ((a + i : Nat) : Int) % 128 * 2 ^ (7 * i) = N at *
      by_cases h1 : rd b ((a + i : Nat) : Int) > 127
      · obtain ⟨r, e1, e2, g⟩ := ih (i + 1) N (by omega) ha hN
        refine ⟨r, hs1 r ?_, hi1 r ?_, g⟩
        · refine evS (fun k => by rw [spec_GetNum.j1]) (evT rfl ?_)
          rw [hw]
          refine evT (by omega) (evT (by omega) (evT hu ?_))
          rw [hv, hwc, w64s (show i < 6 by omega) (by omega)]
          exact evT h1 e1
        · refine evS (fun k => by rw [impl_GetNum.j1]) (evT rfl (evT (by omega) (evT (by omega) (evT hu ?_))))
          rw [hv, hwc, w64s (show i < 6 by omega) (by omega), w64s (show a + i < b.length by omega) (by omega)]
          exact evF (by omega) e2
      · have hgen : ∀ r : Int × Int × Bool, (if (rd b ((a + i : Nat) : Int) = 0 ∧ 0 < i) ∨ N > 1000000000 then ((0 : Int), (0 : Int), false) else (N, ((a + i + 1 : Nat) : Int), true)) = r →
            Ev (fun k => spec_GetNum.l0 k b (a : Int) n (i : Int)) r ∧ Ev (fun k => impl_GetNum.l0 k b ((a + i : Nat) : Int) n (i : Int)) r := by
          intro r hr
          refine ⟨hs1 r ?_, hi1 r ?_⟩
          · refine evS (fun k => by rw [spec_GetNum.j1]) (evT rfl ?_)
            rw [hw]
            refine evT (by omega) (evT (by omega) (evT hu ?_))
            rw [hv, hwc, w64s (show a + i < b.length by omega) (by omega)]
            refine evF h1 (evI (fun h2 => evI (fun h3 => ?_) (fun h3 => evI (fun h4 => ?_) (fun h4 => ?_))) (fun h2 => evI (fun h4 => ?_) (fun h4 => ?_)))
            · rw [if_pos (.inl ⟨h3, by omega⟩)] at hr
              exact evR hr
            · rw [if_pos (.inr h4)] at hr
              exact evR hr
            · rw [if_neg (by omega)] at hr
              exact evR hr
            · rw [if_pos (.inr h4)] at hr
              exact evR hr
            · rw [if_neg (by omega)] at hr
              exact evR hr
          · refine evS (fun k => by rw [impl_GetNum.j1]) (evT rfl (evT (by omega) (evT (by omega) (evT hu ?_))))
            rw [hv, hwc, w64s (show a + i < b.length by omega) (by omega)]
            refine evT (by omega) (evI (fun h3 => evI (fun h2 => ?_) (fun h2 => evI (fun h4 => ?_) (fun h4 => ?_))) (fun h3 => evI (fun h4 => ?_) (fun h4 => ?_)))
            · rw [if_pos (.inl ⟨h3, by omega⟩)] at hr
              exact evR hr
            · rw [if_pos (.inr h4)] at hr
              exact evR hr
            · rw [if_neg (by omega)] at hr
              exact evR hr
            · rw [if_pos (.inr h4)] at hr
              exact evR hr
            · rw [if_neg (by omega)] at hr
              exact evR hr
        obtain ⟨e1, e2⟩ := hgen _ rfl
        refine ⟨_, e1, e2, ?_⟩
        split
        · exact .inl rfl
        · exact .inr ⟨rfl, by show 0 ≤ N; omega, by show N ≤ _; omega, by show (a : Int) < ((a + i + 1 : Nat) : Int); omega, by show ((a + i + 1 : Nat) : Int) ≤ _; omega, by omega⟩
    · refine ⟨(0, 0, false), ?_, ?_, .inl rfl⟩
      · refine evS (fun k => by rw [spec_GetNum.l0]) (evT (by omega) (evT (by omega) (evT (by omega) ?_)))
        rw [hw, decide_eq_false (by omega)]
        exact evS (fun k => by rw [spec_GetNum.j1]) (evF (by simp) (evR rfl))
      · refine evS (fun k => by rw [impl_GetNum.l0]) (evT (by omega) ?_)
        rw [decide_eq_false (by omega)]
        exact evS (fun k => by rw [impl_GetNum.j1]) (evF (by simp) (evR rfl))
theorem getNum_both (b : List Int) (hb : ∀ x ∈ b, (Lit.int .u8 x).wf = true) (hl : b.length ≤ 140737488355328) (a : Int) :
    ∃ r, Ev (fun k => spec_GetNum.f k b a) r ∧ Ev (fun k => impl_GetNum.f k b a) r ∧ GetOk b.length a r := by
  have hlen : wrap64 ((b.length : Int) - 1) = (b.length : Int) - 1 := w64 (by omega)
  by_cases h : 0 ≤ a ∧ a < b.length
  · obtain ⟨p, rfl⟩ := Int.eq_ofNat_of_zero_le h.1
    obtain ⟨r, e1, e2, g⟩ := gn_both b hb hl p 5 0 0 rfl (by omega) (by decide)
    refine ⟨r, e1, ?_, g⟩
    unfold impl_GetNum.f impl_inRange.f
    rw [hlen]
    refine evC (a := true) ?_ (evT rfl e2)
    rw [if_pos (by omega), decide_eq_true (by omega)]
  · refine ⟨(0, 0, false), ?_, ?_, .inl rfl⟩
    · unfold spec_GetNum.f
      have hj : Ev (fun k => spec_GetNum.j1 k b a 0 0 false) ((0 : Int), (0 : Int), false) := evS (fun k => by rw [spec_GetNum.j1]) (evF (by simp) (evR rfl))
      refine evS (fun k => by rw [spec_GetNum.l0]) (evT (by omega) (evI (fun h0 => evF (by omega) hj) (fun _ => hj)))
    · unfold impl_GetNum.f impl_inRange.f
      rw [hlen]
      refine evC (a := false) ?_ (evF (by simp) (evR rfl))
      by_cases h0 : a ≥ 0
      · rw [if_pos h0, decide_eq_false (by omega)]
      · rw [if_neg h0]
end Go.Proofs.Ytmkhhnfmahdijaa.Z

/- What GetText and GetTexts compute, the program's and the reference's: the same. No Go, no memory. -/
set_option linter.unusedVariables false
namespace Go.Proofs.Ytmkhhnfmahdijaa.Z
open Go.RowKit Go.Proofs.YtmkhhnfmahdijaaW.PrintWords Go.Proofs.YtmkhhnfmahdijaaW.PrintMore Go.Proofs.Ytmkhhnfmahdijaa.X

/-- What an answer of GetText is. -/
def TextOk (len : Nat) (a : Int) (r : ByteArray × Int × Bool) : Prop := r.2.2 = false ∨ r.2.2 = true ∧ a < r.2.1 ∧ r.2.1 ≤ len
/-- GetText out of GetNum's answer. -/
def textOf (b : List Int) (r : Int × Int × Bool) : ByteArray × Int × Bool :=
  if r.2.2 = true then (if r.1 > (b.length : Int) - r.2.1 then ((⟨#[]⟩ : ByteArray), 0, false) else (strOfNums ((b.take (r.2.1 + r.1).toNat).drop r.2.1.toNat), r.2.1 + r.1, true)) else ((⟨#[]⟩ : ByteArray), 0, false)
theorem textOf_ok {b : List Int} {a : Int} {r : Int × Int × Bool} (g : GetOk b.length a r) : TextOk b.length a (textOf b r) := by
  unfold textOf
  split
  · rename_i h
    rcases g with rfl | ⟨_, g1, g2, g3, g4, g5⟩
    · cases h
    · split
      · exact .inl rfl
      · exact .inr ⟨rfl, by show a < r.2.1 + r.1; omega, by show r.2.1 + r.1 ≤ _; omega⟩
  · exact .inl rfl
theorem specText_of {b : List Int} (hl : b.length ≤ 140737488355328) {a : Int} {r : Int × Int × Bool} (h : Ev (fun k => spec_GetNum.f k b a) r) (g : GetOk b.length a r) : Ev (fun k => spec_GetText.f k b a) (textOf b r) := by
  unfold spec_GetText.f
  refine evB h ?_
  unfold textOf
  rcases g with rfl | ⟨g0, g1, g2, g3, g4, g5⟩
  · exact evF (by simp) (evR rfl)
  · have h1 : wrap64 ((b.length : Int) - r.2.1) = (b.length : Int) - r.2.1 := w64 (by omega)
    rw [h1]
    refine evT g0 (evI (fun h2 => ?_) (fun h2 => ?_))
    · exact evR (by rw [if_pos g0, if_pos h2])
    · by_cases h3 : 0 ≤ r.2.1
      · have h4 : wrap64 (r.2.1 + r.1) = r.2.1 + r.1 := w64 (by omega)
        rw [h4]
        exact evT h3 (evT (by omega) (evT (by omega) (evR (by rw [if_pos g0, if_neg h2]))))
      · exfalso
        omega
theorem implText_of {b : List Int} (hl : b.length ≤ 140737488355328) {a : Int} {r : Int × Int × Bool} (h : Ev (fun k => impl_GetNum.f k b a) r) (g : GetOk b.length a r) : Ev (fun k => impl_GetText.f k b a) (textOf b r) := by
  unfold impl_GetText.f
  refine evB h ?_
  unfold textOf
  rcases g with rfl | ⟨g0, g1, g2, g3, g4, g5⟩
  · exact evF (by simp) (evR rfl)
  · have h1 : wrap64 ((b.length : Int) - r.2.1) = (b.length : Int) - r.2.1 := w64 (by omega)
    rw [h1]
    refine evT g0 (evI (fun h2 => ?_) (fun h2 => ?_))
    · exact evR (by rw [if_pos g0, if_pos h2])
    · by_cases h3 : 0 ≤ r.2.1
      · have h4 : wrap64 (r.2.1 + r.1) = r.2.1 + r.1 := w64 (by omega)
        rw [h4]
        exact evT h3 (evT (by omega) (evT (by omega) (evR (by rw [if_pos g0, if_neg h2]))))
      · exfalso
        omega
theorem getText_both (b : List Int) (hb : ∀ x ∈ b, (Lit.int .u8 x).wf = true) (hl : b.length ≤ 140737488355328) (a : Int) :
    ∃ r, Ev (fun k => spec_GetText.f k b a) r ∧ Ev (fun k => impl_GetText.f k b a) r ∧ TextOk b.length a r := by
  obtain ⟨r, e1, e2, g⟩ := getNum_both b hb hl a
  exact ⟨_, specText_of hl e1 g, implText_of hl e2 g, textOf_ok g⟩
end Go.Proofs.Ytmkhhnfmahdijaa.Z

/- What GetTexts computes, the program's and the reference's: the same. No Go, no memory. -/
set_option linter.unusedVariables false
namespace Go.Proofs.Ytmkhhnfmahdijaa.Z
open Go.RowKit Go.Proofs.YtmkhhnfmahdijaaW.PrintWords Go.Proofs.YtmkhhnfmahdijaaW.PrintMore Go.Proofs.Ytmkhhnfmahdijaa.X

theorem gts_both (b : List Int) (hb : ∀ x ∈ b, (Lit.int .u8 x).wf = true) (hl : b.length ≤ 140737488355328) (n : Nat) (hn : n ≤ 200) (d : Nat) : ∀ (i : Nat) (p : Int) (acc : List ByteArray), i + d = n → acc.length = i → -9223372036854775808 ≤ p →
    ∃ r, Ev (fun k => spec_GetTexts.l0 k b (n : Int) p acc (i : Int)) r ∧ Ev (fun k => impl_GetTexts.l0 k b p acc (n : Int) (i : Int)) r ∧ r.1.length ≤ 200 := by
  induction d with
  | zero =>
    intro i p acc hi ha hp
    exact ⟨(acc, p, true), evS (fun k => by rw [spec_GetTexts.l0]) (evF (by omega) (evR rfl)), evS (fun k => by rw [impl_GetTexts.l0]) (evF (by omega) (evR rfl)), by show acc.length ≤ 200; omega⟩
  | succ d ih =>
    intro i p acc hi ha hp
    obtain ⟨t, e1, e2, g⟩ := getText_both b hb hl p
    by_cases ht : t.2.2 = true
    · have hp2 : -9223372036854775808 ≤ t.2.1 := by
        rcases g with g | ⟨_, g, _⟩
        · rw [g] at ht
          cases ht
        · omega
      obtain ⟨r, e3, e4, h⟩ := ih (i + 1) t.2.1 (acc ++ [t.1]) (by omega) (by simp; omega) hp2
      refine ⟨r, ?_, ?_, h⟩
      · refine evS (fun k => by rw [spec_GetTexts.l0]) (evT (by omega) (evB e1 ?_))
        refine evT ht (evT (by omega) ?_)
        rw [w64s (show i < n by omega) (by omega)]
        exact e3
      · refine evS (fun k => by rw [impl_GetTexts.l0]) (evT (by omega) (evB e2 ?_))
        refine evT ht (evT (by omega) ?_)
        rw [w64s (show i < n by omega) (by omega)]
        exact e4
    · exact ⟨(([] : List ByteArray), 0, false), evS (fun k => by rw [spec_GetTexts.l0]) (evT (by omega) (evB e1 (evF ht (evR rfl)))), evS (fun k => by rw [impl_GetTexts.l0]) (evT (by omega) (evB e2 (evF ht (evR rfl)))), by show 0 ≤ 200; omega⟩
theorem getTexts_both (b : List Int) (hb : ∀ x ∈ b, (Lit.int .u8 x).wf = true) (hl : b.length ≤ 140737488355328) (a : Int) :
    ∃ r, Ev (fun k => spec_GetTexts.f k b a) r ∧ Ev (fun k => impl_GetTexts.f k b a) r ∧ r.1.length ≤ 200 := by
  obtain ⟨t, e1, e2, g⟩ := getNum_both b hb hl a
  have hS : ∀ n p, Ev (fun k => spec_GetTexts.j0 k b n p true) (([] : List ByteArray), (0 : Int), false) := fun n p => evS (fun k => by rw [spec_GetTexts.j0]) (evT rfl (evR rfl))
  have hI : ∀ n p, Ev (fun k => impl_GetTexts.j0 k b n p true) (([] : List ByteArray), (0 : Int), false) := fun n p => evS (fun k => by rw [impl_GetTexts.j0]) (evT rfl (evR rfl))
  by_cases ht : t.2.2 = true
  · have g' : 0 ≤ t.1 ∧ a < t.2.1 ∧ 0 ≤ a := by
      rcases g with rfl | ⟨_, g1, _, g2, _, g3⟩
      · cases ht
      · exact ⟨g1, g2, g3⟩
    by_cases hn : t.1 > 200
    · refine ⟨(([] : List ByteArray), 0, false), ?_, ?_, by show 0 ≤ 200; omega⟩
      · unfold spec_GetTexts.f
        refine evB e1 (evT ht ?_)
        rw [decide_eq_true hn]
        exact hS _ _
      · unfold impl_GetTexts.f
        refine evB e2 (evT ht ?_)
        rw [decide_eq_true hn]
        exact hI _ _
    · obtain ⟨n, hn'⟩ := Int.eq_ofNat_of_zero_le g'.1
      obtain ⟨r, e3, e4, h⟩ := gts_both b hb hl n (by omega) n 0 t.2.1 [] (by omega) rfl (by omega)
      have e3' : Ev (fun k => spec_GetTexts.l0 k b (n : Int) t.2.1 [] 0) r := e3
      have e4' : Ev (fun k => impl_GetTexts.l0 k b t.2.1 [] (n : Int) 0) r := e4
      refine ⟨r, ?_, ?_, h⟩
      · unfold spec_GetTexts.f
        refine evB e1 (evT ht ?_)
        rw [decide_eq_false hn, hn']
        exact evS (fun k => by rw [spec_GetTexts.j0]) (evF Bool.false_ne_true e3')
      · unfold impl_GetTexts.f
        refine evB e2 (evT ht ?_)
        rw [decide_eq_false hn, hn']
        exact evS (fun k => by rw [impl_GetTexts.j0]) (evF Bool.false_ne_true e4')
  · refine ⟨(([] : List ByteArray), 0, false), ?_, ?_, by show 0 ≤ 200; omega⟩
    · unfold spec_GetTexts.f
      exact evB e1 (evF ht (hS _ _))
    · unfold impl_GetTexts.f
      exact evB e2 (evF ht (hI _ _))
end Go.Proofs.Ytmkhhnfmahdijaa.Z

/- The law FnExactGetTexts, as a plain statement: the program's GetTexts answers as the reference's, leaves its argument alone and shares no memory. Conditions: those of the row's reading alone. -/
namespace Go.Proofs.Ytmkhhnfmahdijaa.Pure
open Go.RowKit Go.Proofs.Ytmkhhnfmahdijaa.X Go.Proofs.Ytmkhhnfmahdijaa.Z Go.Proofs.YtmkhhnfmahdijaaW.PrintWords Go.Proofs.YtmkhhnfmahdijaaW.PrintLast
theorem FnExactGetTexts : laws_FnExactGetTexts.Pure := by
  intro l0 a1 h1 h2 h3 h4
  refine Ev.rounds ?_
  unfold laws_FnExactGetTexts.f
  refine evI (fun _ => evR rfl) (fun hl => ?_)
  have hT := toByteS_ev l0 (by omega)
  obtain ⟨r, hS, hI, hn⟩ := getTexts_both l0 h3 (by omega) a1
  have hE := eqStringS_same r.1 (by omega)
  have hM := markStringS_ev r.1 1 (by omega) (by omega)
  have hH := heldStringS_ev r.1.length 1 (by omega) (by omega)
  have h0 := eqByteS_same l0 (by omega)
  have hM0 := markByteS_ev l0 1 (by omega) (by omega)
  refine evB hT (evB hS (evB hT (evB hI (evB hE (evT rfl (evT rfl ?_))))))
  rw [bne_self_eq_false]
  refine evS (fun k => by rw [laws_FnExactGetTexts.j0]) (evF (by simp) (evB hT (evB h0 (evT rfl (evB hM0 (evNeg (evB hE (evT rfl (evT rfl ?_)))))))))
  rw [bne_self_eq_false]
  refine evS (fun k => by rw [laws_FnExactGetTexts.j1]) (evF (by simp) (evB hM (evB hH (evHeld rfl (evB hT (evB hI (evB hE (evT rfl (evT rfl ?_)))))))))
  rw [bne_self_eq_false]
  exact evS (fun k => by rw [laws_FnExactGetTexts.j2]) (evF (by simp) (evB hH (evHeld rfl (evR rfl))))
end Go.Proofs.Ytmkhhnfmahdijaa.Pure

/- Values that come in as data (strings' slices, structs, slices of structs, nested) are of the printer's kinds: one lemma a make of type. Plain lemmas for the rows of laws over such parameters. No conditions beyond what each lemma names. -/
set_option linter.unusedVariables false
namespace Go.Proofs.Ytmkhhnfmahdijaa.Y
open Go.RowKit Go.Proofs.YtmkhhnfmahdijaaW.PrintWords Go.ChangeShapes Go.WideShapes Go.Deep

/-- What is read as data of type T is of kind d, and G holds of what it says. -/
def Opn {α : Type} (P : Program) (d : Kd α) (T : TypeId) (G : α → Prop) : Prop :=
  ∀ {H : Type} (enc : TypeId × Value → H) (w : World) (spare : Nat → Bool) (held : Bool) (fuel : Nat) (cs : List Value) (x : DataW H × List MemPlace), DataW.trod enc P w 0 spare held fuel T cs = some x → ∃ y, d.K w y cs ∧ G y

theorem Opn.int {P : Program} {T : TypeId} {k : IntKind} (h : P.underlying T = some (.int k)) : Opn P (Kd.int k) T (fun n => (Lit.int k n).wf = true) := by
  intro H enc w spare held fuel cs x hx
  obtain ⟨n, rfl, _, hn⟩ := DataW.trod_int h hx
  exact ⟨n, rfl, hn⟩
theorem Opn.bool {P : Program} {T : TypeId} (h : P.underlying T = some .bool) : Opn P Kd.bool T (fun _ => True) := by
  intro H enc w spare held fuel cs x hx
  obtain ⟨n, rfl, _⟩ := DataW.trod_bool h hx
  exact ⟨n, rfl, trivial⟩
theorem Opn.string {P : Program} {T : TypeId} (h : P.underlying T = some .string) : Opn P Kd.string T (fun s => s.size ≤ maxLen) := by
  intro H enc w spare held fuel cs x hx
  obtain ⟨s, rfl, _, hs⟩ := DataW.trod_string h hx
  exact ⟨s, rfl, hs⟩
theorem Opn.slice {α : Type} {P : Program} {d : Kd α} {T e : TypeId} {G : α → Prop} [Inhabited α] (h : P.underlying T = some (.slice e)) (he : P.cellsOf e = d.sz) (ho : Opn P d e G) :
    Opn P (Kd.slice e d) T (fun l => l.length ≤ maxLen ∧ ∀ y, y ∈ l → G y) := by
  intro H enc w spare held fuel cs x hx
  rcases open_slice h hx with ⟨rfl, _⟩ | ⟨a, len, cap, m, n, D, Pl, rfl, _, hl, hm, hmm, _, hel⟩
  · exact ⟨[], ⟨none, 0, rfl, Nat.le_refl _, rfl, by simp, fun hn => absurd hn (Nat.lt_irrefl 0)⟩, by simp, fun y hy => by cases hy⟩
  · have hlm : len ≤ m := by rw [hmm]; split <;> omega
    have each : ∀ i, i < len → ∃ y, (∃ c, c.length = d.sz ∧ d.K w y c ∧ ∀ j u, c[j]? = some u → w.cell? (a.add (i * d.sz + j)) = some u) ∧ G y := by
      intro i hi
      obtain ⟨c, hc, ht⟩ := hel i (by omega)
      obtain ⟨y, hk, hg⟩ := ho enc w spare held n c _ ht
      obtain ⟨_, hlen, hcell⟩ := World.cells?_some hc
      refine ⟨y, ⟨c, hlen.trans he, hk, fun j u hu => ?_⟩, hg⟩
      have hj : j < P.cellsOf e := by rw [← hlen]; exact (List.getElem?_eq_some_iff.1 hu).1
      have := hcell j hj
      rw [Go.Deep.add_add, hu, he] at this
      exact this
    obtain ⟨f, hf⟩ := choose_lt each
    have hlen : ((List.range len).map f).length = len := by simp
    have hm' : len ≤ maxLen := Nat.le_trans hl hm
    refine ⟨(List.range len).map f, ⟨some a, cap, by rw [hlen], by rw [hlen]; exact hl, by rw [hlen], by rw [hlen]; unfold maxLen at hm'; exact hm', fun _ => ⟨a, rfl, fun j p hp => ?_⟩⟩, by rw [hlen]; exact hm', fun y hy => ?_⟩
    · obtain ⟨hj, rfl⟩ := List.getElem?_eq_some_iff.1 hp
      rw [hlen] at hj
      simp only [List.getElem_map, List.getElem_range]
      exact (hf j hj).1
    · obtain ⟨i, hi, rfl⟩ := List.mem_map.1 hy
      exact (hf i (List.mem_range.1 hi)).2

/-- The fields from cell 'off' on. -/
def FOpn {α : Type} (P : Program) (d : Kd α) (off : Nat) (fs : List Field) (G : α → Prop) : Prop :=
  ∀ {H : Type} (enc : TypeId × Value → H) (w : World) (spare : Nat → Bool) (held : Bool) (fuel : Nat) (cs : List Value),
    (∀ f, f ∈ fs → ∃ x, DataW.trod enc P w 0 spare held fuel f.type ((cs.drop f.offset).take (P.cellsOf f.type)) = some x) → cs.length = off + d.sz → ∃ y, d.K w y (cs.drop off) ∧ G y
theorem FOpn.one {α : Type} {P : Program} {d : Kd α} {off : Nat} {f : Field} {G : α → Prop} (hf : f.offset = off) (hc : P.cellsOf f.type = d.sz) (ho : Opn P d f.type G) : FOpn P d off [f] G := by
  intro H enc w spare held fuel cs hx hl
  obtain ⟨x, hx⟩ := hx f (by simp)
  rw [hf, hc, List.take_of_length_le (by simp; omega)] at hx
  exact ho enc w spare held fuel _ x hx
theorem FOpn.cons {α β : Type} {P : Program} {d : Kd α} {d' : Kd β} {off : Nat} {f : Field} {fs : List Field} {G : α → Prop} {G' : β → Prop} (hf : f.offset = off) (hc : P.cellsOf f.type = d.sz) (ho : Opn P d f.type G)
    (hs : FOpn P d' (off + d.sz) fs G') : FOpn P (Kd.pair d d') off (f :: fs) (fun y => G y.1 ∧ G' y.2) := by
  intro H enc w spare held fuel cs hx hl
  have hl' : cs.length = off + (d.sz + d'.sz) := hl
  obtain ⟨x, h1⟩ := hx f (by simp)
  rw [hf, hc] at h1
  obtain ⟨y, hy, gy⟩ := ho enc w spare held fuel _ x h1
  obtain ⟨z, hz, gz⟩ := hs enc w spare held fuel cs (fun g hg => hx g (List.mem_cons_of_mem _ hg)) (by omega)
  refine ⟨(y, z), ⟨_, _, ?_, hy, hz⟩, gy, gz⟩
  rw [← List.drop_drop, List.take_append_drop]
theorem Opn.struct {α β : Type} {P : Program} {d : Kd α} {T : TypeId} {fs : Array Field} {fl : List Field} {G : α → Prop} {G' : β → Prop} {proj : β → α} (mk : α → β) (h : P.underlying T = some (.struct fs)) (hfl : fs.toList = fl) (hc : P.cellsOf T = d.sz)
    (hmk : ∀ y, proj (mk y) = y) (hG : ∀ y, G y → G' (mk y)) (hs : FOpn P d 0 fl G) : Opn P (Kd.iso d proj) T G' := by
  intro H enc w spare held fuel cs x hx
  obtain ⟨xs, n, rfl, _, hlen, hxs, hall⟩ := DataW.trod_struct h hx
  obtain ⟨y, hy, gy⟩ := hs enc w spare held n cs (fun f hf => by
    rw [← hfl] at hf
    obtain ⟨i, hi, he⟩ := List.getElem_of_mem hf
    have hi' : i < fs.size := by simpa using hi
    have h1 : fs[i]? = some f := by rw [Array.getElem?_eq_getElem hi']; simpa using he
    exact ⟨_, (hall i f h1).trans (List.getElem?_eq_getElem (by omega))⟩) (by rw [hlen, hc, Nat.zero_add])
  refine ⟨mk y, ?_, hG y gy⟩
  show d.K w (proj (mk y)) cs
  rw [hmk]
  exact hy

/-- A parameter that is a slice. -/
theorem Opn.arg_slice {α : Type} {P : Program} {d : Kd α} {T e : TypeId} {G : α → Prop} [Inhabited α] (h : P.underlying T = some (.slice e)) (he : P.cellsOf e = d.sz) (ho : Opn P d e G)
    {H : Type} {enc : TypeId × Value → H} {w : World} {spare : Nat → Bool} {held : Bool} {v : Value} {D : DataW H} {ps : List MemPlace} {r : Reach} {b : Nat} (hv : Value.okWide P w r b T v) (hx : DataW.Trod enc P w 0 spare held T v D ps) :
    ∃ (A : Option Addr) (c : Nat) (l : List α), v = .slice A l.length c ∧ l.length ≤ c ∧ d.C w A l.length l ∧ l.length ≤ maxLen ∧ ∀ y, y ∈ l → G y := by
  obtain ⟨a, len, cap, rfl⟩ := okWide_slice h hv
  obtain ⟨fuel, hf⟩ := hx
  obtain ⟨l, ⟨A, c, hcs, hlc, hC⟩, hg1, hg2⟩ := Opn.slice h he ho enc w spare held fuel _ _ hf
  have hcs' : [Value.slice a len cap] = [Value.slice A l.length c] := hcs
  injection hcs' with h1 _
  exact ⟨A, c, l, h1, hlc, hC, hg1, hg2⟩
/-- A parameter that is a struct. -/
theorem Opn.arg_struct {α : Type} {P : Program} {d : Kd α} {T : TypeId} {G : α → Prop} {fs : Array Field} (hu : P.underlying T = some (.struct fs)) (ho : Opn P d T G)
    {H : Type} {enc : TypeId × Value → H} {w : World} {spare : Nat → Bool} {held : Bool} {v : Value} {D : DataW H} {ps : List MemPlace} {r : Reach} {b : Nat} (hv : Value.okWide P w r b T v) (hx : DataW.Trod enc P w 0 spare held T v D ps) :
    ∃ (cs : List Value) (y : α), v = .agg cs.toArray ∧ d.K w y cs ∧ G y := by
  obtain ⟨cs, rfl, _⟩ := okWide_struct hu hv
  obtain ⟨fuel, hf⟩ := hx
  obtain ⟨y, hk, hg⟩ := ho enc w spare held fuel _ _ hf
  exact ⟨cs.toList, y, by simp, hk, hg⟩
end Go.Proofs.Ytmkhhnfmahdijaa.Y

/- Three closed facts of the rows of this seat (how the program may be entered), by the first words of the translation's head row. No conditions. -/
namespace Go.Proofs.Ytmkhhnfmahdijaa.Y
open Go.ChangeShapes Go.WideShapes Go.ChangeAt Go.RowKit
def tailSigns : List Char := [Char.ofNat 108, Char.ofNat 111, Char.ofNat 111, Char.ofNat 112, Char.ofNat 46, Char.ofNat 101, Char.ofNat 120, Char.ofNat 97, Char.ofNat 109, Char.ofNat 112, Char.ofNat 108, Char.ofNat 101, Char.ofNat 47, Char.ofNat 103, Char.ofNat 48, Char.ofNat 48, Char.ofNat 50, Char.ofNat 51, Char.ofNat 51, Char.ofNat 47, Char.ofNat 108, Char.ofNat 97, Char.ofNat 119, Char.ofNat 115, Char.ofNat 46, Char.ofNat 70, Char.ofNat 110, Char.ofNat 69, Char.ofNat 120, Char.ofNat 97, Char.ofNat 99, Char.ofNat 116, Char.ofNat 67, Char.ofNat 111, Char.ofNat 110, Char.ofNat 115, Char.ofNat 116, Char.ofNat 97, Char.ofNat 110, Char.ofNat 116, Char.ofNat 115, Char.ofNat 32, Char.ofNat 108, Char.ofNat 111, Char.ofNat 111, Char.ofNat 112, Char.ofNat 46, Char.ofNat 101, Char.ofNat 120, Char.ofNat 97, Char.ofNat 109, Char.ofNat 112, Char.ofNat 108, Char.ofNat 101, Char.ofNat 47, Char.ofNat 103, Char.ofNat 48, Char.ofNat 48, Char.ofNat 50, Char.ofNat 51, Char.ofNat 51, Char.ofNat 47, Char.ofNat 108, Char.ofNat 97, Char.ofNat 119, Char.ofNat 115, Char.ofNat 46, Char.ofNat 70, Char.ofNat 110, Char.ofNat 69, Char.ofNat 120, Char.ofNat 97, Char.ofNat 99, Char.ofNat 116, Char.ofNat 72, Char.ofNat 101, Char.ofNat 120, Char.ofNat 79, Char.ofNat 102, Char.ofNat 32, Char.ofNat 108, Char.ofNat 111, Char.ofNat 111, Char.ofNat 112, Char.ofNat 46, Char.ofNat 101, Char.ofNat 120, Char.ofNat 97, Char.ofNat 109, Char.ofNat 112, Char.ofNat 108, Char.ofNat 101, Char.ofNat 47, Char.ofNat 103, Char.ofNat 48, Char.ofNat 48, Char.ofNat 50, Char.ofNat 51, Char.ofNat 51, Char.ofNat 47, Char.ofNat 108, Char.ofNat 97, Char.ofNat 119, Char.ofNat 115, Char.ofNat 46, Char.ofNat 70, Char.ofNat 110, Char.ofNat 69, Char.ofNat 120, Char.ofNat 97, Char.ofNat 99, Char.ofNat 116, Char.ofNat 85, Char.ofNat 110, Char.ofNat 72, Char.ofNat 101, Char.ofNat 120, Char.ofNat 32, Char.ofNat 108, Char.ofNat 111, Char.ofNat 111, Char.ofNat 112, Char.ofNat 46, Char.ofNat 101, Char.ofNat 120, Char.ofNat 97, Char.ofNat 109, Char.ofNat 112, Char.ofNat 108, Char.ofNat 101, Char.ofNat 47, Char.ofNat 103, Char.ofNat 48, Char.ofNat 48, Char.ofNat 50, Char.ofNat 51, Char.ofNat 51, Char.ofNat 47, Char.ofNat 108, Char.ofNat 97, Char.ofNat 119, Char.ofNat 115, Char.ofNat 46, Char.ofNat 70, Char.ofNat 110, Char.ofNat 69, Char.ofNat 120, Char.ofNat 97, Char.ofNat 99, Char.ofNat 116, Char.ofNat 71, Char.ofNat 101, Char.ofNat 116, Char.ofNat 78, Char.ofNat 117, Char.ofNat 109, Char.ofNat 32, Char.ofNat 108, Char.ofNat 111, Char.ofNat 111, Char.ofNat 112, Char.ofNat 46, Char.ofNat 101, Char.ofNat 120, Char.ofNat 97, Char.ofNat 109, Char.ofNat 112, Char.ofNat 108, Char.ofNat 101, Char.ofNat 47, Char.ofNat 103, Char.ofNat 48, Char.ofNat 48, Char.ofNat 50, Char.ofNat 51, Char.ofNat 51, Char.ofNat 47, Char.ofNat 108, Char.ofNat 97, Char.ofNat 119, Char.ofNat 115, Char.ofNat 46, Char.ofNat 70, Char.ofNat 110, Char.ofNat 69, Char.ofNat 120, Char.ofNat 97, Char.ofNat 99, Char.ofNat 116, Char.ofNat 80, Char.ofNat 97, Char.ofNat 100, Char.ofNat 100, Char.ofNat 101, Char.ofNat 100, Char.ofNat 32, Char.ofNat 108, Char.ofNat 111, Char.ofNat 111, Char.ofNat 112, Char.ofNat 46, Char.ofNat 101, Char.ofNat 120, Char.ofNat 97, Char.ofNat 109, Char.ofNat 112, Char.ofNat 108, Char.ofNat 101, Char.ofNat 47, Char.ofNat 103, Char.ofNat 48, Char.ofNat 48, Char.ofNat 50, Char.ofNat 51, Char.ofNat 51, Char.ofNat 47, Char.ofNat 108, Char.ofNat 97, Char.ofNat 119, Char.ofNat 115, Char.ofNat 46, Char.ofNat 70, Char.ofNat 110, Char.ofNat 69, Char.ofNat 120, Char.ofNat 97, Char.ofNat 99, Char.ofNat 116, Char.ofNat 71, Char.ofNat 101, Char.ofNat 116, Char.ofNat 84, Char.ofNat 101, Char.ofNat 120, Char.ofNat 116, Char.ofNat 32, Char.ofNat 108, Char.ofNat 111, Char.ofNat 111, Char.ofNat 112, Char.ofNat 46, Char.ofNat 101, Char.ofNat 120, Char.ofNat 97, Char.ofNat 109, Char.ofNat 112, Char.ofNat 108, Char.ofNat 101, Char.ofNat 47, Char.ofNat 103, Char.ofNat 48, Char.ofNat 48, Char.ofNat 50, Char.ofNat 51, Char.ofNat 51, Char.ofNat 47, Char.ofNat 108, Char.ofNat 97, Char.ofNat 119, Char.ofNat 115, Char.ofNat 46, Char.ofNat 70, Char.ofNat 110, Char.ofNat 69, Char.ofNat 120, Char.ofNat 97, Char.ofNat 99, Char.ofNat 116, Char.ofNat 80, Char.ofNat 117, Char.ofNat 116, Char.ofNat 78, Char.ofNat 117, Char.ofNat 109, Char.ofNat 32, Char.ofNat 108, Char.ofNat 111, Char.ofNat 111, Char.ofNat 112, Char.ofNat 46, Char.ofNat 101, Char.ofNat 120, Char.ofNat 97, Char.ofNat 109, Char.ofNat 112, Char.ofNat 108, Char.ofNat 101, Char.ofNat 47, Char.ofNat 103, Char.ofNat 48, Char.ofNat 48, Char.ofNat 50, Char.ofNat 51, Char.ofNat 51, Char.ofNat 47, Char.ofNat 108, Char.ofNat 97, Char.ofNat 119, Char.ofNat 115, Char.ofNat 46, Char.ofNat 70, Char.ofNat 110, Char.ofNat 69, Char.ofNat 120, Char.ofNat 97, Char.ofNat 99, Char.ofNat 116, Char.ofNat 80, Char.ofNat 117, Char.ofNat 116, Char.ofNat 84, Char.ofNat 101, Char.ofNat 120, Char.ofNat 116, Char.ofNat 32, Char.ofNat 108, Char.ofNat 111, Char.ofNat 111, Char.ofNat 112, Char.ofNat 46, Char.ofNat 101, Char.ofNat 120, Char.ofNat 97, Char.ofNat 109, Char.ofNat 112, Char.ofNat 108, Char.ofNat 101, Char.ofNat 47, Char.ofNat 103, Char.ofNat 48, Char.ofNat 48, Char.ofNat 50, Char.ofNat 51, Char.ofNat 51, Char.ofNat 47, Char.ofNat 108, Char.ofNat 97, Char.ofNat 119, Char.ofNat 115, Char.ofNat 46, Char.ofNat 70, Char.ofNat 110, Char.ofNat 78, Char.ofNat 117, Char.ofNat 109, Char.ofNat 115, Char.ofNat 32, Char.ofNat 108, Char.ofNat 111, Char.ofNat 111, Char.ofNat 112, Char.ofNat 46, Char.ofNat 101, Char.ofNat 120, Char.ofNat 97, Char.ofNat 109, Char.ofNat 112, Char.ofNat 108, Char.ofNat 101, Char.ofNat 47, Char.ofNat 103, Char.ofNat 48, Char.ofNat 48, Char.ofNat 50, Char.ofNat 51, Char.ofNat 51, Char.ofNat 47, Char.ofNat 108, Char.ofNat 97, Char.ofNat 119, Char.ofNat 115, Char.ofNat 46, Char.ofNat 70, Char.ofNat 110, Char.ofNat 69, Char.ofNat 120, Char.ofNat 97, Char.ofNat 99, Char.ofNat 116, Char.ofNat 69, Char.ofNat 100, Char.ofNat 103, Char.ofNat 101, Char.ofNat 79, Char.ofNat 107, Char.ofNat 32, Char.ofNat 108, Char.ofNat 111, Char.ofNat 111, Char.ofNat 112, Char.ofNat 46, Char.ofNat 101, Char.ofNat 120, Char.ofNat 97, Char.ofNat 109, Char.ofNat 112, Char.ofNat 108, Char.ofNat 101, Char.ofNat 47, Char.ofNat 103, Char.ofNat 48, Char.ofNat 48, Char.ofNat 50, Char.ofNat 51, Char.ofNat 51, Char.ofNat 47, Char.ofNat 108, Char.ofNat 97, Char.ofNat 119, Char.ofNat 115, Char.ofNat 46, Char.ofNat 70, Char.ofNat 110, Char.ofNat 69, Char.ofNat 120, Char.ofNat 97, Char.ofNat 99, Char.ofNat 116, Char.ofNat 80, Char.ofNat 117, Char.ofNat 116, Char.ofNat 84, Char.ofNat 101, Char.ofNat 120, Char.ofNat 116, Char.ofNat 115, Char.ofNat 32, Char.ofNat 108, Char.ofNat 111, Char.ofNat 111, Char.ofNat 112, Char.ofNat 46, Char.ofNat 101, Char.ofNat 120, Char.ofNat 97, Char.ofNat 109, Char.ofNat 112, Char.ofNat 108, Char.ofNat 101, Char.ofNat 47, Char.ofNat 103, Char.ofNat 48, Char.ofNat 48, Char.ofNat 50, Char.ofNat 51, Char.ofNat 51, Char.ofNat 47, Char.ofNat 108, Char.ofNat 97, Char.ofNat 119, Char.ofNat 115, Char.ofNat 46, Char.ofNat 70, Char.ofNat 110, Char.ofNat 84, Char.ofNat 101, Char.ofNat 120, Char.ofNat 116, Char.ofNat 115, Char.ofNat 32, Char.ofNat 108, Char.ofNat 111, Char.ofNat 111, Char.ofNat 112, Char.ofNat 46, Char.ofNat 101, Char.ofNat 120, Char.ofNat 97, Char.ofNat 109, Char.ofNat 112, Char.ofNat 108, Char.ofNat 101, Char.ofNat 47, Char.ofNat 103, Char.ofNat 48, Char.ofNat 48, Char.ofNat 50, Char.ofNat 51, Char.ofNat 51, Char.ofNat 47, Char.ofNat 108, Char.ofNat 97, Char.ofNat 119, Char.ofNat 115, Char.ofNat 46, Char.ofNat 70, Char.ofNat 110, Char.ofNat 69, Char.ofNat 120, Char.ofNat 97, Char.ofNat 99, Char.ofNat 116, Char.ofNat 71, Char.ofNat 101, Char.ofNat 116, Char.ofNat 84, Char.ofNat 101, Char.ofNat 120, Char.ofNat 116, Char.ofNat 115, Char.ofNat 32, Char.ofNat 108, Char.ofNat 111, Char.ofNat 111, Char.ofNat 112, Char.ofNat 46, Char.ofNat 101, Char.ofNat 120, Char.ofNat 97, Char.ofNat 109, Char.ofNat 112, Char.ofNat 108, Char.ofNat 101, Char.ofNat 47, Char.ofNat 103, Char.ofNat 48, Char.ofNat 48, Char.ofNat 50, Char.ofNat 51, Char.ofNat 51, Char.ofNat 47, Char.ofNat 108, Char.ofNat 97, Char.ofNat 119, Char.ofNat 115, Char.ofNat 46, Char.ofNat 70, Char.ofNat 110, Char.ofNat 82, Char.ofNat 111, Char.ofNat 111, Char.ofNat 116, Char.ofNat 115, Char.ofNat 32, Char.ofNat 108, Char.ofNat 111, Char.ofNat 111, Char.ofNat 112, Char.ofNat 46, Char.ofNat 101, Char.ofNat 120, Char.ofNat 97, Char.ofNat 109, Char.ofNat 112, Char.ofNat 108, Char.ofNat 101, Char.ofNat 47, Char.ofNat 103, Char.ofNat 48, Char.ofNat 48, Char.ofNat 50, Char.ofNat 51, Char.ofNat 51, Char.ofNat 47, Char.ofNat 108, Char.ofNat 97, Char.ofNat 119, Char.ofNat 115, Char.ofNat 46, Char.ofNat 70, Char.ofNat 110, Char.ofNat 69, Char.ofNat 120, Char.ofNat 97, Char.ofNat 99, Char.ofNat 116, Char.ofNat 76, Char.ofNat 101, Char.ofNat 97, Char.ofNat 102, Char.ofNat 72, Char.ofNat 97, Char.ofNat 115, Char.ofNat 104, Char.ofNat 32, Char.ofNat 108, Char.ofNat 111, Char.ofNat 111, Char.ofNat 112, Char.ofNat 46, Char.ofNat 101, Char.ofNat 120, Char.ofNat 97, Char.ofNat 109, Char.ofNat 112, Char.ofNat 108, Char.ofNat 101, Char.ofNat 47, Char.ofNat 103, Char.ofNat 48, Char.ofNat 48, Char.ofNat 50, Char.ofNat 51, Char.ofNat 51, Char.ofNat 47, Char.ofNat 108, Char.ofNat 97, Char.ofNat 119, Char.ofNat 115, Char.ofNat 46, Char.ofNat 70, Char.ofNat 110, Char.ofNat 69, Char.ofNat 120, Char.ofNat 97, Char.ofNat 99, Char.ofNat 116, Char.ofNat 78, Char.ofNat 111, Char.ofNat 100, Char.ofNat 101, Char.ofNat 72, Char.ofNat 97, Char.ofNat 115, Char.ofNat 104, Char.ofNat 32, Char.ofNat 108, Char.ofNat 111, Char.ofNat 111, Char.ofNat 112, Char.ofNat 46, Char.ofNat 101, Char.ofNat 120, Char.ofNat 97, Char.ofNat 109, Char.ofNat 112, Char.ofNat 108, Char.ofNat 101, Char.ofNat 47, Char.ofNat 103, Char.ofNat 48, Char.ofNat 48, Char.ofNat 50, Char.ofNat 51, Char.ofNat 51, Char.ofNat 47, Char.ofNat 108, Char.ofNat 97, Char.ofNat 119, Char.ofNat 115, Char.ofNat 46, Char.ofNat 70, Char.ofNat 110, Char.ofNat 69, Char.ofNat 120, Char.ofNat 97, Char.ofNat 99, Char.ofNat 116, Char.ofNat 68, Char.ofNat 105, Char.ofNat 103, Char.ofNat 101, Char.ofNat 115, Char.ofNat 116, Char.ofNat 32, Char.ofNat 108, Char.ofNat 111, Char.ofNat 111, Char.ofNat 112, Char.ofNat 46, Char.ofNat 101, Char.ofNat 120, Char.ofNat 97, Char.ofNat 109, Char.ofNat 112, Char.ofNat 108, Char.ofNat 101, Char.ofNat 47, Char.ofNat 103, Char.ofNat 48, Char.ofNat 48, Char.ofNat 50, Char.ofNat 51, Char.ofNat 51, Char.ofNat 47, Char.ofNat 108, Char.ofNat 97, Char.ofNat 119, Char.ofNat 115, Char.ofNat 46, Char.ofNat 70, Char.ofNat 110, Char.ofNat 80, Char.ofNat 97, Char.ofNat 116, Char.ofNat 104, Char.ofNat 115, Char.ofNat 32, Char.ofNat 108, Char.ofNat 111, Char.ofNat 111, Char.ofNat 112, Char.ofNat 46, Char.ofNat 101, Char.ofNat 120, Char.ofNat 97, Char.ofNat 109, Char.ofNat 112, Char.ofNat 108, Char.ofNat 101, Char.ofNat 47, Char.ofNat 103, Char.ofNat 48, Char.ofNat 48, Char.ofNat 50, Char.ofNat 51, Char.ofNat 51, Char.ofNat 47, Char.ofNat 108, Char.ofNat 97, Char.ofNat 119, Char.ofNat 115, Char.ofNat 46, Char.ofNat 70, Char.ofNat 110, Char.ofNat 71, Char.ofNat 114, Char.ofNat 111, Char.ofNat 119, Char.ofNat 110, Char.ofNat 32, Char.ofNat 108, Char.ofNat 111, Char.ofNat 111, Char.ofNat 112, Char.ofNat 46, Char.ofNat 101, Char.ofNat 120, Char.ofNat 97, Char.ofNat 109, Char.ofNat 112, Char.ofNat 108, Char.ofNat 101, Char.ofNat 47, Char.ofNat 103, Char.ofNat 48, Char.ofNat 48, Char.ofNat 50, Char.ofNat 51, Char.ofNat 51, Char.ofNat 47, Char.ofNat 108, Char.ofNat 97, Char.ofNat 119, Char.ofNat 115, Char.ofNat 46, Char.ofNat 70, Char.ofNat 110, Char.ofNat 69, Char.ofNat 120, Char.ofNat 97, Char.ofNat 99, Char.ofNat 116, Char.ofNat 82, Char.ofNat 111, Char.ofNat 111, Char.ofNat 116, Char.ofNat 79, Char.ofNat 102, Char.ofNat 32, Char.ofNat 108, Char.ofNat 111, Char.ofNat 111, Char.ofNat 112, Char.ofNat 46, Char.ofNat 101, Char.ofNat 120, Char.ofNat 97, Char.ofNat 109, Char.ofNat 112, Char.ofNat 108, Char.ofNat 101, Char.ofNat 47, Char.ofNat 103, Char.ofNat 48, Char.ofNat 48, Char.ofNat 50, Char.ofNat 51, Char.ofNat 51, Char.ofNat 47, Char.ofNat 108, Char.ofNat 97, Char.ofNat 119, Char.ofNat 115, Char.ofNat 46, Char.ofNat 70, Char.ofNat 110, Char.ofNat 68, Char.ofNat 105, Char.ofNat 103, Char.ofNat 101, Char.ofNat 115, Char.ofNat 116, Char.ofNat 115, Char.ofNat 32, Char.ofNat 108, Char.ofNat 111, Char.ofNat 111, Char.ofNat 112, Char.ofNat 46, Char.ofNat 101, Char.ofNat 120, Char.ofNat 97, Char.ofNat 109, Char.ofNat 112, Char.ofNat 108, Char.ofNat 101, Char.ofNat 47, Char.ofNat 103, Char.ofNat 48, Char.ofNat 48, Char.ofNat 50, Char.ofNat 51, Char.ofNat 51, Char.ofNat 47, Char.ofNat 108, Char.ofNat 97, Char.ofNat 119, Char.ofNat 115, Char.ofNat 46, Char.ofNat 70, Char.ofNat 110, Char.ofNat 69, Char.ofNat 120, Char.ofNat 97, Char.ofNat 99, Char.ofNat 116, Char.ofNat 67, Char.ofNat 104, Char.ofNat 101, Char.ofNat 99, Char.ofNat 107, Char.ofNat 73, Char.ofNat 110, Char.ofNat 32, Char.ofNat 108, Char.ofNat 111, Char.ofNat 111, Char.ofNat 112, Char.ofNat 46, Char.ofNat 101, Char.ofNat 120, Char.ofNat 97, Char.ofNat 109, Char.ofNat 112, Char.ofNat 108, Char.ofNat 101, Char.ofNat 47, Char.ofNat 103, Char.ofNat 48, Char.ofNat 48, Char.ofNat 50, Char.ofNat 51, Char.ofNat 51, Char.ofNat 47, Char.ofNat 108, Char.ofNat 97, Char.ofNat 119, Char.ofNat 115, Char.ofNat 46, Char.ofNat 70, Char.ofNat 110, Char.ofNat 69, Char.ofNat 120, Char.ofNat 97, Char.ofNat 99, Char.ofNat 116, Char.ofNat 67, Char.ofNat 104, Char.ofNat 101, Char.ofNat 99, Char.ofNat 107, Char.ofNat 71, Char.ofNat 114, Char.ofNat 111, Char.ofNat 119, Char.ofNat 32, Char.ofNat 108, Char.ofNat 111, Char.ofNat 111, Char.ofNat 112, Char.ofNat 46, Char.ofNat 101, Char.ofNat 120, Char.ofNat 97, Char.ofNat 109, Char.ofNat 112, Char.ofNat 108, Char.ofNat 101, Char.ofNat 47, Char.ofNat 103, Char.ofNat 48, Char.ofNat 48, Char.ofNat 50, Char.ofNat 51, Char.ofNat 51, Char.ofNat 47, Char.ofNat 108, Char.ofNat 97, Char.ofNat 119, Char.ofNat 115, Char.ofNat 46, Char.ofNat 70, Char.ofNat 110, Char.ofNat 69, Char.ofNat 120, Char.ofNat 97, Char.ofNat 99, Char.ofNat 116, Char.ofNat 73, Char.ofNat 110, Char.ofNat 80, Char.ofNat 97, Char.ofNat 116, Char.ofNat 104, Char.ofNat 32, Char.ofNat 108, Char.ofNat 111, Char.ofNat 111, Char.ofNat 112, Char.ofNat 46, Char.ofNat 101, Char.ofNat 120, Char.ofNat 97, Char.ofNat 109, Char.ofNat 112, Char.ofNat 108, Char.ofNat 101, Char.ofNat 47, Char.ofNat 103, Char.ofNat 48, Char.ofNat 48, Char.ofNat 50, Char.ofNat 51, Char.ofNat 51, Char.ofNat 47, Char.ofNat 108, Char.ofNat 97, Char.ofNat 119, Char.ofNat 115, Char.ofNat 46, Char.ofNat 70, Char.ofNat 110, Char.ofNat 69, Char.ofNat 120, Char.ofNat 97, Char.ofNat 99, Char.ofNat 116, Char.ofNat 71, Char.ofNat 114, Char.ofNat 111, Char.ofNat 119, Char.ofNat 80, Char.ofNat 97, Char.ofNat 116, Char.ofNat 104]
set_option maxRecDepth 100000 in
theorem initOrder_lit : Try.pinned.checked.prog.initOrder = "harness 2030bd7aaa6f326128d74bbc92777a6f2b658087ac5cca4802849e451c912101 cut at loop.example/g00233/laws.FnExactConstants loop.example/g00233/laws.FnExactHexOf loop.example/g00233/laws.FnExactUnHex loop.example/g00233/laws.FnExactGetNum loop.example/g00233/laws.FnExactPadded loop.example/g00233/laws.FnExactGetText loop.example/g00233/laws.FnExactPutNum loop.example/g00233/laws.FnExactPutText loop.example/g00233/laws.FnNums loop.example/g00233/laws.FnExactEdgeOk loop.example/g00233/laws.FnExactPutTexts loop.example/g00233/laws.FnTexts loop.example/g00233/laws.FnExactGetTexts loop.example/g00233/laws.FnRoots loop.example/g00233/laws.FnExactLeafHash loop.example/g00233/laws.FnExactNodeHash loop.example/g00233/laws.FnExactDigest loop.example/g00233/laws.FnPaths loop.example/g00233/laws.FnGrown loop.example/g00233/laws.FnExactRootOf loop.example/g00233/laws.FnDigests loop.example/g00233/laws.FnExactCheckIn loop.example/g00233/laws.FnExactCheckGrow loop.example/g00233/laws.FnExactInPath loop.example/g00233/laws.FnExactGrowPath" := by kernel_rfl
set_option maxRecDepth 100000 in
theorem lit_list : ("harness 2030bd7aaa6f326128d74bbc92777a6f2b658087ac5cca4802849e451c912101 cut at loop.example/g00233/laws.FnExactConstants loop.example/g00233/laws.FnExactHexOf loop.example/g00233/laws.FnExactUnHex loop.example/g00233/laws.FnExactGetNum loop.example/g00233/laws.FnExactPadded loop.example/g00233/laws.FnExactGetText loop.example/g00233/laws.FnExactPutNum loop.example/g00233/laws.FnExactPutText loop.example/g00233/laws.FnNums loop.example/g00233/laws.FnExactEdgeOk loop.example/g00233/laws.FnExactPutTexts loop.example/g00233/laws.FnTexts loop.example/g00233/laws.FnExactGetTexts loop.example/g00233/laws.FnRoots loop.example/g00233/laws.FnExactLeafHash loop.example/g00233/laws.FnExactNodeHash loop.example/g00233/laws.FnExactDigest loop.example/g00233/laws.FnPaths loop.example/g00233/laws.FnGrown loop.example/g00233/laws.FnExactRootOf loop.example/g00233/laws.FnDigests loop.example/g00233/laws.FnExactCheckIn loop.example/g00233/laws.FnExactCheckGrow loop.example/g00233/laws.FnExactInPath loop.example/g00233/laws.FnExactGrowPath" : String) = String.ofList (Char.ofNat 104 :: Char.ofNat 97 :: Char.ofNat 114 :: Char.ofNat 110 :: Char.ofNat 101 :: Char.ofNat 115 :: Char.ofNat 115 :: Char.ofNat 32 :: Char.ofNat 50 :: Char.ofNat 48 :: Char.ofNat 51 :: Char.ofNat 48 :: Char.ofNat 98 :: Char.ofNat 100 :: Char.ofNat 55 :: Char.ofNat 97 :: Char.ofNat 97 :: Char.ofNat 97 :: Char.ofNat 54 :: Char.ofNat 102 :: Char.ofNat 51 :: Char.ofNat 50 :: Char.ofNat 54 :: Char.ofNat 49 :: Char.ofNat 50 :: Char.ofNat 56 :: Char.ofNat 100 :: Char.ofNat 55 :: Char.ofNat 52 :: Char.ofNat 98 :: Char.ofNat 98 :: Char.ofNat 99 :: Char.ofNat 57 :: Char.ofNat 50 :: Char.ofNat 55 :: Char.ofNat 55 :: Char.ofNat 55 :: Char.ofNat 97 :: Char.ofNat 54 :: Char.ofNat 102 :: Char.ofNat 50 :: Char.ofNat 98 :: Char.ofNat 54 :: Char.ofNat 53 :: Char.ofNat 56 :: Char.ofNat 48 :: Char.ofNat 56 :: Char.ofNat 55 :: Char.ofNat 97 :: Char.ofNat 99 :: Char.ofNat 53 :: Char.ofNat 99 :: Char.ofNat 99 :: Char.ofNat 97 :: Char.ofNat 52 :: Char.ofNat 56 :: Char.ofNat 48 :: Char.ofNat 50 :: Char.ofNat 56 :: Char.ofNat 52 :: Char.ofNat 57 :: Char.ofNat 101 :: Char.ofNat 52 :: Char.ofNat 53 :: Char.ofNat 49 :: Char.ofNat 99 :: Char.ofNat 57 :: Char.ofNat 49 :: Char.ofNat 50 :: Char.ofNat 49 :: Char.ofNat 48 :: Char.ofNat 49 :: Char.ofNat 32 :: Char.ofNat 99 :: Char.ofNat 117 :: Char.ofNat 116 :: Char.ofNat 32 :: Char.ofNat 97 :: Char.ofNat 116 :: Char.ofNat 32 :: tailSigns) := by kernel_rfl
theorem initOrder_list : Try.pinned.checked.prog.initOrder.toList = Char.ofNat 104 :: Char.ofNat 97 :: Char.ofNat 114 :: Char.ofNat 110 :: Char.ofNat 101 :: Char.ofNat 115 :: Char.ofNat 115 :: Char.ofNat 32 :: Char.ofNat 50 :: Char.ofNat 48 :: Char.ofNat 51 :: Char.ofNat 48 :: Char.ofNat 98 :: Char.ofNat 100 :: Char.ofNat 55 :: Char.ofNat 97 :: Char.ofNat 97 :: Char.ofNat 97 :: Char.ofNat 54 :: Char.ofNat 102 :: Char.ofNat 51 :: Char.ofNat 50 :: Char.ofNat 54 :: Char.ofNat 49 :: Char.ofNat 50 :: Char.ofNat 56 :: Char.ofNat 100 :: Char.ofNat 55 :: Char.ofNat 52 :: Char.ofNat 98 :: Char.ofNat 98 :: Char.ofNat 99 :: Char.ofNat 57 :: Char.ofNat 50 :: Char.ofNat 55 :: Char.ofNat 55 :: Char.ofNat 55 :: Char.ofNat 97 :: Char.ofNat 54 :: Char.ofNat 102 :: Char.ofNat 50 :: Char.ofNat 98 :: Char.ofNat 54 :: Char.ofNat 53 :: Char.ofNat 56 :: Char.ofNat 48 :: Char.ofNat 56 :: Char.ofNat 55 :: Char.ofNat 97 :: Char.ofNat 99 :: Char.ofNat 53 :: Char.ofNat 99 :: Char.ofNat 99 :: Char.ofNat 97 :: Char.ofNat 52 :: Char.ofNat 56 :: Char.ofNat 48 :: Char.ofNat 50 :: Char.ofNat 56 :: Char.ofNat 52 :: Char.ofNat 57 :: Char.ofNat 101 :: Char.ofNat 52 :: Char.ofNat 53 :: Char.ofNat 49 :: Char.ofNat 99 :: Char.ofNat 57 :: Char.ofNat 49 :: Char.ofNat 50 :: Char.ofNat 49 :: Char.ofNat 48 :: Char.ofNat 49 :: Char.ofNat 32 :: Char.ofNat 99 :: Char.ofNat 117 :: Char.ofNat 116 :: Char.ofNat 32 :: Char.ofNat 97 :: Char.ofNat 116 :: Char.ofNat 32 :: tailSigns := (congrArg String.toList (initOrder_lit.trans lit_list)).trans String.toList_ofList
theorem words_at (r : List Char) : wordsSigns (Char.ofNat 104 :: Char.ofNat 97 :: Char.ofNat 114 :: Char.ofNat 110 :: Char.ofNat 101 :: Char.ofNat 115 :: Char.ofNat 115 :: Char.ofNat 32 :: Char.ofNat 50 :: Char.ofNat 48 :: Char.ofNat 51 :: Char.ofNat 48 :: Char.ofNat 98 :: Char.ofNat 100 :: Char.ofNat 55 :: Char.ofNat 97 :: Char.ofNat 97 :: Char.ofNat 97 :: Char.ofNat 54 :: Char.ofNat 102 :: Char.ofNat 51 :: Char.ofNat 50 :: Char.ofNat 54 :: Char.ofNat 49 :: Char.ofNat 50 :: Char.ofNat 56 :: Char.ofNat 100 :: Char.ofNat 55 :: Char.ofNat 52 :: Char.ofNat 98 :: Char.ofNat 98 :: Char.ofNat 99 :: Char.ofNat 57 :: Char.ofNat 50 :: Char.ofNat 55 :: Char.ofNat 55 :: Char.ofNat 55 :: Char.ofNat 97 :: Char.ofNat 54 :: Char.ofNat 102 :: Char.ofNat 50 :: Char.ofNat 98 :: Char.ofNat 54 :: Char.ofNat 53 :: Char.ofNat 56 :: Char.ofNat 48 :: Char.ofNat 56 :: Char.ofNat 55 :: Char.ofNat 97 :: Char.ofNat 99 :: Char.ofNat 53 :: Char.ofNat 99 :: Char.ofNat 99 :: Char.ofNat 97 :: Char.ofNat 52 :: Char.ofNat 56 :: Char.ofNat 48 :: Char.ofNat 50 :: Char.ofNat 56 :: Char.ofNat 52 :: Char.ofNat 57 :: Char.ofNat 101 :: Char.ofNat 52 :: Char.ofNat 53 :: Char.ofNat 49 :: Char.ofNat 99 :: Char.ofNat 57 :: Char.ofNat 49 :: Char.ofNat 50 :: Char.ofNat 49 :: Char.ofNat 48 :: Char.ofNat 49 :: Char.ofNat 32 :: Char.ofNat 99 :: Char.ofNat 117 :: Char.ofNat 116 :: Char.ofNat 32 :: Char.ofNat 97 :: Char.ofNat 116 :: Char.ofNat 32 :: r) = [Char.ofNat 104, Char.ofNat 97, Char.ofNat 114, Char.ofNat 110, Char.ofNat 101, Char.ofNat 115, Char.ofNat 115] :: [Char.ofNat 50, Char.ofNat 48, Char.ofNat 51, Char.ofNat 48, Char.ofNat 98, Char.ofNat 100, Char.ofNat 55, Char.ofNat 97, Char.ofNat 97, Char.ofNat 97, Char.ofNat 54, Char.ofNat 102, Char.ofNat 51, Char.ofNat 50, Char.ofNat 54, Char.ofNat 49, Char.ofNat 50, Char.ofNat 56, Char.ofNat 100, Char.ofNat 55, Char.ofNat 52, Char.ofNat 98, Char.ofNat 98, Char.ofNat 99, Char.ofNat 57, Char.ofNat 50, Char.ofNat 55, Char.ofNat 55, Char.ofNat 55, Char.ofNat 97, Char.ofNat 54, Char.ofNat 102, Char.ofNat 50, Char.ofNat 98, Char.ofNat 54, Char.ofNat 53, Char.ofNat 56, Char.ofNat 48, Char.ofNat 56, Char.ofNat 55, Char.ofNat 97, Char.ofNat 99, Char.ofNat 53, Char.ofNat 99, Char.ofNat 99, Char.ofNat 97, Char.ofNat 52, Char.ofNat 56, Char.ofNat 48, Char.ofNat 50, Char.ofNat 56, Char.ofNat 52, Char.ofNat 57, Char.ofNat 101, Char.ofNat 52, Char.ofNat 53, Char.ofNat 49, Char.ofNat 99, Char.ofNat 57, Char.ofNat 49, Char.ofNat 50, Char.ofNat 49, Char.ofNat 48, Char.ofNat 49] :: [Char.ofNat 99, Char.ofNat 117, Char.ofNat 116] :: [Char.ofNat 97, Char.ofNat 116] :: wordsSigns r := by kernel_rfl
theorem behind_at (t : List (List Char)) : behindMainWord ([Char.ofNat 104, Char.ofNat 97, Char.ofNat 114, Char.ofNat 110, Char.ofNat 101, Char.ofNat 115, Char.ofNat 115] :: [Char.ofNat 50, Char.ofNat 48, Char.ofNat 51, Char.ofNat 48, Char.ofNat 98, Char.ofNat 100, Char.ofNat 55, Char.ofNat 97, Char.ofNat 97, Char.ofNat 97, Char.ofNat 54, Char.ofNat 102, Char.ofNat 51, Char.ofNat 50, Char.ofNat 54, Char.ofNat 49, Char.ofNat 50, Char.ofNat 56, Char.ofNat 100, Char.ofNat 55, Char.ofNat 52, Char.ofNat 98, Char.ofNat 98, Char.ofNat 99, Char.ofNat 57, Char.ofNat 50, Char.ofNat 55, Char.ofNat 55, Char.ofNat 55, Char.ofNat 97, Char.ofNat 54, Char.ofNat 102, Char.ofNat 50, Char.ofNat 98, Char.ofNat 54, Char.ofNat 53, Char.ofNat 56, Char.ofNat 48, Char.ofNat 56, Char.ofNat 55, Char.ofNat 97, Char.ofNat 99, Char.ofNat 53, Char.ofNat 99, Char.ofNat 99, Char.ofNat 97, Char.ofNat 52, Char.ofNat 56, Char.ofNat 48, Char.ofNat 50, Char.ofNat 56, Char.ofNat 52, Char.ofNat 57, Char.ofNat 101, Char.ofNat 52, Char.ofNat 53, Char.ofNat 49, Char.ofNat 99, Char.ofNat 57, Char.ofNat 49, Char.ofNat 50, Char.ofNat 49, Char.ofNat 48, Char.ofNat 49] :: [Char.ofNat 99, Char.ofNat 117, Char.ofNat 116] :: [Char.ofNat 97, Char.ofNat 116] :: t) = [Char.ofNat 99, Char.ofNat 117, Char.ofNat 116] :: [Char.ofNat 97, Char.ofNat 116] :: t := by kernel_rfl
theorem behind_all : behindMainWord (wordsSigns Try.pinned.checked.prog.initOrder.toList) = [Char.ofNat 99, Char.ofNat 117, Char.ofNat 116] :: [Char.ofNat 97, Char.ofNat 116] :: wordsSigns tailSigns := by rw [initOrder_list, words_at, behind_at]
theorem make_of (c : List Char) (rest : List (List Char)) (P : Program) (h0 : (c == "gc".toList) = false) (h1 : (c == "spec".toList) = false) (h2 : (c == "cut".toList) = true) (h : behindMainWord (wordsSigns P.initOrder.toList) = c :: rest) : P.make = some .cut := by
  unfold Program.make
  rw [h]
  simp only [h0, h1, h2]
  rfl
theorem mayEnter_of (c : List Char) (rest : List (List Char)) (P : Program) (h0 : (c == "gc".toList) = false) (h1 : (c == "spec".toList) = false) (h2 : (c == "carried".toList) = false) (h : behindMainWord (wordsSigns P.initOrder.toList) = c :: rest)
    (h3 : ((stripLifts liftWords (c :: rest)).2.head? == some "cut".toList) = true) (h4 : P.laysLater = false) (h5 : P.bearsReflect = false) (h6 : P.doorFits (stripLifts liftWords (c :: rest)).1 = true) (h7 : (stripLifts liftWords (c :: rest)).1.contains "leanrows" = false) : P.mayEnter = true := by
  unfold Program.mayEnter
  rw [h]
  simp only [h0, h1, h2, h3, h4, h5, h6, h7]
  simp
theorem liftsFinal_of (c : List Char) (rest : List (List Char)) (P : Program) (h2 : (some c == some "carried".toList) = false) (h : behindMainWord (wordsSigns P.initOrder.toList) = c :: rest)
    (h3 : ((stripLifts liftWords (c :: rest)).2.head? == some "cut".toList) = true) (h7 : (stripLifts liftWords (c :: rest)).1.contains "finals" = false) : P.liftsFinal = false := by
  unfold Program.liftsFinal Program.headLifts
  rw [h]
  simp only [List.head?_cons, h2, h3, if_true, h7, Bool.false_and, Bool.or_self]
theorem strip_at (t : List (List Char)) : stripLifts liftWords ([Char.ofNat 99, Char.ofNat 117, Char.ofNat 116] :: [Char.ofNat 97, Char.ofNat 116] :: t) = ([], [Char.ofNat 99, Char.ofNat 117, Char.ofNat 116] :: [Char.ofNat 97, Char.ofNat 116] :: t) := by kernel_rfl
theorem laysLater_at : Try.pinned.checked.prog.laysLater = false := by kernel_rfl
theorem bearsReflect_at : Try.pinned.checked.prog.bearsReflect = false := by kernel_rfl
theorem doorFits_at : Try.pinned.checked.prog.doorFits [] = true := by kernel_rfl
theorem mayEnter_at : Try.pinned.checked.prog.mayEnter = true :=
  mayEnter_of _ _ _ (by kernel_rfl) (by kernel_rfl) (by kernel_rfl) behind_all (by rw [strip_at]; generalize wordsSigns tailSigns = t; kernel_rfl) laysLater_at bearsReflect_at (by rw [strip_at]; exact doorFits_at) (by rw [strip_at]; rfl)
theorem liftsFinal_at : Try.pinned.checked.prog.liftsFinal = false :=
  liftsFinal_of _ _ _ (by kernel_rfl) behind_all (by rw [strip_at]; generalize wordsSigns tailSigns = t; kernel_rfl) (by rw [strip_at]; rfl)
theorem make_at : Try.pinned.checked.prog.make = some .cut := make_of _ _ _ (by kernel_rfl) (by kernel_rfl) (by kernel_rfl) behind_all
end Go.Proofs.Ytmkhhnfmahdijaa.Y
