/- The law FnModules, as a plain statement: a drawn path's base is one; the versions that fit a path have its number. Conditions: those of the row's reading alone. -/
/- Part 8 of 9 of this claim's texts. -/
import Derived.Laws.BitsLemmas
import Derived.Lib.Atoi
import Derived.Lib.ItoaNum
import Derived.Deep.Slices
import Derived.ChangeArms
import Derived.WideShapes
import Derived.DataReads
import Derived.Test.YtkofdkinaahbpaaDoorRows
import Derived.WalkKit
import Derived.ProofKit
import Derived.Test.YtkofdkinaahbpaaDoorCFnModules0
import Derived.Test.YtkofdkinaahbpaaDoorCFnModules1
import Derived.Test.YtkofdkinaahbpaaDoorCFnModules2
import Derived.Test.YtkofdkinaahbpaaDoorCFnModules3
import Derived.Test.YtkofdkinaahbpaaDoorCFnModules4
import Derived.Test.YtkofdkinaahbpaaDoorCFnModules6
/- Plain lemmas for what the printed functions compute: enough rounds ('Ev'), tests, bounds of whole numbers, lists. No Go, no memory. -/
set_option linter.unusedVariables false
namespace Go.Proofs.YtkofdkinaahbpaaDoor.Z
open Go.RowKit Go.Proofs.YtkofdkinaahbpaaDoorW.PrintWords Go.Proofs.YtkofdkinaahbpaaDoorW.PrintMore

theorem evT {α : Type} {c : Prop} [Decidable c] {f g : Nat → Option α} {r : α} (h : c) (H : Ev f r) : Ev (fun k => if c then f k else g k) r := by
  obtain ⟨K, hK⟩ := H
  exact ⟨K, fun k hk => (if_pos h).trans (hK k hk)⟩
theorem evF {α : Type} {c : Prop} [Decidable c] {f g : Nat → Option α} {r : α} (h : ¬ c) (H : Ev g r) : Ev (fun k => if c then f k else g k) r := by
  obtain ⟨K, hK⟩ := H
  exact ⟨K, fun k hk => (if_neg h).trans (hK k hk)⟩
theorem evI {α : Type} {c : Prop} [Decidable c] {f g : Nat → Option α} {r : α} (H : c → Ev f r) (H' : ¬ c → Ev g r) : Ev (fun k => if c then f k else g k) r := by
  by_cases h : c
  · exact evT h (H h)
  · exact evF h (H' h)
theorem evB {α β : Type} {g : Nat → Option α} {f : Nat → α → Option β} {a : α} {r : β} (h : Ev g a) (k : Ev (fun n => f n a) r) : Ev (fun n => (g n).bind (f n)) r := Ev.bind h k
theorem evR {α : Type} {r r' : α} (h : r = r') : Ev (fun _ => some r) r' := h ▸ Ev.now r
/-- A callee without rounds. -/
theorem evC {α β : Type} {x : Option α} {f : Nat → α → Option β} {a : α} {r : β} (h : x = some a) (k : Ev (fun n => f n a) r) : Ev (fun n => x.bind (f n)) r := by
  subst h
  exact k
theorem evS {α : Type} {g f : Nat → Option α} {r : α} (h : ∀ k, g (k + 1) = f k) (k : Ev f r) : Ev g r := Ev.step h k
theorem evE {α : Type} {g : Nat → Option α} {r r' : α} (h : r = r') (k : Ev g r) : Ev g r' := h ▸ k
/-- Two answers of one function are one. -/
theorem ev_one {α : Type} {g : Nat → Option α} {r r' : α} (h : Ev g r) (h' : Ev g r') : r = r' := by
  obtain ⟨K, hK⟩ := h
  obtain ⟨L, hL⟩ := h'
  have a := hK (max K L) (Nat.le_max_left _ _)
  have b := hL (max K L) (Nat.le_max_right _ _)
  rw [a] at b
  exact Option.some.inj b

theorem w64 {x : Int} (h : -9223372036854775808 ≤ x ∧ x ≤ 9223372036854775807) : wrap64 x = x := by unfold wrap64; omega
theorem w64s {i n : Nat} (h : i < n) (hn : n ≤ 9223372036854775807) : wrap64 ((i : Int) + 1) = ((i + 1 : Nat) : Int) := by unfold wrap64; omega
theorem wi64 (x : Int) : IntKind.i64.wrap x = wrap64 x := by rw [Go.IntKind.wrap_i64]; unfold wrap64; rfl

theorem rd_get {l : List Int} {i : Nat} (h : i < l.length) : l[i]? = some (rd l (i : Int)) := by
  simp [rd, List.getElem?_eq_getElem h]
theorem rdOf_get {α : Type} {d : α} {l : List α} {i : Nat} (h : i < l.length) : l[i]? = some (rdOf d l (i : Int)) := by
  simp [rdOf, List.getElem?_eq_getElem h]
end Go.Proofs.YtkofdkinaahbpaaDoor.Z

/- What the reference's draws of one number give. No Go, no memory. -/
set_option linter.unusedVariables false
namespace Go.Proofs.YtkofdkinaahbpaaDoor.Z
open Go.RowKit Go.Proofs.YtkofdkinaahbpaaDoorW.PrintWords Go.Proofs.YtkofdkinaahbpaaDoorW.PrintMore Go.Proofs.YtkofdkinaahbpaaDoor.X

theorem and255 (a : Int) : 0 ≤ Go.bits .and .i64 a 255 ∧ Go.bits .and .i64 a 255 ≤ 255 := by
  have h : ((BitVec.ofInt 64 a &&& BitVec.ofInt 64 255).toNat) ≤ 255 := by
    rw [BitVec.toNat_and]
    exact Nat.and_le_right
  have h2 : Go.bits .and .i64 a 255 = IntKind.i64.wrap (((BitVec.ofInt 64 a &&& BitVec.ofInt 64 255).toNat : Nat) : Int) := rfl
  rw [h2, wi64, w64 (by omega)]
  omega
/-- A place of the cursor over l. -/
def At (l : List Int) (i : Int) : Prop := 0 ≤ i ∧ i ≤ l.length
theorem byte_some (l : List Int) (hl : l.length ≤ 140737488355328) (i h : Int) (hi : At l i) : ∃ x i' h', spec_l1Byte.f l i h = some (x, i', h') ∧ 0 ≤ x ∧ x ≤ 255 ∧ At l i' := by
  unfold At at *
  unfold spec_l1Byte.f
  by_cases h1 : i < (l.length : Int)
  · rw [if_pos h1, if_pos hi.1, w64 (x := i + 1) (by omega)]
    exact ⟨_, _, _, rfl, (and255 _).1, (and255 _).2, by omega, by omega⟩
  · rw [if_neg h1]
    exact ⟨_, _, _, rfl, (and255 _).1, (and255 _).2, hi⟩
theorem below_some (l : List Int) (hl : l.length ≤ 140737488355328) (i h n : Int) (hi : At l i) (hn : n ≤ 1000000) : ∃ x i' h', spec_l1Below.f l i h n = some (x, i', h') ∧ 0 ≤ x ∧ (x < n ∨ x = 0) ∧ At l i' := by
  unfold spec_l1Below.f
  by_cases h0 : n ≤ 0
  · rw [if_pos h0]
    exact ⟨_, _, _, rfl, by omega, .inr rfl, hi⟩
  rw [if_neg h0]
  by_cases h1 : n ≤ 256
  · rw [if_pos h1]
    obtain ⟨x, i', h', e, hx0, hx1, hi'⟩ := byte_some l hl i h hi
    rw [e]
    simp only [Option.bind_some]
    rw [if_neg (by omega), Int.tmod_eq_emod_of_nonneg hx0]
    exact ⟨_, _, _, rfl, Int.emod_nonneg _ (by omega), .inl (Int.emod_lt_of_pos _ (by omega)), hi'⟩
  · rw [if_neg h1]
    obtain ⟨x, i1, h1', e1, hx0, hx1, hi1⟩ := byte_some l hl i h hi
    obtain ⟨y, i2, h2', e2, hy0, hy1, hi2⟩ := byte_some l hl i1 h1' hi1
    obtain ⟨z, i3, h3', e3, hz0, hz1, hi3⟩ := byte_some l hl i2 h2' hi2
    rw [e1]
    simp only [Option.bind_some]
    rw [e2]
    simp only [Option.bind_some]
    rw [e3]
    simp only [Option.bind_some]
    rw [if_neg (by omega), w64 (x := x * 65536) (by omega), w64 (x := y * 256) (by omega), w64 (x := x * 65536 + y * 256) (by omega), w64 (x := x * 65536 + y * 256 + z) (by omega), Int.tmod_eq_emod_of_nonneg (by omega)]
    exact ⟨_, _, _, rfl, Int.emod_nonneg _ (by omega), .inl (Int.emod_lt_of_pos _ (by omega)), hi3⟩
theorem int_some (l : List Int) (hl : l.length ≤ 140737488355328) (i h : Int) (m : List Int) (hi : At l i) (hm : 0 < m.length) (hm2 : m.length ≤ 1000) : ∃ x i' h', spec_l1Int.f l i h m = some (x, i', h') ∧ x ∈ m ∧ At l i' := by
  unfold spec_l1Int.f
  obtain ⟨x, i', h', e, hx0, hx1, hi'⟩ := below_some l hl i h (m.length : Int) hi (by omega)
  rw [e]
  simp only [Option.bind_some]
  rw [if_pos hx0, if_pos (by omega)]
  refine ⟨_, _, _, rfl, ?_, hi'⟩
  have := rd_get (l := m) (i := x.toNat) (by omega)
  rw [show ((x.toNat : Nat) : Int) = x by omega] at this
  exact List.mem_of_getElem? this
theorem new_l0 (l : List Int) (hl : l.length ≤ 140737488355328) (d : Nat) : ∀ (j : Nat) (h : Int), j + d = l.length → ∃ h', Ev (fun k => spec_l1New.l0 k l h (j : Int)) (l, 0, h') := by
  induction d with
  | zero =>
    intro j h hj
    exact ⟨h, evS (fun k => by rw [spec_l1New.l0]) (evF (by omega) (evR rfl))⟩
  | succ d ih =>
    intro j h hj
    by_cases h4 : (j : Int) < 4000
    · obtain ⟨h', e⟩ := ih (j + 1) (Go.bits .and .i64 (wrap64 ((wrap64 ((wrap64 (h * 137)) + (wrap64 (rd l (j : Int))))) + 11)) 1073741823) (by omega)
      refine ⟨h', evS (fun k => by rw [spec_l1New.l0]) (evT (by omega) (evT h4 (evT (by omega) ?_)))⟩
      rw [w64s (show j < l.length by omega) (by omega)]
      exact e
    · exact ⟨h, evS (fun k => by rw [spec_l1New.l0]) (evT (by omega) (evF h4 (evR rfl)))⟩
theorem new_some (l : List Int) (hl : l.length ≤ 140737488355328) : ∃ h', Ev (fun k => spec_l1New.f k l) (l, 0, h') := by
  obtain ⟨h', e⟩ := new_l0 l hl l.length 0 (wrap64 (372372 + (l.length : Int))) (by omega)
  exact ⟨h', e⟩
theorem at_zero (l : List Int) : At l 0 := ⟨by omega, by omega⟩

end Go.Proofs.YtkofdkinaahbpaaDoor.Z

/- A drawn text. No Go, no memory. -/
set_option linter.unusedVariables false
namespace Go.Proofs.YtkofdkinaahbpaaDoor.Z
open Go.RowKit Go.Proofs.YtkofdkinaahbpaaDoorW.PrintWords Go.Proofs.YtkofdkinaahbpaaDoorW.PrintMore Go.Proofs.YtkofdkinaahbpaaDoor.X

theorem str_some (l : List Int) (hl : l.length ≤ 140737488355328) (i h : Int) (m : List ByteArray) (hi : At l i) (hm : 0 < m.length) (hm2 : m.length ≤ 1000) : ∃ x i' h', spec_l1Str.f l i h m = some (x, i', h') ∧ x ∈ m ∧ At l i' := by
  unfold spec_l1Str.f
  obtain ⟨x, i', h', e, hx0, hx1, hi'⟩ := below_some l hl i h (m.length : Int) hi (by omega)
  rw [e]
  simp only [Option.bind_some]
  rw [if_pos hx0, if_pos (by omega)]
  refine ⟨_, _, _, rfl, ?_, hi'⟩
  have := rdOf_get (d := ByteArray.empty) (l := m) (i := x.toNat) (by omega)
  rw [show ((x.toNat : Nat) : Int) = x by omega] at this
  exact List.mem_of_getElem? this
end Go.Proofs.YtkofdkinaahbpaaDoor.Z

/- Drawn versions that may be wrong, and drawn texts. Plain lemmas. -/

set_option linter.unusedVariables false
namespace Go.Proofs.YtkofdkinaahbpaaDoor.Z
open Go.RowKit Go.Proofs.YtkofdkinaahbpaaDoorW.PrintWords Go.Proofs.YtkofdkinaahbpaaDoorW.PrintMore Go.Proofs.YtkofdkinaahbpaaDoor.X
theorem three_small : ∀ p ∈ ([(⟨#[]⟩ : ByteArray), (⟨#[]⟩ : ByteArray), (⟨#[]⟩ : ByteArray), (⟨#[114, 99, 46, 49]⟩ : ByteArray), (⟨#[97, 108, 112, 104, 97]⟩ : ByteArray), (⟨#[114, 99, 46, 50]⟩ : ByteArray), (⟨#[49]⟩ : ByteArray), (⟨#[50, 46, 120]⟩ : ByteArray), (⟨#[98, 101, 116, 97, 45, 49]⟩ : ByteArray), (⟨#[114, 99]⟩ : ByteArray)] : List ByteArray), p.size ≤ 100 := by decide +kernel
theorem any_small : ∀ p ∈ ([(⟨#[46]⟩ : ByteArray), (⟨#[48, 49]⟩ : ByteArray), (⟨#[97, 46, 46, 98]⟩ : ByteArray), (⟨#[97, 46, 98, 46, 99, 46, 100]⟩ : ByteArray), (⟨#[97, 46, 98, 46, 99, 46, 100, 46, 101]⟩ : ByteArray), (⟨#[110, 105, 110, 101, 98, 121, 116, 101, 115]⟩ : ByteArray), (⟨#[195, 169]⟩ : ByteArray), (⟨#[48]⟩ : ByteArray), (⟨#[97, 95, 98]⟩ : ByteArray)] : List ByteArray), p.size ≤ 100 := by decide +kernel
theorem draw3_small (l : List Int) (hl : l.length ≤ 140737488355328) (i h : Int) (hi : At l i) : ∃ x y z p i' h', spec_l3Draw.f l i h = some (x, y, z, p, i', h') ∧ 0 ≤ x ∧ x ≤ 2 ∧ 0 ≤ y ∧ y < 4 ∧ 0 ≤ z ∧ z < 3 ∧ p.size ≤ 100 ∧ At l i' := by
  unfold spec_l3Draw.f
  obtain ⟨x, i1, h1, e1, x0, a1⟩ := int_some l hl i h [1, 0, 1, 2] hi (by simp) (by simp)
  obtain ⟨y, i2, h2, e2, y0, y1, a2⟩ := below_some l hl i1 h1 4 a1 (by omega)
  obtain ⟨z, i3, h3, e3, z0, z1, a3⟩ := below_some l hl i2 h2 3 a2 (by omega)
  obtain ⟨p, i4, h4, e4, p0, a4⟩ := str_some l hl i3 h3 ([(⟨#[]⟩ : ByteArray), (⟨#[]⟩ : ByteArray), (⟨#[]⟩ : ByteArray), (⟨#[114, 99, 46, 49]⟩ : ByteArray), (⟨#[97, 108, 112, 104, 97]⟩ : ByteArray), (⟨#[114, 99, 46, 50]⟩ : ByteArray), (⟨#[49]⟩ : ByteArray), (⟨#[50, 46, 120]⟩ : ByteArray), (⟨#[98, 101, 116, 97, 45, 49]⟩ : ByteArray), (⟨#[114, 99]⟩ : ByteArray)]) a3 (by decide) (by decide)
  refine ⟨x, y, z, p, i4, h4, ?_, ?_, ?_, y0, by omega, z0, by omega, ?_, a4⟩
  · rw [e1]
    simp only [Option.bind_some]
    rw [e2]
    simp only [Option.bind_some]
    rw [e3]
    simp only [Option.bind_some]
    rw [e4]
    rfl
  · simp only [List.mem_cons, List.not_mem_nil, or_false] at x0; omega
  · simp only [List.mem_cons, List.not_mem_nil, or_false] at x0; omega
  · exact three_small p p0
theorem any3_some (l : List Int) (hl : l.length ≤ 140737488355328) (i h : Int) (hi : At l i) : ∃ x y z p i' h', spec_l3Any.f l i h = some (x, y, z, p, i', h') ∧ p.size ≤ 100 ∧ At l i' := by
  obtain ⟨x, y, z, p, i1, h1, e1, _, _, _, _, _, _, p0, a1⟩ := draw3_small l hl i h hi
  obtain ⟨n, i2, h2, e2, _, _, a2⟩ := below_some l hl i1 h1 12 a1 (by omega)
  obtain ⟨q, i3, h3, e3, q0, a3⟩ := int_some l hl i2 h2 [(-1), 1000000, 1000001] a2 (by simp) (by simp)
  obtain ⟨t, i4, h4, e4, t0, a4⟩ := str_some l hl i2 h2 ([(⟨#[46]⟩ : ByteArray), (⟨#[48, 49]⟩ : ByteArray), (⟨#[97, 46, 46, 98]⟩ : ByteArray), (⟨#[97, 46, 98, 46, 99, 46, 100]⟩ : ByteArray), (⟨#[97, 46, 98, 46, 99, 46, 100, 46, 101]⟩ : ByteArray), (⟨#[110, 105, 110, 101, 98, 121, 116, 101, 115]⟩ : ByteArray), (⟨#[195, 169]⟩ : ByteArray), (⟨#[48]⟩ : ByteArray), (⟨#[97, 95, 98]⟩ : ByteArray)]) a2 (by decide) (by decide)
  have t1 : t.size ≤ 100 := any_small t t0
  unfold spec_l3Any.f
  rw [e1]
  simp only [Option.bind_some]
  rw [e2]
  simp only [Option.bind_some]
  by_cases c0 : n = 0
  · rw [if_pos c0, e3]
    exact ⟨_, _, _, _, _, _, rfl, p0, a3⟩
  · rw [if_neg c0]
    by_cases c1 : n = 1
    · rw [if_pos c1, e4]
      exact ⟨_, _, _, _, _, _, rfl, t1, a4⟩
    · rw [if_neg c1]
      by_cases c2 : n = 2
      · rw [if_pos c2, e3]
        exact ⟨_, _, _, _, _, _, rfl, p0, a3⟩
      · rw [if_neg c2]
        exact ⟨_, _, _, _, _, _, rfl, p0, a2⟩
end Go.Proofs.YtkofdkinaahbpaaDoor.Z

/- Strings as lists of bytes. No Go, no memory. -/
set_option linter.unusedVariables false
namespace Go.Proofs.YtkofdkinaahbpaaDoor.Z
open Go.RowKit Go.Proofs.YtkofdkinaahbpaaDoorW.PrintWords Go.Proofs.YtkofdkinaahbpaaDoorW.PrintMore
theorem tl_loop (a : ByteArray) (d : Nat) : ∀ i r, a.size = i + d → ByteArray.toList.loop a i r = r.reverse ++ a.data.toList.drop i := by
  have h2 := data_length a
  induction d with
  | zero =>
    intro i r h
    unfold ByteArray.toList.loop
    rw [if_neg (by omega), List.drop_eq_nil_of_le (by omega), List.append_nil]
  | succ d ih =>
    intro i r h
    unfold ByteArray.toList.loop
    rw [if_pos (by omega), ih (i + 1) _ (by omega)]
    have hi : i < a.data.size := by
      have : a.data.size = a.size := rfl
      omega
    rw [List.drop_eq_getElem_cons (i := i) (by simpa using hi)]
    simp [ByteArray.get!]
    exact getElem!_pos a.data i hi
theorem tl (a : ByteArray) : a.toList = a.data.toList := by
  unfold ByteArray.toList
  rw [tl_loop a a.size 0 [] (by omega)]
  simp

end Go.Proofs.YtkofdkinaahbpaaDoor.Z

/- Ranges, the program's and the reference's: the same. Plain lemmas. -/
set_option linter.unusedVariables false
namespace Go.Proofs.YtkofdkinaahbpaaDoor.Z
open Go.RowKit Go.Proofs.YtkofdkinaahbpaaDoorW.PrintWords Go.Proofs.YtkofdkinaahbpaaDoorW.PrintMore Go.Proofs.YtkofdkinaahbpaaDoor.X
theorem rng_impl (a b c : Int) : impl_inRange.f a b c = some (decide (b ≤ a ∧ a ≤ c)) := by
  unfold impl_inRange.f
  by_cases h : a ≥ b
  · rw [if_pos h]
    simp [show b ≤ a from h]
  · rw [if_neg h]
    simp [show ¬ b ≤ a from h]
theorem rng_spec (a b c : Int) : spec_l1In.f a b c = some (decide (b ≤ a ∧ a ≤ c)) := by
  unfold spec_l1In.f
  by_cases h : a ≥ b
  · rw [if_pos h]
    simp [show b ≤ a from h]
  · rw [if_neg h]
    simp [show ¬ b ≤ a from h]
end Go.Proofs.YtkofdkinaahbpaaDoor.Z

/- A text's pieces, the reference's: those between the bytes. Plain lemmas. -/
set_option linter.unusedVariables false
namespace Go.Proofs.YtkofdkinaahbpaaDoor.Z
open Go.RowKit Go.Proofs.YtkofdkinaahbpaaDoorW.PrintWords Go.Proofs.YtkofdkinaahbpaaDoorW.PrintMore Go.Proofs.YtkofdkinaahbpaaDoor.X Go.Proofs.YtkofdkinaahbpaaDoor.Sp
theorem byte_at (s : ByteArray) (i : Nat) (h : i < s.size) : bt s (i : Int) = ((s.data.toList[i]'(by rw [data_length]; exact h)).toNat : Int) := by
  have := rd_bytesOf s (i : Int)
  rw [← this]
  unfold rd bytesOf
  simp [List.getD_eq_getElem?_getD, h]
theorem ext_list (s : ByteArray) (f i : Nat) : s.extract f i = ⟨((s.data.toList.drop f).take (i - f)).toArray⟩ := by
  have h : (s.extract f i).data.toList = (s.data.toList.drop f).take (i - f) := by
    simp [ByteArray.data_extract, List.extract_eq_take_drop]
  cases hx : s.extract f i with
  | mk d =>
    rw [hx] at h
    congr 1
    rw [← h]
/-- The pieces, bytes more ahead of the first. -/
def pcsF (pre : List UInt8) (c : UInt8) (l : List UInt8) : List (List UInt8) :=
  match pcs c l with
  | [] => [pre]
  | h :: t => (pre ++ h) :: t
theorem pcs_ne (c : UInt8) (l : List UInt8) : pcs c l ≠ [] := fun h => by
  have := pcs_length c l
  rw [h] at this
  simp at this
theorem pcsF_nil (c : UInt8) (l : List UInt8) : pcsF [] c l = pcs c l := by
  unfold pcsF
  cases h : pcs c l with
  | nil => exact absurd h (pcs_ne c l)
  | cons a t => rfl
theorem pcsF_eq (pre : List UInt8) (c : UInt8) (l : List UInt8) : pcsF pre c (c :: l) = pre :: pcsF [] c l := by
  rw [pcsF_nil]
  unfold pcsF
  rw [pcs, if_pos rfl]
  simp
theorem pcsF_ne (pre : List UInt8) (b c : UInt8) (l : List UInt8) (h : b ≠ c) : pcsF pre c (b :: l) = pcsF (pre ++ [b]) c l := by
  unfold pcsF
  rw [pcs, if_neg h]
  cases hp : pcs c l with
  | nil => exact absurd hp (pcs_ne c l)
  | cons a t => simp [onto]
theorem pcsF_end (pre : List UInt8) (c : UInt8) : pcsF pre c [] = [pre] := by simp [pcsF, pcs]
def toB (l : List UInt8) : ByteArray := ⟨l.toArray⟩
theorem split_l0 (s : ByteArray) (hs : s.size ≤ 1048576) (c : UInt8) (d : Nat) : ∀ (i f : Nat) (out : List ByteArray), i + d = s.size → f ≤ i → out.length + d ≤ 1048577 →
    Ev (fun k => spec_l3Split.l0 k s (c.toNat : Int) out (f : Int) (i : Int)) (out ++ (pcsF ((s.data.toList.drop f).take (i - f)) c (s.data.toList.drop i)).map toB) := by
  induction d with
  | zero =>
    intro i f out hi hf ho
    rw [List.drop_eq_nil_of_le (show s.data.toList.length ≤ i by rw [data_length]; omega), pcsF_end]
    refine evS (fun k => by rw [spec_l3Split.l0]) ?_
    rw [w64s (show i < 1048577 by omega) (by omega), show ((f : Nat) : Int).toNat = f by omega, show ((i : Nat) : Int).toNat = i by omega, ext_list]
    refine evT (by omega) (evT (by omega) (evT (by omega) (evT (by omega) (evT (by omega) ?_))))
    refine evS (fun k => by rw [spec_l3Split.l0]) ?_
    exact evF (by omega) (evR rfl)
  | succ d ih =>
    intro i f out hi hf ho
    have hl : i < s.data.toList.length := by rw [data_length]; omega
    have hb := byte_at s i (by omega)
    rw [List.drop_eq_getElem_cons hl]
    refine evS (fun k => by rw [spec_l3Split.l0]) ?_
    rw [w64s (show i < 1048577 by omega) (by omega), show ((f : Nat) : Int).toNat = f by omega, show ((i : Nat) : Int).toNat = i by omega, hb, ext_list]
    refine evT (by omega) (evF (by omega) (evT (by omega) (evT (by omega) ?_)))
    by_cases hc : s.data.toList[i] = c
    · refine evT (by rw [hc]) (evT (by omega) (evT (by omega) (evT (by omega) ?_)))
      refine evE ?_ (ih (i + 1) (i + 1) _ (by omega) (Nat.le_refl _) (by simp; omega))
      rw [hc, pcsF_eq, Nat.sub_self, List.take_zero]
      simp [toB]
    · refine evF (fun e => hc (UInt8.toNat_inj.1 (by omega))) ?_
      refine evE ?_ (ih (i + 1) f out (by omega) (by omega) (by omega))
      rw [pcsF_ne _ _ _ _ hc]
      congr 3
      have hl2 : i - f < (s.data.toList.drop f).length := by rw [List.length_drop]; omega
      rw [show i + 1 - f = (i - f) + 1 by omega, List.take_succ_eq_append_getElem hl2]
      congr 2
      rw [List.getElem_drop]
      congr 1
      omega
theorem split_spec (s : ByteArray) (hs : s.size ≤ 1048576) (c : UInt8) : Ev (fun k => spec_l3Split.f k s (c.toNat : Int)) (pieces c s) := by
  have h := split_l0 s hs c s.size 0 0 [] (by omega) (Nat.le_refl _) (by simp; omega)
  rw [Nat.sub_self, List.take_zero, List.drop_zero, pcsF_nil, List.nil_append] at h
  exact h
theorem pcs_mem (c : UInt8) : ∀ (l : List UInt8) (x : List UInt8), x ∈ pcs c l → x.length ≤ l.length
  | [], x, h => by simp [pcs] at h; simp [h]
  | b :: l, x, h => by
    have ih := pcs_mem c l
    rw [pcs] at h
    split at h
    · rcases List.mem_cons.1 h with rfl | h
      · simp
      · have := ih x h; simp; omega
    · cases hp : pcs c l with
      | nil => exact absurd hp (pcs_ne c l)
      | cons a t =>
        rw [hp] at h
        rcases List.mem_cons.1 h with rfl | h
        · have := ih a (by rw [hp]; exact List.mem_cons_self); simp; omega
        · have := ih x (by rw [hp]; exact List.mem_cons_of_mem _ h); simp; omega
theorem pieces_mem (c : UInt8) (s : ByteArray) : ∀ x ∈ pieces c s, x.size ≤ s.size := by
  intro x hx
  obtain ⟨l, hl, rfl⟩ := List.mem_map.1 hx
  have := pcs_mem c _ l hl
  rw [data_length] at this
  show l.toArray.size ≤ _
  simpa using this
theorem pieces_count (c : UInt8) (s : ByteArray) : (pieces c s).length ≤ s.size + 1 := by
  rw [pieces, List.length_map, pcs_length]
  have := List.count_le_length (a := c) (l := s.data.toList)
  rw [data_length] at this
  omega
theorem rdOf_mem {l : List ByteArray} {i : Nat} (h : i < l.length) : rdOf ByteArray.empty l (i : Int) ∈ l := List.mem_of_getElem? (rdOf_get (d := ByteArray.empty) h)
end Go.Proofs.YtkofdkinaahbpaaDoor.Z

/- Numbers in versions, the program's and the reference's. Plain lemmas. -/
set_option linter.unusedVariables false
namespace Go.Proofs.YtkofdkinaahbpaaDoor.Z
open Go.RowKit Go.Proofs.YtkofdkinaahbpaaDoorW.PrintWords Go.Proofs.YtkofdkinaahbpaaDoorW.PrintMore Go.Proofs.YtkofdkinaahbpaaDoor.X Go.Proofs.YtkofdkinaahbpaaDoor.Sp
def isD (u : UInt8) : Bool := decide (48 ≤ u.toNat ∧ u.toNat ≤ 57)
def figs (s : ByteArray) : Bool := s.data.toList.all isD && decide (s.size ≠ 0)
theorem figure_ev (b : Int) : impl_isFigure.f b = some (decide (48 ≤ b ∧ b ≤ 57)) := by
  unfold impl_isFigure.f
  by_cases h : b ≥ 48
  · rw [if_pos h]
    simp [show 48 ≤ b from h]
  · rw [if_neg h]
    simp [show ¬ 48 ≤ b from h]
theorem ne_nil (s : ByteArray) : (s.toList != ([] : List UInt8)) = decide (s.size ≠ 0) := by
  rw [tl]
  have := data_length s
  by_cases h : s.size = 0
  · rw [List.eq_nil_of_length_eq_zero (show s.data.toList.length = 0 by omega)]
    simp [h]
  · have h1 : s.data.toList ≠ [] := fun e => by rw [e] at this; simp at this; omega
    simp [h1, h]
theorem figs_l0 (s : ByteArray) (hs : s.size ≤ 1048576) (d : Nat) : ∀ i : Nat, i + d = s.size → Ev (fun k => impl_isFigures.l0 k s (i : Int)) ((s.data.toList.drop i).all isD && decide (s.size ≠ 0)) ∧ Ev (fun k => spec_l3Digits.l0 k s (i : Int)) ((s.data.toList.drop i).all isD && decide (s.size ≠ 0)) := by
  induction d with
  | zero =>
    intro i hi
    rw [List.drop_eq_nil_of_le (show s.data.toList.length ≤ i by rw [data_length]; omega)]
    constructor
    · refine evS (fun k => by rw [impl_isFigures.l0]) ?_
      exact evF (by omega) (evR (by rw [ne_nil]; rfl))
    · refine evS (fun k => by rw [spec_l3Digits.l0]) ?_
      exact evF (by omega) (evR (by rw [ne_nil]; rfl))
  | succ d ih =>
    intro i hi
    have hl : i < s.data.toList.length := by rw [data_length]; omega
    have hb := byte_at s i (by omega)
    have hlt : (s.data.toList[i]).toNat < 256 := UInt8.toNat_lt _
    have hw : wrap64 (((s.data.toList[i]).toNat : Nat) : Int) = (((s.data.toList[i]).toNat : Nat) : Int) := w64 (by omega)
    obtain ⟨h1, h2⟩ := ih (i + 1) (by omega)
    have he : (s.data.toList.drop i).all isD = (isD s.data.toList[i] && (s.data.toList.drop (i + 1)).all isD) := by
      rw [List.drop_eq_getElem_cons hl]
      rfl
    have hd : decide (48 ≤ (((s.data.toList[i]).toNat : Nat) : Int) ∧ (((s.data.toList[i]).toNat : Nat) : Int) ≤ 57) = isD s.data.toList[i] := by
      unfold isD
      exact decide_eq_decide.2 (by omega)
    rw [he]
    constructor
    · refine evS (fun k => by rw [impl_isFigures.l0]) ?_
      rw [hb, w64s (show i < s.size by omega) (by omega)]
      refine evT (by omega) (evT (by omega) (evC (figure_ev _) ?_))
      rw [hd]
      cases hx : isD s.data.toList[i] with
      | true => exact evT rfl (by simpa using h1)
      | false => exact evF Bool.false_ne_true (evR rfl)
    · refine evS (fun k => by rw [spec_l3Digits.l0]) ?_
      rw [hb, hw, w64s (show i < s.size by omega) (by omega)]
      refine evT (by omega) (evT (by omega) (evC (rng_spec _ _ _) ?_))
      rw [hd]
      cases hx : isD s.data.toList[i] with
      | true => exact evT rfl (by simpa using h2)
      | false => exact evF Bool.false_ne_true (evR rfl)
theorem figs_impl (s : ByteArray) (hs : s.size ≤ 1048576) : Ev (fun k => impl_isFigures.f k s) (figs s) := (figs_l0 s hs s.size 0 (by omega)).1
theorem figs_spec (s : ByteArray) (hs : s.size ≤ 1048576) : Ev (fun k => spec_l3Digits.f k s) (figs s) := (figs_l0 s hs s.size 0 (by omega)).2
def num (s : ByteArray) : Bool := figs s && (decide (s.data.toList = [48]) || decide (bt s 0 ≠ 48))
theorem figs_size {s : ByteArray} (h : figs s = true) : 0 < s.size := by
  simp only [figs, Bool.and_eq_true, decide_eq_true_eq] at h
  have := h.2
  omega
theorem num_impl (s : ByteArray) (hs : s.size ≤ 1048576) : Ev (fun k => impl_isNumber.f k s) (num s) := by
  unfold impl_isNumber.f num
  refine evB (figs_impl s hs) ?_
  cases hf : figs s with
  | false => exact evF Bool.false_ne_true (evR rfl)
  | true =>
    have := figs_size hf
    refine evT rfl ?_
    by_cases h : s.data.toList = [48]
    · exact evT (by rw [tl]; exact h) (evR (by simp [h]))
    · refine evF (by rw [tl]; exact h) (evT (by omega) (evR ?_))
      simp [h, bne, decide_not]
      by_cases hb : bt s 0 = 48
      · simp [hb]
      · simp [hb]
def digit (b : UInt8) : Nat := b.toNat - 48
def valA (a : Nat) (l : List UInt8) : Nat := l.foldl (fun n b => n * 10 + digit b) a
theorem valA_nil (a : Nat) : valA a [] = a := rfl
theorem valA_cons (a : Nat) (b : UInt8) (l : List UInt8) : valA a (b :: l) = valA (a * 10 + digit b) l := by unfold valA; rw [List.foldl_cons]
def val (l : List UInt8) : Nat := valA 0 l
theorem valA_eq (l : List UInt8) : ∀ a : Nat, valA a l = a * 10 ^ l.length + valA 0 l := by
  induction l with
  | nil => intro a; simp [valA_nil]
  | cons b l ih =>
    intro a
    rw [valA_cons, ih, valA_cons, ih (0 * 10 + digit b), List.length_cons, Nat.pow_succ, Nat.add_mul, Nat.zero_mul, Nat.zero_add, Nat.mul_assoc, Nat.mul_comm 10, Nat.add_assoc]
theorem val_cons (b : UInt8) (l : List UInt8) : val (b :: l) = digit b * 10 ^ l.length + val l := by
  unfold val
  rw [valA_cons, valA_eq, Nat.zero_mul, Nat.zero_add]
theorem isD_iff (u : UInt8) : isD u = true ↔ 48 ≤ u.toNat ∧ u.toNat ≤ 57 := by unfold isD; exact decide_eq_true_iff
theorem val_l0 (s : ByteArray) (hs : s.size ≤ 8) (ha : s.data.toList.all isD = true) (d : Nat) : ∀ (i : Nat) (a : Nat), i + d = s.size → a < 10 ^ i → Ev (fun k => spec_l3Number.l0 k s (a : Int) (i : Int)) ((valA a (s.data.toList.drop i) : Nat) : Int) := by
  induction d with
  | zero =>
    intro i a hi hlt
    rw [List.drop_eq_nil_of_le (show s.data.toList.length ≤ i by rw [data_length]; omega)]
    refine evS (fun k => by rw [spec_l3Number.l0]) ?_
    exact evF (by omega) (evR rfl)
  | succ d ih =>
    intro i a hi hlt
    have hl : i < s.data.toList.length := by rw [data_length]; omega
    have hb := byte_at s i (by omega)
    have hD := (isD_iff _).1 (List.all_eq_true.1 ha _ (List.getElem_mem hl))
    have hp : 10 ^ i ≤ 10 ^ 7 := Nat.pow_le_pow_right (by decide) (by omega)
    rw [List.drop_eq_getElem_cons hl, valA_cons]
    unfold digit
    generalize (s.data.toList[i]).toNat = n at *
    have e1 : wrap64 (wrap64 ((a : Int) * 10) + ((n : Int) - 48) % 256) = ((a * 10 + (n - 48) : Nat) : Int) := by
      rw [w64 (x := (a : Int) * 10) (by omega), w64 (by omega)]
      omega
    refine evS (fun k => by rw [spec_l3Number.l0]) ?_
    rw [hb, e1, w64s (show i < s.size by omega) (by omega)]
    refine evT (by omega) (evT (by omega) (ih (i + 1) _ (by omega) ?_))
    rw [Nat.pow_succ]
    omega
/-- A number of at most eight digits. -/
def short (s : ByteArray) : Bool := num s && decide (s.size ≤ 8)
def numS (s : ByteArray) : Int := if short s = true then ((val s.data.toList : Nat) : Int) else -1
theorem head_one (s : ByteArray) (h : s.size = 1) : s.data.toList = [48] ↔ bt s 0 = 48 := by
  have hl : s.data.toList.length = 1 := by rw [data_length]; exact h
  have hb : bt s 0 = _ := byte_at s 0 (by omega)
  obtain ⟨x, hx⟩ := List.length_eq_one_iff.1 hl
  rw [hb]
  simp only [hx, List.getElem_cons_zero, List.cons.injEq, and_true]
  constructor
  · rintro rfl; rfl
  · intro e
    exact UInt8.toNat_inj.1 (by show x.toNat = 48; omega)
theorem numS_spec (s : ByteArray) (hs : s.size ≤ 1048576) : Ev (fun k => spec_l3Number.f k s) (numS s) := by
  unfold spec_l3Number.f
  refine evB (figs_spec s hs) ?_
  cases hf : figs s with
  | false =>
    have e : numS s = -1 := by unfold numS short num; rw [hf]; rfl
    rw [e]
    refine evF Bool.false_ne_true ?_
    refine evS (fun k => by rw [spec_l3Number.j0]) ?_
    exact evT rfl (evR rfl)
  | true =>
    have hz := figs_size hf
    have ha : s.data.toList.all isD = true := by unfold figs at hf; simp at hf; simpa using hf.1
    refine evT rfl ?_
    by_cases h8 : (s.size : Int) > 8
    · have e : numS s = -1 := by
        unfold numS short
        rw [decide_eq_false (by omega), Bool.and_false, if_neg Bool.false_ne_true]
      rw [e]
      refine evT h8 ?_
      refine evS (fun k => by rw [spec_l3Number.j0]) ?_
      exact evT rfl (evR rfl)
    · refine evF h8 ?_
      have hv := val_l0 s (by omega) ha s.size 0 0 (by omega) (by decide)
      have hv' : Ev (fun k => spec_l3Number.l0 k s 0 0) ((val s.data.toList : Nat) : Int) := hv
      by_cases h1 : (s.size : Int) > 1
      · refine evT h1 (evT (by omega) ?_)
        have hne : ¬ s.data.toList = [48] := fun e => by
          have := data_length s
          rw [e] at this
          simp at this
          omega
        by_cases hb : bt s 0 = 48
        · have e : numS s = -1 := by
            unfold numS short num
            rw [decide_eq_false hne, decide_eq_false (fun h => h hb)]
            simp
          rw [e, hb]
          refine evS (fun k => by rw [spec_l3Number.j0]) ?_
          exact evT rfl (evR rfl)
        · have e : numS s = ((val s.data.toList : Nat) : Int) := by
            unfold numS short num
            rw [hf, decide_eq_true hb, decide_eq_true (show s.size ≤ 8 by omega)]
            simp
          rw [e, beq_eq_false_iff_ne.2 hb]
          refine evS (fun k => by rw [spec_l3Number.j0]) ?_
          exact evF Bool.false_ne_true hv'
      · refine evF h1 ?_
        have h11 : s.size = 1 := by omega
        have e : numS s = ((val s.data.toList : Nat) : Int) := by
          unfold numS short num
          rw [hf, decide_eq_true (show s.size ≤ 8 by omega)]
          have := head_one s h11
          by_cases hb : bt s 0 = 48
          · rw [decide_eq_true (this.2 hb)]; simp
          · rw [decide_eq_true hb]; simp
        rw [e]
        refine evS (fun k => by rw [spec_l3Number.j0]) ?_
        exact evF Bool.false_ne_true hv'
end Go.Proofs.YtkofdkinaahbpaaDoor.Z

/- Short numbers: their values. Plain lemmas. -/
set_option linter.unusedVariables false
namespace Go.Proofs.YtkofdkinaahbpaaDoor.Z
open Go.RowKit Go.Proofs.YtkofdkinaahbpaaDoorW.PrintWords Go.Proofs.YtkofdkinaahbpaaDoorW.PrintMore Go.Proofs.YtkofdkinaahbpaaDoor.X Go.Proofs.YtkofdkinaahbpaaDoor.Sp
theorem short_all {s : ByteArray} (h : short s = true) : s.data.toList.all isD = true ∧ 0 < s.size ∧ s.size ≤ 8 ∧ (s.data.toList = [48] ∨ bt s 0 ≠ 48) := by
  simp only [short, num, figs, Bool.and_eq_true, Bool.or_eq_true, decide_eq_true_eq] at h
  exact ⟨h.1.1.1, by have := h.1.1.2; omega, h.2, h.1.2⟩
theorem short_lead {s : ByteArray} (h : short s = true) (h1 : 1 < s.size) : 10 ^ (s.size - 1) ≤ val s.data.toList := by
  obtain ⟨ha, hz, h8, hb⟩ := short_all h
  have hl := data_length s
  have hne : ¬ s.data.toList = [48] := fun e => by rw [e] at hl; simp at hl; omega
  have hb0 := hb.resolve_left hne
  have hat : bt s 0 = _ := byte_at s 0 (by omega)
  cases hs : s.data.toList with
  | nil => rw [hs] at hl; simp at hl; omega
  | cons b l =>
    rw [hat] at hb0
    simp only [hs, List.getElem_cons_zero] at hb0
    rw [hs] at ha hl
    simp only [List.all_cons, Bool.and_eq_true] at ha
    have hd := (isD_iff b).1 ha.1
    rw [val_cons, show s.size - 1 = l.length by simp at hl; omega]
    have : 1 * 10 ^ l.length ≤ digit b * 10 ^ l.length := Nat.mul_le_mul_right _ (by unfold digit; omega)
    omega
theorem numS_pos (s : ByteArray) : 0 ≤ numS s ↔ short s = true := by
  unfold numS
  split
  · rename_i h; simp [h]
  · rename_i h; simp [h]
theorem numS_val {s : ByteArray} (h : short s = true) : numS s = ((val s.data.toList : Nat) : Int) := by unfold numS; rw [if_pos h]
end Go.Proofs.YtkofdkinaahbpaaDoor.Z

namespace Go.Proofs.YtkofdkinaahbpaaDoor.X
open Go.RowKit Go.Proofs.YtkofdkinaahbpaaDoorW.PrintWords Go.Proofs.YtkofdkinaahbpaaDoorW.PrintLast Go.Proofs.YtkofdkinaahbpaaDoorW.PrintMore
attribute [local go_sem] max2_int min2_int max_two min_two max_three min_three max_four min_four   -- for this text's walks alone
set_option linter.unusedVariables false
set_option linter.unusedSimpArgs false

/-! ### spec_l3Text: function 77 -/
def spec_l3Text.f : Nat → Int → Option (ByteArray)
  | 0, _ => none
  | k + 1, a0 => if a0 < 10 then (some (strOfNums (([(wrap64 (48 + a0)) % 256] : List Int)))) else ((spec_l3Text.f k (wrap64 (Int.tdiv a0 10))).bind fun t236 => ((some (([(wrap64 (48 + (Int.tmod a0 10))) % 256] : List Int) : List Int)).bind fun y237 => (if t236.size + (strOfNums y237).size ≤ 9223372036854775807 then (some (t236 ++ (strOfNums y237))) else (none))))

end Go.Proofs.YtkofdkinaahbpaaDoor.X

/- Decimal texts and their numbers. Plain lemmas. -/
set_option linter.unusedVariables false
namespace Go.Proofs.YtkofdkinaahbpaaDoor.Z
open Go.RowKit Go.Proofs.YtkofdkinaahbpaaDoorW.PrintWords Go.Proofs.YtkofdkinaahbpaaDoorW.PrintMore Go.Proofs.YtkofdkinaahbpaaDoor.X Go.Proofs.YtkofdkinaahbpaaDoor.Sp
theorem decFrom_ev (l : List UInt8) (hd : l.all isD = true) : ∀ a : Nat, Lib.decFrom a l = some (valA a l) := by
  induction l with
  | nil => intro a; rfl
  | cons b l ih =>
    intro a
    simp only [List.all_cons, Bool.and_eq_true] at hd
    have hb := (isD_iff b).1 hd.1
    rw [valA_cons]
    unfold Lib.decFrom Lib.digitVal
    rw [if_pos hb]
    exact ih hd.2 _
theorem atoi_val {s : ByteArray} (h : num s = true) : Lib.atoi s.data.toList = some ((val s.data.toList : Nat) : Int) := by
  simp only [num, figs, Bool.and_eq_true, Bool.or_eq_true, decide_eq_true_eq] at h
  obtain ⟨⟨ha, hz⟩, hb⟩ := h
  have hl := data_length s
  cases hs : s.data.toList with
  | nil => rw [hs] at hl; simp at hl; omega
  | cons b l =>
    rw [hs] at ha
    have ha' := ha
    simp only [List.all_cons, Bool.and_eq_true] at ha
    have hb := (isD_iff b).1 ha.1
    have h1 : (b == 45) = false := beq_eq_false_iff_ne.2 (fun e => by subst e; revert hb; decide)
    have h2 : (b == 43) = false := beq_eq_false_iff_ne.2 (fun e => by subst e; revert hb; decide)
    simp only [Lib.atoi, h1, h2, Bool.false_eq_true, if_false]
    unfold Lib.decNat
    rw [decFrom_ev _ ha']
    rfl
end Go.Proofs.YtkofdkinaahbpaaDoor.Z

/- Parts of a path, the program's and the reference's: the same. Plain lemmas. -/
set_option linter.unusedVariables false
namespace Go.Proofs.YtkofdkinaahbpaaDoor.Z
open Go.RowKit Go.Proofs.YtkofdkinaahbpaaDoorW.PrintWords Go.Proofs.YtkofdkinaahbpaaDoorW.PrintMore Go.Proofs.YtkofdkinaahbpaaDoor.X Go.Proofs.YtkofdkinaahbpaaDoor.Sp
theorem fig_impl (b : Int) : impl_isFigure.f b = some (decide (48 ≤ b ∧ b ≤ 57)) := by
  unfold impl_isFigure.f
  by_cases h : b ≥ 48
  · rw [if_pos h]
    simp [show 48 ≤ b from h]
  · rw [if_neg h]
    simp [show ¬ 48 ≤ b from h]
theorem ev_rest {c0 : Bool} {z e1 e2 e3 : Prop} [Decidable z] [Decidable e1] [Decidable e2] [Decidable e3] {A : Nat → Option Bool} {r : Bool} (H : (c0 = true ∨ ¬ z ∧ (e1 ∨ e2 ∨ e3)) → Ev A r) (H' : ¬ (c0 = true ∨ ¬ z ∧ (e1 ∨ e2 ∨ e3)) → r = false) :
    Ev (fun k => if c0 = true then A k else if z then some false else if e1 then A k else if e2 then A k else if e3 then A k else some false) r := by
  refine evI (fun h => H (.inl h)) (fun h0 => evI (fun hz => evR (H' (by simp [h0, hz])).symm) (fun hz => evI (fun h => H (.inr ⟨hz, .inl h⟩)) (fun h1 => evI (fun h => H (.inr ⟨hz, .inr (.inl h)⟩)) (fun h2 => evI (fun h => H (.inr ⟨hz, .inr (.inr h)⟩)) (fun h3 => evR (H' ?_).symm)))))
  rintro (h | ⟨_, h | h | h⟩)
  · exact h0 h
  · exact h1 h
  · exact h2 h
  · exact h3 h
theorem part_both (s : ByteArray) (hs : s.size ≤ 1048576) (d : Nat) : ∀ i : Nat, i + d = s.size → ∃ r, Ev (fun k => impl_pathPartOk.l0 k s (i : Int)) r ∧ Ev (fun k => spec_l4Part.l0 k s (i : Int)) r := by
  induction d with
  | zero =>
    intro i hi
    refine ⟨decide ((1 : Int) ≤ s.size ∧ (s.size : Int) ≤ 20), ?_, ?_⟩
    · refine evS (fun k => by rw [impl_pathPartOk.l0]) (evF (by omega) ?_)
      exact evC (rng_impl _ _ _) (evR rfl)
    · refine evS (fun k => by rw [spec_l4Part.l0]) (evF (by omega) ?_)
      exact evC (rng_spec _ _ _) (evR rfl)
  | succ d ih =>
    intro i hi
    have hb := bt_range s (i : Int)
    obtain ⟨r, h1, h2⟩ := ih (i + 1) (by omega)
    have hw : wrap64 (bt s (i : Int)) = bt s (i : Int) := w64 (by omega)
    generalize hx : bt s (i : Int) = b at hb hw
    obtain ⟨r', hr⟩ : ∃ r', r' = if (97 ≤ b ∧ b ≤ 122) ∨ (48 ≤ b ∧ b ≤ 57) ∨ ¬ (i : Int) = 0 ∧ (b = 45 ∨ b = 46 ∨ b = 95) then r else false := ⟨_, rfl⟩
    have Hr : ∀ {A : Nat → Option Bool}, Ev A r → (¬ (97 ≤ b ∧ b ≤ 122)) → (decide (48 ≤ b ∧ b ≤ 57) = true ∨ ¬ (i : Int) = 0 ∧ (b = 45 ∨ b = 46 ∨ b = 95)) → Ev A r' := fun hA _ h => by
      rw [hr, if_pos (.inr (by simpa using h))]
      exact hA
    have Hn : (¬ (97 ≤ b ∧ b ≤ 122)) → ¬ (decide (48 ≤ b ∧ b ≤ 57) = true ∨ ¬ (i : Int) = 0 ∧ (b = 45 ∨ b = 46 ∨ b = 95)) → r' = false := fun ha h => by
      rw [hr, if_neg]
      rintro (h' | h')
      · exact ha h'
      · exact h (by simpa using h')
    have Hl : ∀ {A : Nat → Option Bool}, Ev A r → (97 ≤ b ∧ b ≤ 122) → Ev A r' := fun hA h => by
      rw [hr, if_pos (.inl h)]
      exact hA
    refine ⟨r', ?_, ?_⟩
    · refine evS (fun k => by rw [impl_pathPartOk.l0]) ?_
      rw [hx, w64s (show i < s.size by omega) (by omega)]
      refine evT (by omega) (evT (by omega) ?_)
      by_cases ha : b ≥ 97
      · refine evT ha ?_
        by_cases hc : b ≤ 122
        · exact evT hc (Hl h1 ⟨ha, hc⟩)
        · refine evF hc (evC (fig_impl b) ?_)
          exact ev_rest (Hr h1 (fun h => hc h.2)) (Hn (fun h => hc h.2))
      · refine evF ha (evC (fig_impl b) ?_)
        exact ev_rest (Hr h1 (fun h => ha h.1)) (Hn (fun h => ha h.1))
    · refine evS (fun k => by rw [spec_l4Part.l0]) ?_
      rw [hx, hw, w64s (show i < s.size by omega) (by omega)]
      refine evT (by omega) (evT (by omega) (evC (rng_spec _ _ _) ?_))
      by_cases ha : 97 ≤ b ∧ b ≤ 122
      · exact evT (decide_eq_true ha) (Hl h2 ha)
      · refine evF (by simpa using ha) (evC (rng_spec _ _ _) ?_)
        exact ev_rest (Hr h2 ha) (Hn ha)
theorem part_nil (s : ByteArray) (h : s.size = 0) : Ev (fun k => impl_pathPartOk.f k s) false := by
  show Ev (fun k => impl_pathPartOk.l0 k s 0) false
  refine evS (fun k => by rw [impl_pathPartOk.l0]) (evF (by omega) ?_)
  exact evC (rng_impl _ _ _) (evR (decide_eq_false (by omega)))
theorem path_l0 (s : ByteArray) (l : List ByteArray) (hl : l.length ≤ 1048577) (hm : ∀ x ∈ l, x.size ≤ 1048576) (d : Nat) : ∀ i : Nat, i + d = l.length → ∃ r, Ev (fun k => impl_PathOk.l0 k s l l (l.length : Int) (i : Int)) r ∧ Ev (fun k => spec_PathOk.l0 k s l (i : Int)) r ∧ (r = true → ∀ x ∈ l.drop i, 1 ≤ x.size) := by
  induction d with
  | zero =>
    intro i hi
    have hnil : ∀ b : Bool, b = true → ∀ x ∈ l.drop i, 1 ≤ x.size := fun b _ x hx => by rw [List.drop_eq_nil_of_le (by omega)] at hx; cases hx
    by_cases h6 : (l.length : Int) ≤ 6
    · refine ⟨decide ((s.size : Int) ≤ 60), ?_, ?_, hnil _⟩
      · refine evS (fun k => by rw [impl_PathOk.l0]) (evF (by omega) (evT h6 (evR rfl)))
      · refine evS (fun k => by rw [spec_PathOk.l0]) (evF (by omega) (evT h6 (evR rfl)))
    · refine ⟨false, ?_, ?_, hnil _⟩
      · refine evS (fun k => by rw [impl_PathOk.l0]) (evF (by omega) (evF h6 (evR rfl)))
      · refine evS (fun k => by rw [spec_PathOk.l0]) (evF (by omega) (evF h6 (evR rfl)))
  | succ d ih =>
    intro i hi
    have hz := hm _ (rdOf_mem (l := l) (i := i) (by omega))
    obtain ⟨b, p1, p2⟩ := part_both (rdOf ByteArray.empty l (i : Int)) hz _ 0 (Nat.zero_add _)
    obtain ⟨r, h1, h2, h3⟩ := ih (i + 1) (by omega)
    have il : i < l.length := by omega
    have gl : rdOf ByteArray.empty l (i : Int) = l[i] := by
      have := rdOf_get (d := ByteArray.empty) il
      rw [List.getElem?_eq_getElem il] at this
      exact (Option.some.inj this).symm
    have q1 : Ev (fun k => impl_pathPartOk.f k (rdOf ByteArray.empty l (i : Int))) b := p1
    have q2 : Ev (fun k => spec_l4Part.f k (rdOf ByteArray.empty l (i : Int))) b := p2
    cases b with
    | true =>
      refine ⟨r, ?_, ?_, fun hr x hx => ?_⟩
      rotate_left 2
      · rw [List.drop_eq_getElem_cons il] at hx
        rcases List.mem_cons.1 hx with rfl | hx
        · rw [gl] at q1
          rcases Nat.eq_zero_or_pos l[i].size with h0 | h0
          · have := ev_one q1 (part_nil _ h0)
            cases this
          · exact h0
        · exact h3 hr x hx
      · refine evS (fun k => by rw [impl_PathOk.l0]) ?_
        rw [w64s (show i < l.length by omega) (by omega)]
        exact evT (by omega) (evT (by omega) (evT (by omega) (evB q1 (evT rfl h1))))
      · refine evS (fun k => by rw [spec_PathOk.l0]) ?_
        rw [w64s (show i < l.length by omega) (by omega)]
        exact evT (by omega) (evT (by omega) (evB q2 (evT rfl h2)))
    | false =>
      refine ⟨false, ?_, ?_, fun h => by cases h⟩
      · refine evS (fun k => by rw [impl_PathOk.l0]) ?_
        exact evT (by omega) (evT (by omega) (evT (by omega) (evB q1 (evF Bool.false_ne_true (evR rfl)))))
      · refine evS (fun k => by rw [spec_PathOk.l0]) ?_
        exact evT (by omega) (evT (by omega) (evB q2 (evF Bool.false_ne_true (evR rfl))))
theorem split_impl (s : ByteArray) (hs : s.size ≤ 1048576) (c : UInt8) : strings_Split.f s (⟨#[c]⟩ : ByteArray) = some (pieces c s) := by
  unfold strings_Split.f
  rw [if_pos ⟨by omega, rfl⟩]
  rfl
theorem pathOk_both (s : ByteArray) (hs : s.size ≤ 1048576) : ∃ r, Ev (fun k => impl_PathOk.f k s) r ∧ Ev (fun k => spec_PathOk.f k s) r ∧ (r = true → ∀ x ∈ pieces 47 s, 1 ≤ x.size) := by
  have hc := pieces_count 47 s
  obtain ⟨r, h1, h2, h3⟩ := path_l0 s (pieces 47 s) (by omega) (fun x hx => by have := pieces_mem 47 s x hx; omega) _ 0 (Nat.zero_add _)
  have hS : Ev (fun k => spec_l3Split.f k s 47) (pieces 47 s) := split_spec s hs 47
  refine ⟨r, ?_, ?_, h3⟩
  · unfold impl_PathOk.f
    exact evC (split_impl s hs 47) h1
  · unfold spec_PathOk.f
    exact evB hS h2
end Go.Proofs.YtkofdkinaahbpaaDoor.Z

/- A path's last part that tells a number, the program's way and the reference's. Plain lemmas. -/
set_option linter.unusedVariables false
namespace Go.Proofs.YtkofdkinaahbpaaDoor.Z
open Go.RowKit Go.Proofs.YtkofdkinaahbpaaDoorW.PrintWords Go.Proofs.YtkofdkinaahbpaaDoorW.PrintMore Go.Proofs.YtkofdkinaahbpaaDoor.X Go.Proofs.YtkofdkinaahbpaaDoor.Sp
/-- Where the last byte c lies; -1: nowhere. -/
def lastIx (c : UInt8) (l : List UInt8) : Int := match l.reverse.findIdx? (· = c) with | some j => (l.length : Int) - 1 - j | none => -1
theorem lastIx_snoc_eq (c : UInt8) (l : List UInt8) : lastIx c (l ++ [c]) = l.length := by
  unfold lastIx
  rw [List.reverse_append, List.reverse_singleton, List.singleton_append, List.findIdx?_cons]
  simp
theorem lastIx_snoc_ne (b c : UInt8) (l : List UInt8) (h : b ≠ c) : lastIx c (l ++ [b]) = lastIx c l := by
  unfold lastIx
  rw [List.reverse_append, List.reverse_singleton, List.singleton_append, List.findIdx?_cons]
  simp only [h, decide_false, Bool.false_eq_true, if_false]
  cases l.reverse.findIdx? (fun x => decide (x = c)) with
  | none => rfl
  | some j => simp; omega
theorem last_l0 (s : ByteArray) (hs : s.size ≤ 1048576) (c : UInt8) : ∀ i : Nat, i ≤ s.size → Ev (fun k => bytealg_LastIndexByteString.l0 k s (c.toNat : Int) ((i : Int) - 1)) (lastIx c (s.data.toList.take i)) := by
  intro i
  induction i with
  | zero =>
    intro hi
    refine evS (fun k => by rw [bytealg_LastIndexByteString.l0]) ?_
    exact evF (by omega) (evR rfl)
  | succ i ih =>
    intro hi
    have hl : i < s.data.toList.length := by rw [data_length]; omega
    have hb := byte_at s i (by omega)
    have e0 : (((i + 1 : Nat) : Int) - 1) = (i : Int) := by omega
    rw [e0, List.take_succ_eq_append_getElem hl]
    refine evS (fun k => by rw [bytealg_LastIndexByteString.l0]) ?_
    rw [hb, w64 (x := (i : Int) - 1) (by omega)]
    refine evT (by omega) (evT (by omega) (evT (by omega) ?_))
    by_cases hc : s.data.toList[i] = c
    · refine evT (by rw [hc]) (evR ?_)
      rw [hc, lastIx_snoc_eq, List.length_take, Nat.min_eq_left (by omega)]
    · refine evF (fun e => hc (UInt8.toNat_inj.1 (by omega))) ?_
      rw [lastIx_snoc_ne _ _ _ hc]
      exact ih (by omega)
theorem last_ev (s : ByteArray) (hs : s.size ≤ 1048576) (c : UInt8) : Ev (fun k => strings_LastIndexByte.f k s (c.toNat : Int)) (lastIx c s.data.toList) := by
  unfold strings_LastIndexByte.f
  refine evB (a := lastIx c s.data.toList) ?_ (evR rfl)
  unfold bytealg_LastIndexByteString.f
  rw [w64 (x := (s.size : Int) - 1) (by omega)]
  have := last_l0 s hs c s.size (Nat.le_refl _)
  rwa [List.take_of_length_le (by rw [data_length]; exact Nat.le_refl _)] at this
/-- The last piece, and what is ahead of it. -/
theorem pcs_last (c : UInt8) : ∀ l : List UInt8, (lastIx c l = -1 ∧ pcs c l = [l]) ∨ ∃ a b : List UInt8, l = a ++ c :: b ∧ lastIx c l = a.length ∧ (pcs c l).getLast? = some b ∧ 2 ≤ (pcs c l).length := by
  intro l
  induction l with
  | nil => exact .inl ⟨rfl, rfl⟩
  | cons x l ih =>
    have hap : ∀ (y : UInt8) (m : List UInt8), lastIx c (y :: m) = if lastIx c m = -1 then (if y = c then 0 else -1) else lastIx c m + 1 := by
      intro y m
      unfold lastIx
      rw [List.reverse_cons, List.findIdx?_append]
      cases hf : m.reverse.findIdx? (fun x => decide (x = c)) with
      | some j =>
        have hj := List.findIdx?_eq_some_iff_getElem.1 hf
        obtain ⟨hj1, _⟩ := hj
        rw [List.length_reverse] at hj1
        simp only [Option.some_or, List.length_cons]
        rw [if_neg (by omega)]
        omega
      | none =>
        by_cases hy : y = c
        · simp [hy]
        · simp [hy]
    rw [hap]
    rcases ih with ⟨h1, h2⟩ | ⟨a, b, h1, h2, h3, h4⟩
    · rw [if_pos h1]
      by_cases hx : x = c
      · right
        refine ⟨[], l, by rw [hx]; rfl, by rw [if_pos hx]; rfl, ?_, ?_⟩
        · rw [pcs, if_pos hx, h2]
          rfl
        · rw [pcs, if_pos hx, h2]
          simp
      · left
        rw [if_neg hx]
        exact ⟨rfl, by rw [pcs, if_neg hx, h2]; rfl⟩
    · rw [if_neg (by omega)]
      right
      refine ⟨x :: a, b, by rw [h1]; rfl, by rw [h2]; simp, ?_, ?_⟩
      · by_cases hx : x = c
        · rw [pcs, if_pos hx]
          cases hp : pcs c l with
          | nil => exact absurd hp (pcs_ne c l)
          | cons u v => rw [hp] at h3; rw [List.getLast?_cons_cons]; exact h3
        · rw [pcs, if_neg hx]
          cases hp : pcs c l with
          | nil => exact absurd hp (pcs_ne c l)
          | cons u v =>
            cases v with
            | nil => rw [hp] at h4; simp at h4
            | cons p q =>
              rw [hp] at h3
              rw [List.getLast?_cons_cons] at h3
              show ((x :: u) :: p :: q).getLast? = some b
              rw [List.getLast?_cons_cons]
              exact h3
      · by_cases hx : x = c
        · rw [pcs, if_pos hx]; simp; omega
        · rw [pcs, if_neg hx]
          cases hp : pcs c l with
          | nil => exact absurd hp (pcs_ne c l)
          | cons u v => rw [hp] at h4; simpa [onto] using h4
end Go.Proofs.YtkofdkinaahbpaaDoor.Z

/- The number that a text is, the program's way; ends of texts. Plain lemmas. -/
set_option linter.unusedVariables false
namespace Go.Proofs.YtkofdkinaahbpaaDoor.Z
open Go.RowKit Go.Proofs.YtkofdkinaahbpaaDoorW.PrintWords Go.Proofs.YtkofdkinaahbpaaDoorW.PrintMore Go.Proofs.YtkofdkinaahbpaaDoor.X Go.Proofs.YtkofdkinaahbpaaDoor.Sp
theorem ext_end (s : ByteArray) (f : Nat) : s.extract f s.size = toB (s.data.toList.drop f) := by
  rw [ext_list]
  unfold toB
  rw [List.take_of_length_le (by rw [List.length_drop, data_length]; exact Nat.le_refl _)]
theorem toB_size (l : List UInt8) : (toB l).size = l.length := by
  show l.toArray.size = _
  rw [List.size_toArray]
theorem toB_data (l : List UInt8) : (toB l).data.toList = l := by unfold toB; simp
theorem pieces_toB (c : UInt8) (s : ByteArray) : pieces c s = (pcs c s.data.toList).map toB := rfl
theorem numberOf_ev (t : ByteArray) (ht : t.size ≤ 1048576) (m : Int) (hm : m ≤ 18) : Ev (fun k => impl_numberOf.f k t m) (if num t = true ∧ (t.size : Int) ≤ m then (((val t.data.toList : Nat) : Int), true) else (0, false)) := by
  unfold impl_numberOf.f
  refine evB (num_impl t ht) ?_
  cases hn : num t with
  | false => exact evF Bool.false_ne_true (evR (by simp))
  | true =>
    refine evT rfl ?_
    by_cases h : (t.size : Int) > m
    · exact evT h (evR (by rw [if_neg (fun e => by omega)]))
    · refine evF h (evT (by omega) (evC (atoi_val hn) (evR ?_)))
      rw [if_pos ⟨rfl, by omega⟩]
theorem pow4 {n : Nat} (h : 4 ≤ n) : 10000 ≤ 10 ^ n := Nat.le_trans (by decide) (Nat.pow_le_pow_right (show 0 < 10 by decide) h)
theorem small4 {t : ByteArray} (hsh : short t = true) (h : ((val t.data.toList : Nat) : Int) ≤ 1000) : t.size ≤ 4 := by
  rcases Nat.lt_or_ge 4 t.size with h5 | h5
  · have hle := short_lead hsh (by omega)
    have h10 := pow4 (n := t.size - 1) (by omega)
    generalize val t.data.toList = v at *
    generalize 10 ^ (t.size - 1) = p at *
    omega
  · exact h5
end Go.Proofs.YtkofdkinaahbpaaDoor.Z

/- A path's number, the program's way and the reference's: the same. Plain lemmas. -/
set_option linter.unusedVariables false
namespace Go.Proofs.YtkofdkinaahbpaaDoor.Z
open Go.RowKit Go.Proofs.YtkofdkinaahbpaaDoorW.PrintWords Go.Proofs.YtkofdkinaahbpaaDoorW.PrintMore Go.Proofs.YtkofdkinaahbpaaDoor.X Go.Proofs.YtkofdkinaahbpaaDoor.Sp
theorem w64p1 (a : Nat) (h : a ≤ 2000000) : wrap64 ((a : Int) + 1) = ((a + 1 : Nat) : Int) := by rw [w64 (by omega)]; omega
theorem w64p2 (a : Nat) (h : a ≤ 2000000) : wrap64 ((a : Int) + 2) = ((a + 2 : Nat) : Int) := by rw [w64 (by omega)]; omega
end Go.Proofs.YtkofdkinaahbpaaDoor.Z

/- A path's number and base, the program's and the reference's functions: the same. Plain lemmas. -/
set_option linter.unusedVariables false
namespace Go.Proofs.YtkofdkinaahbpaaDoor.Z
open Go.RowKit Go.Proofs.YtkofdkinaahbpaaDoorW.PrintWords Go.Proofs.YtkofdkinaahbpaaDoorW.PrintMore Go.Proofs.YtkofdkinaahbpaaDoor.X Go.Proofs.YtkofdkinaahbpaaDoor.Sp
end Go.Proofs.YtkofdkinaahbpaaDoor.Z

namespace Go.Proofs.YtkofdkinaahbpaaDoor.X
open Go.RowKit Go.Proofs.YtkofdkinaahbpaaDoorW.PrintWords Go.Proofs.YtkofdkinaahbpaaDoorW.PrintLast Go.Proofs.YtkofdkinaahbpaaDoorW.PrintMore
attribute [local go_sem] max2_int min2_int max_two min_two max_three min_three max_four min_four   -- for this text's walks alone
set_option linter.unusedVariables false
set_option linter.unusedSimpArgs false

/-! ### spec_l5Need: function 73 -/
def spec_l5Need.f (k : Nat) (s0_0 : List Int) (s0_1 : Int) (s0_2 : Int) : Option (ByteArray × Int × Int × Int × ByteArray × Int × Int) := (spec_l4Path.f s0_0 s0_1 s0_2).bind fun bt459 => ((spec_l3Draw.f s0_0 bt459.2.1 bt459.2.2).bind fun bt462 => ((spec_MajorOf.f k bt459.1).bind fun t469 => (if t469 = 1 then ((spec_l1Once.f s0_0 bt462.2.2.2.2.1 bt462.2.2.2.2.2 4).bind fun bt470 => (if bt470.1 = true then (some (bt459.1, 0, bt462.2.1, bt462.2.2.1, bt462.2.2.2.1, bt470.2.1, bt470.2.2)) else (some (bt459.1, t469, bt462.2.1, bt462.2.2.1, bt462.2.2.2.1, bt470.2.1, bt470.2.2)))) else (some (bt459.1, t469, bt462.2.1, bt462.2.2.1, bt462.2.2.2.1, bt462.2.2.2.2.1, bt462.2.2.2.2.2)))))

end Go.Proofs.YtkofdkinaahbpaaDoor.X

/- Drawn paths and needs: always some, of small size. Plain lemmas. -/
set_option linter.unusedVariables false
namespace Go.Proofs.YtkofdkinaahbpaaDoor.Z
open Go.RowKit Go.Proofs.YtkofdkinaahbpaaDoorW.PrintWords Go.Proofs.YtkofdkinaahbpaaDoorW.PrintMore Go.Proofs.YtkofdkinaahbpaaDoor.X
def paths6 : List ByteArray := [(⟨#[97, 46, 111, 114, 103, 47, 120]⟩ : ByteArray), (⟨#[97, 46, 111, 114, 103, 47, 121]⟩ : ByteArray), (⟨#[98, 46, 105, 111, 47, 122]⟩ : ByteArray), (⟨#[98, 46, 105, 111, 47, 122, 47, 118, 50]⟩ : ByteArray), (⟨#[99]⟩ : ByteArray), (⟨#[97, 46, 111, 114, 103, 47, 119]⟩ : ByteArray)]
def odds16 : List ByteArray := [(⟨#[]⟩ : ByteArray), (⟨#[47]⟩ : ByteArray), (⟨#[97, 47, 47, 98]⟩ : ByteArray), (⟨#[65]⟩ : ByteArray), (⟨#[45, 97]⟩ : ByteArray), (⟨#[97, 47, 118, 49]⟩ : ByteArray), (⟨#[97, 47, 118, 50]⟩ : ByteArray), (⟨#[97, 47, 118, 48, 50]⟩ : ByteArray), (⟨#[118, 50]⟩ : ByteArray), (⟨#[97, 47, 118, 49, 48, 48, 48]⟩ : ByteArray), (⟨#[97, 47, 118, 49, 48, 48, 49]⟩ : ByteArray), (⟨#[97, 47, 98, 47, 99, 47, 100, 47, 101, 47, 102]⟩ : ByteArray), (⟨#[97, 47, 98, 47, 99, 47, 100, 47, 101, 47, 102, 47, 103]⟩ : ByteArray), (⟨#[116, 119, 101, 110, 116, 121, 111, 110, 101, 98, 121, 116, 101, 115, 45, 116, 119, 101, 110, 116, 121]⟩ : ByteArray), (⟨#[97, 46, 98, 95, 99, 45, 100, 47, 118, 51]⟩ : ByteArray), (⟨#[46, 97]⟩ : ByteArray)]
theorem paths_small : ∀ p ∈ paths6, p.size ≤ 100 := by decide +kernel
theorem odds_small : ∀ p ∈ odds16, p.size ≤ 100 := by decide +kernel
theorem path4_some (l : List Int) (hl : l.length ≤ 140737488355328) (i h : Int) (hi : At l i) : ∃ s i' h', spec_l4Path.f l i h = some (s, i', h') ∧ s ∈ paths6 ∧ At l i' := by
  obtain ⟨s, i1, h1, e1, s0, a1⟩ := str_some l hl i h paths6 hi (by decide) (by decide)
  have e1' := e1
  unfold paths6 at e1'
  unfold spec_l4Path.f
  rw [e1']
  exact ⟨s, i1, h1, rfl, s0, a1⟩
theorem any4_some (l : List Int) (hl : l.length ≤ 140737488355328) (i h : Int) (hi : At l i) : ∃ s i' h', spec_l4Any.f l i h = some (s, i', h') ∧ (s ∈ odds16 ∨ s ∈ paths6) ∧ s.size ≤ 100 ∧ At l i' := by
  obtain ⟨n, i1, h1, e1, _, _, a1⟩ := below_some l hl i h 4 hi (by omega)
  have e2 : spec_l1Once.f l i h 4 = some (n == 0, i1, h1) := by unfold spec_l1Once.f; rw [e1]; rfl
  unfold spec_l4Any.f
  rw [e2]
  simp only [Option.bind_some]
  cases hn : (n == 0) with
  | true =>
    obtain ⟨s, i2, h2, e3, s0, a2⟩ := str_some l hl i1 h1 odds16 a1 (by decide) (by decide)
    have e3' := e3
    unfold odds16 at e3'
    rw [if_pos rfl, e3']
    exact ⟨s, i2, h2, rfl, .inl s0, odds_small s s0, a2⟩
  | false =>
    obtain ⟨s, i2, h2, e3, s0, a2⟩ := path4_some l hl i1 h1 a1
    rw [if_neg Bool.false_ne_true, e3]
    exact ⟨s, i2, h2, rfl, .inr s0, paths_small s s0, a2⟩
end Go.Proofs.YtkofdkinaahbpaaDoor.Z

/- Right versions, the program's and the reference's: the same. Plain lemmas. -/
set_option linter.unusedVariables false
namespace Go.Proofs.YtkofdkinaahbpaaDoor.Z
open Go.RowKit Go.Proofs.YtkofdkinaahbpaaDoorW.PrintWords Go.Proofs.YtkofdkinaahbpaaDoorW.PrintMore Go.Proofs.YtkofdkinaahbpaaDoor.X Go.Proofs.YtkofdkinaahbpaaDoor.Sp
/-- A sign of a part. -/
def pch (b : Int) : Prop := (97 ≤ b ∧ b ≤ 122) ∨ (65 ≤ b ∧ b ≤ 90) ∨ (48 ≤ b ∧ b ≤ 57) ∨ b = 45
instance (b : Int) : Decidable (pch b) := by unfold pch; infer_instance
def pchU (u : UInt8) : Bool := decide (pch (u.toNat : Int))
theorem ev_fig {b : Int} {A : Nat → Option Bool} {r : Bool} (H : (48 ≤ b ∧ b ≤ 57) ∨ b = 45 → Ev A r) (H' : ¬ ((48 ≤ b ∧ b ≤ 57) ∨ b = 45) → r = false) :
    Ev (fun k => (impl_isFigure.f b).bind fun t => if t = true then A k else if b = 45 then A k else some false) r := by
  refine evC (figure_ev b) ?_
  by_cases h : 48 ≤ b ∧ b ≤ 57
  · exact evT (decide_eq_true h) (H (.inl h))
  · refine evF (by simpa using h) ?_
    by_cases h2 : b = 45
    · exact evT h2 (H (.inr h2))
    · exact evF h2 (evR (H' (fun e => e.elim h h2)).symm)
theorem ev_sign {b : Int} {A : Nat → Option Bool} {r : Bool} (H : pch b → Ev A r) (H' : ¬ pch b → r = false) :
    Ev (fun k => if b ≥ 97 then (if b ≤ 122 then A k else (if b ≥ 65 then (if b ≤ 90 then A k else ((impl_isFigure.f b).bind fun t => if t = true then A k else if b = 45 then A k else some false)) else ((impl_isFigure.f b).bind fun t => if t = true then A k else if b = 45 then A k else some false))) else (if b ≥ 65 then (if b ≤ 90 then A k else ((impl_isFigure.f b).bind fun t => if t = true then A k else if b = 45 then A k else some false)) else ((impl_isFigure.f b).bind fun t => if t = true then A k else if b = 45 then A k else some false))) r := by
  have F : (¬ (97 ≤ b ∧ b ≤ 122)) → (¬ (65 ≤ b ∧ b ≤ 90)) → Ev (fun k => (impl_isFigure.f b).bind fun t => if t = true then A k else if b = 45 then A k else some false) r := fun h1 h2 =>
    ev_fig (fun h => H (by unfold pch; omega)) (fun h => H' (by unfold pch; omega))
  have M : (¬ (97 ≤ b ∧ b ≤ 122)) → Ev (fun k => if b ≥ 65 then (if b ≤ 90 then A k else ((impl_isFigure.f b).bind fun t => if t = true then A k else if b = 45 then A k else some false)) else ((impl_isFigure.f b).bind fun t => if t = true then A k else if b = 45 then A k else some false)) r := fun h1 => by
    by_cases h : b ≥ 65
    · refine evT h ?_
      by_cases h2 : b ≤ 90
      · exact evT h2 (H (by unfold pch; omega))
      · exact evF h2 (F h1 (by omega))
    · exact evF h (F h1 (by omega))
  by_cases h : b ≥ 97
  · refine evT h ?_
    by_cases h2 : b ≤ 122
    · exact evT h2 (H (by unfold pch; omega))
    · exact evF h2 (M (by omega))
  · exact evF h (M (by omega))
theorem ev_signS {b : Int} {A : Nat → Option Bool} {r : Bool} (H : pch b → Ev A r) (H' : ¬ pch b → r = false) :
    Ev (fun k => (spec_l1In.f b 97 122).bind fun t => (if t = true then A k else ((spec_l1In.f b 65 90).bind fun t => (if t = true then A k else ((spec_l1In.f b 48 57).bind fun t => (if t = true then A k else (if b = 45 then A k else (some false)))))))) r := by
  refine evC (rng_spec _ _ _) ?_
  by_cases h1 : 97 ≤ b ∧ b ≤ 122
  · exact evT (decide_eq_true h1) (H (by unfold pch; omega))
  refine evF (by simpa using h1) (evC (rng_spec _ _ _) ?_)
  by_cases h2 : 65 ≤ b ∧ b ≤ 90
  · exact evT (decide_eq_true h2) (H (by unfold pch; omega))
  refine evF (by simpa using h2) (evC (rng_spec _ _ _) ?_)
  by_cases h3 : 48 ≤ b ∧ b ≤ 57
  · exact evT (decide_eq_true h3) (H (by unfold pch; omega))
  refine evF (by simpa using h3) ?_
  by_cases h4 : b = 45
  · exact evT h4 (H (by unfold pch; omega))
  · exact evF h4 (evR (H' (by unfold pch; omega)).symm)
/-- A part. -/
def prtE (s : ByteArray) : Bool := decide ((1 : Int) ≤ s.size ∧ (s.size : Int) ≤ 8) && (!figs s || num s)
def prt (s : ByteArray) : Bool := s.data.toList.all pchU && prtE s
theorem prt_l0 (s : ByteArray) (hs : s.size ≤ 1048576) (d : Nat) : ∀ i : Nat, i + d = s.size → Ev (fun k => impl_partOk.l0 k s (i : Int)) ((s.data.toList.drop i).all pchU && prtE s) ∧ Ev (fun k => spec_l3Part.l0 k s (i : Int)) ((s.data.toList.drop i).all pchU && prtE s) := by
  induction d with
  | zero =>
    intro i hi
    rw [List.drop_eq_nil_of_le (show s.data.toList.length ≤ i by rw [data_length]; omega), List.all_nil, Bool.true_and]
    unfold prtE
    constructor
    · refine evS (fun k => by rw [impl_partOk.l0]) (evF (by omega) (evC (rng_impl _ _ _) ?_))
      cases hd : decide ((1 : Int) ≤ s.size ∧ (s.size : Int) ≤ 8) with
      | false => exact evF Bool.false_ne_true (evR rfl)
      | true =>
        refine evT rfl (evB (figs_impl s hs) ?_)
        cases hf : figs s with
        | false => exact evF Bool.false_ne_true (evR rfl)
        | true => exact evT rfl (evB (num_impl s hs) (evR (by simp)))
    · refine evS (fun k => by rw [spec_l3Part.l0]) (evF (by omega) (evC (rng_spec _ _ _) ?_))
      cases hd : decide ((1 : Int) ≤ s.size ∧ (s.size : Int) ≤ 8) with
      | false => exact evF Bool.false_ne_true (evR rfl)
      | true =>
        have h8 := of_decide_eq_true hd
        refine evT rfl (evB (figs_spec s hs) ?_)
        cases hf : figs s with
        | false => exact evF Bool.false_ne_true (evR rfl)
        | true =>
          refine evT rfl (evB (numS_spec s hs) (evR ?_))
          unfold numS short
          rw [decide_eq_true (show s.size ≤ 8 by omega)]
          cases num s with
          | true => simp
          | false => simp
  | succ d ih =>
    intro i hi
    have hl : i < s.data.toList.length := by rw [data_length]; omega
    have hb := byte_at s i (by omega)
    obtain ⟨h1, h2⟩ := ih (i + 1) (by omega)
    have hlt : (s.data.toList[i]).toNat < 256 := UInt8.toNat_lt _
    have he : (s.data.toList.drop i).all pchU = (pchU s.data.toList[i] && (s.data.toList.drop (i + 1)).all pchU) := by
      rw [List.drop_eq_getElem_cons hl]
      rfl
    have hw : wrap64 (((s.data.toList[i]).toNat : Nat) : Int) = (((s.data.toList[i]).toNat : Nat) : Int) := w64 (by omega)
    rw [he]
    have Hp : pch ((s.data.toList[i].toNat : Nat) : Int) → pchU s.data.toList[i] = true := fun h => decide_eq_true h
    have Hn : ¬ pch ((s.data.toList[i].toNat : Nat) : Int) → (pchU s.data.toList[i] && (s.data.toList.drop (i + 1)).all pchU && prtE s) = false := fun h => by
      have : pchU s.data.toList[i] = false := decide_eq_false h
      rw [this]
      rfl
    constructor
    · refine evS (fun k => by rw [impl_partOk.l0]) ?_
      rw [hb, w64s (show i < s.size by omega) (by omega)]
      refine evT (by omega) (evT (by omega) ?_)
      exact ev_sign (fun h => by rw [Hp h, Bool.true_and]; exact h1) Hn
    · refine evS (fun k => by rw [spec_l3Part.l0]) ?_
      rw [hb, hw, w64s (show i < s.size by omega) (by omega)]
      refine evT (by omega) (evT (by omega) ?_)
      exact ev_signS (fun h => by rw [Hp h, Bool.true_and]; exact h2) Hn
theorem prt_impl (s : ByteArray) (hs : s.size ≤ 1048576) : Ev (fun k => impl_partOk.f k s) (prt s) := (prt_l0 s hs s.size 0 (by omega)).1
theorem prt_spec (s : ByteArray) (hs : s.size ≤ 1048576) : Ev (fun k => spec_l3Part.f k s) (prt s) := (prt_l0 s hs s.size 0 (by omega)).2
theorem pre_l0 (l : List ByteArray) (hl : l.length ≤ 1048577) (zl : ∀ x ∈ l, x.size ≤ 1048576) (d : Nat) : ∀ i : Nat, i + d = l.length → Ev (fun k => impl_VersionOk.l0 k l (i : Int)) ((l.drop i).all prt && decide (l.length ≤ 4)) ∧ Ev (fun k => spec_l3Pre.l0 k l (i : Int)) ((l.drop i).all prt && decide (l.length ≤ 4)) := by
  induction d with
  | zero =>
    intro i hi
    rw [List.drop_eq_nil_of_le (by omega), List.all_nil, Bool.true_and]
    have e : decide ((l.length : Int) ≤ 4) = decide (l.length ≤ 4) := decide_eq_decide.2 (by omega)
    constructor
    · refine evS (fun k => by rw [impl_VersionOk.l0]) (evF (by omega) (evR e))
    · refine evS (fun k => by rw [spec_l3Pre.l0]) (evF (by omega) (evR e))
  | succ d ih =>
    intro i hi
    have il : i < l.length := by omega
    have gl : rdOf ByteArray.empty l (i : Int) = l[i] := by
      have := rdOf_get (d := ByteArray.empty) il
      rw [List.getElem?_eq_getElem il] at this
      exact (Option.some.inj this).symm
    have hz := zl _ (List.getElem_mem il)
    obtain ⟨h1, h2⟩ := ih (i + 1) (by omega)
    have he : (l.drop i).all prt = (prt l[i] && (l.drop (i + 1)).all prt) := by
      rw [List.drop_eq_getElem_cons il]
      rfl
    rw [he]
    have p1 := prt_impl l[i] hz
    have p2 := prt_spec l[i] hz
    cases hp : prt l[i] with
    | true =>
      rw [hp] at p1 p2
      rw [Bool.true_and]
      constructor
      · refine evS (fun k => by rw [impl_VersionOk.l0]) ?_
        rw [gl, w64s il (by omega)]
        exact evT (by omega) (evT (by omega) (evB p1 (evT rfl h1)))
      · refine evS (fun k => by rw [spec_l3Pre.l0]) ?_
        rw [gl, w64s il (by omega)]
        exact evT (by omega) (evT (by omega) (evB p2 (evT rfl h2)))
    | false =>
      rw [hp] at p1 p2
      constructor
      · refine evS (fun k => by rw [impl_VersionOk.l0]) ?_
        rw [gl]
        exact evT (by omega) (evT (by omega) (evB p1 (evF Bool.false_ne_true (evR rfl))))
      · refine evS (fun k => by rw [spec_l3Pre.l0]) ?_
        rw [gl]
        exact evT (by omega) (evT (by omega) (evB p2 (evF Bool.false_ne_true (evR rfl))))
def pre (p : ByteArray) : Bool := (pieces 46 p).all prt && decide ((pieces 46 p).length ≤ 4)
def in6 (a : Int) : Bool := decide (0 ≤ a ∧ a ≤ 1000000)
def verOk (a b c : Int) (p : ByteArray) : Bool := in6 a && (in6 b && (in6 c && (decide (p.size = 0) || pre p)))
theorem nil_iff' (s : ByteArray) : s.toList = ([] : List UInt8) ↔ s.size = 0 := by
  rw [tl]
  have := data_length s
  constructor
  · intro e; rw [e] at this; simpa using this.symm
  · intro e; exact List.eq_nil_of_length_eq_zero (by omega)
theorem verOk_both (a b c : Int) (p : ByteArray) (hp : p.size ≤ 1048576) : Ev (fun k => impl_VersionOk.f k a b c p) (verOk a b c p) ∧ Ev (fun k => spec_VersionOk.f k a b c p) (verOk a b c p) := by
  have hc := pieces_count 46 p
  obtain ⟨l1, l2⟩ := pre_l0 (pieces 46 p) (by omega) (fun x hx => by have := pieces_mem 46 p x hx; omega) _ 0 (Nat.zero_add _)
  rw [List.drop_zero] at l1 l2
  have hS : Ev (fun k => spec_l3Split.f k p 46) (pieces 46 p) := split_spec p hp 46
  have hI : strings_Split.f p (⟨#[46]⟩ : ByteArray) = some (pieces 46 p) := by
    unfold strings_Split.f
    rw [if_pos ⟨by omega, rfl⟩]
    rfl
  have tI : Ev (fun k => impl_VersionOk.f0 k p) (decide (p.size = 0) || pre p) := by
    unfold impl_VersionOk.f0
    by_cases h : p.size = 0
    · exact evT ((nil_iff' p).2 h) (evR (by rw [decide_eq_true h]; rfl))
    · refine evF (fun e => h ((nil_iff' p).1 e)) (evC hI ?_)
      rw [decide_eq_false h, Bool.false_or]
      exact l1
  have tS : Ev (fun k => if p.toList = ([] : List UInt8) then (some true) else ((spec_l3Pre.f k p).bind fun t146 => (some t146))) (decide (p.size = 0) || pre p) := by
    by_cases h : p.size = 0
    · exact evT ((nil_iff' p).2 h) (evR (by rw [decide_eq_true h]; rfl))
    · refine evF (fun e => h ((nil_iff' p).1 e)) ?_
      rw [decide_eq_false h, Bool.false_or]
      refine evB ?_ (evR rfl)
      unfold spec_l3Pre.f
      exact evB hS l2
  unfold verOk
  constructor
  · unfold impl_VersionOk.f
    refine evC (rng_impl _ _ _) ?_
    show Ev (fun k => if in6 a = true then _ else _) _
    cases in6 a with
    | false => exact evF Bool.false_ne_true (evR rfl)
    | true =>
      refine evT rfl ?_
      unfold impl_VersionOk.f2
      refine evC (rng_impl _ _ _) ?_
      show Ev (fun k => if in6 b = true then _ else _) _
      cases in6 b with
      | false => exact evF Bool.false_ne_true (evR rfl)
      | true =>
        refine evT rfl ?_
        unfold impl_VersionOk.f1
        refine evC (rng_impl _ _ _) ?_
        show Ev (fun k => if in6 c = true then _ else _) _
        cases in6 c with
        | false => exact evF Bool.false_ne_true (evR rfl)
        | true => exact evT rfl tI
  · unfold spec_VersionOk.f
    refine evC (rng_spec _ _ _) ?_
    show Ev (fun k => if in6 a = true then _ else _) _
    cases in6 a with
    | false => exact evF Bool.false_ne_true (evR rfl)
    | true =>
      refine evT rfl (evC (rng_spec _ _ _) ?_)
      show Ev (fun k => if in6 b = true then _ else _) _
      cases in6 b with
      | false => exact evF Bool.false_ne_true (evR rfl)
      | true =>
        refine evT rfl (evC (rng_spec _ _ _) ?_)
        show Ev (fun k => if in6 c = true then _ else _) _
        cases in6 c with
        | false => exact evF Bool.false_ne_true (evR rfl)
        | true => exact evT rfl tS
end Go.Proofs.YtkofdkinaahbpaaDoor.Z

/- Does a version fit a path: the program's and the reference's answer are the same. Plain lemmas. -/
set_option linter.unusedVariables false
namespace Go.Proofs.YtkofdkinaahbpaaDoor.Z
open Go.RowKit Go.Proofs.YtkofdkinaahbpaaDoorW.PrintWords Go.Proofs.YtkofdkinaahbpaaDoorW.PrintMore Go.Proofs.YtkofdkinaahbpaaDoor.X Go.Proofs.YtkofdkinaahbpaaDoor.Sp
/-- By the path's number. -/
def fitsM (m a b c : Int) (p : ByteArray) : Bool := decide (0 < m) && (verOk a b c p && (decide (a = m) || (decide (m = 1) && decide (a = 0))))
theorem fits_of (s : ByteArray) (m a b c : Int) (p : ByteArray) (hp : p.size ≤ 1048576) (h1 : Ev (fun k => impl_MajorOf.f k s) m) (h2 : Ev (fun k => spec_MajorOf.f k s) m) :
    Ev (fun k => impl_Fits.f k s a b c p) (fitsM m a b c p) ∧ Ev (fun k => spec_Fits.f k s a b c p) (fitsM m a b c p) := by
  obtain ⟨v1, v2⟩ := verOk_both a b c p hp
  unfold impl_Fits.f spec_Fits.f fitsM
  by_cases hm : 0 < m
  · rw [decide_eq_true hm, Bool.true_and]
    cases hv : verOk a b c p with
    | false =>
      rw [hv] at v1 v2
      exact ⟨evB h1 (evT hm (evB v1 (evF Bool.false_ne_true (evR rfl)))), evB h2 (evT hm (evB v2 (evF Bool.false_ne_true (evR rfl))))⟩
    | true =>
      rw [hv] at v1 v2
      rw [Bool.true_and]
      refine ⟨evB h1 (evT hm (evB v1 (evT rfl ?_))), evB h2 (evT hm (evB v2 (evT rfl ?_)))⟩
      · by_cases ha : a = m
        · exact evT ha (evR (by rw [decide_eq_true ha]; rfl))
        · refine evF ha ?_
          rw [decide_eq_false ha, Bool.false_or]
          by_cases h0 : a = 0
          · refine evT h0 (evR ?_)
            rw [decide_eq_true h0, Bool.and_true]
            by_cases h1 : m = 1 <;> simp [h1]
          · exact evF h0 (evR (by rw [decide_eq_false h0, Bool.and_false]))
      · by_cases ha : a = m
        · exact evT ha (evR (by rw [decide_eq_true ha]; rfl))
        · refine evF ha ?_
          rw [decide_eq_false ha, Bool.false_or]
          by_cases h1 : m = 1
          · refine evT h1 (evR ?_)
            rw [decide_eq_true h1, Bool.true_and]
            by_cases h0 : a = 0 <;> simp [h0]
          · exact evF h1 (evR (by rw [decide_eq_false h1, Bool.false_and]))
  · rw [decide_eq_false hm, Bool.false_and]
    exact ⟨evB h1 (evF (by omega) (evR rfl)), evB h2 (evF (by omega) (evR rfl))⟩
end Go.Proofs.YtkofdkinaahbpaaDoor.Z

/- A path's number and base, with where the base ends. Plain lemmas. -/
set_option linter.unusedVariables false
namespace Go.Proofs.YtkofdkinaahbpaaDoor.Z
open Go.RowKit Go.Proofs.YtkofdkinaahbpaaDoorW.PrintWords Go.Proofs.YtkofdkinaahbpaaDoorW.PrintMore Go.Proofs.YtkofdkinaahbpaaDoor.X Go.Proofs.YtkofdkinaahbpaaDoor.Sp
set_option maxHeartbeats 1000000 in
theorem major_more (s : ByteArray) (hs : s.size ≤ 1048576) (hp : ∀ x ∈ pieces 47 s, 1 ≤ x.size) : ∃ (n : Int) (base : ByteArray), Ev (fun k => impl_cutMajor.f k s) (base, if n = 0 then 1 else n) ∧ Ev (fun k => spec_l4Major.f k s) n ∧
    (n = 0 ∧ base = s ∨ 2 ≤ n ∧ n ≤ 1000 ∧ ∃ (t : ByteArray) (a : Nat), num t = true ∧ n = ((val t.data.toList : Nat) : Int) ∧ base = s.extract 0 a ∧ s.size = a + 2 + t.size ∧ ∃ y : List UInt8, s.data.toList = s.data.toList.take a ++ 47 :: y) := by
  have hL := last_ev s hs 47
  have hS : Ev (fun k => spec_l3Split.f k s 47) (pieces 47 s) := split_spec s hs 47
  have hcount := pieces_count 47 s
  have hlen1 : 1 ≤ (pieces 47 s).length := by rw [pieces_length]; omega
  have ew : wrap64 (((pieces 47 s).length : Int) - 1) = (((pieces 47 s).length - 1 : Nat) : Int) := by rw [w64 (by omega)]; omega
  rcases pcs_last 47 s.data.toList with ⟨h1, h2⟩ | ⟨a, b, h1, h2, h3, h4⟩
  · refine ⟨0, s, ?_, ?_, .inl ⟨rfl, rfl⟩⟩
    · unfold impl_cutMajor.f
      refine evB hL ?_
      rw [h1]
      refine evT (by omega) ?_
      refine evS (fun k => by rw [impl_cutMajor.j0]) ?_
      exact evT rfl (evR rfl)
    · unfold spec_l4Major.f
      refine evB hS ?_
      have hl : (pieces 47 s).length = 1 := by rw [pieces_toB, h2]; rfl
      rw [ew]
      refine evT (by omega) (evT (by omega) (evT (by omega) ?_))
      refine evS (fun k => by rw [spec_l4Major.j0]) ?_
      exact evT rfl (evR rfl)
  · have EW := Aside0.mk ew
    have H2 := Aside0.mk h2
    clear ew h2
    have hsz : s.size = a.length + 1 + b.length := by rw [← data_length, h1]; simp; omega
    have hl2 : 2 ≤ (pieces 47 s).length := by rw [pieces_toB, List.length_map]; exact h4
    have hlast : rdOf ByteArray.empty (pieces 47 s) (((pieces 47 s).length - 1 : Nat) : Int) = toB b := by
      have g := rdOf_get (d := ByteArray.empty) (l := pieces 47 s) (i := (pieces 47 s).length - 1) (by omega)
      rw [← List.getLast?_eq_getElem?, pieces_toB, List.getLast?_map, h3] at g
      exact (Option.some.inj g).symm
    have hb1 : 1 ≤ b.length := by
      have := hp _ (rdOf_mem (l := pieces 47 s) (i := (pieces 47 s).length - 1) (by omega))
      rw [hlast, toB_size] at this
      exact this
    obtain ⟨x, y, hb⟩ : ∃ x y, b = x :: y := by
      cases b with
      | nil => simp at hb1
      | cons x y => exact ⟨x, y, rfl⟩
    subst hb
    have hsz' : s.size = a.length + 2 + y.length := by rw [List.length_cons] at hsz; omega
    have hy : (toB y).size ≤ 1048576 := by rw [toB_size]; omega
    have w1 := w64p1 a.length (by omega)
    have w2 := w64p2 a.length (by omega)
    have W1 := Aside0.mk w1
    have W2 := Aside0.mk w2
    clear w1 w2
    have hbt : bt s ((a.length + 1 : Nat) : Int) = (x.toNat : Int) := by
      have hlt : a.length + 1 < s.size := by rw [List.length_cons] at hsz; omega
      have hl' : a.length + 1 < s.data.toList.length := by rw [data_length]; exact hlt
      have h5 : s.data.toList[a.length + 1]? = some x := by
        rw [h1, List.getElem?_append_right (by omega), show a.length + 1 - a.length = 1 by omega]
        rfl
      rw [List.getElem?_eq_getElem hl'] at h5
      rw [byte_at s (a.length + 1) hlt]
      exact congrArg (fun u : UInt8 => (u.toNat : Int)) (Option.some.inj h5)
    have hbl : bt (toB (x :: y)) 0 = (x.toNat : Int) := by
      have h6 := byte_at (toB (x :: y)) 0 (by rw [toB_size]; simp)
      have h7 : (toB (x :: y)).data.toList[0]? = some x := by rw [toB_data]; rfl
      rw [List.getElem?_eq_getElem (by rw [toB_data]; simp)] at h7
      exact h6.trans (congrArg (fun u : UInt8 => (u.toNat : Int)) (Option.some.inj h7))
    have ht1 : s.extract (a.length + 2) s.size = toB y := by
      rw [ext_end]
      refine congrArg toB ?_
      rw [h1, List.drop_append, List.drop_eq_nil_of_le (by omega), show a.length + 2 - a.length = 2 by omega]
      rfl
    have ht2 : (toB (x :: y)).extract 1 (toB (x :: y)).size = toB y := by
      rw [ext_end, toB_data]
      rfl
    have HBT := Aside0.mk hbt
    have HBL := Aside0.mk hbl
    clear hbt hbl
    have hne : ¬ (toB (x :: y)).toList = ([] : List UInt8) := by rw [tl, toB_data]; simp
    have hz2 : 0 < ((toB (x :: y)).size : Int) := by rw [toB_size, List.length_cons]; omega
    by_cases hx : (x.toNat : Int) = 118
    · have hxb : ((x.toNat : Int) != 118) = false := bne_eq_false_iff_eq.2 hx
      have hN := numberOf_ev (toB y) hy 4 (by omega)
      have hSn := numS_spec (toB y) hy
      by_cases hr : 2 ≤ numS (toB y) ∧ numS (toB y) ≤ 1000
      · have hsh : short (toB y) = true := (numS_pos _).1 (by omega)
        have hv := Aside0.mk (numS_val hsh)
        have hn : num (toB y) = true := by unfold short at hsh; simp at hsh; exact hsh.1
        have h4' : ((toB y).size : Int) ≤ 4 := by
          have := small4 hsh (by rw [← hv.out]; exact hr.2)
          omega
        rw [if_pos ⟨hn, h4'⟩] at hN
        refine ⟨numS (toB y), s.extract 0 a.length, ?_, ?_, .inr ⟨hr.1, hr.2, toB y, a.length, hn, hv.out, rfl, by rw [toB_size]; exact hsz', x :: y, by rw [show s.data.toList.take a.length = a by rw [h1]; simp]; exact h1⟩⟩
        · rw [if_neg (by omega)]
          unfold impl_cutMajor.f
          refine evB hL ?_
          rw [H2.out, W1.out, HBT.out, hxb]
          refine evF (by omega) (evT (by omega) (evT (by omega) ?_))
          refine evS (fun k => by rw [impl_cutMajor.j0]) ?_
          rw [W2.out, show ((a.length + 2 : Nat) : Int).toNat = a.length + 2 by omega, ht1, show ((a.length : Nat) : Int).toNat = a.length by omega]
          refine evF Bool.false_ne_true (evT (by omega) (evT (by omega) (evB hN (evT rfl (evC (rng_impl _ _ _) ?_)))))
          refine evT (decide_eq_true (by rw [← hv.out]; exact hr)) (evT (by omega) (evT (by omega) (evR ?_)))
          rw [hv.out]
        · unfold spec_l4Major.f
          refine evB hS ?_
          rw [EW.out, hlast]
          refine evT (by omega) (evT (by omega) (evF (by omega) (evF hne (evT hz2 ?_))))
          rw [HBL.out, hxb]
          refine evS (fun k => by rw [spec_l4Major.j0]) ?_
          rw [ht2]
          refine evF Bool.false_ne_true (evT (by omega) (evB hSn (evC (rng_spec _ _ _) ?_)))
          exact evT (decide_eq_true hr) (evR rfl)
      · refine ⟨0, s, ?_, ?_, .inl ⟨rfl, rfl⟩⟩
        · unfold impl_cutMajor.f
          refine evB hL ?_
          rw [H2.out, W1.out, HBT.out, hxb]
          refine evF (by omega) (evT (by omega) (evT (by omega) ?_))
          refine evS (fun k => by rw [impl_cutMajor.j0]) ?_
          rw [W2.out, show ((a.length + 2 : Nat) : Int).toNat = a.length + 2 by omega, ht1]
          refine evF Bool.false_ne_true (evT (by omega) (evT (by omega) (evB hN ?_)))
          by_cases hc : num (toB y) = true ∧ ((toB y).size : Int) ≤ 4
          · rw [if_pos hc]
            have hsh : short (toB y) = true := by unfold short; rw [hc.1, decide_eq_true (show (toB y).size ≤ 8 by omega)]; try rfl
            refine evT rfl (evC (rng_impl _ _ _) (evF ?_ (evR rfl)))
            intro e
            have := of_decide_eq_true e
            rw [← numS_val hsh] at this
            exact hr this
          · rw [if_neg hc]
            exact evF Bool.false_ne_true (evR rfl)
        · unfold spec_l4Major.f
          refine evB hS ?_
          rw [EW.out, hlast]
          refine evT (by omega) (evT (by omega) (evF (by omega) (evF hne (evT hz2 ?_))))
          rw [HBL.out, hxb]
          refine evS (fun k => by rw [spec_l4Major.j0]) ?_
          rw [ht2]
          refine evF Bool.false_ne_true (evT (by omega) (evB hSn (evC (rng_spec _ _ _) ?_)))
          exact evF (fun e => hr (of_decide_eq_true e)) (evR rfl)
    · have hxb : ((x.toNat : Int) != 118) = true := bne_iff_ne.2 hx
      refine ⟨0, s, ?_, ?_, .inl ⟨rfl, rfl⟩⟩
      · unfold impl_cutMajor.f
        refine evB hL ?_
        rw [H2.out, W1.out, HBT.out, hxb]
        refine evF (by omega) (evT (by omega) (evT (by omega) ?_))
        refine evS (fun k => by rw [impl_cutMajor.j0]) ?_
        exact evT rfl (evR rfl)
      · unfold spec_l4Major.f
        refine evB hS ?_
        rw [EW.out, hlast]
        refine evT (by omega) (evT (by omega) (evF (by omega) (evF hne (evT hz2 ?_))))
        rw [HBL.out, hxb]
        refine evS (fun k => by rw [spec_l4Major.j0]) ?_
        exact evT rfl (evR rfl)
end Go.Proofs.YtkofdkinaahbpaaDoor.Z

/- A right path's base is a right path. Plain lemmas. -/
set_option linter.unusedVariables false
namespace Go.Proofs.YtkofdkinaahbpaaDoor.Z
open Go.RowKit Go.Proofs.YtkofdkinaahbpaaDoorW.PrintWords Go.Proofs.YtkofdkinaahbpaaDoorW.PrintMore Go.Proofs.YtkofdkinaahbpaaDoor.X Go.Proofs.YtkofdkinaahbpaaDoor.Sp
theorem toB_self' (s : ByteArray) : toB s.data.toList = s := by
  unfold toB
  cases s
  simp
theorem get_rd {l : List ByteArray} {i : Nat} (il : i < l.length) : rdOf ByteArray.empty l (i : Int) = l[i] := by
  have := rdOf_get (d := ByteArray.empty) il
  rw [List.getElem?_eq_getElem il] at this
  exact (Option.some.inj this).symm
theorem path_true (s : ByteArray) (l : List ByteArray) (hl : l.length ≤ 1048577) (hm : ∀ x ∈ l, x.size ≤ 1048576) (d : Nat) : ∀ i : Nat, i + d = l.length → Ev (fun k => impl_PathOk.l0 k s l l (l.length : Int) (i : Int)) true →
    (∀ x ∈ l.drop i, Ev (fun k => impl_pathPartOk.f k x) true) ∧ l.length ≤ 6 ∧ s.size ≤ 60 := by
  induction d with
  | zero =>
    intro i hi H
    refine ⟨fun x hx => (by rw [List.drop_eq_nil_of_le (by omega)] at hx; cases hx), ?_⟩
    by_cases h6 : (l.length : Int) ≤ 6
    · have H2 : Ev (fun k => impl_PathOk.l0 k s l l (l.length : Int) (i : Int)) (decide ((s.size : Int) ≤ 60)) := evS (fun k => by rw [impl_PathOk.l0]) (evF (by omega) (evT h6 (evR rfl)))
      have := of_decide_eq_true (ev_one H2 H)
      omega
    · have H2 : Ev (fun k => impl_PathOk.l0 k s l l (l.length : Int) (i : Int)) false := evS (fun k => by rw [impl_PathOk.l0]) (evF (by omega) (evF h6 (evR rfl)))
      have := ev_one H2 H
      cases this
  | succ d ih =>
    intro i hi H
    have il : i < l.length := by omega
    obtain ⟨b, p1, _⟩ := part_both l[i] (hm _ (List.getElem_mem il)) _ 0 (Nat.zero_add _)
    have q1 : Ev (fun k => impl_pathPartOk.f k l[i]) b := p1
    obtain ⟨r, g1, _, _⟩ := path_l0 s l hl hm d (i + 1) (by omega)
    cases b with
    | false =>
      have H2 : Ev (fun k => impl_PathOk.l0 k s l l (l.length : Int) (i : Int)) false := by
        refine evS (fun k => by rw [impl_PathOk.l0]) ?_
        rw [get_rd il]
        exact evT (by omega) (evT (by omega) (evT (by omega) (evB q1 (evF Bool.false_ne_true (evR rfl)))))
      have := ev_one H2 H
      cases this
    | true =>
      have H2 : Ev (fun k => impl_PathOk.l0 k s l l (l.length : Int) (i : Int)) r := by
        refine evS (fun k => by rw [impl_PathOk.l0]) ?_
        rw [get_rd il, w64s il (by omega)]
        exact evT (by omega) (evT (by omega) (evT (by omega) (evB q1 (evT rfl g1))))
      rw [ev_one H2 H] at g1
      obtain ⟨h1, h2⟩ := ih (i + 1) (by omega) g1
      refine ⟨fun x hx => ?_, h2⟩
      rw [List.drop_eq_getElem_cons il] at hx
      rcases List.mem_cons.1 hx with rfl | hx
      · exact q1
      · exact h1 x hx
theorem path_make (s : ByteArray) (l : List ByteArray) (h6 : l.length ≤ 6) (h60 : s.size ≤ 60) (h : ∀ x ∈ l, Ev (fun k => impl_pathPartOk.f k x) true) (d : Nat) : ∀ i : Nat, i + d = l.length → Ev (fun k => impl_PathOk.l0 k s l l (l.length : Int) (i : Int)) true := by
  induction d with
  | zero =>
    intro i hi
    exact evS (fun k => by rw [impl_PathOk.l0]) (evF (by omega) (evT (by omega) (evR (decide_eq_true (by omega)))))
  | succ d ih =>
    intro i hi
    have il : i < l.length := by omega
    refine evS (fun k => by rw [impl_PathOk.l0]) ?_
    rw [get_rd il, w64s il (by omega)]
    exact evT (by omega) (evT (by omega) (evT (by omega) (evB (h _ (List.getElem_mem il)) (evT rfl (ih (i + 1) (by omega))))))
theorem pcs_app (c : UInt8) (a b : List UInt8) : pcs c (a ++ c :: b) = pcs c a ++ pcs c b := by
  induction a with
  | nil =>
    show pcs c (c :: b) = [[]] ++ pcs c b
    rw [pcs, if_pos rfl]
    rfl
  | cons x a ih =>
    rw [List.cons_append, pcs, pcs, ih]
    by_cases h : x = c
    · rw [if_pos h, if_pos h]; rfl
    · rw [if_neg h, if_neg h]
      cases hp : pcs c a with
      | nil => exact absurd hp (pcs_ne c a)
      | cons y t => rfl
/-- What is ahead of a '/' in a right path is a right path. -/
theorem path_base (s : ByteArray) (hs : s.size ≤ 1048576) (a : Nat) (y : List UInt8) (h : s.data.toList = s.data.toList.take a ++ 47 :: y) (H : Ev (fun k => impl_PathOk.f k s) true) : Ev (fun k => impl_PathOk.f k (s.extract 0 a)) true := by
  have hc := pieces_count 47 s
  have H2 : Ev (fun k => impl_PathOk.l0 k s (pieces 47 s) (pieces 47 s) ((pieces 47 s).length : Int) ((0 : Nat) : Int)) true := by
    obtain ⟨r, h1, _, _⟩ := path_l0 s (pieces 47 s) (by omega) (fun x hx => by have := pieces_mem 47 s x hx; omega) _ 0 (Nat.zero_add _)
    have : Ev (fun k => impl_PathOk.f k s) r := by unfold impl_PathOk.f; exact evC (split_impl s hs 47) h1
    rw [ev_one this H] at h1
    exact h1
  obtain ⟨q1, q2, q3⟩ := path_true s (pieces 47 s) (by omega) (fun x hx => by have := pieces_mem 47 s x hx; omega) _ 0 (Nat.zero_add _) H2
  rw [List.drop_zero] at q1
  have hb : s.extract 0 a = toB (s.data.toList.take a) := by rw [ext_list, List.drop_zero, Nat.sub_zero]; rfl
  have hp : pieces 47 s = pieces 47 (toB (s.data.toList.take a)) ++ (pcs 47 y).map toB := by
    rw [pieces_toB, pieces_toB, toB_data]
    have := congrArg (fun l => (pcs 47 l).map toB) h
    simp only [pcs_app, List.map_append] at this
    exact this
  have hz : (toB (s.data.toList.take a)).size ≤ s.size := by rw [toB_size, List.length_take, data_length]; omega
  rw [hb]
  unfold impl_PathOk.f
  refine evC (split_impl _ (by omega) 47) (path_make _ _ ?_ (by omega) (fun x hx => q1 x ?_) _ 0 (Nat.zero_add _))
  · rw [hp, List.length_append] at q2
    omega
  · rw [hp]
    exact List.mem_append_left _ hx
end Go.Proofs.YtkofdkinaahbpaaDoor.Z

/- The law FnModules, as a plain statement: a drawn path's base is one; the versions that fit a path have its number. Conditions: those of the row's reading alone. -/
namespace Go.Proofs.YtkofdkinaahbpaaDoor.Pure
open Go.RowKit Go.Proofs.YtkofdkinaahbpaaDoor.X Go.Proofs.YtkofdkinaahbpaaDoor.Z Go.Proofs.YtkofdkinaahbpaaDoorW.PrintWords Go.Proofs.YtkofdkinaahbpaaDoorW.PrintLast
theorem drawF_some (l : List Int) (hl : l.length ≤ 140737488355328) : ∃ s a b c p, Ev (fun k => spec_DrawFits.f k l) (s, a, b, c, p) ∧ s.size ≤ 100 ∧ p.size ≤ 100 := by
  obtain ⟨h0, e0⟩ := new_some l hl
  obtain ⟨s, i2, h2, e3, _, hs, a2⟩ := any4_some l hl 0 h0 (at_zero l)
  obtain ⟨a, b, c, p, i3, h3, e4, hp, _⟩ := any3_some l hl i2 h2 a2
  unfold spec_DrawFits.f
  exact ⟨s, a, b, c, p, evB e0 (evC e3 (evC e4 (evR rfl))), hs, hp⟩
theorem FnModules : laws_FnModules.Pure := by
  intro l0 h1 h2 h3
  refine Ev.rounds ?_
  unfold laws_FnModules.f
  refine evC (by unfold laws_big.f; rfl) (evI (fun _ => evR rfl) (fun hl' => ?_))
  obtain ⟨s, a, b, c, p, hD, hs, hp⟩ := drawF_some l0 (by omega)
  obtain ⟨r, p1, p2, p3⟩ := pathOk_both s (by omega)
  refine evB hD ?_
  cases r with
  | false =>
    have mI : Ev (fun k => impl_MajorOf.f k s) 0 := by
      unfold impl_MajorOf.f
      exact evB p1 (evF Bool.false_ne_true (evR rfl))
    have mS : Ev (fun k => spec_MajorOf.f k s) 0 := by
      unfold spec_MajorOf.f
      exact evB p2 (evF Bool.false_ne_true (evR rfl))
    obtain ⟨fI, fS⟩ := fits_of s 0 a b c p (by omega) mI mS
    have e : fitsM 0 a b c p = false := rfl
    rw [e] at fI fS
    have bI : Ev (fun k => impl_Base.f k s) (⟨#[]⟩ : ByteArray) := by
      unfold impl_Base.f
      exact evB p1 (evF Bool.false_ne_true (evR rfl))
    refine evB mI (evB p1 (evB p2 ?_))
    refine evF (by decide) (evB mS ?_)
    refine evT rfl ?_
    refine evF (by decide) (evB fI (evB fS ?_))
    show Ev (fun k => laws_FnModules.j0 k s 0 false false a b c p) true
    refine evS (fun k => by rw [laws_FnModules.j0]) (evF Bool.false_ne_true (evB fI ?_))
    refine evF Bool.false_ne_true ?_
    refine evS (fun k => by rw [laws_FnModules.j1]) (evF Bool.false_ne_true (evB bI ?_))
    exact evF Bool.false_ne_true (evT ((nil_iff' _).2 rfl) (evR rfl))
  | true =>
    obtain ⟨n, base, m1, m2, hn⟩ := major_more s (by omega) (p3 rfl)
    obtain ⟨m, hm⟩ : ∃ m : Int, (if n = 0 then 1 else n) = m := ⟨_, rfl⟩
    have mI : Ev (fun k => impl_MajorOf.f k s) m := by
      unfold impl_MajorOf.f
      exact evB p1 (evT rfl (evB m1 (evR hm)))
    have mS : Ev (fun k => spec_MajorOf.f k s) m := by
      unfold spec_MajorOf.f
      refine evB p2 (evT rfl (evB m2 ?_))
      by_cases h0 : n = 0
      · exact evT h0 (evR (by rw [← hm, if_pos h0]))
      · exact evF h0 (evR (by rw [← hm, if_neg h0]))
    have bI : Ev (fun k => impl_Base.f k s) base := by
      unfold impl_Base.f
      exact evB p1 (evT rfl (evB m1 (evR rfl)))
    have hm1 : 1 ≤ m ∧ (m ≤ 1 → base = s) := by
      rcases hn with ⟨h0, hb⟩ | ⟨n2, _⟩
      · rw [if_pos h0] at hm
        exact ⟨by omega, fun _ => hb⟩
      · rw [if_neg (by omega)] at hm
        exact ⟨by omega, fun _ => by omega⟩
    have hbase : Ev (fun k => impl_PathOk.f k base) true ∧ base.size ≤ s.size ∧ s.extract 0 base.size = base := by
      rcases hn with ⟨h0, hb⟩ | ⟨n2, n1000, t, j, ht, hv, hb, hz, y, hy⟩
      · rw [hb]
        exact ⟨p1, Nat.le_refl _, by rw [ext_end, List.drop_zero, toB_self']⟩
      · have hsz : base.size = j := by
          rw [hb, ext_list, List.drop_zero, Nat.sub_zero]
          show (s.data.toList.take j).toArray.size = j
          rw [List.size_toArray, List.length_take, data_length]
          omega
        rw [hsz]
        exact ⟨by rw [hb]; exact path_base s (by omega) j y hy p1, by omega, hb.symm⟩
    obtain ⟨fI, fS⟩ := fits_of s m a b c p (by omega) mI mS
    have oI := (verOk_both a b c p (by omega)).1
    have J1 : Ev (fun k => laws_FnModules.j1 k s m true false) true := by
      refine evS (fun k => by rw [laws_FnModules.j1]) (evF Bool.false_ne_true (evB bI (evT rfl (evB hbase.1 (evT rfl ?_)))))
      refine evT (by have := hbase.2.1; omega) (evT (by omega) (evT ?_ ?_))
      · rw [show ((base.size : Int)).toNat = base.size by omega, hbase.2.2]
      · by_cases h1 : m > 1
        · exact evT h1 (evR rfl)
        · refine evF h1 (evR ?_)
          rw [hm1.2 (by omega)]
          simp
    refine evB mI (evB p1 (evB p2 ?_))
    refine evF (by decide) (evB mS ?_)
    refine evT rfl ?_
    refine evF ?_ (evB fI (evB fS ?_))
    · rw [decide_eq_true (show m > 0 by have := hm1.1; omega)]
      decide
    show Ev (fun k => laws_FnModules.j0 k s m true (fitsM m a b c p != fitsM m a b c p) a b c p) true
    rw [bne_self_eq_false]
    refine evS (fun k => by rw [laws_FnModules.j0]) (evF Bool.false_ne_true (evB fI ?_))
    cases hf : fitsM m a b c p with
    | false => exact evF Bool.false_ne_true J1
    | true =>
      unfold fitsM at hf
      simp only [Bool.and_eq_true, Bool.or_eq_true, decide_eq_true_eq] at hf
      obtain ⟨g0, g1, g2⟩ := hf
      rw [g1] at oI
      refine evT rfl (evT rfl (evB oI (evT rfl (evF (by omega) ?_))))
      by_cases h1 : m > 1
      · refine evT h1 ?_
        rw [show (a != m) = false from bne_eq_false_iff_eq.2 (by omega)]
        exact J1
      · exact evF h1 J1
end Go.Proofs.YtkofdkinaahbpaaDoor.Pure

/- Values that come in as data (strings' slices, structs, slices of structs, nested) are of the printer's kinds: one lemma a make of type. Plain lemmas for the rows of laws over such parameters. No conditions beyond what each lemma names. -/
set_option linter.unusedVariables false
namespace Go.Proofs.YtkofdkinaahbpaaDoor.Y
open Go.RowKit Go.Proofs.YtkofdkinaahbpaaDoorW.PrintWords Go.ChangeShapes Go.WideShapes Go.Deep




end Go.Proofs.YtkofdkinaahbpaaDoor.Y

/- Three closed facts of the rows of this seat (how the program may be entered), by the first words of the translation's head row. No conditions. -/
namespace Go.Proofs.YtkofdkinaahbpaaDoor.Y
open Go.ChangeShapes Go.WideShapes Go.ChangeAt Go.RowKit
def tailSigns : List Char := [Char.ofNat 108, Char.ofNat 111, Char.ofNat 111, Char.ofNat 112, Char.ofNat 46, Char.ofNat 101, Char.ofNat 120, Char.ofNat 97, Char.ofNat 109, Char.ofNat 112, Char.ofNat 108, Char.ofNat 101, Char.ofNat 47, Char.ofNat 103, Char.ofNat 48, Char.ofNat 48, Char.ofNat 50, Char.ofNat 51, Char.ofNat 51, Char.ofNat 47, Char.ofNat 108, Char.ofNat 97, Char.ofNat 119, Char.ofNat 115, Char.ofNat 46, Char.ofNat 70, Char.ofNat 110, Char.ofNat 69, Char.ofNat 120, Char.ofNat 97, Char.ofNat 99, Char.ofNat 116, Char.ofNat 70, Char.ofNat 105, Char.ofNat 116, Char.ofNat 115, Char.ofNat 32, Char.ofNat 108, Char.ofNat 111, Char.ofNat 111, Char.ofNat 112, Char.ofNat 46, Char.ofNat 101, Char.ofNat 120, Char.ofNat 97, Char.ofNat 109, Char.ofNat 112, Char.ofNat 108, Char.ofNat 101, Char.ofNat 47, Char.ofNat 103, Char.ofNat 48, Char.ofNat 48, Char.ofNat 50, Char.ofNat 51, Char.ofNat 51, Char.ofNat 47, Char.ofNat 108, Char.ofNat 97, Char.ofNat 119, Char.ofNat 115, Char.ofNat 46, Char.ofNat 70, Char.ofNat 110, Char.ofNat 69, Char.ofNat 120, Char.ofNat 97, Char.ofNat 99, Char.ofNat 116, Char.ofNat 78, Char.ofNat 101, Char.ofNat 101, Char.ofNat 100, Char.ofNat 79, Char.ofNat 107, Char.ofNat 32, Char.ofNat 108, Char.ofNat 111, Char.ofNat 111, Char.ofNat 112, Char.ofNat 46, Char.ofNat 101, Char.ofNat 120, Char.ofNat 97, Char.ofNat 109, Char.ofNat 112, Char.ofNat 108, Char.ofNat 101, Char.ofNat 47, Char.ofNat 103, Char.ofNat 48, Char.ofNat 48, Char.ofNat 50, Char.ofNat 51, Char.ofNat 51, Char.ofNat 47, Char.ofNat 108, Char.ofNat 97, Char.ofNat 119, Char.ofNat 115, Char.ofNat 46, Char.ofNat 70, Char.ofNat 110, Char.ofNat 69, Char.ofNat 120, Char.ofNat 97, Char.ofNat 99, Char.ofNat 116, Char.ofNat 69, Char.ofNat 110, Char.ofNat 116, Char.ofNat 114, Char.ofNat 121, Char.ofNat 78, Char.ofNat 97, Char.ofNat 109, Char.ofNat 101, Char.ofNat 32, Char.ofNat 108, Char.ofNat 111, Char.ofNat 111, Char.ofNat 112, Char.ofNat 46, Char.ofNat 101, Char.ofNat 120, Char.ofNat 97, Char.ofNat 109, Char.ofNat 112, Char.ofNat 108, Char.ofNat 101, Char.ofNat 47, Char.ofNat 103, Char.ofNat 48, Char.ofNat 48, Char.ofNat 50, Char.ofNat 51, Char.ofNat 51, Char.ofNat 47, Char.ofNat 108, Char.ofNat 97, Char.ofNat 119, Char.ofNat 115, Char.ofNat 46, Char.ofNat 70, Char.ofNat 110, Char.ofNat 86, Char.ofNat 101, Char.ofNat 114, Char.ofNat 115, Char.ofNat 105, Char.ofNat 111, Char.ofNat 110, Char.ofNat 115, Char.ofNat 32, Char.ofNat 108, Char.ofNat 111, Char.ofNat 111, Char.ofNat 112, Char.ofNat 46, Char.ofNat 101, Char.ofNat 120, Char.ofNat 97, Char.ofNat 109, Char.ofNat 112, Char.ofNat 108, Char.ofNat 101, Char.ofNat 47, Char.ofNat 103, Char.ofNat 48, Char.ofNat 48, Char.ofNat 50, Char.ofNat 51, Char.ofNat 51, Char.ofNat 47, Char.ofNat 108, Char.ofNat 97, Char.ofNat 119, Char.ofNat 115, Char.ofNat 46, Char.ofNat 70, Char.ofNat 110, Char.ofNat 77, Char.ofNat 111, Char.ofNat 100, Char.ofNat 117, Char.ofNat 108, Char.ofNat 101, Char.ofNat 115, Char.ofNat 32, Char.ofNat 108, Char.ofNat 111, Char.ofNat 111, Char.ofNat 112, Char.ofNat 46, Char.ofNat 101, Char.ofNat 120, Char.ofNat 97, Char.ofNat 109, Char.ofNat 112, Char.ofNat 108, Char.ofNat 101, Char.ofNat 47, Char.ofNat 103, Char.ofNat 48, Char.ofNat 48, Char.ofNat 50, Char.ofNat 51, Char.ofNat 51, Char.ofNat 47, Char.ofNat 108, Char.ofNat 97, Char.ofNat 119, Char.ofNat 115, Char.ofNat 46, Char.ofNat 70, Char.ofNat 110, Char.ofNat 70, Char.ofNat 105, Char.ofNat 116, Char.ofNat 115, Char.ofNat 32, Char.ofNat 108, Char.ofNat 111, Char.ofNat 111, Char.ofNat 112, Char.ofNat 46, Char.ofNat 101, Char.ofNat 120, Char.ofNat 97, Char.ofNat 109, Char.ofNat 112, Char.ofNat 108, Char.ofNat 101, Char.ofNat 47, Char.ofNat 103, Char.ofNat 48, Char.ofNat 48, Char.ofNat 50, Char.ofNat 51, Char.ofNat 51, Char.ofNat 47, Char.ofNat 108, Char.ofNat 97, Char.ofNat 119, Char.ofNat 115, Char.ofNat 46, Char.ofNat 70, Char.ofNat 110, Char.ofNat 69, Char.ofNat 120, Char.ofNat 97, Char.ofNat 99, Char.ofNat 116, Char.ofNat 78, Char.ofNat 101, Char.ofNat 101, Char.ofNat 100, Char.ofNat 115, Char.ofNat 79, Char.ofNat 107, Char.ofNat 32, Char.ofNat 108, Char.ofNat 111, Char.ofNat 111, Char.ofNat 112, Char.ofNat 46, Char.ofNat 101, Char.ofNat 120, Char.ofNat 97, Char.ofNat 109, Char.ofNat 112, Char.ofNat 108, Char.ofNat 101, Char.ofNat 47, Char.ofNat 103, Char.ofNat 48, Char.ofNat 48, Char.ofNat 50, Char.ofNat 51, Char.ofNat 51, Char.ofNat 47, Char.ofNat 108, Char.ofNat 97, Char.ofNat 119, Char.ofNat 115, Char.ofNat 46, Char.ofNat 70, Char.ofNat 110, Char.ofNat 69, Char.ofNat 120, Char.ofNat 97, Char.ofNat 99, Char.ofNat 116, Char.ofNat 80, Char.ofNat 97, Char.ofNat 114, Char.ofNat 115, Char.ofNat 101, Char.ofNat 78, Char.ofNat 97, Char.ofNat 109, Char.ofNat 101, Char.ofNat 32, Char.ofNat 108, Char.ofNat 111, Char.ofNat 111, Char.ofNat 112, Char.ofNat 46, Char.ofNat 101, Char.ofNat 120, Char.ofNat 97, Char.ofNat 109, Char.ofNat 112, Char.ofNat 108, Char.ofNat 101, Char.ofNat 47, Char.ofNat 103, Char.ofNat 48, Char.ofNat 48, Char.ofNat 50, Char.ofNat 51, Char.ofNat 51, Char.ofNat 47, Char.ofNat 108, Char.ofNat 97, Char.ofNat 119, Char.ofNat 115, Char.ofNat 46, Char.ofNat 70, Char.ofNat 110, Char.ofNat 69, Char.ofNat 120, Char.ofNat 97, Char.ofNat 99, Char.ofNat 116, Char.ofNat 69, Char.ofNat 110, Char.ofNat 116, Char.ofNat 114, Char.ofNat 121, Char.ofNat 79, Char.ofNat 107]
set_option maxRecDepth 100000 in
theorem initOrder_lit : Tryd.pinned.checked.prog.initOrder = "harness ca20538b8ae1844212bbd2dcac9b02739c173303d55c1ed7aee058458b355a1f cut at loop.example/g00233/laws.FnExactFits loop.example/g00233/laws.FnExactNeedOk loop.example/g00233/laws.FnExactEntryName loop.example/g00233/laws.FnVersions loop.example/g00233/laws.FnModules loop.example/g00233/laws.FnFits loop.example/g00233/laws.FnExactNeedsOk loop.example/g00233/laws.FnExactParseName loop.example/g00233/laws.FnExactEntryOk" := by kernel_rfl
set_option maxRecDepth 100000 in
theorem lit_list : ("harness ca20538b8ae1844212bbd2dcac9b02739c173303d55c1ed7aee058458b355a1f cut at loop.example/g00233/laws.FnExactFits loop.example/g00233/laws.FnExactNeedOk loop.example/g00233/laws.FnExactEntryName loop.example/g00233/laws.FnVersions loop.example/g00233/laws.FnModules loop.example/g00233/laws.FnFits loop.example/g00233/laws.FnExactNeedsOk loop.example/g00233/laws.FnExactParseName loop.example/g00233/laws.FnExactEntryOk" : String) = String.ofList (Char.ofNat 104 :: Char.ofNat 97 :: Char.ofNat 114 :: Char.ofNat 110 :: Char.ofNat 101 :: Char.ofNat 115 :: Char.ofNat 115 :: Char.ofNat 32 :: Char.ofNat 99 :: Char.ofNat 97 :: Char.ofNat 50 :: Char.ofNat 48 :: Char.ofNat 53 :: Char.ofNat 51 :: Char.ofNat 56 :: Char.ofNat 98 :: Char.ofNat 56 :: Char.ofNat 97 :: Char.ofNat 101 :: Char.ofNat 49 :: Char.ofNat 56 :: Char.ofNat 52 :: Char.ofNat 52 :: Char.ofNat 50 :: Char.ofNat 49 :: Char.ofNat 50 :: Char.ofNat 98 :: Char.ofNat 98 :: Char.ofNat 100 :: Char.ofNat 50 :: Char.ofNat 100 :: Char.ofNat 99 :: Char.ofNat 97 :: Char.ofNat 99 :: Char.ofNat 57 :: Char.ofNat 98 :: Char.ofNat 48 :: Char.ofNat 50 :: Char.ofNat 55 :: Char.ofNat 51 :: Char.ofNat 57 :: Char.ofNat 99 :: Char.ofNat 49 :: Char.ofNat 55 :: Char.ofNat 51 :: Char.ofNat 51 :: Char.ofNat 48 :: Char.ofNat 51 :: Char.ofNat 100 :: Char.ofNat 53 :: Char.ofNat 53 :: Char.ofNat 99 :: Char.ofNat 49 :: Char.ofNat 101 :: Char.ofNat 100 :: Char.ofNat 55 :: Char.ofNat 97 :: Char.ofNat 101 :: Char.ofNat 101 :: Char.ofNat 48 :: Char.ofNat 53 :: Char.ofNat 56 :: Char.ofNat 52 :: Char.ofNat 53 :: Char.ofNat 56 :: Char.ofNat 98 :: Char.ofNat 51 :: Char.ofNat 53 :: Char.ofNat 53 :: Char.ofNat 97 :: Char.ofNat 49 :: Char.ofNat 102 :: Char.ofNat 32 :: Char.ofNat 99 :: Char.ofNat 117 :: Char.ofNat 116 :: Char.ofNat 32 :: Char.ofNat 97 :: Char.ofNat 116 :: Char.ofNat 32 :: tailSigns) := by kernel_rfl
theorem initOrder_list : Tryd.pinned.checked.prog.initOrder.toList = Char.ofNat 104 :: Char.ofNat 97 :: Char.ofNat 114 :: Char.ofNat 110 :: Char.ofNat 101 :: Char.ofNat 115 :: Char.ofNat 115 :: Char.ofNat 32 :: Char.ofNat 99 :: Char.ofNat 97 :: Char.ofNat 50 :: Char.ofNat 48 :: Char.ofNat 53 :: Char.ofNat 51 :: Char.ofNat 56 :: Char.ofNat 98 :: Char.ofNat 56 :: Char.ofNat 97 :: Char.ofNat 101 :: Char.ofNat 49 :: Char.ofNat 56 :: Char.ofNat 52 :: Char.ofNat 52 :: Char.ofNat 50 :: Char.ofNat 49 :: Char.ofNat 50 :: Char.ofNat 98 :: Char.ofNat 98 :: Char.ofNat 100 :: Char.ofNat 50 :: Char.ofNat 100 :: Char.ofNat 99 :: Char.ofNat 97 :: Char.ofNat 99 :: Char.ofNat 57 :: Char.ofNat 98 :: Char.ofNat 48 :: Char.ofNat 50 :: Char.ofNat 55 :: Char.ofNat 51 :: Char.ofNat 57 :: Char.ofNat 99 :: Char.ofNat 49 :: Char.ofNat 55 :: Char.ofNat 51 :: Char.ofNat 51 :: Char.ofNat 48 :: Char.ofNat 51 :: Char.ofNat 100 :: Char.ofNat 53 :: Char.ofNat 53 :: Char.ofNat 99 :: Char.ofNat 49 :: Char.ofNat 101 :: Char.ofNat 100 :: Char.ofNat 55 :: Char.ofNat 97 :: Char.ofNat 101 :: Char.ofNat 101 :: Char.ofNat 48 :: Char.ofNat 53 :: Char.ofNat 56 :: Char.ofNat 52 :: Char.ofNat 53 :: Char.ofNat 56 :: Char.ofNat 98 :: Char.ofNat 51 :: Char.ofNat 53 :: Char.ofNat 53 :: Char.ofNat 97 :: Char.ofNat 49 :: Char.ofNat 102 :: Char.ofNat 32 :: Char.ofNat 99 :: Char.ofNat 117 :: Char.ofNat 116 :: Char.ofNat 32 :: Char.ofNat 97 :: Char.ofNat 116 :: Char.ofNat 32 :: tailSigns := (congrArg String.toList (initOrder_lit.trans lit_list)).trans String.toList_ofList
theorem words_at (r : List Char) : wordsSigns (Char.ofNat 104 :: Char.ofNat 97 :: Char.ofNat 114 :: Char.ofNat 110 :: Char.ofNat 101 :: Char.ofNat 115 :: Char.ofNat 115 :: Char.ofNat 32 :: Char.ofNat 99 :: Char.ofNat 97 :: Char.ofNat 50 :: Char.ofNat 48 :: Char.ofNat 53 :: Char.ofNat 51 :: Char.ofNat 56 :: Char.ofNat 98 :: Char.ofNat 56 :: Char.ofNat 97 :: Char.ofNat 101 :: Char.ofNat 49 :: Char.ofNat 56 :: Char.ofNat 52 :: Char.ofNat 52 :: Char.ofNat 50 :: Char.ofNat 49 :: Char.ofNat 50 :: Char.ofNat 98 :: Char.ofNat 98 :: Char.ofNat 100 :: Char.ofNat 50 :: Char.ofNat 100 :: Char.ofNat 99 :: Char.ofNat 97 :: Char.ofNat 99 :: Char.ofNat 57 :: Char.ofNat 98 :: Char.ofNat 48 :: Char.ofNat 50 :: Char.ofNat 55 :: Char.ofNat 51 :: Char.ofNat 57 :: Char.ofNat 99 :: Char.ofNat 49 :: Char.ofNat 55 :: Char.ofNat 51 :: Char.ofNat 51 :: Char.ofNat 48 :: Char.ofNat 51 :: Char.ofNat 100 :: Char.ofNat 53 :: Char.ofNat 53 :: Char.ofNat 99 :: Char.ofNat 49 :: Char.ofNat 101 :: Char.ofNat 100 :: Char.ofNat 55 :: Char.ofNat 97 :: Char.ofNat 101 :: Char.ofNat 101 :: Char.ofNat 48 :: Char.ofNat 53 :: Char.ofNat 56 :: Char.ofNat 52 :: Char.ofNat 53 :: Char.ofNat 56 :: Char.ofNat 98 :: Char.ofNat 51 :: Char.ofNat 53 :: Char.ofNat 53 :: Char.ofNat 97 :: Char.ofNat 49 :: Char.ofNat 102 :: Char.ofNat 32 :: Char.ofNat 99 :: Char.ofNat 117 :: Char.ofNat 116 :: Char.ofNat 32 :: Char.ofNat 97 :: Char.ofNat 116 :: Char.ofNat 32 :: r) = [Char.ofNat 104, Char.ofNat 97, Char.ofNat 114, Char.ofNat 110, Char.ofNat 101, Char.ofNat 115, Char.ofNat 115] :: [Char.ofNat 99, Char.ofNat 97, Char.ofNat 50, Char.ofNat 48, Char.ofNat 53, Char.ofNat 51, Char.ofNat 56, Char.ofNat 98, Char.ofNat 56, Char.ofNat 97, Char.ofNat 101, Char.ofNat 49, Char.ofNat 56, Char.ofNat 52, Char.ofNat 52, Char.ofNat 50, Char.ofNat 49, Char.ofNat 50, Char.ofNat 98, Char.ofNat 98, Char.ofNat 100, Char.ofNat 50, Char.ofNat 100, Char.ofNat 99, Char.ofNat 97, Char.ofNat 99, Char.ofNat 57, Char.ofNat 98, Char.ofNat 48, Char.ofNat 50, Char.ofNat 55, Char.ofNat 51, Char.ofNat 57, Char.ofNat 99, Char.ofNat 49, Char.ofNat 55, Char.ofNat 51, Char.ofNat 51, Char.ofNat 48, Char.ofNat 51, Char.ofNat 100, Char.ofNat 53, Char.ofNat 53, Char.ofNat 99, Char.ofNat 49, Char.ofNat 101, Char.ofNat 100, Char.ofNat 55, Char.ofNat 97, Char.ofNat 101, Char.ofNat 101, Char.ofNat 48, Char.ofNat 53, Char.ofNat 56, Char.ofNat 52, Char.ofNat 53, Char.ofNat 56, Char.ofNat 98, Char.ofNat 51, Char.ofNat 53, Char.ofNat 53, Char.ofNat 97, Char.ofNat 49, Char.ofNat 102] :: [Char.ofNat 99, Char.ofNat 117, Char.ofNat 116] :: [Char.ofNat 97, Char.ofNat 116] :: wordsSigns r := by kernel_rfl
theorem behind_at (t : List (List Char)) : behindMainWord ([Char.ofNat 104, Char.ofNat 97, Char.ofNat 114, Char.ofNat 110, Char.ofNat 101, Char.ofNat 115, Char.ofNat 115] :: [Char.ofNat 99, Char.ofNat 97, Char.ofNat 50, Char.ofNat 48, Char.ofNat 53, Char.ofNat 51, Char.ofNat 56, Char.ofNat 98, Char.ofNat 56, Char.ofNat 97, Char.ofNat 101, Char.ofNat 49, Char.ofNat 56, Char.ofNat 52, Char.ofNat 52, Char.ofNat 50, Char.ofNat 49, Char.ofNat 50, Char.ofNat 98, Char.ofNat 98, Char.ofNat 100, Char.ofNat 50, Char.ofNat 100, Char.ofNat 99, Char.ofNat 97, Char.ofNat 99, Char.ofNat 57, Char.ofNat 98, Char.ofNat 48, Char.ofNat 50, Char.ofNat 55, Char.ofNat 51, Char.ofNat 57, Char.ofNat 99, Char.ofNat 49, Char.ofNat 55, Char.ofNat 51, Char.ofNat 51, Char.ofNat 48, Char.ofNat 51, Char.ofNat 100, Char.ofNat 53, Char.ofNat 53, Char.ofNat 99, Char.ofNat 49, Char.ofNat 101, Char.ofNat 100, Char.ofNat 55, Char.ofNat 97, Char.ofNat 101, Char.ofNat 101, Char.ofNat 48, Char.ofNat 53, Char.ofNat 56, Char.ofNat 52, Char.ofNat 53, Char.ofNat 56, Char.ofNat 98, Char.ofNat 51, Char.ofNat 53, Char.ofNat 53, Char.ofNat 97, Char.ofNat 49, Char.ofNat 102] :: [Char.ofNat 99, Char.ofNat 117, Char.ofNat 116] :: [Char.ofNat 97, Char.ofNat 116] :: t) = [Char.ofNat 99, Char.ofNat 117, Char.ofNat 116] :: [Char.ofNat 97, Char.ofNat 116] :: t := by kernel_rfl
theorem behind_all : behindMainWord (wordsSigns Tryd.pinned.checked.prog.initOrder.toList) = [Char.ofNat 99, Char.ofNat 117, Char.ofNat 116] :: [Char.ofNat 97, Char.ofNat 116] :: wordsSigns tailSigns := by rw [initOrder_list, words_at, behind_at]
theorem make_of (c : List Char) (rest : List (List Char)) (P : Program) (h0 : (c == "gc".toList) = false) (h1 : (c == "spec".toList) = false) (h2 : (c == "cut".toList) = true) (h : behindMainWord (wordsSigns P.initOrder.toList) = c :: rest) : P.make = some .cut := by
  unfold Program.make
  rw [h]
  simp only [h0, h1, h2]
  rfl
theorem mayEnter_of (c : List Char) (rest : List (List Char)) (P : Program) (h0 : (c == "gc".toList) = false) (h1 : (c == "spec".toList) = false) (h2 : (c == "carried".toList) = false) (h : behindMainWord (wordsSigns P.initOrder.toList) = c :: rest)
    (h3 : ((stripLifts liftWords (c :: rest)).2.head? == some "cut".toList) = true) (h4 : P.laysLater = false) (h5 : P.bearsReflect = false) (h6 : P.doorFits (stripLifts liftWords (c :: rest)).1 = true) (h7 : (stripLifts liftWords (c :: rest)).1.contains "leanrows" = false) : P.mayEnter = true := by
  unfold Program.mayEnter
  rw [h]
  simp only [h0, h1, h2, h3, h4, h5, h6, h7]
  simp
theorem liftsFinal_of (c : List Char) (rest : List (List Char)) (P : Program) (h2 : (some c == some "carried".toList) = false) (h : behindMainWord (wordsSigns P.initOrder.toList) = c :: rest)
    (h3 : ((stripLifts liftWords (c :: rest)).2.head? == some "cut".toList) = true) (h7 : (stripLifts liftWords (c :: rest)).1.contains "finals" = false) : P.liftsFinal = false := by
  unfold Program.liftsFinal Program.headLifts
  rw [h]
  simp only [List.head?_cons, h2, h3, if_true, h7, Bool.false_and, Bool.or_self]
theorem strip_at (t : List (List Char)) : stripLifts liftWords ([Char.ofNat 99, Char.ofNat 117, Char.ofNat 116] :: [Char.ofNat 97, Char.ofNat 116] :: t) = ([], [Char.ofNat 99, Char.ofNat 117, Char.ofNat 116] :: [Char.ofNat 97, Char.ofNat 116] :: t) := by kernel_rfl
theorem laysLater_at : Tryd.pinned.checked.prog.laysLater = false := by kernel_rfl
theorem bearsReflect_at : Tryd.pinned.checked.prog.bearsReflect = false := by kernel_rfl
theorem doorFits_at : Tryd.pinned.checked.prog.doorFits [] = true := by kernel_rfl
theorem mayEnter_at : Tryd.pinned.checked.prog.mayEnter = true :=
  mayEnter_of _ _ _ (by kernel_rfl) (by kernel_rfl) (by kernel_rfl) behind_all (by rw [strip_at]; generalize wordsSigns tailSigns = t; kernel_rfl) laysLater_at bearsReflect_at (by rw [strip_at]; exact doorFits_at) (by rw [strip_at]; rfl)
theorem liftsFinal_at : Tryd.pinned.checked.prog.liftsFinal = false :=
  liftsFinal_of _ _ _ (by kernel_rfl) behind_all (by rw [strip_at]; generalize wordsSigns tailSigns = t; kernel_rfl) (by rw [strip_at]; rfl)
theorem make_at : Tryd.pinned.checked.prog.make = some .cut := make_of _ _ _ (by kernel_rfl) (by kernel_rfl) (by kernel_rfl) behind_all
end Go.Proofs.YtkofdkinaahbpaaDoor.Y

/- A world for the witnesses: the settled one, the listed tables holding what their initialisers lay. No conditions. -/
namespace Go.Proofs.YtkofdkinaahbpaaDoor.Y
open Go.ChangeShapes Go.WideShapes Go.ChangeAt Go.RowKit
noncomputable def laidWorld (os : Os) : World :=
  { World.holding Tryd.prog os ⟨#[], #[], []⟩ with heap := ((((((((((World.holding Tryd.prog os ⟨#[], #[], []⟩).heap).modify 1 (fun o => match o with | .cells _ t z => .cells #[Value.int .u64 1, Value.int .u64 10, Value.int .u64 100, Value.int .u64 1000, Value.int .u64 10000, Value.int .u64 100000, Value.int .u64 1000000, Value.int .u64 10000000, Value.int .u64 100000000, Value.int .u64 1000000000, Value.int .u64 10000000000, Value.int .u64 100000000000, Value.int .u64 1000000000000, Value.int .u64 10000000000000, Value.int .u64 100000000000000, Value.int .u64 1000000000000000, Value.int .u64 10000000000000000, Value.int .u64 100000000000000000, Value.int .u64 1000000000000000000, Value.int .u64 10000000000000000000] t z | o => o)).modify 4 (fun o => match o with | .cells _ t z => .cells ((Go.Pinned.utf8FirstZ.map fun (n : Nat) => Value.int .u8 (n : Int)).toArray) t z | o => o)).modify 5 (fun o => match o with | .cells _ t z => .cells #[Value.int .u8 128, Value.int .u8 191, Value.int .u8 160, Value.int .u8 191, Value.int .u8 128, Value.int .u8 159, Value.int .u8 144, Value.int .u8 191, Value.int .u8 128, Value.int .u8 143, Value.int .u8 0, Value.int .u8 0, Value.int .u8 0, Value.int .u8 0, Value.int .u8 0, Value.int .u8 0, Value.int .u8 0, Value.int .u8 0, Value.int .u8 0, Value.int .u8 0, Value.int .u8 0, Value.int .u8 0, Value.int .u8 0, Value.int .u8 0, Value.int .u8 0, Value.int .u8 0, Value.int .u8 0, Value.int .u8 0, Value.int .u8 0, Value.int .u8 0, Value.int .u8 0, Value.int .u8 0] t z | o => o)).modify 6 (fun o => match o with | .cells _ t z => .cells #[Value.int .u8 0, Value.int .u8 1, Value.int .u8 28, Value.int .u8 2, Value.int .u8 29, Value.int .u8 14, Value.int .u8 24, Value.int .u8 3, Value.int .u8 30, Value.int .u8 22, Value.int .u8 20, Value.int .u8 15, Value.int .u8 25, Value.int .u8 17, Value.int .u8 4, Value.int .u8 8, Value.int .u8 31, Value.int .u8 27, Value.int .u8 13, Value.int .u8 23, Value.int .u8 21, Value.int .u8 19, Value.int .u8 16, Value.int .u8 7, Value.int .u8 26, Value.int .u8 12, Value.int .u8 18, Value.int .u8 6, Value.int .u8 11, Value.int .u8 5, Value.int .u8 10, Value.int .u8 9] t z | o => o)).modify 7 (fun o => match o with | .cells _ t z => .cells #[Value.int .u8 0, Value.int .u8 1, Value.int .u8 56, Value.int .u8 2, Value.int .u8 57, Value.int .u8 49, Value.int .u8 28, Value.int .u8 3, Value.int .u8 61, Value.int .u8 58, Value.int .u8 42, Value.int .u8 50, Value.int .u8 38, Value.int .u8 29, Value.int .u8 17, Value.int .u8 4, Value.int .u8 62, Value.int .u8 47, Value.int .u8 59, Value.int .u8 36, Value.int .u8 45, Value.int .u8 43, Value.int .u8 51, Value.int .u8 22, Value.int .u8 53, Value.int .u8 39, Value.int .u8 33, Value.int .u8 30, Value.int .u8 24, Value.int .u8 18, Value.int .u8 12, Value.int .u8 5, Value.int .u8 63, Value.int .u8 55, Value.int .u8 48, Value.int .u8 27, Value.int .u8 60, Value.int .u8 41, Value.int .u8 37, Value.int .u8 16, Value.int .u8 46, Value.int .u8 35, Value.int .u8 44, Value.int .u8 21, Value.int .u8 52, Value.int .u8 32, Value.int .u8 23, Value.int .u8 11, Value.int .u8 54, Value.int .u8 26, Value.int .u8 40, Value.int .u8 15, Value.int .u8 34, Value.int .u8 20, Value.int .u8 31, Value.int .u8 10, Value.int .u8 25, Value.int .u8 14, Value.int .u8 19, Value.int .u8 9, Value.int .u8 13, Value.int .u8 8, Value.int .u8 7, Value.int .u8 6] t z | o => o)).modify 2 (fun o => match o with | .cells _ t z => .cells #[Value.iface 150 (.pointer (some ⟨(World.holding Tryd.prog os ⟨#[], #[], []⟩).heap.size + 0, 0, none⟩))] t z | o => o)).push (.cells #[Value.string ⟨#[105, 110, 118, 97, 108, 105, 100, 32, 115, 121, 110, 116, 97, 120]⟩] 152 (0, 0))).modify 3 (fun o => match o with | .cells _ t z => .cells #[Value.iface 150 (.pointer (some ⟨(World.holding Tryd.prog os ⟨#[], #[], []⟩).heap.size + 1, 0, none⟩))] t z | o => o)).push (.cells #[Value.string ⟨#[118, 97, 108, 117, 101, 32, 111, 117, 116, 32, 111, 102, 32, 114, 97, 110, 103, 101]⟩] 152 (0, 0)) }
end Go.Proofs.YtkofdkinaahbpaaDoor.Y
