/- The law FnExactNodeHash, as a plain statement: the program's NodeHash answers as the reference's. Conditions: those of the row's reading alone. -/
/- Part 1 of 6 of this claim's texts. -/
import Derived.Test.YtmkhhnfmahdijaaWWords
import Derived.Lib.AppendStr
import Derived.Test.YtmkhhnfmahdijaaProg
import Derived.Below
import Derived.Deep.Draws
import Derived.Deep.AppendLies
import Derived.Maps.AppendAt
import Derived.OwnWalk
import Derived.Laws.BytesArg
import Derived.Laws.MakeOwn
import Derived.Laws.OwnMore
import Derived.Deep.OwnRows
import Derived.Tactics
import Derived.Lib.ConvBytes
import Derived.Laws.Slices
import Derived.WalkKit
import Derived.KernelRfl
import Derived.RowKit3
import Derived.Deep.LoopGhost
import Derived.Deep.QuietTactic
import Derived.BigQuiet
import Derived.WideLaws
import Derived.Deep.DeepCutAuto
import Derived.Deep.CutBlock
import Derived.Deep.RegionHeld3
import Derived.Laws.Rows
import Derived.ArgAppend
import Derived.Laws.IdiomCopy
import Derived.OrdersHeld
import Derived.Laws.BitsLemmas
import Derived.RowKit
import Derived.Test.YtmkhhnfmahdijaaWLast
import Derived.Test.YtmkhhnfmahdijaaWTab
import Derived.Test.YtmkhhnfmahdijaaWFour
import Derived.Test.YtmkhhnfmahdijaaWQPut
import Derived.Test.YtmkhhnfmahdijaaWApart
import Derived.Test.YtmkhhnfmahdijaaWArr
import Derived.Test.YtmkhhnfmahdijaaWZeros
import Derived.Test.YtmkhhnfmahdijaaWFoot
import Derived.Test.YtmkhhnfmahdijaaWKept
import Derived.Test.YtmkhhnfmahdijaaWShare
import Derived.Test.YtmkhhnfmahdijaaWN
import Derived.Test.YtmkhhnfmahdijaaWFootNe
import Derived.Test.YtmkhhnfmahdijaaWAt
import Derived.Test.YtmkhhnfmahdijaaWEqStruct
import Derived.Test.YtmkhhnfmahdijaaWRepsOne
import Derived.Test.YtmkhhnfmahdijaaWInv
import Derived.Test.YtmkhhnfmahdijaaWInvWords
import Derived.Test.YtmkhhnfmahdijaaWGuard
import Derived.Test.YtmkhhnfmahdijaaWNEv
import Derived.Test.YtmkhhnfmahdijaaWMore
import Derived.Lib.SliceRun
import Derived.StillTailTactics
import Derived.RangeFuncNested
import Derived.RangeFuncBound
import Derived.RangeFuncBox
import Derived.RangeFuncCalls
import Derived.RangeFuncLeaves
import Derived.Shelf.Abstract
import Derived.Shelf.RegionOpen
import Derived.OwnWalkIn
import Derived.TacticsInMore
import Derived.LoopNIn
import Derived.LoopIn
import Derived.RegionIn
import Derived.BigRegionIn
/- A string appended to a row of bytes that the call owns, with the new row's block told (beside the printer's words, which tell it for elements and rows alone). No conditions beyond what each lemma names. -/
set_option linter.unusedVariables false
namespace Go.Proofs.Ytmkhhnfmahdijaa.Y
open Go.RowKit Go.Proofs.YtmkhhnfmahdijaaW.PrintWords
section
variable {P : Program} {ops : Array Oper} {rest : List Oper} {o : Oper} {a : Act} {Q : Exit → Act → World → Prop}

/-- Where the row lies that a string was appended to: where it lay, or in a new block. -/
theorem append_str_block {w w' : World} {t u ty e : TypeId} {i : TypeInfo} (ht : P.underlying t = some (.slice e)) (hu : P.underlying u = some .string) (hi : P.info? e = some i) (hz : i.zero = some (.int .u8 0))
    (hsize : i.size = 1) (hby : i.bytes = 1) {base : Nat} {v v' : Value} {n : Nat} {xs : List Value} (hown : w.ownsRow base e 1 v n xs) {s : ByteArray} (hb : n + s.size ≤ 140737488355328)
    (hr : (Builtin.append_ #[t, u] ty #[v, .string s]).run P w = .ok v' w') : v'.ownBlock = v.ownBlock ∨ v'.ownBlock = some w.heap.size := by
  have hxl : xs.length = n := by simpa using hown.1
  rcases hown.2 with ⟨rfl, rfl⟩ | ⟨g, cap, cur, rfl, hbg, hg, hnc, hcm, hcs, htake⟩
  · by_cases hm : s.size = 0
    · have hf := Lib.run_firstCells_string (P := P) w 1 s
      rw [hm] at hf
      have h0 : (Builtin.append_ #[t, u] ty #[Value.slice none 0 0, .string s]).run P w = .ok (.slice none 0 0) w := by
        simp [Builtin.append_, run_underlying ht, run_underlying hu, sizeOf, typeInfo, hi, hsize, Builtin.lenOf, hm, hf]
      rw [h0] at hr
      injection hr with h1 _
      exact .inl (by rw [← h1])
    · have h0 := run_append_nil_string (P := P) w t u ty e i (.int .u8 0) ht hu hi hz s (by omega) (by omega) (by rw [hby]; omega)
      rw [h0] at hr
      injection hr with h1 _
      exact .inr (by rw [← h1]; rfl)
  · by_cases hroom : n + s.size ≤ cap
    · have h0 := Lib.run_append_room_string (P := P) w t u ty e i ht hu hi hsize g n cap cur hg s hroom (by simp at hcs; omega)
      rw [h0] at hr
      injection hr with h1 _
      exact .inl (by rw [← h1]; rfl)
    · have holds : ∀ j u, xs[j]? = some u → w.cell? ((⟨g, 0, none⟩ : Addr).add j) = some u := hown.cells (g := g) rfl
      have h0 := Lib.run_append_grow_string (P := P) w t u ty e i (.int .u8 0) ht hu hi hz ⟨g, 0, none⟩ n cap xs (by rw [hsize]; simpa using hxl) holds s (by omega) (by omega) (by rw [hby]; exact growslice_fits (by omega) (by omega))
      rw [h0] at hr
      injection hr with h1 _
      exact .inr (by rw [← h1]; rfl)

/-- 'append(xs, s...)' at the operation: what the new row may be is told. -/
theorem R_append_str {w0 W : World} (base : Nat) (hgd : o.guard = none) (s x : Operand) (t u e : TypeId)
    (ho : o.op = .call { callee := .builtin .append, args := #[s, x], argTypes := #[t, u] })
    (ht : P.underlying t = some (.slice e)) (hu : P.underlying u = some .string) (hinfo : (P.info? e).map (fun i => (i.zero, i.size, i.bytes)) = some (some (.int .u8 0), 1, 1))
    (v : Value) (xs : List Int) (y : ByteArray) (ok : Nat → Prop) (hs : a.eval s = v) (hx : a.eval x = .string y) (hfresh : ∀ k, W.heap.size ≤ k → ok k)
    (HO : (Kd.int .u8).R e W base ok v xs) (HB : Below base w0 W) (hbase : base ≤ W.heap.size) (hl : xs.length + y.size ≤ 140737488355328)
    (h : ∀ v1 w1, (Kd.int .u8).R e w1 base ok v1 (xs ++ bytesOf y) → Below base w0 w1 → W.grownBy w1 v.ownBlock → (v1.ownBlock = v.ownBlock ∨ ∃ b, v1.ownBlock = some b ∧ W.heap.size ≤ b) → wpList P ops Q rest (a.put o.dst v1) w1) :
    wpList P ops Q (o :: rest) a W := by
  obtain ⟨i0, hi, hzz⟩ := Option.map_eq_some_iff.1 hinfo
  simp only [Prod.mk.injEq] at hzz
  obtain ⟨hz0, hz1, hz2⟩ := hzz
  have hok := HO.1
  have hO : W.ownsRow base e 1 v xs.length (nums .u8 xs) := Kd.own_of_R HO
  refine wpList_plain hgd fun K hK => ?_
  obtain ⟨v', w', hr, h2, h3, _⟩ := Lib.run_append_own_string (P := P) W base t u o.type e i0 ht hu hi hz0 hz1 hz2 v xs.length (nums .u8 xs) hO y (by simp only [maxLen]; omega) hl hbase
  have hat := append_str_block ht hu hi hz0 hz1 hz2 hO hl hr
  have hl2 : (xs ++ bytesOf y).length = xs.length + y.size := by rw [List.length_append, bytesOf_length]
  have hc : nums .u8 (xs ++ bytesOf y) = nums .u8 xs ++ Lib.strCells y := by
    rw [nums_append]
    congr 1
    simp [nums, bytesOf, Lib.strCells]
  have hR : (Kd.int .u8).R e w' base ok v' (xs ++ bytesOf y) := by
    refine Kd.R_of_own (enc := Value.int .u8) (by rw [hl2]; show w'.ownsRow base e 1 v' _ (nums .u8 (xs ++ bytesOf y)); rw [hc]; exact h2) (fun k hk => ?_)
    rcases hat with hat | hat
    · exact hok k (hat ▸ hk)
    · rw [hat] at hk
      injection hk with hk
      exact hfresh k (by omega)
  unfold Oper.wp execOp
  simp only [ho, resolve, invoke, builtin, Sem.run_bind, Sem.run_pure, Result.andThen_ok, List.map_toArray, List.map_cons, List.map_nil, hs, hx, hr]
  exact hK _ _ (h v' w' hR (HB.grown h3 hbase (own_base hO)) h3 (hat.imp id (fun e => ⟨_, e, Nat.le_refl _⟩)))
end
end Go.Proofs.Ytmkhhnfmahdijaa.Y

namespace Go.Proofs.Ytmkhhnfmahdijaa.X
open Go.RowKit Go.Proofs.YtmkhhnfmahdijaaW.PrintWords Go.Proofs.YtmkhhnfmahdijaaW.PrintLast Go.Proofs.YtmkhhnfmahdijaaW.PrintMore
attribute [local go_sem] max2_int min2_int max_two min_two max_three min_three max_four min_four   -- for this text's walks alone
set_option linter.unusedVariables false
set_option linter.unusedSimpArgs false



def errW : Option Int → Value
  | none => .nilIface
  | some c => .iface 0 (.int .i64 c)
theorem errW_none : errW none = .nilIface := rfl
theorem errW_some (c : Int) : errW (some c) = .iface 0 (.int .i64 c) := rfl

theorem info3 : (Try.prog.info? 3).map (fun i => (i.zero, i.size, i.bytes)) = some (some (.int .i64 0), 1, 8) := by kernel_rfl
theorem info5 : (Try.prog.info? 5).map (fun i => (i.zero, i.size, i.bytes)) = some (some (.int .u8 0), 1, 1) := by kernel_rfl
theorem info9 : (Try.prog.info? 9).map (fun i => (i.zero, i.size, i.bytes)) = some (some (.string ⟨#[]⟩), 1, 16) := by kernel_rfl
-- the values' own types
def rd_L3 (xs : List (List Int)) (i : Int) : (List Int) := xs.getD i.toNat ([] : List Int)
theorem at_L3 {w : World} {A : Option Addr} {n : Nat} {xs : List (List Int)} (h : Kd.C (Kd.slice 5 (Kd.int .u8)) w A n xs) (i : Int) (h0 : 0 ≤ i) (h1 : i < n) : ∃ ad A0 c0, A = some ad ∧ w.cell? (ad.add i.toNat) = some (.slice A0 (rd_L3 xs i).length c0) ∧ (rd_L3 xs i).length ≤ c0 ∧ (Kd.int .u8).C w A0 (rd_L3 xs i).length (rd_L3 xs i) := by
  obtain ⟨ad, c, e, _, hK, hc0⟩ := Kd.C_get h ([] : List Int) i h0 h1
  have hc : ∀ j u, c[j]? = some u → w.cell? (ad.add (i.toNat * 1 + j)) = some u := hc0
  obtain ⟨A0, c0, rfl, l0, g0⟩ := hK
  exact ⟨ad, A0, c0, e, by have hq := hc 0 _ rfl; rwa [Nat.mul_one, Nat.add_zero] at hq, l0, g0⟩

def rd_L5 (xs : List (List ByteArray)) (i : Int) : (List ByteArray) := xs.getD i.toNat ([] : List ByteArray)
theorem at_L5 {w : World} {A : Option Addr} {n : Nat} {xs : List (List ByteArray)} (h : Kd.C (Kd.slice 9 Kd.string) w A n xs) (i : Int) (h0 : 0 ≤ i) (h1 : i < n) : ∃ ad A0 c0, A = some ad ∧ w.cell? (ad.add i.toNat) = some (.slice A0 (rd_L5 xs i).length c0) ∧ (rd_L5 xs i).length ≤ c0 ∧ Kd.string.C w A0 (rd_L5 xs i).length (rd_L5 xs i) := by
  obtain ⟨ad, c, e, _, hK, hc0⟩ := Kd.C_get h ([] : List ByteArray) i h0 h1
  have hc : ∀ j u, c[j]? = some u → w.cell? (ad.add (i.toNat * 1 + j)) = some u := hc0
  obtain ⟨A0, c0, rfl, l0, g0⟩ := hK
  exact ⟨ad, A0, c0, e, by have hq := hc 0 _ rfl; rwa [Nat.mul_one, Nat.add_zero] at hq, l0, g0⟩

/-! #### struct type 46 -/
structure S46 where
  f0 : Int
  f1 : (List ByteArray)
def z46 : S46 := ⟨(0 : Int), ([] : List ByteArray)⟩
def k46 : Kd S46 := Kd.iso (Kd.pair (Kd.int .i64) (Kd.slice 9 Kd.string)) (fun x : S46 => (x.f0, x.f1))
theorem k46_heap : Kd.Heap k46 := Kd.heap_iso _ (Kd.heap_pair (Kd.heap_int .i64) (Kd.heap_slice 9 Kd.heap_string))
theorem k46_open {w : World} {x : S46} {cs : List Value} (h : k46.K w x cs) : ∃ A1 c1, cs = [.int .i64 x.f0, .slice A1 x.f1.length c1] ∧ x.f1.length ≤ c1 ∧ Kd.string.C w A1 x.f1.length x.f1 := by
  obtain ⟨_, _, rfl, rfl, ⟨A1, c1, rfl, l1, g1⟩⟩ := h
  exact ⟨A1, c1, rfl, l1, g1⟩
theorem k46_openM {w : World} {base : Nat} {ok : Nat → Prop} {x : S46} {cs : List Value} (h : k46.M w base ok x cs) : ∃ v1, cs = [.int .i64 x.f0, v1] ∧ Kd.string.R 9 w base ok v1 x.f1 := by
  obtain ⟨_, _, rfl, rfl, ⟨v1, rfl, g1⟩⟩ := h
  exact ⟨v1, rfl, g1⟩
theorem k46_mk (w : World) (x : S46) {A1 : Option Addr} {c1 : Nat} (l1 : x.f1.length ≤ c1) (g1 : Kd.string.C w A1 x.f1.length x.f1) : k46.K w x [.int .i64 x.f0, .slice A1 x.f1.length c1] := ⟨[.int .i64 x.f0], [.slice A1 x.f1.length c1], rfl, rfl, ⟨A1, c1, rfl, l1, g1⟩⟩
theorem k46_mkM (w : World) (base : Nat) (ok : Nat → Prop) (x : S46) {v1 : Value} (g1 : Kd.string.R 9 w base ok v1 x.f1) : k46.M w base ok x [.int .i64 x.f0, v1] := ⟨[.int .i64 x.f0], [v1], rfl, rfl, ⟨v1, rfl, g1⟩⟩
def rd_T46 (xs : List S46) (i : Int) : S46 := xs.getD i.toNat z46
theorem at_T46 {w : World} {A : Option Addr} {n : Nat} {xs : List S46} (h : Kd.C k46 w A n xs) (i : Int) (h0 : 0 ≤ i) (h1 : i < n) : ∃ ad A1 c1, A = some ad ∧ w.cell? (ad.add (i.toNat * 2)) = some (.int .i64 (rd_T46 xs i).f0) ∧ w.cell? ⟨(ad.add (i.toNat * 2)).block, (ad.add (i.toNat * 2)).off + 1, none⟩ = some (.slice A1 (rd_T46 xs i).f1.length c1) ∧ (rd_T46 xs i).f1.length ≤ c1 ∧ Kd.string.C w A1 (rd_T46 xs i).f1.length (rd_T46 xs i).f1 := by
  obtain ⟨ad, c, e, _, hK, hc0⟩ := Kd.C_get h z46 i h0 h1
  have hc : ∀ j u, c[j]? = some u → w.cell? (ad.add (i.toNat * 2 + j)) = some u := hc0
  obtain ⟨A1, c1, rfl, l1, g1⟩ := k46_open hK
  exact ⟨ad, A1, c1, e, hc 0 _ rfl, by rw [← add_field _ _ 1 (by omega)]; exact hc 1 _ rfl, l1, g1⟩

end Go.Proofs.Ytmkhhnfmahdijaa.X

namespace Go.Proofs.Ytmkhhnfmahdijaa.X
open Go.RowKit Go.Proofs.YtmkhhnfmahdijaaW.PrintWords Go.Proofs.YtmkhhnfmahdijaaW.PrintLast Go.Proofs.YtmkhhnfmahdijaaW.PrintMore
attribute [local go_sem] max2_int min2_int max_two min_two max_three min_three max_four min_four   -- for this text's walks alone
set_option linter.unusedVariables false
set_option linter.unusedSimpArgs false

/-! ### slices_Clone_byte_byte: function 88 (by hand) -/
def slices_Clone_byte_byte.f (l0 : List Int) : Option (List Int) := if l0.length < 140737488355328 then some l0 else none
set_option maxHeartbeats 8000000 in
set_option maxRecDepth 100000 in
theorem slices_Clone_byte_byte.calls (A0 : Option Addr) (c0 : Nat) (l0 : List Int) (r : List Int) (w : World) (hr0 : Kd.C (Kd.int .u8) w A0 l0.length l0) (hc0 : l0.length ≤ c0) (h : slices_Clone_byte_byte.f l0 = some r) :
    Calls Try.prog 88 #[.slice A0 l0.length c0] w fun e w' => ∃ v0_ : Value, e = .returned (v0_) ∧ Kd.R (Kd.int .u8) 5 w' w.heap.size (fun _ => True) v0_ r ∧ Below w.heap.size w w' := by
  unfold slices_Clone_byte_byte.f at h
  split at h
  · rename_i hlt
    obtain rfl := Option.some.inj h
    clear h
    have LM := Aside0.mk hlt
    clear hlt
    have HR0 := Aside0.mk hr0
    have HC0 := Aside0.mk hc0
    clear hr0 hc0
    have HB := Aside0.mk (Below.refl w.heap.size w)
    have hnil := fun (w : World) (a : Option Addr) (n c : Nat) => Lib.run_eql_slice_nil (P := Try.prog) w 27 5 a n c 0 0 Try.underlying27
    cases A0 with
    | none =>
      have h0 : l0.length = 0 := by
        rcases Nat.eq_zero_or_pos l0.length with h0 | h0
        · exact h0
        · obtain ⟨ad, e, _⟩ := HR0.out.2.2 h0
          cases e
      have h1 : l0 = [] := List.eq_nil_of_length_eq_zero h0
      clear h0
      subst h1
      clear HR0 LM
      go_enter Try.func88, Try.ntmps88
      go_wp2
      go_ret
      exact ⟨_, rfl, Kd.R_nil _ _ _ _ _, Below.refl _ _⟩
    | some a =>
      go_enter Try.func88, Try.ntmps88
      go_wp2_with (first | ((with_reducible refine gate_dst (N := 5) rfl ?_); refine Kd.R_lit (Kd.int .u8) _ 5 ?hg (N := 5) ?hd (xs := ([] : List Int)) (inner := []) (ok := fun _ => True) (okp := fun _ => True) ?hr ?hp (fun _ hk => hk) trivial (Below.refl _ _) (Nat.le_refl _) (by simp) ?_; (case hd => rfl); (case hg => rfl); (case hr => first | (go_simp; done) | (go_simp; rfl)); (case hp => exact (Reps.none _ _)); intro v111 w5 ho6 hb hg_ hnew_; clear hg_ hnew_; have n0_ := Aside0.mk (Kd.R_lower ho6 (below_size HB.out)); have n1_ := Aside0.mk (below_step HB.out hb); clear HB; have HO112 := n0_; have HB := n1_; clear n0_ n1_; clear hb ho6) | ((with_reducible refine gate_builtin (b := .append) (xs := #[.tmp 5, .tmp 6]) rfl ?_); at_builtin; refine Kd.R_append_rows (Kd.int .u8) (w0 := w) w.heap.size rfl (.tmp 5) (.tmp 6) 27 5 (.int .u8 0) 1 rfl Try.underlying27 info5 rfl (by decide) (by omega) v111 [] l0 _ _ _ (fun _ => True) (fun _ => False) rfl rfl ?aO ?aR (fun _ _ h => h) (fun _ h => h.elim) ?aF ?aB ?aS ?aL ?_; (case aR => exact Kd.C_below HR0.out HB.out); (case aB => exact HB.out); (case aF => exact (fun _ _ => trivial)); (case aO => exact HO112.out); (case aS => exact below_size HB.out); (case aL => have := LM.out; simp; omega); intro v114 w7 ho hb hg hat; have n0_ := Aside0.mk (hb); have n1_ := Aside0.mk (ho); clear HB; clear HO112; have HB := n0_; have HO115 := n1_; clear n0_ n1_; clear ho hb hg hat))
      go_ret
      exact ⟨_, rfl, by simpa using HO115.out, HB.out⟩
  · cases h

end Go.Proofs.Ytmkhhnfmahdijaa.X

namespace Go.Proofs.Ytmkhhnfmahdijaa.X
open Go.RowKit Go.Proofs.YtmkhhnfmahdijaaW.PrintWords Go.Proofs.YtmkhhnfmahdijaaW.PrintLast Go.Proofs.YtmkhhnfmahdijaaW.PrintMore
attribute [local go_sem] max2_int min2_int max_two min_two max_three min_three max_four min_four   -- for this text's walks alone
set_option linter.unusedVariables false
set_option linter.unusedSimpArgs false

/-! ### impl_Padded: function 37 -/
mutual
def impl_Padded.l0 : Nat → List Int → List Int → Option (List Int)
  | 0, _, _ => none
  | k + 1, x0, x3 => if (Int.tmod (wrap64 ((x3.length : Int) + 8)) 64) = 0 then (impl_Padded.l1 k x3 (wrap64 (8 * (x0.length : Int))) 7) else (if x3.length < 140737488355328 then (impl_Padded.l0 k x0 (x3 ++ [0])) else (none))
def impl_Padded.l1 : Nat → List Int → Int → Int → Option (List Int)
  | 0, _, _, _ => none
  | k + 1, x3, x4, x5 => if x5 ≥ 0 then (if 0 ≤ (IntKind.u64.wrap (wrap64 (8 * x5))) then (if x3.length < 140737488355328 then (impl_Padded.l1 k (x3 ++ [(shr .i64 x4 (IntKind.u64.wrap (wrap64 (8 * x5)))) % 256]) x4 (wrap64 (x5 - 1))) else (none)) else (none)) else (some x3)
end
def impl_Padded.f (k : Nat) (l0 : List Int) : Option (List Int) := (slices_Clone_byte_byte.f l0).bind fun t171 => (if t171.length < 140737488355328 then (impl_Padded.l0 k l0 (t171 ++ [128])) else (none))
theorem impl_Padded.mono_l : ∀ k, (∀ y0 y1, LeO (impl_Padded.l0 k y0 y1) (impl_Padded.l0 (k + 1) y0 y1)) ∧ (∀ y0 y1 y2, LeO (impl_Padded.l1 k y0 y1 y2) (impl_Padded.l1 (k + 1) y0 y1 y2))
  | 0 => ⟨fun _ _ r h => by simp [impl_Padded.l0] at h, fun _ _ _ r h => by simp [impl_Padded.l1] at h⟩
  | k + 1 => by
    obtain ⟨ih0, ih1⟩ := impl_Padded.mono_l k
    refine ⟨?_, ?_⟩
    · intro y0 y1
      unfold impl_Padded.l0
      repeat' first
      | (with_reducible exact ih0 _ _)
      | (with_reducible exact ih1 _ _ _)
      | (with_reducible exact LeO.refl _)
      | (with_reducible exact LeO.none _)
      | (with_reducible refine LeO.ite ?_ ?_)
      | (with_reducible refine LeO.bind ?_ (fun _ => ?_))
      | exact ih0 _ _
      | exact ih1 _ _ _
      | exact LeO.none _
      | refine LeO.ite ?_ ?_
      | refine LeO.bind ?_ (fun _ => ?_)
    · intro y0 y1 y2
      unfold impl_Padded.l1
      repeat' first
      | (with_reducible exact ih0 _ _)
      | (with_reducible exact ih1 _ _ _)
      | (with_reducible exact LeO.refl _)
      | (with_reducible exact LeO.none _)
      | (with_reducible refine LeO.ite ?_ ?_)
      | (with_reducible refine LeO.bind ?_ (fun _ => ?_))
      | exact ih0 _ _
      | exact ih1 _ _ _
      | exact LeO.none _
      | refine LeO.ite ?_ ?_
      | refine LeO.bind ?_ (fun _ => ?_)
theorem impl_Padded.mono : ∀ a0 k, LeO (impl_Padded.f k a0) (impl_Padded.f (k + 1) a0) := by
  intro a0 k
  obtain ⟨ih0, ih1⟩ := impl_Padded.mono_l k
  unfold impl_Padded.f
  repeat' first
      | (with_reducible exact ih0 _ _)
      | (with_reducible exact ih1 _ _ _)
      | (with_reducible exact LeO.refl _)
      | (with_reducible exact LeO.none _)
      | (with_reducible refine LeO.ite ?_ ?_)
      | (with_reducible refine LeO.bind ?_ (fun _ => ?_))
      | exact ih0 _ _
      | exact ih1 _ _ _
      | exact LeO.none _
      | refine LeO.ite ?_ ?_
      | refine LeO.bind ?_ (fun _ => ?_)
set_option maxHeartbeats 8000000 in
set_option maxRecDepth 100000 in
theorem impl_Padded.calls (k : Nat) (A0 : Option Addr) (c0 : Nat) (l0 : List Int) (r : List Int) (w : World) (hr0 : Kd.C (Kd.int .u8) w A0 l0.length l0) (hc0 : l0.length ≤ c0) (h : impl_Padded.f k l0 = some r) :
    Calls Try.prog 37 #[.slice A0 l0.length c0] w fun e w' => ∃ v0_ : Value, e = .returned (v0_) ∧ Kd.R (Kd.int .u8) 5 w' w.heap.size (fun _ => True) v0_ r ∧ Below w.heap.size w w' := by
  have HR0 := Aside0.mk hr0
  have HC0 := Aside0.mk hc0
  clear hr0 hc0
  have HB := Aside0.mk (Below.refl w.heap.size w)
  have H : ((slices_Clone_byte_byte.f l0).bind fun t171 => (if t171.length < 140737488355328 then (impl_Padded.l0 k l0 (t171 ++ [128])) else (none))) = some r := h
  clear h
  replace H := Option.bind_eq_some_iff.mp H
  obtain ⟨t171, A20, H⟩ := H
  replace H : (if t171.length < 140737488355328 then (impl_Padded.l0 k l0 (t171 ++ [128])) else (none)) = some r := H
  have A2 := Aside0.mk A20
  clear A20
  by_cases c3 : t171.length < 140737488355328
  · rw [if_pos c3] at H
    have LMc3 := Aside0.mk c3
    clear c3
    obtain ⟨y174, hy174⟩ : ∃ y_ : List Int, y_ = (t171 ++ [128]) := ⟨_, rfl⟩
    replace H : (impl_Padded.l0 k l0 y174) = some r := by first | (rw [hy174]; with_reducible exact H) | (have H2_ := (Option.bind_some _ _).symm.trans H; rw [hy174]; with_reducible exact H2_) | (have H2_ := (Option.bind_some _ _).symm.trans H; with_reducible exact H2_) | with_reducible exact H | (rw [hy174]; exact H) | exact H
    have Ny174 := Aside0.mk hy174
    clear hy174
    have H' := Aside0.mk H
    clear H
    go_enter Try.func37, Try.ntmps37
    go_wp2_with (first | ((with_reducible refine gate_callee (f := 88) rfl ?_); refine goesL_ (some 7) rfl rfl Try.func88 (by kernel_rfl) rfl #[.slice A0 l0.length c0] rfl (by (try simp only [List.map_toArray, List.map_cons, List.map_nil]); first | done | rfl | (simp only [List.length_drop, List.length_take]; rfl)) ?_; (with_reducible refine (slices_Clone_byte_byte.calls _ _ l0 t171 _ ?side1 ?side2 A2.out).mono ?_); (case side1 => repeat (first | exact HR0.out | (with_reducible refine Kd.C_alloc ?_ _) | (with_reducible refine Kd.C_drewN ?_ _) | (with_reducible refine Kd.C_drew ?_))); (case side2 => exact HC0.out); rintro e w4 ⟨v172, rfl, ho0, hb⟩; refine ⟨_, rfl, ?_⟩; have n0_ := Aside0.mk (Kd.R_lower ho0 (below_size (by repeat (first | (with_reducible first | exact HB.out | apply below_alloc | apply pw_below_drewN | apply below_drew1) | exact HB.out)))); have n1_ := Aside0.mk (below_step (by repeat (first | (with_reducible first | exact HB.out | apply below_alloc | apply pw_below_drewN | apply below_drew1) | exact HB.out)) hb); clear HB; have HO173 := n0_; have HB := n1_; clear n0_ n1_; (try clear hb); (try clear hb2); (try clear hk); (try clear hi); (try clear ho0)) | ((with_reducible refine gate_builtin (b := .append) (xs := #[.tmp 7, .tmp 8]) rfl ?_); at_builtin; refine Kd.R_append (Kd.int .u8) (w0 := w) w.heap.size rfl (.tmp 7) (.tmp 8) 27 5 (.int .u8 0) 1 rfl Try.underlying27 info5 rfl (by decide) (by omega) v172 t171 128 [.int .u8 128] (fun _ => True) (fun _ => False) rfl rfl ?aP (fun _ hk => hk.elim) ?aF ?aO ?aB ?aS ?aL ?_; (case aP => exact rfl); (case aB => exact (by repeat (first | (with_reducible first | exact HB.out | apply below_alloc | apply pw_below_drewN | apply below_drew1) | exact HB.out))); (case aF => exact (fun _ _ => trivial)); (case aO => exact (by (with_reducible repeat (first | apply Kd.R_alloc | apply Kd.R_drewN | apply Kd.R_drew)); exact HO173.out)); (case aS => exact (below_size (by repeat (first | (with_reducible first | exact HB.out | apply below_alloc | apply pw_below_drewN | apply below_drew1) | exact HB.out)))); (case aL => have := LMc3.out; omega); intro v175 w5 ho hb hg hat; rw [← Ny174.out] at ho; have n0_ := Aside0.mk (hb); have n1_ := Aside0.mk (ho); clear HB; clear HO173; have HB := n0_; have HO176 := n1_; clear n0_ n1_; clear ho hb hg hat))
    go_loopg [3] k (fun kq v3 w' => ∃ (x3_1 : List Int), Aside0 (impl_Padded.l0 kq l0 x3_1 = some r) ∧ Aside0 (kq ≤ k) ∧ Aside0 (Kd.R (Kd.int .u8) 5 w' w.heap.size (fun _ => True) v3 x3_1) ∧ Aside0 (Below w.heap.size w w'))
    case atStart => exact ⟨(y174), H', ⟨Nat.le_refl _⟩, ⟨by (with_reducible repeat (first | apply Kd.R_alloc | apply Kd.R_drewN | apply Kd.R_drew)); exact HO176.out⟩, ⟨by repeat (first | (with_reducible first | exact HB.out | apply below_alloc | apply pw_below_drewN | apply below_drew1) | exact HB.out)⟩⟩
    case round =>
      clear H'
      try clear p2
      try clear c3
      obtain ⟨x3_1, HA, HK1, HO_3, HB⟩ := hrel
      cases gk with
      | zero => exact absurd HA.out (by simp [impl_Padded.l0])
      | succ k1 =>
        have H := HA.out
        clear HA
        simp only [impl_Padded.l0] at H
        by_cases c6 : (Int.tmod (wrap64 ((x3_1.length : Int) + 8)) 64) = 0
        · rw [if_pos c6] at H
          have c6b0 : ((Int.tmod (wrap64 ((x3_1.length : Int) + 8)) 64) == 0) = true := beq_iff_eq.mpr c6
          have c6b1 : ((Int.tmod (wrap64 ((x3_1.length : Int) + 8)) 64) != 0) = false := bne_eq_false_iff_eq.mpr c6
          clear c6
          have H' := Aside0.mk H
          clear H
          obtain ⟨Ao7, co7, eo7⟩ := Kd.R_slice HO_3.out
          subst eo7
          go_wp2
          go_loopg [3, 5] k1 (fun kq v3 v5 w' => ∃ (x3_2 : List Int) (x5_2 : Int), v5 = .int .i64 x5_2 ∧ Aside0 (impl_Padded.l1 kq x3_2 (wrap64 (8 * (l0.length : Int))) x5_2 = some r) ∧ Aside0 (kq ≤ k1) ∧ Aside0 (Kd.R (Kd.int .u8) 5 w' w.heap.size (fun _ => True) v3 x3_2) ∧ Aside0 (Below w.heap.size w w'))
          case atStart => exact ⟨(x3_1), (7), (by first | rfl | (simp; done) | (simp [*]; done)), H', ⟨Nat.le_refl _⟩, ⟨by (with_reducible repeat (first | apply Kd.R_alloc | apply Kd.R_drewN | apply Kd.R_drew)); exact HO_3.out⟩, ⟨by repeat (first | (with_reducible first | exact HB.out | apply below_alloc | apply pw_below_drewN | apply below_drew1) | exact HB.out)⟩⟩
          case round =>
            clear H'
            try clear p2
            try clear c3
            try clear c6
            try clear c6b0
            try clear c6b1
            try clear p6
            try clear p2
            obtain ⟨x3_2, x5_2, rfl, HA, HK2, HO_3, HB⟩ := hrel
            cases gk with
            | zero => exact absurd HA.out (by simp [impl_Padded.l1])
            | succ k2 =>
              have H := HA.out
              clear HA
              simp only [impl_Padded.l1] at H
              by_cases c8 : x5_2 ≥ 0
              · rw [if_pos c8] at H
                have c8b0 : decide (0 ≤ x5_2) = true := decide_eq_true c8
                clear c8
                obtain ⟨ji9, hji9⟩ : ∃ j_ : Int, (IntKind.u64.wrap (wrap64 (8 * x5_2))) = j_ := ⟨_, rfl⟩
                replace H : (if 0 ≤ (ji9) then (if x3_2.length < 140737488355328 then (impl_Padded.l1 k2 (x3_2 ++ [(shr .i64 (wrap64 (8 * (l0.length : Int))) (ji9)) % 256]) (wrap64 (8 * (l0.length : Int))) (wrap64 (x5_2 - 1))) else (none)) else (none)) = some r := by first | (rw [hji9] at H; exact H) | (simp only [hji9] at H ⊢; exact H)
                by_cases c10 : 0 ≤ (ji9)
                · rw [if_pos c10] at H
                  have c10b0 := eq_true c10
                  have c10b1 : decide (0 ≤ (ji9)) = true := decide_eq_true c10
                  clear c10
                  obtain ⟨ji11, hji11⟩ : ∃ j_ : Int, (shr .i64 (wrap64 (8 * (l0.length : Int))) (ji9)) = j_ := ⟨_, rfl⟩
                  replace H : (if x3_2.length < 140737488355328 then (impl_Padded.l1 k2 (x3_2 ++ [(ji11) % 256]) (wrap64 (8 * (l0.length : Int))) (wrap64 (x5_2 - 1))) else (none)) = some r := by first | (rw [hji11] at H; exact H) | (simp only [hji11] at H ⊢; exact H)
                  have hji11_ : ((wrap64 (8 * (l0.length : Int))) / 2 ^ min (ji9).toNat 64) = ji11 := hji11
                  have hji11z : (ji9) ≤ 64 → ((wrap64 (8 * (l0.length : Int))) / 2 ^ (ji9).toNat) = ji11 := shr_small hji11
                  by_cases c12 : x3_2.length < 140737488355328
                  · rw [if_pos c12] at H
                    have LMc12 := Aside0.mk c12
                    clear c12
                    obtain ⟨y180, hy180⟩ : ∃ y_ : List Int, y_ = (x3_2 ++ [(ji11) % 256]) := ⟨_, rfl⟩
                    replace H : (impl_Padded.l1 k2 y180 (wrap64 (8 * (l0.length : Int))) (wrap64 (x5_2 - 1))) = some r := by first | (rw [hy180]; with_reducible exact H) | (have H2_ := (Option.bind_some _ _).symm.trans H; rw [hy180]; with_reducible exact H2_) | (have H2_ := (Option.bind_some _ _).symm.trans H; with_reducible exact H2_) | with_reducible exact H | (rw [hy180]; exact H) | exact H
                    have Ny180 := Aside0.mk hy180
                    clear hy180
                    have H' := Aside0.mk H
                    clear H
                    go_wp2_with (first | ((with_reducible refine gate_builtin (b := .append) (xs := #[.tmp 25, .tmp 32]) rfl ?_); at_builtin; refine Kd.R_append (Kd.int .u8) (w0 := w) w.heap.size rfl (.tmp 25) (.tmp 32) 27 5 (.int .u8 0) 1 rfl Try.underlying27 info5 rfl (by decide) (by omega) u3 x3_2 ((ji11) % 256) [.int .u8 ((ji11) % 256)] (fun _ => True) (fun _ => False) rfl rfl ?aP (fun _ hk => hk.elim) ?aF ?aO ?aB ?aS ?aL ?_; (case aP => exact rfl); (case aB => exact (by repeat (first | (with_reducible first | exact HB.out | apply below_alloc | apply pw_below_drewN | apply below_drew1) | exact HB.out))); (case aF => exact (fun _ _ => trivial)); (case aO => exact (by (with_reducible repeat (first | apply Kd.R_alloc | apply Kd.R_drewN | apply Kd.R_drew)); exact HO_3.out)); (case aS => exact (below_size (by repeat (first | (with_reducible first | exact HB.out | apply below_alloc | apply pw_below_drewN | apply below_drew1) | exact HB.out)))); (case aL => have := LMc12.out; omega); intro v181 w13 ho hb hg hat; rw [← Ny180.out] at ho; have n0_ := Aside0.mk (hb); have n1_ := Aside0.mk (ho); clear HB; clear HO_3; have HB := n0_; have HO182 := n1_; clear n0_ n1_; clear ho hb hg hat))
                    go_roundg k2
                    case measure => have := HK1.out; have := HK2.out; omega
                    case rel => exact ⟨(y180), (wrap64 (x5_2 - 1)), (by first | rfl | (simp; done) | (simp [*]; done)), H', ⟨by have := HK1.out; have := HK2.out; omega⟩, ⟨by (with_reducible repeat (first | apply Kd.R_alloc | apply Kd.R_drewN | apply Kd.R_drew)); exact HO182.out⟩, ⟨by repeat (first | (with_reducible first | exact HB.out | apply below_alloc | apply pw_below_drewN | apply below_drew1) | exact HB.out)⟩⟩
                  · rw [if_neg c12] at H
                    exact absurd H (by simp)
                · rw [if_neg c10] at H
                  exact absurd H (by simp)
              · rw [if_neg c8] at H
                have c8b0 : decide (0 ≤ x5_2) = false := decide_eq_false c8
                clear c8
                obtain rfl := Option.some.inj H
                go_wp2
                go_ret
                exact ⟨_, by first | rfl | (simp [errW_none, errW_some] <;> rfl) | (simp [*, errW_none, errW_some] <;> rfl), by (with_reducible repeat (first | apply Kd.R_alloc | apply Kd.R_drewN | apply Kd.R_drew)); exact HO_3.out, by repeat (first | (with_reducible first | exact HB.out | apply below_alloc | apply pw_below_drewN | apply below_drew1) | exact HB.out)⟩
        · rw [if_neg c6] at H
          have c6b0 : ((Int.tmod (wrap64 ((x3_1.length : Int) + 8)) 64) == 0) = false := beq_eq_false_iff_ne.mpr c6
          have c6b1 : ((Int.tmod (wrap64 ((x3_1.length : Int) + 8)) 64) != 0) = true := bne_iff_ne.mpr c6
          by_cases c14 : x3_1.length < 140737488355328
          · rw [if_pos c14] at H
            have LMc14 := Aside0.mk c14
            clear c14
            obtain ⟨y177, hy177⟩ : ∃ y_ : List Int, y_ = (x3_1 ++ [0]) := ⟨_, rfl⟩
            replace H : (impl_Padded.l0 k1 l0 y177) = some r := by first | (rw [hy177]; with_reducible exact H) | (have H2_ := (Option.bind_some _ _).symm.trans H; rw [hy177]; with_reducible exact H2_) | (have H2_ := (Option.bind_some _ _).symm.trans H; with_reducible exact H2_) | with_reducible exact H | (rw [hy177]; exact H) | exact H
            have Ny177 := Aside0.mk hy177
            clear hy177
            have H' := Aside0.mk H
            clear H
            obtain ⟨Ao15, co15, eo15⟩ := Kd.R_slice HO_3.out
            subst eo15
            go_wp2_with (first | ((with_reducible refine gate_builtin (b := .append) (xs := #[.tmp 15, .tmp 16]) rfl ?_); at_builtin; refine Kd.R_append (Kd.int .u8) (w0 := w) w.heap.size rfl (.tmp 15) (.tmp 16) 27 5 (.int .u8 0) 1 rfl Try.underlying27 info5 rfl (by decide) (by omega) (.slice Ao15 x3_1.length co15) x3_1 0 [.int .u8 0] (fun _ => True) (fun _ => False) rfl rfl ?aP (fun _ hk => hk.elim) ?aF ?aO ?aB ?aS ?aL ?_; (case aP => exact rfl); (case aB => exact (by repeat (first | (with_reducible first | exact HB.out | apply below_alloc | apply pw_below_drewN | apply below_drew1) | exact HB.out))); (case aF => exact (fun _ _ => trivial)); (case aO => exact (by (with_reducible repeat (first | apply Kd.R_alloc | apply Kd.R_drewN | apply Kd.R_drew)); exact HO_3.out)); (case aS => exact (below_size (by repeat (first | (with_reducible first | exact HB.out | apply below_alloc | apply pw_below_drewN | apply below_drew1) | exact HB.out)))); (case aL => have := LMc14.out; omega); intro v178 w16 ho hb hg hat; rw [← Ny177.out] at ho; have n0_ := Aside0.mk (hb); have n1_ := Aside0.mk (ho); clear HB; clear HO_3; have HB := n0_; have HO179 := n1_; clear n0_ n1_; clear ho hb hg hat))
            go_roundg k1
            case measure => have := HK1.out; omega
            case rel => exact ⟨(y177), H', ⟨by have := HK1.out; omega⟩, ⟨by (with_reducible repeat (first | apply Kd.R_alloc | apply Kd.R_drewN | apply Kd.R_drew)); exact HO179.out⟩, ⟨by repeat (first | (with_reducible first | exact HB.out | apply below_alloc | apply pw_below_drewN | apply below_drew1) | exact HB.out)⟩⟩
          · rw [if_neg c14] at H
            exact absurd H (by simp)
  · rw [if_neg c3] at H
    exact absurd H (by simp)

end Go.Proofs.Ytmkhhnfmahdijaa.X

/- The words of SHA-256: the turning of a word, the 64 words of a block. Plain contracts of given functions, by hand. -/
namespace Go.Proofs.Ytmkhhnfmahdijaa.Sha
open Go.RowKit Go.Proofs.YtmkhhnfmahdijaaW.PrintWords Go.Proofs.YtmkhhnfmahdijaaW.PrintLast Go.Proofs.YtmkhhnfmahdijaaW.PrintMore
set_option linter.unusedVariables false
theorem iw (n : Int) (h : -9223372036854775808 ≤ n ∧ n ≤ 9223372036854775807) : IntKind.i64.wrap n = n := by rw [IntKind.wrap_i64]; omega
/-- A word turned to the right by n bits. -/
def rot (n : Nat) (x : Int) : Int := Go.bits .or .u32 (x * 2 ^ (32 - n) % 4294967296) (x / 2 ^ n)
set_option maxHeartbeats 8000000 in
set_option maxRecDepth 100000 in
theorem rot_calls (n : Nat) (k x : Int) (w : World) (hk : Go.bits .and .u64 (IntKind.u64.wrap k) 31 = ((32 - n : Nat) : Int)) (hn : n ≤ 32) :
    Calls Try.prog 130 #[.int .u32 x, .int .i64 k] w fun e w' => e = .returned (.int .u32 (rot n x)) ∧ w' = w := by
  have hn0 : (0 : Int) ≤ (n : Int) := by omega
  have e2 : 32 - (32 - n) = n := by omega
  go_enter Try.func130, Try.ntmps130
  go_wp2
  go_ret
  exact ⟨rfl, rfl⟩
/-- A word turned to the left by k bits, k below nothing. -/
def rt (k x : Int) : Int := rot (-k).toNat x
theorem rt_calls (k x : Int) (w : World) (hk : Go.bits .and .u64 (IntKind.u64.wrap k) 31 = ((32 - (-k).toNat : Nat) : Int)) (hn : (-k).toNat ≤ 32) :
    Calls Try.prog 130 #[.int .u32 x, .int .i64 k] w fun e w' => e = .returned (.int .u32 (rt k x)) ∧ w' = w := rot_calls _ k x w hk hn
/-- The cells of a block that hold words. -/
def Cells (W : World) (B n : Nat) (f : Nat → Int) : Prop := ∀ j, j < n → W.cell? ⟨B, j, none⟩ = some (.int .u32 (f j)) ∧ W.frozen? ⟨B, j, none⟩ = false
theorem Cells.congr {W : World} {B n : Nat} {f g : Nat → Int} (h : Cells W B n f) (e : ∀ j, j < n → f j = g j) : Cells W B n g := fun j hj => by rw [← e j hj]; exact h j hj
theorem Cells.set {W : World} {B n : Nat} {f : Nat → Int} (h : Cells W B n f) {k : Nat} (v : Int) : Cells (W.setCell ⟨B, k, none⟩ (.int .u32 v)) B n (fun j => if j = k then v else f j) := by
  intro j hj
  obtain ⟨h1, h2⟩ := h j hj
  refine ⟨?_, by rw [World.frozen?_setCell]; exact h2⟩
  by_cases hjk : j = k
  · subst hjk
    rw [World.cell?_setCell_same' W _ _ (by rw [h1]; rfl)]
    simp
  · rw [World.cell?_setCell_other (h := fun e => hjk (Addr.mk.inj e).2.1.symm), h1]
    simp [hjk]
theorem Cells.alloc {W : World} {t : TypeId} {c : Array Value} {n : Nat} {f : Nat → Int} (h : ∀ j, j < n → c[j]? = some (.int .u32 (f j))) : Cells (W.alloc (.cells c t)) W.heap.size n f := fun j hj =>
  ⟨(World.cell?_alloc_new ..).trans (h j hj), World.frozen?_alloc_at (hn := rfl) ..⟩
theorem Cells.of {W W' : World} {B n : Nat} {f : Nat → Int} (h : Cells W B n f) (hb : W'.heap[B]? = W.heap[B]?) : Cells W' B n f := fun j hj =>
  ⟨(World.cell?_of_block (w := W) hb).trans (h j hj).1, (World.frozen?_of_block (w := W) hb).trans (h j hj).2⟩
/-- A word of four bytes. -/
def four (a b c d : Int) : Int := Go.bits .or .u32 (Go.bits .or .u32 (Go.bits .or .u32 (a % 4294967296 * 16777216 % 4294967296) (b % 4294967296 * 65536 % 4294967296)) (c % 4294967296 * 256 % 4294967296)) (d % 4294967296)
/-- The first sixteen words. -/
def w16 (g : Nat → Int) (j : Nat) : Int := four (g (4 * j)) (g (4 * j + 1)) (g (4 * j + 2)) (g (4 * j + 3))
def sA (x : Int) : Int := Go.bits .xor .u32 (Go.bits .xor .u32 (rt (-7) x) (rt (-18) x)) (x / 8)
def sB (x : Int) : Int := Go.bits .xor .u32 (Go.bits .xor .u32 (rt (-17) x) (rt (-19) x)) (x / 1024)
/-- The word of four words before. -/
def mix (p q r s : Int) : Int := (p + sA q + r + sB s) % 4294967296
/-- The 64 words. -/
def ws (g : Nat → Int) (j : Nat) : Int := if h : j < 16 then w16 g j else mix (ws g (j - 16)) (ws g (j - 15)) (ws g (j - 7)) (ws g (j - 2))
termination_by j
theorem ws_lt {g : Nat → Int} {j : Nat} (h : j < 16) : ws g j = w16 g j := by rw [ws, dif_pos h]
theorem ws_ge {g : Nat → Int} {j : Nat} (h : ¬ j < 16) : ws g j = mix (ws g (j - 16)) (ws g (j - 15)) (ws g (j - 7)) (ws g (j - 2)) := by rw [ws, dif_neg h]
set_option maxHeartbeats 8000000 in
set_option maxRecDepth 100000 in
theorem words_calls (b off cap : Nat) (g : Nat → Int) (w : World) (hb : b < w.heap.size) (hc : ∀ j, j < 64 → w.cell? ⟨b, off + j, none⟩ = some (.int .u8 (g j))) :
    Calls Try.prog 129 #[.slice (some ⟨b, off, none⟩) 64 cap] w fun e w' => e = .returned (.pointer (some ⟨w.heap.size, 0, none⟩)) ∧ Below w.heap.size w w' ∧ w.heap.size < w'.heap.size ∧ Cells w' w.heap.size 64 (ws g) := by
  go_enter Try.func129, Try.ntmps129
  go_wp2
  go_loopw [10] (fun i wr => ∃ k : Nat, k ≤ 16 ∧ i = .int .i64 k ∧ Below w.heap.size w wr ∧ w.heap.size < wr.heap.size ∧ Cells wr w.heap.size 64 (fun j => if j < k then w16 g j else 0)) (fun i _ => 16 - (intOf i).toNat)
  case atStart =>
    refine ⟨0, by omega, rfl, (Below.refl _ w).alloc (Nat.le_refl _) _, by simp, ?_⟩
    refine Cells.alloc fun j hj => ?_
    refine (show _ = (Array.replicate 64 (Value.int .u32 0))[j]? from rfl).trans ?_
    simp [hj]
  case round =>
    obtain ⟨k, hk, rfl, hB, hs, hC⟩ := hrel
    by_cases hlt : k < 16
    · have hx0 := (hB.cell (p := ⟨b, off + 4 * k, none⟩) hb).trans (hc (4 * k) (by omega))
      have hx1 := (hB.cell (p := ⟨b, off + (4 * k + 1), none⟩) hb).trans (hc (4 * k + 1) (by omega))
      have hx2 := (hB.cell (p := ⟨b, off + (4 * k + 2), none⟩) hb).trans (hc (4 * k + 2) (by omega))
      have hx3 := (hB.cell (p := ⟨b, off + (4 * k + 3), none⟩) hb).trans (hc (4 * k + 3) (by omega))
      obtain ⟨hy, hz⟩ := hC k (by omega)
      obtain ⟨w2, hw2⟩ : ∃ w2, wr.drew = w2 := ⟨_, rfl⟩
      have hx0 : w2.cell? ⟨b, off + 4 * k, none⟩ = some (.int .u8 (g (4 * k))) := by rw [← hw2]; exact hx0
      have hx1 : w2.cell? ⟨b, off + (4 * k + 1), none⟩ = some (.int .u8 (g (4 * k + 1))) := by rw [← hw2]; exact hx1
      have hx2 : w2.cell? ⟨b, off + (4 * k + 2), none⟩ = some (.int .u8 (g (4 * k + 2))) := by rw [← hw2]; exact hx2
      have hx3 : w2.cell? ⟨b, off + (4 * k + 3), none⟩ = some (.int .u8 (g (4 * k + 3))) := by rw [← hw2]; exact hx3
      have hy : w2.cell? ⟨w.heap.size, k, none⟩ = some (.int .u32 (if k < k then w16 g k else 0)) := by rw [← hw2]; exact hy
      have hz : w2.frozen? ⟨w.heap.size, k, none⟩ = false := by rw [← hw2]; exact hz
      have e0 : IntKind.i64.wrap (4 * (k : Int)) = 4 * (k : Int) := iw _ (by omega)
      have e1 : IntKind.i64.wrap (4 * (k : Int) + 1) = 4 * (k : Int) + 1 := iw _ (by omega)
      have e2 : IntKind.i64.wrap (4 * (k : Int) + 2) = 4 * (k : Int) + 2 := iw _ (by omega)
      have e3 : IntKind.i64.wrap (4 * (k : Int) + 3) = 4 * (k : Int) + 3 := iw _ (by omega)
      have p0 : (0 : Int) ≤ 4 * (k : Int) := by omega
      have p1 : (0 : Int) ≤ 4 * (k : Int) + 1 := by omega
      have p2 : (0 : Int) ≤ 4 * (k : Int) + 2 := by omega
      have p3 : (0 : Int) ≤ 4 * (k : Int) + 3 := by omega
      have q0 : 4 * (k : Int) < 64 := by omega
      have q1 : 4 * (k : Int) + 1 < 64 := by omega
      have q2 : 4 * (k : Int) + 2 < 64 := by omega
      have q3 : 4 * (k : Int) + 3 < 64 := by omega
      have n0 : (4 * (k : Int)).toNat = 4 * k := by omega
      have n1 : (4 * (k : Int) + 1).toNat = 4 * k + 1 := by omega
      have n2 : (4 * (k : Int) + 2).toNat = 4 * k + 2 := by omega
      have n3 : (4 * (k : Int) + 3).toNat = 4 * k + 3 := by omega
      go_wp2
      refine wp_region_still_tail 34 (by kernel_rfl) (by kernel_rfl) ?_
      simp only [List.take_succ_cons, List.take_zero, List.drop_succ_cons, List.drop_zero]
      change wpStill _ _ wr.drew (fun a' => wpList _ _ _ _ a' wr.drew) _ _
      rw [hw2]
      repeat still_step
      refine wpStill_nil ?_
      go_wp2
      go_roundw
      case measure => simp [intOf]; omega
      case rel =>
        refine ⟨k + 1, by omega, by go_num, ?_⟩
        rw [← hw2]
        refine ⟨hB.drew.setCell (Nat.le_refl _) _, by simpa using hs, ((show Cells wr.drew _ _ _ from hC).set _).congr fun j hj => ?_⟩
        by_cases h1 : j = k
        · subst h1
          simp [w16, four]
        · simp only [h1, if_false]
          by_cases h2 : j < k
          · simp [h2, show j < k + 1 by omega]
          · simp [h2, show ¬ j < k + 1 by omega]
    · obtain rfl : k = 16 := by omega
      go_wp2
      clear hc
      have hC : Cells wr w.heap.size 64 (fun j => if j < 16 then ws g j else 0) := hC.congr fun j hj => by
        by_cases h2 : j < 16
        · simp [h2, ws_lt h2]
        · simp [h2]
      have h16 : 16 ≤ 16 := Nat.le_refl _
      go_loopw [5] (fun i wr => ∃ k : Nat, 16 ≤ k ∧ k ≤ 64 ∧ i = .int .i64 k ∧ Below w.heap.size w wr ∧ w.heap.size < wr.heap.size ∧ Cells wr w.heap.size 64 (fun j => if j < k then ws g j else 0)) (fun i _ => 64 - (intOf i).toNat)
      case atStart => exact ⟨16, by omega, by omega, rfl, hB, hs, hC⟩
      case round =>
        clear hB hs hC
        obtain ⟨k, hk16, hk, rfl, hB, hs, hC⟩ := hrel
        by_cases hlt : k < 64
        · obtain ⟨ha, _⟩ := hC (k - 16) (by omega)
          obtain ⟨hb', _⟩ := hC (k - 15) (by omega)
          obtain ⟨hc', _⟩ := hC (k - 7) (by omega)
          obtain ⟨hd', _⟩ := hC (k - 2) (by omega)
          obtain ⟨hy, hz⟩ := hC k hlt
          dsimp only at ha hb' hc' hd' hy
          rw [if_pos (show k - 16 < k by omega)] at ha
          rw [if_pos (show k - 15 < k by omega)] at hb'
          rw [if_pos (show k - 7 < k by omega)] at hc'
          rw [if_pos (show k - 2 < k by omega)] at hd'
          rw [if_neg (show ¬ k < k by omega)] at hy
          obtain ⟨va, hva⟩ : ∃ x, ws g (k - 16) = x := ⟨_, rfl⟩
          obtain ⟨vb, hvb⟩ : ∃ x, ws g (k - 15) = x := ⟨_, rfl⟩
          obtain ⟨vc, hvc⟩ : ∃ x, ws g (k - 7) = x := ⟨_, rfl⟩
          obtain ⟨vd, hvd⟩ : ∃ x, ws g (k - 2) = x := ⟨_, rfl⟩
          have hws := Aside0.mk (ws_ge (g := g) (j := k) (by omega))
          rw [hva] at ha hws
          rw [hvb] at hb' hws
          rw [hvc] at hc' hws
          rw [hvd] at hd' hws
          clear hva hvb hvc hvd
          have e0 : IntKind.i64.wrap ((k : Int) - 16) = (k : Int) - 16 := iw _ (by omega)
          have e1 : IntKind.i64.wrap ((k : Int) - 15) = (k : Int) - 15 := iw _ (by omega)
          have e2 : IntKind.i64.wrap ((k : Int) - 7) = (k : Int) - 7 := iw _ (by omega)
          have e3 : IntKind.i64.wrap ((k : Int) - 2) = (k : Int) - 2 := iw _ (by omega)
          have p0 : (0 : Int) ≤ (k : Int) - 16 := by omega
          have p1 : (0 : Int) ≤ (k : Int) - 15 := by omega
          have p2 : (0 : Int) ≤ (k : Int) - 7 := by omega
          have p3 : (0 : Int) ≤ (k : Int) - 2 := by omega
          have q0 : (k : Int) - 16 < 64 := by omega
          have q1 : (k : Int) - 15 < 64 := by omega
          have q2 : (k : Int) - 7 < 64 := by omega
          have q3 : (k : Int) - 2 < 64 := by omega
          have r0 : (16 : Int) ≤ (k : Int) := by omega
          have r1 : (15 : Int) ≤ (k : Int) := by omega
          have r2 : (7 : Int) ≤ (k : Int) := by omega
          have r3 : (2 : Int) ≤ (k : Int) := by omega
          have n0 : ((k : Int) - 16).toNat = k - 16 := by omega
          have n1 : ((k : Int) - 15).toNat = k - 15 := by omega
          have n2 : ((k : Int) - 7).toNat = k - 7 := by omega
          have n3 : ((k : Int) - 2).toNat = k - 2 := by omega
          go_wp2
          go_quiet (fail)
          go_wp2_with (go_at_call 130; refine (rt_calls _ _ _ (by rfl) (by decide)).mono ?_; rintro e w' ⟨rfl, rfl⟩)
          obtain ⟨w2, hw2⟩ : ∃ w2, (wr.drewN nq).drew = w2 := ⟨_, rfl⟩
          have hbk : w2.heap[w.heap.size]? = wr.heap[w.heap.size]? := by rw [← hw2]; rfl
          have ha := (World.cell?_of_block (w := wr) (w' := w2) (a := ⟨w.heap.size, k - 16, none⟩) hbk).trans ha
          have hc' := (World.cell?_of_block (w := wr) (w' := w2) (a := ⟨w.heap.size, k - 7, none⟩) hbk).trans hc'
          have hy := (World.cell?_of_block (w := wr) (w' := w2) (a := ⟨w.heap.size, k, none⟩) hbk).trans hy
          have hz := (World.frozen?_of_block (w := wr) (w' := w2) (a := ⟨w.heap.size, k, none⟩) hbk).trans hz
          refine wp_region_still_tail 14 (by kernel_rfl) (by kernel_rfl) ?_
          simp only [List.take_succ_cons, List.take_zero, List.drop_succ_cons, List.drop_zero]
          change wpStill _ _ (wr.drewN nq).drew (fun a' => wpList _ _ _ _ a' (wr.drewN nq).drew) _ _
          rw [hw2]
          repeat still_step
          refine wpStill_nil ?_
          go_wp2
          go_roundw
          case measure => simp [intOf]; omega
          case rel =>
            repeat apply Exists.intro
            refine ⟨?_, rfl⟩
            refine ⟨k + 1, by omega, by omega, by go_num, ?_⟩
            rw [← hw2]
            have hB2 : Below w.heap.size w (wr.drewN nq).drew := ⟨hB.os, hB.tape, hB.output, hB.size, hB.block⟩
            refine ⟨hB2.setCell (Nat.le_refl _) _, by simpa using hs, ((show Cells (wr.drewN nq).drew _ _ _ from hC).set _).congr fun j hj => ?_⟩
            by_cases h1 : j = k
            · subst h1
              rw [if_pos rfl, if_pos (by omega), hws.out]
              rfl
            · simp only [h1, if_false]
              by_cases h2 : j < k
              · simp [h2, show j < k + 1 by omega]
              · simp [h2, show ¬ j < k + 1 by omega]
        · obtain rfl : k = 64 := by omega
          go_wp2
          go_ret
          exact ⟨rfl, hB, hs, hC.congr fun j hj => by simp [hj]⟩
end Go.Proofs.Ytmkhhnfmahdijaa.Sha

/- The turning of a digest's words by a block. Plain contracts of given functions, by hand. -/
namespace Go.Proofs.Ytmkhhnfmahdijaa.Sha
open Go.RowKit Go.Proofs.YtmkhhnfmahdijaaW.PrintWords Go.Proofs.YtmkhhnfmahdijaaW.PrintLast Go.Proofs.YtmkhhnfmahdijaaW.PrintMore
set_option linter.unusedVariables false
/-- Below n, but for block B, the world is as it was. -/
structure Off (n B : Nat) (a w : World) : Prop where
  os : w.os = a.os
  tape : w.tape = a.tape
  output : w.output = a.output
  size : a.heap.size ≤ w.heap.size
  block : ∀ k, k < n → k ≠ B → w.heap[k]? = a.heap[k]?
theorem Off.of {n B : Nat} {a w : World} (h : Below n a w) : Off n B a w := ⟨h.os, h.tape, h.output, h.size, fun k hk _ => h.block k hk⟩
theorem Off.below {n B n0 : Nat} {a w : World} (h : Off n B a w) (h0 : n0 ≤ n) (hB : n0 ≤ B) : Below n0 a w := ⟨h.os, h.tape, h.output, h.size, fun k hk => h.block k (by omega) (by omega)⟩
theorem Off.trans {n B : Nat} {a b c : World} (h : Off n B a b) (k : Off n B b c) : Off n B a c := ⟨k.os.trans h.os, k.tape.trans h.tape, k.output.trans h.output, Nat.le_trans h.size k.size, fun i hi hB => (k.block i hi hB).trans (h.block i hi hB)⟩
theorem Off.mono {n n' B : Nat} {a w : World} (h : Off n B a w) (hn : n' ≤ n) : Off n' B a w := ⟨h.os, h.tape, h.output, h.size, fun k hk => h.block k (by omega)⟩
theorem Off.set {n B : Nat} {a w : World} (h : Off n B a w) (p : Addr) (u : Value) (hp : p.block = B ∨ n ≤ p.block) : Off n B a (w.setCell p u) :=
  h.trans ⟨rfl, rfl, rfl, by simp [World.setCell], fun k hk hB => Below.heap_setCell _ _ _ _ (by omega)⟩
theorem Cells.off {W W' : World} {n B C m : Nat} {f : Nat → Int} (h : Cells W C m f) (o : Off n B W W') (hC : C < n) (hB : C ≠ B) : Cells W' C m f := h.of (o.block C hC hB)
theorem Cells.below {W W' : World} {n C m : Nat} {f : Nat → Int} (h : Cells W C m f) (o : Below n W W') (hC : C < n) : Cells W' C m f := h.of (o.block C hC)
def tA (e : Int) : Int := Go.bits .xor .u32 (Go.bits .xor .u32 (rt (-6) e) (rt (-11) e)) (rt (-25) e)
def tB (a : Int) : Int := Go.bits .xor .u32 (Go.bits .xor .u32 (rt (-2) a) (rt (-13) a)) (rt (-22) a)
def ch (e f g : Int) : Int := Go.bits .xor .u32 (Go.bits .and .u32 e f) (Go.bits .and .u32 (Go.bits .xor .u32 IntKind.u32.max e) g)
def maj (a b c : Int) : Int := Go.bits .xor .u32 (Go.bits .xor .u32 (Go.bits .and .u32 a b) (Go.bits .and .u32 a c)) (Go.bits .and .u32 b c)
def t1 (v : Nat → Int) (k x : Int) : Int := v 7 + tA (v 4) + ch (v 4) (v 5) (v 6) + k + x
/-- One round. -/
def step (v : Nat → Int) (k x : Int) : Nat → Int
  | 0 => (t1 v k x + tB (v 0) + maj (v 0) (v 1) (v 2)) % 4294967296
  | 1 => v 0
  | 2 => v 1
  | 3 => v 2
  | 4 => (v 3 + t1 v k x) % 4294967296
  | 5 => v 4
  | 6 => v 5
  | _ => v 6
def run (h K W : Nat → Int) : Nat → Nat → Int
  | 0 => h
  | n + 1 => step (run h K W n) (K n) (W n)
def turn (h g K : Nat → Int) (j : Nat) : Int := (h j + run h K (ws g) 64 j) % 4294967296
set_option maxHeartbeats 8000000 in
set_option maxRecDepth 100000 in
theorem turn_calls (Bh Bk b off cap : Nat) (h g K : Nat → Int) (w : World) (hb : b < w.heap.size) (hh : Bh < w.heap.size) (hk : Bk < w.heap.size) (hhb : b ≠ Bh) (hhk : Bk ≠ Bh)
    (hc : ∀ j, j < 64 → w.cell? ⟨b, off + j, none⟩ = some (.int .u8 (g j))) (hH : Cells w Bh 8 h) (hK : Cells w Bk 64 K) :
    Calls Try.prog 107 #[.pointer (some ⟨Bh, 0, none⟩), .slice (some ⟨b, off, none⟩) 64 cap, .pointer (some ⟨Bk, 0, none⟩)] w fun e w' => (∃ v, e = .returned v) ∧ Off w.heap.size Bh w w' ∧ Cells w' Bh 8 (turn h g K) := by
  go_enter Try.func107, Try.ntmps107
  have hsz : Hid (w.heap.size = w.heap.size) := rfl
  go_wp2_with (go_at_call 129; refine (words_calls b off cap g w hb hc).mono ?_; rintro e w1 ⟨rfl, hB1, hs1, hW⟩; have hH1 := hH.below hB1 hh; have hK1 := hK.below hB1 hk; obtain ⟨h0, h0'⟩ := hH1 0 (by omega); obtain ⟨h1, h1'⟩ := hH1 1 (by omega); obtain ⟨h2, h2'⟩ := hH1 2 (by omega); obtain ⟨h3, h3'⟩ := hH1 3 (by omega); obtain ⟨h4, h4'⟩ := hH1 4 (by omega); obtain ⟨h5, h5'⟩ := hH1 5 (by omega); obtain ⟨h6, h6'⟩ := hH1 6 (by omega); obtain ⟨h7, h7'⟩ := hH1 7 (by omega))
  clear hsz h0 h0' h1 h1' h2 h2' h3 h3' h4 h4' h5 h5' h6 h6' h7 h7' hc
  obtain ⟨n1, hn1⟩ : ∃ n1, w1.heap.size = n1 := ⟨_, rfl⟩
  rw [hn1] at hs1
  simp only [hn1]
  have hV0 : Cells (w1.alloc (Obj.cells #[Value.int IntKind.u32 (h 0), Value.int IntKind.u32 (h 1), Value.int IntKind.u32 (h 2), Value.int IntKind.u32 (h 3), Value.int IntKind.u32 (h 4), Value.int IntKind.u32 (h 5), Value.int IntKind.u32 (h 6), Value.int IntKind.u32 (h 7)] 97)) n1 8 h := by
    rw [← hn1]
    refine Cells.alloc fun j hj => ?_
    match j, hj with
    | 0, _ => rfl
    | 1, _ => rfl
    | 2, _ => rfl
    | 3, _ => rfl
    | 4, _ => rfl
    | 5, _ => rfl
    | 6, _ => rfl
    | 7, _ => rfl
  obtain ⟨w2, hw2⟩ : ∃ w2, w1.alloc (Obj.cells #[Value.int IntKind.u32 (h 0), Value.int IntKind.u32 (h 1), Value.int IntKind.u32 (h 2), Value.int IntKind.u32 (h 3), Value.int IntKind.u32 (h 4), Value.int IntKind.u32 (h 5), Value.int IntKind.u32 (h 6), Value.int IntKind.u32 (h 7)] 97) = w2 := ⟨_, rfl⟩
  have hB2 : Below n1 w1 w2 := by rw [← hw2]; exact (Below.refl _ _).alloc (by omega) _
  have hs2 : n1 < w2.heap.size := by rw [← hw2, World.size_alloc]; omega
  rw [hw2] at hV0 ⊢
  clear hw2
  go_loopw [22] (fun i wr => ∃ k : Nat, k ≤ 64 ∧ i = .int .i64 k ∧ Below n1 w1 wr ∧ n1 < wr.heap.size ∧ Cells wr n1 8 (run h K (ws g) k)) (fun i _ => 64 - (intOf i).toNat)
  case atStart => exact ⟨0, by omega, rfl, hB2, hs2, hV0⟩
  case round =>
    clear hB2 hs2 hV0
    obtain ⟨k, hk64, rfl, hB, hs, hV⟩ := hrel
    by_cases hlt : k < 64
    · obtain ⟨ck, _⟩ := (hK1.below hB (by omega)) k hlt
      obtain ⟨cw, _⟩ := (hW.below hB (by omega)) k hlt
      have hst : Hid (run h K (ws g) (k + 1) = step (run h K (ws g) k) (K k) (ws g k)) := rfl
      obtain ⟨v, hv⟩ : ∃ v, run h K (ws g) k = v := ⟨_, rfl⟩
      obtain ⟨kk, hkk⟩ : ∃ v, K k = v := ⟨_, rfl⟩
      obtain ⟨ww, hww⟩ : ∃ v, ws g k = v := ⟨_, rfl⟩
      rw [hv, hkk, hww] at hst
      rw [hv] at hV
      rw [hkk] at ck
      rw [hww] at cw
      clear hv hkk hww
      obtain ⟨c0, z0⟩ := hV 0 (by omega)
      obtain ⟨c1, z1⟩ := hV 1 (by omega)
      obtain ⟨c2, z2⟩ := hV 2 (by omega)
      obtain ⟨c3, z3⟩ := hV 3 (by omega)
      obtain ⟨c4, z4⟩ := hV 4 (by omega)
      obtain ⟨c5, z5⟩ := hV 5 (by omega)
      obtain ⟨c6, z6⟩ := hV 6 (by omega)
      obtain ⟨c7, z7⟩ := hV 7 (by omega)
      have hB' := Aside0.mk hB
      have hs' := Aside0.mk hs
      clear hB hs
      have hlt' : (k : Int) < 64 := by omega
      go_wp2
      go_quiet (fail)
      generalize nq = na
      go_wp2_with (go_at_call 130; refine (rt_calls _ _ _ (by rfl) (by decide)).mono ?_; rintro e w' ⟨rfl, rfl⟩)
      go_quiet (fail)
      go_wp2_with (go_at_call 130; refine (rt_calls _ _ _ (by rfl) (by decide)).mono ?_; rintro e w' ⟨rfl, rfl⟩)
      go_roundw
      case measure => simp [intOf]; omega
      case rel =>
        have hV2 : Cells (wr.drewN (na + nq)) n1 8 v := hV
        refine ⟨k + 1, by omega, by go_num, ?_⟩
        have hB3 : Below n1 w1 (wr.drewN (na + nq)) := ⟨hB'.out.os, hB'.out.tape, hB'.out.output, hB'.out.size, hB'.out.block⟩
        refine ⟨?_, ?_, ?_⟩
        · exact (((((((hB3.setCell (Nat.le_refl _) _).setCell (Nat.le_refl _) _).setCell (Nat.le_refl _) _).setCell (Nat.le_refl _) _).setCell (Nat.le_refl _) _).setCell (Nat.le_refl _) _).setCell (Nat.le_refl _) _).setCell (Nat.le_refl _) _
        · simp only [World.size_setCell]; exact hs'.out
        · rw [hst.out]
          refine ((((((((hV2.set _).set _).set _).set _).set _).set _).set _).set _).congr fun j hj => ?_
          match j, hj with
          | 0, _ => rfl
          | 1, _ => rfl
          | 2, _ => rfl
          | 3, _ => rfl
          | 4, _ => rfl
          | 5, _ => rfl
          | 6, _ => rfl
          | 7, _ => rfl
    · obtain rfl : k = 64 := by omega
      obtain ⟨v, hv⟩ : ∃ v, run h K (ws g) 64 = v := ⟨_, rfl⟩
      have hT := Aside0.mk (show ∀ j, turn h g K j = (h j + v j) % 4294967296 from fun j => by rw [← hv]; rfl)
      rw [hv] at hV
      clear hv hlt hk64
      go_wp2
      go_loopw [109] (fun i wr => ∃ k : Nat, k ≤ 8 ∧ i = .int .i64 k ∧ Off n1 Bh w1 wr ∧ n1 < wr.heap.size ∧ Cells wr n1 8 v ∧ Cells wr Bh 8 (fun j => if j < k then turn h g K j else h j)) (fun i _ => 8 - (intOf i).toNat)
      case atStart => exact ⟨0, by omega, rfl, Off.of hB, hs, hV, (hH1.below hB (by omega)).congr fun j hj => by simp⟩
      case round =>
        clear hB hs hV
        obtain ⟨k, hk8, rfl, hO, hs, hV, hC⟩ := hrel
        by_cases hlt : k < 8
        · obtain ⟨ca, _⟩ := hV k hlt
          obtain ⟨cb, zb⟩ := hC k hlt
          dsimp only at cb
          rw [if_neg (by omega)] at cb
          have hTk := Aside0.mk (hT.out k)
          obtain ⟨va, hva⟩ : ∃ x, v k = x := ⟨_, rfl⟩
          obtain ⟨vb, hvb⟩ : ∃ x, h k = x := ⟨_, rfl⟩
          rw [hva] at ca hTk
          rw [hvb] at cb hTk
          clear hva hvb
          obtain ⟨w2, hw2⟩ : ∃ w2, wr.drew = w2 := ⟨_, rfl⟩
          have ca : w2.cell? ⟨n1, k, none⟩ = some (.int .u32 va) := by rw [← hw2]; exact ca
          have cb : w2.cell? ⟨Bh, k, none⟩ = some (.int .u32 vb) := by rw [← hw2]; exact cb
          have zb : w2.frozen? ⟨Bh, k, none⟩ = false := by rw [← hw2]; exact zb
          have hlt' : (k : Int) < 8 := by omega
          go_wp2
          refine wp_region_still_tail 11 (by kernel_rfl) (by kernel_rfl) ?_
          simp only [List.take_succ_cons, List.take_zero, List.drop_succ_cons, List.drop_zero]
          change wpStill _ _ wr.drew (fun a' => wpList _ _ _ _ a' wr.drew) _ _
          rw [hw2]
          repeat still_step
          refine wpStill_nil ?_
          go_wp2
          go_roundw
          case measure => simp [intOf]; omega
          case rel =>
            repeat apply Exists.intro
            refine ⟨?_, rfl⟩
            rw [← hw2]
            have hO2 : Off n1 Bh w1 wr.drew := ⟨hO.os, hO.tape, hO.output, hO.size, hO.block⟩
            refine ⟨k + 1, by omega, by go_num, hO2.set _ _ (.inl rfl), by simpa using hs, ?_, ?_⟩
            · exact (show Cells wr.drew n1 8 v from hV).of (Below.heap_setCell _ _ _ _ (by show n1 ≠ Bh; omega))
            · refine ((show Cells wr.drew _ _ _ from hC).set _).congr fun j hj => ?_
              by_cases h1 : j = k
              · subst h1
                rw [if_pos rfl, if_pos (by omega), hTk.out]
              · simp only [h1, if_false]
                by_cases h2 : j < k
                · simp [h2, show j < k + 1 by omega]
                · simp [h2, show ¬ j < k + 1 by omega]
        · obtain rfl : k = 8 := by omega
          go_wp2
          go_end0
          exact ⟨⟨_, rfl⟩, (Off.of hB1).trans (hO.mono (by omega)), hC.congr fun j hj => by simp [hj]⟩
end Go.Proofs.Ytmkhhnfmahdijaa.Sha

/- slices.Chunk over whole pieces of 64 bytes: its contract as an iterator, by hand. -/
namespace Go.Proofs.Ytmkhhnfmahdijaa.Sha
open Go.RowKit Go.Shelf
set_option linter.unusedVariables false
attribute [local go_sem] Oper.semAt_some
def upto {α : Type} (f : Nat → α) (k : Nat) : List α := (List.range k).map f
theorem upto_succ {α : Type} (f : Nat → α) (k : Nat) : upto f (k + 1) = upto f k ++ [f k] := by simp [upto, List.range_succ]
theorem upto_length {α : Type} (f : Nat → α) (k : Nat) : (upto f k).length = k := by simp [upto]
def first (m k : Nat) : List (Fin m) := (List.finRange m).take k
theorem first_length {m k : Nat} (h : k ≤ m) : (first m k).length = k := by simp [first]; omega
theorem first_succ {m k : Nat} (h : k < m) : first m (k + 1) = first m k ++ [⟨k, h⟩] := by
  unfold first
  rw [List.take_add_one]
  congr 1
  rw [List.getElem?_eq_getElem (by simpa using h)]
  simp
theorem first_all (m : Nat) : first m m = List.finRange m := by unfold first; rw [List.take_of_length_le (by simp)]
theorem first_map (m : Nat) : (first m m).map Fin.val = List.range m := by
  rw [first_all]
  apply List.ext_getElem
  · simp
  · intro i h1 h2
    simp
/-- The piece of number x. -/
def piece (b off : Nat) (x : Nat) : Array Value := #[.slice (some ⟨b, off + 64 * x, none⟩) 64 64]
set_option maxRecDepth 100000 in
set_option maxHeartbeats 4000000 in
theorem chunk1_in (F : Fence) (n : Nat) (h7 : F.fn 128) (hro : F.round = none) (hn : 1 ≤ n) (l Bs Bn n₀ H b off cap m : Nat) (hcap : 64 * m ≤ cap) (hm : 64 * m ≤ 140737488351232) (hBs : Bs < n₀) (hBn : Bn < n₀) (hBsH : Bs ≠ H) (hBnH : Bn ≠ H) (J Jx : List (Fin m) → World → Prop) (hJd : ∀ s W, J s W → J s W.drew)
    (hY : ∀ pre x W, J pre W → pre.length < m → YieldAt F (n - 1) Try.prog l (piece b off x.1) W fun e W' =>
      (e = .returned (.bool true) ∧ J (pre ++ [x]) W' ∧ Off n₀ H W W') ∨ (e = .returned (.bool false) ∧ Jx (pre ++ [x]) W'))
    (W : World) (hs : W.cell? ⟨Bs, 0, none⟩ = some (.slice (some ⟨b, off, none⟩) (64 * m) cap)) (hnn : W.cell? ⟨Bn, 0, none⟩ = some (.int .i64 64)) (h0 : J [] W) :
    CallsIn F n Try.prog 128 #[.func (.yield l) #[] #[], .pointer (some ⟨Bs, 0, none⟩), .pointer (some ⟨Bn, 0, none⟩)] W fun e W' => (∃ v, e = .returned v) ∧
      ((∃ ys, ys = first m m ∧ J ys W') ∨ (∃ pre, (∃ k, pre = first m k) ∧ Jx pre W')) := by
  refine callsIn_of_wp Try.func128 rfl h7 ?_ hro
  simp only [Try.ntmps128, List.size_toArray, List.length_cons, List.length_nil, Nat.reduceAdd, Nat.reduceSub, Array.replicate_succ, Array.replicate_zero, List.push_toArray, List.append_toArray, List.nil_append, List.cons_append]
  gi_wp2
  gi_loopw [4] (fun i wr => ∃ k : Nat, k ≤ m ∧ i = .int .i64 ((64 * k : Nat) : Int) ∧ J (first m k) wr ∧ Off n₀ H W wr)
    (fun i _ => 64 * m - (intOf i).toNat)
  case atStart => exact ⟨0, Nat.zero_le _, rfl, h0, Off.of (Below.refl _ _)⟩
  case round =>
    obtain ⟨k, hk, rfl, hJs, hO⟩ := hrel
    have hs' := (World.cell?_of_block (w := W) (w' := wr) (a := ⟨Bs, 0, none⟩) (hO.block Bs hBs hBsH)).trans hs
    have hn' := (World.cell?_of_block (w := W) (w' := wr) (a := ⟨Bn, 0, none⟩) (hO.block Bn hBn hBnH)).trans hnn
    by_cases hlt : k < m
    · obtain ⟨fn, tmps, assign, body, hy, hR⟩ := hY _ ⟨k, hlt⟩ wr.drew (hJd _ _ hJs) (by rw [first_length hk]; exact hlt)
      dsimp only [piece] at hy
      have hlt' : ((64 * k : Nat) : Int) < ((64 * m : Nat) : Int) := by omega
      have hle' : ((64 * k : Nat) : Int) ≤ ((64 * m : Nat) : Int) := by omega
      have hnk : (((64 * k : Nat) : Int)).toNat = 64 * k := by omega
      gi_wp2
      gi_region
      all_goals
        gi_wp2
        refine hR.mono ?_
        rintro e W3 (⟨rfl, hJ3, hk3⟩ | ⟨rfl, hJx3⟩)
        · have hn3 := (World.cell?_of_block (w := wr) (w' := W3) (a := ⟨Bn, 0, none⟩) (hk3.block Bn hBn hBnH)).trans hn'
          gi_wp2
          go_roundw
          case rel =>
            refine ⟨k + 1, by omega, by first | go_num | (congr 1; omega) | simp, by rw [first_succ hlt]; exact hJ3, ?_⟩
            exact hO.trans ⟨hk3.os, hk3.tape, hk3.output, hk3.size, hk3.block⟩
          case measure => simp [intOf]; omega
        · gi_wp2
          refine bodyPost_ret (results_none rfl _ _ _) rfl ?_
          exact ⟨⟨_, rfl⟩, .inr ⟨_, ⟨k + 1, (first_succ hlt).symm⟩, hJx3⟩⟩
    · obtain rfl : k = m := by omega
      gi_wp2
      go_end0
      exact ⟨⟨_, rfl⟩, .inl ⟨_, rfl, hJs⟩⟩
set_option maxHeartbeats 4000000 in
theorem chunk_in (F : Fence) (n : Nat) (h5 : F.fn 106) (hro : F.round = none) (b off len cap : Nat) (w : World) :
    CallsIn F n Try.prog 106 #[.slice (some ⟨b, off, none⟩) len cap, .int .i64 64] w fun e w' => e = .returned (.func (.func 128) #[] #[.pointer (some ⟨w.heap.size, 0, none⟩), .pointer (some ⟨w.heap.size + 1, 0, none⟩)]) ∧
      w' = (w.alloc (.cells #[.slice (some ⟨b, off, none⟩) len cap] 27)).alloc (.cells #[.int .i64 64] 3) := by
  refine callsIn_of_wp Try.func106 rfl h5 ?_ hro
  simp only [Try.ntmps106, List.size_toArray, List.length_cons, List.length_nil, Nat.reduceAdd, Nat.reduceSub, Array.replicate_succ, Array.replicate_zero, List.push_toArray, List.append_toArray, List.nil_append, List.cons_append]
  gi_wp2
  go_ret
  exact ⟨rfl, rfl⟩
/-- slices.Chunk(s, 64), s of 64 m bytes: what it hands back yields the m pieces in order; a round may turn block H. -/
theorem chunk_stops (F : Fence) (n : Nat) (h7 : F.fn 128) (hro : F.round = none) (hn : 1 ≤ n) (Bs Bn n₀ H b off cap m : Nat) (hcap : 64 * m ≤ cap) (hm : 64 * m ≤ 140737488351232) (hBs : Bs < n₀) (hBn : Bn < n₀) (hBsH : Bs ≠ H) (hBnH : Bn ≠ H) (w : World) (hn₀ : n₀ ≤ w.heap.size)
    (hs : w.cell? ⟨Bs, 0, none⟩ = some (.slice (some ⟨b, off, none⟩) (64 * m) cap)) (hnn : w.cell? ⟨Bn, 0, none⟩ = some (.int .i64 64)) :
    SeqStopsK F n Try.prog 128 #[.pointer (some ⟨Bs, 0, none⟩), .pointer (some ⟨Bn, 0, none⟩)] (fun x : Fin m => piece b off x.1) (Off n₀ H) (fun ys => ys = first m m) (fun pre => ∃ k, pre = first m k) m w := fun l J Jx W hW hJ hJx hY h0 =>
  chunk1_in F n h7 hro hn l Bs Bn n₀ H b off cap m hcap hm hBs hBn hBsH hBnH J Jx
    (fun s W h => hJ s W W.drew none h ⟨rfl, rfl, rfl, Nat.le_refl _, fun _ _ _ => rfl⟩ (fun r e => by cases e)) hY W ((hW.cell (by show Bs < _; omega)).trans hs) ((hW.cell (by show Bn < _; omega)).trans hnn) h0
end Go.Proofs.Ytmkhhnfmahdijaa.Sha

/- The digest of bytes that are given: the walk over all pieces and the text of the eight words. By hand. -/
namespace Go.Proofs.Ytmkhhnfmahdijaa.Sha
open Go.RowKit Go.Shelf Go.Proofs.YtmkhhnfmahdijaaW.PrintWords Go.Proofs.YtmkhhnfmahdijaaW.PrintLast Go.Proofs.YtmkhhnfmahdijaaW.PrintMore
set_option linter.unusedVariables false
def kks : List Int := [1116352408, 1899447441, 3049323471, 3921009573, 961987163, 1508970993, 2453635748, 2870763221, 3624381080, 310598401, 607225278, 1426881987, 1925078388, 2162078206, 2614888103, 3248222580, 3835390401, 4022224774, 264347078, 604807628, 770255983, 1249150122, 1555081692, 1996064986, 2554220882, 2821834349, 2952996808, 3210313671, 3336571891, 3584528711, 113926993, 338241895, 666307205, 773529912, 1294757372, 1396182291, 1695183700, 1986661051, 2177026350, 2456956037, 2730485921, 2820302411, 3259730800, 3345764771, 3516065817, 3600352804, 4094571909, 275423344, 430227734, 506948616, 659060556, 883997877, 958139571, 1322822218, 1537002063, 1747873779, 1955562222, 2024104815, 2227730452, 2361852424, 2428436474, 2756734187, 3204031479, 3329325298]
def kk (j : Nat) : Int := kks.getD j 0
set_option maxHeartbeats 8000000 in
set_option maxRecDepth 100000 in
theorem rounds_calls (w : World) : Calls Try.prog 105 #[] w fun e w' => e = .returned (.pointer (some ⟨w.heap.size, 0, none⟩)) ∧ w' = w.alloc (.cells (kks.map (fun x => Value.int .u32 x)).toArray 121) := by
  go_enter Try.func105, Try.ntmps105
  go_wp2
  go_ret
  exact ⟨rfl, rfl⟩
theorem rounds_cells (w : World) : Cells (w.alloc (.cells (kks.map (fun x => Value.int .u32 x)).toArray 121)) w.heap.size 64 kk := Cells.alloc fun j hj => by
  have h64 : kks.length = 64 := rfl
  simp [kk, h64, hj]
def h0 : Nat → Int
  | 0 => 1779033703
  | 1 => 3144134277
  | 2 => 1013904242
  | 3 => 2773480762
  | 4 => 1359893119
  | 5 => 2600822924
  | 6 => 528734635
  | _ => 1541459225
/-- The words behind the pieces of these numbers. -/
def fold (p : List Int) (xs : List Nat) : Nat → Int := xs.foldl (fun h x => turn h (fun j => rd p ((64 * x + j : Nat) : Int)) kk) h0
theorem fold_snoc (p : List Int) (xs : List Nat) (x : Nat) : fold p (xs ++ [x]) = turn (fold p xs) (fun j => rd p ((64 * x + j : Nat) : Int)) kk := by simp [fold]
/-- The bytes of the first k words. -/
def bytes (h : Nat → Int) : Nat → List Int
  | 0 => []
  | k + 1 => bytes h k ++ [h k / 16777216 % 256, h k / 65536 % 256, h k / 256 % 256, h k % 256]
theorem bytes_length (h : Nat → Int) (k : Nat) : (bytes h k).length = 4 * k := by
  induction k with
  | zero => rfl
  | succ k ih => simp only [bytes, List.length_append, List.length_cons, List.length_nil, ih]; omega
def text (p : List Int) : ByteArray := strOfNums (bytes (fold p (List.range (p.length / 64))) 8)
theorem Off.keeps {B : Nat} {a w : World} {v : Value} (h : Off a.heap.size B a w) (hc : a.cell? ⟨B, 0, none⟩ = some v) : KeepsOthers a w :=
  ⟨h.size, fun k o hk ho => by
    have hlt := (Array.getElem?_eq_some_iff.1 hk).1
    refine (h.block k hlt fun e => ?_).trans hk
    subst e
    cases o <;> simp_all [World.cell?, Obj.isCells]⟩
theorem Off.grown {n B : Nat} {a w w' : World} {row : Option Nat} (h : Off n B a w) (hn : n ≤ w.heap.size) (hg : w.grownBy w' row) (hr : ∀ r, row = some r → n ≤ r) : Off n B a w' :=
  h.trans ⟨hg.os, hg.tape, hg.output, hg.size, fun k hk hB => hg.block k (by omega) (fun e => by have := hr k e.symm; omega)⟩
/-- What the loop over the pieces keeps. -/
def Inv (n : Nat) (wl : World) {m : Nat} (p : List Int) (pre : List (Fin m)) (W : World) : Prop := Cells W n 8 (fold p (pre.map Fin.val)) ∧ Off wl.heap.size n wl W
theorem Inv.own {n m : Nat} {wl : World} {p : List Int} (hn : n < wl.heap.size) : OwnFrom wl.heap.size (Inv n wl (m := m) p) := fun s W W' row hs hg hr =>
  ⟨hs.1.of (hg.block n (by have := hs.2.size; omega) (fun e => by have := (hr n e.symm).1; omega)), hs.2.grown hs.2.size hg (fun r e => (hr r e).1)⟩
theorem ix (cs : Array Value) (i : Nat) (x : Int) (w : World) (hi : i < 8) (h : cs[i]? = some (.int .u32 x)) : (Instr.index 97 (.agg cs) (.int .i64 (i : Int))).run Try.prog w = .ok (.int .u32 x) w := by
  simp [Instr.index, run_underlying Try.underlying97, asIntOf, go_sem, hi, h]
attribute [local go_sem] Oper.semAt_some
set_option maxHeartbeats 8000000 in
set_option maxRecDepth 100000 in
theorem digest_calls (A0 : Option Addr) (c0 : Nat) (l0 p : List Int) (w : World) (hr0 : Kd.C (Kd.int .u8) w A0 l0.length l0)
    (hP : ∀ w1, Kd.C (Kd.int .u8) w1 A0 l0.length l0 → Calls Try.prog 37 #[.slice A0 l0.length c0] w1 fun e w' => ∃ v0_ : Value, e = .returned v0_ ∧ Kd.R (Kd.int .u8) 5 w' w1.heap.size (fun _ => True) v0_ p ∧ Below w1.heap.size w1 w')
    (m : Nat) (hm : p.length = 64 * m) (hp0 : 0 < m) (hp1 : p.length ≤ 140737488351232) :
    Calls Try.prog 72 #[.slice A0 l0.length c0] w fun e w' => e = .returned (.string (text p)) ∧ Below w.heap.size w w' := by
  refine (callsIn_wide (n := 6)).1 ?_
  refine callsIn_of_wp_marks Try.func72 rfl trivial ?_ rfl
  simp only [Try.ntmps72, List.size_toArray, List.length_cons, List.length_nil, Nat.reduceAdd, Nat.reduceSub, Array.replicate_succ, Array.replicate_zero, List.push_toArray, List.append_toArray, List.nil_append, List.cons_append]
  have hn1 : (1 : Nat) ≤ 6 - 1 := by decide
  have hpp : 0 < p.length := by omega
  gi_wp2_with (first
    | (refine ⟨trivial, ?_⟩; gi_at_call 105; refine (callsIn_wide.2 (rounds_calls _)).mono ?_; rintro e w' ⟨rfl, rfl⟩)
    | (refine ⟨trivial, ?_⟩; gi_at_call 37; refine (callsIn_wide.2 (hP _ ?hC)).mono ?_; (case hC => exact Kd.C_alloc (Kd.C_alloc (Kd.C_alloc hr0 _) _) _); rintro e w3 ⟨v0, rfl, hR3, hB3⟩; obtain ⟨g, cap, rfl, hg0, hg1, hg2⟩ := Kd.R_form hR3 hpp)
    | (refine ⟨trivial, ?_⟩; gi_at_call 106; refine (chunk_in Fence.wide _ trivial rfl _ _ _ _ _).mono ?_; rintro e w' ⟨rfl, rfl⟩))
  simp only [World.size_alloc] at hg0
  have hb0 : ∀ (H R K : Obj), Below w.heap.size w (((w.alloc H).alloc R).alloc K) := fun H R K => (((Below.refl _ w).alloc (Nat.le_refl _) _).alloc (by simp) _).alloc (by simp; omega) _
  have hB3' : Below w.heap.size w w3 := (hb0 _ _ _).trans (hB3.mono (by simp; omega))
  have hs3 : w.heap.size + 3 ≤ w3.heap.size := by have := hB3.size; simpa using this
  have hk3 : w3.cell? ⟨w.heap.size + 1 + 1, 0, none⟩ = some (.pointer (some ⟨w.heap.size + 1, 0, none⟩)) := by
    refine (hB3.cell (by simp)).trans ?_
    refine (World.cell?_alloc_at (hn := by simp) ..).trans ?_
    rfl
  have hH3 : Cells w3 w.heap.size 8 h0 := by
    refine Cells.below ?_ hB3 (by simp; omega)
    refine Cells.of (W := w.alloc _) (Cells.alloc fun j hj => ?_) ((Below.heap_alloc _ _ _ (by simp; omega)).trans (Below.heap_alloc _ _ _ (by simp)))
    match j, hj with
    | 0, _ => rfl
    | 1, _ => rfl
    | 2, _ => rfl
    | 3, _ => rfl
    | 4, _ => rfl
    | 5, _ => rfl
    | 6, _ => rfl
    | 7, _ => rfl
  have hK3 : Cells w3 (w.heap.size + 1) 64 kk := by
    refine Cells.below ?_ hB3 (by simp)
    refine Cells.of (W := World.alloc _ _) ?_ (Below.heap_alloc _ _ _ (by simp))
    have := rounds_cells (w.alloc (.cells #[Value.int IntKind.u32 1779033703, Value.int IntKind.u32 3144134277, Value.int IntKind.u32 1013904242, Value.int IntKind.u32 2773480762, Value.int IntKind.u32 1359893119, Value.int IntKind.u32 2600822924, Value.int IntKind.u32 528734635, Value.int IntKind.u32 1541459225] 97))
    rwa [World.size_alloc] at this
  have hby : ∀ j : Nat, j < 64 * m → w3.cell? ⟨g, j, none⟩ = some (.int .u8 (rd p (j : Int))) := fun j hj =>
    (Kd.R_cell (enc := Value.int .u8) (h1 := fun _ => rfl) (0 : Int) hR3 (j : Int) (by omega) (by omega)).1
  have hcap : 64 * m ≤ cap := by have := (Kd.R_reads' hR3).2.1; omega
  clear hB3 hb0 hP hr0 hR3
  obtain ⟨wl, hwl⟩ : ∃ wl, (w3.alloc (Obj.cells #[Value.slice (some ⟨g, 0, none⟩) (64 * m) cap] 27)).alloc (Obj.cells #[Value.int IntKind.i64 64] 3) = wl := ⟨_, rfl⟩
  have hB4 : Below w3.heap.size w3 wl := by rw [← hwl]; exact ((Below.refl _ _).alloc (Nat.le_refl _) _).alloc (by simp) _
  have hsl : wl.heap.size = w3.heap.size + 2 := by rw [← hwl]; simp
  have hc1 : wl.cell? ⟨w3.heap.size, 0, none⟩ = some (.slice (some ⟨g, 0, none⟩) (64 * m) cap) := by
    rw [← hwl]
    refine (World.cell?_alloc_past (hn := by simp) ..).trans ?_
    exact (World.cell?_alloc_at (hn := rfl) ..).trans rfl
  have hc2 : wl.cell? ⟨w3.heap.size + 1, 0, none⟩ = some (.int .i64 64) := by
    rw [← hwl]
    exact (World.cell?_alloc_at (hn := by simp) ..).trans rfl
  rw [hwl]
  clear hwl
  refine wpIn_rangeFunc_ownF rfl (by decide) (gf := 128) (lb := #[.pointer (some ⟨w3.heap.size, 0, none⟩), .pointer (some ⟨w3.heap.size + 1, 0, none⟩)]) rfl trivial (enters_of Try.func128 (by kernel_rfl) rfl)
    (chunk_stops Fence.wide _ trivial rfl (by decide) w3.heap.size (w3.heap.size + 1) wl.heap.size w.heap.size g 0 cap m hcap (by omega) (by omega) (by omega) (by omega) (by omega) wl (Nat.le_refl _) hc1 hc2)
    (fun h k => h.trans k) (fun W l o o' hl h h1 h2 => Off.of (belowK_b (Nat.le_refl _) W l o o' hl h h1 h2)) (Below.refl _ _) (fun _ => rfl)
    (Inv w.heap.size wl p) (fun _ _ _ => False) (Inv.own (by omega)) (fun _ _ _ _ _ hs _ _ => hs)
    ⟨hH3.below hB4 (by omega), Off.of (Below.refl _ _)⟩
    (fun x => { tmps := #[Value.slice A0 l0.length c0, undef, Value.string ByteArray.empty, Value.pointer (some ⟨w.heap.size, 0, none⟩), Value.pointer (some ⟨w.heap.size + 1 + 1, 0, none⟩), Value.slice (some ⟨g, 0 + 64 * x.1, none⟩) 64 64, undef, undef, undef, Value.agg #[Value.int IntKind.u32 1779033703, Value.int IntKind.u32 3144134277, Value.int IntKind.u32 1013904242, Value.int IntKind.u32 2773480762, Value.int IntKind.u32 1359893119, Value.int IntKind.u32 2600822924, Value.int IntKind.u32 528734635, Value.int IntKind.u32 1541459225], Value.pointer (some ⟨w.heap.size + 1, 0, none⟩), Value.slice A0 l0.length c0, Value.slice (some ⟨g, 0, none⟩) (64 * m) cap, Value.func (.func 128) #[] #[Value.pointer (some ⟨w3.heap.size, 0, none⟩), Value.pointer (some ⟨w3.heap.size + 1, 0, none⟩)], Value.slice (some ⟨g, 0 + 64 * x.1, none⟩) 64 64, undef, undef, undef, undef, undef, undef, undef, undef, undef, undef, undef, undef, undef, undef, undef, undef, undef, undef, undef, undef, undef, undef, undef, undef], defers := [] }) ?assign ?body ?done ?stop
  case assign =>
    intro l x W K hK
    dsimp only [piece]
    simp only [Nat.zero_add] at hK ⊢
    gi_wp2
    exact hK
  case stop =>
    rintro D c pre W _ _ h _
    exact h.elim
  case body =>
    rintro l pre x W ⟨hC, hO⟩ hlen
    have hkc := (World.cell?_of_block (w := w3) (w' := W) (a := ⟨w.heap.size + 1 + 1, 0, none⟩) ((hO.block _ (by show w.heap.size + 1 + 1 < _; omega) (by show w.heap.size + 1 + 1 ≠ _; omega)).trans (hB4.block _ (by show w.heap.size + 1 + 1 < _; omega)))).trans hk3
    have hKW : Cells W (w.heap.size + 1) 64 kk := hK3.of ((hO.block _ (by omega) (by omega)).trans (hB4.block _ (by omega)))
    have hbW : ∀ j, j < 64 → W.cell? ⟨g, 64 * x.1 + j, none⟩ = some (.int .u8 (rd p ((64 * x.1 + j : Nat) : Int))) := fun j hj => by
      have hx := x.2
      exact (World.cell?_of_block (w := w3) (w' := W) (a := ⟨g, 64 * x.1 + j, none⟩) ((hO.block g (by omega) (by omega)).trans (hB4.block g (by omega)))).trans (hby _ (by omega))
    have hsW := hO.size
    have hgn : g ≠ w.heap.size := by omega
    have hg' : g < W.heap.size := by omega
    have hn' : w.heap.size < W.heap.size := by omega
    have hk' : w.heap.size + 1 < W.heap.size := by omega
    have hkn : w.heap.size + 1 ≠ w.heap.size := by omega
    have hC0 := (hC 0 (by omega)).1
    simp only [Nat.zero_add]
    gi_wp2_with (refine ⟨trivial, ?_⟩; gi_at_call 107; refine (CallsIn.inRound l (callsIn_wide.2 (turn_calls w.heap.size (w.heap.size + 1) g (64 * x.1) 64 _ (fun j => rd p ((64 * x.1 + j : Nat) : Int)) kk W hg' hn' hk' hgn hkn hbW hC hKW))).mono ?_; rintro e w' ⟨⟨v, rfl⟩, hO', hC'⟩)
    refine ⟨hO'.keeps hC0, hO'.mono hsW, ?_, hO.trans (hO'.mono hsW)⟩
    rw [List.map_append, List.map_singleton, fold_snoc]
    exact hC'
  case done =>
    rintro D xs W hD rfl ⟨hC, hO⟩ hK
    rw [first_map] at hC
    have hBW : Below w.heap.size w W := (hB3'.trans (hB4.mono (by omega))).trans (hO.below (by omega) (Nat.le_refl _))
    have htx : text p = strOfNums (bytes (fold p (List.range m)) 8) := by
      unfold text
      rw [show p.length / 64 = m by omega]
    obtain ⟨F, hF⟩ : ∃ F, fold p (List.range m) = F := ⟨_, rfl⟩
    rw [hF] at hC htx
    have HTX := Aside0.mk htx
    have hDW : D < W.heap.size := (Array.getElem?_eq_some_iff.1 hK).1
    clear hF htx hc1 hc2 hk3 hH3 hK3 hby
    obtain ⟨f0, _⟩ := hC 0 (by omega)
    obtain ⟨f1, _⟩ := hC 1 (by omega)
    obtain ⟨f2, _⟩ := hC 2 (by omega)
    obtain ⟨f3, _⟩ := hC 3 (by omega)
    obtain ⟨f4, _⟩ := hC 4 (by omega)
    obtain ⟨f5, _⟩ := hC 5 (by omega)
    obtain ⟨f6, _⟩ := hC 6 (by omega)
    obtain ⟨f7, _⟩ := hC 7 (by omega)
    gi_wp2
    refine wpIn_wide.2 ?_
    go_loopw [6, 19] (fun v6 i wr => ∃ k : Nat, k ≤ 8 ∧ i = .int .i64 k ∧ Aside0 (Kd.R (Kd.int .u8) 5 wr W.heap.size (fun _ => True) v6 (bytes F k)) ∧ Aside0 (Below W.heap.size W wr)) (fun _ i _ => 8 - (intOf i).toNat)
    case atStart => exact ⟨0, by omega, rfl, ⟨Kd.R_nil _ _ _ _ _⟩, ⟨Below.refl _ _⟩⟩
    case round =>
      obtain ⟨k, hk, rfl, HO, HB⟩ := hrel
      by_cases hlt : k < 8
      · have hix : ∀ w : World, (Instr.index 97 (.agg #[Value.int IntKind.u32 (F 0), Value.int IntKind.u32 (F 1), Value.int IntKind.u32 (F 2), Value.int IntKind.u32 (F 3), Value.int IntKind.u32 (F 4), Value.int IntKind.u32 (F 5), Value.int IntKind.u32 (F 6), Value.int IntKind.u32 (F 7)]) (.int .i64 (k : Int))).run Try.prog w = .ok (.int .u32 (F k)) w := fun w => ix _ k _ w hlt (by
          match k, hlt with
          | 0, _ => rfl
          | 1, _ => rfl
          | 2, _ => rfl
          | 3, _ => rfl
          | 4, _ => rfl
          | 5, _ => rfl
          | 6, _ => rfl
          | 7, _ => rfl)
        have hlen := bytes_length F k
        have hbs : (bytes F (k + 1)) = bytes F k ++ [F k / 16777216 % 256, F k / 65536 % 256, F k / 256 % 256, F k % 256] := rfl
        have HL := Aside0.mk hlen
        have HS := Aside0.mk hbs
        obtain ⟨Ao, co, eo⟩ := Kd.R_slice HO.out
        subst eo
        obtain ⟨bs, hbs'⟩ : ∃ bs, bytes F k = bs := ⟨_, rfl⟩
        obtain ⟨fk, hfk⟩ : ∃ x, F k = x := ⟨_, rfl⟩
        rw [hbs'] at HO HL
        rw [hbs', hfk] at HS
        rw [hbs']
        rw [hfk] at hix
        clear hlen hbs hbs' hfk
        go_wp2_with (first
          | ((with_reducible refine gate_dst (N := 34) rfl ?_); refine Kd.R_lit (Kd.int .u8) _ 5 ?hg (N := 34) ?hd (xs := [fk / 16777216 % 256, fk / 65536 % 256, fk / 256 % 256, fk % 256]) (inner := [.int .u8 (fk / 16777216 % 256), .int .u8 (fk / 65536 % 256), .int .u8 (fk / 256 % 256), .int .u8 (fk % 256)]) (ok := fun _ => True) (okp := fun _ => True) ?hr ?hp (fun _ hk => hk) trivial (Below.refl _ _) (Nat.le_refl _) (by simp) ?_; (case hd => rfl); (case hg => rfl); (case hr => first | (go_simp; done) | (go_simp; rfl)); (case hp => exact (Reps.one (show Kd.M (Kd.int .u8) _ _ _ _ [.int .u8 _] from rfl) (Reps.one (show Kd.M (Kd.int .u8) _ _ _ _ [.int .u8 _] from rfl) (Reps.one (show Kd.M (Kd.int .u8) _ _ _ _ [.int .u8 _] from rfl) (Reps.one (show Kd.M (Kd.int .u8) _ _ _ _ [.int .u8 _] from rfl) (Reps.none _ _)))))); intro v34 w34 ho hb hg_ hnew_; clear hg_ hnew_; have HOo := Aside0.mk (Kd.R_elder' HO.out (Kd.R_base ho) hb); have HBb := Aside0.mk (below_step HB.out hb); have HOl := Aside0.mk ho; clear ho hb HB; obtain ⟨Al, cl, el⟩ := Kd.R_slice HOl.out; subst el)
          | ((with_reducible refine gate_builtin (b := .append) (xs := #[.tmp 22, .tmp 34]) rfl ?_); at_builtin; refine Kd.R_append_rows (Kd.int .u8) (w0 := W) W.heap.size rfl (.tmp 22) (.tmp 34) 27 5 (.int .u8 0) 1 rfl Try.underlying27 X.info5 rfl (by decide) (by omega) _ bs [fk / 16777216 % 256, fk / 65536 % 256, fk / 256 % 256, fk % 256] _ _ _ (fun k_ => some k_ ≠ (.slice Al [fk / 16777216 % 256, fk / 65536 % 256, fk / 256 % 256, fk % 256].length cl : Value).ownBlock) (fun _ => False) rfl rfl ?aO ?aR (fun _ _ h => h) (fun _ h => h.elim) ?aF ?aB ?aS ?aL ?_; (case aR => exact (Kd.R_reads' HOl.out).2.2); (case aB => exact HBb.out); (case aF => exact fun k_ hk => Kd.fresh' (Kd.R_lt HOl.out) k_ hk); (case aO => exact Kd.R_mono HOo.out (fun _ hk => hk.2)); (case aS => exact below_size HBb.out); (case aL => have := HL.out; simp; omega); intro v35 w35 ho hb hg hat; have HOn := Aside0.mk ho; have HB := Aside0.mk hb; clear ho hb hg hat))
        go_roundw
        case measure => simp [intOf]; omega
        case rel => exact ⟨k + 1, by omega, by go_num, ⟨by rw [HS.out]; exact Kd.R_mono HOn.out (fun _ _ => trivial)⟩, HB⟩
      · obtain rfl : k = 8 := by omega
        have hcv31 := own_string (P := Try.prog) Try.underlying27 Try.underlying5 Try.underlying9 (Kd.own_of_R HO.out)
        obtain ⟨Ao, co, eo⟩ := Kd.R_slice HO.out
        subst eo
        have hKr : wr.heap[D]? = some (.deferred (some [])) := (HB.out.block D hDW).trans hK
        go_wp2
        refine wpIn_wide.2 ?_
        go_wp2

        refine ⟨by simp, .inl ⟨_, _, rfl, run_takeDeferred hKr, ?_⟩⟩
        exact ⟨_, results_tmp rfl _ _ _, by rw [HTX.out]; rfl, (hBW.trans (HB.out.mono (by omega))).trans (belowK_b (w := w) (Nat.le_refl _) wr D _ _ (by omega) hKr rfl rfl)⟩
end Go.Proofs.Ytmkhhnfmahdijaa.Sha

namespace Go.Proofs.Ytmkhhnfmahdijaa.X
open Go.RowKit Go.Proofs.YtmkhhnfmahdijaaW.PrintWords Go.Proofs.YtmkhhnfmahdijaaW.PrintLast Go.Proofs.YtmkhhnfmahdijaaW.PrintMore
attribute [local go_sem] max2_int min2_int max_two min_two max_three min_three max_four min_four   -- for this text's walks alone
set_option linter.unusedVariables false
set_option linter.unusedSimpArgs false

/-! ### impl_Digest: function 72 (by hand) -/
def impl_Digest.f (k : Nat) (l0 : List Int) : Option ByteArray := (impl_Padded.f k l0).bind fun p => if p.length % 64 = 0 ∧ 0 < p.length ∧ p.length ≤ 140737488351232 then some (Go.Proofs.Ytmkhhnfmahdijaa.Sha.text p) else none
theorem impl_Digest.mono : ∀ a0 k, LeO (impl_Digest.f k a0) (impl_Digest.f (k + 1) a0) := by
  intro a0 k
  unfold impl_Digest.f
  exact LeO.bind (impl_Padded.mono _ _) (fun _ => LeO.refl _)
theorem impl_Digest.calls (k : Nat) (A0 : Option Addr) (c0 : Nat) (l0 : List Int) (r : ByteArray) (w : World) (hr0 : Kd.C (Kd.int .u8) w A0 l0.length l0) (hc0 : l0.length ≤ c0) (h : impl_Digest.f k l0 = some r) :
    Calls Try.prog 72 #[.slice A0 l0.length c0] w fun e w' => e = .returned (.string r) ∧ Below w.heap.size w w' := by
  obtain ⟨p, hp, hq⟩ := Option.bind_eq_some_iff.mp h
  split at hq
  · rename_i hc
    obtain rfl := Option.some.inj hq
    exact Go.Proofs.Ytmkhhnfmahdijaa.Sha.digest_calls A0 c0 l0 p w hr0 (fun w1 h1 => impl_Padded.calls k A0 c0 l0 p w1 h1 hc0 hp) (p.length / 64) (by omega) (by omega) hc.2.2
  · cases hq

end Go.Proofs.Ytmkhhnfmahdijaa.X

namespace Go.Proofs.Ytmkhhnfmahdijaa.X
open Go.RowKit Go.Proofs.YtmkhhnfmahdijaaW.PrintWords Go.Proofs.YtmkhhnfmahdijaaW.PrintLast Go.Proofs.YtmkhhnfmahdijaaW.PrintMore
attribute [local go_sem] max2_int min2_int max_two min_two max_three min_three max_four min_four   -- for this text's walks alone
set_option linter.unusedVariables false
set_option linter.unusedSimpArgs false

/-! ### impl_NodeHash: function 68 -/
def impl_NodeHash.f (k : Nat) (a0 : ByteArray) (a1 : ByteArray) : Option (ByteArray) := (some (([1] : List Int) : List Int)).bind fun y731 => (if y731.length + a0.size < 140737488355328 then ((some (y731 ++ bytesOf a0 : List Int)).bind fun y734 => (if y734.length + a1.size < 140737488355328 then ((impl_Digest.f k (y734 ++ bytesOf a1)).bind fun t740 => (some t740)) else (none))) else (none))
theorem impl_NodeHash.mono : ∀ a0 a1 k, LeO (impl_NodeHash.f k a0 a1) (impl_NodeHash.f (k + 1) a0 a1) := by
  intro a0 a1 k
  unfold impl_NodeHash.f
  repeat' first
      | (with_reducible exact impl_Digest.mono _ _)
      | (with_reducible exact LeO.refl _)
      | (with_reducible exact LeO.none _)
      | (with_reducible refine LeO.ite ?_ ?_)
      | (with_reducible refine LeO.bind ?_ (fun _ => ?_))
      | exact impl_Digest.mono _ _
      | exact LeO.none _
      | refine LeO.ite ?_ ?_
      | refine LeO.bind ?_ (fun _ => ?_)
set_option maxHeartbeats 8000000 in
set_option maxRecDepth 100000 in
theorem impl_NodeHash.calls (k : Nat) (a0 : ByteArray) (a1 : ByteArray) (r : ByteArray) (w : World) (h : impl_NodeHash.f k a0 a1 = some r) :
    Calls Try.prog 68 #[.string a0, .string a1] w fun e w' => e = .returned (.string r) ∧ Below w.heap.size w w' := by
  have HB := Aside0.mk (Below.refl w.heap.size w)
  have H : ((some (([1] : List Int) : List Int)).bind fun y731 => (if y731.length + a0.size < 140737488355328 then ((some (y731 ++ bytesOf a0 : List Int)).bind fun y734 => (if y734.length + a1.size < 140737488355328 then ((impl_Digest.f k (y734 ++ bytesOf a1)).bind fun t740 => (some t740)) else (none))) else (none))) = some r := h
  clear h
  obtain ⟨y731, hy731⟩ : ∃ y_ : List Int, y_ = (([1] : List Int)) := ⟨_, rfl⟩
  replace H : (if y731.length + a0.size < 140737488355328 then ((some (y731 ++ bytesOf a0 : List Int)).bind fun y734 => (if y734.length + a1.size < 140737488355328 then ((impl_Digest.f k (y734 ++ bytesOf a1)).bind fun t740 => (some t740)) else (none))) else (none)) = some r := by first | (rw [hy731]; with_reducible exact H) | (have H2_ := (Option.bind_some _ _).symm.trans H; rw [hy731]; with_reducible exact H2_) | (have H2_ := (Option.bind_some _ _).symm.trans H; with_reducible exact H2_) | with_reducible exact H | (rw [hy731]; exact H) | exact H
  have Ny731 := Aside0.mk hy731
  clear hy731
  by_cases c3 : y731.length + a0.size < 140737488355328
  · rw [if_pos c3] at H
    have LMc3 := Aside0.mk c3
    clear c3
    obtain ⟨y734, hy734⟩ : ∃ y_ : List Int, y_ = (y731 ++ bytesOf a0) := ⟨_, rfl⟩
    replace H : (if y734.length + a1.size < 140737488355328 then ((impl_Digest.f k (y734 ++ bytesOf a1)).bind fun t740 => (some t740)) else (none)) = some r := by first | (rw [hy734]; with_reducible exact H) | (have H2_ := (Option.bind_some _ _).symm.trans H; rw [hy734]; with_reducible exact H2_) | (have H2_ := (Option.bind_some _ _).symm.trans H; with_reducible exact H2_) | with_reducible exact H | (rw [hy734]; exact H) | exact H
    have Ny734 := Aside0.mk hy734
    clear hy734
    by_cases c4 : y734.length + a1.size < 140737488355328
    · rw [if_pos c4] at H
      have LMc4 := Aside0.mk c4
      clear c4
      obtain ⟨y737, hy737⟩ : ∃ y_ : List Int, y_ = (y734 ++ bytesOf a1) := ⟨_, rfl⟩
      replace H : ((impl_Digest.f k y737).bind fun t740 => (some t740)) = some r := by first | (rw [hy737]; with_reducible exact H) | (have H2_ := (Option.bind_some _ _).symm.trans H; rw [hy737]; with_reducible exact H2_) | (have H2_ := (Option.bind_some _ _).symm.trans H; with_reducible exact H2_) | with_reducible exact H | (rw [hy737]; exact H) | exact H
      have Ny737 := Aside0.mk hy737
      clear hy737
      replace H := Option.bind_eq_some_iff.mp H
      obtain ⟨t740, A50, H⟩ := H
      replace H : (some t740) = some r := H
      have A5 := Aside0.mk A50
      clear A50
      obtain rfl := Option.some.inj H
      go_enter Try.func68, Try.ntmps68
      go_wp2_with (first | ((with_reducible refine gate_dst (N := 5) rfl ?_); refine Kd.R_lit (Kd.int .u8) _ 5 ?hg (N := 5) ?hd (xs := ([1] : List Int)) (inner := [.int .u8 1]) (ok := fun _ => True) (okp := fun _ => True) ?hr ?hp (fun _ hk => hk) trivial (Below.refl _ _) (Nat.le_refl _) (by simp) ?_; (case hd => rfl); (case hg => rfl); (case hr => first | (go_simp; done) | (go_simp; rfl)); (case hp => exact (Reps.one (show Kd.M (Kd.int .u8) _ _ _ 1 [.int .u8 1] from rfl) (Reps.none _ _))); intro v732 w6 ho7 hb hg_ hnew_; clear hg_ hnew_; (first | rw [← Ny731.out] at ho7 | (simp only [Int.reduceToNat] at ho7; rw [← Ny731.out] at ho7)); have n0_ := Aside0.mk (Kd.R_lower ho7 (below_size (by repeat (first | (with_reducible first | exact HB.out | apply below_alloc | apply pw_below_drewN | apply below_drew1) | exact HB.out)))); have n1_ := Aside0.mk (below_step (by repeat (first | (with_reducible first | exact HB.out | apply below_alloc | apply pw_below_drewN | apply below_drew1) | exact HB.out)) hb); clear HB; have HO733 := n0_; have HB := n1_; clear n0_ n1_; clear hb ho7) | (at_builtin; refine Y.R_append_str (w0 := w) w.heap.size rfl (.tmp 5) _ 27 9 5 rfl Try.underlying27 Try.underlying9 info5 v732 y731 a0 (fun _ => True) rfl rfl ?aF ?aO ?aB ?aS ?aL ?_; (case aB => exact (by repeat (first | (with_reducible first | exact HB.out | apply below_alloc | apply pw_below_drewN | apply below_drew1) | exact HB.out))); (case aF => exact (fun _ _ => trivial)); (case aO => exact (by (with_reducible repeat (first | apply Kd.R_alloc | apply Kd.R_drewN | apply Kd.R_drew)); exact HO733.out)); (case aS => exact (below_size (by repeat (first | (with_reducible first | exact HB.out | apply below_alloc | apply pw_below_drewN | apply below_drew1) | exact HB.out)))); (case aL => have := LMc3.out; omega); intro v735 w8 ho hb hg hat; rw [← Ny734.out] at ho; have n0_ := Aside0.mk (hb); have n1_ := Aside0.mk (ho); clear HB; clear HO733; have HB := n0_; have HO736 := n1_; clear n0_ n1_; clear ho hb hg hat) | (at_builtin; refine Y.R_append_str (w0 := w) w.heap.size rfl (.tmp 7) _ 27 9 5 rfl Try.underlying27 Try.underlying9 info5 v735 y734 a1 (fun _ => True) rfl rfl ?aF ?aO ?aB ?aS ?aL ?_; (case aB => exact (by repeat (first | (with_reducible first | exact HB.out | apply below_alloc | apply pw_below_drewN | apply below_drew1) | exact HB.out))); (case aF => exact (fun _ _ => trivial)); (case aO => exact (by (with_reducible repeat (first | apply Kd.R_alloc | apply Kd.R_drewN | apply Kd.R_drew)); exact HO736.out)); (case aS => exact (below_size (by repeat (first | (with_reducible first | exact HB.out | apply below_alloc | apply pw_below_drewN | apply below_drew1) | exact HB.out)))); (case aL => have := LMc4.out; omega); intro v738 w9 ho hb hg hat; rw [← Ny737.out] at ho; have n0_ := Aside0.mk (hb); have n1_ := Aside0.mk (ho); clear HB; clear HO736; have HB := n0_; have HO739 := n1_; clear n0_ n1_; clear ho hb hg hat; obtain ⟨Ao10, co10, eo10⟩ := Kd.R_slice HO739.out; subst eo10) | ((with_reducible refine gate_callee (f := 72) rfl ?_); refine goesL_ (some 10) rfl rfl Try.func72 (by kernel_rfl) rfl #[.slice Ao10 y737.length co10] rfl (by (try simp only [List.map_toArray, List.map_cons, List.map_nil]); first | done | rfl | (simp only [List.length_drop, List.length_take]; rfl)) ?_; (with_reducible refine (impl_Digest.calls k _ _ y737 t740 _ ?side1 ?side2 A5.out).mono ?_); (case side1 => repeat (first | exact (Kd.R_reads' HO739.out).2.2 | (with_reducible refine Kd.C_alloc ?_ _) | (with_reducible refine Kd.C_drewN ?_ _) | (with_reducible refine Kd.C_drew ?_))); (case side2 => exact (Kd.R_reads' HO739.out).2.1); rintro e w11 ⟨rfl, hb⟩; refine ⟨_, rfl, ?_⟩; have n0_ := Aside0.mk (Kd.R_below (by (with_reducible repeat (first | apply Kd.R_alloc | apply Kd.R_drewN | apply Kd.R_drew)); exact HO739.out) hb); have n1_ := Aside0.mk (below_step (by repeat (first | (with_reducible first | exact HB.out | apply below_alloc | apply pw_below_drewN | apply below_drew1) | exact HB.out)) hb); clear HO739; clear HB; have HO739 := n0_; have HB := n1_; clear n0_ n1_; (try clear hb); (try clear hb2); (try clear hk); (try clear hi)))
      go_ret
      exact ⟨by first | rfl | (simp [errW_none, errW_some] <;> rfl) | (simp [*, errW_none, errW_some] <;> rfl), by repeat (first | (with_reducible first | exact HB.out | apply below_alloc | apply pw_below_drewN | apply below_drew1) | exact HB.out)⟩
    · rw [if_neg c4] at H
      exact absurd H (by simp)
  · rw [if_neg c3] at H
    exact absurd H (by simp)

end Go.Proofs.Ytmkhhnfmahdijaa.X

namespace Go.Proofs.Ytmkhhnfmahdijaa.X
open Go.RowKit Go.Proofs.YtmkhhnfmahdijaaW.PrintWords Go.Proofs.YtmkhhnfmahdijaaW.PrintLast Go.Proofs.YtmkhhnfmahdijaaW.PrintMore
attribute [local go_sem] max2_int min2_int max_two min_two max_three min_three max_four min_four   -- for this text's walks alone
set_option linter.unusedVariables false
set_option linter.unusedSimpArgs false

/-! ### spec_Padded: function 36 -/
mutual
def spec_Padded.l0 : Nat → List Int → List Int → Option (List Int)
  | 0, _, _ => none
  | k + 1, x0, x3 => if ((x3.length : Int) % 64) = 56 then (spec_Padded.l1 k x3 (wrap64 ((x0.length : Int) * 8)) 56) else (if x3.length < 140737488355328 then (spec_Padded.l0 k x0 (x3 ++ [0])) else (none))
def spec_Padded.l1 : Nat → List Int → Int → Int → Option (List Int)
  | 0, _, _, _ => none
  | k + 1, x3, x4, x5 => if x5 ≥ 0 then (if 0 ≤ (IntKind.u64.wrap (x5)) then (if x3.length < 140737488355328 then (spec_Padded.l1 k (x3 ++ [(shr .i64 x4 (IntKind.u64.wrap (x5))) % 256]) x4 (wrap64 (x5 - 8))) else (none)) else (none)) else (some x3)
end
def spec_Padded.f (k : Nat) (l0 : List Int) : Option (List Int) := (some (([] : List Int) : List Int)).bind fun y156 => (if y156.length + l0.length < 140737488355328 then ((some (y156 ++ l0 : List Int)).bind fun y159 => (if y159.length < 140737488355328 then (spec_Padded.l0 k l0 (y159 ++ [128])) else (none))) else (none))
theorem spec_Padded.mono_l : ∀ k, (∀ y0 y1, LeO (spec_Padded.l0 k y0 y1) (spec_Padded.l0 (k + 1) y0 y1)) ∧ (∀ y0 y1 y2, LeO (spec_Padded.l1 k y0 y1 y2) (spec_Padded.l1 (k + 1) y0 y1 y2))
  | 0 => ⟨fun _ _ r h => by simp [spec_Padded.l0] at h, fun _ _ _ r h => by simp [spec_Padded.l1] at h⟩
  | k + 1 => by
    obtain ⟨ih0, ih1⟩ := spec_Padded.mono_l k
    refine ⟨?_, ?_⟩
    · intro y0 y1
      unfold spec_Padded.l0
      repeat' first
      | (with_reducible exact ih0 _ _)
      | (with_reducible exact ih1 _ _ _)
      | (with_reducible exact LeO.refl _)
      | (with_reducible exact LeO.none _)
      | (with_reducible refine LeO.ite ?_ ?_)
      | (with_reducible refine LeO.bind ?_ (fun _ => ?_))
      | exact ih0 _ _
      | exact ih1 _ _ _
      | exact LeO.none _
      | refine LeO.ite ?_ ?_
      | refine LeO.bind ?_ (fun _ => ?_)
    · intro y0 y1 y2
      unfold spec_Padded.l1
      repeat' first
      | (with_reducible exact ih0 _ _)
      | (with_reducible exact ih1 _ _ _)
      | (with_reducible exact LeO.refl _)
      | (with_reducible exact LeO.none _)
      | (with_reducible refine LeO.ite ?_ ?_)
      | (with_reducible refine LeO.bind ?_ (fun _ => ?_))
      | exact ih0 _ _
      | exact ih1 _ _ _
      | exact LeO.none _
      | refine LeO.ite ?_ ?_
      | refine LeO.bind ?_ (fun _ => ?_)
theorem spec_Padded.mono : ∀ a0 k, LeO (spec_Padded.f k a0) (spec_Padded.f (k + 1) a0) := by
  intro a0 k
  obtain ⟨ih0, ih1⟩ := spec_Padded.mono_l k
  unfold spec_Padded.f
  repeat' first
      | (with_reducible exact ih0 _ _)
      | (with_reducible exact ih1 _ _ _)
      | (with_reducible exact LeO.refl _)
      | (with_reducible exact LeO.none _)
      | (with_reducible refine LeO.ite ?_ ?_)
      | (with_reducible refine LeO.bind ?_ (fun _ => ?_))
      | exact ih0 _ _
      | exact ih1 _ _ _
      | exact LeO.none _
      | refine LeO.ite ?_ ?_
      | refine LeO.bind ?_ (fun _ => ?_)
set_option maxHeartbeats 8000000 in
set_option maxRecDepth 100000 in
theorem spec_Padded.calls (k : Nat) (A0 : Option Addr) (c0 : Nat) (l0 : List Int) (r : List Int) (w : World) (hr0 : Kd.C (Kd.int .u8) w A0 l0.length l0) (hc0 : l0.length ≤ c0) (h : spec_Padded.f k l0 = some r) :
    Calls Try.prog 36 #[.slice A0 l0.length c0] w fun e w' => ∃ v0_ : Value, e = .returned (v0_) ∧ Kd.R (Kd.int .u8) 5 w' w.heap.size (fun _ => True) v0_ r ∧ Below w.heap.size w w' := by
  have HR0 := Aside0.mk hr0
  have HC0 := Aside0.mk hc0
  clear hr0 hc0
  have HB := Aside0.mk (Below.refl w.heap.size w)
  have H : ((some (([] : List Int) : List Int)).bind fun y156 => (if y156.length + l0.length < 140737488355328 then ((some (y156 ++ l0 : List Int)).bind fun y159 => (if y159.length < 140737488355328 then (spec_Padded.l0 k l0 (y159 ++ [128])) else (none))) else (none))) = some r := h
  clear h
  obtain ⟨y156, hy156⟩ : ∃ y_ : List Int, y_ = (([] : List Int)) := ⟨_, rfl⟩
  replace H : (if y156.length + l0.length < 140737488355328 then ((some (y156 ++ l0 : List Int)).bind fun y159 => (if y159.length < 140737488355328 then (spec_Padded.l0 k l0 (y159 ++ [128])) else (none))) else (none)) = some r := by first | (rw [hy156]; with_reducible exact H) | (have H2_ := (Option.bind_some _ _).symm.trans H; rw [hy156]; with_reducible exact H2_) | (have H2_ := (Option.bind_some _ _).symm.trans H; with_reducible exact H2_) | with_reducible exact H | (rw [hy156]; exact H) | exact H
  have Ny156 := Aside0.mk hy156
  clear hy156
  by_cases c2 : y156.length + l0.length < 140737488355328
  · rw [if_pos c2] at H
    have LMc2 := Aside0.mk c2
    clear c2
    obtain ⟨y159, hy159⟩ : ∃ y_ : List Int, y_ = (y156 ++ l0) := ⟨_, rfl⟩
    replace H : (if y159.length < 140737488355328 then (spec_Padded.l0 k l0 (y159 ++ [128])) else (none)) = some r := by first | (rw [hy159]; with_reducible exact H) | (have H2_ := (Option.bind_some _ _).symm.trans H; rw [hy159]; with_reducible exact H2_) | (have H2_ := (Option.bind_some _ _).symm.trans H; with_reducible exact H2_) | with_reducible exact H | (rw [hy159]; exact H) | exact H
    have Ny159 := Aside0.mk hy159
    clear hy159
    by_cases c3 : y159.length < 140737488355328
    · rw [if_pos c3] at H
      have LMc3 := Aside0.mk c3
      clear c3
      obtain ⟨y162, hy162⟩ : ∃ y_ : List Int, y_ = (y159 ++ [128]) := ⟨_, rfl⟩
      replace H : (spec_Padded.l0 k l0 y162) = some r := by first | (rw [hy162]; with_reducible exact H) | (have H2_ := (Option.bind_some _ _).symm.trans H; rw [hy162]; with_reducible exact H2_) | (have H2_ := (Option.bind_some _ _).symm.trans H; with_reducible exact H2_) | with_reducible exact H | (rw [hy162]; exact H) | exact H
      have Ny162 := Aside0.mk hy162
      clear hy162
      have H' := Aside0.mk H
      clear H
      go_enter Try.func36, Try.ntmps36
      go_wp2_with (first | ((with_reducible refine gate_dst (N := 6) rfl ?_); refine Kd.R_lit (Kd.int .u8) _ 5 ?hg (N := 6) ?hd (xs := ([] : List Int)) (inner := []) (ok := fun _ => True) (okp := fun _ => True) ?hr ?hp (fun _ hk => hk) trivial (Below.refl _ _) (Nat.le_refl _) (by simp) ?_; (case hd => rfl); (case hg => rfl); (case hr => first | (go_simp; done) | (go_simp; rfl)); (case hp => exact (Reps.none _ _)); intro v157 w4 ho5 hb hg_ hnew_; clear hg_ hnew_; (first | rw [← Ny156.out] at ho5 | (simp only [Int.reduceToNat] at ho5; rw [← Ny156.out] at ho5)); have n0_ := Aside0.mk (Kd.R_lower ho5 (below_size (by repeat (first | (with_reducible first | exact HB.out | apply below_alloc | apply pw_below_drewN | apply below_drew1) | exact HB.out)))); have n1_ := Aside0.mk (below_step (by repeat (first | (with_reducible first | exact HB.out | apply below_alloc | apply pw_below_drewN | apply below_drew1) | exact HB.out)) hb); clear HB; have HO158 := n0_; have HB := n1_; clear n0_ n1_; clear hb ho5) | ((with_reducible refine gate_builtin (b := .append) (xs := #[.tmp 6, .tmp 7]) rfl ?_); at_builtin; refine Kd.R_append_rows (Kd.int .u8) (w0 := w) w.heap.size rfl (.tmp 6) (.tmp 7) 27 5 (.int .u8 0) 1 rfl Try.underlying27 info5 rfl (by decide) (by omega) v157 y156 l0 _ _ _ (fun _ => True) (fun _ => False) rfl rfl ?aO ?aR (fun _ _ h => h) (fun _ h => h.elim) ?aF ?aB ?aS ?aL ?_; (case aR => repeat (first | exact (Kd.C_below HR0.out HB.out) | (with_reducible refine Kd.C_alloc ?_ _) | (with_reducible refine Kd.C_drewN ?_ _) | (with_reducible refine Kd.C_drew ?_))); (case aB => exact (by repeat (first | (with_reducible first | exact HB.out | apply below_alloc | apply pw_below_drewN | apply below_drew1) | exact HB.out))); (case aF => exact (fun _ _ => trivial)); (case aO => exact (by (with_reducible repeat (first | apply Kd.R_alloc | apply Kd.R_drewN | apply Kd.R_drew)); exact HO158.out)); (case aS => exact (below_size (by repeat (first | (with_reducible first | exact HB.out | apply below_alloc | apply pw_below_drewN | apply below_drew1) | exact HB.out)))); (case aL => have := LMc2.out; omega); intro v160 w6 ho hb hg hat; rw [← Ny159.out] at ho; have n0_ := Aside0.mk (hb); have n1_ := Aside0.mk (ho); clear HB; clear HO158; have HB := n0_; have HO161 := n1_; clear n0_ n1_; clear ho hb hg hat) | ((with_reducible refine gate_builtin (b := .append) (xs := #[.tmp 8, .tmp 9]) rfl ?_); at_builtin; refine Kd.R_append (Kd.int .u8) (w0 := w) w.heap.size rfl (.tmp 8) (.tmp 9) 27 5 (.int .u8 0) 1 rfl Try.underlying27 info5 rfl (by decide) (by omega) v160 y159 128 [.int .u8 128] (fun _ => True) (fun _ => False) rfl rfl ?aP (fun _ hk => hk.elim) ?aF ?aO ?aB ?aS ?aL ?_; (case aP => exact rfl); (case aB => exact (by repeat (first | (with_reducible first | exact HB.out | apply below_alloc | apply pw_below_drewN | apply below_drew1) | exact HB.out))); (case aF => exact (fun _ _ => trivial)); (case aO => exact (by (with_reducible repeat (first | apply Kd.R_alloc | apply Kd.R_drewN | apply Kd.R_drew)); exact HO161.out)); (case aS => exact (below_size (by repeat (first | (with_reducible first | exact HB.out | apply below_alloc | apply pw_below_drewN | apply below_drew1) | exact HB.out)))); (case aL => have := LMc3.out; omega); intro v163 w7 ho hb hg hat; rw [← Ny162.out] at ho; have n0_ := Aside0.mk (hb); have n1_ := Aside0.mk (ho); clear HB; clear HO161; have HB := n0_; have HO164 := n1_; clear n0_ n1_; clear ho hb hg hat))
      go_loopg [3] k (fun kq v3 w' => ∃ (x3_1 : List Int), Aside0 (spec_Padded.l0 kq l0 x3_1 = some r) ∧ Aside0 (kq ≤ k) ∧ Aside0 (Kd.R (Kd.int .u8) 5 w' w.heap.size (fun _ => True) v3 x3_1) ∧ Aside0 (Below w.heap.size w w'))
      case atStart => exact ⟨(y162), H', ⟨Nat.le_refl _⟩, ⟨by (with_reducible repeat (first | apply Kd.R_alloc | apply Kd.R_drewN | apply Kd.R_drew)); exact HO164.out⟩, ⟨by repeat (first | (with_reducible first | exact HB.out | apply below_alloc | apply pw_below_drewN | apply below_drew1) | exact HB.out)⟩⟩
      case round =>
        clear H'
        try clear c2
        try clear p2
        try clear c3
        obtain ⟨x3_1, HA, HK1, HO_3, HB⟩ := hrel
        cases gk with
        | zero => exact absurd HA.out (by simp [spec_Padded.l0])
        | succ k1 =>
          have H := HA.out
          clear HA
          simp only [spec_Padded.l0] at H
          by_cases c8 : ((x3_1.length : Int) % 64) = 56
          · rw [if_pos c8] at H
            have c8b0 : (((x3_1.length : Int) % 64) == 56) = true := beq_iff_eq.mpr c8
            have c8b1 : (((x3_1.length : Int) % 64) != 56) = false := bne_eq_false_iff_eq.mpr c8
            clear c8
            have H' := Aside0.mk H
            clear H
            obtain ⟨Ao9, co9, eo9⟩ := Kd.R_slice HO_3.out
            subst eo9
            go_wp2
            go_loopg [3, 5] k1 (fun kq v3 v5 w' => ∃ (x3_2 : List Int) (x5_2 : Int), v5 = .int .i64 x5_2 ∧ Aside0 (spec_Padded.l1 kq x3_2 (wrap64 ((l0.length : Int) * 8)) x5_2 = some r) ∧ Aside0 (kq ≤ k1) ∧ Aside0 (Kd.R (Kd.int .u8) 5 w' w.heap.size (fun _ => True) v3 x3_2) ∧ Aside0 (Below w.heap.size w w'))
            case atStart => exact ⟨(x3_1), (56), (by first | rfl | (simp; done) | (simp [*]; done)), H', ⟨Nat.le_refl _⟩, ⟨by (with_reducible repeat (first | apply Kd.R_alloc | apply Kd.R_drewN | apply Kd.R_drew)); exact HO_3.out⟩, ⟨by repeat (first | (with_reducible first | exact HB.out | apply below_alloc | apply pw_below_drewN | apply below_drew1) | exact HB.out)⟩⟩
            case round =>
              clear H'
              try clear c2
              try clear p2
              try clear c3
              try clear p6
              try clear c8
              try clear c8b0
              try clear c8b1
              try clear p2
              obtain ⟨x3_2, x5_2, rfl, HA, HK2, HO_3, HB⟩ := hrel
              cases gk with
              | zero => exact absurd HA.out (by simp [spec_Padded.l1])
              | succ k2 =>
                have H := HA.out
                clear HA
                simp only [spec_Padded.l1] at H
                by_cases c10 : x5_2 ≥ 0
                · rw [if_pos c10] at H
                  have c10b0 : decide (0 ≤ x5_2) = true := decide_eq_true c10
                  clear c10
                  obtain ⟨ji11, hji11⟩ : ∃ j_ : Int, (IntKind.u64.wrap (x5_2)) = j_ := ⟨_, rfl⟩
                  replace H : (if 0 ≤ (ji11) then (if x3_2.length < 140737488355328 then (spec_Padded.l1 k2 (x3_2 ++ [(shr .i64 (wrap64 ((l0.length : Int) * 8)) (ji11)) % 256]) (wrap64 ((l0.length : Int) * 8)) (wrap64 (x5_2 - 8))) else (none)) else (none)) = some r := by first | (rw [hji11] at H; exact H) | (simp only [hji11] at H ⊢; exact H)
                  by_cases c12 : 0 ≤ (ji11)
                  · rw [if_pos c12] at H
                    have c12b0 := eq_true c12
                    have c12b1 : decide (0 ≤ (ji11)) = true := decide_eq_true c12
                    clear c12
                    obtain ⟨ji13, hji13⟩ : ∃ j_ : Int, (shr .i64 (wrap64 ((l0.length : Int) * 8)) (ji11)) = j_ := ⟨_, rfl⟩
                    replace H : (if x3_2.length < 140737488355328 then (spec_Padded.l1 k2 (x3_2 ++ [(ji13) % 256]) (wrap64 ((l0.length : Int) * 8)) (wrap64 (x5_2 - 8))) else (none)) = some r := by first | (rw [hji13] at H; exact H) | (simp only [hji13] at H ⊢; exact H)
                    have hji13_ : ((wrap64 ((l0.length : Int) * 8)) / 2 ^ min (ji11).toNat 64) = ji13 := hji13
                    have hji13z : (ji11) ≤ 64 → ((wrap64 ((l0.length : Int) * 8)) / 2 ^ (ji11).toNat) = ji13 := shr_small hji13
                    by_cases c14 : x3_2.length < 140737488355328
                    · rw [if_pos c14] at H
                      have LMc14 := Aside0.mk c14
                      clear c14
                      obtain ⟨y168, hy168⟩ : ∃ y_ : List Int, y_ = (x3_2 ++ [(ji13) % 256]) := ⟨_, rfl⟩
                      replace H : (spec_Padded.l1 k2 y168 (wrap64 ((l0.length : Int) * 8)) (wrap64 (x5_2 - 8))) = some r := by first | (rw [hy168]; with_reducible exact H) | (have H2_ := (Option.bind_some _ _).symm.trans H; rw [hy168]; with_reducible exact H2_) | (have H2_ := (Option.bind_some _ _).symm.trans H; with_reducible exact H2_) | with_reducible exact H | (rw [hy168]; exact H) | exact H
                      have Ny168 := Aside0.mk hy168
                      clear hy168
                      have H' := Aside0.mk H
                      clear H
                      go_wp2_with (first | ((with_reducible refine gate_builtin (b := .append) (xs := #[.tmp 25, .tmp 31]) rfl ?_); at_builtin; refine Kd.R_append (Kd.int .u8) (w0 := w) w.heap.size rfl (.tmp 25) (.tmp 31) 27 5 (.int .u8 0) 1 rfl Try.underlying27 info5 rfl (by decide) (by omega) u3 x3_2 ((ji13) % 256) [.int .u8 ((ji13) % 256)] (fun _ => True) (fun _ => False) rfl rfl ?aP (fun _ hk => hk.elim) ?aF ?aO ?aB ?aS ?aL ?_; (case aP => exact rfl); (case aB => exact (by repeat (first | (with_reducible first | exact HB.out | apply below_alloc | apply pw_below_drewN | apply below_drew1) | exact HB.out))); (case aF => exact (fun _ _ => trivial)); (case aO => exact (by (with_reducible repeat (first | apply Kd.R_alloc | apply Kd.R_drewN | apply Kd.R_drew)); exact HO_3.out)); (case aS => exact (below_size (by repeat (first | (with_reducible first | exact HB.out | apply below_alloc | apply pw_below_drewN | apply below_drew1) | exact HB.out)))); (case aL => have := LMc14.out; omega); intro v169 w15 ho hb hg hat; rw [← Ny168.out] at ho; have n0_ := Aside0.mk (hb); have n1_ := Aside0.mk (ho); clear HB; clear HO_3; have HB := n0_; have HO170 := n1_; clear n0_ n1_; clear ho hb hg hat))
                      go_roundg k2
                      case measure => have := HK1.out; have := HK2.out; omega
                      case rel => exact ⟨(y168), (wrap64 (x5_2 - 8)), (by first | rfl | (simp; done) | (simp [*]; done)), H', ⟨by have := HK1.out; have := HK2.out; omega⟩, ⟨by (with_reducible repeat (first | apply Kd.R_alloc | apply Kd.R_drewN | apply Kd.R_drew)); exact HO170.out⟩, ⟨by repeat (first | (with_reducible first | exact HB.out | apply below_alloc | apply pw_below_drewN | apply below_drew1) | exact HB.out)⟩⟩
                    · rw [if_neg c14] at H
                      exact absurd H (by simp)
                  · rw [if_neg c12] at H
                    exact absurd H (by simp)
                · rw [if_neg c10] at H
                  have c10b0 : decide (0 ≤ x5_2) = false := decide_eq_false c10
                  clear c10
                  obtain rfl := Option.some.inj H
                  go_wp2
                  go_ret
                  exact ⟨_, by first | rfl | (simp [errW_none, errW_some] <;> rfl) | (simp [*, errW_none, errW_some] <;> rfl), by (with_reducible repeat (first | apply Kd.R_alloc | apply Kd.R_drewN | apply Kd.R_drew)); exact HO_3.out, by repeat (first | (with_reducible first | exact HB.out | apply below_alloc | apply pw_below_drewN | apply below_drew1) | exact HB.out)⟩
          · rw [if_neg c8] at H
            have c8b0 : (((x3_1.length : Int) % 64) == 56) = false := beq_eq_false_iff_ne.mpr c8
            have c8b1 : (((x3_1.length : Int) % 64) != 56) = true := bne_iff_ne.mpr c8
            by_cases c16 : x3_1.length < 140737488355328
            · rw [if_pos c16] at H
              have LMc16 := Aside0.mk c16
              clear c16
              obtain ⟨y165, hy165⟩ : ∃ y_ : List Int, y_ = (x3_1 ++ [0]) := ⟨_, rfl⟩
              replace H : (spec_Padded.l0 k1 l0 y165) = some r := by first | (rw [hy165]; with_reducible exact H) | (have H2_ := (Option.bind_some _ _).symm.trans H; rw [hy165]; with_reducible exact H2_) | (have H2_ := (Option.bind_some _ _).symm.trans H; with_reducible exact H2_) | with_reducible exact H | (rw [hy165]; exact H) | exact H
              have Ny165 := Aside0.mk hy165
              clear hy165
              have H' := Aside0.mk H
              clear H
              obtain ⟨Ao17, co17, eo17⟩ := Kd.R_slice HO_3.out
              subst eo17
              go_wp2_with (first | ((with_reducible refine gate_builtin (b := .append) (xs := #[.tmp 15, .tmp 16]) rfl ?_); at_builtin; refine Kd.R_append (Kd.int .u8) (w0 := w) w.heap.size rfl (.tmp 15) (.tmp 16) 27 5 (.int .u8 0) 1 rfl Try.underlying27 info5 rfl (by decide) (by omega) (.slice Ao17 x3_1.length co17) x3_1 0 [.int .u8 0] (fun _ => True) (fun _ => False) rfl rfl ?aP (fun _ hk => hk.elim) ?aF ?aO ?aB ?aS ?aL ?_; (case aP => exact rfl); (case aB => exact (by repeat (first | (with_reducible first | exact HB.out | apply below_alloc | apply pw_below_drewN | apply below_drew1) | exact HB.out))); (case aF => exact (fun _ _ => trivial)); (case aO => exact (by (with_reducible repeat (first | apply Kd.R_alloc | apply Kd.R_drewN | apply Kd.R_drew)); exact HO_3.out)); (case aS => exact (below_size (by repeat (first | (with_reducible first | exact HB.out | apply below_alloc | apply pw_below_drewN | apply below_drew1) | exact HB.out)))); (case aL => have := LMc16.out; omega); intro v166 w18 ho hb hg hat; rw [← Ny165.out] at ho; have n0_ := Aside0.mk (hb); have n1_ := Aside0.mk (ho); clear HB; clear HO_3; have HB := n0_; have HO167 := n1_; clear n0_ n1_; clear ho hb hg hat))
              go_roundg k1
              case measure => have := HK1.out; omega
              case rel => exact ⟨(y165), H', ⟨by have := HK1.out; omega⟩, ⟨by (with_reducible repeat (first | apply Kd.R_alloc | apply Kd.R_drewN | apply Kd.R_drew)); exact HO167.out⟩, ⟨by repeat (first | (with_reducible first | exact HB.out | apply below_alloc | apply pw_below_drewN | apply below_drew1) | exact HB.out)⟩⟩
            · rw [if_neg c16] at H
              exact absurd H (by simp)
    · rw [if_neg c3] at H
      exact absurd H (by simp)
  · rw [if_neg c2] at H
    exact absurd H (by simp)

end Go.Proofs.Ytmkhhnfmahdijaa.X

namespace Go.Proofs.Ytmkhhnfmahdijaa.X
open Go.RowKit Go.Proofs.YtmkhhnfmahdijaaW.PrintWords Go.Proofs.YtmkhhnfmahdijaaW.PrintLast Go.Proofs.YtmkhhnfmahdijaaW.PrintMore
attribute [local go_sem] max2_int min2_int max_two min_two max_three min_three max_four min_four   -- for this text's walks alone
set_option linter.unusedVariables false
set_option linter.unusedSimpArgs false

/-! ### spec_l2K: function 103 -/
def spec_l2K.f  : Option (List Int) := some (([1116352408, 1899447441, 3049323471, 3921009573, 961987163, 1508970993, 2453635748, 2870763221, 3624381080, 310598401, 607225278, 1426881987, 1925078388, 2162078206, 2614888103, 3248222580, 3835390401, 4022224774, 264347078, 604807628, 770255983, 1249150122, 1555081692, 1996064986, 2554220882, 2821834349, 2952996808, 3210313671, 3336571891, 3584528711, 113926993, 338241895, 666307205, 773529912, 1294757372, 1396182291, 1695183700, 1986661051, 2177026350, 2456956037, 2730485921, 2820302411, 3259730800, 3345764771, 3516065817, 3600352804, 4094571909, 275423344, 430227734, 506948616, 659060556, 883997877, 958139571, 1322822218, 1537002063, 1747873779, 1955562222, 2024104815, 2227730452, 2361852424, 2428436474, 2756734187, 3204031479, 3329325298] : List Int))
set_option maxHeartbeats 8000000 in
set_option maxRecDepth 100000 in
theorem spec_l2K.calls  (r : List Int) (w : World) (h : spec_l2K.f  = some r) :
    Calls Try.prog 103 #[] w fun e w' => ∃ v0_ : Value, e = .returned (v0_) ∧ Kd.R (Kd.int .i64) 3 w' w.heap.size (fun _ => True) v0_ r ∧ Below w.heap.size w w' := by
  have HB := Aside0.mk (Below.refl w.heap.size w)
  have H : (some (([1116352408, 1899447441, 3049323471, 3921009573, 961987163, 1508970993, 2453635748, 2870763221, 3624381080, 310598401, 607225278, 1426881987, 1925078388, 2162078206, 2614888103, 3248222580, 3835390401, 4022224774, 264347078, 604807628, 770255983, 1249150122, 1555081692, 1996064986, 2554220882, 2821834349, 2952996808, 3210313671, 3336571891, 3584528711, 113926993, 338241895, 666307205, 773529912, 1294757372, 1396182291, 1695183700, 1986661051, 2177026350, 2456956037, 2730485921, 2820302411, 3259730800, 3345764771, 3516065817, 3600352804, 4094571909, 275423344, 430227734, 506948616, 659060556, 883997877, 958139571, 1322822218, 1537002063, 1747873779, 1955562222, 2024104815, 2227730452, 2361852424, 2428436474, 2756734187, 3204031479, 3329325298] : List Int))) = some r := h
  clear h
  obtain ⟨y772, hy772⟩ : ∃ y_ : List Int, y_ = (([1116352408, 1899447441, 3049323471, 3921009573, 961987163, 1508970993, 2453635748, 2870763221, 3624381080, 310598401, 607225278, 1426881987, 1925078388, 2162078206, 2614888103, 3248222580, 3835390401, 4022224774, 264347078, 604807628, 770255983, 1249150122, 1555081692, 1996064986, 2554220882, 2821834349, 2952996808, 3210313671, 3336571891, 3584528711, 113926993, 338241895, 666307205, 773529912, 1294757372, 1396182291, 1695183700, 1986661051, 2177026350, 2456956037, 2730485921, 2820302411, 3259730800, 3345764771, 3516065817, 3600352804, 4094571909, 275423344, 430227734, 506948616, 659060556, 883997877, 958139571, 1322822218, 1537002063, 1747873779, 1955562222, 2024104815, 2227730452, 2361852424, 2428436474, 2756734187, 3204031479, 3329325298] : List Int)) := ⟨_, rfl⟩
  replace H : (some y772) = some r := by first | (rw [hy772]; with_reducible exact H) | (have H2_ := (Option.bind_some _ _).symm.trans H; rw [hy772]; with_reducible exact H2_) | (have H2_ := (Option.bind_some _ _).symm.trans H; with_reducible exact H2_) | with_reducible exact H | (rw [hy772]; exact H) | exact H
  have Ny772 := Aside0.mk hy772
  clear hy772
  obtain rfl := Option.some.inj H
  go_enter Try.func103, Try.ntmps103
  go_wp2_with (first | ((with_reducible refine gate_dst (N := 1) rfl ?_); refine Kd.R_lit (Kd.int .i64) _ 3 ?hg (N := 1) ?hd (xs := ([1116352408, 1899447441, 3049323471, 3921009573, 961987163, 1508970993, 2453635748, 2870763221, 3624381080, 310598401, 607225278, 1426881987, 1925078388, 2162078206, 2614888103, 3248222580, 3835390401, 4022224774, 264347078, 604807628, 770255983, 1249150122, 1555081692, 1996064986, 2554220882, 2821834349, 2952996808, 3210313671, 3336571891, 3584528711, 113926993, 338241895, 666307205, 773529912, 1294757372, 1396182291, 1695183700, 1986661051, 2177026350, 2456956037, 2730485921, 2820302411, 3259730800, 3345764771, 3516065817, 3600352804, 4094571909, 275423344, 430227734, 506948616, 659060556, 883997877, 958139571, 1322822218, 1537002063, 1747873779, 1955562222, 2024104815, 2227730452, 2361852424, 2428436474, 2756734187, 3204031479, 3329325298] : List Int)) (inner := [.int .i64 1116352408, .int .i64 1899447441, .int .i64 3049323471, .int .i64 3921009573, .int .i64 961987163, .int .i64 1508970993, .int .i64 2453635748, .int .i64 2870763221, .int .i64 3624381080, .int .i64 310598401, .int .i64 607225278, .int .i64 1426881987, .int .i64 1925078388, .int .i64 2162078206, .int .i64 2614888103, .int .i64 3248222580, .int .i64 3835390401, .int .i64 4022224774, .int .i64 264347078, .int .i64 604807628, .int .i64 770255983, .int .i64 1249150122, .int .i64 1555081692, .int .i64 1996064986, .int .i64 2554220882, .int .i64 2821834349, .int .i64 2952996808, .int .i64 3210313671, .int .i64 3336571891, .int .i64 3584528711, .int .i64 113926993, .int .i64 338241895, .int .i64 666307205, .int .i64 773529912, .int .i64 1294757372, .int .i64 1396182291, .int .i64 1695183700, .int .i64 1986661051, .int .i64 2177026350, .int .i64 2456956037, .int .i64 2730485921, .int .i64 2820302411, .int .i64 3259730800, .int .i64 3345764771, .int .i64 3516065817, .int .i64 3600352804, .int .i64 4094571909, .int .i64 275423344, .int .i64 430227734, .int .i64 506948616, .int .i64 659060556, .int .i64 883997877, .int .i64 958139571, .int .i64 1322822218, .int .i64 1537002063, .int .i64 1747873779, .int .i64 1955562222, .int .i64 2024104815, .int .i64 2227730452, .int .i64 2361852424, .int .i64 2428436474, .int .i64 2756734187, .int .i64 3204031479, .int .i64 3329325298]) (ok := fun _ => True) (okp := fun _ => True) ?hr ?hp (fun _ hk => hk) trivial (Below.refl _ _) (Nat.le_refl _) (by simp) ?_; (case hd => rfl); (case hg => rfl); (case hr => first | (go_simp; done) | (go_simp; rfl)); (case hp => exact (Reps.one (show Kd.M (Kd.int .i64) _ _ _ 1116352408 [.int .i64 1116352408] from rfl) (Reps.one (show Kd.M (Kd.int .i64) _ _ _ 1899447441 [.int .i64 1899447441] from rfl) (Reps.one (show Kd.M (Kd.int .i64) _ _ _ 3049323471 [.int .i64 3049323471] from rfl) (Reps.one (show Kd.M (Kd.int .i64) _ _ _ 3921009573 [.int .i64 3921009573] from rfl) (Reps.one (show Kd.M (Kd.int .i64) _ _ _ 961987163 [.int .i64 961987163] from rfl) (Reps.one (show Kd.M (Kd.int .i64) _ _ _ 1508970993 [.int .i64 1508970993] from rfl) (Reps.one (show Kd.M (Kd.int .i64) _ _ _ 2453635748 [.int .i64 2453635748] from rfl) (Reps.one (show Kd.M (Kd.int .i64) _ _ _ 2870763221 [.int .i64 2870763221] from rfl) (Reps.one (show Kd.M (Kd.int .i64) _ _ _ 3624381080 [.int .i64 3624381080] from rfl) (Reps.one (show Kd.M (Kd.int .i64) _ _ _ 310598401 [.int .i64 310598401] from rfl) (Reps.one (show Kd.M (Kd.int .i64) _ _ _ 607225278 [.int .i64 607225278] from rfl) (Reps.one (show Kd.M (Kd.int .i64) _ _ _ 1426881987 [.int .i64 1426881987] from rfl) (Reps.one (show Kd.M (Kd.int .i64) _ _ _ 1925078388 [.int .i64 1925078388] from rfl) (Reps.one (show Kd.M (Kd.int .i64) _ _ _ 2162078206 [.int .i64 2162078206] from rfl) (Reps.one (show Kd.M (Kd.int .i64) _ _ _ 2614888103 [.int .i64 2614888103] from rfl) (Reps.one (show Kd.M (Kd.int .i64) _ _ _ 3248222580 [.int .i64 3248222580] from rfl) (Reps.one (show Kd.M (Kd.int .i64) _ _ _ 3835390401 [.int .i64 3835390401] from rfl) (Reps.one (show Kd.M (Kd.int .i64) _ _ _ 4022224774 [.int .i64 4022224774] from rfl) (Reps.one (show Kd.M (Kd.int .i64) _ _ _ 264347078 [.int .i64 264347078] from rfl) (Reps.one (show Kd.M (Kd.int .i64) _ _ _ 604807628 [.int .i64 604807628] from rfl) (Reps.one (show Kd.M (Kd.int .i64) _ _ _ 770255983 [.int .i64 770255983] from rfl) (Reps.one (show Kd.M (Kd.int .i64) _ _ _ 1249150122 [.int .i64 1249150122] from rfl) (Reps.one (show Kd.M (Kd.int .i64) _ _ _ 1555081692 [.int .i64 1555081692] from rfl) (Reps.one (show Kd.M (Kd.int .i64) _ _ _ 1996064986 [.int .i64 1996064986] from rfl) (Reps.one (show Kd.M (Kd.int .i64) _ _ _ 2554220882 [.int .i64 2554220882] from rfl) (Reps.one (show Kd.M (Kd.int .i64) _ _ _ 2821834349 [.int .i64 2821834349] from rfl) (Reps.one (show Kd.M (Kd.int .i64) _ _ _ 2952996808 [.int .i64 2952996808] from rfl) (Reps.one (show Kd.M (Kd.int .i64) _ _ _ 3210313671 [.int .i64 3210313671] from rfl) (Reps.one (show Kd.M (Kd.int .i64) _ _ _ 3336571891 [.int .i64 3336571891] from rfl) (Reps.one (show Kd.M (Kd.int .i64) _ _ _ 3584528711 [.int .i64 3584528711] from rfl) (Reps.one (show Kd.M (Kd.int .i64) _ _ _ 113926993 [.int .i64 113926993] from rfl) (Reps.one (show Kd.M (Kd.int .i64) _ _ _ 338241895 [.int .i64 338241895] from rfl) (Reps.one (show Kd.M (Kd.int .i64) _ _ _ 666307205 [.int .i64 666307205] from rfl) (Reps.one (show Kd.M (Kd.int .i64) _ _ _ 773529912 [.int .i64 773529912] from rfl) (Reps.one (show Kd.M (Kd.int .i64) _ _ _ 1294757372 [.int .i64 1294757372] from rfl) (Reps.one (show Kd.M (Kd.int .i64) _ _ _ 1396182291 [.int .i64 1396182291] from rfl) (Reps.one (show Kd.M (Kd.int .i64) _ _ _ 1695183700 [.int .i64 1695183700] from rfl) (Reps.one (show Kd.M (Kd.int .i64) _ _ _ 1986661051 [.int .i64 1986661051] from rfl) (Reps.one (show Kd.M (Kd.int .i64) _ _ _ 2177026350 [.int .i64 2177026350] from rfl) (Reps.one (show Kd.M (Kd.int .i64) _ _ _ 2456956037 [.int .i64 2456956037] from rfl) (Reps.one (show Kd.M (Kd.int .i64) _ _ _ 2730485921 [.int .i64 2730485921] from rfl) (Reps.one (show Kd.M (Kd.int .i64) _ _ _ 2820302411 [.int .i64 2820302411] from rfl) (Reps.one (show Kd.M (Kd.int .i64) _ _ _ 3259730800 [.int .i64 3259730800] from rfl) (Reps.one (show Kd.M (Kd.int .i64) _ _ _ 3345764771 [.int .i64 3345764771] from rfl) (Reps.one (show Kd.M (Kd.int .i64) _ _ _ 3516065817 [.int .i64 3516065817] from rfl) (Reps.one (show Kd.M (Kd.int .i64) _ _ _ 3600352804 [.int .i64 3600352804] from rfl) (Reps.one (show Kd.M (Kd.int .i64) _ _ _ 4094571909 [.int .i64 4094571909] from rfl) (Reps.one (show Kd.M (Kd.int .i64) _ _ _ 275423344 [.int .i64 275423344] from rfl) (Reps.one (show Kd.M (Kd.int .i64) _ _ _ 430227734 [.int .i64 430227734] from rfl) (Reps.one (show Kd.M (Kd.int .i64) _ _ _ 506948616 [.int .i64 506948616] from rfl) (Reps.one (show Kd.M (Kd.int .i64) _ _ _ 659060556 [.int .i64 659060556] from rfl) (Reps.one (show Kd.M (Kd.int .i64) _ _ _ 883997877 [.int .i64 883997877] from rfl) (Reps.one (show Kd.M (Kd.int .i64) _ _ _ 958139571 [.int .i64 958139571] from rfl) (Reps.one (show Kd.M (Kd.int .i64) _ _ _ 1322822218 [.int .i64 1322822218] from rfl) (Reps.one (show Kd.M (Kd.int .i64) _ _ _ 1537002063 [.int .i64 1537002063] from rfl) (Reps.one (show Kd.M (Kd.int .i64) _ _ _ 1747873779 [.int .i64 1747873779] from rfl) (Reps.one (show Kd.M (Kd.int .i64) _ _ _ 1955562222 [.int .i64 1955562222] from rfl) (Reps.one (show Kd.M (Kd.int .i64) _ _ _ 2024104815 [.int .i64 2024104815] from rfl) (Reps.one (show Kd.M (Kd.int .i64) _ _ _ 2227730452 [.int .i64 2227730452] from rfl) (Reps.one (show Kd.M (Kd.int .i64) _ _ _ 2361852424 [.int .i64 2361852424] from rfl) (Reps.one (show Kd.M (Kd.int .i64) _ _ _ 2428436474 [.int .i64 2428436474] from rfl) (Reps.one (show Kd.M (Kd.int .i64) _ _ _ 2756734187 [.int .i64 2756734187] from rfl) (Reps.one (show Kd.M (Kd.int .i64) _ _ _ 3204031479 [.int .i64 3204031479] from rfl) (Reps.one (show Kd.M (Kd.int .i64) _ _ _ 3329325298 [.int .i64 3329325298] from rfl) (Reps.none _ _)))))))))))))))))))))))))))))))))))))))))))))))))))))))))))))))))); intro v773 w1 ho2 hb hg_ hnew_; clear hg_ hnew_; (first | rw [← Ny772.out] at ho2 | (simp only [Int.reduceToNat] at ho2; rw [← Ny772.out] at ho2)); have n0_ := Aside0.mk (Kd.R_lower ho2 (below_size (by repeat (first | (with_reducible first | exact HB.out | apply below_alloc | apply pw_below_drewN | apply below_drew1) | exact HB.out)))); have n1_ := Aside0.mk (below_step (by repeat (first | (with_reducible first | exact HB.out | apply below_alloc | apply pw_below_drewN | apply below_drew1) | exact HB.out)) hb); clear HB; have HO774 := n0_; have HB := n1_; clear n0_ n1_; clear hb ho2))
  go_ret
  exact ⟨_, by first | rfl | (simp [errW_none, errW_some] <;> rfl) | (simp [*, errW_none, errW_some] <;> rfl), by (with_reducible repeat (first | apply Kd.R_alloc | apply Kd.R_drewN | apply Kd.R_drew)); exact HO774.out, by repeat (first | (with_reducible first | exact HB.out | apply below_alloc | apply pw_below_drewN | apply below_drew1) | exact HB.out)⟩

end Go.Proofs.Ytmkhhnfmahdijaa.X

namespace Go.Proofs.Ytmkhhnfmahdijaa.X
open Go.RowKit Go.Proofs.YtmkhhnfmahdijaaW.PrintWords Go.Proofs.YtmkhhnfmahdijaaW.PrintLast Go.Proofs.YtmkhhnfmahdijaaW.PrintMore
attribute [local go_sem] max2_int min2_int max_two min_two max_three min_three max_four min_four   -- for this text's walks alone
set_option linter.unusedVariables false
set_option linter.unusedSimpArgs false

/-! ### spec_l2Turn: function 127 -/
def spec_l2Turn.f (a0 : Int) (a1 : Int) : Option (Int) := if 0 ≤ (IntKind.u64.wrap (a1)) then (if 0 ≤ (IntKind.u64.wrap (wrap64 (32 - a1))) then (some (Go.bits .and .i64 (Go.bits .or .i64 (shr .i64 a0 (IntKind.u64.wrap (a1))) (shl .i64 a0 (IntKind.u64.wrap (wrap64 (32 - a1))))) 4294967295)) else (none)) else (none)
set_option maxHeartbeats 8000000 in
set_option maxRecDepth 100000 in
theorem spec_l2Turn.calls (a0 : Int) (a1 : Int) (r : Int) (w : World) (h : spec_l2Turn.f a0 a1 = some r) :
    Calls Try.prog 127 #[.int .i64 a0, .int .i64 a1] w fun e w' => e = .returned (.int .i64 r) ∧ Drawn0 w w' := by
  have H : (if 0 ≤ (IntKind.u64.wrap (a1)) then (if 0 ≤ (IntKind.u64.wrap (wrap64 (32 - a1))) then (some (Go.bits .and .i64 (Go.bits .or .i64 (shr .i64 a0 (IntKind.u64.wrap (a1))) (shl .i64 a0 (IntKind.u64.wrap (wrap64 (32 - a1))))) 4294967295)) else (none)) else (none)) = some r := h
  clear h
  obtain ⟨ji3, hji3⟩ : ∃ j_ : Int, (IntKind.u64.wrap (a1)) = j_ := ⟨_, rfl⟩
  replace H : (if 0 ≤ (ji3) then (if 0 ≤ (IntKind.u64.wrap (wrap64 (32 - a1))) then (some (Go.bits .and .i64 (Go.bits .or .i64 (shr .i64 a0 (ji3)) (shl .i64 a0 (IntKind.u64.wrap (wrap64 (32 - a1))))) 4294967295)) else (none)) else (none)) = some r := by first | (rw [hji3] at H; exact H) | (simp only [hji3] at H ⊢; exact H)
  by_cases c4 : 0 ≤ (ji3)
  · rw [if_pos c4] at H
    have c4b0 := eq_true c4
    have c4b1 : decide (0 ≤ (ji3)) = true := decide_eq_true c4
    clear c4
    obtain ⟨ji5, hji5⟩ : ∃ j_ : Int, (shr .i64 a0 (ji3)) = j_ := ⟨_, rfl⟩
    replace H : (if 0 ≤ (IntKind.u64.wrap (wrap64 (32 - a1))) then (some (Go.bits .and .i64 (Go.bits .or .i64 (ji5) (shl .i64 a0 (IntKind.u64.wrap (wrap64 (32 - a1))))) 4294967295)) else (none)) = some r := by first | (rw [hji5] at H; exact H) | (simp only [hji5] at H ⊢; exact H)
    have hji5_ : (a0 / 2 ^ min (ji3).toNat 64) = ji5 := hji5
    have hji5z : (ji3) ≤ 64 → (a0 / 2 ^ (ji3).toNat) = ji5 := shr_small hji5
    obtain ⟨ji6, hji6⟩ : ∃ j_ : Int, (IntKind.u64.wrap (wrap64 (32 - a1))) = j_ := ⟨_, rfl⟩
    replace H : (if 0 ≤ (ji6) then (some (Go.bits .and .i64 (Go.bits .or .i64 (ji5) (shl .i64 a0 (ji6))) 4294967295)) else (none)) = some r := by first | (rw [hji6] at H; exact H) | (simp only [hji6] at H ⊢; exact H)
    by_cases c7 : 0 ≤ (ji6)
    · rw [if_pos c7] at H
      have c7b0 := eq_true c7
      have c7b1 : decide (0 ≤ (ji6)) = true := decide_eq_true c7
      clear c7
      obtain ⟨ji8, hji8⟩ : ∃ j_ : Int, (shl .i64 a0 (ji6)) = j_ := ⟨_, rfl⟩
      replace H : (some (Go.bits .and .i64 (Go.bits .or .i64 (ji5) (ji8)) 4294967295)) = some r := by first | (rw [hji8] at H; exact H) | (simp only [hji8] at H ⊢; exact H)
      have hji8_ : (IntKind.i64.wrap (a0 * 2 ^ min (ji6).toNat 64)) = ji8 := hji8
      have hji8z : (ji6) ≤ 64 → (IntKind.i64.wrap (a0 * 2 ^ (ji6).toNat)) = ji8 := shl_small hji8
      have hji8y : (wrap64 (a0 * 2 ^ min (ji6).toNat 64)) = ji8 := (i64_w _).symm.trans hji8_
      have hji8x : (ji6) ≤ 64 → (wrap64 (a0 * 2 ^ (ji6).toNat)) = ji8 := fun h_ => (i64_w _).symm.trans (hji8z h_)
      obtain rfl := Option.some.inj H
      go_enter Try.func127, Try.ntmps127
      go_wp2
      go_ret
      exact ⟨by first | rfl | (simp; done) | (simp only [← hji3, ← hji5, ← hji6, ← hji8] <;> (first | rfl | simp)) | (simp [*]; done), by repeat (first | exact Drawn0.refl _ | apply Drawn0.step)⟩
    · rw [if_neg c7] at H
      exact absurd H (by simp)
  · rw [if_neg c4] at H
    exact absurd H (by simp)

end Go.Proofs.Ytmkhhnfmahdijaa.X
