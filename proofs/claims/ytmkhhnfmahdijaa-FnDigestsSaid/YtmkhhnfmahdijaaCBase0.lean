/- Shared by the claims on digests: the walks of the given functions rounds, wordsOf, turnBlock, Chunk, Digest. No conditions beyond those that each theorem names. -/
import Derived.Test.YtmkhhnfmahdijaaWWords
import Derived.Lib.AppendStr
import Derived.Test.YtmkhhnfmahdijaaProg
import Derived.Below
import Derived.Deep.Draws
import Derived.Deep.AppendLies
import Derived.Maps.AppendAt
import Derived.OwnWalk
import Derived.Laws.BytesArg
import Derived.Laws.MakeOwn
import Derived.Laws.OwnMore
import Derived.Deep.OwnRows
import Derived.Tactics
import Derived.Lib.ConvBytes
import Derived.Laws.Slices
import Derived.WalkKit
import Derived.KernelRfl
import Derived.RowKit3
import Derived.Deep.LoopGhost
import Derived.Deep.QuietTactic
import Derived.BigQuiet
import Derived.WideLaws
import Derived.Deep.DeepCutAuto
import Derived.Deep.CutBlock
import Derived.Deep.RegionHeld3
import Derived.Laws.Rows
import Derived.ArgAppend
import Derived.Laws.IdiomCopy
import Derived.OrdersHeld
import Derived.Laws.BitsLemmas
import Derived.RowKit
import Derived.Test.YtmkhhnfmahdijaaWLast
import Derived.Test.YtmkhhnfmahdijaaWTab
import Derived.Test.YtmkhhnfmahdijaaWFour
import Derived.Test.YtmkhhnfmahdijaaWQPut
import Derived.Test.YtmkhhnfmahdijaaWApart
import Derived.Test.YtmkhhnfmahdijaaWArr
import Derived.Test.YtmkhhnfmahdijaaWZeros
import Derived.Test.YtmkhhnfmahdijaaWFoot
import Derived.Test.YtmkhhnfmahdijaaWKept
import Derived.Test.YtmkhhnfmahdijaaWShare
import Derived.Test.YtmkhhnfmahdijaaWN
import Derived.Test.YtmkhhnfmahdijaaWFootNe
import Derived.Test.YtmkhhnfmahdijaaWAt
import Derived.Test.YtmkhhnfmahdijaaWEqStruct
import Derived.Test.YtmkhhnfmahdijaaWRepsOne
import Derived.Test.YtmkhhnfmahdijaaWInv
import Derived.Test.YtmkhhnfmahdijaaWInvWords
import Derived.Test.YtmkhhnfmahdijaaWGuard
import Derived.Test.YtmkhhnfmahdijaaWNEv
import Derived.Test.YtmkhhnfmahdijaaWMore
import Derived.StillTailTactics
/- A string appended to a row of bytes that the call owns, with the new row's block told (beside the printer's words, which tell it for elements and rows alone). No conditions beyond what each lemma names. -/
set_option linter.unusedVariables false
namespace Go.Proofs.Ytmkhhnfmahdijaa.Y
open Go.RowKit Go.Proofs.YtmkhhnfmahdijaaW.PrintWords
section
variable {P : Program} {ops : Array Oper} {rest : List Oper} {o : Oper} {a : Act} {Q : Exit → Act → World → Prop}

/-- Where the row lies that a string was appended to: where it lay, or in a new block. -/
theorem append_str_block {w w' : World} {t u ty e : TypeId} {i : TypeInfo} (ht : P.underlying t = some (.slice e)) (hu : P.underlying u = some .string) (hi : P.info? e = some i) (hz : i.zero = some (.int .u8 0))
    (hsize : i.size = 1) (hby : i.bytes = 1) {base : Nat} {v v' : Value} {n : Nat} {xs : List Value} (hown : w.ownsRow base e 1 v n xs) {s : ByteArray} (hb : n + s.size ≤ 140737488355328)
    (hr : (Builtin.append_ #[t, u] ty #[v, .string s]).run P w = .ok v' w') : v'.ownBlock = v.ownBlock ∨ v'.ownBlock = some w.heap.size := by
  have hxl : xs.length = n := by simpa using hown.1
  rcases hown.2 with ⟨rfl, rfl⟩ | ⟨g, cap, cur, rfl, hbg, hg, hnc, hcm, hcs, htake⟩
  · by_cases hm : s.size = 0
    · have hf := Lib.run_firstCells_string (P := P) w 1 s
      rw [hm] at hf
      have h0 : (Builtin.append_ #[t, u] ty #[Value.slice none 0 0, .string s]).run P w = .ok (.slice none 0 0) w := by
        simp [Builtin.append_, run_underlying ht, run_underlying hu, sizeOf, typeInfo, hi, hsize, Builtin.lenOf, hm, hf]
      rw [h0] at hr
      injection hr with h1 _
      exact .inl (by rw [← h1])
    · have h0 := run_append_nil_string (P := P) w t u ty e i (.int .u8 0) ht hu hi hz s (by omega) (by omega) (by rw [hby]; omega)
      rw [h0] at hr
      injection hr with h1 _
      exact .inr (by rw [← h1]; rfl)
  · by_cases hroom : n + s.size ≤ cap
    · have h0 := Lib.run_append_room_string (P := P) w t u ty e i ht hu hi hsize g n cap cur hg s hroom (by simp at hcs; omega)
      rw [h0] at hr
      injection hr with h1 _
      exact .inl (by rw [← h1]; rfl)
    · have holds : ∀ j u, xs[j]? = some u → w.cell? ((⟨g, 0, none⟩ : Addr).add j) = some u := hown.cells (g := g) rfl
      have h0 := Lib.run_append_grow_string (P := P) w t u ty e i (.int .u8 0) ht hu hi hz ⟨g, 0, none⟩ n cap xs (by rw [hsize]; simpa using hxl) holds s (by omega) (by omega) (by rw [hby]; exact growslice_fits (by omega) (by omega))
      rw [h0] at hr
      injection hr with h1 _
      exact .inr (by rw [← h1]; rfl)

/-- 'append(xs, s...)' at the operation: what the new row may be is told. -/
theorem R_append_str {w0 W : World} (base : Nat) (hgd : o.guard = none) (s x : Operand) (t u e : TypeId)
    (ho : o.op = .call { callee := .builtin .append, args := #[s, x], argTypes := #[t, u] })
    (ht : P.underlying t = some (.slice e)) (hu : P.underlying u = some .string) (hinfo : (P.info? e).map (fun i => (i.zero, i.size, i.bytes)) = some (some (.int .u8 0), 1, 1))
    (v : Value) (xs : List Int) (y : ByteArray) (ok : Nat → Prop) (hs : a.eval s = v) (hx : a.eval x = .string y) (hfresh : ∀ k, W.heap.size ≤ k → ok k)
    (HO : (Kd.int .u8).R e W base ok v xs) (HB : Below base w0 W) (hbase : base ≤ W.heap.size) (hl : xs.length + y.size ≤ 140737488355328)
    (h : ∀ v1 w1, (Kd.int .u8).R e w1 base ok v1 (xs ++ bytesOf y) → Below base w0 w1 → W.grownBy w1 v.ownBlock → (v1.ownBlock = v.ownBlock ∨ ∃ b, v1.ownBlock = some b ∧ W.heap.size ≤ b) → wpList P ops Q rest (a.put o.dst v1) w1) :
    wpList P ops Q (o :: rest) a W := by
  obtain ⟨i0, hi, hzz⟩ := Option.map_eq_some_iff.1 hinfo
  simp only [Prod.mk.injEq] at hzz
  obtain ⟨hz0, hz1, hz2⟩ := hzz
  have hok := HO.1
  have hO : W.ownsRow base e 1 v xs.length (nums .u8 xs) := Kd.own_of_R HO
  refine wpList_plain hgd fun K hK => ?_
  obtain ⟨v', w', hr, h2, h3, _⟩ := Lib.run_append_own_string (P := P) W base t u o.type e i0 ht hu hi hz0 hz1 hz2 v xs.length (nums .u8 xs) hO y (by simp only [maxLen]; omega) hl hbase
  have hat := append_str_block ht hu hi hz0 hz1 hz2 hO hl hr
  have hl2 : (xs ++ bytesOf y).length = xs.length + y.size := by rw [List.length_append, bytesOf_length]
  have hc : nums .u8 (xs ++ bytesOf y) = nums .u8 xs ++ Lib.strCells y := by
    rw [nums_append]
    congr 1
    simp [nums, bytesOf, Lib.strCells]
  have hR : (Kd.int .u8).R e w' base ok v' (xs ++ bytesOf y) := by
    refine Kd.R_of_own (enc := Value.int .u8) (by rw [hl2]; show w'.ownsRow base e 1 v' _ (nums .u8 (xs ++ bytesOf y)); rw [hc]; exact h2) (fun k hk => ?_)
    rcases hat with hat | hat
    · exact hok k (hat ▸ hk)
    · rw [hat] at hk
      injection hk with hk
      exact hfresh k (by omega)
  unfold Oper.wp execOp
  simp only [ho, resolve, invoke, builtin, Sem.run_bind, Sem.run_pure, Result.andThen_ok, List.map_toArray, List.map_cons, List.map_nil, hs, hx, hr]
  exact hK _ _ (h v' w' hR (HB.grown h3 hbase (own_base hO)) h3 (hat.imp id (fun e => ⟨_, e, Nat.le_refl _⟩)))
end
end Go.Proofs.Ytmkhhnfmahdijaa.Y

namespace Go.Proofs.Ytmkhhnfmahdijaa.X
open Go.RowKit Go.Proofs.YtmkhhnfmahdijaaW.PrintWords Go.Proofs.YtmkhhnfmahdijaaW.PrintLast Go.Proofs.YtmkhhnfmahdijaaW.PrintMore
attribute [local go_sem] max2_int min2_int max_two min_two max_three min_three max_four min_four   -- for this text's walks alone
set_option linter.unusedVariables false
set_option linter.unusedSimpArgs false



def errW : Option Int → Value
  | none => .nilIface
  | some c => .iface 0 (.int .i64 c)
theorem errW_none : errW none = .nilIface := rfl
theorem errW_some (c : Int) : errW (some c) = .iface 0 (.int .i64 c) := rfl

theorem info3 : (Try.prog.info? 3).map (fun i => (i.zero, i.size, i.bytes)) = some (some (.int .i64 0), 1, 8) := by kernel_rfl
theorem info5 : (Try.prog.info? 5).map (fun i => (i.zero, i.size, i.bytes)) = some (some (.int .u8 0), 1, 1) := by kernel_rfl
theorem info9 : (Try.prog.info? 9).map (fun i => (i.zero, i.size, i.bytes)) = some (some (.string ⟨#[]⟩), 1, 16) := by kernel_rfl
-- the values' own types
def rd_L3 (xs : List (List Int)) (i : Int) : (List Int) := xs.getD i.toNat ([] : List Int)
theorem at_L3 {w : World} {A : Option Addr} {n : Nat} {xs : List (List Int)} (h : Kd.C (Kd.slice 5 (Kd.int .u8)) w A n xs) (i : Int) (h0 : 0 ≤ i) (h1 : i < n) : ∃ ad A0 c0, A = some ad ∧ w.cell? (ad.add i.toNat) = some (.slice A0 (rd_L3 xs i).length c0) ∧ (rd_L3 xs i).length ≤ c0 ∧ (Kd.int .u8).C w A0 (rd_L3 xs i).length (rd_L3 xs i) := by
  obtain ⟨ad, c, e, _, hK, hc0⟩ := Kd.C_get h ([] : List Int) i h0 h1
  have hc : ∀ j u, c[j]? = some u → w.cell? (ad.add (i.toNat * 1 + j)) = some u := hc0
  obtain ⟨A0, c0, rfl, l0, g0⟩ := hK
  exact ⟨ad, A0, c0, e, by have hq := hc 0 _ rfl; rwa [Nat.mul_one, Nat.add_zero] at hq, l0, g0⟩

def rd_L5 (xs : List (List ByteArray)) (i : Int) : (List ByteArray) := xs.getD i.toNat ([] : List ByteArray)
theorem at_L5 {w : World} {A : Option Addr} {n : Nat} {xs : List (List ByteArray)} (h : Kd.C (Kd.slice 9 Kd.string) w A n xs) (i : Int) (h0 : 0 ≤ i) (h1 : i < n) : ∃ ad A0 c0, A = some ad ∧ w.cell? (ad.add i.toNat) = some (.slice A0 (rd_L5 xs i).length c0) ∧ (rd_L5 xs i).length ≤ c0 ∧ Kd.string.C w A0 (rd_L5 xs i).length (rd_L5 xs i) := by
  obtain ⟨ad, c, e, _, hK, hc0⟩ := Kd.C_get h ([] : List ByteArray) i h0 h1
  have hc : ∀ j u, c[j]? = some u → w.cell? (ad.add (i.toNat * 1 + j)) = some u := hc0
  obtain ⟨A0, c0, rfl, l0, g0⟩ := hK
  exact ⟨ad, A0, c0, e, by have hq := hc 0 _ rfl; rwa [Nat.mul_one, Nat.add_zero] at hq, l0, g0⟩

/-! #### struct type 46 -/
structure S46 where
  f0 : Int
  f1 : (List ByteArray)
def z46 : S46 := ⟨(0 : Int), ([] : List ByteArray)⟩
def k46 : Kd S46 := Kd.iso (Kd.pair (Kd.int .i64) (Kd.slice 9 Kd.string)) (fun x : S46 => (x.f0, x.f1))
theorem k46_heap : Kd.Heap k46 := Kd.heap_iso _ (Kd.heap_pair (Kd.heap_int .i64) (Kd.heap_slice 9 Kd.heap_string))
theorem k46_open {w : World} {x : S46} {cs : List Value} (h : k46.K w x cs) : ∃ A1 c1, cs = [.int .i64 x.f0, .slice A1 x.f1.length c1] ∧ x.f1.length ≤ c1 ∧ Kd.string.C w A1 x.f1.length x.f1 := by
  obtain ⟨_, _, rfl, rfl, ⟨A1, c1, rfl, l1, g1⟩⟩ := h
  exact ⟨A1, c1, rfl, l1, g1⟩
theorem k46_openM {w : World} {base : Nat} {ok : Nat → Prop} {x : S46} {cs : List Value} (h : k46.M w base ok x cs) : ∃ v1, cs = [.int .i64 x.f0, v1] ∧ Kd.string.R 9 w base ok v1 x.f1 := by
  obtain ⟨_, _, rfl, rfl, ⟨v1, rfl, g1⟩⟩ := h
  exact ⟨v1, rfl, g1⟩
theorem k46_mk (w : World) (x : S46) {A1 : Option Addr} {c1 : Nat} (l1 : x.f1.length ≤ c1) (g1 : Kd.string.C w A1 x.f1.length x.f1) : k46.K w x [.int .i64 x.f0, .slice A1 x.f1.length c1] := ⟨[.int .i64 x.f0], [.slice A1 x.f1.length c1], rfl, rfl, ⟨A1, c1, rfl, l1, g1⟩⟩
theorem k46_mkM (w : World) (base : Nat) (ok : Nat → Prop) (x : S46) {v1 : Value} (g1 : Kd.string.R 9 w base ok v1 x.f1) : k46.M w base ok x [.int .i64 x.f0, v1] := ⟨[.int .i64 x.f0], [v1], rfl, rfl, ⟨v1, rfl, g1⟩⟩
def rd_T46 (xs : List S46) (i : Int) : S46 := xs.getD i.toNat z46
theorem at_T46 {w : World} {A : Option Addr} {n : Nat} {xs : List S46} (h : Kd.C k46 w A n xs) (i : Int) (h0 : 0 ≤ i) (h1 : i < n) : ∃ ad A1 c1, A = some ad ∧ w.cell? (ad.add (i.toNat * 2)) = some (.int .i64 (rd_T46 xs i).f0) ∧ w.cell? ⟨(ad.add (i.toNat * 2)).block, (ad.add (i.toNat * 2)).off + 1, none⟩ = some (.slice A1 (rd_T46 xs i).f1.length c1) ∧ (rd_T46 xs i).f1.length ≤ c1 ∧ Kd.string.C w A1 (rd_T46 xs i).f1.length (rd_T46 xs i).f1 := by
  obtain ⟨ad, c, e, _, hK, hc0⟩ := Kd.C_get h z46 i h0 h1
  have hc : ∀ j u, c[j]? = some u → w.cell? (ad.add (i.toNat * 2 + j)) = some u := hc0
  obtain ⟨A1, c1, rfl, l1, g1⟩ := k46_open hK
  exact ⟨ad, A1, c1, e, hc 0 _ rfl, by rw [← add_field _ _ 1 (by omega)]; exact hc 1 _ rfl, l1, g1⟩

end Go.Proofs.Ytmkhhnfmahdijaa.X

/- The words of SHA-256: the turning of a word, the 64 words of a block. Plain contracts of given functions, by hand. -/
namespace Go.Proofs.Ytmkhhnfmahdijaa.Sha
open Go.RowKit Go.Proofs.YtmkhhnfmahdijaaW.PrintWords Go.Proofs.YtmkhhnfmahdijaaW.PrintLast Go.Proofs.YtmkhhnfmahdijaaW.PrintMore
set_option linter.unusedVariables false
theorem iw (n : Int) (h : -9223372036854775808 ≤ n ∧ n ≤ 9223372036854775807) : IntKind.i64.wrap n = n := by rw [IntKind.wrap_i64]; omega
/-- A word turned to the right by n bits. -/
def rot (n : Nat) (x : Int) : Int := Go.bits .or .u32 (x * 2 ^ (32 - n) % 4294967296) (x / 2 ^ n)
set_option maxHeartbeats 8000000 in
set_option maxRecDepth 100000 in
theorem rot_calls (n : Nat) (k x : Int) (w : World) (hk : Go.bits .and .u64 (IntKind.u64.wrap k) 31 = ((32 - n : Nat) : Int)) (hn : n ≤ 32) :
    Calls Try.prog 130 #[.int .u32 x, .int .i64 k] w fun e w' => e = .returned (.int .u32 (rot n x)) ∧ w' = w := by
  have hn0 : (0 : Int) ≤ (n : Int) := by omega
  have e2 : 32 - (32 - n) = n := by omega
  go_enter Try.func130, Try.ntmps130
  go_wp2
  go_ret
  exact ⟨rfl, rfl⟩
/-- A word turned to the left by k bits, k below nothing. -/
def rt (k x : Int) : Int := rot (-k).toNat x
theorem rt_calls (k x : Int) (w : World) (hk : Go.bits .and .u64 (IntKind.u64.wrap k) 31 = ((32 - (-k).toNat : Nat) : Int)) (hn : (-k).toNat ≤ 32) :
    Calls Try.prog 130 #[.int .u32 x, .int .i64 k] w fun e w' => e = .returned (.int .u32 (rt k x)) ∧ w' = w := rot_calls _ k x w hk hn
/-- The cells of a block that hold words. -/
def Cells (W : World) (B n : Nat) (f : Nat → Int) : Prop := ∀ j, j < n → W.cell? ⟨B, j, none⟩ = some (.int .u32 (f j)) ∧ W.frozen? ⟨B, j, none⟩ = false
theorem Cells.congr {W : World} {B n : Nat} {f g : Nat → Int} (h : Cells W B n f) (e : ∀ j, j < n → f j = g j) : Cells W B n g := fun j hj => by rw [← e j hj]; exact h j hj
theorem Cells.set {W : World} {B n : Nat} {f : Nat → Int} (h : Cells W B n f) {k : Nat} (v : Int) : Cells (W.setCell ⟨B, k, none⟩ (.int .u32 v)) B n (fun j => if j = k then v else f j) := by
  intro j hj
  obtain ⟨h1, h2⟩ := h j hj
  refine ⟨?_, by rw [World.frozen?_setCell]; exact h2⟩
  by_cases hjk : j = k
  · subst hjk
    rw [World.cell?_setCell_same' W _ _ (by rw [h1]; rfl)]
    simp
  · rw [World.cell?_setCell_other (h := fun e => hjk (Addr.mk.inj e).2.1.symm), h1]
    simp [hjk]
theorem Cells.alloc {W : World} {t : TypeId} {c : Array Value} {n : Nat} {f : Nat → Int} (h : ∀ j, j < n → c[j]? = some (.int .u32 (f j))) : Cells (W.alloc (.cells c t)) W.heap.size n f := fun j hj =>
  ⟨(World.cell?_alloc_new ..).trans (h j hj), World.frozen?_alloc_at (hn := rfl) ..⟩
theorem Cells.of {W W' : World} {B n : Nat} {f : Nat → Int} (h : Cells W B n f) (hb : W'.heap[B]? = W.heap[B]?) : Cells W' B n f := fun j hj =>
  ⟨(World.cell?_of_block (w := W) hb).trans (h j hj).1, (World.frozen?_of_block (w := W) hb).trans (h j hj).2⟩
/-- A word of four bytes. -/
def four (a b c d : Int) : Int := Go.bits .or .u32 (Go.bits .or .u32 (Go.bits .or .u32 (a % 4294967296 * 16777216 % 4294967296) (b % 4294967296 * 65536 % 4294967296)) (c % 4294967296 * 256 % 4294967296)) (d % 4294967296)
/-- The first sixteen words. -/
def w16 (g : Nat → Int) (j : Nat) : Int := four (g (4 * j)) (g (4 * j + 1)) (g (4 * j + 2)) (g (4 * j + 3))
def sA (x : Int) : Int := Go.bits .xor .u32 (Go.bits .xor .u32 (rt (-7) x) (rt (-18) x)) (x / 8)
def sB (x : Int) : Int := Go.bits .xor .u32 (Go.bits .xor .u32 (rt (-17) x) (rt (-19) x)) (x / 1024)
/-- The word of four words before. -/
def mix (p q r s : Int) : Int := (p + sA q + r + sB s) % 4294967296
/-- The 64 words. -/
def ws (g : Nat → Int) (j : Nat) : Int := if h : j < 16 then w16 g j else mix (ws g (j - 16)) (ws g (j - 15)) (ws g (j - 7)) (ws g (j - 2))
termination_by j
theorem ws_lt {g : Nat → Int} {j : Nat} (h : j < 16) : ws g j = w16 g j := by rw [ws, dif_pos h]
theorem ws_ge {g : Nat → Int} {j : Nat} (h : ¬ j < 16) : ws g j = mix (ws g (j - 16)) (ws g (j - 15)) (ws g (j - 7)) (ws g (j - 2)) := by rw [ws, dif_neg h]
set_option maxHeartbeats 8000000 in
set_option maxRecDepth 100000 in
theorem words_calls (b off cap : Nat) (g : Nat → Int) (w : World) (hb : b < w.heap.size) (hc : ∀ j, j < 64 → w.cell? ⟨b, off + j, none⟩ = some (.int .u8 (g j))) :
    Calls Try.prog 129 #[.slice (some ⟨b, off, none⟩) 64 cap] w fun e w' => e = .returned (.pointer (some ⟨w.heap.size, 0, none⟩)) ∧ Below w.heap.size w w' ∧ w.heap.size < w'.heap.size ∧ Cells w' w.heap.size 64 (ws g) := by
  go_enter Try.func129, Try.ntmps129
  go_wp2
  go_loopw [10] (fun i wr => ∃ k : Nat, k ≤ 16 ∧ i = .int .i64 k ∧ Below w.heap.size w wr ∧ w.heap.size < wr.heap.size ∧ Cells wr w.heap.size 64 (fun j => if j < k then w16 g j else 0)) (fun i _ => 16 - (intOf i).toNat)
  case atStart =>
    refine ⟨0, by omega, rfl, (Below.refl _ w).alloc (Nat.le_refl _) _, by simp, ?_⟩
    refine Cells.alloc fun j hj => ?_
    refine (show _ = (Array.replicate 64 (Value.int .u32 0))[j]? from rfl).trans ?_
    simp [hj]
  case round =>
    obtain ⟨k, hk, rfl, hB, hs, hC⟩ := hrel
    by_cases hlt : k < 16
    · have hx0 := (hB.cell (p := ⟨b, off + 4 * k, none⟩) hb).trans (hc (4 * k) (by omega))
      have hx1 := (hB.cell (p := ⟨b, off + (4 * k + 1), none⟩) hb).trans (hc (4 * k + 1) (by omega))
      have hx2 := (hB.cell (p := ⟨b, off + (4 * k + 2), none⟩) hb).trans (hc (4 * k + 2) (by omega))
      have hx3 := (hB.cell (p := ⟨b, off + (4 * k + 3), none⟩) hb).trans (hc (4 * k + 3) (by omega))
      obtain ⟨hy, hz⟩ := hC k (by omega)
      obtain ⟨w2, hw2⟩ : ∃ w2, wr.drew = w2 := ⟨_, rfl⟩
      have hx0 : w2.cell? ⟨b, off + 4 * k, none⟩ = some (.int .u8 (g (4 * k))) := by rw [← hw2]; exact hx0
      have hx1 : w2.cell? ⟨b, off + (4 * k + 1), none⟩ = some (.int .u8 (g (4 * k + 1))) := by rw [← hw2]; exact hx1
      have hx2 : w2.cell? ⟨b, off + (4 * k + 2), none⟩ = some (.int .u8 (g (4 * k + 2))) := by rw [← hw2]; exact hx2
      have hx3 : w2.cell? ⟨b, off + (4 * k + 3), none⟩ = some (.int .u8 (g (4 * k + 3))) := by rw [← hw2]; exact hx3
      have hy : w2.cell? ⟨w.heap.size, k, none⟩ = some (.int .u32 (if k < k then w16 g k else 0)) := by rw [← hw2]; exact hy
      have hz : w2.frozen? ⟨w.heap.size, k, none⟩ = false := by rw [← hw2]; exact hz
      have e0 : IntKind.i64.wrap (4 * (k : Int)) = 4 * (k : Int) := iw _ (by omega)
      have e1 : IntKind.i64.wrap (4 * (k : Int) + 1) = 4 * (k : Int) + 1 := iw _ (by omega)
      have e2 : IntKind.i64.wrap (4 * (k : Int) + 2) = 4 * (k : Int) + 2 := iw _ (by omega)
      have e3 : IntKind.i64.wrap (4 * (k : Int) + 3) = 4 * (k : Int) + 3 := iw _ (by omega)
      have p0 : (0 : Int) ≤ 4 * (k : Int) := by omega
      have p1 : (0 : Int) ≤ 4 * (k : Int) + 1 := by omega
      have p2 : (0 : Int) ≤ 4 * (k : Int) + 2 := by omega
      have p3 : (0 : Int) ≤ 4 * (k : Int) + 3 := by omega
      have q0 : 4 * (k : Int) < 64 := by omega
      have q1 : 4 * (k : Int) + 1 < 64 := by omega
      have q2 : 4 * (k : Int) + 2 < 64 := by omega
      have q3 : 4 * (k : Int) + 3 < 64 := by omega
      have n0 : (4 * (k : Int)).toNat = 4 * k := by omega
      have n1 : (4 * (k : Int) + 1).toNat = 4 * k + 1 := by omega
      have n2 : (4 * (k : Int) + 2).toNat = 4 * k + 2 := by omega
      have n3 : (4 * (k : Int) + 3).toNat = 4 * k + 3 := by omega
      go_wp2
      refine wp_region_still_tail 34 (by kernel_rfl) (by kernel_rfl) ?_
      simp only [List.take_succ_cons, List.take_zero, List.drop_succ_cons, List.drop_zero]
      change wpStill _ _ wr.drew (fun a' => wpList _ _ _ _ a' wr.drew) _ _
      rw [hw2]
      repeat still_step
      refine wpStill_nil ?_
      go_wp2
      go_roundw
      case measure => simp [intOf]; omega
      case rel =>
        refine ⟨k + 1, by omega, by go_num, ?_⟩
        rw [← hw2]
        refine ⟨hB.drew.setCell (Nat.le_refl _) _, by simpa using hs, ((show Cells wr.drew _ _ _ from hC).set _).congr fun j hj => ?_⟩
        by_cases h1 : j = k
        · subst h1
          simp [w16, four]
        · simp only [h1, if_false]
          by_cases h2 : j < k
          · simp [h2, show j < k + 1 by omega]
          · simp [h2, show ¬ j < k + 1 by omega]
    · obtain rfl : k = 16 := by omega
      go_wp2
      clear hc
      have hC : Cells wr w.heap.size 64 (fun j => if j < 16 then ws g j else 0) := hC.congr fun j hj => by
        by_cases h2 : j < 16
        · simp [h2, ws_lt h2]
        · simp [h2]
      have h16 : 16 ≤ 16 := Nat.le_refl _
      go_loopw [5] (fun i wr => ∃ k : Nat, 16 ≤ k ∧ k ≤ 64 ∧ i = .int .i64 k ∧ Below w.heap.size w wr ∧ w.heap.size < wr.heap.size ∧ Cells wr w.heap.size 64 (fun j => if j < k then ws g j else 0)) (fun i _ => 64 - (intOf i).toNat)
      case atStart => exact ⟨16, by omega, by omega, rfl, hB, hs, hC⟩
      case round =>
        clear hB hs hC
        obtain ⟨k, hk16, hk, rfl, hB, hs, hC⟩ := hrel
        by_cases hlt : k < 64
        · obtain ⟨ha, _⟩ := hC (k - 16) (by omega)
          obtain ⟨hb', _⟩ := hC (k - 15) (by omega)
          obtain ⟨hc', _⟩ := hC (k - 7) (by omega)
          obtain ⟨hd', _⟩ := hC (k - 2) (by omega)
          obtain ⟨hy, hz⟩ := hC k hlt
          dsimp only at ha hb' hc' hd' hy
          rw [if_pos (show k - 16 < k by omega)] at ha
          rw [if_pos (show k - 15 < k by omega)] at hb'
          rw [if_pos (show k - 7 < k by omega)] at hc'
          rw [if_pos (show k - 2 < k by omega)] at hd'
          rw [if_neg (show ¬ k < k by omega)] at hy
          obtain ⟨va, hva⟩ : ∃ x, ws g (k - 16) = x := ⟨_, rfl⟩
          obtain ⟨vb, hvb⟩ : ∃ x, ws g (k - 15) = x := ⟨_, rfl⟩
          obtain ⟨vc, hvc⟩ : ∃ x, ws g (k - 7) = x := ⟨_, rfl⟩
          obtain ⟨vd, hvd⟩ : ∃ x, ws g (k - 2) = x := ⟨_, rfl⟩
          have hws := Aside0.mk (ws_ge (g := g) (j := k) (by omega))
          rw [hva] at ha hws
          rw [hvb] at hb' hws
          rw [hvc] at hc' hws
          rw [hvd] at hd' hws
          clear hva hvb hvc hvd
          have e0 : IntKind.i64.wrap ((k : Int) - 16) = (k : Int) - 16 := iw _ (by omega)
          have e1 : IntKind.i64.wrap ((k : Int) - 15) = (k : Int) - 15 := iw _ (by omega)
          have e2 : IntKind.i64.wrap ((k : Int) - 7) = (k : Int) - 7 := iw _ (by omega)
          have e3 : IntKind.i64.wrap ((k : Int) - 2) = (k : Int) - 2 := iw _ (by omega)
          have p0 : (0 : Int) ≤ (k : Int) - 16 := by omega
          have p1 : (0 : Int) ≤ (k : Int) - 15 := by omega
          have p2 : (0 : Int) ≤ (k : Int) - 7 := by omega
          have p3 : (0 : Int) ≤ (k : Int) - 2 := by omega
          have q0 : (k : Int) - 16 < 64 := by omega
          have q1 : (k : Int) - 15 < 64 := by omega
          have q2 : (k : Int) - 7 < 64 := by omega
          have q3 : (k : Int) - 2 < 64 := by omega
          have r0 : (16 : Int) ≤ (k : Int) := by omega
          have r1 : (15 : Int) ≤ (k : Int) := by omega
          have r2 : (7 : Int) ≤ (k : Int) := by omega
          have r3 : (2 : Int) ≤ (k : Int) := by omega
          have n0 : ((k : Int) - 16).toNat = k - 16 := by omega
          have n1 : ((k : Int) - 15).toNat = k - 15 := by omega
          have n2 : ((k : Int) - 7).toNat = k - 7 := by omega
          have n3 : ((k : Int) - 2).toNat = k - 2 := by omega
          go_wp2
          go_quiet (fail)
          go_wp2_with (go_at_call 130; refine (rt_calls _ _ _ (by rfl) (by decide)).mono ?_; rintro e w' ⟨rfl, rfl⟩)
          obtain ⟨w2, hw2⟩ : ∃ w2, (wr.drewN nq).drew = w2 := ⟨_, rfl⟩
          have hbk : w2.heap[w.heap.size]? = wr.heap[w.heap.size]? := by rw [← hw2]; rfl
          have ha := (World.cell?_of_block (w := wr) (w' := w2) (a := ⟨w.heap.size, k - 16, none⟩) hbk).trans ha
          have hc' := (World.cell?_of_block (w := wr) (w' := w2) (a := ⟨w.heap.size, k - 7, none⟩) hbk).trans hc'
          have hy := (World.cell?_of_block (w := wr) (w' := w2) (a := ⟨w.heap.size, k, none⟩) hbk).trans hy
          have hz := (World.frozen?_of_block (w := wr) (w' := w2) (a := ⟨w.heap.size, k, none⟩) hbk).trans hz
          refine wp_region_still_tail 14 (by kernel_rfl) (by kernel_rfl) ?_
          simp only [List.take_succ_cons, List.take_zero, List.drop_succ_cons, List.drop_zero]
          change wpStill _ _ (wr.drewN nq).drew (fun a' => wpList _ _ _ _ a' (wr.drewN nq).drew) _ _
          rw [hw2]
          repeat still_step
          refine wpStill_nil ?_
          go_wp2
          go_roundw
          case measure => simp [intOf]; omega
          case rel =>
            repeat apply Exists.intro
            refine ⟨?_, rfl⟩
            refine ⟨k + 1, by omega, by omega, by go_num, ?_⟩
            rw [← hw2]
            have hB2 : Below w.heap.size w (wr.drewN nq).drew := ⟨hB.os, hB.tape, hB.output, hB.size, hB.block⟩
            refine ⟨hB2.setCell (Nat.le_refl _) _, by simpa using hs, ((show Cells (wr.drewN nq).drew _ _ _ from hC).set _).congr fun j hj => ?_⟩
            by_cases h1 : j = k
            · subst h1
              rw [if_pos rfl, if_pos (by omega), hws.out]
              rfl
            · simp only [h1, if_false]
              by_cases h2 : j < k
              · simp [h2, show j < k + 1 by omega]
              · simp [h2, show ¬ j < k + 1 by omega]
        · obtain rfl : k = 64 := by omega
          go_wp2
          go_ret
          exact ⟨rfl, hB, hs, hC.congr fun j hj => by simp [hj]⟩
end Go.Proofs.Ytmkhhnfmahdijaa.Sha

/- The turning of a digest's words by a block. Plain contracts of given functions, by hand. -/
namespace Go.Proofs.Ytmkhhnfmahdijaa.Sha
open Go.RowKit Go.Proofs.YtmkhhnfmahdijaaW.PrintWords Go.Proofs.YtmkhhnfmahdijaaW.PrintLast Go.Proofs.YtmkhhnfmahdijaaW.PrintMore
set_option linter.unusedVariables false
/-- Below n, but for block B, the world is as it was. -/
structure Off (n B : Nat) (a w : World) : Prop where
  os : w.os = a.os
  tape : w.tape = a.tape
  output : w.output = a.output
  size : a.heap.size ≤ w.heap.size
  block : ∀ k, k < n → k ≠ B → w.heap[k]? = a.heap[k]?
theorem Off.of {n B : Nat} {a w : World} (h : Below n a w) : Off n B a w := ⟨h.os, h.tape, h.output, h.size, fun k hk _ => h.block k hk⟩
theorem Off.below {n B n0 : Nat} {a w : World} (h : Off n B a w) (h0 : n0 ≤ n) (hB : n0 ≤ B) : Below n0 a w := ⟨h.os, h.tape, h.output, h.size, fun k hk => h.block k (by omega) (by omega)⟩
theorem Off.trans {n B : Nat} {a b c : World} (h : Off n B a b) (k : Off n B b c) : Off n B a c := ⟨k.os.trans h.os, k.tape.trans h.tape, k.output.trans h.output, Nat.le_trans h.size k.size, fun i hi hB => (k.block i hi hB).trans (h.block i hi hB)⟩
theorem Off.mono {n n' B : Nat} {a w : World} (h : Off n B a w) (hn : n' ≤ n) : Off n' B a w := ⟨h.os, h.tape, h.output, h.size, fun k hk => h.block k (by omega)⟩
theorem Off.set {n B : Nat} {a w : World} (h : Off n B a w) (p : Addr) (u : Value) (hp : p.block = B ∨ n ≤ p.block) : Off n B a (w.setCell p u) :=
  h.trans ⟨rfl, rfl, rfl, by simp [World.setCell], fun k hk hB => Below.heap_setCell _ _ _ _ (by omega)⟩
theorem Cells.off {W W' : World} {n B C m : Nat} {f : Nat → Int} (h : Cells W C m f) (o : Off n B W W') (hC : C < n) (hB : C ≠ B) : Cells W' C m f := h.of (o.block C hC hB)
theorem Cells.below {W W' : World} {n C m : Nat} {f : Nat → Int} (h : Cells W C m f) (o : Below n W W') (hC : C < n) : Cells W' C m f := h.of (o.block C hC)
def tA (e : Int) : Int := Go.bits .xor .u32 (Go.bits .xor .u32 (rt (-6) e) (rt (-11) e)) (rt (-25) e)
def tB (a : Int) : Int := Go.bits .xor .u32 (Go.bits .xor .u32 (rt (-2) a) (rt (-13) a)) (rt (-22) a)
def ch (e f g : Int) : Int := Go.bits .xor .u32 (Go.bits .and .u32 e f) (Go.bits .and .u32 (Go.bits .xor .u32 IntKind.u32.max e) g)
def maj (a b c : Int) : Int := Go.bits .xor .u32 (Go.bits .xor .u32 (Go.bits .and .u32 a b) (Go.bits .and .u32 a c)) (Go.bits .and .u32 b c)
def t1 (v : Nat → Int) (k x : Int) : Int := v 7 + tA (v 4) + ch (v 4) (v 5) (v 6) + k + x
/-- One round. -/
def step (v : Nat → Int) (k x : Int) : Nat → Int
  | 0 => (t1 v k x + tB (v 0) + maj (v 0) (v 1) (v 2)) % 4294967296
  | 1 => v 0
  | 2 => v 1
  | 3 => v 2
  | 4 => (v 3 + t1 v k x) % 4294967296
  | 5 => v 4
  | 6 => v 5
  | _ => v 6
def run (h K W : Nat → Int) : Nat → Nat → Int
  | 0 => h
  | n + 1 => step (run h K W n) (K n) (W n)
def turn (h g K : Nat → Int) (j : Nat) : Int := (h j + run h K (ws g) 64 j) % 4294967296
set_option maxHeartbeats 8000000 in
set_option maxRecDepth 100000 in
theorem turn_calls (Bh Bk b off cap : Nat) (h g K : Nat → Int) (w : World) (hb : b < w.heap.size) (hh : Bh < w.heap.size) (hk : Bk < w.heap.size) (hhb : b ≠ Bh) (hhk : Bk ≠ Bh)
    (hc : ∀ j, j < 64 → w.cell? ⟨b, off + j, none⟩ = some (.int .u8 (g j))) (hH : Cells w Bh 8 h) (hK : Cells w Bk 64 K) :
    Calls Try.prog 107 #[.pointer (some ⟨Bh, 0, none⟩), .slice (some ⟨b, off, none⟩) 64 cap, .pointer (some ⟨Bk, 0, none⟩)] w fun e w' => (∃ v, e = .returned v) ∧ Off w.heap.size Bh w w' ∧ Cells w' Bh 8 (turn h g K) := by
  go_enter Try.func107, Try.ntmps107
  have hsz : Hid (w.heap.size = w.heap.size) := rfl
  go_wp2_with (go_at_call 129; refine (words_calls b off cap g w hb hc).mono ?_; rintro e w1 ⟨rfl, hB1, hs1, hW⟩; have hH1 := hH.below hB1 hh; have hK1 := hK.below hB1 hk; obtain ⟨h0, h0'⟩ := hH1 0 (by omega); obtain ⟨h1, h1'⟩ := hH1 1 (by omega); obtain ⟨h2, h2'⟩ := hH1 2 (by omega); obtain ⟨h3, h3'⟩ := hH1 3 (by omega); obtain ⟨h4, h4'⟩ := hH1 4 (by omega); obtain ⟨h5, h5'⟩ := hH1 5 (by omega); obtain ⟨h6, h6'⟩ := hH1 6 (by omega); obtain ⟨h7, h7'⟩ := hH1 7 (by omega))
  clear hsz h0 h0' h1 h1' h2 h2' h3 h3' h4 h4' h5 h5' h6 h6' h7 h7' hc
  obtain ⟨n1, hn1⟩ : ∃ n1, w1.heap.size = n1 := ⟨_, rfl⟩
  rw [hn1] at hs1
  simp only [hn1]
  have hV0 : Cells (w1.alloc (Obj.cells #[Value.int IntKind.u32 (h 0), Value.int IntKind.u32 (h 1), Value.int IntKind.u32 (h 2), Value.int IntKind.u32 (h 3), Value.int IntKind.u32 (h 4), Value.int IntKind.u32 (h 5), Value.int IntKind.u32 (h 6), Value.int IntKind.u32 (h 7)] 97)) n1 8 h := by
    rw [← hn1]
    refine Cells.alloc fun j hj => ?_
    match j, hj with
    | 0, _ => rfl
    | 1, _ => rfl
    | 2, _ => rfl
    | 3, _ => rfl
    | 4, _ => rfl
    | 5, _ => rfl
    | 6, _ => rfl
    | 7, _ => rfl
  obtain ⟨w2, hw2⟩ : ∃ w2, w1.alloc (Obj.cells #[Value.int IntKind.u32 (h 0), Value.int IntKind.u32 (h 1), Value.int IntKind.u32 (h 2), Value.int IntKind.u32 (h 3), Value.int IntKind.u32 (h 4), Value.int IntKind.u32 (h 5), Value.int IntKind.u32 (h 6), Value.int IntKind.u32 (h 7)] 97) = w2 := ⟨_, rfl⟩
  have hB2 : Below n1 w1 w2 := by rw [← hw2]; exact (Below.refl _ _).alloc (by omega) _
  have hs2 : n1 < w2.heap.size := by rw [← hw2, World.size_alloc]; omega
  rw [hw2] at hV0 ⊢
  clear hw2
  go_loopw [22] (fun i wr => ∃ k : Nat, k ≤ 64 ∧ i = .int .i64 k ∧ Below n1 w1 wr ∧ n1 < wr.heap.size ∧ Cells wr n1 8 (run h K (ws g) k)) (fun i _ => 64 - (intOf i).toNat)
  case atStart => exact ⟨0, by omega, rfl, hB2, hs2, hV0⟩
  case round =>
    clear hB2 hs2 hV0
    obtain ⟨k, hk64, rfl, hB, hs, hV⟩ := hrel
    by_cases hlt : k < 64
    · obtain ⟨ck, _⟩ := (hK1.below hB (by omega)) k hlt
      obtain ⟨cw, _⟩ := (hW.below hB (by omega)) k hlt
      have hst : Hid (run h K (ws g) (k + 1) = step (run h K (ws g) k) (K k) (ws g k)) := rfl
      obtain ⟨v, hv⟩ : ∃ v, run h K (ws g) k = v := ⟨_, rfl⟩
      obtain ⟨kk, hkk⟩ : ∃ v, K k = v := ⟨_, rfl⟩
      obtain ⟨ww, hww⟩ : ∃ v, ws g k = v := ⟨_, rfl⟩
      rw [hv, hkk, hww] at hst
      rw [hv] at hV
      rw [hkk] at ck
      rw [hww] at cw
      clear hv hkk hww
      obtain ⟨c0, z0⟩ := hV 0 (by omega)
      obtain ⟨c1, z1⟩ := hV 1 (by omega)
      obtain ⟨c2, z2⟩ := hV 2 (by omega)
      obtain ⟨c3, z3⟩ := hV 3 (by omega)
      obtain ⟨c4, z4⟩ := hV 4 (by omega)
      obtain ⟨c5, z5⟩ := hV 5 (by omega)
      obtain ⟨c6, z6⟩ := hV 6 (by omega)
      obtain ⟨c7, z7⟩ := hV 7 (by omega)
      have hB' := Aside0.mk hB
      have hs' := Aside0.mk hs
      clear hB hs
      have hlt' : (k : Int) < 64 := by omega
      go_wp2
      go_quiet (fail)
      generalize nq = na
      go_wp2_with (go_at_call 130; refine (rt_calls _ _ _ (by rfl) (by decide)).mono ?_; rintro e w' ⟨rfl, rfl⟩)
      go_quiet (fail)
      go_wp2_with (go_at_call 130; refine (rt_calls _ _ _ (by rfl) (by decide)).mono ?_; rintro e w' ⟨rfl, rfl⟩)
      go_roundw
      case measure => simp [intOf]; omega
      case rel =>
        have hV2 : Cells (wr.drewN (na + nq)) n1 8 v := hV
        refine ⟨k + 1, by omega, by go_num, ?_⟩
        have hB3 : Below n1 w1 (wr.drewN (na + nq)) := ⟨hB'.out.os, hB'.out.tape, hB'.out.output, hB'.out.size, hB'.out.block⟩
        refine ⟨?_, ?_, ?_⟩
        · exact (((((((hB3.setCell (Nat.le_refl _) _).setCell (Nat.le_refl _) _).setCell (Nat.le_refl _) _).setCell (Nat.le_refl _) _).setCell (Nat.le_refl _) _).setCell (Nat.le_refl _) _).setCell (Nat.le_refl _) _).setCell (Nat.le_refl _) _
        · simp only [World.size_setCell]; exact hs'.out
        · rw [hst.out]
          refine ((((((((hV2.set _).set _).set _).set _).set _).set _).set _).set _).congr fun j hj => ?_
          match j, hj with
          | 0, _ => rfl
          | 1, _ => rfl
          | 2, _ => rfl
          | 3, _ => rfl
          | 4, _ => rfl
          | 5, _ => rfl
          | 6, _ => rfl
          | 7, _ => rfl
    · obtain rfl : k = 64 := by omega
      obtain ⟨v, hv⟩ : ∃ v, run h K (ws g) 64 = v := ⟨_, rfl⟩
      have hT := Aside0.mk (show ∀ j, turn h g K j = (h j + v j) % 4294967296 from fun j => by rw [← hv]; rfl)
      rw [hv] at hV
      clear hv hlt hk64
      go_wp2
      go_loopw [109] (fun i wr => ∃ k : Nat, k ≤ 8 ∧ i = .int .i64 k ∧ Off n1 Bh w1 wr ∧ n1 < wr.heap.size ∧ Cells wr n1 8 v ∧ Cells wr Bh 8 (fun j => if j < k then turn h g K j else h j)) (fun i _ => 8 - (intOf i).toNat)
      case atStart => exact ⟨0, by omega, rfl, Off.of hB, hs, hV, (hH1.below hB (by omega)).congr fun j hj => by simp⟩
      case round =>
        clear hB hs hV
        obtain ⟨k, hk8, rfl, hO, hs, hV, hC⟩ := hrel
        by_cases hlt : k < 8
        · obtain ⟨ca, _⟩ := hV k hlt
          obtain ⟨cb, zb⟩ := hC k hlt
          dsimp only at cb
          rw [if_neg (by omega)] at cb
          have hTk := Aside0.mk (hT.out k)
          obtain ⟨va, hva⟩ : ∃ x, v k = x := ⟨_, rfl⟩
          obtain ⟨vb, hvb⟩ : ∃ x, h k = x := ⟨_, rfl⟩
          rw [hva] at ca hTk
          rw [hvb] at cb hTk
          clear hva hvb
          obtain ⟨w2, hw2⟩ : ∃ w2, wr.drew = w2 := ⟨_, rfl⟩
          have ca : w2.cell? ⟨n1, k, none⟩ = some (.int .u32 va) := by rw [← hw2]; exact ca
          have cb : w2.cell? ⟨Bh, k, none⟩ = some (.int .u32 vb) := by rw [← hw2]; exact cb
          have zb : w2.frozen? ⟨Bh, k, none⟩ = false := by rw [← hw2]; exact zb
          have hlt' : (k : Int) < 8 := by omega
          go_wp2
          refine wp_region_still_tail 11 (by kernel_rfl) (by kernel_rfl) ?_
          simp only [List.take_succ_cons, List.take_zero, List.drop_succ_cons, List.drop_zero]
          change wpStill _ _ wr.drew (fun a' => wpList _ _ _ _ a' wr.drew) _ _
          rw [hw2]
          repeat still_step
          refine wpStill_nil ?_
          go_wp2
          go_roundw
          case measure => simp [intOf]; omega
          case rel =>
            repeat apply Exists.intro
            refine ⟨?_, rfl⟩
            rw [← hw2]
            have hO2 : Off n1 Bh w1 wr.drew := ⟨hO.os, hO.tape, hO.output, hO.size, hO.block⟩
            refine ⟨k + 1, by omega, by go_num, hO2.set _ _ (.inl rfl), by simpa using hs, ?_, ?_⟩
            · exact (show Cells wr.drew n1 8 v from hV).of (Below.heap_setCell _ _ _ _ (by show n1 ≠ Bh; omega))
            · refine ((show Cells wr.drew _ _ _ from hC).set _).congr fun j hj => ?_
              by_cases h1 : j = k
              · subst h1
                rw [if_pos rfl, if_pos (by omega), hTk.out]
              · simp only [h1, if_false]
                by_cases h2 : j < k
                · simp [h2, show j < k + 1 by omega]
                · simp [h2, show ¬ j < k + 1 by omega]
        · obtain rfl : k = 8 := by omega
          go_wp2
          go_end0
          exact ⟨⟨_, rfl⟩, (Off.of hB1).trans (hO.mono (by omega)), hC.congr fun j hj => by simp [hj]⟩
end Go.Proofs.Ytmkhhnfmahdijaa.Sha
