/- Shared by the claims on digests: the walks of the given functions rounds, wordsOf, turnBlock, Chunk, Digest. No conditions beyond those that each theorem names. -/
import Derived.RangeFuncNested
import Derived.RangeFuncBound
import Derived.RangeFuncBox
import Derived.RangeFuncCalls
import Derived.RangeFuncLeaves
import Derived.Shelf.Abstract
import Derived.Shelf.RegionOpen
import Derived.WalkKit
import Derived.OwnWalkIn
import Derived.TacticsInMore
import Derived.LoopNIn
import Derived.LoopIn
import Derived.RegionIn
import Derived.BigRegionIn
import Derived.Test.YtmkhhnfmahdijaaCBase0
/- slices.Chunk over whole pieces of 64 bytes: its contract as an iterator, by hand. -/
namespace Go.Proofs.Ytmkhhnfmahdijaa.Sha
open Go.RowKit Go.Shelf
set_option linter.unusedVariables false
attribute [local go_sem] Oper.semAt_some
def upto {α : Type} (f : Nat → α) (k : Nat) : List α := (List.range k).map f
theorem upto_succ {α : Type} (f : Nat → α) (k : Nat) : upto f (k + 1) = upto f k ++ [f k] := by simp [upto, List.range_succ]
theorem upto_length {α : Type} (f : Nat → α) (k : Nat) : (upto f k).length = k := by simp [upto]
def first (m k : Nat) : List (Fin m) := (List.finRange m).take k
theorem first_length {m k : Nat} (h : k ≤ m) : (first m k).length = k := by simp [first]; omega
theorem first_succ {m k : Nat} (h : k < m) : first m (k + 1) = first m k ++ [⟨k, h⟩] := by
  unfold first
  rw [List.take_add_one]
  congr 1
  rw [List.getElem?_eq_getElem (by simpa using h)]
  simp
theorem first_all (m : Nat) : first m m = List.finRange m := by unfold first; rw [List.take_of_length_le (by simp)]
theorem first_map (m : Nat) : (first m m).map Fin.val = List.range m := by
  rw [first_all]
  apply List.ext_getElem
  · simp
  · intro i h1 h2
    simp
/-- The piece of number x. -/
def piece (b off : Nat) (x : Nat) : Array Value := #[.slice (some ⟨b, off + 64 * x, none⟩) 64 64]
set_option maxRecDepth 100000 in
set_option maxHeartbeats 4000000 in
theorem chunk1_in (F : Fence) (n : Nat) (h7 : F.fn 128) (hro : F.round = none) (hn : 1 ≤ n) (l Bs Bn n₀ H b off cap m : Nat) (hcap : 64 * m ≤ cap) (hm : 64 * m ≤ 140737488351232) (hBs : Bs < n₀) (hBn : Bn < n₀) (hBsH : Bs ≠ H) (hBnH : Bn ≠ H) (J Jx : List (Fin m) → World → Prop) (hJd : ∀ s W, J s W → J s W.drew)
    (hY : ∀ pre x W, J pre W → pre.length < m → YieldAt F (n - 1) Try.prog l (piece b off x.1) W fun e W' =>
      (e = .returned (.bool true) ∧ J (pre ++ [x]) W' ∧ Off n₀ H W W') ∨ (e = .returned (.bool false) ∧ Jx (pre ++ [x]) W'))
    (W : World) (hs : W.cell? ⟨Bs, 0, none⟩ = some (.slice (some ⟨b, off, none⟩) (64 * m) cap)) (hnn : W.cell? ⟨Bn, 0, none⟩ = some (.int .i64 64)) (h0 : J [] W) :
    CallsIn F n Try.prog 128 #[.func (.yield l) #[] #[], .pointer (some ⟨Bs, 0, none⟩), .pointer (some ⟨Bn, 0, none⟩)] W fun e W' => (∃ v, e = .returned v) ∧
      ((∃ ys, ys = first m m ∧ J ys W') ∨ (∃ pre, (∃ k, pre = first m k) ∧ Jx pre W')) := by
  refine callsIn_of_wp Try.func128 rfl h7 ?_ hro
  simp only [Try.ntmps128, List.size_toArray, List.length_cons, List.length_nil, Nat.reduceAdd, Nat.reduceSub, Array.replicate_succ, Array.replicate_zero, List.push_toArray, List.append_toArray, List.nil_append, List.cons_append]
  gi_wp2
  gi_loopw [4] (fun i wr => ∃ k : Nat, k ≤ m ∧ i = .int .i64 ((64 * k : Nat) : Int) ∧ J (first m k) wr ∧ Off n₀ H W wr)
    (fun i _ => 64 * m - (intOf i).toNat)
  case atStart => exact ⟨0, Nat.zero_le _, rfl, h0, Off.of (Below.refl _ _)⟩
  case round =>
    obtain ⟨k, hk, rfl, hJs, hO⟩ := hrel
    have hs' := (World.cell?_of_block (w := W) (w' := wr) (a := ⟨Bs, 0, none⟩) (hO.block Bs hBs hBsH)).trans hs
    have hn' := (World.cell?_of_block (w := W) (w' := wr) (a := ⟨Bn, 0, none⟩) (hO.block Bn hBn hBnH)).trans hnn
    by_cases hlt : k < m
    · obtain ⟨fn, tmps, assign, body, hy, hR⟩ := hY _ ⟨k, hlt⟩ wr.drew (hJd _ _ hJs) (by rw [first_length hk]; exact hlt)
      dsimp only [piece] at hy
      have hlt' : ((64 * k : Nat) : Int) < ((64 * m : Nat) : Int) := by omega
      have hle' : ((64 * k : Nat) : Int) ≤ ((64 * m : Nat) : Int) := by omega
      have hnk : (((64 * k : Nat) : Int)).toNat = 64 * k := by omega
      gi_wp2
      gi_region
      all_goals
        gi_wp2
        refine hR.mono ?_
        rintro e W3 (⟨rfl, hJ3, hk3⟩ | ⟨rfl, hJx3⟩)
        · have hn3 := (World.cell?_of_block (w := wr) (w' := W3) (a := ⟨Bn, 0, none⟩) (hk3.block Bn hBn hBnH)).trans hn'
          gi_wp2
          go_roundw
          case rel =>
            refine ⟨k + 1, by omega, by first | go_num | (congr 1; omega) | simp, by rw [first_succ hlt]; exact hJ3, ?_⟩
            exact hO.trans ⟨hk3.os, hk3.tape, hk3.output, hk3.size, hk3.block⟩
          case measure => simp [intOf]; omega
        · gi_wp2
          refine bodyPost_ret (results_none rfl _ _ _) rfl ?_
          exact ⟨⟨_, rfl⟩, .inr ⟨_, ⟨k + 1, (first_succ hlt).symm⟩, hJx3⟩⟩
    · obtain rfl : k = m := by omega
      gi_wp2
      go_end0
      exact ⟨⟨_, rfl⟩, .inl ⟨_, rfl, hJs⟩⟩
set_option maxHeartbeats 4000000 in
theorem chunk_in (F : Fence) (n : Nat) (h5 : F.fn 106) (hro : F.round = none) (b off len cap : Nat) (w : World) :
    CallsIn F n Try.prog 106 #[.slice (some ⟨b, off, none⟩) len cap, .int .i64 64] w fun e w' => e = .returned (.func (.func 128) #[] #[.pointer (some ⟨w.heap.size, 0, none⟩), .pointer (some ⟨w.heap.size + 1, 0, none⟩)]) ∧
      w' = (w.alloc (.cells #[.slice (some ⟨b, off, none⟩) len cap] 27)).alloc (.cells #[.int .i64 64] 3) := by
  refine callsIn_of_wp Try.func106 rfl h5 ?_ hro
  simp only [Try.ntmps106, List.size_toArray, List.length_cons, List.length_nil, Nat.reduceAdd, Nat.reduceSub, Array.replicate_succ, Array.replicate_zero, List.push_toArray, List.append_toArray, List.nil_append, List.cons_append]
  gi_wp2
  go_ret
  exact ⟨rfl, rfl⟩
/-- slices.Chunk(s, 64), s of 64 m bytes: what it hands back yields the m pieces in order; a round may turn block H. -/
theorem chunk_stops (F : Fence) (n : Nat) (h7 : F.fn 128) (hro : F.round = none) (hn : 1 ≤ n) (Bs Bn n₀ H b off cap m : Nat) (hcap : 64 * m ≤ cap) (hm : 64 * m ≤ 140737488351232) (hBs : Bs < n₀) (hBn : Bn < n₀) (hBsH : Bs ≠ H) (hBnH : Bn ≠ H) (w : World) (hn₀ : n₀ ≤ w.heap.size)
    (hs : w.cell? ⟨Bs, 0, none⟩ = some (.slice (some ⟨b, off, none⟩) (64 * m) cap)) (hnn : w.cell? ⟨Bn, 0, none⟩ = some (.int .i64 64)) :
    SeqStopsK F n Try.prog 128 #[.pointer (some ⟨Bs, 0, none⟩), .pointer (some ⟨Bn, 0, none⟩)] (fun x : Fin m => piece b off x.1) (Off n₀ H) (fun ys => ys = first m m) (fun pre => ∃ k, pre = first m k) m w := fun l J Jx W hW hJ hJx hY h0 =>
  chunk1_in F n h7 hro hn l Bs Bn n₀ H b off cap m hcap hm hBs hBn hBsH hBnH J Jx
    (fun s W h => hJ s W W.drew none h ⟨rfl, rfl, rfl, Nat.le_refl _, fun _ _ _ => rfl⟩ (fun r e => by cases e)) hY W ((hW.cell (by show Bs < _; omega)).trans hs) ((hW.cell (by show Bn < _; omega)).trans hnn) h0
end Go.Proofs.Ytmkhhnfmahdijaa.Sha
