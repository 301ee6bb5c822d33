/- The law FnExactCheckGrow, as a plain statement: the program's CheckGrow answers as the reference's, and leaves its argument alone. Conditions: those of the row's reading alone. -/
/- Part 9 of 10 of this claim's texts. -/
import Derived.Test.YtmkhhnfmahdijaaWWords
import Derived.Deep.Slices
import Derived.ChangeArms
import Derived.WideShapes
import Derived.DataReads
import Derived.Test.YtmkhhnfmahdijaaRows
import Derived.WalkKit
import Derived.ProofKit
import Derived.Test.YtmkhhnfmahdijaaCBase0
import Derived.Test.YtmkhhnfmahdijaaCFnExactCheckGrow3
import Derived.Test.YtmkhhnfmahdijaaCFnExactCheckGrow6
import Derived.Test.YtmkhhnfmahdijaaCFnExactCheckGrow7
namespace Go.Proofs.Ytmkhhnfmahdijaa.X
open Go.RowKit Go.Proofs.YtmkhhnfmahdijaaW.PrintWords Go.Proofs.YtmkhhnfmahdijaaW.PrintLast Go.Proofs.YtmkhhnfmahdijaaW.PrintMore
attribute [local go_sem] max2_int min2_int max_two min_two max_three min_three max_four min_four   -- for this text's walks alone
set_option linter.unusedVariables false
set_option linter.unusedSimpArgs false

/-! ### impl_LeafHash: function 67 -/
def impl_LeafHash.f (k : Nat) (a0 : ByteArray) : Option (ByteArray) := (some (([0] : List Int) : List Int)).bind fun y724 => (if y724.length + a0.size < 140737488355328 then ((impl_Digest.f k (y724 ++ bytesOf a0)).bind fun t730 => (some t730)) else (none))
theorem impl_LeafHash.mono : ∀ a0 k, LeO (impl_LeafHash.f k a0) (impl_LeafHash.f (k + 1) a0) := by
  intro a0 k
  unfold impl_LeafHash.f
  repeat' first
      | (with_reducible exact impl_Digest.mono _ _)
      | (with_reducible exact LeO.refl _)
      | (with_reducible exact LeO.none _)
      | (with_reducible refine LeO.ite ?_ ?_)
      | (with_reducible refine LeO.bind ?_ (fun _ => ?_))
      | exact impl_Digest.mono _ _
      | exact LeO.none _
      | refine LeO.ite ?_ ?_
      | refine LeO.bind ?_ (fun _ => ?_)
set_option maxHeartbeats 8000000 in
set_option maxRecDepth 100000 in
theorem impl_LeafHash.calls (k : Nat) (a0 : ByteArray) (r : ByteArray) (w : World) (h : impl_LeafHash.f k a0 = some r) :
    Calls Try.prog 67 #[.string a0] w fun e w' => e = .returned (.string r) ∧ Below w.heap.size w w' := by
  have HB := Aside0.mk (Below.refl w.heap.size w)
  have H : ((some (([0] : List Int) : List Int)).bind fun y724 => (if y724.length + a0.size < 140737488355328 then ((impl_Digest.f k (y724 ++ bytesOf a0)).bind fun t730 => (some t730)) else (none))) = some r := h
  clear h
  obtain ⟨y724, hy724⟩ : ∃ y_ : List Int, y_ = (([0] : List Int)) := ⟨_, rfl⟩
  replace H : (if y724.length + a0.size < 140737488355328 then ((impl_Digest.f k (y724 ++ bytesOf a0)).bind fun t730 => (some t730)) else (none)) = some r := by first | (rw [hy724]; with_reducible exact H) | (have H2_ := (Option.bind_some _ _).symm.trans H; rw [hy724]; with_reducible exact H2_) | (have H2_ := (Option.bind_some _ _).symm.trans H; with_reducible exact H2_) | with_reducible exact H | (rw [hy724]; exact H) | exact H
  have Ny724 := Aside0.mk hy724
  clear hy724
  by_cases c2 : y724.length + a0.size < 140737488355328
  · rw [if_pos c2] at H
    have LMc2 := Aside0.mk c2
    clear c2
    obtain ⟨y727, hy727⟩ : ∃ y_ : List Int, y_ = (y724 ++ bytesOf a0) := ⟨_, rfl⟩
    replace H : ((impl_Digest.f k y727).bind fun t730 => (some t730)) = some r := by first | (rw [hy727]; with_reducible exact H) | (have H2_ := (Option.bind_some _ _).symm.trans H; rw [hy727]; with_reducible exact H2_) | (have H2_ := (Option.bind_some _ _).symm.trans H; with_reducible exact H2_) | with_reducible exact H | (rw [hy727]; exact H) | exact H
    have Ny727 := Aside0.mk hy727
    clear hy727
    replace H := Option.bind_eq_some_iff.mp H
    obtain ⟨t730, A30, H⟩ := H
    replace H : (some t730) = some r := H
    have A3 := Aside0.mk A30
    clear A30
    obtain rfl := Option.some.inj H
    go_enter Try.func67, Try.ntmps67
    go_wp2_with (first | ((with_reducible refine gate_dst (N := 3) rfl ?_); refine Kd.R_lit (Kd.int .u8) _ 5 ?hg (N := 3) ?hd (xs := ([0] : List Int)) (inner := [.int .u8 0]) (ok := fun _ => True) (okp := fun _ => True) ?hr ?hp (fun _ hk => hk) trivial (Below.refl _ _) (Nat.le_refl _) (by simp) ?_; (case hd => rfl); (case hg => rfl); (case hr => first | (go_simp; done) | (go_simp; rfl)); (case hp => exact (Reps.one (show Kd.M (Kd.int .u8) _ _ _ 0 [.int .u8 0] from rfl) (Reps.none _ _))); intro v725 w4 ho5 hb hg_ hnew_; clear hg_ hnew_; (first | rw [← Ny724.out] at ho5 | (simp only [Int.reduceToNat] at ho5; rw [← Ny724.out] at ho5)); have n0_ := Aside0.mk (Kd.R_lower ho5 (below_size (by repeat (first | (with_reducible first | exact HB.out | apply below_alloc | apply pw_below_drewN | apply below_drew1) | exact HB.out)))); have n1_ := Aside0.mk (below_step (by repeat (first | (with_reducible first | exact HB.out | apply below_alloc | apply pw_below_drewN | apply below_drew1) | exact HB.out)) hb); clear HB; have HO726 := n0_; have HB := n1_; clear n0_ n1_; clear hb ho5) | (at_builtin; refine Y.R_append_str (w0 := w) w.heap.size rfl (.tmp 3) _ 27 9 5 rfl Try.underlying27 Try.underlying9 info5 v725 y724 a0 (fun _ => True) rfl rfl ?aF ?aO ?aB ?aS ?aL ?_; (case aB => exact (by repeat (first | (with_reducible first | exact HB.out | apply below_alloc | apply pw_below_drewN | apply below_drew1) | exact HB.out))); (case aF => exact (fun _ _ => trivial)); (case aO => exact (by (with_reducible repeat (first | apply Kd.R_alloc | apply Kd.R_drewN | apply Kd.R_drew)); exact HO726.out)); (case aS => exact (below_size (by repeat (first | (with_reducible first | exact HB.out | apply below_alloc | apply pw_below_drewN | apply below_drew1) | exact HB.out)))); (case aL => have := LMc2.out; omega); intro v728 w6 ho hb hg hat; rw [← Ny727.out] at ho; have n0_ := Aside0.mk (hb); have n1_ := Aside0.mk (ho); clear HB; clear HO726; have HB := n0_; have HO729 := n1_; clear n0_ n1_; clear ho hb hg hat; obtain ⟨Ao7, co7, eo7⟩ := Kd.R_slice HO729.out; subst eo7) | ((with_reducible refine gate_callee (f := 72) rfl ?_); refine goesL_ (some 6) rfl rfl Try.func72 (by kernel_rfl) rfl #[.slice Ao7 y727.length co7] rfl (by (try simp only [List.map_toArray, List.map_cons, List.map_nil]); first | done | rfl | (simp only [List.length_drop, List.length_take]; rfl)) ?_; (with_reducible refine (impl_Digest.calls k _ _ y727 t730 _ ?side1 ?side2 A3.out).mono ?_); (case side1 => repeat (first | exact (Kd.R_reads' HO729.out).2.2 | (with_reducible refine Kd.C_alloc ?_ _) | (with_reducible refine Kd.C_drewN ?_ _) | (with_reducible refine Kd.C_drew ?_))); (case side2 => exact (Kd.R_reads' HO729.out).2.1); rintro e w8 ⟨rfl, hb⟩; refine ⟨_, rfl, ?_⟩; have n0_ := Aside0.mk (Kd.R_below (by (with_reducible repeat (first | apply Kd.R_alloc | apply Kd.R_drewN | apply Kd.R_drew)); exact HO729.out) hb); have n1_ := Aside0.mk (below_step (by repeat (first | (with_reducible first | exact HB.out | apply below_alloc | apply pw_below_drewN | apply below_drew1) | exact HB.out)) hb); clear HO729; clear HB; have HO729 := n0_; have HB := n1_; clear n0_ n1_; (try clear hb); (try clear hb2); (try clear hk); (try clear hi)))
    go_ret
    exact ⟨by first | rfl | (simp [errW_none, errW_some] <;> rfl) | (simp [*, errW_none, errW_some] <;> rfl), by repeat (first | (with_reducible first | exact HB.out | apply below_alloc | apply pw_below_drewN | apply below_drew1) | exact HB.out)⟩
  · rw [if_neg c2] at H
    exact absurd H (by simp)

end Go.Proofs.Ytmkhhnfmahdijaa.X

/- Leaves and nodes, the program's and the reference's: the same. Plain lemmas. -/
set_option linter.unusedVariables false
namespace Go.Proofs.Ytmkhhnfmahdijaa.Z
open Go.RowKit Go.Proofs.YtmkhhnfmahdijaaW.PrintWords Go.Proofs.YtmkhhnfmahdijaaW.PrintMore Go.Proofs.Ytmkhhnfmahdijaa.X

theorem bo_len (s : ByteArray) : (bytesOf s).length = s.size := bytesOf_length s
theorem bo_byte (s : ByteArray) : ∀ x ∈ bytesOf s, Byte x := by
  intro x hx
  unfold bytesOf at hx
  obtain ⟨b, _, rfl⟩ := List.mem_map.1 hx
  have := b.toNat_lt
  unfold Byte
  omega
theorem wf_byte {l : List Int} (h : ∀ x ∈ l, (Lit.int .u8 x).wf = true) : ∀ x ∈ l, Byte x := by
  intro x hx
  have h1 := h x hx
  simp [Lit.wf, IntKind.min, IntKind.max, IntKind.signed, IntKind.bits] at h1
  unfold Byte
  omega
def leaf (a : ByteArray) : ByteArray := dig ([0] ++ bytesOf a)
def node (a b : ByteArray) : ByteArray := dig (([1] ++ bytesOf a) ++ bytesOf b)
theorem leaf_size (a : ByteArray) : (leaf a).size = 32 := dig_size _
theorem node_size (a b : ByteArray) : (node a b).size = 32 := dig_size _
theorem specLeaf_ev (a : ByteArray) (h : a.size ≤ 10000000000) : Ev (fun k => spec_LeafHash.f k a) (leaf a) := by
  have hl := bo_len a
  unfold spec_LeafHash.f
  refine evC rfl (evT (by simp; omega) (evB (specDigest_ev _ (by simp; omega) ?_) (evR rfl)))
  intro x hx
  rcases List.mem_append.1 hx with h1 | h1
  · rw [List.mem_singleton.1 h1]; exact ⟨by omega, by omega⟩
  · exact bo_byte a x h1
theorem implLeaf_ev (a : ByteArray) (h : a.size ≤ 10000000000) : Ev (fun k => impl_LeafHash.f k a) (leaf a) := by
  have hl := bo_len a
  unfold impl_LeafHash.f
  exact evC rfl (evT (by simp; omega) (evB (implDigest_ev _ (by simp; omega)) (evR rfl)))
theorem specNode_ev (a b : ByteArray) (h : a.size ≤ 10000000000) (h' : b.size ≤ 10000000000) : Ev (fun k => spec_NodeHash.f k a b) (node a b) := by
  have hl := bo_len a
  have hl' := bo_len b
  unfold spec_NodeHash.f
  refine evC rfl (evT (by simp; omega) (evC rfl (evT (by simp; omega) (evB (specDigest_ev _ (by simp; omega) ?_) (evR rfl)))))
  intro x hx
  rcases List.mem_append.1 hx with h1 | h1
  · rcases List.mem_append.1 h1 with h2 | h2
    · rw [List.mem_singleton.1 h2]; exact ⟨by omega, by omega⟩
    · exact bo_byte a x h2
  · exact bo_byte b x h1
theorem implNode_ev (a b : ByteArray) (h : a.size ≤ 10000000000) (h' : b.size ≤ 10000000000) : Ev (fun k => impl_NodeHash.f k a b) (node a b) := by
  have hl := bo_len a
  have hl' := bo_len b
  unfold impl_NodeHash.f
  exact evC rfl (evT (by simp; omega) (evC rfl (evT (by simp; omega) (evB (implDigest_ev _ (by simp; omega)) (evR rfl)))))
end Go.Proofs.Ytmkhhnfmahdijaa.Z

/- Ranges, the program's and the reference's: the same. Plain lemmas. -/
set_option linter.unusedVariables false
namespace Go.Proofs.Ytmkhhnfmahdijaa.Z
open Go.RowKit Go.Proofs.YtmkhhnfmahdijaaW.PrintWords Go.Proofs.YtmkhhnfmahdijaaW.PrintMore Go.Proofs.Ytmkhhnfmahdijaa.X
theorem rng_impl (a b c : Int) : impl_inRange.f a b c = some (decide (b ≤ a ∧ a ≤ c)) := by
  unfold impl_inRange.f
  by_cases h : a ≥ b
  · rw [if_pos h]
    simp [show b ≤ a from h]
  · rw [if_neg h]
    simp [show ¬ b ≤ a from h]
theorem rng_spec (a b c : Int) : spec_l1In.f a b c = some (decide (b ≤ a ∧ a ≤ c)) := by
  unfold spec_l1In.f
  by_cases h : a ≥ b
  · rw [if_pos h]
    simp [show b ≤ a from h]
  · rw [if_neg h]
    simp [show ¬ b ≤ a from h]
end Go.Proofs.Ytmkhhnfmahdijaa.Z

namespace Go.Proofs.Ytmkhhnfmahdijaa.X
open Go.RowKit Go.Proofs.YtmkhhnfmahdijaaW.PrintWords Go.Proofs.YtmkhhnfmahdijaaW.PrintLast Go.Proofs.YtmkhhnfmahdijaaW.PrintMore
attribute [local go_sem] max2_int min2_int max_two min_two max_three min_three max_four min_four   -- for this text's walks alone
set_option linter.unusedVariables false
set_option linter.unusedSimpArgs false

/-! ### impl_climb: function 109 (by hand) -/
def impl_climb.f : Nat → ByteArray → Int → Int → List ByteArray → Option (ByteArray × Bool)
  | 0, _, _, _, _ => none
  | k + 1, s, i, n, p => if n = 1 then ((impl_LeafHash.f k s).bind fun r => some (r, (p.length : Int) == 0)) else (if 0 < p.length then (if p.length ≤ 9000000000000000000 then ((impl_half.f k n).bind fun h => (if i < h then ((impl_climb.f k s i h (p.take (p.length - 1))).bind fun rb => ((impl_NodeHash.f k rb.1 (rdOf ByteArray.empty p ((p.length - 1 : Nat) : Int))).bind fun t => some (t, rb.2))) else ((impl_climb.f k s (wrap64 (i - h)) (wrap64 (n - h)) (p.take (p.length - 1))).bind fun rb => ((impl_NodeHash.f k (rdOf ByteArray.empty p ((p.length - 1 : Nat) : Int)) rb.1).bind fun t => some (t, rb.2))))) else none) else some (⟨#[]⟩, false))
theorem impl_climb.mono_l : ∀ k, ∀ y0 y1 y2 y3, LeO (impl_climb.f k y0 y1 y2 y3) (impl_climb.f (k + 1) y0 y1 y2 y3)
  | 0 => fun _ _ _ _ r h => by simp [impl_climb.f] at h
  | k + 1 => by
    have ih := impl_climb.mono_l k
    intro y0 y1 y2 y3
    unfold impl_climb.f
    repeat' first
      | (with_reducible exact ih _ _ _ _)
      | (with_reducible exact impl_LeafHash.mono _ _)
      | (with_reducible exact impl_half.mono _ _)
      | (with_reducible exact impl_NodeHash.mono _ _ _)
      | (with_reducible exact LeO.refl _)
      | (with_reducible exact LeO.none _)
      | (with_reducible refine LeO.ite ?_ ?_)
      | (with_reducible refine LeO.bind ?_ (fun _ => ?_))
theorem impl_climb.mono : ∀ a0 a1 a2 a3 k, LeO (impl_climb.f k a0 a1 a2 a3) (impl_climb.f (k + 1) a0 a1 a2 a3) := fun a0 a1 a2 a3 k => impl_climb.mono_l k a0 a1 a2 a3
set_option maxHeartbeats 2000000 in
set_option maxRecDepth 100000 in
theorem impl_climb.calls (k : Nat) : ∀ (a0 : ByteArray) (a1 a2 : Int) (A3 : Option Addr) (c3 : Nat) (l3 : List ByteArray) (r1 : ByteArray) (r2 : Bool) (w : World) (hr3 : Kd.C Kd.string w A3 l3.length l3) (hc3 : l3.length ≤ c3) (h : impl_climb.f k a0 a1 a2 l3 = some (r1, r2)),
    Calls Try.prog 109 #[.string a0, .int .i64 a1, .int .i64 a2, .slice A3 l3.length c3] w fun e w' => e = .returned (.tuple #[.string r1, .bool r2]) ∧ Below w.heap.size w w' := by
  induction k using Nat.strongRecOn with
  | _ k ih =>
  intro a0 a1 a2 A3 c3 l3 r1 r2 w hr3 hc3 h
  cases k with
  | zero => exact absurd h (by simp [impl_climb.f])
  | succ k =>
  simp only [impl_climb.f] at h
  have HR3 := Aside0.mk hr3
  have HC3 := Aside0.mk hc3
  clear hr3 hc3
  by_cases c1 : a2 = 1
  · rw [if_pos c1] at h
    subst c1
    obtain ⟨r, e1, e2⟩ := Option.bind_eq_some_iff.mp h
    have E1 := Aside0.mk e1
    obtain ⟨rfl, rfl⟩ := Prod.mk.inj (Option.some.inj e2)
    clear e1 e2 h
    go_enter Try.func109, Try.ntmps109
    go_wp2_with (go_at_call 67; refine (impl_LeafHash.calls k a0 r _ E1.out).mono ?_; rintro e w1 ⟨rfl, hb⟩; have HB := Aside0.mk hb; clear hb)
    go_ret2
    exact ⟨rfl, HB.out⟩
  · rw [if_neg c1] at h
    have c1b0 : (a2 == 1) = false := beq_eq_false_iff_ne.mpr c1
    by_cases c2 : 0 < l3.length
    · rw [if_pos c2] at h
      by_cases c3' : l3.length ≤ 9000000000000000000
      · rw [if_pos c3'] at h
        obtain ⟨hh, e1, h⟩ := Option.bind_eq_some_iff.mp h
        have E1 := Aside0.mk e1
        have C2 := Aside0.mk c2
        have C3 := Aside0.mk c3'
        clear e1 c2 c3'
        obtain ⟨q, hq⟩ : ∃ q, l3.take (l3.length - 1) = q := ⟨_, rfl⟩
        obtain ⟨tp, hs⟩ : ∃ q, rdOf ByteArray.empty l3 ((l3.length - 1 : Nat) : Int) = q := ⟨_, rfl⟩
        rw [hq, hs] at h
        have HQ := Aside0.mk hq
        have HS := Aside0.mk hs
        clear hq hs
        by_cases c4 : a1 < hh
        · rw [if_pos c4] at h
          have c4b0 : decide (a1 < hh) = true := decide_eq_true c4
          obtain ⟨⟨ra, rb⟩, e2, h⟩ := Option.bind_eq_some_iff.mp h
          obtain ⟨t, e3, e4⟩ := Option.bind_eq_some_iff.mp h
          have E2 := Aside0.mk e2
          have E3 := Aside0.mk e3
          obtain ⟨rfl, rfl⟩ := Prod.mk.inj (Option.some.inj e4)
          clear e2 e3 e4 h c1 c4
          go_enter Try.func109, Try.ntmps109
          go_wp2_with (first
            | (go_at_call 131; refine (Go.Proofs.Ytmkhhnfmahdijaa.Lst.last_some' A3 c3 l3 q tp _ HR3.out HC3.out C2.out C3.out HQ.out HS.out).mono ?_; rintro e w1 ⟨rfl, ⟨m, rfl⟩, hT, hTc⟩; have HT := Aside0.mk hT; have HTC := Aside0.mk hTc; clear hT hTc)
            | (go_at_call 125; with_reducible refine (impl_half.calls k a2 hh _ E1.out).mono ?_; rintro e w' ⟨rfl, ⟨nd, rfl⟩⟩)
            | (go_at_call 109; (with_reducible refine (ih k (by omega) a0 a1 hh A3 c3 q ra rb _ ?side1 HTC.out E2.out).mono ?_); (case side1 => repeat (first | exact HT.out | (with_reducible refine Kd.C_drewN ?_ _) | (with_reducible refine Kd.C_drew ?_))); rintro e w2 ⟨rfl, hb⟩; have HB := Aside0.mk (below_step (w := w) (by repeat (first | exact Below.refl _ _ | apply pw_below_drewN | apply below_drew1)) hb); clear hb)
            | (go_at_call 68; with_reducible refine (impl_NodeHash.calls k _ _ t _ E3.out).mono ?_; rintro e w3 ⟨rfl, hb⟩; have HB2 := Aside0.mk (below_step HB.out hb); clear hb))
          go_ret2
          exact ⟨rfl, HB2.out⟩
        · rw [if_neg c4] at h
          have c4b0 : decide (a1 < hh) = false := decide_eq_false c4
          obtain ⟨⟨ra, rb⟩, e2, h⟩ := Option.bind_eq_some_iff.mp h
          obtain ⟨t, e3, e4⟩ := Option.bind_eq_some_iff.mp h
          have E2 := Aside0.mk e2
          have E3 := Aside0.mk e3
          obtain ⟨rfl, rfl⟩ := Prod.mk.inj (Option.some.inj e4)
          clear e2 e3 e4 h c1 c4
          go_enter Try.func109, Try.ntmps109
          go_wp2_with (first
            | (go_at_call 131; refine (Go.Proofs.Ytmkhhnfmahdijaa.Lst.last_some' A3 c3 l3 q tp _ HR3.out HC3.out C2.out C3.out HQ.out HS.out).mono ?_; rintro e w1 ⟨rfl, ⟨m, rfl⟩, hT, hTc⟩; have HT := Aside0.mk hT; have HTC := Aside0.mk hTc; clear hT hTc)
            | (go_at_call 125; with_reducible refine (impl_half.calls k a2 hh _ E1.out).mono ?_; rintro e w' ⟨rfl, ⟨nd, rfl⟩⟩)
            | (go_at_call 109; (with_reducible refine (ih k (by omega) a0 (wrap64 (a1 - hh)) (wrap64 (a2 - hh)) A3 c3 q ra rb _ ?side1 HTC.out E2.out).mono ?_); (case side1 => repeat (first | exact HT.out | (with_reducible refine Kd.C_drewN ?_ _) | (with_reducible refine Kd.C_drew ?_))); rintro e w2 ⟨rfl, hb⟩; have HB := Aside0.mk (below_step (w := w) (by repeat (first | exact Below.refl _ _ | apply pw_below_drewN | apply below_drew1)) hb); clear hb)
            | (go_at_call 68; with_reducible refine (impl_NodeHash.calls k _ _ t _ E3.out).mono ?_; rintro e w3 ⟨rfl, hb⟩; have HB2 := Aside0.mk (below_step HB.out hb); clear hb))
          go_ret2
          exact ⟨rfl, HB2.out⟩
      · rw [if_neg c3'] at h
        cases h
    · rw [if_neg c2] at h
      obtain ⟨rfl, rfl⟩ := Prod.mk.inj (Option.some.inj h)
      have hz : l3.length = 0 := by omega
      rw [hz]
      clear h HR3 HC3 c2
      go_enter Try.func109, Try.ntmps109
      go_wp2_with (go_at_call 131; refine (Go.Proofs.Ytmkhhnfmahdijaa.Lst.last_none A3 c3 _).mono ?_; rintro e w1 ⟨rfl, rfl⟩)
      go_ret2
      exact ⟨rfl, Below.refl _ _⟩

end Go.Proofs.Ytmkhhnfmahdijaa.X

namespace Go.Proofs.Ytmkhhnfmahdijaa.X
open Go.RowKit Go.Proofs.YtmkhhnfmahdijaaW.PrintWords Go.Proofs.YtmkhhnfmahdijaaW.PrintLast Go.Proofs.YtmkhhnfmahdijaaW.PrintMore
attribute [local go_sem] max2_int min2_int max_two min_two max_three min_three max_four min_four   -- for this text's walks alone
set_option linter.unusedVariables false
set_option linter.unusedSimpArgs false

/-! ### impl_CheckIn: function 74 -/
def impl_CheckIn.f (k : Nat) (a0 : ByteArray) (a1 : Int) (a2 : Int) (l3 : List ByteArray) (a4 : ByteArray) : Option (Bool) := (impl_inRange.f a2 1 200).bind fun t921 => (if t921 = true then ((impl_inRange.f a1 0 (wrap64 (a2 - 1))).bind fun t922 => (if t922 = true then ((impl_climb.f k a0 a1 a2 l3).bind fun bt923 => (if bt923.2 = true then (some (bt923.1.toList == a4.toList)) else (some false))) else (some false))) else (some false))
theorem impl_CheckIn.mono : ∀ a0 a1 a2 a3 a4 k, LeO (impl_CheckIn.f k a0 a1 a2 a3 a4) (impl_CheckIn.f (k + 1) a0 a1 a2 a3 a4) := by
  intro a0 a1 a2 a3 a4 k
  unfold impl_CheckIn.f
  repeat' first
      | (with_reducible exact impl_climb.mono _ _ _ _ _)
      | (with_reducible exact LeO.refl _)
      | (with_reducible exact LeO.none _)
      | (with_reducible refine LeO.ite ?_ ?_)
      | (with_reducible refine LeO.bind ?_ (fun _ => ?_))
      | exact impl_climb.mono _ _ _ _ _
      | exact LeO.none _
      | refine LeO.ite ?_ ?_
      | refine LeO.bind ?_ (fun _ => ?_)
set_option maxHeartbeats 8000000 in
set_option maxRecDepth 100000 in
theorem impl_CheckIn.calls (k : Nat) (a0 : ByteArray) (a1 : Int) (a2 : Int) (A3 : Option Addr) (c3 : Nat) (l3 : List ByteArray) (a4 : ByteArray) (r : Bool) (w : World) (hr3 : Kd.C Kd.string w A3 l3.length l3) (hc3 : l3.length ≤ c3) (h : impl_CheckIn.f k a0 a1 a2 l3 a4 = some r) :
    Calls Try.prog 74 #[.string a0, .int .i64 a1, .int .i64 a2, .slice A3 l3.length c3, .string a4] w fun e w' => e = .returned (.bool r) ∧ Below w.heap.size w w' := by
  have HR3 := Aside0.mk hr3
  have HC3 := Aside0.mk hc3
  clear hr3 hc3
  have HB := Aside0.mk (Below.refl w.heap.size w)
  have H : ((impl_inRange.f a2 1 200).bind fun t921 => (if t921 = true then ((impl_inRange.f a1 0 (wrap64 (a2 - 1))).bind fun t922 => (if t922 = true then ((impl_climb.f k a0 a1 a2 l3).bind fun bt923 => (if bt923.2 = true then (some (bt923.1.toList == a4.toList)) else (some false))) else (some false))) else (some false))) = some r := h
  clear h
  replace H := Option.bind_eq_some_iff.mp H
  obtain ⟨t921, A60, H⟩ := H
  replace H : (if t921 = true then ((impl_inRange.f a1 0 (wrap64 (a2 - 1))).bind fun t922 => (if t922 = true then ((impl_climb.f k a0 a1 a2 l3).bind fun bt923 => (if bt923.2 = true then (some (bt923.1.toList == a4.toList)) else (some false))) else (some false))) else (some false)) = some r := H
  have A6 := Aside0.mk A60
  clear A60
  by_cases c7 : t921 = true
  · subst c7
    have H1 : ((impl_inRange.f a1 0 (wrap64 (a2 - 1))).bind fun t922 => (if t922 = true then ((impl_climb.f k a0 a1 a2 l3).bind fun bt923 => (if bt923.2 = true then (some (bt923.1.toList == a4.toList)) else (some false))) else (some false))) = some r := by rw [if_pos rfl] at H; exact H
    clear H
    have H := H1
    clear H1
    replace H := Option.bind_eq_some_iff.mp H
    obtain ⟨t922, A80, H⟩ := H
    replace H : (if t922 = true then ((impl_climb.f k a0 a1 a2 l3).bind fun bt923 => (if bt923.2 = true then (some (bt923.1.toList == a4.toList)) else (some false))) else (some false)) = some r := H
    have A8 := Aside0.mk A80
    clear A80
    by_cases c9 : t922 = true
    · subst c9
      have H1 : ((impl_climb.f k a0 a1 a2 l3).bind fun bt923 => (if bt923.2 = true then (some (bt923.1.toList == a4.toList)) else (some false))) = some r := by rw [if_pos rfl] at H; exact H
      clear H
      have H := H1
      clear H1
      replace H := Option.bind_eq_some_iff.mp H
      obtain ⟨⟨t923, t924⟩, A100, H⟩ := H
      replace H : (if t924 = true then (some (t923.toList == a4.toList)) else (some false)) = some r := H
      have A10 := Aside0.mk A100
      clear A100
      by_cases c11 : t924 = true
      · subst c11
        have H1 : (some (t923.toList == a4.toList)) = some r := by rw [if_pos rfl] at H; exact H
        clear H
        have H := H1
        clear H1
        obtain rfl := Option.some.inj H
        go_enter Try.func74, Try.ntmps74
        go_wp2_with (first | ((with_reducible refine gate_callee (f := 87) rfl ?_); refine goesL_ (some 14) rfl rfl Try.func87 (by kernel_rfl) rfl #[.int .i64 a2, .int .i64 1, .int .i64 200] rfl (by (try simp only [List.map_toArray, List.map_cons, List.map_nil]); first | done | rfl | (simp only [List.length_drop, List.length_take]; rfl)) ?_; (with_reducible refine (impl_inRange.calls a2 1 200 true _ A6.out).mono ?_); rintro e w' ⟨rfl, ⟨nd, rfl⟩⟩; refine ⟨_, rfl, ?_⟩) | (go_at_call 87; (with_reducible refine (impl_inRange.calls a1 0 (wrap64 (a2 - 1)) true _ A8.out).mono ?_); rintro e w' ⟨rfl, ⟨nd, rfl⟩⟩) | ((with_reducible refine gate_callee (f := 109) rfl ?_); refine goesL_ (some 28) rfl rfl Try.func109 (by kernel_rfl) rfl #[.string a0, .int .i64 a1, .int .i64 a2, .slice A3 l3.length c3] rfl (by (try simp only [List.map_toArray, List.map_cons, List.map_nil]); first | done | rfl | (simp only [List.length_drop, List.length_take]; rfl)) ?_; (with_reducible refine (impl_climb.calls k a0 a1 a2 _ _ l3 t923 true _ ?side1 ?side2 A10.out).mono ?_); (case side1 => repeat (first | exact HR3.out | (with_reducible refine Kd.C_alloc ?_ _) | (with_reducible refine Kd.C_drewN ?_ _) | (with_reducible refine Kd.C_drew ?_))); (case side2 => exact HC3.out); rintro e w12 ⟨rfl, hb⟩; refine ⟨_, rfl, ?_⟩; have n0_ := Aside0.mk (below_step (by repeat (first | (with_reducible first | exact HB.out | apply below_alloc | apply pw_below_drewN | apply below_drew1) | exact HB.out)) hb); clear HB; have HB := n0_; clear n0_; (try clear hb); (try clear hb2); (try clear hk); (try clear hi)))
        go_ret
        exact ⟨by first | rfl | (simp [errW_none, errW_some] <;> rfl) | (simp [*, errW_none, errW_some] <;> rfl), by repeat (first | (with_reducible first | exact HB.out | apply below_alloc | apply pw_below_drewN | apply below_drew1) | exact HB.out)⟩
      · replace c11 := Bool.eq_false_iff.mpr c11
        subst c11
        have H1 : (some false) = some r := by rw [if_neg (show ¬ (false = true) by decide)] at H; exact H
        clear H
        have H := H1
        clear H1
        obtain rfl := Option.some.inj H
        go_enter Try.func74, Try.ntmps74
        go_wp2_with (first | ((with_reducible refine gate_callee (f := 87) rfl ?_); refine goesL_ (some 14) rfl rfl Try.func87 (by kernel_rfl) rfl #[.int .i64 a2, .int .i64 1, .int .i64 200] rfl (by (try simp only [List.map_toArray, List.map_cons, List.map_nil]); first | done | rfl | (simp only [List.length_drop, List.length_take]; rfl)) ?_; (with_reducible refine (impl_inRange.calls a2 1 200 true _ A6.out).mono ?_); rintro e w' ⟨rfl, ⟨nd, rfl⟩⟩; refine ⟨_, rfl, ?_⟩) | (go_at_call 87; (with_reducible refine (impl_inRange.calls a1 0 (wrap64 (a2 - 1)) true _ A8.out).mono ?_); rintro e w' ⟨rfl, ⟨nd, rfl⟩⟩) | ((with_reducible refine gate_callee (f := 109) rfl ?_); refine goesL_ (some 28) rfl rfl Try.func109 (by kernel_rfl) rfl #[.string a0, .int .i64 a1, .int .i64 a2, .slice A3 l3.length c3] rfl (by (try simp only [List.map_toArray, List.map_cons, List.map_nil]); first | done | rfl | (simp only [List.length_drop, List.length_take]; rfl)) ?_; (with_reducible refine (impl_climb.calls k a0 a1 a2 _ _ l3 t923 false _ ?side1 ?side2 A10.out).mono ?_); (case side1 => repeat (first | exact HR3.out | (with_reducible refine Kd.C_alloc ?_ _) | (with_reducible refine Kd.C_drewN ?_ _) | (with_reducible refine Kd.C_drew ?_))); (case side2 => exact HC3.out); rintro e w13 ⟨rfl, hb⟩; refine ⟨_, rfl, ?_⟩; have n0_ := Aside0.mk (below_step (by repeat (first | (with_reducible first | exact HB.out | apply below_alloc | apply pw_below_drewN | apply below_drew1) | exact HB.out)) hb); clear HB; have HB := n0_; clear n0_; (try clear hb); (try clear hb2); (try clear hk); (try clear hi)))
        go_ret
        exact ⟨by first | rfl | (simp [errW_none, errW_some] <;> rfl) | (simp [*, errW_none, errW_some] <;> rfl), by repeat (first | (with_reducible first | exact HB.out | apply below_alloc | apply pw_below_drewN | apply below_drew1) | exact HB.out)⟩
    · replace c9 := Bool.eq_false_iff.mpr c9
      subst c9
      have H1 : (some false) = some r := by rw [if_neg (show ¬ (false = true) by decide)] at H; exact H
      clear H
      have H := H1
      clear H1
      obtain rfl := Option.some.inj H
      go_enter Try.func74, Try.ntmps74
      go_wp2_with (first | ((with_reducible refine gate_callee (f := 87) rfl ?_); refine goesL_ (some 14) rfl rfl Try.func87 (by kernel_rfl) rfl #[.int .i64 a2, .int .i64 1, .int .i64 200] rfl (by (try simp only [List.map_toArray, List.map_cons, List.map_nil]); first | done | rfl | (simp only [List.length_drop, List.length_take]; rfl)) ?_; (with_reducible refine (impl_inRange.calls a2 1 200 true _ A6.out).mono ?_); rintro e w' ⟨rfl, ⟨nd, rfl⟩⟩; refine ⟨_, rfl, ?_⟩) | (go_at_call 87; (with_reducible refine (impl_inRange.calls a1 0 (wrap64 (a2 - 1)) false _ A8.out).mono ?_); rintro e w' ⟨rfl, ⟨nd, rfl⟩⟩))
      go_ret
      exact ⟨by first | rfl | (simp [errW_none, errW_some] <;> rfl) | (simp [*, errW_none, errW_some] <;> rfl), by repeat (first | (with_reducible first | exact HB.out | apply below_alloc | apply pw_below_drewN | apply below_drew1) | exact HB.out)⟩
  · replace c7 := Bool.eq_false_iff.mpr c7
    subst c7
    have H1 : (some false) = some r := by rw [if_neg (show ¬ (false = true) by decide)] at H; exact H
    clear H
    have H := H1
    clear H1
    obtain rfl := Option.some.inj H
    go_enter Try.func74, Try.ntmps74
    go_wp2_with (first | ((with_reducible refine gate_callee (f := 87) rfl ?_); refine goesL_ (some 14) rfl rfl Try.func87 (by kernel_rfl) rfl #[.int .i64 a2, .int .i64 1, .int .i64 200] rfl (by (try simp only [List.map_toArray, List.map_cons, List.map_nil]); first | done | rfl | (simp only [List.length_drop, List.length_take]; rfl)) ?_; (with_reducible refine (impl_inRange.calls a2 1 200 false _ A6.out).mono ?_); rintro e w' ⟨rfl, ⟨nd, rfl⟩⟩; refine ⟨_, rfl, ?_⟩))
    go_ret
    exact ⟨by first | rfl | (simp [errW_none, errW_some] <;> rfl) | (simp [*, errW_none, errW_some] <;> rfl), by repeat (first | (with_reducible first | exact HB.out | apply below_alloc | apply pw_below_drewN | apply below_drew1) | exact HB.out)⟩

end Go.Proofs.Ytmkhhnfmahdijaa.X

namespace Go.Proofs.Ytmkhhnfmahdijaa.X
open Go.RowKit Go.Proofs.YtmkhhnfmahdijaaW.PrintWords Go.Proofs.YtmkhhnfmahdijaaW.PrintLast Go.Proofs.YtmkhhnfmahdijaaW.PrintMore
attribute [local go_sem] max2_int min2_int max_two min_two max_three min_three max_four min_four   -- for this text's walks alone
set_option linter.unusedVariables false
set_option linter.unusedSimpArgs false

/-! ### spec_l6Up: function 114 -/
def spec_l6Up.f : Nat → ByteArray → Int → Int → List ByteArray → Option (ByteArray × Bool)
  | 0, _, _, _, _ => none
  | k + 1, a0, a1, a2, l3 => if a2 < 2 then (some (a0, ((l3.length : Int) == 0))) else (if (l3.length : Int) = 0 then (some ((⟨#[]⟩ : ByteArray), false)) else (if 0 ≤ (wrap64 ((l3.length : Int) - 1)) then (if (wrap64 ((l3.length : Int) - 1)) < (l3.length : Int) then (if (wrap64 ((l3.length : Int) - 1)) ≤ (l3.length : Int) then ((spec_l6Half.f k a2).bind fun t1079 => (if a1 < t1079 then ((spec_l6Up.f k a0 a1 t1079 (l3.take ((wrap64 ((l3.length : Int) - 1)) : Int).toNat)).bind fun bt1080 => ((spec_NodeHash.f k bt1080.1 (rdOf ByteArray.empty l3 (wrap64 ((l3.length : Int) - 1)))).bind fun t1082 => (some (t1082, bt1080.2)))) else ((spec_l6Up.f k a0 (wrap64 (a1 - t1079)) (wrap64 (a2 - t1079)) (l3.take ((wrap64 ((l3.length : Int) - 1)) : Int).toNat)).bind fun bt1083 => ((spec_NodeHash.f k (rdOf ByteArray.empty l3 (wrap64 ((l3.length : Int) - 1))) bt1083.1).bind fun t1085 => (some (t1085, bt1083.2)))))) else (none)) else (none)) else (none)))
theorem spec_l6Up.mono_l : ∀ k, (∀ y0 y1 y2 y3, LeO (spec_l6Up.f k y0 y1 y2 y3) (spec_l6Up.f (k + 1) y0 y1 y2 y3))
  | 0 => fun _ _ _ _ r h => by simp [spec_l6Up.f] at h
  | k + 1 => by
    have ih0 := spec_l6Up.mono_l k
    · intro y0 y1 y2 y3
      unfold spec_l6Up.f
      repeat' first
      | (with_reducible exact ih0 _ _ _ _)
      | (with_reducible exact spec_NodeHash.mono _ _ _)
      | (with_reducible exact spec_l6Half.mono _ _)
      | (with_reducible exact LeO.refl _)
      | (with_reducible exact LeO.none _)
      | (with_reducible refine LeO.ite ?_ ?_)
      | (with_reducible refine LeO.bind ?_ (fun _ => ?_))
      | exact ih0 _ _ _ _
      | exact spec_NodeHash.mono _ _ _
      | exact spec_l6Half.mono _ _
      | exact LeO.none _
      | refine LeO.ite ?_ ?_
      | refine LeO.bind ?_ (fun _ => ?_)
theorem spec_l6Up.mono : ∀ a0 a1 a2 a3 k, LeO (spec_l6Up.f k a0 a1 a2 a3) (spec_l6Up.f (k + 1) a0 a1 a2 a3) := by
  intro a0 a1 a2 a3 k
  have ih0 := spec_l6Up.mono_l k
  exact ih0 a0 a1 a2 a3
set_option maxHeartbeats 8000000 in
set_option maxRecDepth 100000 in
theorem spec_l6Up.calls (k : Nat) : ∀ (a0 : ByteArray) (a1 : Int) (a2 : Int) (A3 : Option Addr) (c3 : Nat) (l3 : List ByteArray) (r1 : ByteArray) (r2 : Bool) (w : World) (hr3 : Kd.C Kd.string w A3 l3.length l3) (hc3 : l3.length ≤ c3) (h : spec_l6Up.f k a0 a1 a2 l3 = some (r1, r2)),
    Calls Try.prog 114 #[.string a0, .int .i64 a1, .int .i64 a2, .slice A3 l3.length c3] w fun e w' => e = .returned (.tuple #[.string r1, .bool r2]) ∧ Below w.heap.size w w' := by
  induction k using Nat.strongRecOn with
  | _ k ih =>
  intro a0 a1 a2 A3 c3 l3 r1 r2 w hr3 hc3 h
  cases k with
  | zero => exact absurd h (by simp [spec_l6Up.f])
  | succ k =>
  simp only [spec_l6Up.f] at h
  have HR3 := Aside0.mk hr3
  have HC3 := Aside0.mk hc3
  clear hr3 hc3
  have HB := Aside0.mk (Below.refl w.heap.size w)
  have H : (if a2 < 2 then (some (a0, ((l3.length : Int) == 0))) else (if (l3.length : Int) = 0 then (some ((⟨#[]⟩ : ByteArray), false)) else (if 0 ≤ (wrap64 ((l3.length : Int) - 1)) then (if (wrap64 ((l3.length : Int) - 1)) < (l3.length : Int) then (if (wrap64 ((l3.length : Int) - 1)) ≤ (l3.length : Int) then ((spec_l6Half.f k a2).bind fun t1079 => (if a1 < t1079 then ((spec_l6Up.f k a0 a1 t1079 (l3.take ((wrap64 ((l3.length : Int) - 1)) : Int).toNat)).bind fun bt1080 => ((spec_NodeHash.f k bt1080.1 (rdOf ByteArray.empty l3 (wrap64 ((l3.length : Int) - 1)))).bind fun t1082 => (some (t1082, bt1080.2)))) else ((spec_l6Up.f k a0 (wrap64 (a1 - t1079)) (wrap64 (a2 - t1079)) (l3.take ((wrap64 ((l3.length : Int) - 1)) : Int).toNat)).bind fun bt1083 => ((spec_NodeHash.f k (rdOf ByteArray.empty l3 (wrap64 ((l3.length : Int) - 1))) bt1083.1).bind fun t1085 => (some (t1085, bt1083.2)))))) else (none)) else (none)) else (none)))) = some (r1, r2) := h
  clear h
  by_cases c5 : a2 < 2
  · rw [if_pos c5] at H
    have c5b0 : decide (a2 < 2) = true := decide_eq_true c5
    clear c5
    simp only [Option.some.injEq, Prod.mk.injEq] at H
    obtain ⟨rfl, rfl⟩ := H
    go_enter Try.func114, Try.ntmps114
    go_wp2
    go_ret2
    exact ⟨by first | rfl | (simp [errW_none, errW_some] <;> rfl) | (simp [*, errW_none, errW_some] <;> rfl), by repeat (first | (with_reducible first | exact HB.out | apply below_alloc | apply pw_below_drewN | apply below_drew1) | exact HB.out)⟩
  · rw [if_neg c5] at H
    have c5b0 : decide (a2 < 2) = false := decide_eq_false c5
    clear c5
    by_cases c6 : (l3.length : Int) = 0
    · rw [if_pos c6] at H
      have c6b0 : ((l3.length : Int) == 0) = true := beq_iff_eq.mpr c6
      have c6b1 : ((l3.length : Int) != 0) = false := bne_eq_false_iff_eq.mpr c6
      clear c6
      simp only [Option.some.injEq, Prod.mk.injEq] at H
      obtain ⟨rfl, rfl⟩ := H
      go_enter Try.func114, Try.ntmps114
      go_wp2
      go_ret2
      exact ⟨by first | rfl | (simp [errW_none, errW_some] <;> rfl) | (simp [*, errW_none, errW_some] <;> rfl), by repeat (first | (with_reducible first | exact HB.out | apply below_alloc | apply pw_below_drewN | apply below_drew1) | exact HB.out)⟩
    · rw [if_neg c6] at H
      have c6b0 : ((l3.length : Int) == 0) = false := beq_eq_false_iff_ne.mpr c6
      have c6b1 : ((l3.length : Int) != 0) = true := bne_iff_ne.mpr c6
      have c6b2 : ¬ (l3 = []) := fun h_ => c6 (by rw [h_]; rfl)
      obtain ⟨ji7, hji7⟩ : ∃ j_ : Int, (wrap64 ((l3.length : Int) - 1)) = j_ := ⟨_, rfl⟩
      replace H : (if 0 ≤ (ji7) then (if (ji7) < (l3.length : Int) then (if (ji7) ≤ (l3.length : Int) then ((spec_l6Half.f k a2).bind fun t1079 => (if a1 < t1079 then ((spec_l6Up.f k a0 a1 t1079 (l3.take ((ji7) : Int).toNat)).bind fun bt1080 => ((spec_NodeHash.f k bt1080.1 (rdOf ByteArray.empty l3 (ji7))).bind fun t1082 => (some (t1082, bt1080.2)))) else ((spec_l6Up.f k a0 (wrap64 (a1 - t1079)) (wrap64 (a2 - t1079)) (l3.take ((ji7) : Int).toNat)).bind fun bt1083 => ((spec_NodeHash.f k (rdOf ByteArray.empty l3 (ji7)) bt1083.1).bind fun t1085 => (some (t1085, bt1083.2)))))) else (none)) else (none)) else (none)) = some (r1, r2) := by first | (rw [hji7] at H; exact H) | (simp only [hji7] at H ⊢; exact H)
      have hji7w : (IntKind.i64.wrap ((l3.length : Int) - 1)) = ji7 := (i64_w _).trans hji7
      by_cases c8 : 0 ≤ (ji7)
      · rw [if_pos c8] at H
        have c8b0 : decide (0 ≤ (ji7)) = true := decide_eq_true c8
        clear c8
        by_cases c9 : (ji7) < (l3.length : Int)
        · rw [if_pos c9] at H
          have c9b0 : decide ((ji7) < (l3.length : Int)) = true := decide_eq_true c9
          clear c9
          have c10b0 := eq_true (of_decide_eq_true (by first | (with_reducible assumption) | assumption) : 0 ≤ (ji7))
          by_cases c11 : (ji7) ≤ (l3.length : Int)
          · rw [if_pos c11] at H
            have c11b0 := eq_true c11
            have c11b1 : decide ((ji7) ≤ (l3.length : Int)) = true := decide_eq_true c11
            clear c11
            replace H := Option.bind_eq_some_iff.mp H
            obtain ⟨t1079, A120, H⟩ := H
            replace H : (if a1 < t1079 then ((spec_l6Up.f k a0 a1 t1079 (l3.take ((ji7) : Int).toNat)).bind fun bt1080 => ((spec_NodeHash.f k bt1080.1 (rdOf ByteArray.empty l3 (ji7))).bind fun t1082 => (some (t1082, bt1080.2)))) else ((spec_l6Up.f k a0 (wrap64 (a1 - t1079)) (wrap64 (a2 - t1079)) (l3.take ((ji7) : Int).toNat)).bind fun bt1083 => ((spec_NodeHash.f k (rdOf ByteArray.empty l3 (ji7)) bt1083.1).bind fun t1085 => (some (t1085, bt1083.2))))) = some (r1, r2) := H
            have A12 := Aside0.mk A120
            clear A120
            by_cases c13 : a1 < t1079
            · rw [if_pos c13] at H
              have c13b0 : decide (a1 < t1079) = true := decide_eq_true c13
              clear c13
              replace H := Option.bind_eq_some_iff.mp H
              obtain ⟨⟨t1080, t1081⟩, A140, H⟩ := H
              replace H : ((spec_NodeHash.f k t1080 (rdOf ByteArray.empty l3 (ji7))).bind fun t1082 => (some (t1082, t1081))) = some (r1, r2) := H
              have A14 := Aside0.mk A140
              clear A140
              replace H := Option.bind_eq_some_iff.mp H
              obtain ⟨t1082, A150, H⟩ := H
              replace H : (some (t1082, t1081)) = some (r1, r2) := H
              have A15 := Aside0.mk A150
              clear A150
              simp only [Option.some.injEq, Prod.mk.injEq] at H
              obtain ⟨rfl, rfl⟩ := H
              have p1077 : 0 ≤ ((ji7) : Int) := of_decide_eq_true (by first | (with_reducible assumption) | assumption)
              have q1077 : (ji7) < (l3.length : Int) := of_decide_eq_true (by first | (with_reducible assumption) | assumption)
              obtain ⟨ad1077, e1077, hx1077_0⟩ := Kd.at_string HR3.out (ji7) p1077 q1077
              cases e1077
              replace p1077 := eq_true p1077
              replace q1077 := eq_true q1077
              obtain ⟨i016, hi016, _, hsz16, _⟩ := info_parts info9
              obtain ⟨hcut16, hA16, hC16⟩ := print_take_of (P := Try.prog) Value.string (⟨#[]⟩ : ByteArray) 44 9 .i64 Try.underlying44 hi016 hsz16 (some ad1077) c3 l3 (ji7) (of_decide_eq_true (by first | (with_reducible assumption) | assumption)) (of_decide_eq_true (by first | (with_reducible assumption) | assumption)) HC3.out
              have HR1078 := Aside0.mk (Kd.C_of_reads (h1 := fun _ => rfl) (hA16 _ (Kd.reads_of_C HR3.out)))
              have HC1078 := Aside0.mk hC16
              clear hA16 hC16 hi016 hsz16
              go_enter Try.func114, Try.ntmps114
              go_wp2_with (first | ((with_reducible refine gate_callee (f := 132) rfl ?_); refine goesL_ (some 38) rfl rfl Try.func132 (by kernel_rfl) rfl #[.int .i64 a2] rfl (by (try simp only [List.map_toArray, List.map_cons, List.map_nil]); first | done | rfl | (simp only [List.length_drop, List.length_take]; rfl)) ?_; (with_reducible refine (spec_l6Half.calls k a2 t1079 _ A12.out).mono ?_); rintro e w' ⟨rfl, ⟨nd, rfl⟩⟩; refine ⟨_, rfl, ?_⟩) | ((with_reducible refine gate_callee (f := 114) rfl ?_); refine goesL_ (some 47) rfl rfl Try.func114 (by kernel_rfl) rfl #[.string a0, .int .i64 a1, .int .i64 t1079, .slice (some ad1077) (l3.take ((ji7) : Int).toNat).length c3] rfl (by (try simp only [List.map_toArray, List.map_cons, List.map_nil]); first | done | (rw [show (l3.take ((ji7) : Int).toNat).length = (ji7).toNat from (by rw [List.length_take]; have h_ : ((ji7) : Int) ≤ (l3.length : Int) := of_decide_eq_true (by first | (with_reducible assumption) | assumption); omega)] <;> rfl) | (simp only [hji7]; rfl) | rfl | (simp only [List.length_drop, List.length_take]; rfl)) ?_; (with_reducible refine (ih k (by omega) a0 a1 t1079 _ _ (l3.take ((ji7) : Int).toNat) t1080 t1081 _ ?side1 ?side2 A14.out).mono ?_); (case side1 => repeat (first | exact HR1078.out | (with_reducible refine Kd.C_alloc ?_ _) | (with_reducible refine Kd.C_drewN ?_ _) | (with_reducible refine Kd.C_drew ?_))); (case side2 => exact HC1078.out); rintro e w17 ⟨rfl, hb⟩; refine ⟨_, rfl, ?_⟩; have n0_ := Aside0.mk (below_step (by repeat (first | (with_reducible first | exact HB.out | apply below_alloc | apply pw_below_drewN | apply below_drew1) | exact HB.out)) hb); clear HB; have HB := n0_; clear n0_; (try clear hb); (try clear hb2); (try clear hk); (try clear hi)) | ((with_reducible refine gate_callee (f := 70) rfl ?_); refine goesL_ (some 52) rfl rfl Try.func70 (by kernel_rfl) rfl #[.string t1080, .string (rdOf ByteArray.empty l3 (ji7))] rfl (by (try simp only [List.map_toArray, List.map_cons, List.map_nil]); first | done | (simp only [hji7]; rfl) | rfl | (simp only [List.length_drop, List.length_take]; rfl)) ?_; (with_reducible refine (spec_NodeHash.calls k t1080 (rdOf ByteArray.empty l3 (ji7)) t1082 _ A15.out).mono ?_); rintro e w18 ⟨rfl, hb⟩; refine ⟨_, rfl, ?_⟩; have n0_ := Aside0.mk (below_step (by repeat (first | (with_reducible first | exact HB.out | apply below_alloc | apply pw_below_drewN | apply below_drew1) | exact HB.out)) hb); clear HB; have HB := n0_; clear n0_; (try clear hb); (try clear hb2); (try clear hk); (try clear hi)))
              go_ret2
              exact ⟨by first | rfl | (simp [errW_none, errW_some] <;> rfl) | (simp only [← hji7]; first | rfl | (simp [errW_none, errW_some] <;> rfl)) | (simp [*, errW_none, errW_some] <;> rfl), by repeat (first | (with_reducible first | exact HB.out | apply below_alloc | apply pw_below_drewN | apply below_drew1) | exact HB.out)⟩
            · rw [if_neg c13] at H
              have c13b0 : decide (a1 < t1079) = false := decide_eq_false c13
              clear c13
              replace H := Option.bind_eq_some_iff.mp H
              obtain ⟨⟨t1083, t1084⟩, A190, H⟩ := H
              replace H : ((spec_NodeHash.f k (rdOf ByteArray.empty l3 (ji7)) t1083).bind fun t1085 => (some (t1085, t1084))) = some (r1, r2) := H
              have A19 := Aside0.mk A190
              clear A190
              replace H := Option.bind_eq_some_iff.mp H
              obtain ⟨t1085, A200, H⟩ := H
              replace H : (some (t1085, t1084)) = some (r1, r2) := H
              have A20 := Aside0.mk A200
              clear A200
              simp only [Option.some.injEq, Prod.mk.injEq] at H
              obtain ⟨rfl, rfl⟩ := H
              have p1077 : 0 ≤ ((ji7) : Int) := of_decide_eq_true (by first | (with_reducible assumption) | assumption)
              have q1077 : (ji7) < (l3.length : Int) := of_decide_eq_true (by first | (with_reducible assumption) | assumption)
              obtain ⟨ad1077, e1077, hx1077_0⟩ := Kd.at_string HR3.out (ji7) p1077 q1077
              cases e1077
              replace p1077 := eq_true p1077
              replace q1077 := eq_true q1077
              obtain ⟨i021, hi021, _, hsz21, _⟩ := info_parts info9
              obtain ⟨hcut21, hA21, hC21⟩ := print_take_of (P := Try.prog) Value.string (⟨#[]⟩ : ByteArray) 44 9 .i64 Try.underlying44 hi021 hsz21 (some ad1077) c3 l3 (ji7) (of_decide_eq_true (by first | (with_reducible assumption) | assumption)) (of_decide_eq_true (by first | (with_reducible assumption) | assumption)) HC3.out
              have HR1078 := Aside0.mk (Kd.C_of_reads (h1 := fun _ => rfl) (hA21 _ (Kd.reads_of_C HR3.out)))
              have HC1078 := Aside0.mk hC21
              clear hA21 hC21 hi021 hsz21
              go_enter Try.func114, Try.ntmps114
              go_wp2_with (first | ((with_reducible refine gate_callee (f := 132) rfl ?_); refine goesL_ (some 38) rfl rfl Try.func132 (by kernel_rfl) rfl #[.int .i64 a2] rfl (by (try simp only [List.map_toArray, List.map_cons, List.map_nil]); first | done | rfl | (simp only [List.length_drop, List.length_take]; rfl)) ?_; (with_reducible refine (spec_l6Half.calls k a2 t1079 _ A12.out).mono ?_); rintro e w' ⟨rfl, ⟨nd, rfl⟩⟩; refine ⟨_, rfl, ?_⟩) | ((with_reducible refine gate_callee (f := 114) rfl ?_); refine goesL_ (some 63) rfl rfl Try.func114 (by kernel_rfl) rfl #[.string a0, .int .i64 (wrap64 (a1 - t1079)), .int .i64 (wrap64 (a2 - t1079)), .slice (some ad1077) (l3.take ((ji7) : Int).toNat).length c3] rfl (by (try simp only [List.map_toArray, List.map_cons, List.map_nil]); first | done | (rw [show (l3.take ((ji7) : Int).toNat).length = (ji7).toNat from (by rw [List.length_take]; have h_ : ((ji7) : Int) ≤ (l3.length : Int) := of_decide_eq_true (by first | (with_reducible assumption) | assumption); omega)] <;> rfl) | (simp only [hji7]; rfl) | rfl | (simp only [List.length_drop, List.length_take]; rfl)) ?_; (with_reducible refine (ih k (by omega) a0 (wrap64 (a1 - t1079)) (wrap64 (a2 - t1079)) _ _ (l3.take ((ji7) : Int).toNat) t1083 t1084 _ ?side1 ?side2 A19.out).mono ?_); (case side1 => repeat (first | exact HR1078.out | (with_reducible refine Kd.C_alloc ?_ _) | (with_reducible refine Kd.C_drewN ?_ _) | (with_reducible refine Kd.C_drew ?_))); (case side2 => exact HC1078.out); rintro e w22 ⟨rfl, hb⟩; refine ⟨_, rfl, ?_⟩; have n0_ := Aside0.mk (below_step (by repeat (first | (with_reducible first | exact HB.out | apply below_alloc | apply pw_below_drewN | apply below_drew1) | exact HB.out)) hb); clear HB; have HB := n0_; clear n0_; (try clear hb); (try clear hb2); (try clear hk); (try clear hi)) | ((with_reducible refine gate_callee (f := 70) rfl ?_); refine goesL_ (some 68) rfl rfl Try.func70 (by kernel_rfl) rfl #[.string (rdOf ByteArray.empty l3 (ji7)), .string t1083] rfl (by (try simp only [List.map_toArray, List.map_cons, List.map_nil]); first | done | (simp only [hji7]; rfl) | rfl | (simp only [List.length_drop, List.length_take]; rfl)) ?_; (with_reducible refine (spec_NodeHash.calls k (rdOf ByteArray.empty l3 (ji7)) t1083 t1085 _ A20.out).mono ?_); rintro e w23 ⟨rfl, hb⟩; refine ⟨_, rfl, ?_⟩; have n0_ := Aside0.mk (below_step (by repeat (first | (with_reducible first | exact HB.out | apply below_alloc | apply pw_below_drewN | apply below_drew1) | exact HB.out)) hb); clear HB; have HB := n0_; clear n0_; (try clear hb); (try clear hb2); (try clear hk); (try clear hi)))
              go_ret2
              exact ⟨by first | rfl | (simp [errW_none, errW_some] <;> rfl) | (simp only [← hji7]; first | rfl | (simp [errW_none, errW_some] <;> rfl)) | (simp [*, errW_none, errW_some] <;> rfl), by repeat (first | (with_reducible first | exact HB.out | apply below_alloc | apply pw_below_drewN | apply below_drew1) | exact HB.out)⟩
          · rw [if_neg c11] at H
            exact absurd H (by simp)
        · rw [if_neg c9] at H
          exact absurd H (by simp)
      · rw [if_neg c8] at H
        exact absurd H (by simp)

end Go.Proofs.Ytmkhhnfmahdijaa.X

namespace Go.Proofs.Ytmkhhnfmahdijaa.X
open Go.RowKit Go.Proofs.YtmkhhnfmahdijaaW.PrintWords Go.Proofs.YtmkhhnfmahdijaaW.PrintLast Go.Proofs.YtmkhhnfmahdijaaW.PrintMore
attribute [local go_sem] max2_int min2_int max_two min_two max_three min_three max_four min_four   -- for this text's walks alone
set_option linter.unusedVariables false
set_option linter.unusedSimpArgs false

/-! ### spec_CheckIn: function 79 -/
def spec_CheckIn.j0 : Nat → ByteArray → Int → Int → List ByteArray → ByteArray → Bool → Option (Bool)
  | 0, _, _, _, _, _, _ => none
  | k + 1, x0, x1, x2, x3, x4, x22 => if x22 = true then (some false) else ((spec_LeafHash.f k x0).bind fun t1088 => ((spec_l6Up.f k t1088 x1 x2 x3).bind fun bt1089 => (if bt1089.2 = true then (some (bt1089.1.toList == x4.toList)) else (some false))))
def spec_CheckIn.f (k : Nat) (a0 : ByteArray) (a1 : Int) (a2 : Int) (l3 : List ByteArray) (a4 : ByteArray) : Option (Bool) := (spec_l1In.f a2 1 200).bind fun t1086 => (if t1086 = true then ((spec_l1In.f a1 0 (wrap64 (a2 - 1))).bind fun t1087 => (spec_CheckIn.j0 k a0 a1 a2 l3 a4 (!t1087))) else (spec_CheckIn.j0 k a0 a1 a2 l3 a4 true))
theorem spec_CheckIn.mono_l : ∀ k, (∀ y0 y1 y2 y3 y4 y5, LeO (spec_CheckIn.j0 k y0 y1 y2 y3 y4 y5) (spec_CheckIn.j0 (k + 1) y0 y1 y2 y3 y4 y5))
  | 0 => fun _ _ _ _ _ _ r h => by simp [spec_CheckIn.j0] at h
  | k + 1 => by
    have ih0 := spec_CheckIn.mono_l k
    · intro y0 y1 y2 y3 y4 y5
      unfold spec_CheckIn.j0
      repeat' first
      | (with_reducible exact ih0 _ _ _ _ _ _)
      | (with_reducible exact spec_LeafHash.mono _ _)
      | (with_reducible exact spec_l6Up.mono _ _ _ _ _)
      | (with_reducible exact LeO.refl _)
      | (with_reducible exact LeO.none _)
      | (with_reducible refine LeO.ite ?_ ?_)
      | (with_reducible refine LeO.bind ?_ (fun _ => ?_))
      | exact ih0 _ _ _ _ _ _
      | exact spec_LeafHash.mono _ _
      | exact spec_l6Up.mono _ _ _ _ _
      | exact LeO.none _
      | refine LeO.ite ?_ ?_
      | refine LeO.bind ?_ (fun _ => ?_)
theorem spec_CheckIn.mono : ∀ a0 a1 a2 a3 a4 k, LeO (spec_CheckIn.f k a0 a1 a2 a3 a4) (spec_CheckIn.f (k + 1) a0 a1 a2 a3 a4) := by
  intro a0 a1 a2 a3 a4 k
  have ih0 := spec_CheckIn.mono_l k
  unfold spec_CheckIn.f
  repeat' first
      | (with_reducible exact ih0 _ _ _ _ _ _)
      | (with_reducible exact spec_LeafHash.mono _ _)
      | (with_reducible exact spec_l6Up.mono _ _ _ _ _)
      | (with_reducible exact LeO.refl _)
      | (with_reducible exact LeO.none _)
      | (with_reducible refine LeO.ite ?_ ?_)
      | (with_reducible refine LeO.bind ?_ (fun _ => ?_))
      | exact ih0 _ _ _ _ _ _
      | exact spec_LeafHash.mono _ _
      | exact spec_l6Up.mono _ _ _ _ _
      | exact LeO.none _
      | refine LeO.ite ?_ ?_
      | refine LeO.bind ?_ (fun _ => ?_)
set_option maxHeartbeats 8000000 in
set_option maxRecDepth 100000 in
theorem spec_CheckIn.calls (k : Nat) (a0 : ByteArray) (a1 : Int) (a2 : Int) (A3 : Option Addr) (c3 : Nat) (l3 : List ByteArray) (a4 : ByteArray) (r : Bool) (w : World) (hr3 : Kd.C Kd.string w A3 l3.length l3) (hc3 : l3.length ≤ c3) (h : spec_CheckIn.f k a0 a1 a2 l3 a4 = some r) :
    Calls Try.prog 79 #[.string a0, .int .i64 a1, .int .i64 a2, .slice A3 l3.length c3, .string a4] w fun e w' => e = .returned (.bool r) ∧ Below w.heap.size w w' := by
  have HR3 := Aside0.mk hr3
  have HC3 := Aside0.mk hc3
  clear hr3 hc3
  have HB := Aside0.mk (Below.refl w.heap.size w)
  have H : ((spec_l1In.f a2 1 200).bind fun t1086 => (if t1086 = true then ((spec_l1In.f a1 0 (wrap64 (a2 - 1))).bind fun t1087 => (spec_CheckIn.j0 k a0 a1 a2 l3 a4 (!t1087))) else (spec_CheckIn.j0 k a0 a1 a2 l3 a4 true))) = some r := h
  clear h
  have HC6 := Aside0.mk H
  clear H
  go_enter Try.func79, Try.ntmps79
  go_upto_region 1 with (fail)
  go_cut [22] (fun v22 wc => ∃ (kq : Nat) (x22_5 : Bool), v22 = .bool x22_5 ∧ Aside0 (spec_CheckIn.j0 kq a0 a1 a2 l3 a4 x22_5 = some r) ∧ Aside0 (kq ≤ k) ∧ Aside0 (Below w.heap.size w wc))
  case first =>
    have H := HC6.out
    clear HC6
    replace H := Option.bind_eq_some_iff.mp H
    obtain ⟨t1086, A70, H⟩ := H
    replace H : (if t1086 = true then ((spec_l1In.f a1 0 (wrap64 (a2 - 1))).bind fun t1087 => (spec_CheckIn.j0 k a0 a1 a2 l3 a4 (!t1087))) else (spec_CheckIn.j0 k a0 a1 a2 l3 a4 true)) = some r := H
    have A7 := Aside0.mk A70
    clear A70
    by_cases c8 : t1086 = true
    · subst c8
      have H1 : ((spec_l1In.f a1 0 (wrap64 (a2 - 1))).bind fun t1087 => (spec_CheckIn.j0 k a0 a1 a2 l3 a4 (!t1087))) = some r := by rw [if_pos rfl] at H; exact H
      clear H
      have H := H1
      clear H1
      replace H := Option.bind_eq_some_iff.mp H
      obtain ⟨t1087, A90, H⟩ := H
      replace H : (spec_CheckIn.j0 k a0 a1 a2 l3 a4 (!t1087)) = some r := H
      have A9 := Aside0.mk A90
      clear A90
      have H' := Aside0.mk H
      clear H
      go_wp2_with (first | ((with_reducible refine gate_callee (f := 95) rfl ?_); refine goesL_ (some 14) rfl rfl Try.func95 (by kernel_rfl) rfl #[.int .i64 a2, .int .i64 1, .int .i64 200] rfl (by (try simp only [List.map_toArray, List.map_cons, List.map_nil]); first | done | rfl | (simp only [List.length_drop, List.length_take]; rfl)) ?_; (with_reducible refine (spec_l1In.calls a2 1 200 true _ A7.out).mono ?_); rintro e w' ⟨rfl, ⟨nd, rfl⟩⟩; refine ⟨_, rfl, ?_⟩) | (go_at_call 95; (with_reducible refine (spec_l1In.calls a1 0 (wrap64 (a2 - 1)) t1087 _ A9.out).mono ?_); rintro e w' ⟨rfl, ⟨nd, rfl⟩⟩))
      go_meet
      case rel => exact ⟨_, (!t1087), (by first | rfl | (simp; done) | (simp [*]; done)), H', ⟨by first | omega | exact Nat.le_refl _⟩, ⟨by repeat (first | (with_reducible first | exact HB.out | apply below_alloc | apply pw_below_drewN | apply below_drew1) | exact HB.out)⟩⟩
    · replace c8 := Bool.eq_false_iff.mpr c8
      subst c8
      have H1 : (spec_CheckIn.j0 k a0 a1 a2 l3 a4 true) = some r := by rw [if_neg (show ¬ (false = true) by decide)] at H; exact H
      clear H
      have H := H1
      clear H1
      have H' := Aside0.mk H
      clear H
      go_wp2_with (first | ((with_reducible refine gate_callee (f := 95) rfl ?_); refine goesL_ (some 14) rfl rfl Try.func95 (by kernel_rfl) rfl #[.int .i64 a2, .int .i64 1, .int .i64 200] rfl (by (try simp only [List.map_toArray, List.map_cons, List.map_nil]); first | done | rfl | (simp only [List.length_drop, List.length_take]; rfl)) ?_; (with_reducible refine (spec_l1In.calls a2 1 200 false _ A7.out).mono ?_); rintro e w' ⟨rfl, ⟨nd, rfl⟩⟩; refine ⟨_, rfl, ?_⟩))
      go_meet
      case rel => exact ⟨_, (true), (by first | rfl | (simp; done) | (simp [*]; done)), H', ⟨by first | omega | exact Nat.le_refl _⟩, ⟨by repeat (first | (with_reducible first | exact HB.out | apply below_alloc | apply pw_below_drewN | apply below_drew1) | exact HB.out)⟩⟩
  case rest =>
    clear HC6
    try clear p2
    try clear c3
    try clear p6
    try clear c7
    try clear c8
    try clear c9
    obtain ⟨kq, x22_5, rfl, HA, HJ5, HB⟩ := hcut
    cases kq with
    | zero => exact absurd HA.out (by simp [spec_CheckIn.j0])
    | succ kj5 =>
      have H := HA.out
      clear HA
      simp only [spec_CheckIn.j0] at H
      by_cases c10 : x22_5 = true
      · subst c10
        have H1 : (some false) = some r := by rw [if_pos rfl] at H; exact H
        clear H
        have H := H1
        clear H1
        obtain rfl := Option.some.inj H
        go_wp2
        go_ret
        exact ⟨by first | rfl | (simp [errW_none, errW_some] <;> rfl) | (simp [*, errW_none, errW_some] <;> rfl), by repeat (first | (with_reducible first | exact HB.out | apply below_alloc | apply pw_below_drewN | apply below_drew1) | exact HB.out)⟩
      · replace c10 := Bool.eq_false_iff.mpr c10
        subst c10
        have H1 : ((spec_LeafHash.f kj5 a0).bind fun t1088 => ((spec_l6Up.f kj5 t1088 a1 a2 l3).bind fun bt1089 => (if bt1089.2 = true then (some (bt1089.1.toList == a4.toList)) else (some false)))) = some r := by rw [if_neg (show ¬ (false = true) by decide)] at H; exact H
        clear H
        have H := H1
        clear H1
        replace H := Option.bind_eq_some_iff.mp H
        obtain ⟨t1088, A110, H⟩ := H
        replace H : ((spec_l6Up.f kj5 t1088 a1 a2 l3).bind fun bt1089 => (if bt1089.2 = true then (some (bt1089.1.toList == a4.toList)) else (some false))) = some r := H
        have A11 := Aside0.mk A110
        clear A110
        replace H := Option.bind_eq_some_iff.mp H
        obtain ⟨⟨t1089, t1090⟩, A120, H⟩ := H
        replace H : (if t1090 = true then (some (t1089.toList == a4.toList)) else (some false)) = some r := H
        have A12 := Aside0.mk A120
        clear A120
        by_cases c13 : t1090 = true
        · subst c13
          have H1 : (some (t1089.toList == a4.toList)) = some r := by rw [if_pos rfl] at H; exact H
          clear H
          have H := H1
          clear H1
          obtain rfl := Option.some.inj H
          go_wp2_with (first | ((with_reducible refine gate_callee (f := 69) rfl ?_); refine goesL_ (some 25) rfl rfl Try.func69 (by kernel_rfl) rfl #[.string a0] rfl (by (try simp only [List.map_toArray, List.map_cons, List.map_nil]); first | done | rfl | (simp only [List.length_drop, List.length_take]; rfl)) ?_; (with_reducible refine (spec_LeafHash.calls kj5 a0 t1088 _ A11.out).mono ?_); rintro e w14 ⟨rfl, hb⟩; refine ⟨_, rfl, ?_⟩; have n0_ := Aside0.mk (below_step (by repeat (first | (with_reducible first | exact HB.out | apply below_alloc | apply pw_below_drewN | apply below_drew1) | exact HB.out)) hb); clear HB; have HB := n0_; clear n0_; (try clear hb); (try clear hb2); (try clear hk); (try clear hi)) | ((with_reducible refine gate_callee (f := 114) rfl ?_); refine goesL_ (some 29) rfl rfl Try.func114 (by kernel_rfl) rfl #[.string t1088, .int .i64 a1, .int .i64 a2, .slice A3 l3.length c3] rfl (by (try simp only [List.map_toArray, List.map_cons, List.map_nil]); first | done | rfl | (simp only [List.length_drop, List.length_take]; rfl)) ?_; (with_reducible refine (spec_l6Up.calls kj5 t1088 a1 a2 _ _ l3 t1089 true _ ?side1 ?side2 A12.out).mono ?_); (case side1 => repeat (first | exact (Kd.C_below HR3.out HB.out) | (with_reducible refine Kd.C_alloc ?_ _) | (with_reducible refine Kd.C_drewN ?_ _) | (with_reducible refine Kd.C_drew ?_))); (case side2 => exact HC3.out); rintro e w15 ⟨rfl, hb⟩; refine ⟨_, rfl, ?_⟩; have n0_ := Aside0.mk (below_step (by repeat (first | (with_reducible first | exact HB.out | apply below_alloc | apply pw_below_drewN | apply below_drew1) | exact HB.out)) hb); clear HB; have HB := n0_; clear n0_; (try clear hb); (try clear hb2); (try clear hk); (try clear hi)))
          go_ret
          exact ⟨by first | rfl | (simp [errW_none, errW_some] <;> rfl) | (simp [*, errW_none, errW_some] <;> rfl), by repeat (first | (with_reducible first | exact HB.out | apply below_alloc | apply pw_below_drewN | apply below_drew1) | exact HB.out)⟩
        · replace c13 := Bool.eq_false_iff.mpr c13
          subst c13
          have H1 : (some false) = some r := by rw [if_neg (show ¬ (false = true) by decide)] at H; exact H
          clear H
          have H := H1
          clear H1
          obtain rfl := Option.some.inj H
          go_wp2_with (first | ((with_reducible refine gate_callee (f := 69) rfl ?_); refine goesL_ (some 25) rfl rfl Try.func69 (by kernel_rfl) rfl #[.string a0] rfl (by (try simp only [List.map_toArray, List.map_cons, List.map_nil]); first | done | rfl | (simp only [List.length_drop, List.length_take]; rfl)) ?_; (with_reducible refine (spec_LeafHash.calls kj5 a0 t1088 _ A11.out).mono ?_); rintro e w16 ⟨rfl, hb⟩; refine ⟨_, rfl, ?_⟩; have n0_ := Aside0.mk (below_step (by repeat (first | (with_reducible first | exact HB.out | apply below_alloc | apply pw_below_drewN | apply below_drew1) | exact HB.out)) hb); clear HB; have HB := n0_; clear n0_; (try clear hb); (try clear hb2); (try clear hk); (try clear hi)) | ((with_reducible refine gate_callee (f := 114) rfl ?_); refine goesL_ (some 29) rfl rfl Try.func114 (by kernel_rfl) rfl #[.string t1088, .int .i64 a1, .int .i64 a2, .slice A3 l3.length c3] rfl (by (try simp only [List.map_toArray, List.map_cons, List.map_nil]); first | done | rfl | (simp only [List.length_drop, List.length_take]; rfl)) ?_; (with_reducible refine (spec_l6Up.calls kj5 t1088 a1 a2 _ _ l3 t1089 false _ ?side1 ?side2 A12.out).mono ?_); (case side1 => repeat (first | exact (Kd.C_below HR3.out HB.out) | (with_reducible refine Kd.C_alloc ?_ _) | (with_reducible refine Kd.C_drewN ?_ _) | (with_reducible refine Kd.C_drew ?_))); (case side2 => exact HC3.out); rintro e w17 ⟨rfl, hb⟩; refine ⟨_, rfl, ?_⟩; have n0_ := Aside0.mk (below_step (by repeat (first | (with_reducible first | exact HB.out | apply below_alloc | apply pw_below_drewN | apply below_drew1) | exact HB.out)) hb); clear HB; have HB := n0_; clear n0_; (try clear hb); (try clear hb2); (try clear hk); (try clear hi)))
          go_ret
          exact ⟨by first | rfl | (simp [errW_none, errW_some] <;> rfl) | (simp [*, errW_none, errW_some] <;> rfl), by repeat (first | (with_reducible first | exact HB.out | apply below_alloc | apply pw_below_drewN | apply below_drew1) | exact HB.out)⟩

end Go.Proofs.Ytmkhhnfmahdijaa.X

/- What comes of a text by a path, the program's and the reference's: the same. Plain lemmas. -/
set_option linter.unusedVariables false
namespace Go.Proofs.Ytmkhhnfmahdijaa.Z
open Go.RowKit Go.Proofs.YtmkhhnfmahdijaaW.PrintWords Go.Proofs.YtmkhhnfmahdijaaW.PrintMore Go.Proofs.Ytmkhhnfmahdijaa.X

def lastOf (p : List ByteArray) : ByteArray := rdOf ByteArray.empty p ((p.length - 1 : Nat) : Int)
def up (s : ByteArray) (i : Int) (n : Nat) (p : List ByteArray) : ByteArray × Bool :=
  if h : n < 2 then (s, (p.length : Int) == 0)
  else if p.length = 0 then (⟨#[]⟩, false)
  else if i < hf n then (node (up s i (hf n) (p.take (p.length - 1))).1 (lastOf p), (up s i (hf n) (p.take (p.length - 1))).2)
  else (node (lastOf p) (up s (i - hf n) (n - hf n) (p.take (p.length - 1))).1, (up s (i - hf n) (n - hf n) (p.take (p.length - 1))).2)
termination_by n
decreasing_by
  all_goals have := hf_lt (n := n) (by omega); omega
theorem up_one {n : Nat} (h : n < 2) (s : ByteArray) (i : Int) (p : List ByteArray) : up s i n p = (s, (p.length : Int) == 0) := by rw [up, dif_pos h]
theorem up_nil {n : Nat} (h : ¬ n < 2) (s : ByteArray) (i : Int) {p : List ByteArray} (hp : p.length = 0) : up s i n p = (⟨#[]⟩, false) := by rw [up, dif_neg h, if_pos hp]
theorem up_lo {n : Nat} (h : ¬ n < 2) (s : ByteArray) {i : Int} {p : List ByteArray} (hp : ¬ p.length = 0) (hi : i < hf n) : up s i n p = (node (up s i (hf n) (p.take (p.length - 1))).1 (lastOf p), (up s i (hf n) (p.take (p.length - 1))).2) := by rw [up, dif_neg h, if_neg hp, if_pos hi]
theorem up_hi {n : Nat} (h : ¬ n < 2) (s : ByteArray) {i : Int} {p : List ByteArray} (hp : ¬ p.length = 0) (hi : ¬ i < hf n) : up s i n p = (node (lastOf p) (up s (i - hf n) (n - hf n) (p.take (p.length - 1))).1, (up s (i - hf n) (n - hf n) (p.take (p.length - 1))).2) := by rw [up, dif_neg h, if_neg hp, if_neg hi]
theorem lastOf_fit {p : List ByteArray} (h : Fit p) (hp : ¬ p.length = 0) : (lastOf p).size ≤ 10000000000 := by
  have hlt : p.length - 1 < p.length := by omega
  have : lastOf p = p[p.length - 1] := by
    unfold lastOf rdOf
    rw [show (((p.length - 1 : Nat) : Int)).toNat = p.length - 1 by omega]
    simp [hlt]
  rw [this]
  exact h _ (List.getElem_mem _)
theorem up_both (s : ByteArray) (hs : s.size ≤ 10000000000) : ∀ (n : Nat) (i : Int) (p : List ByteArray), 1 ≤ n → n ≤ 1000000000 → 0 ≤ i → i ≤ 1000000000 → Fit p → p.length ≤ 1000000000 →
    Ev (fun k => impl_climb.f k s i (n : Int) p) (up (leaf s) i n p) ∧ Ev (fun k => spec_l6Up.f k (leaf s) i (n : Int) p) (up (leaf s) i n p) ∧ (up (leaf s) i n p).1.size ≤ 32 := by
  intro n
  induction n using Nat.strongRecOn with
  | ind n ih =>
    intro i p h1 hn hi hi' hF hp
    by_cases h2 : n < 2
    · rw [up_one h2]
      refine ⟨?_, ?_, by rw [leaf_size]; exact Nat.le_refl _⟩
      · refine evS (fun k => by rw [impl_climb.f]) ?_
        exact evT (by omega) (evB (implLeaf_ev s hs) (evR rfl))
      · refine evS (fun k => by rw [spec_l6Up.f]) ?_
        exact evT (by omega) (evR rfl)
    · have hne : ¬ (n : Int) = 1 := by omega
      have hn2 : ¬ (n : Int) < 2 := by omega
      by_cases hp0 : p.length = 0
      · rw [up_nil h2 _ _ hp0]
        refine ⟨?_, ?_, by decide⟩
        · refine evS (fun k => by rw [impl_climb.f]) ?_
          exact evF hne (evF (by omega) (evR rfl))
        · refine evS (fun k => by rw [spec_l6Up.f]) ?_
          exact evF hn2 (evT (by omega) (evR rfl))
      · obtain ⟨g1, g2⟩ := hf_lt (n := n) (by omega)
        have hA := hf_impl (n := n) (by omega) (by omega)
        have hB := hf_spec (n := n) (by omega) (by omega)
        have hz := lastOf_fit hF hp0
        have ew : wrap64 ((p.length : Int) - 1) = ((p.length - 1 : Nat) : Int) := by rw [w64 (by omega)]; omega
        have et : (((p.length - 1 : Nat) : Int)).toNat = p.length - 1 := by omega
        have hT : (p.take (p.length - 1)).length ≤ 1000000000 := by simp; omega
        have hpl : ¬ (p.length : Int) = 0 := by omega
        have hpp : 0 < p.length := by omega
        have hp9 : p.length ≤ 9000000000000000000 := by omega
        by_cases hic : i < hf n
        · rw [up_lo h2 _ hp0 hic]
          generalize hf n = c at *
          obtain ⟨a, b, z⟩ := ih c (by omega) i (p.take (p.length - 1)) g1 (by omega) hi hi' (hF.take _) hT
          refine ⟨?_, ?_, by rw [node_size]; exact Nat.le_refl _⟩
          · refine evS (fun k => by rw [impl_climb.f]) ?_
            exact evF hne (evT hpp (evT hp9 (evB hA (evT hic (evB a (evB (implNode_ev _ _ (by omega) hz) (evR rfl)))))))
          · refine evS (fun k => by rw [spec_l6Up.f]) ?_
            rw [ew, et]
            exact evF hn2 (evF hpl (evT (by omega) (evT (by omega) (evT (by omega) (evB hB (evT hic (evB b (evB (specNode_ev _ _ (by omega) hz) (evR rfl)))))))))
        · rw [up_hi h2 _ hp0 hic]
          generalize hf n = c at *
          obtain ⟨a, b, z⟩ := ih (n - c) (by omega) (i - c) (p.take (p.length - 1)) (by omega) (by omega) (by omega) (by omega) (hF.take _) hT
          have e1 : wrap64 (i - (c : Int)) = i - c := w64 (by omega)
          have e2 : wrap64 ((n : Int) - (c : Int)) = ((n - c : Nat) : Int) := by rw [w64 (by omega)]; omega
          refine ⟨?_, ?_, by rw [node_size]; exact Nat.le_refl _⟩
          · refine evS (fun k => by rw [impl_climb.f]) ?_
            refine evF hne (evT hpp (evT hp9 (evB hA (evF hic ?_))))
            rw [e1, e2]
            exact evB a (evB (implNode_ev _ _ hz (by omega)) (evR rfl))
          · refine evS (fun k => by rw [spec_l6Up.f]) ?_
            rw [ew, et]
            refine evF hn2 (evF hpl (evT (by omega) (evT (by omega) (evT (by omega) (evB hB (evF hic ?_))))))
            rw [e1, e2]
            exact evB b (evB (specNode_ev _ _ hz (by omega)) (evR rfl))
def checkIn (s : ByteArray) (i n : Int) (p : List ByteArray) (r : ByteArray) : Bool :=
  if 1 ≤ n ∧ n ≤ 200 then (if 0 ≤ i ∧ i ≤ n - 1 then (if (up (leaf s) i n.toNat p).2 = true then ((up (leaf s) i n.toNat p).1.toList == r.toList) else false) else false) else false
theorem checkIn_both (s : ByteArray) (hs : s.size ≤ 10000000000) (i n : Int) (p : List ByteArray) (hF : Fit p) (hp : p.length ≤ 1000000000) (r : ByteArray) :
    Ev (fun k => impl_CheckIn.f k s i n p r) (checkIn s i n p r) ∧ Ev (fun k => spec_CheckIn.f k s i n p r) (checkIn s i n p r) := by
  unfold checkIn impl_CheckIn.f spec_CheckIn.f
  rw [rng_impl, rng_spec]
  by_cases h1 : 1 ≤ n ∧ n ≤ 200
  · rw [if_pos h1, decide_eq_true h1, w64 (x := n - 1) (by omega), rng_impl, rng_spec]
    by_cases h2 : 0 ≤ i ∧ i ≤ n - 1
    · rw [if_pos h2, decide_eq_true h2]
      obtain ⟨m, rfl⟩ := Int.eq_ofNat_of_zero_le (show 0 ≤ n by omega)
      obtain ⟨a, b, _⟩ := up_both s hs m i p (by omega) (by omega) h2.1 (by omega) hF hp
      rw [show ((m : Nat) : Int).toNat = m by omega]
      constructor
      · refine evC rfl (evT rfl (evC rfl (evT rfl (evB a ?_))))
        by_cases hb : (up (leaf s) i m p).2 = true
        · exact evE (if_pos hb).symm (evT hb (evR rfl))
        · exact evE (if_neg hb).symm (evF hb (evR rfl))
      · refine evC rfl (evT rfl (evC rfl ?_))
        refine evS (fun k => by rw [spec_CheckIn.j0]) (evF (by simp) (evB (specLeaf_ev s hs) (evB b ?_)))
        by_cases hb : (up (leaf s) i m p).2 = true
        · exact evE (if_pos hb).symm (evT hb (evR rfl))
        · exact evE (if_neg hb).symm (evF hb (evR rfl))
    · rw [if_neg h2, decide_eq_false h2]
      constructor
      · exact evC rfl (evT rfl (evC rfl (evF Bool.false_ne_true (evR rfl))))
      · refine evC rfl (evT rfl (evC rfl ?_))
        exact evS (fun k => by rw [spec_CheckIn.j0]) (evT (by simp) (evR rfl))
  · rw [if_neg h1, decide_eq_false h1]
    constructor
    · exact evC rfl (evF Bool.false_ne_true (evR rfl))
    · refine evC rfl (evF Bool.false_ne_true ?_)
      exact evS (fun k => by rw [spec_CheckIn.j0]) (evT rfl (evR rfl))
end Go.Proofs.Ytmkhhnfmahdijaa.Z

/- What comes of a path of a beginning, the program's and the reference's: the same where it is right. Plain lemmas. -/
set_option linter.unusedVariables false
namespace Go.Proofs.Ytmkhhnfmahdijaa.Z
open Go.RowKit Go.Proofs.YtmkhhnfmahdijaaW.PrintWords Go.Proofs.YtmkhhnfmahdijaaW.PrintMore Go.Proofs.Ytmkhhnfmahdijaa.X

abbrev R3 := ByteArray × ByteArray × Bool
def Alike (x y : R3) : Prop := x.2.2 = y.2.2 ∧ (x.2.2 = true → x = y) ∧ x.1.size ≤ 10000000000 ∧ x.2.1.size ≤ 10000000000 ∧ y.1.size ≤ 10000000000 ∧ y.2.1.size ≤ 10000000000
theorem grown_both (a : ByteArray) (ha : a.size ≤ 10000000000) : ∀ (m : Nat) (n : Int) (w : Bool) (p : List ByteArray), m ≤ 1000000000 → 1 ≤ n → n ≤ m → Fit p → p.length ≤ 1000000000 →
    ∃ x y : R3, Ev (fun k => impl_grown.f k n (m : Int) a w p) x ∧ Ev (fun k => spec_l6Grown.f k n (m : Int) w a p) y ∧ Alike x y := by
  intro m
  induction m using Nat.strongRecOn with
  | ind m ih =>
    intro n w p hm h1 hn hF hp
    have he0 : (⟨#[]⟩ : ByteArray).size ≤ 10000000000 := by decide
    by_cases hnm : n = (m : Int)
    · cases w with
      | true =>
        refine ⟨(a, a, (p.length : Int) == 0), (a, a, (p.length : Int) == 0), ?_, ?_, rfl, fun _ => rfl, ha, ha, ha, ha⟩
        · have hw1 : n = (m : Int) ∧ true = true := ⟨hnm, rfl⟩
          refine evS (fun k => by rw [impl_grown.f]) ?_
          exact evT hw1 (evR rfl)
        · exact evS (fun k => by rw [spec_l6Grown.f]) (evT hnm (evT rfl (evR rfl)))
      | false =>
        have hw : ¬ (n = (m : Int) ∧ false = true) := by simp
        by_cases hp0 : p.length = 0
        · refine ⟨(⟨#[]⟩, ⟨#[]⟩, false), (⟨#[]⟩, ⟨#[]⟩, false), ?_, ?_, rfl, fun _ => rfl, he0, he0, he0, he0⟩
          · exact evS (fun k => by rw [impl_grown.f]) (evF hw (evF (by omega) (evR rfl)))
          · exact evS (fun k => by rw [spec_l6Grown.f]) (evT hnm (evF (by simp) (evF (by omega) (evR rfl))))
        · have hz := lastOf_fit hF hp0
          have hpp : 0 < p.length := by omega
          have hp9 : p.length ≤ 9000000000000000000 := by omega
          have hI : Ev (fun k => impl_grown.f k n (m : Int) a false p) (lastOf p, lastOf p, ((p.take (p.length - 1)).length : Int) == 0) := by
            refine evS (fun k => by rw [impl_grown.f]) ?_
            exact evF hw (evT hpp (evT hp9 (evT hnm (evR rfl))))
          by_cases hp1 : p.length = 1
          · refine ⟨_, (lastOf p, lastOf p, true), hI, ?_, ?_, ?_, hz, hz, hz, hz⟩
            · refine evS (fun k => by rw [spec_l6Grown.f]) (evT hnm (evF (by simp) (evT (by omega) (evT (by omega) (evR ?_)))))
              unfold lastOf
              rw [hp1]
              rfl
            · show (((p.take (p.length - 1)).length : Int) == 0) = true
              rw [hp1]
              simp
            · intro _
              show (lastOf p, lastOf p, ((p.take (p.length - 1)).length : Int) == 0) = _
              rw [hp1]
              simp
          · have hf : (((p.take (p.length - 1)).length : Int) == 0) = false := beq_eq_false_iff_ne.mpr (by simp; omega)
            rw [hf] at hI
            refine ⟨_, (⟨#[]⟩, ⟨#[]⟩, false), hI, ?_, rfl, (fun h => by cases h), hz, hz, he0, he0⟩
            exact evS (fun k => by rw [spec_l6Grown.f]) (evT hnm (evF (by simp) (evF (by omega) (evR rfl))))
    · have hw : ¬ (n = (m : Int) ∧ w = true) := fun h => hnm h.1
      by_cases hp0 : p.length = 0
      · refine ⟨(⟨#[]⟩, ⟨#[]⟩, false), (⟨#[]⟩, ⟨#[]⟩, false), ?_, ?_, rfl, fun _ => rfl, he0, he0, he0, he0⟩
        · exact evS (fun k => by rw [impl_grown.f]) (evF hw (evF (by omega) (evR rfl)))
        · exact evS (fun k => by rw [spec_l6Grown.f]) (evF hnm (evT (by omega) (evR rfl)))
      · obtain ⟨g1, g2⟩ := hf_lt (n := m) (by omega)
        have hA := hf_impl (n := m) (by omega) (by omega)
        have hB := hf_spec (n := m) (by omega) (by omega)
        have hz := lastOf_fit hF hp0
        have hz' : (rdOf ByteArray.empty p ((p.length - 1 : Nat) : Int)).size ≤ 10000000000 := hz
        have ew : wrap64 ((p.length : Int) - 1) = ((p.length - 1 : Nat) : Int) := by rw [w64 (by omega)]; omega
        have et : (((p.length - 1 : Nat) : Int)).toNat = p.length - 1 := by omega
        have hT : (p.take (p.length - 1)).length ≤ 1000000000 := by simp; omega
        have hpl : ¬ (p.length : Int) = 0 := by omega
        have hpp : 0 < p.length := by omega
        have hp9 : p.length ≤ 9000000000000000000 := by omega
        have n32 : ∀ u v : ByteArray, (node u v).size ≤ 10000000000 := fun u v => by rw [node_size]; decide
        generalize hf m = c at *
        by_cases hic : n ≤ c
        · obtain ⟨⟨x1, x2, x3⟩, ⟨y1, y2, y3⟩, e1, e2, q1, q2, z1, z2, z3, z4⟩ := ih c (by omega) n w (p.take (p.length - 1)) (by omega) h1 hic (hF.take _) hT
          refine ⟨(x1, node x2 (lastOf p), x3), (y1, node y2 (lastOf p), y3), ?_, ?_, q1, ?_, z1, n32 _ _, z3, n32 _ _⟩
          · refine evS (fun k => by rw [impl_grown.f]) ?_
            exact evF hw (evT hpp (evT hp9 (evF hnm (evB hA (evT hic (evB e1 (evB (implNode_ev _ _ z2 hz') (evR rfl))))))))
          · refine evS (fun k => by rw [spec_l6Grown.f]) ?_
            rw [ew, et]
            exact evF hnm (evF hpl (evT (by omega) (evT (by omega) (evT (by omega) (evB hB (evT hic (evB e2 (evB (specNode_ev _ _ z4 hz') (evR rfl)))))))))
          · intro h
            have := q2 h
            simp only [Prod.mk.injEq] at this
            obtain ⟨rfl, rfl, rfl⟩ := this
            rfl
        · have w1 : wrap64 (n - (c : Int)) = n - c := w64 (by omega)
          have w2 : wrap64 ((m : Int) - (c : Int)) = ((m - c : Nat) : Int) := by rw [w64 (by omega)]; omega
          obtain ⟨⟨x1, x2, x3⟩, ⟨y1, y2, y3⟩, e1, e2, q1, q2, z1, z2, z3, z4⟩ := ih (m - c) (by omega) (n - c) false (p.take (p.length - 1)) (by omega) (by omega) (by omega) (hF.take _) hT
          refine ⟨(node (lastOf p) x1, node (lastOf p) x2, x3), (node (lastOf p) y1, node (lastOf p) y2, y3), ?_, ?_, q1, ?_, n32 _ _, n32 _ _, n32 _ _, n32 _ _⟩
          · refine evS (fun k => by rw [impl_grown.f]) (evF hw (evT hpp (evT hp9 (evF hnm (evB hA (evF hic ?_))))))
            rw [w1, w2]
            exact evB e1 (evB (implNode_ev _ _ hz' z1) (evB (implNode_ev _ _ hz' z2) (evR rfl)))
          · refine evS (fun k => by rw [spec_l6Grown.f]) ?_
            rw [ew, et]
            refine evF hnm (evF hpl (evT (by omega) (evT (by omega) (evT (by omega) (evB hB (evF hic ?_))))))
            rw [w1, w2]
            exact evB e2 (evB (specNode_ev _ _ hz' z3) (evB (specNode_ev _ _ hz' z4) (evR rfl)))
          · intro h
            have := q2 h
            simp only [Prod.mk.injEq] at this
            obtain ⟨rfl, rfl, rfl⟩ := this
            rfl
theorem checkGrow_both (a b : ByteArray) (ha : a.size ≤ 10000000000) (n m : Int) (p : List ByteArray) (hF : Fit p) (hp : p.length ≤ 1000000000) :
    ∃ r, Ev (fun k => impl_CheckGrow.f k n m a b p) r ∧ Ev (fun k => spec_CheckGrow.f k n m a b p) r := by
  unfold impl_CheckGrow.f spec_CheckGrow.f
  rw [rng_impl, rng_impl, rng_spec]
  by_cases h1 : 0 ≤ m ∧ m ≤ 200
  · rw [decide_eq_true h1, w64 (x := m - 1) (by omega), rng_spec]
    by_cases hnm : n = m
    · subst hnm
      rw [decide_eq_true (show 0 ≤ n ∧ n ≤ n from ⟨h1.1, Int.le_refl _⟩)]
      by_cases hab : a.toList = b.toList
      · exact ⟨(p.length : Int) == 0, evC rfl (evT rfl (evC rfl (evS (fun k => by rw [impl_CheckGrow.j0]) (evF (by simp) (evT rfl (evT hab (evR rfl))))))), evC rfl (evT rfl (evT rfl (evT hab (evR rfl))))⟩
      · exact ⟨false, evC rfl (evT rfl (evC rfl (evS (fun k => by rw [impl_CheckGrow.j0]) (evF (by simp) (evT rfl (evF hab (evR rfl))))))), evC rfl (evT rfl (evT rfl (evF hab (evR rfl))))⟩
    · by_cases h2 : 1 ≤ n ∧ n ≤ m - 1
      · rw [decide_eq_true h2, decide_eq_true (show 0 ≤ n ∧ n ≤ m by omega)]
        obtain ⟨c, rfl⟩ := Int.eq_ofNat_of_zero_le h1.1
        obtain ⟨⟨x1, x2, x3⟩, ⟨y1, y2, y3⟩, e1, e2, q1, q2, _⟩ := grown_both a ha c n true p (by omega) h2.1 (by omega) hF hp
        have hn0 : ¬ n = 0 := by omega
        cases x3 with
        | true =>
          have := q2 rfl
          simp only [Prod.mk.injEq] at this
          obtain ⟨rfl, rfl, rfl⟩ := this
          by_cases hab : x1.toList = a.toList
          · exact ⟨x2.toList == b.toList, evC rfl (evT rfl (evC rfl (evS (fun k => by rw [impl_CheckGrow.j0]) (evF (by simp) (evF hnm (evF hn0 (evB e1 (evT rfl (evT hab (evR rfl)))))))))), evC rfl (evT rfl (evF hnm (evC rfl (evT rfl (evB e2 (evT rfl (evT hab (evR rfl))))))))⟩
          · exact ⟨false, evC rfl (evT rfl (evC rfl (evS (fun k => by rw [impl_CheckGrow.j0]) (evF (by simp) (evF hnm (evF hn0 (evB e1 (evT rfl (evF hab (evR rfl)))))))))), evC rfl (evT rfl (evF hnm (evC rfl (evT rfl (evB e2 (evT rfl (evF hab (evR rfl))))))))⟩
        | false =>
          obtain rfl : y3 = false := q1.symm
          exact ⟨false, evC rfl (evT rfl (evC rfl (evS (fun k => by rw [impl_CheckGrow.j0]) (evF (by simp) (evF hnm (evF hn0 (evB e1 (evF Bool.false_ne_true (evR rfl))))))))), evC rfl (evT rfl (evF hnm (evC rfl (evT rfl (evB e2 (evF Bool.false_ne_true (evR rfl)))))))⟩
      · rw [decide_eq_false h2]
        refine ⟨false, ?_, evC rfl (evT rfl (evF hnm (evC rfl (evF Bool.false_ne_true (evR rfl)))))⟩
        by_cases h3 : 0 ≤ n ∧ n ≤ m
        · rw [decide_eq_true h3]
          exact evC rfl (evT rfl (evC rfl (evS (fun k => by rw [impl_CheckGrow.j0]) (evF (by simp) (evF hnm (evT (by omega) (evR rfl)))))))
        · rw [decide_eq_false h3]
          refine evC rfl (evT rfl (evC rfl ?_))
          exact evS (fun k => by rw [impl_CheckGrow.j0]) (evT (by simp) (evR rfl))
  · rw [decide_eq_false h1]
    exact ⟨false, evC rfl (evF Bool.false_ne_true (evS (fun k => by rw [impl_CheckGrow.j0]) (evT rfl (evR rfl)))), evC rfl (evF Bool.false_ne_true (evR rfl))⟩
end Go.Proofs.Ytmkhhnfmahdijaa.Z

/- The law FnExactCheckGrow, as a plain statement: the program's CheckGrow answers as the reference's, and leaves its argument alone. Conditions: those of the row's reading alone. -/
namespace Go.Proofs.Ytmkhhnfmahdijaa.Pure
open Go.RowKit Go.Proofs.Ytmkhhnfmahdijaa.X Go.Proofs.Ytmkhhnfmahdijaa.Z Go.Proofs.YtmkhhnfmahdijaaW.PrintWords Go.Proofs.YtmkhhnfmahdijaaW.PrintLast
theorem FnExactCheckGrow : laws_FnExactCheckGrow.Pure := by
  intro n m a b l h1 h2 h3 h6 h4 h5
  refine Ev.rounds ?_
  unfold laws_FnExactCheckGrow.f
  refine evI (fun _ => evR rfl) (fun hs => evI (fun _ => evR rfl) (fun hr => ?_))
  obtain ⟨q, hq, hq2⟩ := szStringS_ev l h4 h5 1048576 (by omega) (by omega)
  refine evB hq (evI (fun _ => evR rfl) (fun hn => ?_))
  have hT := toStringS_ev l (by omega)
  have hF : Fit l := fun y hy => by have := total_mem hy; omega
  obtain ⟨r, i, s⟩ := checkGrow_both a b (by omega) n m l hF (by omega)
  refine evB hT (evB s (evB hT (evB i (evF (by simp) (evB hT (evB (eqStringS_same l (by omega)) (evT rfl (evR rfl))))))))
end Go.Proofs.Ytmkhhnfmahdijaa.Pure

/- Values that come in as data (strings' slices, structs, slices of structs, nested) are of the printer's kinds: one lemma a make of type. Plain lemmas for the rows of laws over such parameters. No conditions beyond what each lemma names. -/
set_option linter.unusedVariables false
namespace Go.Proofs.Ytmkhhnfmahdijaa.Y
open Go.RowKit Go.Proofs.YtmkhhnfmahdijaaW.PrintWords Go.ChangeShapes Go.WideShapes Go.Deep

/-- What is read as data of type T is of kind d, and G holds of what it says. -/
def Opn {α : Type} (P : Program) (d : Kd α) (T : TypeId) (G : α → Prop) : Prop :=
  ∀ {H : Type} (enc : TypeId × Value → H) (w : World) (spare : Nat → Bool) (held : Bool) (fuel : Nat) (cs : List Value) (x : DataW H × List MemPlace), DataW.trod enc P w 0 spare held fuel T cs = some x → ∃ y, d.K w y cs ∧ G y

theorem Opn.int {P : Program} {T : TypeId} {k : IntKind} (h : P.underlying T = some (.int k)) : Opn P (Kd.int k) T (fun n => (Lit.int k n).wf = true) := by
  intro H enc w spare held fuel cs x hx
  obtain ⟨n, rfl, _, hn⟩ := DataW.trod_int h hx
  exact ⟨n, rfl, hn⟩
theorem Opn.bool {P : Program} {T : TypeId} (h : P.underlying T = some .bool) : Opn P Kd.bool T (fun _ => True) := by
  intro H enc w spare held fuel cs x hx
  obtain ⟨n, rfl, _⟩ := DataW.trod_bool h hx
  exact ⟨n, rfl, trivial⟩
theorem Opn.string {P : Program} {T : TypeId} (h : P.underlying T = some .string) : Opn P Kd.string T (fun s => s.size ≤ maxLen) := by
  intro H enc w spare held fuel cs x hx
  obtain ⟨s, rfl, _, hs⟩ := DataW.trod_string h hx
  exact ⟨s, rfl, hs⟩
theorem Opn.slice {α : Type} {P : Program} {d : Kd α} {T e : TypeId} {G : α → Prop} [Inhabited α] (h : P.underlying T = some (.slice e)) (he : P.cellsOf e = d.sz) (ho : Opn P d e G) :
    Opn P (Kd.slice e d) T (fun l => l.length ≤ maxLen ∧ ∀ y, y ∈ l → G y) := by
  intro H enc w spare held fuel cs x hx
  rcases open_slice h hx with ⟨rfl, _⟩ | ⟨a, len, cap, m, n, D, Pl, rfl, _, hl, hm, hmm, _, hel⟩
  · exact ⟨[], ⟨none, 0, rfl, Nat.le_refl _, rfl, by simp, fun hn => absurd hn (Nat.lt_irrefl 0)⟩, by simp, fun y hy => by cases hy⟩
  · have hlm : len ≤ m := by rw [hmm]; split <;> omega
    have each : ∀ i, i < len → ∃ y, (∃ c, c.length = d.sz ∧ d.K w y c ∧ ∀ j u, c[j]? = some u → w.cell? (a.add (i * d.sz + j)) = some u) ∧ G y := by
      intro i hi
      obtain ⟨c, hc, ht⟩ := hel i (by omega)
      obtain ⟨y, hk, hg⟩ := ho enc w spare held n c _ ht
      obtain ⟨_, hlen, hcell⟩ := World.cells?_some hc
      refine ⟨y, ⟨c, hlen.trans he, hk, fun j u hu => ?_⟩, hg⟩
      have hj : j < P.cellsOf e := by rw [← hlen]; exact (List.getElem?_eq_some_iff.1 hu).1
      have := hcell j hj
      rw [Go.Deep.add_add, hu, he] at this
      exact this
    obtain ⟨f, hf⟩ := choose_lt each
    have hlen : ((List.range len).map f).length = len := by simp
    have hm' : len ≤ maxLen := Nat.le_trans hl hm
    refine ⟨(List.range len).map f, ⟨some a, cap, by rw [hlen], by rw [hlen]; exact hl, by rw [hlen], by rw [hlen]; unfold maxLen at hm'; exact hm', fun _ => ⟨a, rfl, fun j p hp => ?_⟩⟩, by rw [hlen]; exact hm', fun y hy => ?_⟩
    · obtain ⟨hj, rfl⟩ := List.getElem?_eq_some_iff.1 hp
      rw [hlen] at hj
      simp only [List.getElem_map, List.getElem_range]
      exact (hf j hj).1
    · obtain ⟨i, hi, rfl⟩ := List.mem_map.1 hy
      exact (hf i (List.mem_range.1 hi)).2

/-- The fields from cell 'off' on. -/
def FOpn {α : Type} (P : Program) (d : Kd α) (off : Nat) (fs : List Field) (G : α → Prop) : Prop :=
  ∀ {H : Type} (enc : TypeId × Value → H) (w : World) (spare : Nat → Bool) (held : Bool) (fuel : Nat) (cs : List Value),
    (∀ f, f ∈ fs → ∃ x, DataW.trod enc P w 0 spare held fuel f.type ((cs.drop f.offset).take (P.cellsOf f.type)) = some x) → cs.length = off + d.sz → ∃ y, d.K w y (cs.drop off) ∧ G y
theorem FOpn.one {α : Type} {P : Program} {d : Kd α} {off : Nat} {f : Field} {G : α → Prop} (hf : f.offset = off) (hc : P.cellsOf f.type = d.sz) (ho : Opn P d f.type G) : FOpn P d off [f] G := by
  intro H enc w spare held fuel cs hx hl
  obtain ⟨x, hx⟩ := hx f (by simp)
  rw [hf, hc, List.take_of_length_le (by simp; omega)] at hx
  exact ho enc w spare held fuel _ x hx
theorem FOpn.cons {α β : Type} {P : Program} {d : Kd α} {d' : Kd β} {off : Nat} {f : Field} {fs : List Field} {G : α → Prop} {G' : β → Prop} (hf : f.offset = off) (hc : P.cellsOf f.type = d.sz) (ho : Opn P d f.type G)
    (hs : FOpn P d' (off + d.sz) fs G') : FOpn P (Kd.pair d d') off (f :: fs) (fun y => G y.1 ∧ G' y.2) := by
  intro H enc w spare held fuel cs hx hl
  have hl' : cs.length = off + (d.sz + d'.sz) := hl
  obtain ⟨x, h1⟩ := hx f (by simp)
  rw [hf, hc] at h1
  obtain ⟨y, hy, gy⟩ := ho enc w spare held fuel _ x h1
  obtain ⟨z, hz, gz⟩ := hs enc w spare held fuel cs (fun g hg => hx g (List.mem_cons_of_mem _ hg)) (by omega)
  refine ⟨(y, z), ⟨_, _, ?_, hy, hz⟩, gy, gz⟩
  rw [← List.drop_drop, List.take_append_drop]
theorem Opn.struct {α β : Type} {P : Program} {d : Kd α} {T : TypeId} {fs : Array Field} {fl : List Field} {G : α → Prop} {G' : β → Prop} {proj : β → α} (mk : α → β) (h : P.underlying T = some (.struct fs)) (hfl : fs.toList = fl) (hc : P.cellsOf T = d.sz)
    (hmk : ∀ y, proj (mk y) = y) (hG : ∀ y, G y → G' (mk y)) (hs : FOpn P d 0 fl G) : Opn P (Kd.iso d proj) T G' := by
  intro H enc w spare held fuel cs x hx
  obtain ⟨xs, n, rfl, _, hlen, hxs, hall⟩ := DataW.trod_struct h hx
  obtain ⟨y, hy, gy⟩ := hs enc w spare held n cs (fun f hf => by
    rw [← hfl] at hf
    obtain ⟨i, hi, he⟩ := List.getElem_of_mem hf
    have hi' : i < fs.size := by simpa using hi
    have h1 : fs[i]? = some f := by rw [Array.getElem?_eq_getElem hi']; simpa using he
    exact ⟨_, (hall i f h1).trans (List.getElem?_eq_getElem (by omega))⟩) (by rw [hlen, hc, Nat.zero_add])
  refine ⟨mk y, ?_, hG y gy⟩
  show d.K w (proj (mk y)) cs
  rw [hmk]
  exact hy

/-- A parameter that is a slice. -/
theorem Opn.arg_slice {α : Type} {P : Program} {d : Kd α} {T e : TypeId} {G : α → Prop} [Inhabited α] (h : P.underlying T = some (.slice e)) (he : P.cellsOf e = d.sz) (ho : Opn P d e G)
    {H : Type} {enc : TypeId × Value → H} {w : World} {spare : Nat → Bool} {held : Bool} {v : Value} {D : DataW H} {ps : List MemPlace} {r : Reach} {b : Nat} (hv : Value.okWide P w r b T v) (hx : DataW.Trod enc P w 0 spare held T v D ps) :
    ∃ (A : Option Addr) (c : Nat) (l : List α), v = .slice A l.length c ∧ l.length ≤ c ∧ d.C w A l.length l ∧ l.length ≤ maxLen ∧ ∀ y, y ∈ l → G y := by
  obtain ⟨a, len, cap, rfl⟩ := okWide_slice h hv
  obtain ⟨fuel, hf⟩ := hx
  obtain ⟨l, ⟨A, c, hcs, hlc, hC⟩, hg1, hg2⟩ := Opn.slice h he ho enc w spare held fuel _ _ hf
  have hcs' : [Value.slice a len cap] = [Value.slice A l.length c] := hcs
  injection hcs' with h1 _
  exact ⟨A, c, l, h1, hlc, hC, hg1, hg2⟩
/-- A parameter that is a struct. -/
theorem Opn.arg_struct {α : Type} {P : Program} {d : Kd α} {T : TypeId} {G : α → Prop} {fs : Array Field} (hu : P.underlying T = some (.struct fs)) (ho : Opn P d T G)
    {H : Type} {enc : TypeId × Value → H} {w : World} {spare : Nat → Bool} {held : Bool} {v : Value} {D : DataW H} {ps : List MemPlace} {r : Reach} {b : Nat} (hv : Value.okWide P w r b T v) (hx : DataW.Trod enc P w 0 spare held T v D ps) :
    ∃ (cs : List Value) (y : α), v = .agg cs.toArray ∧ d.K w y cs ∧ G y := by
  obtain ⟨cs, rfl, _⟩ := okWide_struct hu hv
  obtain ⟨fuel, hf⟩ := hx
  obtain ⟨y, hk, hg⟩ := ho enc w spare held fuel _ _ hf
  exact ⟨cs.toList, y, by simp, hk, hg⟩
end Go.Proofs.Ytmkhhnfmahdijaa.Y

/- Three closed facts of the rows of this seat (how the program may be entered), by the first words of the translation's head row. No conditions. -/
namespace Go.Proofs.Ytmkhhnfmahdijaa.Y
open Go.ChangeShapes Go.WideShapes Go.ChangeAt Go.RowKit
def tailSigns : List Char := [Char.ofNat 108, Char.ofNat 111, Char.ofNat 111, Char.ofNat 112, Char.ofNat 46, Char.ofNat 101, Char.ofNat 120, Char.ofNat 97, Char.ofNat 109, Char.ofNat 112, Char.ofNat 108, Char.ofNat 101, Char.ofNat 47, Char.ofNat 103, Char.ofNat 48, Char.ofNat 48, Char.ofNat 50, Char.ofNat 51, Char.ofNat 51, Char.ofNat 47, Char.ofNat 108, Char.ofNat 97, Char.ofNat 119, Char.ofNat 115, Char.ofNat 46, Char.ofNat 70, Char.ofNat 110, Char.ofNat 69, Char.ofNat 120, Char.ofNat 97, Char.ofNat 99, Char.ofNat 116, Char.ofNat 67, Char.ofNat 111, Char.ofNat 110, Char.ofNat 115, Char.ofNat 116, Char.ofNat 97, Char.ofNat 110, Char.ofNat 116, Char.ofNat 115, Char.ofNat 32, Char.ofNat 108, Char.ofNat 111, Char.ofNat 111, Char.ofNat 112, Char.ofNat 46, Char.ofNat 101, Char.ofNat 120, Char.ofNat 97, Char.ofNat 109, Char.ofNat 112, Char.ofNat 108, Char.ofNat 101, Char.ofNat 47, Char.ofNat 103, Char.ofNat 48, Char.ofNat 48, Char.ofNat 50, Char.ofNat 51, Char.ofNat 51, Char.ofNat 47, Char.ofNat 108, Char.ofNat 97, Char.ofNat 119, Char.ofNat 115, Char.ofNat 46, Char.ofNat 70, Char.ofNat 110, Char.ofNat 69, Char.ofNat 120, Char.ofNat 97, Char.ofNat 99, Char.ofNat 116, Char.ofNat 72, Char.ofNat 101, Char.ofNat 120, Char.ofNat 79, Char.ofNat 102, Char.ofNat 32, Char.ofNat 108, Char.ofNat 111, Char.ofNat 111, Char.ofNat 112, Char.ofNat 46, Char.ofNat 101, Char.ofNat 120, Char.ofNat 97, Char.ofNat 109, Char.ofNat 112, Char.ofNat 108, Char.ofNat 101, Char.ofNat 47, Char.ofNat 103, Char.ofNat 48, Char.ofNat 48, Char.ofNat 50, Char.ofNat 51, Char.ofNat 51, Char.ofNat 47, Char.ofNat 108, Char.ofNat 97, Char.ofNat 119, Char.ofNat 115, Char.ofNat 46, Char.ofNat 70, Char.ofNat 110, Char.ofNat 69, Char.ofNat 120, Char.ofNat 97, Char.ofNat 99, Char.ofNat 116, Char.ofNat 85, Char.ofNat 110, Char.ofNat 72, Char.ofNat 101, Char.ofNat 120, Char.ofNat 32, Char.ofNat 108, Char.ofNat 111, Char.ofNat 111, Char.ofNat 112, Char.ofNat 46, Char.ofNat 101, Char.ofNat 120, Char.ofNat 97, Char.ofNat 109, Char.ofNat 112, Char.ofNat 108, Char.ofNat 101, Char.ofNat 47, Char.ofNat 103, Char.ofNat 48, Char.ofNat 48, Char.ofNat 50, Char.ofNat 51, Char.ofNat 51, Char.ofNat 47, Char.ofNat 108, Char.ofNat 97, Char.ofNat 119, Char.ofNat 115, Char.ofNat 46, Char.ofNat 70, Char.ofNat 110, Char.ofNat 69, Char.ofNat 120, Char.ofNat 97, Char.ofNat 99, Char.ofNat 116, Char.ofNat 71, Char.ofNat 101, Char.ofNat 116, Char.ofNat 78, Char.ofNat 117, Char.ofNat 109, Char.ofNat 32, Char.ofNat 108, Char.ofNat 111, Char.ofNat 111, Char.ofNat 112, Char.ofNat 46, Char.ofNat 101, Char.ofNat 120, Char.ofNat 97, Char.ofNat 109, Char.ofNat 112, Char.ofNat 108, Char.ofNat 101, Char.ofNat 47, Char.ofNat 103, Char.ofNat 48, Char.ofNat 48, Char.ofNat 50, Char.ofNat 51, Char.ofNat 51, Char.ofNat 47, Char.ofNat 108, Char.ofNat 97, Char.ofNat 119, Char.ofNat 115, Char.ofNat 46, Char.ofNat 70, Char.ofNat 110, Char.ofNat 69, Char.ofNat 120, Char.ofNat 97, Char.ofNat 99, Char.ofNat 116, Char.ofNat 80, Char.ofNat 97, Char.ofNat 100, Char.ofNat 100, Char.ofNat 101, Char.ofNat 100, Char.ofNat 32, Char.ofNat 108, Char.ofNat 111, Char.ofNat 111, Char.ofNat 112, Char.ofNat 46, Char.ofNat 101, Char.ofNat 120, Char.ofNat 97, Char.ofNat 109, Char.ofNat 112, Char.ofNat 108, Char.ofNat 101, Char.ofNat 47, Char.ofNat 103, Char.ofNat 48, Char.ofNat 48, Char.ofNat 50, Char.ofNat 51, Char.ofNat 51, Char.ofNat 47, Char.ofNat 108, Char.ofNat 97, Char.ofNat 119, Char.ofNat 115, Char.ofNat 46, Char.ofNat 70, Char.ofNat 110, Char.ofNat 69, Char.ofNat 120, Char.ofNat 97, Char.ofNat 99, Char.ofNat 116, Char.ofNat 71, Char.ofNat 101, Char.ofNat 116, Char.ofNat 84, Char.ofNat 101, Char.ofNat 120, Char.ofNat 116, Char.ofNat 32, Char.ofNat 108, Char.ofNat 111, Char.ofNat 111, Char.ofNat 112, Char.ofNat 46, Char.ofNat 101, Char.ofNat 120, Char.ofNat 97, Char.ofNat 109, Char.ofNat 112, Char.ofNat 108, Char.ofNat 101, Char.ofNat 47, Char.ofNat 103, Char.ofNat 48, Char.ofNat 48, Char.ofNat 50, Char.ofNat 51, Char.ofNat 51, Char.ofNat 47, Char.ofNat 108, Char.ofNat 97, Char.ofNat 119, Char.ofNat 115, Char.ofNat 46, Char.ofNat 70, Char.ofNat 110, Char.ofNat 69, Char.ofNat 120, Char.ofNat 97, Char.ofNat 99, Char.ofNat 116, Char.ofNat 80, Char.ofNat 117, Char.ofNat 116, Char.ofNat 78, Char.ofNat 117, Char.ofNat 109, Char.ofNat 32, Char.ofNat 108, Char.ofNat 111, Char.ofNat 111, Char.ofNat 112, Char.ofNat 46, Char.ofNat 101, Char.ofNat 120, Char.ofNat 97, Char.ofNat 109, Char.ofNat 112, Char.ofNat 108, Char.ofNat 101, Char.ofNat 47, Char.ofNat 103, Char.ofNat 48, Char.ofNat 48, Char.ofNat 50, Char.ofNat 51, Char.ofNat 51, Char.ofNat 47, Char.ofNat 108, Char.ofNat 97, Char.ofNat 119, Char.ofNat 115, Char.ofNat 46, Char.ofNat 70, Char.ofNat 110, Char.ofNat 69, Char.ofNat 120, Char.ofNat 97, Char.ofNat 99, Char.ofNat 116, Char.ofNat 80, Char.ofNat 117, Char.ofNat 116, Char.ofNat 84, Char.ofNat 101, Char.ofNat 120, Char.ofNat 116, Char.ofNat 32, Char.ofNat 108, Char.ofNat 111, Char.ofNat 111, Char.ofNat 112, Char.ofNat 46, Char.ofNat 101, Char.ofNat 120, Char.ofNat 97, Char.ofNat 109, Char.ofNat 112, Char.ofNat 108, Char.ofNat 101, Char.ofNat 47, Char.ofNat 103, Char.ofNat 48, Char.ofNat 48, Char.ofNat 50, Char.ofNat 51, Char.ofNat 51, Char.ofNat 47, Char.ofNat 108, Char.ofNat 97, Char.ofNat 119, Char.ofNat 115, Char.ofNat 46, Char.ofNat 70, Char.ofNat 110, Char.ofNat 78, Char.ofNat 117, Char.ofNat 109, Char.ofNat 115, Char.ofNat 32, Char.ofNat 108, Char.ofNat 111, Char.ofNat 111, Char.ofNat 112, Char.ofNat 46, Char.ofNat 101, Char.ofNat 120, Char.ofNat 97, Char.ofNat 109, Char.ofNat 112, Char.ofNat 108, Char.ofNat 101, Char.ofNat 47, Char.ofNat 103, Char.ofNat 48, Char.ofNat 48, Char.ofNat 50, Char.ofNat 51, Char.ofNat 51, Char.ofNat 47, Char.ofNat 108, Char.ofNat 97, Char.ofNat 119, Char.ofNat 115, Char.ofNat 46, Char.ofNat 70, Char.ofNat 110, Char.ofNat 69, Char.ofNat 120, Char.ofNat 97, Char.ofNat 99, Char.ofNat 116, Char.ofNat 69, Char.ofNat 100, Char.ofNat 103, Char.ofNat 101, Char.ofNat 79, Char.ofNat 107, Char.ofNat 32, Char.ofNat 108, Char.ofNat 111, Char.ofNat 111, Char.ofNat 112, Char.ofNat 46, Char.ofNat 101, Char.ofNat 120, Char.ofNat 97, Char.ofNat 109, Char.ofNat 112, Char.ofNat 108, Char.ofNat 101, Char.ofNat 47, Char.ofNat 103, Char.ofNat 48, Char.ofNat 48, Char.ofNat 50, Char.ofNat 51, Char.ofNat 51, Char.ofNat 47, Char.ofNat 108, Char.ofNat 97, Char.ofNat 119, Char.ofNat 115, Char.ofNat 46, Char.ofNat 70, Char.ofNat 110, Char.ofNat 69, Char.ofNat 120, Char.ofNat 97, Char.ofNat 99, Char.ofNat 116, Char.ofNat 80, Char.ofNat 117, Char.ofNat 116, Char.ofNat 84, Char.ofNat 101, Char.ofNat 120, Char.ofNat 116, Char.ofNat 115, Char.ofNat 32, Char.ofNat 108, Char.ofNat 111, Char.ofNat 111, Char.ofNat 112, Char.ofNat 46, Char.ofNat 101, Char.ofNat 120, Char.ofNat 97, Char.ofNat 109, Char.ofNat 112, Char.ofNat 108, Char.ofNat 101, Char.ofNat 47, Char.ofNat 103, Char.ofNat 48, Char.ofNat 48, Char.ofNat 50, Char.ofNat 51, Char.ofNat 51, Char.ofNat 47, Char.ofNat 108, Char.ofNat 97, Char.ofNat 119, Char.ofNat 115, Char.ofNat 46, Char.ofNat 70, Char.ofNat 110, Char.ofNat 84, Char.ofNat 101, Char.ofNat 120, Char.ofNat 116, Char.ofNat 115, Char.ofNat 32, Char.ofNat 108, Char.ofNat 111, Char.ofNat 111, Char.ofNat 112, Char.ofNat 46, Char.ofNat 101, Char.ofNat 120, Char.ofNat 97, Char.ofNat 109, Char.ofNat 112, Char.ofNat 108, Char.ofNat 101, Char.ofNat 47, Char.ofNat 103, Char.ofNat 48, Char.ofNat 48, Char.ofNat 50, Char.ofNat 51, Char.ofNat 51, Char.ofNat 47, Char.ofNat 108, Char.ofNat 97, Char.ofNat 119, Char.ofNat 115, Char.ofNat 46, Char.ofNat 70, Char.ofNat 110, Char.ofNat 69, Char.ofNat 120, Char.ofNat 97, Char.ofNat 99, Char.ofNat 116, Char.ofNat 71, Char.ofNat 101, Char.ofNat 116, Char.ofNat 84, Char.ofNat 101, Char.ofNat 120, Char.ofNat 116, Char.ofNat 115, Char.ofNat 32, Char.ofNat 108, Char.ofNat 111, Char.ofNat 111, Char.ofNat 112, Char.ofNat 46, Char.ofNat 101, Char.ofNat 120, Char.ofNat 97, Char.ofNat 109, Char.ofNat 112, Char.ofNat 108, Char.ofNat 101, Char.ofNat 47, Char.ofNat 103, Char.ofNat 48, Char.ofNat 48, Char.ofNat 50, Char.ofNat 51, Char.ofNat 51, Char.ofNat 47, Char.ofNat 108, Char.ofNat 97, Char.ofNat 119, Char.ofNat 115, Char.ofNat 46, Char.ofNat 70, Char.ofNat 110, Char.ofNat 82, Char.ofNat 111, Char.ofNat 111, Char.ofNat 116, Char.ofNat 115, Char.ofNat 32, Char.ofNat 108, Char.ofNat 111, Char.ofNat 111, Char.ofNat 112, Char.ofNat 46, Char.ofNat 101, Char.ofNat 120, Char.ofNat 97, Char.ofNat 109, Char.ofNat 112, Char.ofNat 108, Char.ofNat 101, Char.ofNat 47, Char.ofNat 103, Char.ofNat 48, Char.ofNat 48, Char.ofNat 50, Char.ofNat 51, Char.ofNat 51, Char.ofNat 47, Char.ofNat 108, Char.ofNat 97, Char.ofNat 119, Char.ofNat 115, Char.ofNat 46, Char.ofNat 70, Char.ofNat 110, Char.ofNat 69, Char.ofNat 120, Char.ofNat 97, Char.ofNat 99, Char.ofNat 116, Char.ofNat 76, Char.ofNat 101, Char.ofNat 97, Char.ofNat 102, Char.ofNat 72, Char.ofNat 97, Char.ofNat 115, Char.ofNat 104, Char.ofNat 32, Char.ofNat 108, Char.ofNat 111, Char.ofNat 111, Char.ofNat 112, Char.ofNat 46, Char.ofNat 101, Char.ofNat 120, Char.ofNat 97, Char.ofNat 109, Char.ofNat 112, Char.ofNat 108, Char.ofNat 101, Char.ofNat 47, Char.ofNat 103, Char.ofNat 48, Char.ofNat 48, Char.ofNat 50, Char.ofNat 51, Char.ofNat 51, Char.ofNat 47, Char.ofNat 108, Char.ofNat 97, Char.ofNat 119, Char.ofNat 115, Char.ofNat 46, Char.ofNat 70, Char.ofNat 110, Char.ofNat 69, Char.ofNat 120, Char.ofNat 97, Char.ofNat 99, Char.ofNat 116, Char.ofNat 78, Char.ofNat 111, Char.ofNat 100, Char.ofNat 101, Char.ofNat 72, Char.ofNat 97, Char.ofNat 115, Char.ofNat 104, Char.ofNat 32, Char.ofNat 108, Char.ofNat 111, Char.ofNat 111, Char.ofNat 112, Char.ofNat 46, Char.ofNat 101, Char.ofNat 120, Char.ofNat 97, Char.ofNat 109, Char.ofNat 112, Char.ofNat 108, Char.ofNat 101, Char.ofNat 47, Char.ofNat 103, Char.ofNat 48, Char.ofNat 48, Char.ofNat 50, Char.ofNat 51, Char.ofNat 51, Char.ofNat 47, Char.ofNat 108, Char.ofNat 97, Char.ofNat 119, Char.ofNat 115, Char.ofNat 46, Char.ofNat 70, Char.ofNat 110, Char.ofNat 69, Char.ofNat 120, Char.ofNat 97, Char.ofNat 99, Char.ofNat 116, Char.ofNat 68, Char.ofNat 105, Char.ofNat 103, Char.ofNat 101, Char.ofNat 115, Char.ofNat 116, Char.ofNat 32, Char.ofNat 108, Char.ofNat 111, Char.ofNat 111, Char.ofNat 112, Char.ofNat 46, Char.ofNat 101, Char.ofNat 120, Char.ofNat 97, Char.ofNat 109, Char.ofNat 112, Char.ofNat 108, Char.ofNat 101, Char.ofNat 47, Char.ofNat 103, Char.ofNat 48, Char.ofNat 48, Char.ofNat 50, Char.ofNat 51, Char.ofNat 51, Char.ofNat 47, Char.ofNat 108, Char.ofNat 97, Char.ofNat 119, Char.ofNat 115, Char.ofNat 46, Char.ofNat 70, Char.ofNat 110, Char.ofNat 80, Char.ofNat 97, Char.ofNat 116, Char.ofNat 104, Char.ofNat 115, Char.ofNat 32, Char.ofNat 108, Char.ofNat 111, Char.ofNat 111, Char.ofNat 112, Char.ofNat 46, Char.ofNat 101, Char.ofNat 120, Char.ofNat 97, Char.ofNat 109, Char.ofNat 112, Char.ofNat 108, Char.ofNat 101, Char.ofNat 47, Char.ofNat 103, Char.ofNat 48, Char.ofNat 48, Char.ofNat 50, Char.ofNat 51, Char.ofNat 51, Char.ofNat 47, Char.ofNat 108, Char.ofNat 97, Char.ofNat 119, Char.ofNat 115, Char.ofNat 46, Char.ofNat 70, Char.ofNat 110, Char.ofNat 71, Char.ofNat 114, Char.ofNat 111, Char.ofNat 119, Char.ofNat 110, Char.ofNat 32, Char.ofNat 108, Char.ofNat 111, Char.ofNat 111, Char.ofNat 112, Char.ofNat 46, Char.ofNat 101, Char.ofNat 120, Char.ofNat 97, Char.ofNat 109, Char.ofNat 112, Char.ofNat 108, Char.ofNat 101, Char.ofNat 47, Char.ofNat 103, Char.ofNat 48, Char.ofNat 48, Char.ofNat 50, Char.ofNat 51, Char.ofNat 51, Char.ofNat 47, Char.ofNat 108, Char.ofNat 97, Char.ofNat 119, Char.ofNat 115, Char.ofNat 46, Char.ofNat 70, Char.ofNat 110, Char.ofNat 69, Char.ofNat 120, Char.ofNat 97, Char.ofNat 99, Char.ofNat 116, Char.ofNat 82, Char.ofNat 111, Char.ofNat 111, Char.ofNat 116, Char.ofNat 79, Char.ofNat 102, Char.ofNat 32, Char.ofNat 108, Char.ofNat 111, Char.ofNat 111, Char.ofNat 112, Char.ofNat 46, Char.ofNat 101, Char.ofNat 120, Char.ofNat 97, Char.ofNat 109, Char.ofNat 112, Char.ofNat 108, Char.ofNat 101, Char.ofNat 47, Char.ofNat 103, Char.ofNat 48, Char.ofNat 48, Char.ofNat 50, Char.ofNat 51, Char.ofNat 51, Char.ofNat 47, Char.ofNat 108, Char.ofNat 97, Char.ofNat 119, Char.ofNat 115, Char.ofNat 46, Char.ofNat 70, Char.ofNat 110, Char.ofNat 68, Char.ofNat 105, Char.ofNat 103, Char.ofNat 101, Char.ofNat 115, Char.ofNat 116, Char.ofNat 115, Char.ofNat 32, Char.ofNat 108, Char.ofNat 111, Char.ofNat 111, Char.ofNat 112, Char.ofNat 46, Char.ofNat 101, Char.ofNat 120, Char.ofNat 97, Char.ofNat 109, Char.ofNat 112, Char.ofNat 108, Char.ofNat 101, Char.ofNat 47, Char.ofNat 103, Char.ofNat 48, Char.ofNat 48, Char.ofNat 50, Char.ofNat 51, Char.ofNat 51, Char.ofNat 47, Char.ofNat 108, Char.ofNat 97, Char.ofNat 119, Char.ofNat 115, Char.ofNat 46, Char.ofNat 70, Char.ofNat 110, Char.ofNat 69, Char.ofNat 120, Char.ofNat 97, Char.ofNat 99, Char.ofNat 116, Char.ofNat 67, Char.ofNat 104, Char.ofNat 101, Char.ofNat 99, Char.ofNat 107, Char.ofNat 73, Char.ofNat 110, Char.ofNat 32, Char.ofNat 108, Char.ofNat 111, Char.ofNat 111, Char.ofNat 112, Char.ofNat 46, Char.ofNat 101, Char.ofNat 120, Char.ofNat 97, Char.ofNat 109, Char.ofNat 112, Char.ofNat 108, Char.ofNat 101, Char.ofNat 47, Char.ofNat 103, Char.ofNat 48, Char.ofNat 48, Char.ofNat 50, Char.ofNat 51, Char.ofNat 51, Char.ofNat 47, Char.ofNat 108, Char.ofNat 97, Char.ofNat 119, Char.ofNat 115, Char.ofNat 46, Char.ofNat 70, Char.ofNat 110, Char.ofNat 69, Char.ofNat 120, Char.ofNat 97, Char.ofNat 99, Char.ofNat 116, Char.ofNat 67, Char.ofNat 104, Char.ofNat 101, Char.ofNat 99, Char.ofNat 107, Char.ofNat 71, Char.ofNat 114, Char.ofNat 111, Char.ofNat 119, Char.ofNat 32, Char.ofNat 108, Char.ofNat 111, Char.ofNat 111, Char.ofNat 112, Char.ofNat 46, Char.ofNat 101, Char.ofNat 120, Char.ofNat 97, Char.ofNat 109, Char.ofNat 112, Char.ofNat 108, Char.ofNat 101, Char.ofNat 47, Char.ofNat 103, Char.ofNat 48, Char.ofNat 48, Char.ofNat 50, Char.ofNat 51, Char.ofNat 51, Char.ofNat 47, Char.ofNat 108, Char.ofNat 97, Char.ofNat 119, Char.ofNat 115, Char.ofNat 46, Char.ofNat 70, Char.ofNat 110, Char.ofNat 69, Char.ofNat 120, Char.ofNat 97, Char.ofNat 99, Char.ofNat 116, Char.ofNat 73, Char.ofNat 110, Char.ofNat 80, Char.ofNat 97, Char.ofNat 116, Char.ofNat 104, Char.ofNat 32, Char.ofNat 108, Char.ofNat 111, Char.ofNat 111, Char.ofNat 112, Char.ofNat 46, Char.ofNat 101, Char.ofNat 120, Char.ofNat 97, Char.ofNat 109, Char.ofNat 112, Char.ofNat 108, Char.ofNat 101, Char.ofNat 47, Char.ofNat 103, Char.ofNat 48, Char.ofNat 48, Char.ofNat 50, Char.ofNat 51, Char.ofNat 51, Char.ofNat 47, Char.ofNat 108, Char.ofNat 97, Char.ofNat 119, Char.ofNat 115, Char.ofNat 46, Char.ofNat 70, Char.ofNat 110, Char.ofNat 69, Char.ofNat 120, Char.ofNat 97, Char.ofNat 99, Char.ofNat 116, Char.ofNat 71, Char.ofNat 114, Char.ofNat 111, Char.ofNat 119, Char.ofNat 80, Char.ofNat 97, Char.ofNat 116, Char.ofNat 104]
set_option maxRecDepth 100000 in
theorem initOrder_lit : Try.pinned.checked.prog.initOrder = "harness 2030bd7aaa6f326128d74bbc92777a6f2b658087ac5cca4802849e451c912101 cut at loop.example/g00233/laws.FnExactConstants loop.example/g00233/laws.FnExactHexOf loop.example/g00233/laws.FnExactUnHex loop.example/g00233/laws.FnExactGetNum loop.example/g00233/laws.FnExactPadded loop.example/g00233/laws.FnExactGetText loop.example/g00233/laws.FnExactPutNum loop.example/g00233/laws.FnExactPutText loop.example/g00233/laws.FnNums loop.example/g00233/laws.FnExactEdgeOk loop.example/g00233/laws.FnExactPutTexts loop.example/g00233/laws.FnTexts loop.example/g00233/laws.FnExactGetTexts loop.example/g00233/laws.FnRoots loop.example/g00233/laws.FnExactLeafHash loop.example/g00233/laws.FnExactNodeHash loop.example/g00233/laws.FnExactDigest loop.example/g00233/laws.FnPaths loop.example/g00233/laws.FnGrown loop.example/g00233/laws.FnExactRootOf loop.example/g00233/laws.FnDigests loop.example/g00233/laws.FnExactCheckIn loop.example/g00233/laws.FnExactCheckGrow loop.example/g00233/laws.FnExactInPath loop.example/g00233/laws.FnExactGrowPath" := by kernel_rfl
set_option maxRecDepth 100000 in
theorem lit_list : ("harness 2030bd7aaa6f326128d74bbc92777a6f2b658087ac5cca4802849e451c912101 cut at loop.example/g00233/laws.FnExactConstants loop.example/g00233/laws.FnExactHexOf loop.example/g00233/laws.FnExactUnHex loop.example/g00233/laws.FnExactGetNum loop.example/g00233/laws.FnExactPadded loop.example/g00233/laws.FnExactGetText loop.example/g00233/laws.FnExactPutNum loop.example/g00233/laws.FnExactPutText loop.example/g00233/laws.FnNums loop.example/g00233/laws.FnExactEdgeOk loop.example/g00233/laws.FnExactPutTexts loop.example/g00233/laws.FnTexts loop.example/g00233/laws.FnExactGetTexts loop.example/g00233/laws.FnRoots loop.example/g00233/laws.FnExactLeafHash loop.example/g00233/laws.FnExactNodeHash loop.example/g00233/laws.FnExactDigest loop.example/g00233/laws.FnPaths loop.example/g00233/laws.FnGrown loop.example/g00233/laws.FnExactRootOf loop.example/g00233/laws.FnDigests loop.example/g00233/laws.FnExactCheckIn loop.example/g00233/laws.FnExactCheckGrow loop.example/g00233/laws.FnExactInPath loop.example/g00233/laws.FnExactGrowPath" : String) = String.ofList (Char.ofNat 104 :: Char.ofNat 97 :: Char.ofNat 114 :: Char.ofNat 110 :: Char.ofNat 101 :: Char.ofNat 115 :: Char.ofNat 115 :: Char.ofNat 32 :: Char.ofNat 50 :: Char.ofNat 48 :: Char.ofNat 51 :: Char.ofNat 48 :: Char.ofNat 98 :: Char.ofNat 100 :: Char.ofNat 55 :: Char.ofNat 97 :: Char.ofNat 97 :: Char.ofNat 97 :: Char.ofNat 54 :: Char.ofNat 102 :: Char.ofNat 51 :: Char.ofNat 50 :: Char.ofNat 54 :: Char.ofNat 49 :: Char.ofNat 50 :: Char.ofNat 56 :: Char.ofNat 100 :: Char.ofNat 55 :: Char.ofNat 52 :: Char.ofNat 98 :: Char.ofNat 98 :: Char.ofNat 99 :: Char.ofNat 57 :: Char.ofNat 50 :: Char.ofNat 55 :: Char.ofNat 55 :: Char.ofNat 55 :: Char.ofNat 97 :: Char.ofNat 54 :: Char.ofNat 102 :: Char.ofNat 50 :: Char.ofNat 98 :: Char.ofNat 54 :: Char.ofNat 53 :: Char.ofNat 56 :: Char.ofNat 48 :: Char.ofNat 56 :: Char.ofNat 55 :: Char.ofNat 97 :: Char.ofNat 99 :: Char.ofNat 53 :: Char.ofNat 99 :: Char.ofNat 99 :: Char.ofNat 97 :: Char.ofNat 52 :: Char.ofNat 56 :: Char.ofNat 48 :: Char.ofNat 50 :: Char.ofNat 56 :: Char.ofNat 52 :: Char.ofNat 57 :: Char.ofNat 101 :: Char.ofNat 52 :: Char.ofNat 53 :: Char.ofNat 49 :: Char.ofNat 99 :: Char.ofNat 57 :: Char.ofNat 49 :: Char.ofNat 50 :: Char.ofNat 49 :: Char.ofNat 48 :: Char.ofNat 49 :: Char.ofNat 32 :: Char.ofNat 99 :: Char.ofNat 117 :: Char.ofNat 116 :: Char.ofNat 32 :: Char.ofNat 97 :: Char.ofNat 116 :: Char.ofNat 32 :: tailSigns) := by kernel_rfl
theorem initOrder_list : Try.pinned.checked.prog.initOrder.toList = Char.ofNat 104 :: Char.ofNat 97 :: Char.ofNat 114 :: Char.ofNat 110 :: Char.ofNat 101 :: Char.ofNat 115 :: Char.ofNat 115 :: Char.ofNat 32 :: Char.ofNat 50 :: Char.ofNat 48 :: Char.ofNat 51 :: Char.ofNat 48 :: Char.ofNat 98 :: Char.ofNat 100 :: Char.ofNat 55 :: Char.ofNat 97 :: Char.ofNat 97 :: Char.ofNat 97 :: Char.ofNat 54 :: Char.ofNat 102 :: Char.ofNat 51 :: Char.ofNat 50 :: Char.ofNat 54 :: Char.ofNat 49 :: Char.ofNat 50 :: Char.ofNat 56 :: Char.ofNat 100 :: Char.ofNat 55 :: Char.ofNat 52 :: Char.ofNat 98 :: Char.ofNat 98 :: Char.ofNat 99 :: Char.ofNat 57 :: Char.ofNat 50 :: Char.ofNat 55 :: Char.ofNat 55 :: Char.ofNat 55 :: Char.ofNat 97 :: Char.ofNat 54 :: Char.ofNat 102 :: Char.ofNat 50 :: Char.ofNat 98 :: Char.ofNat 54 :: Char.ofNat 53 :: Char.ofNat 56 :: Char.ofNat 48 :: Char.ofNat 56 :: Char.ofNat 55 :: Char.ofNat 97 :: Char.ofNat 99 :: Char.ofNat 53 :: Char.ofNat 99 :: Char.ofNat 99 :: Char.ofNat 97 :: Char.ofNat 52 :: Char.ofNat 56 :: Char.ofNat 48 :: Char.ofNat 50 :: Char.ofNat 56 :: Char.ofNat 52 :: Char.ofNat 57 :: Char.ofNat 101 :: Char.ofNat 52 :: Char.ofNat 53 :: Char.ofNat 49 :: Char.ofNat 99 :: Char.ofNat 57 :: Char.ofNat 49 :: Char.ofNat 50 :: Char.ofNat 49 :: Char.ofNat 48 :: Char.ofNat 49 :: Char.ofNat 32 :: Char.ofNat 99 :: Char.ofNat 117 :: Char.ofNat 116 :: Char.ofNat 32 :: Char.ofNat 97 :: Char.ofNat 116 :: Char.ofNat 32 :: tailSigns := (congrArg String.toList (initOrder_lit.trans lit_list)).trans String.toList_ofList
theorem words_at (r : List Char) : wordsSigns (Char.ofNat 104 :: Char.ofNat 97 :: Char.ofNat 114 :: Char.ofNat 110 :: Char.ofNat 101 :: Char.ofNat 115 :: Char.ofNat 115 :: Char.ofNat 32 :: Char.ofNat 50 :: Char.ofNat 48 :: Char.ofNat 51 :: Char.ofNat 48 :: Char.ofNat 98 :: Char.ofNat 100 :: Char.ofNat 55 :: Char.ofNat 97 :: Char.ofNat 97 :: Char.ofNat 97 :: Char.ofNat 54 :: Char.ofNat 102 :: Char.ofNat 51 :: Char.ofNat 50 :: Char.ofNat 54 :: Char.ofNat 49 :: Char.ofNat 50 :: Char.ofNat 56 :: Char.ofNat 100 :: Char.ofNat 55 :: Char.ofNat 52 :: Char.ofNat 98 :: Char.ofNat 98 :: Char.ofNat 99 :: Char.ofNat 57 :: Char.ofNat 50 :: Char.ofNat 55 :: Char.ofNat 55 :: Char.ofNat 55 :: Char.ofNat 97 :: Char.ofNat 54 :: Char.ofNat 102 :: Char.ofNat 50 :: Char.ofNat 98 :: Char.ofNat 54 :: Char.ofNat 53 :: Char.ofNat 56 :: Char.ofNat 48 :: Char.ofNat 56 :: Char.ofNat 55 :: Char.ofNat 97 :: Char.ofNat 99 :: Char.ofNat 53 :: Char.ofNat 99 :: Char.ofNat 99 :: Char.ofNat 97 :: Char.ofNat 52 :: Char.ofNat 56 :: Char.ofNat 48 :: Char.ofNat 50 :: Char.ofNat 56 :: Char.ofNat 52 :: Char.ofNat 57 :: Char.ofNat 101 :: Char.ofNat 52 :: Char.ofNat 53 :: Char.ofNat 49 :: Char.ofNat 99 :: Char.ofNat 57 :: Char.ofNat 49 :: Char.ofNat 50 :: Char.ofNat 49 :: Char.ofNat 48 :: Char.ofNat 49 :: Char.ofNat 32 :: Char.ofNat 99 :: Char.ofNat 117 :: Char.ofNat 116 :: Char.ofNat 32 :: Char.ofNat 97 :: Char.ofNat 116 :: Char.ofNat 32 :: r) = [Char.ofNat 104, Char.ofNat 97, Char.ofNat 114, Char.ofNat 110, Char.ofNat 101, Char.ofNat 115, Char.ofNat 115] :: [Char.ofNat 50, Char.ofNat 48, Char.ofNat 51, Char.ofNat 48, Char.ofNat 98, Char.ofNat 100, Char.ofNat 55, Char.ofNat 97, Char.ofNat 97, Char.ofNat 97, Char.ofNat 54, Char.ofNat 102, Char.ofNat 51, Char.ofNat 50, Char.ofNat 54, Char.ofNat 49, Char.ofNat 50, Char.ofNat 56, Char.ofNat 100, Char.ofNat 55, Char.ofNat 52, Char.ofNat 98, Char.ofNat 98, Char.ofNat 99, Char.ofNat 57, Char.ofNat 50, Char.ofNat 55, Char.ofNat 55, Char.ofNat 55, Char.ofNat 97, Char.ofNat 54, Char.ofNat 102, Char.ofNat 50, Char.ofNat 98, Char.ofNat 54, Char.ofNat 53, Char.ofNat 56, Char.ofNat 48, Char.ofNat 56, Char.ofNat 55, Char.ofNat 97, Char.ofNat 99, Char.ofNat 53, Char.ofNat 99, Char.ofNat 99, Char.ofNat 97, Char.ofNat 52, Char.ofNat 56, Char.ofNat 48, Char.ofNat 50, Char.ofNat 56, Char.ofNat 52, Char.ofNat 57, Char.ofNat 101, Char.ofNat 52, Char.ofNat 53, Char.ofNat 49, Char.ofNat 99, Char.ofNat 57, Char.ofNat 49, Char.ofNat 50, Char.ofNat 49, Char.ofNat 48, Char.ofNat 49] :: [Char.ofNat 99, Char.ofNat 117, Char.ofNat 116] :: [Char.ofNat 97, Char.ofNat 116] :: wordsSigns r := by kernel_rfl
theorem behind_at (t : List (List Char)) : behindMainWord ([Char.ofNat 104, Char.ofNat 97, Char.ofNat 114, Char.ofNat 110, Char.ofNat 101, Char.ofNat 115, Char.ofNat 115] :: [Char.ofNat 50, Char.ofNat 48, Char.ofNat 51, Char.ofNat 48, Char.ofNat 98, Char.ofNat 100, Char.ofNat 55, Char.ofNat 97, Char.ofNat 97, Char.ofNat 97, Char.ofNat 54, Char.ofNat 102, Char.ofNat 51, Char.ofNat 50, Char.ofNat 54, Char.ofNat 49, Char.ofNat 50, Char.ofNat 56, Char.ofNat 100, Char.ofNat 55, Char.ofNat 52, Char.ofNat 98, Char.ofNat 98, Char.ofNat 99, Char.ofNat 57, Char.ofNat 50, Char.ofNat 55, Char.ofNat 55, Char.ofNat 55, Char.ofNat 97, Char.ofNat 54, Char.ofNat 102, Char.ofNat 50, Char.ofNat 98, Char.ofNat 54, Char.ofNat 53, Char.ofNat 56, Char.ofNat 48, Char.ofNat 56, Char.ofNat 55, Char.ofNat 97, Char.ofNat 99, Char.ofNat 53, Char.ofNat 99, Char.ofNat 99, Char.ofNat 97, Char.ofNat 52, Char.ofNat 56, Char.ofNat 48, Char.ofNat 50, Char.ofNat 56, Char.ofNat 52, Char.ofNat 57, Char.ofNat 101, Char.ofNat 52, Char.ofNat 53, Char.ofNat 49, Char.ofNat 99, Char.ofNat 57, Char.ofNat 49, Char.ofNat 50, Char.ofNat 49, Char.ofNat 48, Char.ofNat 49] :: [Char.ofNat 99, Char.ofNat 117, Char.ofNat 116] :: [Char.ofNat 97, Char.ofNat 116] :: t) = [Char.ofNat 99, Char.ofNat 117, Char.ofNat 116] :: [Char.ofNat 97, Char.ofNat 116] :: t := by kernel_rfl
theorem behind_all : behindMainWord (wordsSigns Try.pinned.checked.prog.initOrder.toList) = [Char.ofNat 99, Char.ofNat 117, Char.ofNat 116] :: [Char.ofNat 97, Char.ofNat 116] :: wordsSigns tailSigns := by rw [initOrder_list, words_at, behind_at]
theorem make_of (c : List Char) (rest : List (List Char)) (P : Program) (h0 : (c == "gc".toList) = false) (h1 : (c == "spec".toList) = false) (h2 : (c == "cut".toList) = true) (h : behindMainWord (wordsSigns P.initOrder.toList) = c :: rest) : P.make = some .cut := by
  unfold Program.make
  rw [h]
  simp only [h0, h1, h2]
  rfl
theorem mayEnter_of (c : List Char) (rest : List (List Char)) (P : Program) (h0 : (c == "gc".toList) = false) (h1 : (c == "spec".toList) = false) (h2 : (c == "carried".toList) = false) (h : behindMainWord (wordsSigns P.initOrder.toList) = c :: rest)
    (h3 : ((stripLifts liftWords (c :: rest)).2.head? == some "cut".toList) = true) (h4 : P.laysLater = false) (h5 : P.bearsReflect = false) (h6 : P.doorFits (stripLifts liftWords (c :: rest)).1 = true) (h7 : (stripLifts liftWords (c :: rest)).1.contains "leanrows" = false) : P.mayEnter = true := by
  unfold Program.mayEnter
  rw [h]
  simp only [h0, h1, h2, h3, h4, h5, h6, h7]
  simp
theorem liftsFinal_of (c : List Char) (rest : List (List Char)) (P : Program) (h2 : (some c == some "carried".toList) = false) (h : behindMainWord (wordsSigns P.initOrder.toList) = c :: rest)
    (h3 : ((stripLifts liftWords (c :: rest)).2.head? == some "cut".toList) = true) (h7 : (stripLifts liftWords (c :: rest)).1.contains "finals" = false) : P.liftsFinal = false := by
  unfold Program.liftsFinal Program.headLifts
  rw [h]
  simp only [List.head?_cons, h2, h3, if_true, h7, Bool.false_and, Bool.or_self]
theorem strip_at (t : List (List Char)) : stripLifts liftWords ([Char.ofNat 99, Char.ofNat 117, Char.ofNat 116] :: [Char.ofNat 97, Char.ofNat 116] :: t) = ([], [Char.ofNat 99, Char.ofNat 117, Char.ofNat 116] :: [Char.ofNat 97, Char.ofNat 116] :: t) := by kernel_rfl
theorem laysLater_at : Try.pinned.checked.prog.laysLater = false := by kernel_rfl
theorem bearsReflect_at : Try.pinned.checked.prog.bearsReflect = false := by kernel_rfl
theorem doorFits_at : Try.pinned.checked.prog.doorFits [] = true := by kernel_rfl
theorem mayEnter_at : Try.pinned.checked.prog.mayEnter = true :=
  mayEnter_of _ _ _ (by kernel_rfl) (by kernel_rfl) (by kernel_rfl) behind_all (by rw [strip_at]; generalize wordsSigns tailSigns = t; kernel_rfl) laysLater_at bearsReflect_at (by rw [strip_at]; exact doorFits_at) (by rw [strip_at]; rfl)
theorem liftsFinal_at : Try.pinned.checked.prog.liftsFinal = false :=
  liftsFinal_of _ _ _ (by kernel_rfl) behind_all (by rw [strip_at]; generalize wordsSigns tailSigns = t; kernel_rfl) (by rw [strip_at]; rfl)
theorem make_at : Try.pinned.checked.prog.make = some .cut := make_of _ _ _ (by kernel_rfl) (by kernel_rfl) (by kernel_rfl) behind_all
end Go.Proofs.Ytmkhhnfmahdijaa.Y
