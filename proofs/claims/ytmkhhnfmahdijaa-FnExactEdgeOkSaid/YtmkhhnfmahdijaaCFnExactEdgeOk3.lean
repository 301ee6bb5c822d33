/- The law FnExactEdgeOk, as a plain statement: the program's EdgeOk answers as the reference's, and leaves its argument alone. Conditions: those of the row's reading alone. -/
/- Part 4 of 4 of this claim's texts. -/
import Derived.Test.YtmkhhnfmahdijaaRows
import Derived.WalkKit
import Derived.ProofKit
import Derived.OpenShut
import Derived.ShutString
import Derived.ChangeOld
import Derived.Below
import Derived.SizedLaws
import Derived.Test.YtmkhhnfmahdijaaWSized
import Derived.Test.YtmkhhnfmahdijaaCFnExactEdgeOk1
import Derived.Test.YtmkhhnfmahdijaaCFnExactEdgeOk2
namespace Go.Proofs.Ytmkhhnfmahdijaa.fnExactEdgeOk
open Go.Proofs.Ytmkhhnfmahdijaa.X Go.Proofs.YtmkhhnfmahdijaaW.PrintWords
open Go.ChangeShapes Go.WideShapes Go.ChangeAt Go.RowKit
open Go.ChangeMaps (open_string shut_string)
set_option linter.unusedVariables false
theorem own : ownKnob Try.prog.godebug = none := by kernel_rfl
theorem laidOut : laidOutB Try.prog = true := by kernel_rfl
def IsRow (k : IntKind) (w : World) (a : Option Addr) (len cap : Nat) (zs : List Int) : Prop :=
  (a = none ∧ len = 0 ∧ cap = 0 ∧ zs = []) ∨
  ∃ x, a = some x ∧ len ≤ cap ∧ cap ≤ maxLen ∧ zs.length = cap ∧ (∀ i, i < zs.length → w.cell? (x.add i) = some (.int k (zs.getD i 0))) ∧ ∀ n ∈ zs, (Lit.int k n).wf = true
set_option maxRecDepth 100000 in
theorem lifted (os : Os) (started : os.Started) (H : Type) (enc : TypeId × Value → H) :
    ReturnsInHanded {} Try.checked os 12 .any (Rows.fnExactEdgeOkSpec.pre6 enc Try.prog Try.f12 Rows.fnExactEdgeOkRow.domain false) (Rows.fnExactEdgeOkSpec.post enc Try.prog Try.f12 false true false false) := by
  refine returnsInHanded_of_change_sized (C := Try.checked) own started (by kernel_rfl) Try.func12
    (ChangeSpec.witness6 (enc := enc) (C := Try.checked) false ⟨#[], #[.agg #[.int .i64 0, .slice none 0 0]], []⟩ 8 (by kernel_rfl) (by kernel_rfl) (by kernel_rfl) (by kernel_rfl)) ?_
  intro W base args ds gs before hval0 hW hcnd hsz0 _
  have hsz : (DataW.weightsEach Try.prog (Try.f12.params.toList ++ Rows.fnExactEdgeOkSpec.plain.varTypes Try.prog) (ds ++ gs)).all (· ≤ reachBytes) = true := hsz0
  have hval : ∀ (j : Nat) t v, Try.f12.params[j]? = some t → args[j]? = some v → Value.okWide Try.prog W .any base t v := hval0
  have hW' := hW
  obtain ⟨p, q, hA0, hV, rfl, hfz, hnd⟩ := hW
  have hA : DataW.TrodAll enc Try.prog W 0 (fun _ => true) true Try.f12.params.toList args.toList ds p := hA0
  rw [Try.params12] at hA hval hsz
  obtain ⟨v0, vs0, d0, ds0, p0, q0, hargs, rfl, rfl, h0, r0⟩ := trodAll_cons hA
  obtain ⟨rfl, rfl, rfl⟩ := trodAll_nil r0
  obtain rfl : args = #[v0] := by cases args; simp_all
  obtain ⟨rfl, rfl⟩ := trodVars_none hV
  have k0 := h0
  have lt0 : ∀ x ∈ p0, x.block < W.heap.size := by obtain ⟨m, hm⟩ := k0; exact DataW.trod_lt m _ _ _ hm
  obtain ⟨cs0, y0, rfl, q0', hg0⟩ := Y.Opn.arg_struct (d := k46) Try.underlying46 (Y.Opn.struct (fl := [⟨ "Size", 3, 0, false, "", "", 0⟩, ⟨ "Hashes", 44, 1, false, "", "", 8⟩]) (G' := fun s => ((Lit.int .i64 s.f0).wf = true) ∧ s.f1.length ≤ maxLen ∧ ∀ y, y ∈ s.f1 → y.size ≤ maxLen) (fun y => (⟨y.1, y.2⟩ : S46)) Try.underlying46 rfl (by kernel_rfl) (fun _ => rfl) (by intro _ h; exact h) (Y.FOpn.cons rfl (by kernel_rfl) (Y.Opn.int Try.underlying3) (Y.FOpn.one rfl (by kernel_rfl) (Y.Opn.slice Try.underlying44 (by kernel_rfl) (Y.Opn.string Try.underlying9))))) (hval 0 46 v0 rfl rfl) h0
  obtain ⟨A0_1, c0_1, rfl, hc0_1, hr0_1⟩ := k46_open q0'
  clear hA0 hval0 hsz0 hsz
  refine (X.laws_FnExactEdgeOk.walk Pure.FnExactEdgeOk y0.f0 A0_1 c0_1 y0.f1 W hr0_1 hc0_1 hg0).mono fun e W' ⟨he, bel⟩ => ?_
  subst he
  exact ⟨_, rfl, _, _, _, [], _, [], hW', trodAll_mk1 (shut_bool Try.underlying4 _), (trodAll_cons_mk (Below.trod laidOut (by kernel_rfl) (of_decide_eq_true (by kernel_rfl)) k0 bel lt0) trodAll_mk0), rfl, bel.frame _, fun h => by cases h⟩
theorem both {a b : Bool} (h : a = true) (k : b = true) : (a && b) = true := by rw [h, k]; rfl
theorem closed : joinedFacts Try.pinned.checked.prog 12 Try.f12 Rows.fnExactEdgeOkSpec Rows.fnExactEdgeOkRow = true := by
  unfold joinedFacts
  repeat' (with_reducible refine both ?_ ?_)
  all_goals first | (with_reducible exact Y.mayEnter_at) | (rw [Y.liftsFinal_at]; kernel_rfl) | (rw [Y.make_at]; kernel_rfl) | as_aux_lemma => kernel_rfl
theorem over : Rows.fnExactEdgeOkRow.holds Try.pinned (OpenSpec.ofChange Rows.fnExactEdgeOkSpec) :=
  OpenClaim.holds_of_wide 12 Try.f12 rfl rfl rfl rfl rfl rfl rfl ⟨rfl, rfl, rfl, rfl, rfl⟩ rfl rfl rfl rfl rfl (by as_aux_lemma => kernel_rfl) Try.func12 closed
    (of_decide_eq_true (by kernel_rfl)) (by unfold Func.isWrapper; first | (rw [if_pos (by decide +kernel)]; kernel_rfl) | (rw [if_neg (by decide +kernel)]; exact ⟨rfl, rfl⟩))
    (fun os started H enc _ => lifted os started H enc)
theorem proved : Rows.FnExactEdgeOkSaid := over
end Go.Proofs.Ytmkhhnfmahdijaa.fnExactEdgeOk
namespace Go.Proofs.Ytmkhhnfmahdijaa
/-- The row, under a short name, for the claim. -/
theorem fnExactEdgeOk_holds : Rows.FnExactEdgeOkSaid := fnExactEdgeOk.proved
end Go.Proofs.Ytmkhhnfmahdijaa
