/- The law FnExactNeedsOk, as a plain statement: the program's NeedsOk answers as the reference's. Conditions: those of the row's reading alone. -/
/- Part 10 of 10 of this claim's texts. -/
import Derived.Test.YtkofdkinaahbpaaDoorRows
import Derived.Test.YtkofdkinaahbpaaDoorCards
import Derived.Test.YtkofdkinaahbpaaDoorTie
import Derived.Deep.DeepHandedRow
import Derived.Lib.LaidTab
import Derived.WalkKit
import Derived.ProofKit
import Derived.OpenShut
import Derived.ShutString
import Derived.ChangeOld
import Derived.Below
import Derived.SizedLaws
import Derived.Test.YtkofdkinaahbpaaDoorCFnExactNeedsOk0
import Derived.Test.YtkofdkinaahbpaaDoorCFnExactNeedsOk7
import Derived.Test.YtkofdkinaahbpaaDoorCFnExactNeedsOk8
namespace Go.Proofs.YtkofdkinaahbpaaDoor.fnExactNeedsOk
open Go.Proofs.YtkofdkinaahbpaaDoor.X Go.Proofs.YtkofdkinaahbpaaDoorW.PrintWords
open Go.ChangeShapes Go.WideShapes Go.ChangeAt Go.RowKit
open Go.ChangeMaps (open_string shut_string)
set_option linter.unusedVariables false
theorem own : ownKnob Tryd.prog.godebug = none := by kernel_rfl
theorem laidOut : laidOutB Tryd.prog = true := by kernel_rfl
theorem laid_met (os : Os) : laidMet Tryd.prog Rows.fnExactNeedsOkRow.laid ((Y.laidWorld os).forCall (fun _ _ => 0) ⟨#[], #[.slice none 0 0], []⟩).memory := laidMet_of_run' 8 (by kernel_rfl) (by kernel_rfl)
theorem reads (os : Os) {H : Type} (enc : TypeId × Value → H) : ∃ places, DataW.whole enc Tryd.prog ((Y.laidWorld os).forCall (fun _ _ => 0) ⟨#[], #[.slice none 0 0], []⟩).memory Tryd.f9.params.toList Rows.fnExactNeedsOkSpec.vars false (#[.slice none 0 0] : Array Value).toList 8 = some ([.nil], [], places) := ⟨[], by kernel_rfl⟩
set_option maxRecDepth 100000 in
theorem lifted (os : Os) (started : os.Started) (H : Type) (enc : TypeId × Value → H) (F : Stop.Interp) :
    ReturnsInHanded {} Tryd.checked os 9 .any ((OpenSpec.ofChange Rows.fnExactNeedsOkSpec).preRow enc Tryd.prog Tryd.f9 Rows.fnExactNeedsOkRow.domain false Rows.fnExactNeedsOkRow.laid) (((OpenSpec.ofChange Rows.fnExactNeedsOkSpec).at F).post enc Tryd.prog Tryd.f9 false true false false) := by
  obtain ⟨places, hx⟩ := reads os enc
  refine returnsInHanded_of_row (C := Tryd.checked) (s := OpenSpec.ofChange Rows.fnExactNeedsOkSpec) own started (by kernel_rfl) Tryd.func9
    (witness_row_at (enc := enc) (C := Tryd.checked) false (Y.laidWorld os) #[.slice none 0 0] rfl (by kernel_rfl) (by kernel_rfl) (by kernel_rfl)
      (OpenSpec.preRow_of_cond 8 hx (by kernel_rfl) (fun k hk => by cases hk) (by kernel_rfl) (laid_met os))) ?_
  intro W base args ds gs before hval0 hW hcnd _ hsz0 hL _ _
  have hsz : (DataW.weightsEach Tryd.prog (Tryd.f9.params.toList ++ Rows.fnExactNeedsOkSpec.plain.varTypes Tryd.prog) (ds ++ gs)).all (· ≤ reachBytes) = true := hsz0
  have hval : ∀ (j : Nat) t v, Tryd.f9.params[j]? = some t → args[j]? = some v → Value.okWide Tryd.prog W .any base t v := hval0
  have hW' := hW
  obtain ⟨p, q, hA0, hV, rfl, hfz, hnd⟩ := hW
  have hA : DataW.TrodAll enc Tryd.prog W 0 (fun _ => true) true Tryd.f9.params.toList args.toList ds p := hA0
  rw [Tryd.params9] at hA hval hsz
  obtain ⟨v0, vs0, d0, ds0, p0, q0, hargs, rfl, rfl, h0, r0⟩ := trodAll_cons hA
  obtain ⟨rfl, rfl, rfl⟩ := trodAll_nil r0
  obtain rfl : args = #[v0] := by cases args; simp_all
  obtain ⟨rfl, rfl⟩ := trodVars_none hV
  have k0 := h0
  have lt0 : ∀ x ∈ p0, x.block < W.heap.size := by obtain ⟨m, hm⟩ := k0; exact DataW.trod_lt m _ _ _ hm
  haveI : Inhabited S30 := ⟨z30⟩
  obtain ⟨a0, cap0, l0, rfl, hc0, hr0, hm0, hg0⟩ := Y.Opn.arg_slice (d := k30) Tryd.underlying53 (by kernel_rfl) (Y.Opn.struct (fl := [⟨ "Path", 9, 0, false, "", "", 0⟩, ⟨ "V", 23, 1, false, "", "", 16⟩]) (G' := fun s => (s.f0.size ≤ maxLen) ∧ ((Lit.int .i64 s.f1.f0).wf = true) ∧ ((Lit.int .i64 s.f1.f1).wf = true) ∧ ((Lit.int .i64 s.f1.f2).wf = true) ∧ s.f1.f3.size ≤ maxLen) (fun y => (⟨y.1, y.2⟩ : S30)) Tryd.underlying30 rfl (by kernel_rfl) (fun _ => rfl) (by intro _ h; exact h) (Y.FOpn.cons rfl (by kernel_rfl) (Y.Opn.string Tryd.underlying9) (Y.FOpn.one rfl (by kernel_rfl) (Y.Opn.struct (fl := [⟨ "Major", 3, 0, false, "", "", 0⟩, ⟨ "Minor", 3, 1, false, "", "", 8⟩, ⟨ "Patch", 3, 2, false, "", "", 16⟩, ⟨ "Pre", 9, 3, false, "", "", 24⟩]) (G' := fun s => ((Lit.int .i64 s.f0).wf = true) ∧ ((Lit.int .i64 s.f1).wf = true) ∧ ((Lit.int .i64 s.f2).wf = true) ∧ s.f3.size ≤ maxLen) (fun y => (⟨y.1, y.2.1, y.2.2.1, y.2.2.2⟩ : S23)) Tryd.underlying23 rfl (by kernel_rfl) (fun _ => rfl) (by intro _ h; exact h) (Y.FOpn.cons rfl (by kernel_rfl) (Y.Opn.int Tryd.underlying3) (Y.FOpn.cons rfl (by kernel_rfl) (Y.Opn.int Tryd.underlying3) (Y.FOpn.cons rfl (by kernel_rfl) (Y.Opn.int Tryd.underlying3) (Y.FOpn.one rfl (by kernel_rfl) (Y.Opn.string Tryd.underlying9))))))))) (hval 0 53 v0 rfl rfl) h0
  clear hA0 hval0 hsz0 hsz
  refine (X.laws_FnExactNeedsOk.walk Pure.FnExactNeedsOk a0 cap0 l0 W hr0 hc0 hm0 hg0).mono fun e W' ⟨he, bel⟩ => ?_
  subst he
  exact ⟨_, rfl, _, _, _, [], _, [], hW', trodAll_mk1 (shut_bool Tryd.underlying4 _), (trodAll_cons_mk (Below.trod laidOut (by kernel_rfl) (of_decide_eq_true (by kernel_rfl)) k0 bel lt0) trodAll_mk0), rfl, bel.frame _, fun h => by cases h⟩
theorem both {a b : Bool} (h : a = true) (k : b = true) : (a && b) = true := by rw [h, k]; rfl
set_option maxHeartbeats 4000000 in
theorem closed : joinedFacts Tryd.pinned.checked.prog 9 Tryd.f9 (OpenSpec.ofChange Rows.fnExactNeedsOkSpec).bare Rows.fnExactNeedsOkRow = true := by
  unfold joinedFacts
  repeat' (with_reducible refine both ?_ ?_)
  all_goals first | (with_reducible exact Y.mayEnter_at) | (rw [Y.liftsFinal_at]; kernel_rfl) | (rw [Y.make_at]; kernel_rfl) | as_aux_lemma => kernel_rfl
theorem over : Rows.fnExactNeedsOkRow.holds Tryd.pinned (OpenSpec.ofChange Rows.fnExactNeedsOkSpec) :=
  OpenClaim.holds_of_cond 9 Tryd.f9 rfl rfl rfl rfl rfl rfl rfl ⟨rfl, rfl, rfl, rfl, rfl⟩ rfl rfl rfl rfl rfl (by as_aux_lemma => kernel_rfl) Tryd.func9 closed
    (of_decide_eq_true (by kernel_rfl)) (by unfold Func.isWrapper; first | (rw [if_pos (by decide +kernel)]; kernel_rfl) | (rw [if_neg (by decide +kernel)]; exact ⟨rfl, rfl⟩))
    (fun os started H enc _ F => by rw [OpenClaim.pre_eq_preRow]; exact lifted os started H enc F)
theorem said : Rows.FnExactNeedsOkSaid := over
theorem plain (f : FuncId) (fn : Func) (hf : Tryd.pinned.checked.prog.funcNamed "loop.example/g00233/laws.FnExactNeedsOk" = some f) (hfn : Tryd.pinned.checked.prog.funcs[f]? = some fn) :
    true = Tryd.pinned.checked.prog.looks [] ∧ ∀ (j : Nat) t, fn.params[j]? = some t → Tryd.pinned.checked.prog.wantsStandIn t = false := by
  obtain rfl : f = 9 := Option.some.inj ((show Tryd.prog.funcNamed "loop.example/g00233/laws.FnExactNeedsOk" = some 9 by kernel_rfl).symm.trans hf) |>.symm
  obtain rfl : fn = Tryd.f9 := (Option.some.inj (Tryd.func9.symm.trans hfn)).symm
  refine ⟨by kernel_rfl, fun j t ht => ?_⟩
  rw [Tryd.params9] at ht
  have hm := Array.mem_of_getElem? ht
  have hall : ([53].all fun u => !Tryd.prog.wantsStandIn u) = true := by kernel_rfl
  have hm2 : t ∈ [53] := by simpa using hm
  exact (show Tryd.prog.wantsStandIn t = false by simpa using List.all_eq_true.1 hall t hm2)
/-- The card. -/
theorem proved : Rows.FnExactNeedsOkCardSaid :=
  Claim7.holds_tied_plain_at .later [] _ _ _ _ said (fun _ h => by cases h) (by kernel_rfl) (fun _ h => by cases h) fnExactNeedsOk_row_tie rfl ⟨rfl, rfl⟩ (by kernel_rfl) rfl plain (by kernel_rfl)
end Go.Proofs.YtkofdkinaahbpaaDoor.fnExactNeedsOk
namespace Go.Proofs.YtkofdkinaahbpaaDoor
/-- The row, under a short name, for the claim. -/
theorem fnExactNeedsOk_holds : Rows.FnExactNeedsOkCardSaid := fnExactNeedsOk.proved
end Go.Proofs.YtkofdkinaahbpaaDoor
