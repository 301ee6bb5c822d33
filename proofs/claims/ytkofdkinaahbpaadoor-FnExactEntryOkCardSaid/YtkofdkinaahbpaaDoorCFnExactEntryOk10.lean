/- The law FnExactEntryOk, as a plain statement: the program's EntryOk answers as the reference's. Conditions: those of the row's reading alone. -/
/- Part 11 of 11 of this claim's texts. -/
import Derived.Test.YtkofdkinaahbpaaDoorRows
import Derived.Test.YtkofdkinaahbpaaDoorCards
import Derived.Test.YtkofdkinaahbpaaDoorTie
import Derived.Deep.DeepHandedRow
import Derived.Lib.LaidTab
import Derived.WalkKit
import Derived.ProofKit
import Derived.OpenShut
import Derived.ShutString
import Derived.ChangeOld
import Derived.Below
import Derived.SizedLaws
import Derived.Test.YtkofdkinaahbpaaDoorCFnExactEntryOk0
import Derived.Test.YtkofdkinaahbpaaDoorCFnExactEntryOk8
import Derived.Test.YtkofdkinaahbpaaDoorCFnExactEntryOk9
namespace Go.Proofs.YtkofdkinaahbpaaDoor.fnExactEntryOk
open Go.Proofs.YtkofdkinaahbpaaDoor.X Go.Proofs.YtkofdkinaahbpaaDoorW.PrintWords
open Go.ChangeShapes Go.WideShapes Go.ChangeAt Go.RowKit
open Go.ChangeMaps (open_string shut_string)
set_option linter.unusedVariables false
theorem own : ownKnob Tryd.prog.godebug = none := by kernel_rfl
theorem laidOut : laidOutB Tryd.prog = true := by kernel_rfl
theorem laid_met (os : Os) : laidMet Tryd.prog Rows.fnExactEntryOkRow.laid ((Y.laidWorld os).forCall (fun _ _ => 0) ⟨#[], #[.agg #[.string ByteArray.empty, .int .i64 0, .int .i64 0, .int .i64 0, .string ByteArray.empty, .slice none 0 0]], []⟩).memory := laidMet_of_run' 8 (by kernel_rfl) (by kernel_rfl)
theorem reads (os : Os) {H : Type} (enc : TypeId × Value → H) : ∃ places, DataW.whole enc Tryd.prog ((Y.laidWorld os).forCall (fun _ _ => 0) ⟨#[], #[.agg #[.string ByteArray.empty, .int .i64 0, .int .i64 0, .int .i64 0, .string ByteArray.empty, .slice none 0 0]], []⟩).memory Tryd.f11.params.toList Rows.fnExactEntryOkSpec.vars false (#[.agg #[.string ByteArray.empty, .int .i64 0, .int .i64 0, .int .i64 0, .string ByteArray.empty, .slice none 0 0]] : Array Value).toList 8 = some ([.agg [.lit (.string []), .agg [.lit (.int .i64 0), .lit (.int .i64 0), .lit (.int .i64 0), .lit (.string [])], .nil]], [], places) := ⟨[], by kernel_rfl⟩
set_option maxRecDepth 100000 in
theorem lifted (os : Os) (started : os.Started) (H : Type) (enc : TypeId × Value → H) (F : Stop.Interp) :
    ReturnsInHanded {} Tryd.checked os 11 .any ((OpenSpec.ofChange Rows.fnExactEntryOkSpec).preRow enc Tryd.prog Tryd.f11 Rows.fnExactEntryOkRow.domain false Rows.fnExactEntryOkRow.laid) (((OpenSpec.ofChange Rows.fnExactEntryOkSpec).at F).post enc Tryd.prog Tryd.f11 false true false false) := by
  obtain ⟨places, hx⟩ := reads os enc
  refine returnsInHanded_of_row (C := Tryd.checked) (s := OpenSpec.ofChange Rows.fnExactEntryOkSpec) own started (by kernel_rfl) Tryd.func11
    (witness_row_at (enc := enc) (C := Tryd.checked) false (Y.laidWorld os) #[.agg #[.string ByteArray.empty, .int .i64 0, .int .i64 0, .int .i64 0, .string ByteArray.empty, .slice none 0 0]] rfl (by kernel_rfl) (by kernel_rfl) (by kernel_rfl)
      (OpenSpec.preRow_of_cond 8 hx (by kernel_rfl) (fun k hk => by cases hk) (by kernel_rfl) (laid_met os))) ?_
  intro W base args ds gs before hval0 hW hcnd _ hsz0 hL _ _
  have hsz : (DataW.weightsEach Tryd.prog (Tryd.f11.params.toList ++ Rows.fnExactEntryOkSpec.plain.varTypes Tryd.prog) (ds ++ gs)).all (· ≤ reachBytes) = true := hsz0
  have hval : ∀ (j : Nat) t v, Tryd.f11.params[j]? = some t → args[j]? = some v → Value.okWide Tryd.prog W .any base t v := hval0
  have hW' := hW
  obtain ⟨p, q, hA0, hV, rfl, hfz, hnd⟩ := hW
  have hA : DataW.TrodAll enc Tryd.prog W 0 (fun _ => true) true Tryd.f11.params.toList args.toList ds p := hA0
  rw [Tryd.params11] at hA hval hsz
  obtain ⟨v0, vs0, d0, ds0, p0, q0, hargs, rfl, rfl, h0, r0⟩ := trodAll_cons hA
  obtain ⟨rfl, rfl, rfl⟩ := trodAll_nil r0
  obtain rfl : args = #[v0] := by cases args; simp_all
  obtain ⟨rfl, rfl⟩ := trodVars_none hV
  have k0 := h0
  have lt0 : ∀ x ∈ p0, x.block < W.heap.size := by obtain ⟨m, hm⟩ := k0; exact DataW.trod_lt m _ _ _ hm
  haveI : Inhabited S30 := ⟨z30⟩
  obtain ⟨cs0, y0, rfl, q0', hg0⟩ := Y.Opn.arg_struct (d := k64) Tryd.underlying64 (Y.Opn.struct (fl := [⟨ "Path", 9, 0, false, "", "", 0⟩, ⟨ "V", 23, 1, false, "", "", 16⟩, ⟨ "Needs", 53, 5, false, "", "", 56⟩]) (G' := fun s => (s.f0.size ≤ maxLen) ∧ (((Lit.int .i64 s.f1.f0).wf = true) ∧ ((Lit.int .i64 s.f1.f1).wf = true) ∧ ((Lit.int .i64 s.f1.f2).wf = true) ∧ s.f1.f3.size ≤ maxLen) ∧ s.f2.length ≤ maxLen ∧ ∀ y, y ∈ s.f2 → (y.f0.size ≤ maxLen) ∧ ((Lit.int .i64 y.f1.f0).wf = true) ∧ ((Lit.int .i64 y.f1.f1).wf = true) ∧ ((Lit.int .i64 y.f1.f2).wf = true) ∧ y.f1.f3.size ≤ maxLen) (fun y => (⟨y.1, y.2.1, y.2.2⟩ : S64)) Tryd.underlying64 rfl (by kernel_rfl) (fun _ => rfl) (by intro _ h; exact h) (Y.FOpn.cons rfl (by kernel_rfl) (Y.Opn.string Tryd.underlying9) (Y.FOpn.cons rfl (by kernel_rfl) (Y.Opn.struct (fl := [⟨ "Major", 3, 0, false, "", "", 0⟩, ⟨ "Minor", 3, 1, false, "", "", 8⟩, ⟨ "Patch", 3, 2, false, "", "", 16⟩, ⟨ "Pre", 9, 3, false, "", "", 24⟩]) (G' := fun s => ((Lit.int .i64 s.f0).wf = true) ∧ ((Lit.int .i64 s.f1).wf = true) ∧ ((Lit.int .i64 s.f2).wf = true) ∧ s.f3.size ≤ maxLen) (fun y => (⟨y.1, y.2.1, y.2.2.1, y.2.2.2⟩ : S23)) Tryd.underlying23 rfl (by kernel_rfl) (fun _ => rfl) (by intro _ h; exact h) (Y.FOpn.cons rfl (by kernel_rfl) (Y.Opn.int Tryd.underlying3) (Y.FOpn.cons rfl (by kernel_rfl) (Y.Opn.int Tryd.underlying3) (Y.FOpn.cons rfl (by kernel_rfl) (Y.Opn.int Tryd.underlying3) (Y.FOpn.one rfl (by kernel_rfl) (Y.Opn.string Tryd.underlying9)))))) (Y.FOpn.one rfl (by kernel_rfl) (Y.Opn.slice Tryd.underlying53 (by kernel_rfl) (Y.Opn.struct (fl := [⟨ "Path", 9, 0, false, "", "", 0⟩, ⟨ "V", 23, 1, false, "", "", 16⟩]) (G' := fun s => (s.f0.size ≤ maxLen) ∧ ((Lit.int .i64 s.f1.f0).wf = true) ∧ ((Lit.int .i64 s.f1.f1).wf = true) ∧ ((Lit.int .i64 s.f1.f2).wf = true) ∧ s.f1.f3.size ≤ maxLen) (fun y => (⟨y.1, y.2⟩ : S30)) Tryd.underlying30 rfl (by kernel_rfl) (fun _ => rfl) (by intro _ h; exact h) (Y.FOpn.cons rfl (by kernel_rfl) (Y.Opn.string Tryd.underlying9) (Y.FOpn.one rfl (by kernel_rfl) (Y.Opn.struct (fl := [⟨ "Major", 3, 0, false, "", "", 0⟩, ⟨ "Minor", 3, 1, false, "", "", 8⟩, ⟨ "Patch", 3, 2, false, "", "", 16⟩, ⟨ "Pre", 9, 3, false, "", "", 24⟩]) (G' := fun s => ((Lit.int .i64 s.f0).wf = true) ∧ ((Lit.int .i64 s.f1).wf = true) ∧ ((Lit.int .i64 s.f2).wf = true) ∧ s.f3.size ≤ maxLen) (fun y => (⟨y.1, y.2.1, y.2.2.1, y.2.2.2⟩ : S23)) Tryd.underlying23 rfl (by kernel_rfl) (fun _ => rfl) (by intro _ h; exact h) (Y.FOpn.cons rfl (by kernel_rfl) (Y.Opn.int Tryd.underlying3) (Y.FOpn.cons rfl (by kernel_rfl) (Y.Opn.int Tryd.underlying3) (Y.FOpn.cons rfl (by kernel_rfl) (Y.Opn.int Tryd.underlying3) (Y.FOpn.one rfl (by kernel_rfl) (Y.Opn.string Tryd.underlying9)))))))))))))) (hval 0 64 v0 rfl rfl) h0
  obtain ⟨A0_5, c0_5, rfl, hc0_5, hr0_5⟩ := k64_open q0'
  clear hA0 hval0 hsz0 hsz
  refine (X.laws_FnExactEntryOk.walk Pure.FnExactEntryOk y0.f0 y0.f1.f0 y0.f1.f1 y0.f1.f2 y0.f1.f3 A0_5 c0_5 y0.f2 W hr0_5 hc0_5 hg0).mono fun e W' ⟨he, bel⟩ => ?_
  subst he
  exact ⟨_, rfl, _, _, _, [], _, [], hW', trodAll_mk1 (shut_bool Tryd.underlying4 _), (trodAll_cons_mk (Below.trod laidOut (by kernel_rfl) (of_decide_eq_true (by kernel_rfl)) k0 bel lt0) trodAll_mk0), rfl, bel.frame _, fun h => by cases h⟩
theorem both {a b : Bool} (h : a = true) (k : b = true) : (a && b) = true := by rw [h, k]; rfl
set_option maxHeartbeats 4000000 in
theorem closed : joinedFacts Tryd.pinned.checked.prog 11 Tryd.f11 (OpenSpec.ofChange Rows.fnExactEntryOkSpec).bare Rows.fnExactEntryOkRow = true := by
  unfold joinedFacts
  repeat' (with_reducible refine both ?_ ?_)
  all_goals first | (with_reducible exact Y.mayEnter_at) | (rw [Y.liftsFinal_at]; kernel_rfl) | (rw [Y.make_at]; kernel_rfl) | as_aux_lemma => kernel_rfl
theorem over : Rows.fnExactEntryOkRow.holds Tryd.pinned (OpenSpec.ofChange Rows.fnExactEntryOkSpec) :=
  OpenClaim.holds_of_cond 11 Tryd.f11 rfl rfl rfl rfl rfl rfl rfl ⟨rfl, rfl, rfl, rfl, rfl⟩ rfl rfl rfl rfl rfl (by as_aux_lemma => kernel_rfl) Tryd.func11 closed
    (of_decide_eq_true (by kernel_rfl)) (by unfold Func.isWrapper; first | (rw [if_pos (by decide +kernel)]; kernel_rfl) | (rw [if_neg (by decide +kernel)]; exact ⟨rfl, rfl⟩))
    (fun os started H enc _ F => by rw [OpenClaim.pre_eq_preRow]; exact lifted os started H enc F)
theorem said : Rows.FnExactEntryOkSaid := over
theorem plain (f : FuncId) (fn : Func) (hf : Tryd.pinned.checked.prog.funcNamed "loop.example/g00233/laws.FnExactEntryOk" = some f) (hfn : Tryd.pinned.checked.prog.funcs[f]? = some fn) :
    true = Tryd.pinned.checked.prog.looks [] ∧ ∀ (j : Nat) t, fn.params[j]? = some t → Tryd.pinned.checked.prog.wantsStandIn t = false := by
  obtain rfl : f = 11 := Option.some.inj ((show Tryd.prog.funcNamed "loop.example/g00233/laws.FnExactEntryOk" = some 11 by kernel_rfl).symm.trans hf) |>.symm
  obtain rfl : fn = Tryd.f11 := (Option.some.inj (Tryd.func11.symm.trans hfn)).symm
  refine ⟨by kernel_rfl, fun j t ht => ?_⟩
  rw [Tryd.params11] at ht
  have hm := Array.mem_of_getElem? ht
  have hall : ([64].all fun u => !Tryd.prog.wantsStandIn u) = true := by kernel_rfl
  have hm2 : t ∈ [64] := by simpa using hm
  exact (show Tryd.prog.wantsStandIn t = false by simpa using List.all_eq_true.1 hall t hm2)
/-- The card. -/
theorem proved : Rows.FnExactEntryOkCardSaid :=
  Claim7.holds_tied_plain_at .later [] _ _ _ _ said (fun _ h => by cases h) (by kernel_rfl) (fun _ h => by cases h) fnExactEntryOk_row_tie rfl ⟨rfl, rfl⟩ (by kernel_rfl) rfl plain (by kernel_rfl)
end Go.Proofs.YtkofdkinaahbpaaDoor.fnExactEntryOk
namespace Go.Proofs.YtkofdkinaahbpaaDoor
/-- The row, under a short name, for the claim. -/
theorem fnExactEntryOk_holds : Rows.FnExactEntryOkCardSaid := fnExactEntryOk.proved
end Go.Proofs.YtkofdkinaahbpaaDoor
