/- The law FnExactPutEntry, as a plain statement: the program's PutEntry answers as the reference's, and leaves its argument alone. Conditions: those of the row's reading alone. -/
/- Part 10 of 10 of this claim's texts. -/
import Derived.Test.YtgdknepphkhnlaaGreatDoorRows
import Derived.Stop.LaidErr
import Derived.Test.YtgdknepphkhnlaaGreatDoorCards
import Derived.Test.YtgdknepphkhnlaaGreatDoorTie
import Derived.Deep.DeepHandedRow
import Derived.Lib.LaidTab
import Derived.WalkKit
import Derived.ProofKit
import Derived.OpenShut
import Derived.ShutString
import Derived.ChangeOld
import Derived.Below
import Derived.SizedLaws
import Derived.Test.YtgdknepphkhnlaaGreatDoorCFnExactPutEntry0
import Derived.Test.YtgdknepphkhnlaaGreatDoorCFnExactPutEntry1
import Derived.Test.YtgdknepphkhnlaaGreatDoorCFnExactPutEntry7
import Derived.Test.YtgdknepphkhnlaaGreatDoorCFnExactPutEntry8
namespace Go.Proofs.YtgdknepphkhnlaaGreatDoor.fnExactPutEntry
open Go.Proofs.YtgdknepphkhnlaaGreatDoor.X Go.Proofs.YtgdknepphkhnlaaGreatDoorW.PrintWords
open Go.ChangeShapes Go.WideShapes Go.ChangeAt Go.RowKit
open Go.ChangeMaps (open_string shut_string)
set_option linter.unusedVariables false
theorem own : ownKnob Tryz.prog.godebug = none := by kernel_rfl
theorem laidOut : laidOutB Tryz.prog = true := by kernel_rfl
theorem laid_pow : (Rows.laid_internal_strconv_uint64pow10 : DataW Unit) = Lib.tabData .u64 Lib.pow10Tab := by kernel_rfl
theorem globLaid {W : World} (h : laidMet Tryz.prog Rows.fnExactPutEntryRow.laid W) : X.GlobI W := by
 have h2 := laidMet.tail (laidMet.tail (h))
 rw [laid_pow] at h2
 exact Lib.tabIs_of_head (g := 3) (t := 154) (e := 142) (n := 20) zi zi zi zi zi zi h2
theorem laid_met (os : Os) : laidMet Tryz.prog Rows.fnExactPutEntryRow.laid ((Y.laidWorld os).forCall (fun _ _ => 0) ⟨#[], #[.agg #[.string ByteArray.empty, .int .i64 0, .int .i64 0, .int .i64 0, .string ByteArray.empty, .slice none 0 0]], []⟩).memory := laidMet_of_run' 8 zi zi
theorem reads (os : Os) {H : Type} (enc : TypeId × Value → H) : ∃ places, DataW.whole enc Tryz.prog ((Y.laidWorld os).forCall (fun _ _ => 0) ⟨#[], #[.agg #[.string ByteArray.empty, .int .i64 0, .int .i64 0, .int .i64 0, .string ByteArray.empty, .slice none 0 0]], []⟩).memory Tryz.f6.params.toList Rows.fnExactPutEntrySpec.vars false (#[.agg #[.string ByteArray.empty, .int .i64 0, .int .i64 0, .int .i64 0, .string ByteArray.empty, .slice none 0 0]] : Array Value).toList 8 = some ([.agg [.lit (.string []), .agg [.lit (.int .i64 0), .lit (.int .i64 0), .lit (.int .i64 0), .lit (.string [])], .nil]], [], places) := ⟨[], zi⟩
set_option maxRecDepth 100000 in
theorem lifted (os : Os) (started : os.Started) (H : Type) (enc : TypeId × Value → H) (F : Stop.Interp) :
  ReturnsInHanded {} Tryz.checked os 6 .any ((OpenSpec.ofChange Rows.fnExactPutEntrySpec).preRow enc Tryz.prog Tryz.f6 Rows.fnExactPutEntryRow.domain false Rows.fnExactPutEntryRow.laid) (((OpenSpec.ofChange Rows.fnExactPutEntrySpec).at F).post enc Tryz.prog Tryz.f6 false true false false) := by
 obtain ⟨places, hx⟩ := reads os enc
 refine returnsInHanded_of_row (C := Tryz.checked) (s := OpenSpec.ofChange Rows.fnExactPutEntrySpec) own started zi Tryz.func6
  (witness_row_at (enc := enc) (C := Tryz.checked) false (Y.laidWorld os) #[.agg #[.string ByteArray.empty, .int .i64 0, .int .i64 0, .int .i64 0, .string ByteArray.empty, .slice none 0 0]] rfl zi zi zi
   (OpenSpec.preRow_of_cond 8 hx zi (fun k hk => by cases hk) zi (laid_met os))) ?_
 intro W base args ds gs before hval0 hW hcnd _ hsz0 hL _ _
 have hsz : (DataW.weightsEach Tryz.prog (Tryz.f6.params.toList ++ Rows.fnExactPutEntrySpec.plain.varTypes Tryz.prog) (ds ++ gs)).all (· ≤ reachBytes) = true := hsz0
 have hval : ∀ (j : Nat) t v, Tryz.f6.params[j]? = some t → args[j]? = some v → Value.okWide Tryz.prog W .any base t v := hval0
 have hW' := hW
 obtain ⟨p, q, hA0, hV, rfl, hfz, hnd⟩ := hW
 have hA : DataW.TrodAll enc Tryz.prog W 0 (fun _ => true) true Tryz.f6.params.toList args.toList ds p := hA0
 rw [Tryz.params6] at hA hval hsz
 obtain ⟨v0, vs0, d0, ds0, p0, q0, hargs, rfl, rfl, h0, r0⟩ := trodAll_cons hA
 obtain ⟨rfl, rfl, rfl⟩ := trodAll_nil r0
 obtain rfl : args = #[v0] := by cases args; simp_all
 obtain ⟨rfl, rfl⟩ := trodVars_none hV
 have k0 := h0
 have lt0 : ∀ x ∈ p0, x.block < W.heap.size := by obtain ⟨m, hm⟩ := k0; exact DataW.trod_lt m _ _ _ hm
 haveI : Inhabited S110 := ⟨z110⟩
 obtain ⟨cs0, y0, rfl, q0', hg0⟩ := Y.Opn.arg_struct (d := k48) Tryz.underlying48 (Y.Opn.struct (fl := [⟨ "Path", 9, 0, false, "", "", 0⟩, ⟨ "V", 45, 1, false, "", "", 16⟩, ⟨ "Needs", 46, 5, false, "", "", 56⟩]) (G' := fun s => (s.f0.size ≤ maxLen) ∧ (((Lit.int .i64 s.f1.f0).wf = true) ∧ ((Lit.int .i64 s.f1.f1).wf = true) ∧ ((Lit.int .i64 s.f1.f2).wf = true) ∧ s.f1.f3.size ≤ maxLen) ∧ s.f2.length ≤ maxLen ∧ ∀ y, y ∈ s.f2 → (y.f0.size ≤ maxLen) ∧ ((Lit.int .i64 y.f1.f0).wf = true) ∧ ((Lit.int .i64 y.f1.f1).wf = true) ∧ ((Lit.int .i64 y.f1.f2).wf = true) ∧ y.f1.f3.size ≤ maxLen) (fun y => (⟨y.1, y.2.1, y.2.2⟩ : S48)) Tryz.underlying48 rfl zi (fun _ => rfl) (by intro _ h; exact h) (Y.FOpn.cons rfl zi (Y.Opn.string Tryz.underlying9) (Y.FOpn.cons rfl zi (Y.Opn.struct (fl := [⟨ "Major", 3, 0, false, "", "", 0⟩, ⟨ "Minor", 3, 1, false, "", "", 8⟩, ⟨ "Patch", 3, 2, false, "", "", 16⟩, ⟨ "Pre", 9, 3, false, "", "", 24⟩]) (G' := fun s => ((Lit.int .i64 s.f0).wf = true) ∧ ((Lit.int .i64 s.f1).wf = true) ∧ ((Lit.int .i64 s.f2).wf = true) ∧ s.f3.size ≤ maxLen) (fun y => (⟨y.1, y.2.1, y.2.2.1, y.2.2.2⟩ : S45)) Tryz.underlying45 rfl zi (fun _ => rfl) (by intro _ h; exact h) (Y.FOpn.cons rfl zi (Y.Opn.int Tryz.underlying3) (Y.FOpn.cons rfl zi (Y.Opn.int Tryz.underlying3) (Y.FOpn.cons rfl zi (Y.Opn.int Tryz.underlying3) (Y.FOpn.one rfl zi (Y.Opn.string Tryz.underlying9)))))) (Y.FOpn.one rfl zi (Y.Opn.slice Tryz.underlying46 zi (Y.Opn.struct (fl := [⟨ "Path", 9, 0, false, "", "", 0⟩, ⟨ "V", 45, 1, false, "", "", 16⟩]) (G' := fun s => (s.f0.size ≤ maxLen) ∧ ((Lit.int .i64 s.f1.f0).wf = true) ∧ ((Lit.int .i64 s.f1.f1).wf = true) ∧ ((Lit.int .i64 s.f1.f2).wf = true) ∧ s.f1.f3.size ≤ maxLen) (fun y => (⟨y.1, y.2⟩ : S110)) Tryz.underlying110 rfl zi (fun _ => rfl) (by intro _ h; exact h) (Y.FOpn.cons rfl zi (Y.Opn.string Tryz.underlying9) (Y.FOpn.one rfl zi (Y.Opn.struct (fl := [⟨ "Major", 3, 0, false, "", "", 0⟩, ⟨ "Minor", 3, 1, false, "", "", 8⟩, ⟨ "Patch", 3, 2, false, "", "", 16⟩, ⟨ "Pre", 9, 3, false, "", "", 24⟩]) (G' := fun s => ((Lit.int .i64 s.f0).wf = true) ∧ ((Lit.int .i64 s.f1).wf = true) ∧ ((Lit.int .i64 s.f2).wf = true) ∧ s.f3.size ≤ maxLen) (fun y => (⟨y.1, y.2.1, y.2.2.1, y.2.2.2⟩ : S45)) Tryz.underlying45 rfl zi (fun _ => rfl) (by intro _ h; exact h) (Y.FOpn.cons rfl zi (Y.Opn.int Tryz.underlying3) (Y.FOpn.cons rfl zi (Y.Opn.int Tryz.underlying3) (Y.FOpn.cons rfl zi (Y.Opn.int Tryz.underlying3) (Y.FOpn.one rfl zi (Y.Opn.string Tryz.underlying9)))))))))))))) (hval 0 48 v0 rfl rfl) h0
 obtain ⟨A0_5, c0_5, rfl, hc0_5, hr0_5⟩ := k48_open q0'
 clear hA0 hval0 hsz0 hsz
 refine (X.laws_FnExactPutEntry.walk (hG_ := globLaid hL) Pure.FnExactPutEntry y0.f0 y0.f1.f0 y0.f1.f1 y0.f1.f2 y0.f1.f3 A0_5 c0_5 y0.f2 W hr0_5 hc0_5 hg0).mono fun e W' ⟨he, bel⟩ => ?_
 subst he
 exact ⟨_, rfl, _, _, _, [], _, [], hW', trodAll_mk1 (shut_bool Tryz.underlying4 _), (trodAll_cons_mk (Below.trod laidOut zi (of_decide_eq_true zi) k0 bel lt0) trodAll_mk0), rfl, bel.frame _, fun h => by cases h⟩
theorem both {a b : Bool} (h : a = true) (k : b = true) : (a && b) = true := by rw [h, k]; rfl
set_option maxHeartbeats 4000000 in
theorem closed : joinedFacts Tryz.pinned.checked.prog 6 Tryz.f6 (OpenSpec.ofChange Rows.fnExactPutEntrySpec).bare Rows.fnExactPutEntryRow = true := by
 unfold joinedFacts
 repeat' (with_reducible refine both ?_ ?_)
 all_goals first | (with_reducible exact Y.mayEnter_at) | (rw [Y.liftsFinal_at]; kernel_rfl) | (rw [Y.make_at]; kernel_rfl) | as_aux_lemma => kernel_rfl
theorem over : Rows.fnExactPutEntryRow.holds Tryz.pinned (OpenSpec.ofChange Rows.fnExactPutEntrySpec) :=
 OpenClaim.holds_of_cond 6 Tryz.f6 rfl rfl rfl rfl rfl rfl rfl ⟨rfl, rfl, rfl, rfl, rfl⟩ rfl rfl rfl rfl rfl (by as_aux_lemma => kernel_rfl) Tryz.func6 closed
  (of_decide_eq_true zi) (by unfold Func.isWrapper; first | (rw [if_pos (by decide +kernel)]; kernel_rfl) | (rw [if_neg (by decide +kernel)]; exact ⟨rfl, rfl⟩))
  (fun os started H enc _ F => by rw [OpenClaim.pre_eq_preRow]; exact lifted os started H enc F)
theorem said : Rows.FnExactPutEntrySaid := over
theorem plain (f : FuncId) (fn : Func) (hf : Tryz.pinned.checked.prog.funcNamed "loop.example/g00233/laws.FnExactPutEntry" = some f) (hfn : Tryz.pinned.checked.prog.funcs[f]? = some fn) :
  true = Tryz.pinned.checked.prog.looks [] ∧ ∀ (j : Nat) t, fn.params[j]? = some t → Tryz.pinned.checked.prog.wantsStandIn t = false := by
 obtain rfl : f = 6 := Option.some.inj ((show Tryz.prog.funcNamed "loop.example/g00233/laws.FnExactPutEntry" = some 6 by kernel_rfl).symm.trans hf) |>.symm
 obtain rfl : fn = Tryz.f6 := (Option.some.inj (Tryz.func6.symm.trans hfn)).symm
 refine ⟨zi, fun j t ht => ?_⟩
 rw [Tryz.params6] at ht
 have hm := Array.mem_of_getElem? ht
 have hall : ([48].all fun u => !Tryz.prog.wantsStandIn u) = true := by kernel_rfl
 have hm2 : t ∈ [48] := by simpa using hm
 exact (show Tryz.prog.wantsStandIn t = false by simpa using List.all_eq_true.1 hall t hm2)
theorem proved : Rows.FnExactPutEntryCardSaid :=
 Claim7.holds_tied_plain_at .later [] _ _ _ _ said (fun _ h => by cases h) zi (fun _ h => by cases h) fnExactPutEntry_row_tie rfl ⟨rfl, rfl⟩ zi rfl plain zi
end Go.Proofs.YtgdknepphkhnlaaGreatDoor.fnExactPutEntry
namespace Go.Proofs.YtgdknepphkhnlaaGreatDoor
theorem fnExactPutEntry_holds : Rows.FnExactPutEntryCardSaid := fnExactPutEntry.proved
end Go.Proofs.YtgdknepphkhnlaaGreatDoor
