/-
  No cell of these rows narrows 'for every input' (looked for: loops, veiled, ifaces, maps, wideKeys, modest, calm, conditions, laid).
  DERIVED. THE GIVEN ROWS OF THIS SEAT. 25 by the template 'for every input the law returns true; each argument reads behind the call as it read before'; 0 by the template 'total and deterministic' (their statements: YtmkhhnfmahdijaaTotals.lean).
  GIVEN WITH THE SEED: the statements are not yours to turn. If you find one false, say at which input.
  Laid BY PROGRAM, IN A SANDBOX (cutbox-rows.mjs): the forced cells as the released guide's own fill.sh prints them over the translation 56715615af4e1f41… (all of the seat's roots in one cut). By AI agents, Wed Nov 11 2026. No macro, syntax, notation, axiom, sorry.
-/
import Derived.Test.YtmkhhnfmahdijaaChecked
import GoSem.Claim
import GoSem.ClaimJoined
import GoSem.ClaimMapViews
import Derived.JoinedTies
import Derived.KernelRfl
namespace Go.Proofs.Ytmkhhnfmahdijaa
/- THE CELL 'sum', in the pinned program and in every row, IS THE sha256 OF THE DUMP (.gsa) THAT YtmkhhnfmahdijaaProg.lean LOADS. Nothing in Lean hashes anything: it is a label: what it is worth is what the hold of that sum in a sandbox is worth. -/
noncomputable def Try.pinned : Pinned := { name := "ytmkhhnfmahdijaa", sum := "56715615af4e1f4144a721f64a384f212a07fd4ad24f203f06aff82b3cb35315", checked := Try.checked }
namespace Rows
def none {H : Type} : Left H := { results := [], args := [] }

/-- 'laws.FnExactConstants': WHATEVER THE INPUT: true; the input reads as it did. -/
def fnExactConstantsSpec : ChangeSpec := { name := "fnExactConstants", fn := fun _ => fun
  | [] => { results := [.lit (.bool true)], args := [] }
  | _ => none }
def fnExactConstantsRow : OpenClaim := { program := "ytmkhhnfmahdijaa", sum := "56715615af4e1f4144a721f64a384f212a07fd4ad24f203f06aff82b3cb35315", func := "loop.example/g00233/laws.FnExactConstants", spec := "fnExactConstants", apart := false }
def FnExactConstantsSaid : Prop := fnExactConstantsRow.holds Try.pinned (OpenSpec.ofChange fnExactConstantsSpec)

/-- ITS FALSE NEIGHBOUR: 'it returns false'. Refute it at one input. -/
def fnExactConstantsWrong : ChangeSpec := { name := "fnExactConstants", fn := fun _ => fun
  | [] => { results := [.lit (.bool false)], args := [] }
  | _ => none }
def FnExactConstantsWrongFalsely : Prop := fnExactConstantsRow.holds Try.pinned (OpenSpec.ofChange fnExactConstantsWrong)

/-- 'laws.FnExactHexOf': WHATEVER THE INPUT: true; the input reads as it did. -/
def fnExactHexOfSpec : ChangeSpec := { name := "fnExactHexOf", fn := fun _ => fun
  | [d] => { results := [.lit (.bool true)], args := [d] }
  | _ => none }
def fnExactHexOfRow : OpenClaim := { program := "ytmkhhnfmahdijaa", sum := "56715615af4e1f4144a721f64a384f212a07fd4ad24f203f06aff82b3cb35315", func := "loop.example/g00233/laws.FnExactHexOf", spec := "fnExactHexOf", inPlace := ["internal/abi.NoEscape"], apart := false }
def FnExactHexOfSaid : Prop := fnExactHexOfRow.holds Try.pinned (OpenSpec.ofChange fnExactHexOfSpec)

/-- ITS FALSE NEIGHBOUR: 'it returns false'. Refute it at one input. -/
def fnExactHexOfWrong : ChangeSpec := { name := "fnExactHexOf", fn := fun _ => fun
  | [d] => { results := [.lit (.bool false)], args := [d] }
  | _ => none }
def FnExactHexOfWrongFalsely : Prop := fnExactHexOfRow.holds Try.pinned (OpenSpec.ofChange fnExactHexOfWrong)

/-- 'laws.FnExactUnHex': WHATEVER THE INPUT: true; the input reads as it did. -/
def fnExactUnHexSpec : ChangeSpec := { name := "fnExactUnHex", fn := fun _ => fun
  | [d] => { results := [.lit (.bool true)], args := [d] }
  | _ => none }
def fnExactUnHexRow : OpenClaim := { program := "ytmkhhnfmahdijaa", sum := "56715615af4e1f4144a721f64a384f212a07fd4ad24f203f06aff82b3cb35315", func := "loop.example/g00233/laws.FnExactUnHex", spec := "fnExactUnHex", inPlace := ["internal/bytealg.IndexByteString"], apart := false }
def FnExactUnHexSaid : Prop := fnExactUnHexRow.holds Try.pinned (OpenSpec.ofChange fnExactUnHexSpec)

/-- ITS FALSE NEIGHBOUR: 'it returns false'. Refute it at one input. -/
def fnExactUnHexWrong : ChangeSpec := { name := "fnExactUnHex", fn := fun _ => fun
  | [d] => { results := [.lit (.bool false)], args := [d] }
  | _ => none }
def FnExactUnHexWrongFalsely : Prop := fnExactUnHexRow.holds Try.pinned (OpenSpec.ofChange fnExactUnHexWrong)

/-- 'laws.FnExactGetNum': WHATEVER THE INPUT: true; the input reads as it did. -/
def fnExactGetNumSpec : ChangeSpec := { name := "fnExactGetNum", fn := fun _ => fun
  | [d1, d2] => { results := [.lit (.bool true)], args := [d1, d2] }
  | _ => none }
def fnExactGetNumRow : OpenClaim := { program := "ytmkhhnfmahdijaa", sum := "56715615af4e1f4144a721f64a384f212a07fd4ad24f203f06aff82b3cb35315", func := "loop.example/g00233/laws.FnExactGetNum", spec := "fnExactGetNum", apart := false }
def FnExactGetNumSaid : Prop := fnExactGetNumRow.holds Try.pinned (OpenSpec.ofChange fnExactGetNumSpec)

/-- ITS FALSE NEIGHBOUR: 'it returns false'. Refute it at one input. -/
def fnExactGetNumWrong : ChangeSpec := { name := "fnExactGetNum", fn := fun _ => fun
  | [d1, d2] => { results := [.lit (.bool false)], args := [d1, d2] }
  | _ => none }
def FnExactGetNumWrongFalsely : Prop := fnExactGetNumRow.holds Try.pinned (OpenSpec.ofChange fnExactGetNumWrong)

/-- 'laws.FnExactPadded': WHATEVER THE INPUT: true; the input reads as it did. -/
def fnExactPaddedSpec : ChangeSpec := { name := "fnExactPadded", fn := fun _ => fun
  | [d] => { results := [.lit (.bool true)], args := [d] }
  | _ => none }
def fnExactPaddedRow : OpenClaim := { program := "ytmkhhnfmahdijaa", sum := "56715615af4e1f4144a721f64a384f212a07fd4ad24f203f06aff82b3cb35315", func := "loop.example/g00233/laws.FnExactPadded", spec := "fnExactPadded", apart := false }
def FnExactPaddedSaid : Prop := fnExactPaddedRow.holds Try.pinned (OpenSpec.ofChange fnExactPaddedSpec)

/-- ITS FALSE NEIGHBOUR: 'it returns false'. Refute it at one input. -/
def fnExactPaddedWrong : ChangeSpec := { name := "fnExactPadded", fn := fun _ => fun
  | [d] => { results := [.lit (.bool false)], args := [d] }
  | _ => none }
def FnExactPaddedWrongFalsely : Prop := fnExactPaddedRow.holds Try.pinned (OpenSpec.ofChange fnExactPaddedWrong)

/-- 'laws.FnExactGetText': WHATEVER THE INPUT: true; the input reads as it did. -/
def fnExactGetTextSpec : ChangeSpec := { name := "fnExactGetText", fn := fun _ => fun
  | [d1, d2] => { results := [.lit (.bool true)], args := [d1, d2] }
  | _ => none }
def fnExactGetTextRow : OpenClaim := { program := "ytmkhhnfmahdijaa", sum := "56715615af4e1f4144a721f64a384f212a07fd4ad24f203f06aff82b3cb35315", func := "loop.example/g00233/laws.FnExactGetText", spec := "fnExactGetText", apart := false }
def FnExactGetTextSaid : Prop := fnExactGetTextRow.holds Try.pinned (OpenSpec.ofChange fnExactGetTextSpec)

/-- ITS FALSE NEIGHBOUR: 'it returns false'. Refute it at one input. -/
def fnExactGetTextWrong : ChangeSpec := { name := "fnExactGetText", fn := fun _ => fun
  | [d1, d2] => { results := [.lit (.bool false)], args := [d1, d2] }
  | _ => none }
def FnExactGetTextWrongFalsely : Prop := fnExactGetTextRow.holds Try.pinned (OpenSpec.ofChange fnExactGetTextWrong)

/-- 'laws.FnExactPutNum': WHATEVER THE INPUT: true; the input reads as it did. -/
def fnExactPutNumSpec : ChangeSpec := { name := "fnExactPutNum", fn := fun _ => fun
  | [d1, d2] => { results := [.lit (.bool true)], args := [d1, d2] }
  | _ => none }
def fnExactPutNumRow : OpenClaim := { program := "ytmkhhnfmahdijaa", sum := "56715615af4e1f4144a721f64a384f212a07fd4ad24f203f06aff82b3cb35315", func := "loop.example/g00233/laws.FnExactPutNum", spec := "fnExactPutNum", apart := false }
def FnExactPutNumSaid : Prop := fnExactPutNumRow.holds Try.pinned (OpenSpec.ofChange fnExactPutNumSpec)

/-- ITS FALSE NEIGHBOUR: 'it returns false'. Refute it at one input. -/
def fnExactPutNumWrong : ChangeSpec := { name := "fnExactPutNum", fn := fun _ => fun
  | [d1, d2] => { results := [.lit (.bool false)], args := [d1, d2] }
  | _ => none }
def FnExactPutNumWrongFalsely : Prop := fnExactPutNumRow.holds Try.pinned (OpenSpec.ofChange fnExactPutNumWrong)

/-- 'laws.FnExactPutText': WHATEVER THE INPUT: true; the input reads as it did. -/
def fnExactPutTextSpec : ChangeSpec := { name := "fnExactPutText", fn := fun _ => fun
  | [d1, d2] => { results := [.lit (.bool true)], args := [d1, d2] }
  | _ => none }
def fnExactPutTextRow : OpenClaim := { program := "ytmkhhnfmahdijaa", sum := "56715615af4e1f4144a721f64a384f212a07fd4ad24f203f06aff82b3cb35315", func := "loop.example/g00233/laws.FnExactPutText", spec := "fnExactPutText", apart := false }
def FnExactPutTextSaid : Prop := fnExactPutTextRow.holds Try.pinned (OpenSpec.ofChange fnExactPutTextSpec)

/-- ITS FALSE NEIGHBOUR: 'it returns false'. Refute it at one input. -/
def fnExactPutTextWrong : ChangeSpec := { name := "fnExactPutText", fn := fun _ => fun
  | [d1, d2] => { results := [.lit (.bool false)], args := [d1, d2] }
  | _ => none }
def FnExactPutTextWrongFalsely : Prop := fnExactPutTextRow.holds Try.pinned (OpenSpec.ofChange fnExactPutTextWrong)

/-- 'laws.FnNums': WHATEVER THE INPUT: true; the input reads as it did. -/
def fnNumsSpec : ChangeSpec := { name := "fnNums", fn := fun _ => fun
  | [d] => { results := [.lit (.bool true)], args := [d] }
  | _ => none }
def fnNumsRow : OpenClaim := { program := "ytmkhhnfmahdijaa", sum := "56715615af4e1f4144a721f64a384f212a07fd4ad24f203f06aff82b3cb35315", func := "loop.example/g00233/laws.FnNums", spec := "fnNums", apart := false }
def FnNumsSaid : Prop := fnNumsRow.holds Try.pinned (OpenSpec.ofChange fnNumsSpec)

/-- ITS FALSE NEIGHBOUR: 'it returns false'. Refute it at one input. -/
def fnNumsWrong : ChangeSpec := { name := "fnNums", fn := fun _ => fun
  | [d] => { results := [.lit (.bool false)], args := [d] }
  | _ => none }
def FnNumsWrongFalsely : Prop := fnNumsRow.holds Try.pinned (OpenSpec.ofChange fnNumsWrong)

/-- 'laws.FnExactEdgeOk': WHATEVER THE INPUT: true; the input reads as it did. -/
def fnExactEdgeOkSpec : ChangeSpec := { name := "fnExactEdgeOk", fn := fun _ => fun
  | [d] => { results := [.lit (.bool true)], args := [d] }
  | _ => none }
def fnExactEdgeOkRow : OpenClaim := { program := "ytmkhhnfmahdijaa", sum := "56715615af4e1f4144a721f64a384f212a07fd4ad24f203f06aff82b3cb35315", func := "loop.example/g00233/laws.FnExactEdgeOk", spec := "fnExactEdgeOk", apart := false }
def FnExactEdgeOkSaid : Prop := fnExactEdgeOkRow.holds Try.pinned (OpenSpec.ofChange fnExactEdgeOkSpec)

/-- ITS FALSE NEIGHBOUR: 'it returns false'. Refute it at one input. -/
def fnExactEdgeOkWrong : ChangeSpec := { name := "fnExactEdgeOk", fn := fun _ => fun
  | [d] => { results := [.lit (.bool false)], args := [d] }
  | _ => none }
def FnExactEdgeOkWrongFalsely : Prop := fnExactEdgeOkRow.holds Try.pinned (OpenSpec.ofChange fnExactEdgeOkWrong)

/-- 'laws.FnExactPutTexts': WHATEVER THE INPUT: true; the input reads as it did. -/
def fnExactPutTextsSpec : ChangeSpec := { name := "fnExactPutTexts", fn := fun _ => fun
  | [d1, d2] => { results := [.lit (.bool true)], args := [d1, d2] }
  | _ => none }
def fnExactPutTextsRow : OpenClaim := { program := "ytmkhhnfmahdijaa", sum := "56715615af4e1f4144a721f64a384f212a07fd4ad24f203f06aff82b3cb35315", func := "loop.example/g00233/laws.FnExactPutTexts", spec := "fnExactPutTexts", apart := false }
def FnExactPutTextsSaid : Prop := fnExactPutTextsRow.holds Try.pinned (OpenSpec.ofChange fnExactPutTextsSpec)

/-- ITS FALSE NEIGHBOUR: 'it returns false'. Refute it at one input. -/
def fnExactPutTextsWrong : ChangeSpec := { name := "fnExactPutTexts", fn := fun _ => fun
  | [d1, d2] => { results := [.lit (.bool false)], args := [d1, d2] }
  | _ => none }
def FnExactPutTextsWrongFalsely : Prop := fnExactPutTextsRow.holds Try.pinned (OpenSpec.ofChange fnExactPutTextsWrong)

/-- 'laws.FnTexts': WHATEVER THE INPUT: true; the input reads as it did. -/
def fnTextsSpec : ChangeSpec := { name := "fnTexts", fn := fun _ => fun
  | [d] => { results := [.lit (.bool true)], args := [d] }
  | _ => none }
def fnTextsRow : OpenClaim := { program := "ytmkhhnfmahdijaa", sum := "56715615af4e1f4144a721f64a384f212a07fd4ad24f203f06aff82b3cb35315", func := "loop.example/g00233/laws.FnTexts", spec := "fnTexts", apart := false }
def FnTextsSaid : Prop := fnTextsRow.holds Try.pinned (OpenSpec.ofChange fnTextsSpec)

/-- ITS FALSE NEIGHBOUR: 'it returns false'. Refute it at one input. -/
def fnTextsWrong : ChangeSpec := { name := "fnTexts", fn := fun _ => fun
  | [d] => { results := [.lit (.bool false)], args := [d] }
  | _ => none }
def FnTextsWrongFalsely : Prop := fnTextsRow.holds Try.pinned (OpenSpec.ofChange fnTextsWrong)

/-- 'laws.FnExactGetTexts': WHATEVER THE INPUT: true; the input reads as it did. -/
def fnExactGetTextsSpec : ChangeSpec := { name := "fnExactGetTexts", fn := fun _ => fun
  | [d1, d2] => { results := [.lit (.bool true)], args := [d1, d2] }
  | _ => none }
def fnExactGetTextsRow : OpenClaim := { program := "ytmkhhnfmahdijaa", sum := "56715615af4e1f4144a721f64a384f212a07fd4ad24f203f06aff82b3cb35315", func := "loop.example/g00233/laws.FnExactGetTexts", spec := "fnExactGetTexts", apart := false }
def FnExactGetTextsSaid : Prop := fnExactGetTextsRow.holds Try.pinned (OpenSpec.ofChange fnExactGetTextsSpec)

/-- ITS FALSE NEIGHBOUR: 'it returns false'. Refute it at one input. -/
def fnExactGetTextsWrong : ChangeSpec := { name := "fnExactGetTexts", fn := fun _ => fun
  | [d1, d2] => { results := [.lit (.bool false)], args := [d1, d2] }
  | _ => none }
def FnExactGetTextsWrongFalsely : Prop := fnExactGetTextsRow.holds Try.pinned (OpenSpec.ofChange fnExactGetTextsWrong)

/-- 'laws.FnRoots': WHATEVER THE INPUT: true; the input reads as it did. -/
def fnRootsSpec : ChangeSpec := { name := "fnRoots", fn := fun _ => fun
  | [d] => { results := [.lit (.bool true)], args := [d] }
  | _ => none }
def fnRootsRow : OpenClaim := { program := "ytmkhhnfmahdijaa", sum := "56715615af4e1f4144a721f64a384f212a07fd4ad24f203f06aff82b3cb35315", func := "loop.example/g00233/laws.FnRoots", spec := "fnRoots", unfollowed := true, recurses := true, apart := false }
def FnRootsSaid : Prop := fnRootsRow.holds Try.pinned (OpenSpec.ofChange fnRootsSpec)

/-- ITS FALSE NEIGHBOUR: 'it returns false'. Refute it at one input. -/
def fnRootsWrong : ChangeSpec := { name := "fnRoots", fn := fun _ => fun
  | [d] => { results := [.lit (.bool false)], args := [d] }
  | _ => none }
def FnRootsWrongFalsely : Prop := fnRootsRow.holds Try.pinned (OpenSpec.ofChange fnRootsWrong)

/-- 'laws.FnExactLeafHash': WHATEVER THE INPUT: true; the input reads as it did. -/
def fnExactLeafHashSpec : ChangeSpec := { name := "fnExactLeafHash", fn := fun _ => fun
  | [d] => { results := [.lit (.bool true)], args := [d] }
  | _ => none }
def fnExactLeafHashRow : OpenClaim := { program := "ytmkhhnfmahdijaa", sum := "56715615af4e1f4144a721f64a384f212a07fd4ad24f203f06aff82b3cb35315", func := "loop.example/g00233/laws.FnExactLeafHash", spec := "fnExactLeafHash", unfollowed := true, recurses := true, apart := false }
def FnExactLeafHashSaid : Prop := fnExactLeafHashRow.holds Try.pinned (OpenSpec.ofChange fnExactLeafHashSpec)

/-- ITS FALSE NEIGHBOUR: 'it returns false'. Refute it at one input. -/
def fnExactLeafHashWrong : ChangeSpec := { name := "fnExactLeafHash", fn := fun _ => fun
  | [d] => { results := [.lit (.bool false)], args := [d] }
  | _ => none }
def FnExactLeafHashWrongFalsely : Prop := fnExactLeafHashRow.holds Try.pinned (OpenSpec.ofChange fnExactLeafHashWrong)

/-- 'laws.FnExactNodeHash': WHATEVER THE INPUT: true; the input reads as it did. -/
def fnExactNodeHashSpec : ChangeSpec := { name := "fnExactNodeHash", fn := fun _ => fun
  | [d1, d2] => { results := [.lit (.bool true)], args := [d1, d2] }
  | _ => none }
def fnExactNodeHashRow : OpenClaim := { program := "ytmkhhnfmahdijaa", sum := "56715615af4e1f4144a721f64a384f212a07fd4ad24f203f06aff82b3cb35315", func := "loop.example/g00233/laws.FnExactNodeHash", spec := "fnExactNodeHash", unfollowed := true, recurses := true, apart := false }
def FnExactNodeHashSaid : Prop := fnExactNodeHashRow.holds Try.pinned (OpenSpec.ofChange fnExactNodeHashSpec)

/-- ITS FALSE NEIGHBOUR: 'it returns false'. Refute it at one input. -/
def fnExactNodeHashWrong : ChangeSpec := { name := "fnExactNodeHash", fn := fun _ => fun
  | [d1, d2] => { results := [.lit (.bool false)], args := [d1, d2] }
  | _ => none }
def FnExactNodeHashWrongFalsely : Prop := fnExactNodeHashRow.holds Try.pinned (OpenSpec.ofChange fnExactNodeHashWrong)

/-- 'laws.FnExactDigest': WHATEVER THE INPUT: true; the input reads as it did. -/
def fnExactDigestSpec : ChangeSpec := { name := "fnExactDigest", fn := fun _ => fun
  | [d] => { results := [.lit (.bool true)], args := [d] }
  | _ => none }
def fnExactDigestRow : OpenClaim := { program := "ytmkhhnfmahdijaa", sum := "56715615af4e1f4144a721f64a384f212a07fd4ad24f203f06aff82b3cb35315", func := "loop.example/g00233/laws.FnExactDigest", spec := "fnExactDigest", unfollowed := true, recurses := true, apart := false }
def FnExactDigestSaid : Prop := fnExactDigestRow.holds Try.pinned (OpenSpec.ofChange fnExactDigestSpec)

/-- ITS FALSE NEIGHBOUR: 'it returns false'. Refute it at one input. -/
def fnExactDigestWrong : ChangeSpec := { name := "fnExactDigest", fn := fun _ => fun
  | [d] => { results := [.lit (.bool false)], args := [d] }
  | _ => none }
def FnExactDigestWrongFalsely : Prop := fnExactDigestRow.holds Try.pinned (OpenSpec.ofChange fnExactDigestWrong)

/-- 'laws.FnPaths': WHATEVER THE INPUT: true; the input reads as it did. -/
def fnPathsSpec : ChangeSpec := { name := "fnPaths", fn := fun _ => fun
  | [d] => { results := [.lit (.bool true)], args := [d] }
  | _ => none }
def fnPathsRow : OpenClaim := { program := "ytmkhhnfmahdijaa", sum := "56715615af4e1f4144a721f64a384f212a07fd4ad24f203f06aff82b3cb35315", func := "loop.example/g00233/laws.FnPaths", spec := "fnPaths", unfollowed := true, recurses := true, apart := false }
def FnPathsSaid : Prop := fnPathsRow.holds Try.pinned (OpenSpec.ofChange fnPathsSpec)

/-- ITS FALSE NEIGHBOUR: 'it returns false'. Refute it at one input. -/
def fnPathsWrong : ChangeSpec := { name := "fnPaths", fn := fun _ => fun
  | [d] => { results := [.lit (.bool false)], args := [d] }
  | _ => none }
def FnPathsWrongFalsely : Prop := fnPathsRow.holds Try.pinned (OpenSpec.ofChange fnPathsWrong)

/-- 'laws.FnGrown': WHATEVER THE INPUT: true; the input reads as it did. -/
def fnGrownSpec : ChangeSpec := { name := "fnGrown", fn := fun _ => fun
  | [d] => { results := [.lit (.bool true)], args := [d] }
  | _ => none }
def fnGrownRow : OpenClaim := { program := "ytmkhhnfmahdijaa", sum := "56715615af4e1f4144a721f64a384f212a07fd4ad24f203f06aff82b3cb35315", func := "loop.example/g00233/laws.FnGrown", spec := "fnGrown", unfollowed := true, recurses := true, apart := false }
def FnGrownSaid : Prop := fnGrownRow.holds Try.pinned (OpenSpec.ofChange fnGrownSpec)

/-- ITS FALSE NEIGHBOUR: 'it returns false'. Refute it at one input. -/
def fnGrownWrong : ChangeSpec := { name := "fnGrown", fn := fun _ => fun
  | [d] => { results := [.lit (.bool false)], args := [d] }
  | _ => none }
def FnGrownWrongFalsely : Prop := fnGrownRow.holds Try.pinned (OpenSpec.ofChange fnGrownWrong)

/-- 'laws.FnExactRootOf': WHATEVER THE INPUT: true; the input reads as it did. -/
def fnExactRootOfSpec : ChangeSpec := { name := "fnExactRootOf", fn := fun _ => fun
  | [d] => { results := [.lit (.bool true)], args := [d] }
  | _ => none }
def fnExactRootOfRow : OpenClaim := { program := "ytmkhhnfmahdijaa", sum := "56715615af4e1f4144a721f64a384f212a07fd4ad24f203f06aff82b3cb35315", func := "loop.example/g00233/laws.FnExactRootOf", spec := "fnExactRootOf", unfollowed := true, recurses := true, apart := false }
def FnExactRootOfSaid : Prop := fnExactRootOfRow.holds Try.pinned (OpenSpec.ofChange fnExactRootOfSpec)

/-- ITS FALSE NEIGHBOUR: 'it returns false'. Refute it at one input. -/
def fnExactRootOfWrong : ChangeSpec := { name := "fnExactRootOf", fn := fun _ => fun
  | [d] => { results := [.lit (.bool false)], args := [d] }
  | _ => none }
def FnExactRootOfWrongFalsely : Prop := fnExactRootOfRow.holds Try.pinned (OpenSpec.ofChange fnExactRootOfWrong)

/-- 'laws.FnDigests': WHATEVER THE INPUT: true; the input reads as it did. -/
def fnDigestsSpec : ChangeSpec := { name := "fnDigests", fn := fun _ => fun
  | [d] => { results := [.lit (.bool true)], args := [d] }
  | _ => none }
def fnDigestsRow : OpenClaim := { program := "ytmkhhnfmahdijaa", sum := "56715615af4e1f4144a721f64a384f212a07fd4ad24f203f06aff82b3cb35315", func := "loop.example/g00233/laws.FnDigests", spec := "fnDigests", inPlace := ["internal/abi.NoEscape", "internal/bytealg.IndexByteString"], unfollowed := true, recurses := true, apart := false }
def FnDigestsSaid : Prop := fnDigestsRow.holds Try.pinned (OpenSpec.ofChange fnDigestsSpec)

/-- ITS FALSE NEIGHBOUR: 'it returns false'. Refute it at one input. -/
def fnDigestsWrong : ChangeSpec := { name := "fnDigests", fn := fun _ => fun
  | [d] => { results := [.lit (.bool false)], args := [d] }
  | _ => none }
def FnDigestsWrongFalsely : Prop := fnDigestsRow.holds Try.pinned (OpenSpec.ofChange fnDigestsWrong)

/-- 'laws.FnExactCheckIn': WHATEVER THE INPUT: true; the input reads as it did. -/
def fnExactCheckInSpec : ChangeSpec := { name := "fnExactCheckIn", fn := fun _ => fun
  | [d1, d2, d3, d4, d5] => { results := [.lit (.bool true)], args := [d1, d2, d3, d4, d5] }
  | _ => none }
def fnExactCheckInRow : OpenClaim := { program := "ytmkhhnfmahdijaa", sum := "56715615af4e1f4144a721f64a384f212a07fd4ad24f203f06aff82b3cb35315", func := "loop.example/g00233/laws.FnExactCheckIn", spec := "fnExactCheckIn", unfollowed := true, recurses := true, apart := false }
def FnExactCheckInSaid : Prop := fnExactCheckInRow.holds Try.pinned (OpenSpec.ofChange fnExactCheckInSpec)

/-- ITS FALSE NEIGHBOUR: 'it returns false'. Refute it at one input. -/
def fnExactCheckInWrong : ChangeSpec := { name := "fnExactCheckIn", fn := fun _ => fun
  | [d1, d2, d3, d4, d5] => { results := [.lit (.bool false)], args := [d1, d2, d3, d4, d5] }
  | _ => none }
def FnExactCheckInWrongFalsely : Prop := fnExactCheckInRow.holds Try.pinned (OpenSpec.ofChange fnExactCheckInWrong)

/-- 'laws.FnExactCheckGrow': WHATEVER THE INPUT: true; the input reads as it did. -/
def fnExactCheckGrowSpec : ChangeSpec := { name := "fnExactCheckGrow", fn := fun _ => fun
  | [d1, d2, d3, d4, d5] => { results := [.lit (.bool true)], args := [d1, d2, d3, d4, d5] }
  | _ => none }
def fnExactCheckGrowRow : OpenClaim := { program := "ytmkhhnfmahdijaa", sum := "56715615af4e1f4144a721f64a384f212a07fd4ad24f203f06aff82b3cb35315", func := "loop.example/g00233/laws.FnExactCheckGrow", spec := "fnExactCheckGrow", unfollowed := true, recurses := true, apart := false }
def FnExactCheckGrowSaid : Prop := fnExactCheckGrowRow.holds Try.pinned (OpenSpec.ofChange fnExactCheckGrowSpec)

/-- ITS FALSE NEIGHBOUR: 'it returns false'. Refute it at one input. -/
def fnExactCheckGrowWrong : ChangeSpec := { name := "fnExactCheckGrow", fn := fun _ => fun
  | [d1, d2, d3, d4, d5] => { results := [.lit (.bool false)], args := [d1, d2, d3, d4, d5] }
  | _ => none }
def FnExactCheckGrowWrongFalsely : Prop := fnExactCheckGrowRow.holds Try.pinned (OpenSpec.ofChange fnExactCheckGrowWrong)

/-- 'laws.FnExactInPath': WHATEVER THE INPUT: true; the input reads as it did. -/
def fnExactInPathSpec : ChangeSpec := { name := "fnExactInPath", fn := fun _ => fun
  | [d1, d2] => { results := [.lit (.bool true)], args := [d1, d2] }
  | _ => none }
def fnExactInPathRow : OpenClaim := { program := "ytmkhhnfmahdijaa", sum := "56715615af4e1f4144a721f64a384f212a07fd4ad24f203f06aff82b3cb35315", func := "loop.example/g00233/laws.FnExactInPath", spec := "fnExactInPath", unfollowed := true, recurses := true, apart := false }
def FnExactInPathSaid : Prop := fnExactInPathRow.holds Try.pinned (OpenSpec.ofChange fnExactInPathSpec)

/-- ITS FALSE NEIGHBOUR: 'it returns false'. Refute it at one input. -/
def fnExactInPathWrong : ChangeSpec := { name := "fnExactInPath", fn := fun _ => fun
  | [d1, d2] => { results := [.lit (.bool false)], args := [d1, d2] }
  | _ => none }
def FnExactInPathWrongFalsely : Prop := fnExactInPathRow.holds Try.pinned (OpenSpec.ofChange fnExactInPathWrong)

/-- 'laws.FnExactGrowPath': WHATEVER THE INPUT: true; the input reads as it did. -/
def fnExactGrowPathSpec : ChangeSpec := { name := "fnExactGrowPath", fn := fun _ => fun
  | [d1, d2] => { results := [.lit (.bool true)], args := [d1, d2] }
  | _ => none }
def fnExactGrowPathRow : OpenClaim := { program := "ytmkhhnfmahdijaa", sum := "56715615af4e1f4144a721f64a384f212a07fd4ad24f203f06aff82b3cb35315", func := "loop.example/g00233/laws.FnExactGrowPath", spec := "fnExactGrowPath", unfollowed := true, recurses := true, apart := false }
def FnExactGrowPathSaid : Prop := fnExactGrowPathRow.holds Try.pinned (OpenSpec.ofChange fnExactGrowPathSpec)

/-- ITS FALSE NEIGHBOUR: 'it returns false'. Refute it at one input. -/
def fnExactGrowPathWrong : ChangeSpec := { name := "fnExactGrowPath", fn := fun _ => fun
  | [d1, d2] => { results := [.lit (.bool false)], args := [d1, d2] }
  | _ => none }
def FnExactGrowPathWrongFalsely : Prop := fnExactGrowPathRow.holds Try.pinned (OpenSpec.ofChange fnExactGrowPathWrong)

/- THE SECOND FORM. 'bulk': how many values and letters a reading holds, each counted each time it is reached (what is shared counts as often as it is met; a slice's spare places count too). A statement '..UptoSaid' is the law's where the arguments, and the package variables that the reading takes, are together of bulk at most 1048576: NARROWER than '..Said'. Prove '..Said' where nothing that the law and all that it calls make is longer than what came in: it says more and counts as full. Else prove '..UptoSaid'. A law counts once. -/
mutual
def uptoBulk {H : Type} : DataW H → Nat
  | .lit (.string bytes) => bytes.length + 1
  | .lit _ => 1
  | .nil => 1
  | .ptr d => uptoBulk d + 1
  | .slice elems spare => uptoBulkAll elems + uptoBulkAll spare + 1
  | .agg parts => uptoBulkAll parts + 1
  | .iface _ d => uptoBulk d + 1
  | .map entries => uptoBulkEntries entries + 1
  | .held _ => 1
def uptoBulkAll {H : Type} : List (DataW H) → Nat
  | [] => 0
  | d :: r => uptoBulk d + uptoBulkAll r
def uptoBulkEntries {H : Type} : List (Lit × DataW H) → Nat
  | [] => 0
  | x :: r => uptoBulkEntry x + uptoBulkEntries r
def uptoBulkEntry {H : Type} : Lit × DataW H → Nat
  | (.string bytes, d) => bytes.length + uptoBulk d + 1
  | (_, d) => uptoBulk d + 1
 end
def uptoSmall : (H : Type) → List (DataW H) → Bool := fun _ ds => decide (uptoBulkAll ds ≤ 1048576)
def OpenSpec.upto (s : _root_.Go.ChangeSpec) : _root_.Go.OpenSpec := { _root_.Go.OpenSpec.ofChange s with cond := some uptoSmall }

/-- 'laws.FnExactConstants', WHERE WHAT IT READS IS OF BULK AT MOST 1048576: true; the input reads as it did. -/
def fnExactConstantsUptoRow : OpenClaim := { program := "ytmkhhnfmahdijaa", sum := "56715615af4e1f4144a721f64a384f212a07fd4ad24f203f06aff82b3cb35315", func := "loop.example/g00233/laws.FnExactConstants", spec := "fnExactConstants", apart := false, narrowed := true }
def FnExactConstantsUptoSaid : Prop := fnExactConstantsUptoRow.holds Try.pinned (OpenSpec.upto fnExactConstantsSpec)

/-- 'laws.FnExactHexOf', WHERE WHAT IT READS IS OF BULK AT MOST 1048576: true; the input reads as it did. -/
def fnExactHexOfUptoRow : OpenClaim := { program := "ytmkhhnfmahdijaa", sum := "56715615af4e1f4144a721f64a384f212a07fd4ad24f203f06aff82b3cb35315", func := "loop.example/g00233/laws.FnExactHexOf", spec := "fnExactHexOf", inPlace := ["internal/abi.NoEscape"], apart := false, narrowed := true }
def FnExactHexOfUptoSaid : Prop := fnExactHexOfUptoRow.holds Try.pinned (OpenSpec.upto fnExactHexOfSpec)

/-- 'laws.FnExactUnHex', WHERE WHAT IT READS IS OF BULK AT MOST 1048576: true; the input reads as it did. -/
def fnExactUnHexUptoRow : OpenClaim := { program := "ytmkhhnfmahdijaa", sum := "56715615af4e1f4144a721f64a384f212a07fd4ad24f203f06aff82b3cb35315", func := "loop.example/g00233/laws.FnExactUnHex", spec := "fnExactUnHex", inPlace := ["internal/bytealg.IndexByteString"], apart := false, narrowed := true }
def FnExactUnHexUptoSaid : Prop := fnExactUnHexUptoRow.holds Try.pinned (OpenSpec.upto fnExactUnHexSpec)

/-- 'laws.FnExactGetNum', WHERE WHAT IT READS IS OF BULK AT MOST 1048576: true; the input reads as it did. -/
def fnExactGetNumUptoRow : OpenClaim := { program := "ytmkhhnfmahdijaa", sum := "56715615af4e1f4144a721f64a384f212a07fd4ad24f203f06aff82b3cb35315", func := "loop.example/g00233/laws.FnExactGetNum", spec := "fnExactGetNum", apart := false, narrowed := true }
def FnExactGetNumUptoSaid : Prop := fnExactGetNumUptoRow.holds Try.pinned (OpenSpec.upto fnExactGetNumSpec)

/-- 'laws.FnExactPadded', WHERE WHAT IT READS IS OF BULK AT MOST 1048576: true; the input reads as it did. -/
def fnExactPaddedUptoRow : OpenClaim := { program := "ytmkhhnfmahdijaa", sum := "56715615af4e1f4144a721f64a384f212a07fd4ad24f203f06aff82b3cb35315", func := "loop.example/g00233/laws.FnExactPadded", spec := "fnExactPadded", apart := false, narrowed := true }
def FnExactPaddedUptoSaid : Prop := fnExactPaddedUptoRow.holds Try.pinned (OpenSpec.upto fnExactPaddedSpec)

/-- 'laws.FnExactGetText', WHERE WHAT IT READS IS OF BULK AT MOST 1048576: true; the input reads as it did. -/
def fnExactGetTextUptoRow : OpenClaim := { program := "ytmkhhnfmahdijaa", sum := "56715615af4e1f4144a721f64a384f212a07fd4ad24f203f06aff82b3cb35315", func := "loop.example/g00233/laws.FnExactGetText", spec := "fnExactGetText", apart := false, narrowed := true }
def FnExactGetTextUptoSaid : Prop := fnExactGetTextUptoRow.holds Try.pinned (OpenSpec.upto fnExactGetTextSpec)

/-- 'laws.FnExactPutNum', WHERE WHAT IT READS IS OF BULK AT MOST 1048576: true; the input reads as it did. -/
def fnExactPutNumUptoRow : OpenClaim := { program := "ytmkhhnfmahdijaa", sum := "56715615af4e1f4144a721f64a384f212a07fd4ad24f203f06aff82b3cb35315", func := "loop.example/g00233/laws.FnExactPutNum", spec := "fnExactPutNum", apart := false, narrowed := true }
def FnExactPutNumUptoSaid : Prop := fnExactPutNumUptoRow.holds Try.pinned (OpenSpec.upto fnExactPutNumSpec)

/-- 'laws.FnExactPutText', WHERE WHAT IT READS IS OF BULK AT MOST 1048576: true; the input reads as it did. -/
def fnExactPutTextUptoRow : OpenClaim := { program := "ytmkhhnfmahdijaa", sum := "56715615af4e1f4144a721f64a384f212a07fd4ad24f203f06aff82b3cb35315", func := "loop.example/g00233/laws.FnExactPutText", spec := "fnExactPutText", apart := false, narrowed := true }
def FnExactPutTextUptoSaid : Prop := fnExactPutTextUptoRow.holds Try.pinned (OpenSpec.upto fnExactPutTextSpec)

/-- 'laws.FnNums', WHERE WHAT IT READS IS OF BULK AT MOST 1048576: true; the input reads as it did. -/
def fnNumsUptoRow : OpenClaim := { program := "ytmkhhnfmahdijaa", sum := "56715615af4e1f4144a721f64a384f212a07fd4ad24f203f06aff82b3cb35315", func := "loop.example/g00233/laws.FnNums", spec := "fnNums", apart := false, narrowed := true }
def FnNumsUptoSaid : Prop := fnNumsUptoRow.holds Try.pinned (OpenSpec.upto fnNumsSpec)

/-- 'laws.FnExactEdgeOk', WHERE WHAT IT READS IS OF BULK AT MOST 1048576: true; the input reads as it did. -/
def fnExactEdgeOkUptoRow : OpenClaim := { program := "ytmkhhnfmahdijaa", sum := "56715615af4e1f4144a721f64a384f212a07fd4ad24f203f06aff82b3cb35315", func := "loop.example/g00233/laws.FnExactEdgeOk", spec := "fnExactEdgeOk", apart := false, narrowed := true }
def FnExactEdgeOkUptoSaid : Prop := fnExactEdgeOkUptoRow.holds Try.pinned (OpenSpec.upto fnExactEdgeOkSpec)

/-- 'laws.FnExactPutTexts', WHERE WHAT IT READS IS OF BULK AT MOST 1048576: true; the input reads as it did. -/
def fnExactPutTextsUptoRow : OpenClaim := { program := "ytmkhhnfmahdijaa", sum := "56715615af4e1f4144a721f64a384f212a07fd4ad24f203f06aff82b3cb35315", func := "loop.example/g00233/laws.FnExactPutTexts", spec := "fnExactPutTexts", apart := false, narrowed := true }
def FnExactPutTextsUptoSaid : Prop := fnExactPutTextsUptoRow.holds Try.pinned (OpenSpec.upto fnExactPutTextsSpec)

/-- 'laws.FnTexts', WHERE WHAT IT READS IS OF BULK AT MOST 1048576: true; the input reads as it did. -/
def fnTextsUptoRow : OpenClaim := { program := "ytmkhhnfmahdijaa", sum := "56715615af4e1f4144a721f64a384f212a07fd4ad24f203f06aff82b3cb35315", func := "loop.example/g00233/laws.FnTexts", spec := "fnTexts", apart := false, narrowed := true }
def FnTextsUptoSaid : Prop := fnTextsUptoRow.holds Try.pinned (OpenSpec.upto fnTextsSpec)

/-- 'laws.FnExactGetTexts', WHERE WHAT IT READS IS OF BULK AT MOST 1048576: true; the input reads as it did. -/
def fnExactGetTextsUptoRow : OpenClaim := { program := "ytmkhhnfmahdijaa", sum := "56715615af4e1f4144a721f64a384f212a07fd4ad24f203f06aff82b3cb35315", func := "loop.example/g00233/laws.FnExactGetTexts", spec := "fnExactGetTexts", apart := false, narrowed := true }
def FnExactGetTextsUptoSaid : Prop := fnExactGetTextsUptoRow.holds Try.pinned (OpenSpec.upto fnExactGetTextsSpec)

/-- 'laws.FnRoots', WHERE WHAT IT READS IS OF BULK AT MOST 1048576: true; the input reads as it did. -/
def fnRootsUptoRow : OpenClaim := { program := "ytmkhhnfmahdijaa", sum := "56715615af4e1f4144a721f64a384f212a07fd4ad24f203f06aff82b3cb35315", func := "loop.example/g00233/laws.FnRoots", spec := "fnRoots", unfollowed := true, recurses := true, apart := false, narrowed := true }
def FnRootsUptoSaid : Prop := fnRootsUptoRow.holds Try.pinned (OpenSpec.upto fnRootsSpec)

/-- 'laws.FnExactLeafHash', WHERE WHAT IT READS IS OF BULK AT MOST 1048576: true; the input reads as it did. -/
def fnExactLeafHashUptoRow : OpenClaim := { program := "ytmkhhnfmahdijaa", sum := "56715615af4e1f4144a721f64a384f212a07fd4ad24f203f06aff82b3cb35315", func := "loop.example/g00233/laws.FnExactLeafHash", spec := "fnExactLeafHash", unfollowed := true, recurses := true, apart := false, narrowed := true }
def FnExactLeafHashUptoSaid : Prop := fnExactLeafHashUptoRow.holds Try.pinned (OpenSpec.upto fnExactLeafHashSpec)

/-- 'laws.FnExactNodeHash', WHERE WHAT IT READS IS OF BULK AT MOST 1048576: true; the input reads as it did. -/
def fnExactNodeHashUptoRow : OpenClaim := { program := "ytmkhhnfmahdijaa", sum := "56715615af4e1f4144a721f64a384f212a07fd4ad24f203f06aff82b3cb35315", func := "loop.example/g00233/laws.FnExactNodeHash", spec := "fnExactNodeHash", unfollowed := true, recurses := true, apart := false, narrowed := true }
def FnExactNodeHashUptoSaid : Prop := fnExactNodeHashUptoRow.holds Try.pinned (OpenSpec.upto fnExactNodeHashSpec)

/-- 'laws.FnExactDigest', WHERE WHAT IT READS IS OF BULK AT MOST 1048576: true; the input reads as it did. -/
def fnExactDigestUptoRow : OpenClaim := { program := "ytmkhhnfmahdijaa", sum := "56715615af4e1f4144a721f64a384f212a07fd4ad24f203f06aff82b3cb35315", func := "loop.example/g00233/laws.FnExactDigest", spec := "fnExactDigest", unfollowed := true, recurses := true, apart := false, narrowed := true }
def FnExactDigestUptoSaid : Prop := fnExactDigestUptoRow.holds Try.pinned (OpenSpec.upto fnExactDigestSpec)

/-- 'laws.FnPaths', WHERE WHAT IT READS IS OF BULK AT MOST 1048576: true; the input reads as it did. -/
def fnPathsUptoRow : OpenClaim := { program := "ytmkhhnfmahdijaa", sum := "56715615af4e1f4144a721f64a384f212a07fd4ad24f203f06aff82b3cb35315", func := "loop.example/g00233/laws.FnPaths", spec := "fnPaths", unfollowed := true, recurses := true, apart := false, narrowed := true }
def FnPathsUptoSaid : Prop := fnPathsUptoRow.holds Try.pinned (OpenSpec.upto fnPathsSpec)

/-- 'laws.FnGrown', WHERE WHAT IT READS IS OF BULK AT MOST 1048576: true; the input reads as it did. -/
def fnGrownUptoRow : OpenClaim := { program := "ytmkhhnfmahdijaa", sum := "56715615af4e1f4144a721f64a384f212a07fd4ad24f203f06aff82b3cb35315", func := "loop.example/g00233/laws.FnGrown", spec := "fnGrown", unfollowed := true, recurses := true, apart := false, narrowed := true }
def FnGrownUptoSaid : Prop := fnGrownUptoRow.holds Try.pinned (OpenSpec.upto fnGrownSpec)

/-- 'laws.FnExactRootOf', WHERE WHAT IT READS IS OF BULK AT MOST 1048576: true; the input reads as it did. -/
def fnExactRootOfUptoRow : OpenClaim := { program := "ytmkhhnfmahdijaa", sum := "56715615af4e1f4144a721f64a384f212a07fd4ad24f203f06aff82b3cb35315", func := "loop.example/g00233/laws.FnExactRootOf", spec := "fnExactRootOf", unfollowed := true, recurses := true, apart := false, narrowed := true }
def FnExactRootOfUptoSaid : Prop := fnExactRootOfUptoRow.holds Try.pinned (OpenSpec.upto fnExactRootOfSpec)

/-- 'laws.FnDigests', WHERE WHAT IT READS IS OF BULK AT MOST 1048576: true; the input reads as it did. -/
def fnDigestsUptoRow : OpenClaim := { program := "ytmkhhnfmahdijaa", sum := "56715615af4e1f4144a721f64a384f212a07fd4ad24f203f06aff82b3cb35315", func := "loop.example/g00233/laws.FnDigests", spec := "fnDigests", inPlace := ["internal/abi.NoEscape", "internal/bytealg.IndexByteString"], unfollowed := true, recurses := true, apart := false, narrowed := true }
def FnDigestsUptoSaid : Prop := fnDigestsUptoRow.holds Try.pinned (OpenSpec.upto fnDigestsSpec)

/-- 'laws.FnExactCheckIn', WHERE WHAT IT READS IS OF BULK AT MOST 1048576: true; the input reads as it did. -/
def fnExactCheckInUptoRow : OpenClaim := { program := "ytmkhhnfmahdijaa", sum := "56715615af4e1f4144a721f64a384f212a07fd4ad24f203f06aff82b3cb35315", func := "loop.example/g00233/laws.FnExactCheckIn", spec := "fnExactCheckIn", unfollowed := true, recurses := true, apart := false, narrowed := true }
def FnExactCheckInUptoSaid : Prop := fnExactCheckInUptoRow.holds Try.pinned (OpenSpec.upto fnExactCheckInSpec)

/-- 'laws.FnExactCheckGrow', WHERE WHAT IT READS IS OF BULK AT MOST 1048576: true; the input reads as it did. -/
def fnExactCheckGrowUptoRow : OpenClaim := { program := "ytmkhhnfmahdijaa", sum := "56715615af4e1f4144a721f64a384f212a07fd4ad24f203f06aff82b3cb35315", func := "loop.example/g00233/laws.FnExactCheckGrow", spec := "fnExactCheckGrow", unfollowed := true, recurses := true, apart := false, narrowed := true }
def FnExactCheckGrowUptoSaid : Prop := fnExactCheckGrowUptoRow.holds Try.pinned (OpenSpec.upto fnExactCheckGrowSpec)

/-- 'laws.FnExactInPath', WHERE WHAT IT READS IS OF BULK AT MOST 1048576: true; the input reads as it did. -/
def fnExactInPathUptoRow : OpenClaim := { program := "ytmkhhnfmahdijaa", sum := "56715615af4e1f4144a721f64a384f212a07fd4ad24f203f06aff82b3cb35315", func := "loop.example/g00233/laws.FnExactInPath", spec := "fnExactInPath", unfollowed := true, recurses := true, apart := false, narrowed := true }
def FnExactInPathUptoSaid : Prop := fnExactInPathUptoRow.holds Try.pinned (OpenSpec.upto fnExactInPathSpec)

/-- 'laws.FnExactGrowPath', WHERE WHAT IT READS IS OF BULK AT MOST 1048576: true; the input reads as it did. -/
def fnExactGrowPathUptoRow : OpenClaim := { program := "ytmkhhnfmahdijaa", sum := "56715615af4e1f4144a721f64a384f212a07fd4ad24f203f06aff82b3cb35315", func := "loop.example/g00233/laws.FnExactGrowPath", spec := "fnExactGrowPath", unfollowed := true, recurses := true, apart := false, narrowed := true }
def FnExactGrowPathUptoSaid : Prop := fnExactGrowPathUptoRow.holds Try.pinned (OpenSpec.upto fnExactGrowPathSpec)

end Rows
end Go.Proofs.Ytmkhhnfmahdijaa
