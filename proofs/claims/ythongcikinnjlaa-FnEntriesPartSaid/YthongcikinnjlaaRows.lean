/-
  No cell of these rows narrows 'for every input' (looked for: loops, veiled, ifaces, maps, wideKeys, modest, calm, conditions, laid).
  DERIVED. THE GIVEN ROWS OF THIS SEAT. 23 by the template 'for every input the law returns true; each argument reads behind the call as it read before'; 0 by the template 'total and deterministic' (their statements: YthongcikinnjlaaTotals.lean).
  GIVEN WITH THE SEED: the statements are not yours to turn. If you find one false, say at which input.
  Laid BY PROGRAM, IN A SANDBOX (cutbox-rows.mjs): the forced cells as the released guide's own fill.sh prints them over the translation 6c308acd3d6d2bd7… (all of the seat's roots in one cut). By AI agents, Wed Nov 11 2026. No macro, syntax, notation, axiom, sorry.
-/
import Derived.Test.YthongcikinnjlaaChecked
import GoSem.Claim
import GoSem.ClaimJoined
import GoSem.ClaimMapViews
import Derived.JoinedTies
import Derived.KernelRfl
namespace Go.Proofs.Ythongcikinnjlaa
/- THE CELL 'sum', in the pinned program and in every row, IS THE sha256 OF THE DUMP (.gsa) THAT YthongcikinnjlaaProg.lean LOADS. Nothing in Lean hashes anything: it is a label: what it is worth is what the hold of that sum in a sandbox is worth. -/
noncomputable def Try.pinned : Pinned := { name := "ythongcikinnjlaa", sum := "6c308acd3d6d2bd768a144acec8bc73475775a4bbc86cce5254cf1401ea26e03", checked := Try.checked }
namespace Rows
def none {H : Type} : Left H := { results := [], args := [] }

/-- 'laws.FnEntriesPart': WHATEVER THE INPUT: true; the input reads as it did. -/
def fnEntriesPartSpec : ChangeSpec := { name := "fnEntriesPart", fn := fun _ => fun
  | [d1, d2] => { results := [.lit (.bool true)], args := [d1, d2] }
  | _ => none }
def fnEntriesPartRow : OpenClaim := { program := "ythongcikinnjlaa", sum := "6c308acd3d6d2bd768a144acec8bc73475775a4bbc86cce5254cf1401ea26e03", func := "loop.example/compressionlab/laws.FnEntriesPart", spec := "fnEntriesPart", apart := false }
def FnEntriesPartSaid : Prop := fnEntriesPartRow.holds Try.pinned (OpenSpec.ofChange fnEntriesPartSpec)

/-- ITS FALSE NEIGHBOUR: 'it returns false'. Refute it at one input. -/
def fnEntriesPartWrong : ChangeSpec := { name := "fnEntriesPart", fn := fun _ => fun
  | [d1, d2] => { results := [.lit (.bool false)], args := [d1, d2] }
  | _ => none }
def FnEntriesPartWrongFalsely : Prop := fnEntriesPartRow.holds Try.pinned (OpenSpec.ofChange fnEntriesPartWrong)

/-- 'laws.FnExactEntriesValid': WHATEVER THE INPUT: true; the input reads as it did. -/
def fnExactEntriesValidSpec : ChangeSpec := { name := "fnExactEntriesValid", fn := fun _ => fun
  | [d] => { results := [.lit (.bool true)], args := [d] }
  | _ => none }
def fnExactEntriesValidRow : OpenClaim := { program := "ythongcikinnjlaa", sum := "6c308acd3d6d2bd768a144acec8bc73475775a4bbc86cce5254cf1401ea26e03", func := "loop.example/compressionlab/laws.FnExactEntriesValid", spec := "fnExactEntriesValid", apart := false }
def FnExactEntriesValidSaid : Prop := fnExactEntriesValidRow.holds Try.pinned (OpenSpec.ofChange fnExactEntriesValidSpec)

/-- ITS FALSE NEIGHBOUR: 'it returns false'. Refute it at one input. -/
def fnExactEntriesValidWrong : ChangeSpec := { name := "fnExactEntriesValid", fn := fun _ => fun
  | [d] => { results := [.lit (.bool false)], args := [d] }
  | _ => none }
def FnExactEntriesValidWrongFalsely : Prop := fnExactEntriesValidRow.holds Try.pinned (OpenSpec.ofChange fnExactEntriesValidWrong)

/-- 'laws.FnExactDeltaCopied': WHATEVER THE INPUT: true; the input reads as it did. -/
def fnExactDeltaCopiedSpec : ChangeSpec := { name := "fnExactDeltaCopied", fn := fun _ => fun
  | [d1, d2] => { results := [.lit (.bool true)], args := [d1, d2] }
  | _ => none }
def fnExactDeltaCopiedRow : OpenClaim := { program := "ythongcikinnjlaa", sum := "6c308acd3d6d2bd768a144acec8bc73475775a4bbc86cce5254cf1401ea26e03", func := "loop.example/compressionlab/laws.FnExactDeltaCopied", spec := "fnExactDeltaCopied", apart := false }
def FnExactDeltaCopiedSaid : Prop := fnExactDeltaCopiedRow.holds Try.pinned (OpenSpec.ofChange fnExactDeltaCopiedSpec)

/-- ITS FALSE NEIGHBOUR: 'it returns false'. Refute it at one input. -/
def fnExactDeltaCopiedWrong : ChangeSpec := { name := "fnExactDeltaCopied", fn := fun _ => fun
  | [d1, d2] => { results := [.lit (.bool false)], args := [d1, d2] }
  | _ => none }
def FnExactDeltaCopiedWrongFalsely : Prop := fnExactDeltaCopiedRow.holds Try.pinned (OpenSpec.ofChange fnExactDeltaCopiedWrong)

/-- 'laws.FnExactDeltaOf': WHATEVER THE INPUT: true; the input reads as it did. -/
def fnExactDeltaOfSpec : ChangeSpec := { name := "fnExactDeltaOf", fn := fun _ => fun
  | [d1, d2] => { results := [.lit (.bool true)], args := [d1, d2] }
  | _ => none }
def fnExactDeltaOfRow : OpenClaim := { program := "ythongcikinnjlaa", sum := "6c308acd3d6d2bd768a144acec8bc73475775a4bbc86cce5254cf1401ea26e03", func := "loop.example/compressionlab/laws.FnExactDeltaOf", spec := "fnExactDeltaOf", apart := false }
def FnExactDeltaOfSaid : Prop := fnExactDeltaOfRow.holds Try.pinned (OpenSpec.ofChange fnExactDeltaOfSpec)

/-- ITS FALSE NEIGHBOUR: 'it returns false'. Refute it at one input. -/
def fnExactDeltaOfWrong : ChangeSpec := { name := "fnExactDeltaOf", fn := fun _ => fun
  | [d1, d2] => { results := [.lit (.bool false)], args := [d1, d2] }
  | _ => none }
def FnExactDeltaOfWrongFalsely : Prop := fnExactDeltaOfRow.holds Try.pinned (OpenSpec.ofChange fnExactDeltaOfWrong)

/-- 'laws.FnDeltaLongest': WHATEVER THE INPUT: true; the input reads as it did. -/
def fnDeltaLongestSpec : ChangeSpec := { name := "fnDeltaLongest", fn := fun _ => fun
  | [d] => { results := [.lit (.bool true)], args := [d] }
  | _ => none }
def fnDeltaLongestRow : OpenClaim := { program := "ythongcikinnjlaa", sum := "6c308acd3d6d2bd768a144acec8bc73475775a4bbc86cce5254cf1401ea26e03", func := "loop.example/compressionlab/laws.FnDeltaLongest", spec := "fnDeltaLongest", apart := false }
def FnDeltaLongestSaid : Prop := fnDeltaLongestRow.holds Try.pinned (OpenSpec.ofChange fnDeltaLongestSpec)

/-- ITS FALSE NEIGHBOUR: 'it returns false'. Refute it at one input. -/
def fnDeltaLongestWrong : ChangeSpec := { name := "fnDeltaLongest", fn := fun _ => fun
  | [d] => { results := [.lit (.bool false)], args := [d] }
  | _ => none }
def FnDeltaLongestWrongFalsely : Prop := fnDeltaLongestRow.holds Try.pinned (OpenSpec.ofChange fnDeltaLongestWrong)

/-- 'laws.FnDeltaNone': WHATEVER THE INPUT: true; the input reads as it did. -/
def fnDeltaNoneSpec : ChangeSpec := { name := "fnDeltaNone", fn := fun _ => fun
  | [d] => { results := [.lit (.bool true)], args := [d] }
  | _ => none }
def fnDeltaNoneRow : OpenClaim := { program := "ythongcikinnjlaa", sum := "6c308acd3d6d2bd768a144acec8bc73475775a4bbc86cce5254cf1401ea26e03", func := "loop.example/compressionlab/laws.FnDeltaNone", spec := "fnDeltaNone", apart := false }
def FnDeltaNoneSaid : Prop := fnDeltaNoneRow.holds Try.pinned (OpenSpec.ofChange fnDeltaNoneSpec)

/-- ITS FALSE NEIGHBOUR: 'it returns false'. Refute it at one input. -/
def fnDeltaNoneWrong : ChangeSpec := { name := "fnDeltaNone", fn := fun _ => fun
  | [d] => { results := [.lit (.bool false)], args := [d] }
  | _ => none }
def FnDeltaNoneWrongFalsely : Prop := fnDeltaNoneRow.holds Try.pinned (OpenSpec.ofChange fnDeltaNoneWrong)

/-- 'laws.FnDeltaSame': WHATEVER THE INPUT: true; the input reads as it did. -/
def fnDeltaSameSpec : ChangeSpec := { name := "fnDeltaSame", fn := fun _ => fun
  | [d] => { results := [.lit (.bool true)], args := [d] }
  | _ => none }
def fnDeltaSameRow : OpenClaim := { program := "ythongcikinnjlaa", sum := "6c308acd3d6d2bd768a144acec8bc73475775a4bbc86cce5254cf1401ea26e03", func := "loop.example/compressionlab/laws.FnDeltaSame", spec := "fnDeltaSame", apart := false }
def FnDeltaSameSaid : Prop := fnDeltaSameRow.holds Try.pinned (OpenSpec.ofChange fnDeltaSameSpec)

/-- ITS FALSE NEIGHBOUR: 'it returns false'. Refute it at one input. -/
def fnDeltaSameWrong : ChangeSpec := { name := "fnDeltaSame", fn := fun _ => fun
  | [d] => { results := [.lit (.bool false)], args := [d] }
  | _ => none }
def FnDeltaSameWrongFalsely : Prop := fnDeltaSameRow.holds Try.pinned (OpenSpec.ofChange fnDeltaSameWrong)

/-- 'laws.FnExactDeltaApply': WHATEVER THE INPUT: true; the input reads as it did. -/
def fnExactDeltaApplySpec : ChangeSpec := { name := "fnExactDeltaApply", fn := fun _ => fun
  | [d1, d2] => { results := [.lit (.bool true)], args := [d1, d2] }
  | _ => none }
def fnExactDeltaApplyRow : OpenClaim := { program := "ythongcikinnjlaa", sum := "6c308acd3d6d2bd768a144acec8bc73475775a4bbc86cce5254cf1401ea26e03", func := "loop.example/compressionlab/laws.FnExactDeltaApply", spec := "fnExactDeltaApply", apart := false }
def FnExactDeltaApplySaid : Prop := fnExactDeltaApplyRow.holds Try.pinned (OpenSpec.ofChange fnExactDeltaApplySpec)

/-- ITS FALSE NEIGHBOUR: 'it returns false'. Refute it at one input. -/
def fnExactDeltaApplyWrong : ChangeSpec := { name := "fnExactDeltaApply", fn := fun _ => fun
  | [d1, d2] => { results := [.lit (.bool false)], args := [d1, d2] }
  | _ => none }
def FnExactDeltaApplyWrongFalsely : Prop := fnExactDeltaApplyRow.holds Try.pinned (OpenSpec.ofChange fnExactDeltaApplyWrong)

/-- 'laws.FnExactPrefaceGain': WHATEVER THE INPUT: true; the input reads as it did. -/
def fnExactPrefaceGainSpec : ChangeSpec := { name := "fnExactPrefaceGain", fn := fun _ => fun
  | [d1, d2] => { results := [.lit (.bool true)], args := [d1, d2] }
  | _ => none }
def fnExactPrefaceGainRow : OpenClaim := { program := "ythongcikinnjlaa", sum := "6c308acd3d6d2bd768a144acec8bc73475775a4bbc86cce5254cf1401ea26e03", func := "loop.example/compressionlab/laws.FnExactPrefaceGain", spec := "fnExactPrefaceGain", apart := false }
def FnExactPrefaceGainSaid : Prop := fnExactPrefaceGainRow.holds Try.pinned (OpenSpec.ofChange fnExactPrefaceGainSpec)

/-- ITS FALSE NEIGHBOUR: 'it returns false'. Refute it at one input. -/
def fnExactPrefaceGainWrong : ChangeSpec := { name := "fnExactPrefaceGain", fn := fun _ => fun
  | [d1, d2] => { results := [.lit (.bool false)], args := [d1, d2] }
  | _ => none }
def FnExactPrefaceGainWrongFalsely : Prop := fnExactPrefaceGainRow.holds Try.pinned (OpenSpec.ofChange fnExactPrefaceGainWrong)

/-- 'laws.FnExactPrefaceTokens': WHATEVER THE INPUT: true; the input reads as it did. -/
def fnExactPrefaceTokensSpec : ChangeSpec := { name := "fnExactPrefaceTokens", fn := fun _ => fun
  | [d1, d2] => { results := [.lit (.bool true)], args := [d1, d2] }
  | _ => none }
def fnExactPrefaceTokensRow : OpenClaim := { program := "ythongcikinnjlaa", sum := "6c308acd3d6d2bd768a144acec8bc73475775a4bbc86cce5254cf1401ea26e03", func := "loop.example/compressionlab/laws.FnExactPrefaceTokens", spec := "fnExactPrefaceTokens", apart := false }
def FnExactPrefaceTokensSaid : Prop := fnExactPrefaceTokensRow.holds Try.pinned (OpenSpec.ofChange fnExactPrefaceTokensSpec)

/-- ITS FALSE NEIGHBOUR: 'it returns false'. Refute it at one input. -/
def fnExactPrefaceTokensWrong : ChangeSpec := { name := "fnExactPrefaceTokens", fn := fun _ => fun
  | [d1, d2] => { results := [.lit (.bool false)], args := [d1, d2] }
  | _ => none }
def FnExactPrefaceTokensWrongFalsely : Prop := fnExactPrefaceTokensRow.holds Try.pinned (OpenSpec.ofChange fnExactPrefaceTokensWrong)

/-- 'laws.FnCopiedAll': WHATEVER THE INPUT: true; the input reads as it did. -/
def fnCopiedAllSpec : ChangeSpec := { name := "fnCopiedAll", fn := fun _ => fun
  | [d] => { results := [.lit (.bool true)], args := [d] }
  | _ => none }
def fnCopiedAllRow : OpenClaim := { program := "ythongcikinnjlaa", sum := "6c308acd3d6d2bd768a144acec8bc73475775a4bbc86cce5254cf1401ea26e03", func := "loop.example/compressionlab/laws.FnCopiedAll", spec := "fnCopiedAll", apart := false }
def FnCopiedAllSaid : Prop := fnCopiedAllRow.holds Try.pinned (OpenSpec.ofChange fnCopiedAllSpec)

/-- ITS FALSE NEIGHBOUR: 'it returns false'. Refute it at one input. -/
def fnCopiedAllWrong : ChangeSpec := { name := "fnCopiedAll", fn := fun _ => fun
  | [d] => { results := [.lit (.bool false)], args := [d] }
  | _ => none }
def FnCopiedAllWrongFalsely : Prop := fnCopiedAllRow.holds Try.pinned (OpenSpec.ofChange fnCopiedAllWrong)

/-- 'laws.FnExactPrefaceExpand': WHATEVER THE INPUT: true; the input reads as it did. -/
def fnExactPrefaceExpandSpec : ChangeSpec := { name := "fnExactPrefaceExpand", fn := fun _ => fun
  | [d1, d2] => { results := [.lit (.bool true)], args := [d1, d2] }
  | _ => none }
def fnExactPrefaceExpandRow : OpenClaim := { program := "ythongcikinnjlaa", sum := "6c308acd3d6d2bd768a144acec8bc73475775a4bbc86cce5254cf1401ea26e03", func := "loop.example/compressionlab/laws.FnExactPrefaceExpand", spec := "fnExactPrefaceExpand", apart := false }
def FnExactPrefaceExpandSaid : Prop := fnExactPrefaceExpandRow.holds Try.pinned (OpenSpec.ofChange fnExactPrefaceExpandSpec)

/-- ITS FALSE NEIGHBOUR: 'it returns false'. Refute it at one input. -/
def fnExactPrefaceExpandWrong : ChangeSpec := { name := "fnExactPrefaceExpand", fn := fun _ => fun
  | [d1, d2] => { results := [.lit (.bool false)], args := [d1, d2] }
  | _ => none }
def FnExactPrefaceExpandWrongFalsely : Prop := fnExactPrefaceExpandRow.holds Try.pinned (OpenSpec.ofChange fnExactPrefaceExpandWrong)

/-- 'laws.FnDelta': WHATEVER THE INPUT: true; the input reads as it did. -/
def fnDeltaSpec : ChangeSpec := { name := "fnDelta", fn := fun _ => fun
  | [d] => { results := [.lit (.bool true)], args := [d] }
  | _ => none }
def fnDeltaRow : OpenClaim := { program := "ythongcikinnjlaa", sum := "6c308acd3d6d2bd768a144acec8bc73475775a4bbc86cce5254cf1401ea26e03", func := "loop.example/compressionlab/laws.FnDelta", spec := "fnDelta", apart := false }
def FnDeltaSaid : Prop := fnDeltaRow.holds Try.pinned (OpenSpec.ofChange fnDeltaSpec)

/-- ITS FALSE NEIGHBOUR: 'it returns false'. Refute it at one input. -/
def fnDeltaWrong : ChangeSpec := { name := "fnDelta", fn := fun _ => fun
  | [d] => { results := [.lit (.bool false)], args := [d] }
  | _ => none }
def FnDeltaWrongFalsely : Prop := fnDeltaRow.holds Try.pinned (OpenSpec.ofChange fnDeltaWrong)

/-- 'laws.FnPrefaceSame': WHATEVER THE INPUT: true; the input reads as it did. -/
def fnPrefaceSameSpec : ChangeSpec := { name := "fnPrefaceSame", fn := fun _ => fun
  | [d] => { results := [.lit (.bool true)], args := [d] }
  | _ => none }
def fnPrefaceSameRow : OpenClaim := { program := "ythongcikinnjlaa", sum := "6c308acd3d6d2bd768a144acec8bc73475775a4bbc86cce5254cf1401ea26e03", func := "loop.example/compressionlab/laws.FnPrefaceSame", spec := "fnPrefaceSame", apart := false }
def FnPrefaceSameSaid : Prop := fnPrefaceSameRow.holds Try.pinned (OpenSpec.ofChange fnPrefaceSameSpec)

/-- ITS FALSE NEIGHBOUR: 'it returns false'. Refute it at one input. -/
def fnPrefaceSameWrong : ChangeSpec := { name := "fnPrefaceSame", fn := fun _ => fun
  | [d] => { results := [.lit (.bool false)], args := [d] }
  | _ => none }
def FnPrefaceSameWrongFalsely : Prop := fnPrefaceSameRow.holds Try.pinned (OpenSpec.ofChange fnPrefaceSameWrong)

/-- 'laws.FnDeltaApply': WHATEVER THE INPUT: true; the input reads as it did. -/
def fnDeltaApplySpec : ChangeSpec := { name := "fnDeltaApply", fn := fun _ => fun
  | [d] => { results := [.lit (.bool true)], args := [d] }
  | _ => none }
def fnDeltaApplyRow : OpenClaim := { program := "ythongcikinnjlaa", sum := "6c308acd3d6d2bd768a144acec8bc73475775a4bbc86cce5254cf1401ea26e03", func := "loop.example/compressionlab/laws.FnDeltaApply", spec := "fnDeltaApply", apart := false }
def FnDeltaApplySaid : Prop := fnDeltaApplyRow.holds Try.pinned (OpenSpec.ofChange fnDeltaApplySpec)

/-- ITS FALSE NEIGHBOUR: 'it returns false'. Refute it at one input. -/
def fnDeltaApplyWrong : ChangeSpec := { name := "fnDeltaApply", fn := fun _ => fun
  | [d] => { results := [.lit (.bool false)], args := [d] }
  | _ => none }
def FnDeltaApplyWrongFalsely : Prop := fnDeltaApplyRow.holds Try.pinned (OpenSpec.ofChange fnDeltaApplyWrong)

/-- 'laws.FnDeltaBegin': WHATEVER THE INPUT: true; the input reads as it did. -/
def fnDeltaBeginSpec : ChangeSpec := { name := "fnDeltaBegin", fn := fun _ => fun
  | [d1, d2] => { results := [.lit (.bool true)], args := [d1, d2] }
  | _ => none }
def fnDeltaBeginRow : OpenClaim := { program := "ythongcikinnjlaa", sum := "6c308acd3d6d2bd768a144acec8bc73475775a4bbc86cce5254cf1401ea26e03", func := "loop.example/compressionlab/laws.FnDeltaBegin", spec := "fnDeltaBegin", apart := false }
def FnDeltaBeginSaid : Prop := fnDeltaBeginRow.holds Try.pinned (OpenSpec.ofChange fnDeltaBeginSpec)

/-- ITS FALSE NEIGHBOUR: 'it returns false'. Refute it at one input. -/
def fnDeltaBeginWrong : ChangeSpec := { name := "fnDeltaBegin", fn := fun _ => fun
  | [d1, d2] => { results := [.lit (.bool false)], args := [d1, d2] }
  | _ => none }
def FnDeltaBeginWrongFalsely : Prop := fnDeltaBeginRow.holds Try.pinned (OpenSpec.ofChange fnDeltaBeginWrong)

/-- 'laws.FnDeltaMore': WHATEVER THE INPUT: true; the input reads as it did. -/
def fnDeltaMoreSpec : ChangeSpec := { name := "fnDeltaMore", fn := fun _ => fun
  | [d1, d2] => { results := [.lit (.bool true)], args := [d1, d2] }
  | _ => none }
def fnDeltaMoreRow : OpenClaim := { program := "ythongcikinnjlaa", sum := "6c308acd3d6d2bd768a144acec8bc73475775a4bbc86cce5254cf1401ea26e03", func := "loop.example/compressionlab/laws.FnDeltaMore", spec := "fnDeltaMore", apart := false }
def FnDeltaMoreSaid : Prop := fnDeltaMoreRow.holds Try.pinned (OpenSpec.ofChange fnDeltaMoreSpec)

/-- ITS FALSE NEIGHBOUR: 'it returns false'. Refute it at one input. -/
def fnDeltaMoreWrong : ChangeSpec := { name := "fnDeltaMore", fn := fun _ => fun
  | [d1, d2] => { results := [.lit (.bool false)], args := [d1, d2] }
  | _ => none }
def FnDeltaMoreWrongFalsely : Prop := fnDeltaMoreRow.holds Try.pinned (OpenSpec.ofChange fnDeltaMoreWrong)

/-- 'laws.FnCopied': WHATEVER THE INPUT: true; the input reads as it did. -/
def fnCopiedSpec : ChangeSpec := { name := "fnCopied", fn := fun _ => fun
  | [d] => { results := [.lit (.bool true)], args := [d] }
  | _ => none }
def fnCopiedRow : OpenClaim := { program := "ythongcikinnjlaa", sum := "6c308acd3d6d2bd768a144acec8bc73475775a4bbc86cce5254cf1401ea26e03", func := "loop.example/compressionlab/laws.FnCopied", spec := "fnCopied", apart := false }
def FnCopiedSaid : Prop := fnCopiedRow.holds Try.pinned (OpenSpec.ofChange fnCopiedSpec)

/-- ITS FALSE NEIGHBOUR: 'it returns false'. Refute it at one input. -/
def fnCopiedWrong : ChangeSpec := { name := "fnCopied", fn := fun _ => fun
  | [d] => { results := [.lit (.bool false)], args := [d] }
  | _ => none }
def FnCopiedWrongFalsely : Prop := fnCopiedRow.holds Try.pinned (OpenSpec.ofChange fnCopiedWrong)

/-- 'laws.FnPrefaceNone': WHATEVER THE INPUT: true; the input reads as it did. -/
def fnPrefaceNoneSpec : ChangeSpec := { name := "fnPrefaceNone", fn := fun _ => fun
  | [d] => { results := [.lit (.bool true)], args := [d] }
  | _ => none }
def fnPrefaceNoneRow : OpenClaim := { program := "ythongcikinnjlaa", sum := "6c308acd3d6d2bd768a144acec8bc73475775a4bbc86cce5254cf1401ea26e03", func := "loop.example/compressionlab/laws.FnPrefaceNone", spec := "fnPrefaceNone", apart := false }
def FnPrefaceNoneSaid : Prop := fnPrefaceNoneRow.holds Try.pinned (OpenSpec.ofChange fnPrefaceNoneSpec)

/-- ITS FALSE NEIGHBOUR: 'it returns false'. Refute it at one input. -/
def fnPrefaceNoneWrong : ChangeSpec := { name := "fnPrefaceNone", fn := fun _ => fun
  | [d] => { results := [.lit (.bool false)], args := [d] }
  | _ => none }
def FnPrefaceNoneWrongFalsely : Prop := fnPrefaceNoneRow.holds Try.pinned (OpenSpec.ofChange fnPrefaceNoneWrong)

/-- 'laws.FnPreface': WHATEVER THE INPUT: true; the input reads as it did. -/
def fnPrefaceSpec : ChangeSpec := { name := "fnPreface", fn := fun _ => fun
  | [d] => { results := [.lit (.bool true)], args := [d] }
  | _ => none }
def fnPrefaceRow : OpenClaim := { program := "ythongcikinnjlaa", sum := "6c308acd3d6d2bd768a144acec8bc73475775a4bbc86cce5254cf1401ea26e03", func := "loop.example/compressionlab/laws.FnPreface", spec := "fnPreface", apart := false }
def FnPrefaceSaid : Prop := fnPrefaceRow.holds Try.pinned (OpenSpec.ofChange fnPrefaceSpec)

/-- ITS FALSE NEIGHBOUR: 'it returns false'. Refute it at one input. -/
def fnPrefaceWrong : ChangeSpec := { name := "fnPreface", fn := fun _ => fun
  | [d] => { results := [.lit (.bool false)], args := [d] }
  | _ => none }
def FnPrefaceWrongFalsely : Prop := fnPrefaceRow.holds Try.pinned (OpenSpec.ofChange fnPrefaceWrong)

/-- 'laws.FnPrefaceGain': WHATEVER THE INPUT: true; the input reads as it did. -/
def fnPrefaceGainSpec : ChangeSpec := { name := "fnPrefaceGain", fn := fun _ => fun
  | [d] => { results := [.lit (.bool true)], args := [d] }
  | _ => none }
def fnPrefaceGainRow : OpenClaim := { program := "ythongcikinnjlaa", sum := "6c308acd3d6d2bd768a144acec8bc73475775a4bbc86cce5254cf1401ea26e03", func := "loop.example/compressionlab/laws.FnPrefaceGain", spec := "fnPrefaceGain", apart := false }
def FnPrefaceGainSaid : Prop := fnPrefaceGainRow.holds Try.pinned (OpenSpec.ofChange fnPrefaceGainSpec)

/-- ITS FALSE NEIGHBOUR: 'it returns false'. Refute it at one input. -/
def fnPrefaceGainWrong : ChangeSpec := { name := "fnPrefaceGain", fn := fun _ => fun
  | [d] => { results := [.lit (.bool false)], args := [d] }
  | _ => none }
def FnPrefaceGainWrongFalsely : Prop := fnPrefaceGainRow.holds Try.pinned (OpenSpec.ofChange fnPrefaceGainWrong)

/-- 'laws.FnPrefaceExpand': WHATEVER THE INPUT: true; the input reads as it did. -/
def fnPrefaceExpandSpec : ChangeSpec := { name := "fnPrefaceExpand", fn := fun _ => fun
  | [d] => { results := [.lit (.bool true)], args := [d] }
  | _ => none }
def fnPrefaceExpandRow : OpenClaim := { program := "ythongcikinnjlaa", sum := "6c308acd3d6d2bd768a144acec8bc73475775a4bbc86cce5254cf1401ea26e03", func := "loop.example/compressionlab/laws.FnPrefaceExpand", spec := "fnPrefaceExpand", apart := false }
def FnPrefaceExpandSaid : Prop := fnPrefaceExpandRow.holds Try.pinned (OpenSpec.ofChange fnPrefaceExpandSpec)

/-- ITS FALSE NEIGHBOUR: 'it returns false'. Refute it at one input. -/
def fnPrefaceExpandWrong : ChangeSpec := { name := "fnPrefaceExpand", fn := fun _ => fun
  | [d] => { results := [.lit (.bool false)], args := [d] }
  | _ => none }
def FnPrefaceExpandWrongFalsely : Prop := fnPrefaceExpandRow.holds Try.pinned (OpenSpec.ofChange fnPrefaceExpandWrong)

/-- 'laws.FnPrefaceExpandNone': WHATEVER THE INPUT: true; the input reads as it did. -/
def fnPrefaceExpandNoneSpec : ChangeSpec := { name := "fnPrefaceExpandNone", fn := fun _ => fun
  | [d] => { results := [.lit (.bool true)], args := [d] }
  | _ => none }
def fnPrefaceExpandNoneRow : OpenClaim := { program := "ythongcikinnjlaa", sum := "6c308acd3d6d2bd768a144acec8bc73475775a4bbc86cce5254cf1401ea26e03", func := "loop.example/compressionlab/laws.FnPrefaceExpandNone", spec := "fnPrefaceExpandNone", apart := false }
def FnPrefaceExpandNoneSaid : Prop := fnPrefaceExpandNoneRow.holds Try.pinned (OpenSpec.ofChange fnPrefaceExpandNoneSpec)

/-- ITS FALSE NEIGHBOUR: 'it returns false'. Refute it at one input. -/
def fnPrefaceExpandNoneWrong : ChangeSpec := { name := "fnPrefaceExpandNone", fn := fun _ => fun
  | [d] => { results := [.lit (.bool false)], args := [d] }
  | _ => none }
def FnPrefaceExpandNoneWrongFalsely : Prop := fnPrefaceExpandNoneRow.holds Try.pinned (OpenSpec.ofChange fnPrefaceExpandNoneWrong)

/- THE SECOND FORM. 'bulk': how many values and letters a reading holds, each counted each time it is reached (what is shared counts as often as it is met; a slice's spare places count too). A statement '..UptoSaid' is the law's where the arguments, and the package variables that the reading takes, are together of bulk at most 1048576: NARROWER than '..Said'. Prove '..Said' where nothing that the law and all that it calls make is longer than what came in: it says more and counts as full. Else prove '..UptoSaid'. A law counts once. -/
mutual
def uptoBulk {H : Type} : DataW H → Nat
  | .lit (.string bytes) => bytes.length + 1
  | .lit _ => 1
  | .nil => 1
  | .ptr d => uptoBulk d + 1
  | .slice elems spare => uptoBulkAll elems + uptoBulkAll spare + 1
  | .agg parts => uptoBulkAll parts + 1
  | .iface _ d => uptoBulk d + 1
  | .map entries => uptoBulkEntries entries + 1
  | .held _ => 1
def uptoBulkAll {H : Type} : List (DataW H) → Nat
  | [] => 0
  | d :: r => uptoBulk d + uptoBulkAll r
def uptoBulkEntries {H : Type} : List (Lit × DataW H) → Nat
  | [] => 0
  | x :: r => uptoBulkEntry x + uptoBulkEntries r
def uptoBulkEntry {H : Type} : Lit × DataW H → Nat
  | (.string bytes, d) => bytes.length + uptoBulk d + 1
  | (_, d) => uptoBulk d + 1
 end
def uptoSmall : (H : Type) → List (DataW H) → Bool := fun _ ds => decide (uptoBulkAll ds ≤ 1048576)
def OpenSpec.upto (s : _root_.Go.ChangeSpec) : _root_.Go.OpenSpec := { _root_.Go.OpenSpec.ofChange s with cond := some uptoSmall }

/-- 'laws.FnEntriesPart', WHERE WHAT IT READS IS OF BULK AT MOST 1048576: true; the input reads as it did. -/
def fnEntriesPartUptoRow : OpenClaim := { program := "ythongcikinnjlaa", sum := "6c308acd3d6d2bd768a144acec8bc73475775a4bbc86cce5254cf1401ea26e03", func := "loop.example/compressionlab/laws.FnEntriesPart", spec := "fnEntriesPart", apart := false, narrowed := true }
def FnEntriesPartUptoSaid : Prop := fnEntriesPartUptoRow.holds Try.pinned (OpenSpec.upto fnEntriesPartSpec)

/-- 'laws.FnExactEntriesValid', WHERE WHAT IT READS IS OF BULK AT MOST 1048576: true; the input reads as it did. -/
def fnExactEntriesValidUptoRow : OpenClaim := { program := "ythongcikinnjlaa", sum := "6c308acd3d6d2bd768a144acec8bc73475775a4bbc86cce5254cf1401ea26e03", func := "loop.example/compressionlab/laws.FnExactEntriesValid", spec := "fnExactEntriesValid", apart := false, narrowed := true }
def FnExactEntriesValidUptoSaid : Prop := fnExactEntriesValidUptoRow.holds Try.pinned (OpenSpec.upto fnExactEntriesValidSpec)

/-- 'laws.FnExactDeltaCopied', WHERE WHAT IT READS IS OF BULK AT MOST 1048576: true; the input reads as it did. -/
def fnExactDeltaCopiedUptoRow : OpenClaim := { program := "ythongcikinnjlaa", sum := "6c308acd3d6d2bd768a144acec8bc73475775a4bbc86cce5254cf1401ea26e03", func := "loop.example/compressionlab/laws.FnExactDeltaCopied", spec := "fnExactDeltaCopied", apart := false, narrowed := true }
def FnExactDeltaCopiedUptoSaid : Prop := fnExactDeltaCopiedUptoRow.holds Try.pinned (OpenSpec.upto fnExactDeltaCopiedSpec)

/-- 'laws.FnExactDeltaOf', WHERE WHAT IT READS IS OF BULK AT MOST 1048576: true; the input reads as it did. -/
def fnExactDeltaOfUptoRow : OpenClaim := { program := "ythongcikinnjlaa", sum := "6c308acd3d6d2bd768a144acec8bc73475775a4bbc86cce5254cf1401ea26e03", func := "loop.example/compressionlab/laws.FnExactDeltaOf", spec := "fnExactDeltaOf", apart := false, narrowed := true }
def FnExactDeltaOfUptoSaid : Prop := fnExactDeltaOfUptoRow.holds Try.pinned (OpenSpec.upto fnExactDeltaOfSpec)

/-- 'laws.FnDeltaLongest', WHERE WHAT IT READS IS OF BULK AT MOST 1048576: true; the input reads as it did. -/
def fnDeltaLongestUptoRow : OpenClaim := { program := "ythongcikinnjlaa", sum := "6c308acd3d6d2bd768a144acec8bc73475775a4bbc86cce5254cf1401ea26e03", func := "loop.example/compressionlab/laws.FnDeltaLongest", spec := "fnDeltaLongest", apart := false, narrowed := true }
def FnDeltaLongestUptoSaid : Prop := fnDeltaLongestUptoRow.holds Try.pinned (OpenSpec.upto fnDeltaLongestSpec)

/-- 'laws.FnDeltaNone', WHERE WHAT IT READS IS OF BULK AT MOST 1048576: true; the input reads as it did. -/
def fnDeltaNoneUptoRow : OpenClaim := { program := "ythongcikinnjlaa", sum := "6c308acd3d6d2bd768a144acec8bc73475775a4bbc86cce5254cf1401ea26e03", func := "loop.example/compressionlab/laws.FnDeltaNone", spec := "fnDeltaNone", apart := false, narrowed := true }
def FnDeltaNoneUptoSaid : Prop := fnDeltaNoneUptoRow.holds Try.pinned (OpenSpec.upto fnDeltaNoneSpec)

/-- 'laws.FnDeltaSame', WHERE WHAT IT READS IS OF BULK AT MOST 1048576: true; the input reads as it did. -/
def fnDeltaSameUptoRow : OpenClaim := { program := "ythongcikinnjlaa", sum := "6c308acd3d6d2bd768a144acec8bc73475775a4bbc86cce5254cf1401ea26e03", func := "loop.example/compressionlab/laws.FnDeltaSame", spec := "fnDeltaSame", apart := false, narrowed := true }
def FnDeltaSameUptoSaid : Prop := fnDeltaSameUptoRow.holds Try.pinned (OpenSpec.upto fnDeltaSameSpec)

/-- 'laws.FnExactDeltaApply', WHERE WHAT IT READS IS OF BULK AT MOST 1048576: true; the input reads as it did. -/
def fnExactDeltaApplyUptoRow : OpenClaim := { program := "ythongcikinnjlaa", sum := "6c308acd3d6d2bd768a144acec8bc73475775a4bbc86cce5254cf1401ea26e03", func := "loop.example/compressionlab/laws.FnExactDeltaApply", spec := "fnExactDeltaApply", apart := false, narrowed := true }
def FnExactDeltaApplyUptoSaid : Prop := fnExactDeltaApplyUptoRow.holds Try.pinned (OpenSpec.upto fnExactDeltaApplySpec)

/-- 'laws.FnExactPrefaceGain', WHERE WHAT IT READS IS OF BULK AT MOST 1048576: true; the input reads as it did. -/
def fnExactPrefaceGainUptoRow : OpenClaim := { program := "ythongcikinnjlaa", sum := "6c308acd3d6d2bd768a144acec8bc73475775a4bbc86cce5254cf1401ea26e03", func := "loop.example/compressionlab/laws.FnExactPrefaceGain", spec := "fnExactPrefaceGain", apart := false, narrowed := true }
def FnExactPrefaceGainUptoSaid : Prop := fnExactPrefaceGainUptoRow.holds Try.pinned (OpenSpec.upto fnExactPrefaceGainSpec)

/-- 'laws.FnExactPrefaceTokens', WHERE WHAT IT READS IS OF BULK AT MOST 1048576: true; the input reads as it did. -/
def fnExactPrefaceTokensUptoRow : OpenClaim := { program := "ythongcikinnjlaa", sum := "6c308acd3d6d2bd768a144acec8bc73475775a4bbc86cce5254cf1401ea26e03", func := "loop.example/compressionlab/laws.FnExactPrefaceTokens", spec := "fnExactPrefaceTokens", apart := false, narrowed := true }
def FnExactPrefaceTokensUptoSaid : Prop := fnExactPrefaceTokensUptoRow.holds Try.pinned (OpenSpec.upto fnExactPrefaceTokensSpec)

/-- 'laws.FnCopiedAll', WHERE WHAT IT READS IS OF BULK AT MOST 1048576: true; the input reads as it did. -/
def fnCopiedAllUptoRow : OpenClaim := { program := "ythongcikinnjlaa", sum := "6c308acd3d6d2bd768a144acec8bc73475775a4bbc86cce5254cf1401ea26e03", func := "loop.example/compressionlab/laws.FnCopiedAll", spec := "fnCopiedAll", apart := false, narrowed := true }
def FnCopiedAllUptoSaid : Prop := fnCopiedAllUptoRow.holds Try.pinned (OpenSpec.upto fnCopiedAllSpec)

/-- 'laws.FnExactPrefaceExpand', WHERE WHAT IT READS IS OF BULK AT MOST 1048576: true; the input reads as it did. -/
def fnExactPrefaceExpandUptoRow : OpenClaim := { program := "ythongcikinnjlaa", sum := "6c308acd3d6d2bd768a144acec8bc73475775a4bbc86cce5254cf1401ea26e03", func := "loop.example/compressionlab/laws.FnExactPrefaceExpand", spec := "fnExactPrefaceExpand", apart := false, narrowed := true }
def FnExactPrefaceExpandUptoSaid : Prop := fnExactPrefaceExpandUptoRow.holds Try.pinned (OpenSpec.upto fnExactPrefaceExpandSpec)

/-- 'laws.FnDelta', WHERE WHAT IT READS IS OF BULK AT MOST 1048576: true; the input reads as it did. -/
def fnDeltaUptoRow : OpenClaim := { program := "ythongcikinnjlaa", sum := "6c308acd3d6d2bd768a144acec8bc73475775a4bbc86cce5254cf1401ea26e03", func := "loop.example/compressionlab/laws.FnDelta", spec := "fnDelta", apart := false, narrowed := true }
def FnDeltaUptoSaid : Prop := fnDeltaUptoRow.holds Try.pinned (OpenSpec.upto fnDeltaSpec)

/-- 'laws.FnPrefaceSame', WHERE WHAT IT READS IS OF BULK AT MOST 1048576: true; the input reads as it did. -/
def fnPrefaceSameUptoRow : OpenClaim := { program := "ythongcikinnjlaa", sum := "6c308acd3d6d2bd768a144acec8bc73475775a4bbc86cce5254cf1401ea26e03", func := "loop.example/compressionlab/laws.FnPrefaceSame", spec := "fnPrefaceSame", apart := false, narrowed := true }
def FnPrefaceSameUptoSaid : Prop := fnPrefaceSameUptoRow.holds Try.pinned (OpenSpec.upto fnPrefaceSameSpec)

/-- 'laws.FnDeltaApply', WHERE WHAT IT READS IS OF BULK AT MOST 1048576: true; the input reads as it did. -/
def fnDeltaApplyUptoRow : OpenClaim := { program := "ythongcikinnjlaa", sum := "6c308acd3d6d2bd768a144acec8bc73475775a4bbc86cce5254cf1401ea26e03", func := "loop.example/compressionlab/laws.FnDeltaApply", spec := "fnDeltaApply", apart := false, narrowed := true }
def FnDeltaApplyUptoSaid : Prop := fnDeltaApplyUptoRow.holds Try.pinned (OpenSpec.upto fnDeltaApplySpec)

/-- 'laws.FnDeltaBegin', WHERE WHAT IT READS IS OF BULK AT MOST 1048576: true; the input reads as it did. -/
def fnDeltaBeginUptoRow : OpenClaim := { program := "ythongcikinnjlaa", sum := "6c308acd3d6d2bd768a144acec8bc73475775a4bbc86cce5254cf1401ea26e03", func := "loop.example/compressionlab/laws.FnDeltaBegin", spec := "fnDeltaBegin", apart := false, narrowed := true }
def FnDeltaBeginUptoSaid : Prop := fnDeltaBeginUptoRow.holds Try.pinned (OpenSpec.upto fnDeltaBeginSpec)

/-- 'laws.FnDeltaMore', WHERE WHAT IT READS IS OF BULK AT MOST 1048576: true; the input reads as it did. -/
def fnDeltaMoreUptoRow : OpenClaim := { program := "ythongcikinnjlaa", sum := "6c308acd3d6d2bd768a144acec8bc73475775a4bbc86cce5254cf1401ea26e03", func := "loop.example/compressionlab/laws.FnDeltaMore", spec := "fnDeltaMore", apart := false, narrowed := true }
def FnDeltaMoreUptoSaid : Prop := fnDeltaMoreUptoRow.holds Try.pinned (OpenSpec.upto fnDeltaMoreSpec)

/-- 'laws.FnCopied', WHERE WHAT IT READS IS OF BULK AT MOST 1048576: true; the input reads as it did. -/
def fnCopiedUptoRow : OpenClaim := { program := "ythongcikinnjlaa", sum := "6c308acd3d6d2bd768a144acec8bc73475775a4bbc86cce5254cf1401ea26e03", func := "loop.example/compressionlab/laws.FnCopied", spec := "fnCopied", apart := false, narrowed := true }
def FnCopiedUptoSaid : Prop := fnCopiedUptoRow.holds Try.pinned (OpenSpec.upto fnCopiedSpec)

/-- 'laws.FnPrefaceNone', WHERE WHAT IT READS IS OF BULK AT MOST 1048576: true; the input reads as it did. -/
def fnPrefaceNoneUptoRow : OpenClaim := { program := "ythongcikinnjlaa", sum := "6c308acd3d6d2bd768a144acec8bc73475775a4bbc86cce5254cf1401ea26e03", func := "loop.example/compressionlab/laws.FnPrefaceNone", spec := "fnPrefaceNone", apart := false, narrowed := true }
def FnPrefaceNoneUptoSaid : Prop := fnPrefaceNoneUptoRow.holds Try.pinned (OpenSpec.upto fnPrefaceNoneSpec)

/-- 'laws.FnPreface', WHERE WHAT IT READS IS OF BULK AT MOST 1048576: true; the input reads as it did. -/
def fnPrefaceUptoRow : OpenClaim := { program := "ythongcikinnjlaa", sum := "6c308acd3d6d2bd768a144acec8bc73475775a4bbc86cce5254cf1401ea26e03", func := "loop.example/compressionlab/laws.FnPreface", spec := "fnPreface", apart := false, narrowed := true }
def FnPrefaceUptoSaid : Prop := fnPrefaceUptoRow.holds Try.pinned (OpenSpec.upto fnPrefaceSpec)

/-- 'laws.FnPrefaceGain', WHERE WHAT IT READS IS OF BULK AT MOST 1048576: true; the input reads as it did. -/
def fnPrefaceGainUptoRow : OpenClaim := { program := "ythongcikinnjlaa", sum := "6c308acd3d6d2bd768a144acec8bc73475775a4bbc86cce5254cf1401ea26e03", func := "loop.example/compressionlab/laws.FnPrefaceGain", spec := "fnPrefaceGain", apart := false, narrowed := true }
def FnPrefaceGainUptoSaid : Prop := fnPrefaceGainUptoRow.holds Try.pinned (OpenSpec.upto fnPrefaceGainSpec)

/-- 'laws.FnPrefaceExpand', WHERE WHAT IT READS IS OF BULK AT MOST 1048576: true; the input reads as it did. -/
def fnPrefaceExpandUptoRow : OpenClaim := { program := "ythongcikinnjlaa", sum := "6c308acd3d6d2bd768a144acec8bc73475775a4bbc86cce5254cf1401ea26e03", func := "loop.example/compressionlab/laws.FnPrefaceExpand", spec := "fnPrefaceExpand", apart := false, narrowed := true }
def FnPrefaceExpandUptoSaid : Prop := fnPrefaceExpandUptoRow.holds Try.pinned (OpenSpec.upto fnPrefaceExpandSpec)

/-- 'laws.FnPrefaceExpandNone', WHERE WHAT IT READS IS OF BULK AT MOST 1048576: true; the input reads as it did. -/
def fnPrefaceExpandNoneUptoRow : OpenClaim := { program := "ythongcikinnjlaa", sum := "6c308acd3d6d2bd768a144acec8bc73475775a4bbc86cce5254cf1401ea26e03", func := "loop.example/compressionlab/laws.FnPrefaceExpandNone", spec := "fnPrefaceExpandNone", apart := false, narrowed := true }
def FnPrefaceExpandNoneUptoSaid : Prop := fnPrefaceExpandNoneUptoRow.holds Try.pinned (OpenSpec.upto fnPrefaceExpandNoneSpec)

end Rows
end Go.Proofs.Ythongcikinnjlaa
