/-
  No cell of these rows narrows 'for every input' (looked for: loops, veiled, ifaces, maps, wideKeys, modest, calm, conditions, laid).
  DERIVED. THE GIVEN ROWS OF THIS SEAT. 20 by the template 'for every input the law returns true; each argument reads behind the call as it read before'; 0 by the template 'total and deterministic' (their statements: YtmfamcaiimhaeaaTotals.lean).
  GIVEN WITH THE SEED: the statements are not yours to turn. If you find one false, say at which input.
  Laid BY PROGRAM, IN A SANDBOX (cutbox-rows.mjs): the forced cells as the released guide's own fill.sh prints them over the translation 6273eb491316c06a… (all of the seat's roots in one cut). By AI agents, Wed Nov 11 2026. No macro, syntax, notation, axiom, sorry.
-/
import Derived.Test.YtmfamcaiimhaeaaChecked
import GoSem.Claim
import GoSem.ClaimJoined
import GoSem.ClaimMapViews
import Derived.JoinedTies
import Derived.KernelRfl
namespace Go.Proofs.Ytmfamcaiimhaeaa
/- THE CELL 'sum', in the pinned program and in every row, IS THE sha256 OF THE DUMP (.gsa) THAT YtmfamcaiimhaeaaProg.lean LOADS. Nothing in Lean hashes anything: it is a label: what it is worth is what the hold of that sum in a sandbox is worth. -/
noncomputable def Try.pinned : Pinned := { name := "ytmfamcaiimhaeaa", sum := "6273eb491316c06a2392acd1465f504a0b1f05bed8a7dad774835a584f888155", checked := Try.checked }
namespace Rows
def none {H : Type} : Left H := { results := [], args := [] }

/-- 'laws.FnArchiveNone': WHATEVER THE INPUT: true; the input reads as it did. -/
def fnArchiveNoneSpec : ChangeSpec := { name := "fnArchiveNone", fn := fun _ => fun
  | [d1, d2] => { results := [.lit (.bool true)], args := [d1, d2] }
  | _ => none }
def fnArchiveNoneRow : OpenClaim := { program := "ytmfamcaiimhaeaa", sum := "6273eb491316c06a2392acd1465f504a0b1f05bed8a7dad774835a584f888155", func := "loop.example/compressionlab/laws.FnArchiveNone", spec := "fnArchiveNone", unfollowed := true, recurses := true, apart := false }
def FnArchiveNoneSaid : Prop := fnArchiveNoneRow.holds Try.pinned (OpenSpec.ofChange fnArchiveNoneSpec)

/-- ITS FALSE NEIGHBOUR: 'it returns false'. Refute it at one input. -/
def fnArchiveNoneWrong : ChangeSpec := { name := "fnArchiveNone", fn := fun _ => fun
  | [d1, d2] => { results := [.lit (.bool false)], args := [d1, d2] }
  | _ => none }
def FnArchiveNoneWrongFalsely : Prop := fnArchiveNoneRow.holds Try.pinned (OpenSpec.ofChange fnArchiveNoneWrong)

/-- 'laws.FnExactSizeBest': WHATEVER THE INPUT: true; the input reads as it did. -/
def fnExactSizeBestSpec : ChangeSpec := { name := "fnExactSizeBest", fn := fun _ => fun
  | [d] => { results := [.lit (.bool true)], args := [d] }
  | _ => none }
def fnExactSizeBestRow : OpenClaim := { program := "ytmfamcaiimhaeaa", sum := "6273eb491316c06a2392acd1465f504a0b1f05bed8a7dad774835a584f888155", func := "loop.example/compressionlab/laws.FnExactSizeBest", spec := "fnExactSizeBest", unfollowed := true, recurses := true, apart := false }
def FnExactSizeBestSaid : Prop := fnExactSizeBestRow.holds Try.pinned (OpenSpec.ofChange fnExactSizeBestSpec)

/-- ITS FALSE NEIGHBOUR: 'it returns false'. Refute it at one input. -/
def fnExactSizeBestWrong : ChangeSpec := { name := "fnExactSizeBest", fn := fun _ => fun
  | [d] => { results := [.lit (.bool false)], args := [d] }
  | _ => none }
def FnExactSizeBestWrongFalsely : Prop := fnExactSizeBestRow.holds Try.pinned (OpenSpec.ofChange fnExactSizeBestWrong)

/-- 'laws.FnExactSizeShare': WHATEVER THE INPUT: true; the input reads as it did. -/
def fnExactSizeShareSpec : ChangeSpec := { name := "fnExactSizeShare", fn := fun _ => fun
  | [d] => { results := [.lit (.bool true)], args := [d] }
  | _ => none }
def fnExactSizeShareRow : OpenClaim := { program := "ytmfamcaiimhaeaa", sum := "6273eb491316c06a2392acd1465f504a0b1f05bed8a7dad774835a584f888155", func := "loop.example/compressionlab/laws.FnExactSizeShare", spec := "fnExactSizeShare", unfollowed := true, recurses := true, apart := false }
def FnExactSizeShareSaid : Prop := fnExactSizeShareRow.holds Try.pinned (OpenSpec.ofChange fnExactSizeShareSpec)

/-- ITS FALSE NEIGHBOUR: 'it returns false'. Refute it at one input. -/
def fnExactSizeShareWrong : ChangeSpec := { name := "fnExactSizeShare", fn := fun _ => fun
  | [d] => { results := [.lit (.bool false)], args := [d] }
  | _ => none }
def FnExactSizeShareWrongFalsely : Prop := fnExactSizeShareRow.holds Try.pinned (OpenSpec.ofChange fnExactSizeShareWrong)

/-- 'laws.FnExactSizesOf': WHATEVER THE INPUT: true; the input reads as it did. -/
def fnExactSizesOfSpec : ChangeSpec := { name := "fnExactSizesOf", fn := fun _ => fun
  | [d] => { results := [.lit (.bool true)], args := [d] }
  | _ => none }
def fnExactSizesOfRow : OpenClaim := { program := "ytmfamcaiimhaeaa", sum := "6273eb491316c06a2392acd1465f504a0b1f05bed8a7dad774835a584f888155", func := "loop.example/compressionlab/laws.FnExactSizesOf", spec := "fnExactSizesOf", unfollowed := true, recurses := true, apart := false }
def FnExactSizesOfSaid : Prop := fnExactSizesOfRow.holds Try.pinned (OpenSpec.ofChange fnExactSizesOfSpec)

/-- ITS FALSE NEIGHBOUR: 'it returns false'. Refute it at one input. -/
def fnExactSizesOfWrong : ChangeSpec := { name := "fnExactSizesOf", fn := fun _ => fun
  | [d] => { results := [.lit (.bool false)], args := [d] }
  | _ => none }
def FnExactSizesOfWrongFalsely : Prop := fnExactSizesOfRow.holds Try.pinned (OpenSpec.ofChange fnExactSizesOfWrong)

/-- 'laws.FnSizeShare': WHATEVER THE INPUT: true; the input reads as it did. -/
def fnSizeShareSpec : ChangeSpec := { name := "fnSizeShare", fn := fun _ => fun
  | [d] => { results := [.lit (.bool true)], args := [d] }
  | _ => none }
def fnSizeShareRow : OpenClaim := { program := "ytmfamcaiimhaeaa", sum := "6273eb491316c06a2392acd1465f504a0b1f05bed8a7dad774835a584f888155", func := "loop.example/compressionlab/laws.FnSizeShare", spec := "fnSizeShare", unfollowed := true, recurses := true, apart := false }
def FnSizeShareSaid : Prop := fnSizeShareRow.holds Try.pinned (OpenSpec.ofChange fnSizeShareSpec)

/-- ITS FALSE NEIGHBOUR: 'it returns false'. Refute it at one input. -/
def fnSizeShareWrong : ChangeSpec := { name := "fnSizeShare", fn := fun _ => fun
  | [d] => { results := [.lit (.bool false)], args := [d] }
  | _ => none }
def FnSizeShareWrongFalsely : Prop := fnSizeShareRow.holds Try.pinned (OpenSpec.ofChange fnSizeShareWrong)

/-- 'laws.FnSizes': WHATEVER THE INPUT: true; the input reads as it did. -/
def fnSizesSpec : ChangeSpec := { name := "fnSizes", fn := fun _ => fun
  | [d] => { results := [.lit (.bool true)], args := [d] }
  | _ => none }
def fnSizesRow : OpenClaim := { program := "ytmfamcaiimhaeaa", sum := "6273eb491316c06a2392acd1465f504a0b1f05bed8a7dad774835a584f888155", func := "loop.example/compressionlab/laws.FnSizes", spec := "fnSizes", unfollowed := true, recurses := true, apart := false }
def FnSizesSaid : Prop := fnSizesRow.holds Try.pinned (OpenSpec.ofChange fnSizesSpec)

/-- ITS FALSE NEIGHBOUR: 'it returns false'. Refute it at one input. -/
def fnSizesWrong : ChangeSpec := { name := "fnSizes", fn := fun _ => fun
  | [d] => { results := [.lit (.bool false)], args := [d] }
  | _ => none }
def FnSizesWrongFalsely : Prop := fnSizesRow.holds Try.pinned (OpenSpec.ofChange fnSizesWrong)

/-- 'laws.FnSizesKnown': WHATEVER THE INPUT: true; the input reads as it did. -/
def fnSizesKnownSpec : ChangeSpec := { name := "fnSizesKnown", fn := fun _ => fun
  | [d] => { results := [.lit (.bool true)], args := [d] }
  | _ => none }
def fnSizesKnownRow : OpenClaim := { program := "ytmfamcaiimhaeaa", sum := "6273eb491316c06a2392acd1465f504a0b1f05bed8a7dad774835a584f888155", func := "loop.example/compressionlab/laws.FnSizesKnown", spec := "fnSizesKnown", unfollowed := true, recurses := true, apart := false }
def FnSizesKnownSaid : Prop := fnSizesKnownRow.holds Try.pinned (OpenSpec.ofChange fnSizesKnownSpec)

/-- ITS FALSE NEIGHBOUR: 'it returns false'. Refute it at one input. -/
def fnSizesKnownWrong : ChangeSpec := { name := "fnSizesKnown", fn := fun _ => fun
  | [d] => { results := [.lit (.bool false)], args := [d] }
  | _ => none }
def FnSizesKnownWrongFalsely : Prop := fnSizesKnownRow.holds Try.pinned (OpenSpec.ofChange fnSizesKnownWrong)

/-- 'laws.FnSizeBest': WHATEVER THE INPUT: true; the input reads as it did. -/
def fnSizeBestSpec : ChangeSpec := { name := "fnSizeBest", fn := fun _ => fun
  | [d] => { results := [.lit (.bool true)], args := [d] }
  | _ => none }
def fnSizeBestRow : OpenClaim := { program := "ytmfamcaiimhaeaa", sum := "6273eb491316c06a2392acd1465f504a0b1f05bed8a7dad774835a584f888155", func := "loop.example/compressionlab/laws.FnSizeBest", spec := "fnSizeBest", unfollowed := true, recurses := true, apart := false }
def FnSizeBestSaid : Prop := fnSizeBestRow.holds Try.pinned (OpenSpec.ofChange fnSizeBestSpec)

/-- ITS FALSE NEIGHBOUR: 'it returns false'. Refute it at one input. -/
def fnSizeBestWrong : ChangeSpec := { name := "fnSizeBest", fn := fun _ => fun
  | [d] => { results := [.lit (.bool false)], args := [d] }
  | _ => none }
def FnSizeBestWrongFalsely : Prop := fnSizeBestRow.holds Try.pinned (OpenSpec.ofChange fnSizeBestWrong)

/-- 'laws.FnSizeRun': WHATEVER THE INPUT: true; the input reads as it did. -/
def fnSizeRunSpec : ChangeSpec := { name := "fnSizeRun", fn := fun _ => fun
  | [d1, d2] => { results := [.lit (.bool true)], args := [d1, d2] }
  | _ => none }
def fnSizeRunRow : OpenClaim := { program := "ytmfamcaiimhaeaa", sum := "6273eb491316c06a2392acd1465f504a0b1f05bed8a7dad774835a584f888155", func := "loop.example/compressionlab/laws.FnSizeRun", spec := "fnSizeRun", unfollowed := true, recurses := true, apart := false }
def FnSizeRunSaid : Prop := fnSizeRunRow.holds Try.pinned (OpenSpec.ofChange fnSizeRunSpec)

/-- ITS FALSE NEIGHBOUR: 'it returns false'. Refute it at one input. -/
def fnSizeRunWrong : ChangeSpec := { name := "fnSizeRun", fn := fun _ => fun
  | [d1, d2] => { results := [.lit (.bool false)], args := [d1, d2] }
  | _ => none }
def FnSizeRunWrongFalsely : Prop := fnSizeRunRow.holds Try.pinned (OpenSpec.ofChange fnSizeRunWrong)

/-- 'laws.FnSizesPrefix': WHATEVER THE INPUT: true; the input reads as it did. -/
def fnSizesPrefixSpec : ChangeSpec := { name := "fnSizesPrefix", fn := fun _ => fun
  | [d] => { results := [.lit (.bool true)], args := [d] }
  | _ => none }
def fnSizesPrefixRow : OpenClaim := { program := "ytmfamcaiimhaeaa", sum := "6273eb491316c06a2392acd1465f504a0b1f05bed8a7dad774835a584f888155", func := "loop.example/compressionlab/laws.FnSizesPrefix", spec := "fnSizesPrefix", unfollowed := true, recurses := true, apart := false }
def FnSizesPrefixSaid : Prop := fnSizesPrefixRow.holds Try.pinned (OpenSpec.ofChange fnSizesPrefixSpec)

/-- ITS FALSE NEIGHBOUR: 'it returns false'. Refute it at one input. -/
def fnSizesPrefixWrong : ChangeSpec := { name := "fnSizesPrefix", fn := fun _ => fun
  | [d] => { results := [.lit (.bool false)], args := [d] }
  | _ => none }
def FnSizesPrefixWrongFalsely : Prop := fnSizesPrefixRow.holds Try.pinned (OpenSpec.ofChange fnSizesPrefixWrong)

/-- 'laws.FnSizesEmpty': WHATEVER THE INPUT: true; the input reads as it did. -/
def fnSizesEmptySpec : ChangeSpec := { name := "fnSizesEmpty", fn := fun _ => fun
  | [d] => { results := [.lit (.bool true)], args := [d] }
  | _ => none }
def fnSizesEmptyRow : OpenClaim := { program := "ytmfamcaiimhaeaa", sum := "6273eb491316c06a2392acd1465f504a0b1f05bed8a7dad774835a584f888155", func := "loop.example/compressionlab/laws.FnSizesEmpty", spec := "fnSizesEmpty", unfollowed := true, recurses := true, apart := false }
def FnSizesEmptySaid : Prop := fnSizesEmptyRow.holds Try.pinned (OpenSpec.ofChange fnSizesEmptySpec)

/-- ITS FALSE NEIGHBOUR: 'it returns false'. Refute it at one input. -/
def fnSizesEmptyWrong : ChangeSpec := { name := "fnSizesEmpty", fn := fun _ => fun
  | [d] => { results := [.lit (.bool false)], args := [d] }
  | _ => none }
def FnSizesEmptyWrongFalsely : Prop := fnSizesEmptyRow.holds Try.pinned (OpenSpec.ofChange fnSizesEmptyWrong)

/-- 'laws.FnArchiveIndex': WHATEVER THE INPUT: true; the input reads as it did. -/
def fnArchiveIndexSpec : ChangeSpec := { name := "fnArchiveIndex", fn := fun _ => fun
  | [d] => { results := [.lit (.bool true)], args := [d] }
  | _ => none }
def fnArchiveIndexRow : OpenClaim := { program := "ytmfamcaiimhaeaa", sum := "6273eb491316c06a2392acd1465f504a0b1f05bed8a7dad774835a584f888155", func := "loop.example/compressionlab/laws.FnArchiveIndex", spec := "fnArchiveIndex", unfollowed := true, recurses := true, apart := false }
def FnArchiveIndexSaid : Prop := fnArchiveIndexRow.holds Try.pinned (OpenSpec.ofChange fnArchiveIndexSpec)

/-- ITS FALSE NEIGHBOUR: 'it returns false'. Refute it at one input. -/
def fnArchiveIndexWrong : ChangeSpec := { name := "fnArchiveIndex", fn := fun _ => fun
  | [d] => { results := [.lit (.bool false)], args := [d] }
  | _ => none }
def FnArchiveIndexWrongFalsely : Prop := fnArchiveIndexRow.holds Try.pinned (OpenSpec.ofChange fnArchiveIndexWrong)

/-- 'laws.FnExactArchivePack': WHATEVER THE INPUT: true; the input reads as it did. -/
def fnExactArchivePackSpec : ChangeSpec := { name := "fnExactArchivePack", fn := fun _ => fun
  | [d] => { results := [.lit (.bool true)], args := [d] }
  | _ => none }
def fnExactArchivePackRow : OpenClaim := { program := "ytmfamcaiimhaeaa", sum := "6273eb491316c06a2392acd1465f504a0b1f05bed8a7dad774835a584f888155", func := "loop.example/compressionlab/laws.FnExactArchivePack", spec := "fnExactArchivePack", unfollowed := true, recurses := true, apart := false }
def FnExactArchivePackSaid : Prop := fnExactArchivePackRow.holds Try.pinned (OpenSpec.ofChange fnExactArchivePackSpec)

/-- ITS FALSE NEIGHBOUR: 'it returns false'. Refute it at one input. -/
def fnExactArchivePackWrong : ChangeSpec := { name := "fnExactArchivePack", fn := fun _ => fun
  | [d] => { results := [.lit (.bool false)], args := [d] }
  | _ => none }
def FnExactArchivePackWrongFalsely : Prop := fnExactArchivePackRow.holds Try.pinned (OpenSpec.ofChange fnExactArchivePackWrong)

/-- 'laws.FnArchiveGet': WHATEVER THE INPUT: true; the input reads as it did. -/
def fnArchiveGetSpec : ChangeSpec := { name := "fnArchiveGet", fn := fun _ => fun
  | [d1, d2] => { results := [.lit (.bool true)], args := [d1, d2] }
  | _ => none }
def fnArchiveGetRow : OpenClaim := { program := "ytmfamcaiimhaeaa", sum := "6273eb491316c06a2392acd1465f504a0b1f05bed8a7dad774835a584f888155", func := "loop.example/compressionlab/laws.FnArchiveGet", spec := "fnArchiveGet", unfollowed := true, recurses := true, apart := false }
def FnArchiveGetSaid : Prop := fnArchiveGetRow.holds Try.pinned (OpenSpec.ofChange fnArchiveGetSpec)

/-- ITS FALSE NEIGHBOUR: 'it returns false'. Refute it at one input. -/
def fnArchiveGetWrong : ChangeSpec := { name := "fnArchiveGet", fn := fun _ => fun
  | [d1, d2] => { results := [.lit (.bool false)], args := [d1, d2] }
  | _ => none }
def FnArchiveGetWrongFalsely : Prop := fnArchiveGetRow.holds Try.pinned (OpenSpec.ofChange fnArchiveGetWrong)

/-- 'laws.FnArchive': WHATEVER THE INPUT: true; the input reads as it did. -/
def fnArchiveSpec : ChangeSpec := { name := "fnArchive", fn := fun _ => fun
  | [d] => { results := [.lit (.bool true)], args := [d] }
  | _ => none }
def fnArchiveRow : OpenClaim := { program := "ytmfamcaiimhaeaa", sum := "6273eb491316c06a2392acd1465f504a0b1f05bed8a7dad774835a584f888155", func := "loop.example/compressionlab/laws.FnArchive", spec := "fnArchive", unfollowed := true, recurses := true, apart := false }
def FnArchiveSaid : Prop := fnArchiveRow.holds Try.pinned (OpenSpec.ofChange fnArchiveSpec)

/-- ITS FALSE NEIGHBOUR: 'it returns false'. Refute it at one input. -/
def fnArchiveWrong : ChangeSpec := { name := "fnArchive", fn := fun _ => fun
  | [d] => { results := [.lit (.bool false)], args := [d] }
  | _ => none }
def FnArchiveWrongFalsely : Prop := fnArchiveRow.holds Try.pinned (OpenSpec.ofChange fnArchiveWrong)

/-- 'laws.FnExactArchiveGet': WHATEVER THE INPUT: true; the input reads as it did. -/
def fnExactArchiveGetSpec : ChangeSpec := { name := "fnExactArchiveGet", fn := fun _ => fun
  | [d1, d2] => { results := [.lit (.bool true)], args := [d1, d2] }
  | _ => none }
def fnExactArchiveGetRow : OpenClaim := { program := "ytmfamcaiimhaeaa", sum := "6273eb491316c06a2392acd1465f504a0b1f05bed8a7dad774835a584f888155", func := "loop.example/compressionlab/laws.FnExactArchiveGet", spec := "fnExactArchiveGet", unfollowed := true, recurses := true, apart := false }
def FnExactArchiveGetSaid : Prop := fnExactArchiveGetRow.holds Try.pinned (OpenSpec.ofChange fnExactArchiveGetSpec)

/-- ITS FALSE NEIGHBOUR: 'it returns false'. Refute it at one input. -/
def fnExactArchiveGetWrong : ChangeSpec := { name := "fnExactArchiveGet", fn := fun _ => fun
  | [d1, d2] => { results := [.lit (.bool false)], args := [d1, d2] }
  | _ => none }
def FnExactArchiveGetWrongFalsely : Prop := fnExactArchiveGetRow.holds Try.pinned (OpenSpec.ofChange fnExactArchiveGetWrong)

/-- 'laws.FnExactArchiveOpen': WHATEVER THE INPUT: true; the input reads as it did. -/
def fnExactArchiveOpenSpec : ChangeSpec := { name := "fnExactArchiveOpen", fn := fun _ => fun
  | [d] => { results := [.lit (.bool true)], args := [d] }
  | _ => none }
def fnExactArchiveOpenRow : OpenClaim := { program := "ytmfamcaiimhaeaa", sum := "6273eb491316c06a2392acd1465f504a0b1f05bed8a7dad774835a584f888155", func := "loop.example/compressionlab/laws.FnExactArchiveOpen", spec := "fnExactArchiveOpen", unfollowed := true, recurses := true, apart := false }
def FnExactArchiveOpenSaid : Prop := fnExactArchiveOpenRow.holds Try.pinned (OpenSpec.ofChange fnExactArchiveOpenSpec)

/-- ITS FALSE NEIGHBOUR: 'it returns false'. Refute it at one input. -/
def fnExactArchiveOpenWrong : ChangeSpec := { name := "fnExactArchiveOpen", fn := fun _ => fun
  | [d] => { results := [.lit (.bool false)], args := [d] }
  | _ => none }
def FnExactArchiveOpenWrongFalsely : Prop := fnExactArchiveOpenRow.holds Try.pinned (OpenSpec.ofChange fnExactArchiveOpenWrong)

/-- 'laws.FnArchiveOpen': WHATEVER THE INPUT: true; the input reads as it did. -/
def fnArchiveOpenSpec : ChangeSpec := { name := "fnArchiveOpen", fn := fun _ => fun
  | [d] => { results := [.lit (.bool true)], args := [d] }
  | _ => none }
def fnArchiveOpenRow : OpenClaim := { program := "ytmfamcaiimhaeaa", sum := "6273eb491316c06a2392acd1465f504a0b1f05bed8a7dad774835a584f888155", func := "loop.example/compressionlab/laws.FnArchiveOpen", spec := "fnArchiveOpen", unfollowed := true, recurses := true, apart := false }
def FnArchiveOpenSaid : Prop := fnArchiveOpenRow.holds Try.pinned (OpenSpec.ofChange fnArchiveOpenSpec)

/-- ITS FALSE NEIGHBOUR: 'it returns false'. Refute it at one input. -/
def fnArchiveOpenWrong : ChangeSpec := { name := "fnArchiveOpen", fn := fun _ => fun
  | [d] => { results := [.lit (.bool false)], args := [d] }
  | _ => none }
def FnArchiveOpenWrongFalsely : Prop := fnArchiveOpenRow.holds Try.pinned (OpenSpec.ofChange fnArchiveOpenWrong)

/-- 'laws.FnArchiveTorn': WHATEVER THE INPUT: true; the input reads as it did. -/
def fnArchiveTornSpec : ChangeSpec := { name := "fnArchiveTorn", fn := fun _ => fun
  | [d1, d2] => { results := [.lit (.bool true)], args := [d1, d2] }
  | _ => none }
def fnArchiveTornRow : OpenClaim := { program := "ytmfamcaiimhaeaa", sum := "6273eb491316c06a2392acd1465f504a0b1f05bed8a7dad774835a584f888155", func := "loop.example/compressionlab/laws.FnArchiveTorn", spec := "fnArchiveTorn", unfollowed := true, recurses := true, apart := false }
def FnArchiveTornSaid : Prop := fnArchiveTornRow.holds Try.pinned (OpenSpec.ofChange fnArchiveTornSpec)

/-- ITS FALSE NEIGHBOUR: 'it returns false'. Refute it at one input. -/
def fnArchiveTornWrong : ChangeSpec := { name := "fnArchiveTorn", fn := fun _ => fun
  | [d1, d2] => { results := [.lit (.bool false)], args := [d1, d2] }
  | _ => none }
def FnArchiveTornWrongFalsely : Prop := fnArchiveTornRow.holds Try.pinned (OpenSpec.ofChange fnArchiveTornWrong)

/-- 'laws.FnArchiveGetNone': WHATEVER THE INPUT: true; the input reads as it did. -/
def fnArchiveGetNoneSpec : ChangeSpec := { name := "fnArchiveGetNone", fn := fun _ => fun
  | [d] => { results := [.lit (.bool true)], args := [d] }
  | _ => none }
def fnArchiveGetNoneRow : OpenClaim := { program := "ytmfamcaiimhaeaa", sum := "6273eb491316c06a2392acd1465f504a0b1f05bed8a7dad774835a584f888155", func := "loop.example/compressionlab/laws.FnArchiveGetNone", spec := "fnArchiveGetNone", unfollowed := true, recurses := true, apart := false }
def FnArchiveGetNoneSaid : Prop := fnArchiveGetNoneRow.holds Try.pinned (OpenSpec.ofChange fnArchiveGetNoneSpec)

/-- ITS FALSE NEIGHBOUR: 'it returns false'. Refute it at one input. -/
def fnArchiveGetNoneWrong : ChangeSpec := { name := "fnArchiveGetNone", fn := fun _ => fun
  | [d] => { results := [.lit (.bool false)], args := [d] }
  | _ => none }
def FnArchiveGetNoneWrongFalsely : Prop := fnArchiveGetNoneRow.holds Try.pinned (OpenSpec.ofChange fnArchiveGetNoneWrong)

/- THE SECOND FORM. 'bulk': how many values and letters a reading holds, each counted each time it is reached (what is shared counts as often as it is met; a slice's spare places count too). A statement '..UptoSaid' is the law's where the arguments, and the package variables that the reading takes, are together of bulk at most 1048576: NARROWER than '..Said'. Prove '..Said' where nothing that the law and all that it calls make is longer than what came in: it says more and counts as full. Else prove '..UptoSaid'. A law counts once. -/
mutual
def uptoBulk {H : Type} : DataW H → Nat
  | .lit (.string bytes) => bytes.length + 1
  | .lit _ => 1
  | .nil => 1
  | .ptr d => uptoBulk d + 1
  | .slice elems spare => uptoBulkAll elems + uptoBulkAll spare + 1
  | .agg parts => uptoBulkAll parts + 1
  | .iface _ d => uptoBulk d + 1
  | .map entries => uptoBulkEntries entries + 1
  | .held _ => 1
def uptoBulkAll {H : Type} : List (DataW H) → Nat
  | [] => 0
  | d :: r => uptoBulk d + uptoBulkAll r
def uptoBulkEntries {H : Type} : List (Lit × DataW H) → Nat
  | [] => 0
  | x :: r => uptoBulkEntry x + uptoBulkEntries r
def uptoBulkEntry {H : Type} : Lit × DataW H → Nat
  | (.string bytes, d) => bytes.length + uptoBulk d + 1
  | (_, d) => uptoBulk d + 1
 end
def uptoSmall : (H : Type) → List (DataW H) → Bool := fun _ ds => decide (uptoBulkAll ds ≤ 1048576)
def OpenSpec.upto (s : _root_.Go.ChangeSpec) : _root_.Go.OpenSpec := { _root_.Go.OpenSpec.ofChange s with cond := some uptoSmall }

/-- 'laws.FnArchiveNone', WHERE WHAT IT READS IS OF BULK AT MOST 1048576: true; the input reads as it did. -/
def fnArchiveNoneUptoRow : OpenClaim := { program := "ytmfamcaiimhaeaa", sum := "6273eb491316c06a2392acd1465f504a0b1f05bed8a7dad774835a584f888155", func := "loop.example/compressionlab/laws.FnArchiveNone", spec := "fnArchiveNone", unfollowed := true, recurses := true, apart := false, narrowed := true }
def FnArchiveNoneUptoSaid : Prop := fnArchiveNoneUptoRow.holds Try.pinned (OpenSpec.upto fnArchiveNoneSpec)

/-- 'laws.FnExactSizeBest', WHERE WHAT IT READS IS OF BULK AT MOST 1048576: true; the input reads as it did. -/
def fnExactSizeBestUptoRow : OpenClaim := { program := "ytmfamcaiimhaeaa", sum := "6273eb491316c06a2392acd1465f504a0b1f05bed8a7dad774835a584f888155", func := "loop.example/compressionlab/laws.FnExactSizeBest", spec := "fnExactSizeBest", unfollowed := true, recurses := true, apart := false, narrowed := true }
def FnExactSizeBestUptoSaid : Prop := fnExactSizeBestUptoRow.holds Try.pinned (OpenSpec.upto fnExactSizeBestSpec)

/-- 'laws.FnExactSizeShare', WHERE WHAT IT READS IS OF BULK AT MOST 1048576: true; the input reads as it did. -/
def fnExactSizeShareUptoRow : OpenClaim := { program := "ytmfamcaiimhaeaa", sum := "6273eb491316c06a2392acd1465f504a0b1f05bed8a7dad774835a584f888155", func := "loop.example/compressionlab/laws.FnExactSizeShare", spec := "fnExactSizeShare", unfollowed := true, recurses := true, apart := false, narrowed := true }
def FnExactSizeShareUptoSaid : Prop := fnExactSizeShareUptoRow.holds Try.pinned (OpenSpec.upto fnExactSizeShareSpec)

/-- 'laws.FnExactSizesOf', WHERE WHAT IT READS IS OF BULK AT MOST 1048576: true; the input reads as it did. -/
def fnExactSizesOfUptoRow : OpenClaim := { program := "ytmfamcaiimhaeaa", sum := "6273eb491316c06a2392acd1465f504a0b1f05bed8a7dad774835a584f888155", func := "loop.example/compressionlab/laws.FnExactSizesOf", spec := "fnExactSizesOf", unfollowed := true, recurses := true, apart := false, narrowed := true }
def FnExactSizesOfUptoSaid : Prop := fnExactSizesOfUptoRow.holds Try.pinned (OpenSpec.upto fnExactSizesOfSpec)

/-- 'laws.FnSizeShare', WHERE WHAT IT READS IS OF BULK AT MOST 1048576: true; the input reads as it did. -/
def fnSizeShareUptoRow : OpenClaim := { program := "ytmfamcaiimhaeaa", sum := "6273eb491316c06a2392acd1465f504a0b1f05bed8a7dad774835a584f888155", func := "loop.example/compressionlab/laws.FnSizeShare", spec := "fnSizeShare", unfollowed := true, recurses := true, apart := false, narrowed := true }
def FnSizeShareUptoSaid : Prop := fnSizeShareUptoRow.holds Try.pinned (OpenSpec.upto fnSizeShareSpec)

/-- 'laws.FnSizes', WHERE WHAT IT READS IS OF BULK AT MOST 1048576: true; the input reads as it did. -/
def fnSizesUptoRow : OpenClaim := { program := "ytmfamcaiimhaeaa", sum := "6273eb491316c06a2392acd1465f504a0b1f05bed8a7dad774835a584f888155", func := "loop.example/compressionlab/laws.FnSizes", spec := "fnSizes", unfollowed := true, recurses := true, apart := false, narrowed := true }
def FnSizesUptoSaid : Prop := fnSizesUptoRow.holds Try.pinned (OpenSpec.upto fnSizesSpec)

/-- 'laws.FnSizesKnown', WHERE WHAT IT READS IS OF BULK AT MOST 1048576: true; the input reads as it did. -/
def fnSizesKnownUptoRow : OpenClaim := { program := "ytmfamcaiimhaeaa", sum := "6273eb491316c06a2392acd1465f504a0b1f05bed8a7dad774835a584f888155", func := "loop.example/compressionlab/laws.FnSizesKnown", spec := "fnSizesKnown", unfollowed := true, recurses := true, apart := false, narrowed := true }
def FnSizesKnownUptoSaid : Prop := fnSizesKnownUptoRow.holds Try.pinned (OpenSpec.upto fnSizesKnownSpec)

/-- 'laws.FnSizeBest', WHERE WHAT IT READS IS OF BULK AT MOST 1048576: true; the input reads as it did. -/
def fnSizeBestUptoRow : OpenClaim := { program := "ytmfamcaiimhaeaa", sum := "6273eb491316c06a2392acd1465f504a0b1f05bed8a7dad774835a584f888155", func := "loop.example/compressionlab/laws.FnSizeBest", spec := "fnSizeBest", unfollowed := true, recurses := true, apart := false, narrowed := true }
def FnSizeBestUptoSaid : Prop := fnSizeBestUptoRow.holds Try.pinned (OpenSpec.upto fnSizeBestSpec)

/-- 'laws.FnSizeRun', WHERE WHAT IT READS IS OF BULK AT MOST 1048576: true; the input reads as it did. -/
def fnSizeRunUptoRow : OpenClaim := { program := "ytmfamcaiimhaeaa", sum := "6273eb491316c06a2392acd1465f504a0b1f05bed8a7dad774835a584f888155", func := "loop.example/compressionlab/laws.FnSizeRun", spec := "fnSizeRun", unfollowed := true, recurses := true, apart := false, narrowed := true }
def FnSizeRunUptoSaid : Prop := fnSizeRunUptoRow.holds Try.pinned (OpenSpec.upto fnSizeRunSpec)

/-- 'laws.FnSizesPrefix', WHERE WHAT IT READS IS OF BULK AT MOST 1048576: true; the input reads as it did. -/
def fnSizesPrefixUptoRow : OpenClaim := { program := "ytmfamcaiimhaeaa", sum := "6273eb491316c06a2392acd1465f504a0b1f05bed8a7dad774835a584f888155", func := "loop.example/compressionlab/laws.FnSizesPrefix", spec := "fnSizesPrefix", unfollowed := true, recurses := true, apart := false, narrowed := true }
def FnSizesPrefixUptoSaid : Prop := fnSizesPrefixUptoRow.holds Try.pinned (OpenSpec.upto fnSizesPrefixSpec)

/-- 'laws.FnSizesEmpty', WHERE WHAT IT READS IS OF BULK AT MOST 1048576: true; the input reads as it did. -/
def fnSizesEmptyUptoRow : OpenClaim := { program := "ytmfamcaiimhaeaa", sum := "6273eb491316c06a2392acd1465f504a0b1f05bed8a7dad774835a584f888155", func := "loop.example/compressionlab/laws.FnSizesEmpty", spec := "fnSizesEmpty", unfollowed := true, recurses := true, apart := false, narrowed := true }
def FnSizesEmptyUptoSaid : Prop := fnSizesEmptyUptoRow.holds Try.pinned (OpenSpec.upto fnSizesEmptySpec)

/-- 'laws.FnArchiveIndex', WHERE WHAT IT READS IS OF BULK AT MOST 1048576: true; the input reads as it did. -/
def fnArchiveIndexUptoRow : OpenClaim := { program := "ytmfamcaiimhaeaa", sum := "6273eb491316c06a2392acd1465f504a0b1f05bed8a7dad774835a584f888155", func := "loop.example/compressionlab/laws.FnArchiveIndex", spec := "fnArchiveIndex", unfollowed := true, recurses := true, apart := false, narrowed := true }
def FnArchiveIndexUptoSaid : Prop := fnArchiveIndexUptoRow.holds Try.pinned (OpenSpec.upto fnArchiveIndexSpec)

/-- 'laws.FnExactArchivePack', WHERE WHAT IT READS IS OF BULK AT MOST 1048576: true; the input reads as it did. -/
def fnExactArchivePackUptoRow : OpenClaim := { program := "ytmfamcaiimhaeaa", sum := "6273eb491316c06a2392acd1465f504a0b1f05bed8a7dad774835a584f888155", func := "loop.example/compressionlab/laws.FnExactArchivePack", spec := "fnExactArchivePack", unfollowed := true, recurses := true, apart := false, narrowed := true }
def FnExactArchivePackUptoSaid : Prop := fnExactArchivePackUptoRow.holds Try.pinned (OpenSpec.upto fnExactArchivePackSpec)

/-- 'laws.FnArchiveGet', WHERE WHAT IT READS IS OF BULK AT MOST 1048576: true; the input reads as it did. -/
def fnArchiveGetUptoRow : OpenClaim := { program := "ytmfamcaiimhaeaa", sum := "6273eb491316c06a2392acd1465f504a0b1f05bed8a7dad774835a584f888155", func := "loop.example/compressionlab/laws.FnArchiveGet", spec := "fnArchiveGet", unfollowed := true, recurses := true, apart := false, narrowed := true }
def FnArchiveGetUptoSaid : Prop := fnArchiveGetUptoRow.holds Try.pinned (OpenSpec.upto fnArchiveGetSpec)

/-- 'laws.FnArchive', WHERE WHAT IT READS IS OF BULK AT MOST 1048576: true; the input reads as it did. -/
def fnArchiveUptoRow : OpenClaim := { program := "ytmfamcaiimhaeaa", sum := "6273eb491316c06a2392acd1465f504a0b1f05bed8a7dad774835a584f888155", func := "loop.example/compressionlab/laws.FnArchive", spec := "fnArchive", unfollowed := true, recurses := true, apart := false, narrowed := true }
def FnArchiveUptoSaid : Prop := fnArchiveUptoRow.holds Try.pinned (OpenSpec.upto fnArchiveSpec)

/-- 'laws.FnExactArchiveGet', WHERE WHAT IT READS IS OF BULK AT MOST 1048576: true; the input reads as it did. -/
def fnExactArchiveGetUptoRow : OpenClaim := { program := "ytmfamcaiimhaeaa", sum := "6273eb491316c06a2392acd1465f504a0b1f05bed8a7dad774835a584f888155", func := "loop.example/compressionlab/laws.FnExactArchiveGet", spec := "fnExactArchiveGet", unfollowed := true, recurses := true, apart := false, narrowed := true }
def FnExactArchiveGetUptoSaid : Prop := fnExactArchiveGetUptoRow.holds Try.pinned (OpenSpec.upto fnExactArchiveGetSpec)

/-- 'laws.FnExactArchiveOpen', WHERE WHAT IT READS IS OF BULK AT MOST 1048576: true; the input reads as it did. -/
def fnExactArchiveOpenUptoRow : OpenClaim := { program := "ytmfamcaiimhaeaa", sum := "6273eb491316c06a2392acd1465f504a0b1f05bed8a7dad774835a584f888155", func := "loop.example/compressionlab/laws.FnExactArchiveOpen", spec := "fnExactArchiveOpen", unfollowed := true, recurses := true, apart := false, narrowed := true }
def FnExactArchiveOpenUptoSaid : Prop := fnExactArchiveOpenUptoRow.holds Try.pinned (OpenSpec.upto fnExactArchiveOpenSpec)

/-- 'laws.FnArchiveOpen', WHERE WHAT IT READS IS OF BULK AT MOST 1048576: true; the input reads as it did. -/
def fnArchiveOpenUptoRow : OpenClaim := { program := "ytmfamcaiimhaeaa", sum := "6273eb491316c06a2392acd1465f504a0b1f05bed8a7dad774835a584f888155", func := "loop.example/compressionlab/laws.FnArchiveOpen", spec := "fnArchiveOpen", unfollowed := true, recurses := true, apart := false, narrowed := true }
def FnArchiveOpenUptoSaid : Prop := fnArchiveOpenUptoRow.holds Try.pinned (OpenSpec.upto fnArchiveOpenSpec)

/-- 'laws.FnArchiveTorn', WHERE WHAT IT READS IS OF BULK AT MOST 1048576: true; the input reads as it did. -/
def fnArchiveTornUptoRow : OpenClaim := { program := "ytmfamcaiimhaeaa", sum := "6273eb491316c06a2392acd1465f504a0b1f05bed8a7dad774835a584f888155", func := "loop.example/compressionlab/laws.FnArchiveTorn", spec := "fnArchiveTorn", unfollowed := true, recurses := true, apart := false, narrowed := true }
def FnArchiveTornUptoSaid : Prop := fnArchiveTornUptoRow.holds Try.pinned (OpenSpec.upto fnArchiveTornSpec)

/-- 'laws.FnArchiveGetNone', WHERE WHAT IT READS IS OF BULK AT MOST 1048576: true; the input reads as it did. -/
def fnArchiveGetNoneUptoRow : OpenClaim := { program := "ytmfamcaiimhaeaa", sum := "6273eb491316c06a2392acd1465f504a0b1f05bed8a7dad774835a584f888155", func := "loop.example/compressionlab/laws.FnArchiveGetNone", spec := "fnArchiveGetNone", unfollowed := true, recurses := true, apart := false, narrowed := true }
def FnArchiveGetNoneUptoSaid : Prop := fnArchiveGetNoneUptoRow.holds Try.pinned (OpenSpec.upto fnArchiveGetNoneSpec)

end Rows
end Go.Proofs.Ytmfamcaiimhaeaa
