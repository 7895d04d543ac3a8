/-
  No cell of these rows narrows 'for every input' (looked for: loops, veiled, ifaces, maps, wideKeys, modest, calm, conditions, laid).
  DERIVED. THE GIVEN ROWS OF THIS SEAT. 8 by the template 'for every input the law returns true; each argument reads behind the call as it read before'; 0 by the template 'total and deterministic' (their statements: YtgimfahkojmplaaTotals.lean).
  GIVEN WITH THE SEED: the statements are not yours to turn. If you find one false, say at which input.
  Laid BY PROGRAM, IN A SANDBOX (cutbox-rows.mjs): the forced cells as the released guide's own fill.sh prints them over the translation afbdc593e683b715… (all of the seat's roots in one cut). By AI agents, Wed Nov 11 2026. No macro, syntax, notation, axiom, sorry.
-/
import Derived.Test.YtgimfahkojmplaaChecked
import GoSem.Claim
import GoSem.ClaimJoined
import GoSem.ClaimMapViews
import Derived.JoinedTies
import Derived.KernelRfl
namespace Go.Proofs.Ytgimfahkojmplaa
/- THE CELL 'sum', in the pinned program and in every row, IS THE sha256 OF THE DUMP (.gsa) THAT YtgimfahkojmplaaProg.lean LOADS. Nothing in Lean hashes anything: it is a label: what it is worth is what the hold of that sum in a sandbox is worth. -/
noncomputable def Try.pinned : Pinned := { name := "ytgimfahkojmplaa", sum := "afbdc593e683b7153a39f29bd61a6b9bcb3a5ccc30c5399a61cc69e47253a769", checked := Try.checked }
namespace Rows
def none {H : Type} : Left H := { results := [], args := [] }

/-- 'laws.FnExactStreamFeed': WHATEVER THE INPUT: true; the input reads as it did. -/
def fnExactStreamFeedSpec : ChangeSpec := { name := "fnExactStreamFeed", fn := fun _ => fun
  | [d1, d2] => { results := [.lit (.bool true)], args := [d1, d2] }
  | _ => none }
def fnExactStreamFeedRow : OpenClaim := { program := "ytgimfahkojmplaa", sum := "afbdc593e683b7153a39f29bd61a6b9bcb3a5ccc30c5399a61cc69e47253a769", func := "loop.example/compressionlab/laws.FnExactStreamFeed", spec := "fnExactStreamFeed", unfollowed := true, recurses := true, apart := false }
def FnExactStreamFeedSaid : Prop := fnExactStreamFeedRow.holds Try.pinned (OpenSpec.ofChange fnExactStreamFeedSpec)

/-- ITS FALSE NEIGHBOUR: 'it returns false'. Refute it at one input. -/
def fnExactStreamFeedWrong : ChangeSpec := { name := "fnExactStreamFeed", fn := fun _ => fun
  | [d1, d2] => { results := [.lit (.bool false)], args := [d1, d2] }
  | _ => none }
def FnExactStreamFeedWrongFalsely : Prop := fnExactStreamFeedRow.holds Try.pinned (OpenSpec.ofChange fnExactStreamFeedWrong)

/-- 'laws.FnStreamPart': WHATEVER THE INPUT: true; the input reads as it did. -/
def fnStreamPartSpec : ChangeSpec := { name := "fnStreamPart", fn := fun _ => fun
  | [d] => { results := [.lit (.bool true)], args := [d] }
  | _ => none }
def fnStreamPartRow : OpenClaim := { program := "ytgimfahkojmplaa", sum := "afbdc593e683b7153a39f29bd61a6b9bcb3a5ccc30c5399a61cc69e47253a769", func := "loop.example/compressionlab/laws.FnStreamPart", spec := "fnStreamPart", unfollowed := true, recurses := true, apart := false }
def FnStreamPartSaid : Prop := fnStreamPartRow.holds Try.pinned (OpenSpec.ofChange fnStreamPartSpec)

/-- ITS FALSE NEIGHBOUR: 'it returns false'. Refute it at one input. -/
def fnStreamPartWrong : ChangeSpec := { name := "fnStreamPart", fn := fun _ => fun
  | [d] => { results := [.lit (.bool false)], args := [d] }
  | _ => none }
def FnStreamPartWrongFalsely : Prop := fnStreamPartRow.holds Try.pinned (OpenSpec.ofChange fnStreamPartWrong)

/-- 'laws.FnEnd': WHATEVER THE INPUT: true; the input reads as it did. -/
def fnEndSpec : ChangeSpec := { name := "fnEnd", fn := fun _ => fun
  | [d] => { results := [.lit (.bool true)], args := [d] }
  | _ => none }
def fnEndRow : OpenClaim := { program := "ytgimfahkojmplaa", sum := "afbdc593e683b7153a39f29bd61a6b9bcb3a5ccc30c5399a61cc69e47253a769", func := "loop.example/compressionlab/laws.FnEnd", spec := "fnEnd", unfollowed := true, recurses := true, apart := false }
def FnEndSaid : Prop := fnEndRow.holds Try.pinned (OpenSpec.ofChange fnEndSpec)

/-- ITS FALSE NEIGHBOUR: 'it returns false'. Refute it at one input. -/
def fnEndWrong : ChangeSpec := { name := "fnEnd", fn := fun _ => fun
  | [d] => { results := [.lit (.bool false)], args := [d] }
  | _ => none }
def FnEndWrongFalsely : Prop := fnEndRow.holds Try.pinned (OpenSpec.ofChange fnEndWrong)

/-- 'laws.FnStreamStart': WHATEVER THE INPUT: true; the input reads as it did. -/
def fnStreamStartSpec : ChangeSpec := { name := "fnStreamStart", fn := fun _ => fun
  | [d] => { results := [.lit (.bool true)], args := [d] }
  | _ => none }
def fnStreamStartRow : OpenClaim := { program := "ytgimfahkojmplaa", sum := "afbdc593e683b7153a39f29bd61a6b9bcb3a5ccc30c5399a61cc69e47253a769", func := "loop.example/compressionlab/laws.FnStreamStart", spec := "fnStreamStart", unfollowed := true, recurses := true, apart := false }
def FnStreamStartSaid : Prop := fnStreamStartRow.holds Try.pinned (OpenSpec.ofChange fnStreamStartSpec)

/-- ITS FALSE NEIGHBOUR: 'it returns false'. Refute it at one input. -/
def fnStreamStartWrong : ChangeSpec := { name := "fnStreamStart", fn := fun _ => fun
  | [d] => { results := [.lit (.bool false)], args := [d] }
  | _ => none }
def FnStreamStartWrongFalsely : Prop := fnStreamStartRow.holds Try.pinned (OpenSpec.ofChange fnStreamStartWrong)

/-- 'laws.FnFeed': WHATEVER THE INPUT: true; the input reads as it did. -/
def fnFeedSpec : ChangeSpec := { name := "fnFeed", fn := fun _ => fun
  | [d1, d2] => { results := [.lit (.bool true)], args := [d1, d2] }
  | _ => none }
def fnFeedRow : OpenClaim := { program := "ytgimfahkojmplaa", sum := "afbdc593e683b7153a39f29bd61a6b9bcb3a5ccc30c5399a61cc69e47253a769", func := "loop.example/compressionlab/laws.FnFeed", spec := "fnFeed", unfollowed := true, recurses := true, apart := false }
def FnFeedSaid : Prop := fnFeedRow.holds Try.pinned (OpenSpec.ofChange fnFeedSpec)

/-- ITS FALSE NEIGHBOUR: 'it returns false'. Refute it at one input. -/
def fnFeedWrong : ChangeSpec := { name := "fnFeed", fn := fun _ => fun
  | [d1, d2] => { results := [.lit (.bool false)], args := [d1, d2] }
  | _ => none }
def FnFeedWrongFalsely : Prop := fnFeedRow.holds Try.pinned (OpenSpec.ofChange fnFeedWrong)

/-- 'laws.FnFeedBad': WHATEVER THE INPUT: true; the input reads as it did. -/
def fnFeedBadSpec : ChangeSpec := { name := "fnFeedBad", fn := fun _ => fun
  | [d] => { results := [.lit (.bool true)], args := [d] }
  | _ => none }
def fnFeedBadRow : OpenClaim := { program := "ytgimfahkojmplaa", sum := "afbdc593e683b7153a39f29bd61a6b9bcb3a5ccc30c5399a61cc69e47253a769", func := "loop.example/compressionlab/laws.FnFeedBad", spec := "fnFeedBad", unfollowed := true, recurses := true, apart := false }
def FnFeedBadSaid : Prop := fnFeedBadRow.holds Try.pinned (OpenSpec.ofChange fnFeedBadSpec)

/-- ITS FALSE NEIGHBOUR: 'it returns false'. Refute it at one input. -/
def fnFeedBadWrong : ChangeSpec := { name := "fnFeedBad", fn := fun _ => fun
  | [d] => { results := [.lit (.bool false)], args := [d] }
  | _ => none }
def FnFeedBadWrongFalsely : Prop := fnFeedBadRow.holds Try.pinned (OpenSpec.ofChange fnFeedBadWrong)

/-- 'laws.FnFeedNone': WHATEVER THE INPUT: true; the input reads as it did. -/
def fnFeedNoneSpec : ChangeSpec := { name := "fnFeedNone", fn := fun _ => fun
  | [d] => { results := [.lit (.bool true)], args := [d] }
  | _ => none }
def fnFeedNoneRow : OpenClaim := { program := "ytgimfahkojmplaa", sum := "afbdc593e683b7153a39f29bd61a6b9bcb3a5ccc30c5399a61cc69e47253a769", func := "loop.example/compressionlab/laws.FnFeedNone", spec := "fnFeedNone", unfollowed := true, recurses := true, apart := false }
def FnFeedNoneSaid : Prop := fnFeedNoneRow.holds Try.pinned (OpenSpec.ofChange fnFeedNoneSpec)

/-- ITS FALSE NEIGHBOUR: 'it returns false'. Refute it at one input. -/
def fnFeedNoneWrong : ChangeSpec := { name := "fnFeedNone", fn := fun _ => fun
  | [d] => { results := [.lit (.bool false)], args := [d] }
  | _ => none }
def FnFeedNoneWrongFalsely : Prop := fnFeedNoneRow.holds Try.pinned (OpenSpec.ofChange fnFeedNoneWrong)

/-- 'laws.FnFeedValid': WHATEVER THE INPUT: true; the input reads as it did. -/
def fnFeedValidSpec : ChangeSpec := { name := "fnFeedValid", fn := fun _ => fun
  | [d] => { results := [.lit (.bool true)], args := [d] }
  | _ => none }
def fnFeedValidRow : OpenClaim := { program := "ytgimfahkojmplaa", sum := "afbdc593e683b7153a39f29bd61a6b9bcb3a5ccc30c5399a61cc69e47253a769", func := "loop.example/compressionlab/laws.FnFeedValid", spec := "fnFeedValid", unfollowed := true, recurses := true, apart := false }
def FnFeedValidSaid : Prop := fnFeedValidRow.holds Try.pinned (OpenSpec.ofChange fnFeedValidSpec)

/-- ITS FALSE NEIGHBOUR: 'it returns false'. Refute it at one input. -/
def fnFeedValidWrong : ChangeSpec := { name := "fnFeedValid", fn := fun _ => fun
  | [d] => { results := [.lit (.bool false)], args := [d] }
  | _ => none }
def FnFeedValidWrongFalsely : Prop := fnFeedValidRow.holds Try.pinned (OpenSpec.ofChange fnFeedValidWrong)

/- THE SECOND FORM. 'bulk': how many values and letters a reading holds, each counted each time it is reached (what is shared counts as often as it is met; a slice's spare places count too). A statement '..UptoSaid' is the law's where the arguments, and the package variables that the reading takes, are together of bulk at most 1048576: NARROWER than '..Said'. Prove '..Said' where nothing that the law and all that it calls make is longer than what came in: it says more and counts as full. Else prove '..UptoSaid'. A law counts once. -/
mutual
def uptoBulk {H : Type} : DataW H → Nat
  | .lit (.string bytes) => bytes.length + 1
  | .lit _ => 1
  | .nil => 1
  | .ptr d => uptoBulk d + 1
  | .slice elems spare => uptoBulkAll elems + uptoBulkAll spare + 1
  | .agg parts => uptoBulkAll parts + 1
  | .iface _ d => uptoBulk d + 1
  | .map entries => uptoBulkEntries entries + 1
  | .held _ => 1
def uptoBulkAll {H : Type} : List (DataW H) → Nat
  | [] => 0
  | d :: r => uptoBulk d + uptoBulkAll r
def uptoBulkEntries {H : Type} : List (Lit × DataW H) → Nat
  | [] => 0
  | x :: r => uptoBulkEntry x + uptoBulkEntries r
def uptoBulkEntry {H : Type} : Lit × DataW H → Nat
  | (.string bytes, d) => bytes.length + uptoBulk d + 1
  | (_, d) => uptoBulk d + 1
 end
def uptoSmall : (H : Type) → List (DataW H) → Bool := fun _ ds => decide (uptoBulkAll ds ≤ 1048576)
def OpenSpec.upto (s : _root_.Go.ChangeSpec) : _root_.Go.OpenSpec := { _root_.Go.OpenSpec.ofChange s with cond := some uptoSmall }

/-- 'laws.FnExactStreamFeed', WHERE WHAT IT READS IS OF BULK AT MOST 1048576: true; the input reads as it did. -/
def fnExactStreamFeedUptoRow : OpenClaim := { program := "ytgimfahkojmplaa", sum := "afbdc593e683b7153a39f29bd61a6b9bcb3a5ccc30c5399a61cc69e47253a769", func := "loop.example/compressionlab/laws.FnExactStreamFeed", spec := "fnExactStreamFeed", unfollowed := true, recurses := true, apart := false, narrowed := true }
def FnExactStreamFeedUptoSaid : Prop := fnExactStreamFeedUptoRow.holds Try.pinned (OpenSpec.upto fnExactStreamFeedSpec)

/-- 'laws.FnStreamPart', WHERE WHAT IT READS IS OF BULK AT MOST 1048576: true; the input reads as it did. -/
def fnStreamPartUptoRow : OpenClaim := { program := "ytgimfahkojmplaa", sum := "afbdc593e683b7153a39f29bd61a6b9bcb3a5ccc30c5399a61cc69e47253a769", func := "loop.example/compressionlab/laws.FnStreamPart", spec := "fnStreamPart", unfollowed := true, recurses := true, apart := false, narrowed := true }
def FnStreamPartUptoSaid : Prop := fnStreamPartUptoRow.holds Try.pinned (OpenSpec.upto fnStreamPartSpec)

/-- 'laws.FnEnd', WHERE WHAT IT READS IS OF BULK AT MOST 1048576: true; the input reads as it did. -/
def fnEndUptoRow : OpenClaim := { program := "ytgimfahkojmplaa", sum := "afbdc593e683b7153a39f29bd61a6b9bcb3a5ccc30c5399a61cc69e47253a769", func := "loop.example/compressionlab/laws.FnEnd", spec := "fnEnd", unfollowed := true, recurses := true, apart := false, narrowed := true }
def FnEndUptoSaid : Prop := fnEndUptoRow.holds Try.pinned (OpenSpec.upto fnEndSpec)

/-- 'laws.FnStreamStart', WHERE WHAT IT READS IS OF BULK AT MOST 1048576: true; the input reads as it did. -/
def fnStreamStartUptoRow : OpenClaim := { program := "ytgimfahkojmplaa", sum := "afbdc593e683b7153a39f29bd61a6b9bcb3a5ccc30c5399a61cc69e47253a769", func := "loop.example/compressionlab/laws.FnStreamStart", spec := "fnStreamStart", unfollowed := true, recurses := true, apart := false, narrowed := true }
def FnStreamStartUptoSaid : Prop := fnStreamStartUptoRow.holds Try.pinned (OpenSpec.upto fnStreamStartSpec)

/-- 'laws.FnFeed', WHERE WHAT IT READS IS OF BULK AT MOST 1048576: true; the input reads as it did. -/
def fnFeedUptoRow : OpenClaim := { program := "ytgimfahkojmplaa", sum := "afbdc593e683b7153a39f29bd61a6b9bcb3a5ccc30c5399a61cc69e47253a769", func := "loop.example/compressionlab/laws.FnFeed", spec := "fnFeed", unfollowed := true, recurses := true, apart := false, narrowed := true }
def FnFeedUptoSaid : Prop := fnFeedUptoRow.holds Try.pinned (OpenSpec.upto fnFeedSpec)

/-- 'laws.FnFeedBad', WHERE WHAT IT READS IS OF BULK AT MOST 1048576: true; the input reads as it did. -/
def fnFeedBadUptoRow : OpenClaim := { program := "ytgimfahkojmplaa", sum := "afbdc593e683b7153a39f29bd61a6b9bcb3a5ccc30c5399a61cc69e47253a769", func := "loop.example/compressionlab/laws.FnFeedBad", spec := "fnFeedBad", unfollowed := true, recurses := true, apart := false, narrowed := true }
def FnFeedBadUptoSaid : Prop := fnFeedBadUptoRow.holds Try.pinned (OpenSpec.upto fnFeedBadSpec)

/-- 'laws.FnFeedNone', WHERE WHAT IT READS IS OF BULK AT MOST 1048576: true; the input reads as it did. -/
def fnFeedNoneUptoRow : OpenClaim := { program := "ytgimfahkojmplaa", sum := "afbdc593e683b7153a39f29bd61a6b9bcb3a5ccc30c5399a61cc69e47253a769", func := "loop.example/compressionlab/laws.FnFeedNone", spec := "fnFeedNone", unfollowed := true, recurses := true, apart := false, narrowed := true }
def FnFeedNoneUptoSaid : Prop := fnFeedNoneUptoRow.holds Try.pinned (OpenSpec.upto fnFeedNoneSpec)

/-- 'laws.FnFeedValid', WHERE WHAT IT READS IS OF BULK AT MOST 1048576: true; the input reads as it did. -/
def fnFeedValidUptoRow : OpenClaim := { program := "ytgimfahkojmplaa", sum := "afbdc593e683b7153a39f29bd61a6b9bcb3a5ccc30c5399a61cc69e47253a769", func := "loop.example/compressionlab/laws.FnFeedValid", spec := "fnFeedValid", unfollowed := true, recurses := true, apart := false, narrowed := true }
def FnFeedValidUptoSaid : Prop := fnFeedValidUptoRow.holds Try.pinned (OpenSpec.upto fnFeedValidSpec)

end Rows
end Go.Proofs.Ytgimfahkojmplaa
