/-
  No cell of these rows narrows 'for every input' (looked for: loops, veiled, ifaces, maps, wideKeys, modest, calm, conditions, laid).
  DERIVED. THE GIVEN ROWS OF THIS SEAT. 12 by the template 'for every input the law returns true; each argument reads behind the call as it read before'; 0 by the template 'total and deterministic' (their statements: YtmbpdaffnabjcaaGreatTotals.lean).
  GIVEN WITH THE SEED: the statements are not yours to turn. If you find one false, say at which input.
  Laid BY PROGRAM, IN A SANDBOX (cutbox-rows.mjs): the forced cells as the released guide's own fill.sh prints them over the translation 879debde432129f6… (all of the seat's roots in one cut). By AI agents, Wed Nov 11 2026. No macro, syntax, notation, axiom, sorry.
-/
import Derived.Test.YtmbpdaffnabjcaaGreatChecked
import GoSem.Claim
import GoSem.ClaimJoined
import GoSem.ClaimMapViews
import Derived.JoinedTies
import Derived.KernelRfl
namespace Go.Proofs.YtmbpdaffnabjcaaGreat
/- THE CELL 'sum', in the pinned program and in every row, IS THE sha256 OF THE DUMP (.gsa) THAT YtmbpdaffnabjcaaGreatProg.lean LOADS. Nothing in Lean hashes anything: it is a label: what it is worth is what the hold of that sum in a sandbox is worth. -/
noncomputable def Tryz.pinned : Pinned := { name := "ytmbpdaffnabjcaagreat", sum := "879debde432129f6b7a42909d4ae75914d3a78fa10e1b5ffb640cd3e26688ac1", checked := Tryz.checked }
namespace Rows
def none {H : Type} : Left H := { results := [], args := [] }

/-- 'laws.FnClash': WHATEVER THE INPUT: true; the input reads as it did. -/
def fnClashSpec : ChangeSpec := { name := "fnClash", fn := fun _ => fun
  | [d] => { results := [.lit (.bool true)], args := [d] }
  | _ => none }
def fnClashRow : OpenClaim := { program := "ytmbpdaffnabjcaagreat", sum := "879debde432129f6b7a42909d4ae75914d3a78fa10e1b5ffb640cd3e26688ac1", func := "loop.example/g00790/laws.FnClash", spec := "fnClash", recurses := true, apart := false }
def FnClashSaid : Prop := fnClashRow.holds Tryz.pinned (OpenSpec.ofChange fnClashSpec)

/-- ITS FALSE NEIGHBOUR: 'it returns false'. Refute it at one input. -/
def fnClashWrong : ChangeSpec := { name := "fnClash", fn := fun _ => fun
  | [d] => { results := [.lit (.bool false)], args := [d] }
  | _ => none }
def FnClashWrongFalsely : Prop := fnClashRow.holds Tryz.pinned (OpenSpec.ofChange fnClashWrong)

/-- 'laws.FnParts': WHATEVER THE INPUT: true; the input reads as it did. -/
def fnPartsSpec : ChangeSpec := { name := "fnParts", fn := fun _ => fun
  | [d] => { results := [.lit (.bool true)], args := [d] }
  | _ => none }
def fnPartsRow : OpenClaim := { program := "ytmbpdaffnabjcaagreat", sum := "879debde432129f6b7a42909d4ae75914d3a78fa10e1b5ffb640cd3e26688ac1", func := "loop.example/g00790/laws.FnParts", spec := "fnParts", unfollowed := true, recurses := true, apart := false }
def FnPartsSaid : Prop := fnPartsRow.holds Tryz.pinned (OpenSpec.ofChange fnPartsSpec)

/-- ITS FALSE NEIGHBOUR: 'it returns false'. Refute it at one input. -/
def fnPartsWrong : ChangeSpec := { name := "fnParts", fn := fun _ => fun
  | [d] => { results := [.lit (.bool false)], args := [d] }
  | _ => none }
def FnPartsWrongFalsely : Prop := fnPartsRow.holds Tryz.pinned (OpenSpec.ofChange fnPartsWrong)

/-- 'laws.FnChunk': WHATEVER THE INPUT: true; the input reads as it did. -/
def fnChunkSpec : ChangeSpec := { name := "fnChunk", fn := fun _ => fun
  | [d] => { results := [.lit (.bool true)], args := [d] }
  | _ => none }
def fnChunkRow : OpenClaim := { program := "ytmbpdaffnabjcaagreat", sum := "879debde432129f6b7a42909d4ae75914d3a78fa10e1b5ffb640cd3e26688ac1", func := "loop.example/g00790/laws.FnChunk", spec := "fnChunk", unfollowed := true, recurses := true, apart := false }
def FnChunkSaid : Prop := fnChunkRow.holds Tryz.pinned (OpenSpec.ofChange fnChunkSpec)

/-- ITS FALSE NEIGHBOUR: 'it returns false'. Refute it at one input. -/
def fnChunkWrong : ChangeSpec := { name := "fnChunk", fn := fun _ => fun
  | [d] => { results := [.lit (.bool false)], args := [d] }
  | _ => none }
def FnChunkWrongFalsely : Prop := fnChunkRow.holds Tryz.pinned (OpenSpec.ofChange fnChunkWrong)

/-- 'laws.FnDecode': WHATEVER THE INPUT: true; the input reads as it did. -/
def fnDecodeSpec : ChangeSpec := { name := "fnDecode", fn := fun _ => fun
  | [d] => { results := [.lit (.bool true)], args := [d] }
  | _ => none }
def fnDecodeRow : OpenClaim := { program := "ytmbpdaffnabjcaagreat", sum := "879debde432129f6b7a42909d4ae75914d3a78fa10e1b5ffb640cd3e26688ac1", func := "loop.example/g00790/laws.FnDecode", spec := "fnDecode", unfollowed := true, recurses := true, apart := false }
def FnDecodeSaid : Prop := fnDecodeRow.holds Tryz.pinned (OpenSpec.ofChange fnDecodeSpec)

/-- ITS FALSE NEIGHBOUR: 'it returns false'. Refute it at one input. -/
def fnDecodeWrong : ChangeSpec := { name := "fnDecode", fn := fun _ => fun
  | [d] => { results := [.lit (.bool false)], args := [d] }
  | _ => none }
def FnDecodeWrongFalsely : Prop := fnDecodeRow.holds Tryz.pinned (OpenSpec.ofChange fnDecodeWrong)

/-- 'laws.FnStrict': WHATEVER THE INPUT: true; the input reads as it did. -/
def fnStrictSpec : ChangeSpec := { name := "fnStrict", fn := fun _ => fun
  | [d] => { results := [.lit (.bool true)], args := [d] }
  | _ => none }
def fnStrictRow : OpenClaim := { program := "ytmbpdaffnabjcaagreat", sum := "879debde432129f6b7a42909d4ae75914d3a78fa10e1b5ffb640cd3e26688ac1", func := "loop.example/g00790/laws.FnStrict", spec := "fnStrict", unfollowed := true, recurses := true, apart := false }
def FnStrictSaid : Prop := fnStrictRow.holds Tryz.pinned (OpenSpec.ofChange fnStrictSpec)

/-- ITS FALSE NEIGHBOUR: 'it returns false'. Refute it at one input. -/
def fnStrictWrong : ChangeSpec := { name := "fnStrict", fn := fun _ => fun
  | [d] => { results := [.lit (.bool false)], args := [d] }
  | _ => none }
def FnStrictWrongFalsely : Prop := fnStrictRow.holds Tryz.pinned (OpenSpec.ofChange fnStrictWrong)

/-- 'laws.FnExactMsgOk': WHATEVER THE INPUT: true; the input reads as it did. -/
def fnExactMsgOkSpec : ChangeSpec := { name := "fnExactMsgOk", fn := fun _ => fun
  | [d1, d2] => { results := [.lit (.bool true)], args := [d1, d2] }
  | _ => none }
def fnExactMsgOkRow : OpenClaim := { program := "ytmbpdaffnabjcaagreat", sum := "879debde432129f6b7a42909d4ae75914d3a78fa10e1b5ffb640cd3e26688ac1", func := "loop.example/g00790/laws.FnExactMsgOk", spec := "fnExactMsgOk", recurses := true, apart := false }
def FnExactMsgOkSaid : Prop := fnExactMsgOkRow.holds Tryz.pinned (OpenSpec.ofChange fnExactMsgOkSpec)

/-- ITS FALSE NEIGHBOUR: 'it returns false'. Refute it at one input. -/
def fnExactMsgOkWrong : ChangeSpec := { name := "fnExactMsgOk", fn := fun _ => fun
  | [d1, d2] => { results := [.lit (.bool false)], args := [d1, d2] }
  | _ => none }
def FnExactMsgOkWrongFalsely : Prop := fnExactMsgOkRow.holds Tryz.pinned (OpenSpec.ofChange fnExactMsgOkWrong)

/-- 'laws.FnExactMsgSize': WHATEVER THE INPUT: true; the input reads as it did. -/
def fnExactMsgSizeSpec : ChangeSpec := { name := "fnExactMsgSize", fn := fun _ => fun
  | [d1, d2] => { results := [.lit (.bool true)], args := [d1, d2] }
  | _ => none }
def fnExactMsgSizeRow : OpenClaim := { program := "ytmbpdaffnabjcaagreat", sum := "879debde432129f6b7a42909d4ae75914d3a78fa10e1b5ffb640cd3e26688ac1", func := "loop.example/g00790/laws.FnExactMsgSize", spec := "fnExactMsgSize", recurses := true, apart := false }
def FnExactMsgSizeSaid : Prop := fnExactMsgSizeRow.holds Tryz.pinned (OpenSpec.ofChange fnExactMsgSizeSpec)

/-- ITS FALSE NEIGHBOUR: 'it returns false'. Refute it at one input. -/
def fnExactMsgSizeWrong : ChangeSpec := { name := "fnExactMsgSize", fn := fun _ => fun
  | [d1, d2] => { results := [.lit (.bool false)], args := [d1, d2] }
  | _ => none }
def FnExactMsgSizeWrongFalsely : Prop := fnExactMsgSizeRow.holds Tryz.pinned (OpenSpec.ofChange fnExactMsgSizeWrong)

/-- 'laws.FnGarbage': WHATEVER THE INPUT: true; the input reads as it did. -/
def fnGarbageSpec : ChangeSpec := { name := "fnGarbage", fn := fun _ => fun
  | [d] => { results := [.lit (.bool true)], args := [d] }
  | _ => none }
def fnGarbageRow : OpenClaim := { program := "ytmbpdaffnabjcaagreat", sum := "879debde432129f6b7a42909d4ae75914d3a78fa10e1b5ffb640cd3e26688ac1", func := "loop.example/g00790/laws.FnGarbage", spec := "fnGarbage", unfollowed := true, recurses := true, apart := false }
def FnGarbageSaid : Prop := fnGarbageRow.holds Tryz.pinned (OpenSpec.ofChange fnGarbageSpec)

/-- ITS FALSE NEIGHBOUR: 'it returns false'. Refute it at one input. -/
def fnGarbageWrong : ChangeSpec := { name := "fnGarbage", fn := fun _ => fun
  | [d] => { results := [.lit (.bool false)], args := [d] }
  | _ => none }
def FnGarbageWrongFalsely : Prop := fnGarbageRow.holds Tryz.pinned (OpenSpec.ofChange fnGarbageWrong)

/-- 'laws.FnExactEncode': WHATEVER THE INPUT: true; the input reads as it did. -/
def fnExactEncodeSpec : ChangeSpec := { name := "fnExactEncode", fn := fun _ => fun
  | [d1, d2] => { results := [.lit (.bool true)], args := [d1, d2] }
  | _ => none }
def fnExactEncodeRow : OpenClaim := { program := "ytmbpdaffnabjcaagreat", sum := "879debde432129f6b7a42909d4ae75914d3a78fa10e1b5ffb640cd3e26688ac1", func := "loop.example/g00790/laws.FnExactEncode", spec := "fnExactEncode", recurses := true, apart := false }
def FnExactEncodeSaid : Prop := fnExactEncodeRow.holds Tryz.pinned (OpenSpec.ofChange fnExactEncodeSpec)

/-- ITS FALSE NEIGHBOUR: 'it returns false'. Refute it at one input. -/
def fnExactEncodeWrong : ChangeSpec := { name := "fnExactEncode", fn := fun _ => fun
  | [d1, d2] => { results := [.lit (.bool false)], args := [d1, d2] }
  | _ => none }
def FnExactEncodeWrongFalsely : Prop := fnExactEncodeRow.holds Tryz.pinned (OpenSpec.ofChange fnExactEncodeWrong)

/-- 'laws.FnFrames': WHATEVER THE INPUT: true; the input reads as it did. -/
def fnFramesSpec : ChangeSpec := { name := "fnFrames", fn := fun _ => fun
  | [d] => { results := [.lit (.bool true)], args := [d] }
  | _ => none }
def fnFramesRow : OpenClaim := { program := "ytmbpdaffnabjcaagreat", sum := "879debde432129f6b7a42909d4ae75914d3a78fa10e1b5ffb640cd3e26688ac1", func := "loop.example/g00790/laws.FnFrames", spec := "fnFrames", unfollowed := true, recurses := true, apart := false }
def FnFramesSaid : Prop := fnFramesRow.holds Tryz.pinned (OpenSpec.ofChange fnFramesSpec)

/-- ITS FALSE NEIGHBOUR: 'it returns false'. Refute it at one input. -/
def fnFramesWrong : ChangeSpec := { name := "fnFrames", fn := fun _ => fun
  | [d] => { results := [.lit (.bool false)], args := [d] }
  | _ => none }
def FnFramesWrongFalsely : Prop := fnFramesRow.holds Tryz.pinned (OpenSpec.ofChange fnFramesWrong)

/-- 'laws.FnSkip': WHATEVER THE INPUT: true; the input reads as it did. -/
def fnSkipSpec : ChangeSpec := { name := "fnSkip", fn := fun _ => fun
  | [d] => { results := [.lit (.bool true)], args := [d] }
  | _ => none }
def fnSkipRow : OpenClaim := { program := "ytmbpdaffnabjcaagreat", sum := "879debde432129f6b7a42909d4ae75914d3a78fa10e1b5ffb640cd3e26688ac1", func := "loop.example/g00790/laws.FnSkip", spec := "fnSkip", unfollowed := true, recurses := true, apart := false }
def FnSkipSaid : Prop := fnSkipRow.holds Tryz.pinned (OpenSpec.ofChange fnSkipSpec)

/-- ITS FALSE NEIGHBOUR: 'it returns false'. Refute it at one input. -/
def fnSkipWrong : ChangeSpec := { name := "fnSkip", fn := fun _ => fun
  | [d] => { results := [.lit (.bool false)], args := [d] }
  | _ => none }
def FnSkipWrongFalsely : Prop := fnSkipRow.holds Tryz.pinned (OpenSpec.ofChange fnSkipWrong)

/-- 'laws.FnExactFrames': WHATEVER THE INPUT: true; the input reads as it did. -/
def fnExactFramesSpec : ChangeSpec := { name := "fnExactFrames", fn := fun _ => fun
  | [d1, d2] => { results := [.lit (.bool true)], args := [d1, d2] }
  | _ => none }
def fnExactFramesRow : OpenClaim := { program := "ytmbpdaffnabjcaagreat", sum := "879debde432129f6b7a42909d4ae75914d3a78fa10e1b5ffb640cd3e26688ac1", func := "loop.example/g00790/laws.FnExactFrames", spec := "fnExactFrames", recurses := true, apart := false }
def FnExactFramesSaid : Prop := fnExactFramesRow.holds Tryz.pinned (OpenSpec.ofChange fnExactFramesSpec)

/-- ITS FALSE NEIGHBOUR: 'it returns false'. Refute it at one input. -/
def fnExactFramesWrong : ChangeSpec := { name := "fnExactFrames", fn := fun _ => fun
  | [d1, d2] => { results := [.lit (.bool false)], args := [d1, d2] }
  | _ => none }
def FnExactFramesWrongFalsely : Prop := fnExactFramesRow.holds Tryz.pinned (OpenSpec.ofChange fnExactFramesWrong)

/- THE SECOND FORM. 'bulk': how many values and letters a reading holds, each counted each time it is reached (what is shared counts as often as it is met; a slice's spare places count too). A statement '..UptoSaid' is the law's where the arguments, and the package variables that the reading takes, are together of bulk at most 1048576: NARROWER than '..Said'. Prove '..Said' where nothing that the law and all that it calls make is longer than what came in: it says more and counts as full. Else prove '..UptoSaid'. A law counts once. -/
mutual
def uptoBulk {H : Type} : DataW H → Nat
  | .lit (.string bytes) => bytes.length + 1
  | .lit _ => 1
  | .nil => 1
  | .ptr d => uptoBulk d + 1
  | .slice elems spare => uptoBulkAll elems + uptoBulkAll spare + 1
  | .agg parts => uptoBulkAll parts + 1
  | .iface _ d => uptoBulk d + 1
  | .map entries => uptoBulkEntries entries + 1
  | .held _ => 1
def uptoBulkAll {H : Type} : List (DataW H) → Nat
  | [] => 0
  | d :: r => uptoBulk d + uptoBulkAll r
def uptoBulkEntries {H : Type} : List (Lit × DataW H) → Nat
  | [] => 0
  | x :: r => uptoBulkEntry x + uptoBulkEntries r
def uptoBulkEntry {H : Type} : Lit × DataW H → Nat
  | (.string bytes, d) => bytes.length + uptoBulk d + 1
  | (_, d) => uptoBulk d + 1
 end
def uptoSmall : (H : Type) → List (DataW H) → Bool := fun _ ds => decide (uptoBulkAll ds ≤ 1048576)
def OpenSpec.upto (s : _root_.Go.ChangeSpec) : _root_.Go.OpenSpec := { _root_.Go.OpenSpec.ofChange s with cond := some uptoSmall }

/-- 'laws.FnClash', WHERE WHAT IT READS IS OF BULK AT MOST 1048576: true; the input reads as it did. -/
def fnClashUptoRow : OpenClaim := { program := "ytmbpdaffnabjcaagreat", sum := "879debde432129f6b7a42909d4ae75914d3a78fa10e1b5ffb640cd3e26688ac1", func := "loop.example/g00790/laws.FnClash", spec := "fnClash", recurses := true, apart := false, narrowed := true }
def FnClashUptoSaid : Prop := fnClashUptoRow.holds Tryz.pinned (OpenSpec.upto fnClashSpec)

/-- 'laws.FnParts', WHERE WHAT IT READS IS OF BULK AT MOST 1048576: true; the input reads as it did. -/
def fnPartsUptoRow : OpenClaim := { program := "ytmbpdaffnabjcaagreat", sum := "879debde432129f6b7a42909d4ae75914d3a78fa10e1b5ffb640cd3e26688ac1", func := "loop.example/g00790/laws.FnParts", spec := "fnParts", unfollowed := true, recurses := true, apart := false, narrowed := true }
def FnPartsUptoSaid : Prop := fnPartsUptoRow.holds Tryz.pinned (OpenSpec.upto fnPartsSpec)

/-- 'laws.FnChunk', WHERE WHAT IT READS IS OF BULK AT MOST 1048576: true; the input reads as it did. -/
def fnChunkUptoRow : OpenClaim := { program := "ytmbpdaffnabjcaagreat", sum := "879debde432129f6b7a42909d4ae75914d3a78fa10e1b5ffb640cd3e26688ac1", func := "loop.example/g00790/laws.FnChunk", spec := "fnChunk", unfollowed := true, recurses := true, apart := false, narrowed := true }
def FnChunkUptoSaid : Prop := fnChunkUptoRow.holds Tryz.pinned (OpenSpec.upto fnChunkSpec)

/-- 'laws.FnDecode', WHERE WHAT IT READS IS OF BULK AT MOST 1048576: true; the input reads as it did. -/
def fnDecodeUptoRow : OpenClaim := { program := "ytmbpdaffnabjcaagreat", sum := "879debde432129f6b7a42909d4ae75914d3a78fa10e1b5ffb640cd3e26688ac1", func := "loop.example/g00790/laws.FnDecode", spec := "fnDecode", unfollowed := true, recurses := true, apart := false, narrowed := true }
def FnDecodeUptoSaid : Prop := fnDecodeUptoRow.holds Tryz.pinned (OpenSpec.upto fnDecodeSpec)

/-- 'laws.FnStrict', WHERE WHAT IT READS IS OF BULK AT MOST 1048576: true; the input reads as it did. -/
def fnStrictUptoRow : OpenClaim := { program := "ytmbpdaffnabjcaagreat", sum := "879debde432129f6b7a42909d4ae75914d3a78fa10e1b5ffb640cd3e26688ac1", func := "loop.example/g00790/laws.FnStrict", spec := "fnStrict", unfollowed := true, recurses := true, apart := false, narrowed := true }
def FnStrictUptoSaid : Prop := fnStrictUptoRow.holds Tryz.pinned (OpenSpec.upto fnStrictSpec)

/-- 'laws.FnExactMsgOk', WHERE WHAT IT READS IS OF BULK AT MOST 1048576: true; the input reads as it did. -/
def fnExactMsgOkUptoRow : OpenClaim := { program := "ytmbpdaffnabjcaagreat", sum := "879debde432129f6b7a42909d4ae75914d3a78fa10e1b5ffb640cd3e26688ac1", func := "loop.example/g00790/laws.FnExactMsgOk", spec := "fnExactMsgOk", recurses := true, apart := false, narrowed := true }
def FnExactMsgOkUptoSaid : Prop := fnExactMsgOkUptoRow.holds Tryz.pinned (OpenSpec.upto fnExactMsgOkSpec)

/-- 'laws.FnExactMsgSize', WHERE WHAT IT READS IS OF BULK AT MOST 1048576: true; the input reads as it did. -/
def fnExactMsgSizeUptoRow : OpenClaim := { program := "ytmbpdaffnabjcaagreat", sum := "879debde432129f6b7a42909d4ae75914d3a78fa10e1b5ffb640cd3e26688ac1", func := "loop.example/g00790/laws.FnExactMsgSize", spec := "fnExactMsgSize", recurses := true, apart := false, narrowed := true }
def FnExactMsgSizeUptoSaid : Prop := fnExactMsgSizeUptoRow.holds Tryz.pinned (OpenSpec.upto fnExactMsgSizeSpec)

/-- 'laws.FnGarbage', WHERE WHAT IT READS IS OF BULK AT MOST 1048576: true; the input reads as it did. -/
def fnGarbageUptoRow : OpenClaim := { program := "ytmbpdaffnabjcaagreat", sum := "879debde432129f6b7a42909d4ae75914d3a78fa10e1b5ffb640cd3e26688ac1", func := "loop.example/g00790/laws.FnGarbage", spec := "fnGarbage", unfollowed := true, recurses := true, apart := false, narrowed := true }
def FnGarbageUptoSaid : Prop := fnGarbageUptoRow.holds Tryz.pinned (OpenSpec.upto fnGarbageSpec)

/-- 'laws.FnExactEncode', WHERE WHAT IT READS IS OF BULK AT MOST 1048576: true; the input reads as it did. -/
def fnExactEncodeUptoRow : OpenClaim := { program := "ytmbpdaffnabjcaagreat", sum := "879debde432129f6b7a42909d4ae75914d3a78fa10e1b5ffb640cd3e26688ac1", func := "loop.example/g00790/laws.FnExactEncode", spec := "fnExactEncode", recurses := true, apart := false, narrowed := true }
def FnExactEncodeUptoSaid : Prop := fnExactEncodeUptoRow.holds Tryz.pinned (OpenSpec.upto fnExactEncodeSpec)

/-- 'laws.FnFrames', WHERE WHAT IT READS IS OF BULK AT MOST 1048576: true; the input reads as it did. -/
def fnFramesUptoRow : OpenClaim := { program := "ytmbpdaffnabjcaagreat", sum := "879debde432129f6b7a42909d4ae75914d3a78fa10e1b5ffb640cd3e26688ac1", func := "loop.example/g00790/laws.FnFrames", spec := "fnFrames", unfollowed := true, recurses := true, apart := false, narrowed := true }
def FnFramesUptoSaid : Prop := fnFramesUptoRow.holds Tryz.pinned (OpenSpec.upto fnFramesSpec)

/-- 'laws.FnSkip', WHERE WHAT IT READS IS OF BULK AT MOST 1048576: true; the input reads as it did. -/
def fnSkipUptoRow : OpenClaim := { program := "ytmbpdaffnabjcaagreat", sum := "879debde432129f6b7a42909d4ae75914d3a78fa10e1b5ffb640cd3e26688ac1", func := "loop.example/g00790/laws.FnSkip", spec := "fnSkip", unfollowed := true, recurses := true, apart := false, narrowed := true }
def FnSkipUptoSaid : Prop := fnSkipUptoRow.holds Tryz.pinned (OpenSpec.upto fnSkipSpec)

/-- 'laws.FnExactFrames', WHERE WHAT IT READS IS OF BULK AT MOST 1048576: true; the input reads as it did. -/
def fnExactFramesUptoRow : OpenClaim := { program := "ytmbpdaffnabjcaagreat", sum := "879debde432129f6b7a42909d4ae75914d3a78fa10e1b5ffb640cd3e26688ac1", func := "loop.example/g00790/laws.FnExactFrames", spec := "fnExactFrames", recurses := true, apart := false, narrowed := true }
def FnExactFramesUptoSaid : Prop := fnExactFramesUptoRow.holds Tryz.pinned (OpenSpec.upto fnExactFramesSpec)

end Rows
end Go.Proofs.YtmbpdaffnabjcaaGreat
