/-
  No cell of these rows narrows 'for every input' (looked for: loops, veiled, ifaces, maps, wideKeys, modest, calm, conditions, laid).
  DERIVED. THE GIVEN ROWS OF THIS SEAT. 11 by the template 'for every input the law returns true; each argument reads behind the call as it read before'; 0 by the template 'total and deterministic' (their statements: YtcabijajjceghaaTotals.lean).
  GIVEN WITH THE SEED: the statements are not yours to turn. If you find one false, say at which input.
  Laid BY PROGRAM, IN A SANDBOX (cutbox-rows.mjs): the forced cells as the released guide's own fill.sh prints them over the translation d1bbe0e538ea38be… (all of the seat's roots in one cut). By AI agents, Wed Nov 11 2026. No macro, syntax, notation, axiom, sorry.
-/
import Derived.Test.YtcabijajjceghaaChecked
import GoSem.Claim
import GoSem.ClaimJoined
import GoSem.ClaimMapViews
import Derived.JoinedTies
import Derived.KernelRfl
namespace Go.Proofs.Ytcabijajjceghaa
/- THE CELL 'sum', in the pinned program and in every row, IS THE sha256 OF THE DUMP (.gsa) THAT YtcabijajjceghaaProg.lean LOADS. Nothing in Lean hashes anything: it is a label: what it is worth is what the hold of that sum in a sandbox is worth. -/
noncomputable def Try.pinned : Pinned := { name := "ytcabijajjceghaa", sum := "d1bbe0e538ea38bee57dbf0cc9efe1913b7ba6e3aca1fd92aa867dca42c8c8dd", checked := Try.checked }
namespace Rows
def none {H : Type} : Left H := { results := [], args := [] }

/-- 'pentroughlaw13.FrameBack': WHATEVER THE INPUT: true; the input reads as it did. -/
def frameBackSpec : ChangeSpec := { name := "frameBack", fn := fun _ => fun
  | [d1, d2] => { results := [.lit (.bool true)], args := [d1, d2] }
  | _ => none }
def frameBackRow : OpenClaim := { program := "ytcabijajjceghaa", sum := "d1bbe0e538ea38bee57dbf0cc9efe1913b7ba6e3aca1fd92aa867dca42c8c8dd", func := "pentrough/pentroughlaw13.FrameBack", spec := "frameBack", inPlace := ["internal/abi.NoEscape"], apart := false }
def FrameBackSaid : Prop := frameBackRow.holds Try.pinned (OpenSpec.ofChange frameBackSpec)

/-- ITS FALSE NEIGHBOUR: 'it returns false'. Refute it at one input. -/
def frameBackWrong : ChangeSpec := { name := "frameBack", fn := fun _ => fun
  | [d1, d2] => { results := [.lit (.bool false)], args := [d1, d2] }
  | _ => none }
def FrameBackWrongFalsely : Prop := frameBackRow.holds Try.pinned (OpenSpec.ofChange frameBackWrong)

/-- 'pentroughlaw13.FrameSizes': WHATEVER THE INPUT: true; the input reads as it did. -/
def frameSizesSpec : ChangeSpec := { name := "frameSizes", fn := fun _ => fun
  | [d1, d2] => { results := [.lit (.bool true)], args := [d1, d2] }
  | _ => none }
def frameSizesRow : OpenClaim := { program := "ytcabijajjceghaa", sum := "d1bbe0e538ea38bee57dbf0cc9efe1913b7ba6e3aca1fd92aa867dca42c8c8dd", func := "pentrough/pentroughlaw13.FrameSizes", spec := "frameSizes", inPlace := ["internal/abi.NoEscape"], apart := false }
def FrameSizesSaid : Prop := frameSizesRow.holds Try.pinned (OpenSpec.ofChange frameSizesSpec)

/-- ITS FALSE NEIGHBOUR: 'it returns false'. Refute it at one input. -/
def frameSizesWrong : ChangeSpec := { name := "frameSizes", fn := fun _ => fun
  | [d1, d2] => { results := [.lit (.bool false)], args := [d1, d2] }
  | _ => none }
def FrameSizesWrongFalsely : Prop := frameSizesRow.holds Try.pinned (OpenSpec.ofChange frameSizesWrong)

/-- 'pentroughlaw13.FrameIs': WHATEVER THE INPUT: true; the input reads as it did. -/
def frameIsSpec : ChangeSpec := { name := "frameIs", fn := fun _ => fun
  | [d1, d2] => { results := [.lit (.bool true)], args := [d1, d2] }
  | _ => none }
def frameIsRow : OpenClaim := { program := "ytcabijajjceghaa", sum := "d1bbe0e538ea38bee57dbf0cc9efe1913b7ba6e3aca1fd92aa867dca42c8c8dd", func := "pentrough/pentroughlaw13.FrameIs", spec := "frameIs", inPlace := ["internal/abi.NoEscape"], apart := false }
def FrameIsSaid : Prop := frameIsRow.holds Try.pinned (OpenSpec.ofChange frameIsSpec)

/-- ITS FALSE NEIGHBOUR: 'it returns false'. Refute it at one input. -/
def frameIsWrong : ChangeSpec := { name := "frameIs", fn := fun _ => fun
  | [d1, d2] => { results := [.lit (.bool false)], args := [d1, d2] }
  | _ => none }
def FrameIsWrongFalsely : Prop := frameIsRow.holds Try.pinned (OpenSpec.ofChange frameIsWrong)

/-- 'pentroughlaw13.FrameWhole': WHATEVER THE INPUT: true; the input reads as it did. -/
def frameWholeSpec : ChangeSpec := { name := "frameWhole", fn := fun _ => fun
  | [d1, d2] => { results := [.lit (.bool true)], args := [d1, d2] }
  | _ => none }
def frameWholeRow : OpenClaim := { program := "ytcabijajjceghaa", sum := "d1bbe0e538ea38bee57dbf0cc9efe1913b7ba6e3aca1fd92aa867dca42c8c8dd", func := "pentrough/pentroughlaw13.FrameWhole", spec := "frameWhole", inPlace := ["internal/abi.NoEscape"], apart := false }
def FrameWholeSaid : Prop := frameWholeRow.holds Try.pinned (OpenSpec.ofChange frameWholeSpec)

/-- ITS FALSE NEIGHBOUR: 'it returns false'. Refute it at one input. -/
def frameWholeWrong : ChangeSpec := { name := "frameWhole", fn := fun _ => fun
  | [d1, d2] => { results := [.lit (.bool false)], args := [d1, d2] }
  | _ => none }
def FrameWholeWrongFalsely : Prop := frameWholeRow.holds Try.pinned (OpenSpec.ofChange frameWholeWrong)

/-- 'pentroughlaw12.SegJoins': WHATEVER THE INPUT: true; the input reads as it did. -/
def segJoinsSpec : ChangeSpec := { name := "segJoins", fn := fun _ => fun
  | [d] => { results := [.lit (.bool true)], args := [d] }
  | _ => none }
def segJoinsRow : OpenClaim := { program := "ytcabijajjceghaa", sum := "d1bbe0e538ea38bee57dbf0cc9efe1913b7ba6e3aca1fd92aa867dca42c8c8dd", func := "pentrough/pentroughlaw12.SegJoins", spec := "segJoins", unfollowed := true, recurses := true, apart := false }
def SegJoinsSaid : Prop := segJoinsRow.holds Try.pinned (OpenSpec.ofChange segJoinsSpec)

/-- ITS FALSE NEIGHBOUR: 'it returns false'. Refute it at one input. -/
def segJoinsWrong : ChangeSpec := { name := "segJoins", fn := fun _ => fun
  | [d] => { results := [.lit (.bool false)], args := [d] }
  | _ => none }
def SegJoinsWrongFalsely : Prop := segJoinsRow.holds Try.pinned (OpenSpec.ofChange segJoinsWrong)

/-- 'pentroughlaw12.SegKeeps': WHATEVER THE INPUT: true; the input reads as it did. -/
def segKeepsSpec : ChangeSpec := { name := "segKeeps", fn := fun _ => fun
  | [d1, d2] => { results := [.lit (.bool true)], args := [d1, d2] }
  | _ => none }
def segKeepsRow : OpenClaim := { program := "ytcabijajjceghaa", sum := "d1bbe0e538ea38bee57dbf0cc9efe1913b7ba6e3aca1fd92aa867dca42c8c8dd", func := "pentrough/pentroughlaw12.SegKeeps", spec := "segKeeps", unfollowed := true, recurses := true, apart := false }
def SegKeepsSaid : Prop := segKeepsRow.holds Try.pinned (OpenSpec.ofChange segKeepsSpec)

/-- ITS FALSE NEIGHBOUR: 'it returns false'. Refute it at one input. -/
def segKeepsWrong : ChangeSpec := { name := "segKeeps", fn := fun _ => fun
  | [d1, d2] => { results := [.lit (.bool false)], args := [d1, d2] }
  | _ => none }
def SegKeepsWrongFalsely : Prop := segKeepsRow.holds Try.pinned (OpenSpec.ofChange segKeepsWrong)

/-- 'pentroughlaw12.SegLong': WHATEVER THE INPUT: true; the input reads as it did. -/
def segLongSpec : ChangeSpec := { name := "segLong", fn := fun _ => fun
  | [d1, d2, d3] => { results := [.lit (.bool true)], args := [d1, d2, d3] }
  | _ => none }
def segLongRow : OpenClaim := { program := "ytcabijajjceghaa", sum := "d1bbe0e538ea38bee57dbf0cc9efe1913b7ba6e3aca1fd92aa867dca42c8c8dd", func := "pentrough/pentroughlaw12.SegLong", spec := "segLong", unfollowed := true, recurses := true, apart := false }
def SegLongSaid : Prop := segLongRow.holds Try.pinned (OpenSpec.ofChange segLongSpec)

/-- ITS FALSE NEIGHBOUR: 'it returns false'. Refute it at one input. -/
def segLongWrong : ChangeSpec := { name := "segLong", fn := fun _ => fun
  | [d1, d2, d3] => { results := [.lit (.bool false)], args := [d1, d2, d3] }
  | _ => none }
def SegLongWrongFalsely : Prop := segLongRow.holds Try.pinned (OpenSpec.ofChange segLongWrong)

/-- 'pentroughlaw12.SegIs': WHATEVER THE INPUT: true; the input reads as it did. -/
def segIsSpec : ChangeSpec := { name := "segIs", fn := fun _ => fun
  | [d1, d2, d3] => { results := [.lit (.bool true)], args := [d1, d2, d3] }
  | _ => none }
def segIsRow : OpenClaim := { program := "ytcabijajjceghaa", sum := "d1bbe0e538ea38bee57dbf0cc9efe1913b7ba6e3aca1fd92aa867dca42c8c8dd", func := "pentrough/pentroughlaw12.SegIs", spec := "segIs", unfollowed := true, recurses := true, apart := false }
def SegIsSaid : Prop := segIsRow.holds Try.pinned (OpenSpec.ofChange segIsSpec)

/-- ITS FALSE NEIGHBOUR: 'it returns false'. Refute it at one input. -/
def segIsWrong : ChangeSpec := { name := "segIs", fn := fun _ => fun
  | [d1, d2, d3] => { results := [.lit (.bool false)], args := [d1, d2, d3] }
  | _ => none }
def SegIsWrongFalsely : Prop := segIsRow.holds Try.pinned (OpenSpec.ofChange segIsWrong)

/-- 'pentroughlaw12.SegCuts': WHATEVER THE INPUT: true; the input reads as it did. -/
def segCutsSpec : ChangeSpec := { name := "segCuts", fn := fun _ => fun
  | [d] => { results := [.lit (.bool true)], args := [d] }
  | _ => none }
def segCutsRow : OpenClaim := { program := "ytcabijajjceghaa", sum := "d1bbe0e538ea38bee57dbf0cc9efe1913b7ba6e3aca1fd92aa867dca42c8c8dd", func := "pentrough/pentroughlaw12.SegCuts", spec := "segCuts", unfollowed := true, recurses := true, apart := false }
def SegCutsSaid : Prop := segCutsRow.holds Try.pinned (OpenSpec.ofChange segCutsSpec)

/-- ITS FALSE NEIGHBOUR: 'it returns false'. Refute it at one input. -/
def segCutsWrong : ChangeSpec := { name := "segCuts", fn := fun _ => fun
  | [d] => { results := [.lit (.bool false)], args := [d] }
  | _ => none }
def SegCutsWrongFalsely : Prop := segCutsRow.holds Try.pinned (OpenSpec.ofChange segCutsWrong)

/-- 'pentroughlaw12.SegParts': WHATEVER THE INPUT: true; the input reads as it did. -/
def segPartsSpec : ChangeSpec := { name := "segParts", fn := fun _ => fun
  | [d1, d2] => { results := [.lit (.bool true)], args := [d1, d2] }
  | _ => none }
def segPartsRow : OpenClaim := { program := "ytcabijajjceghaa", sum := "d1bbe0e538ea38bee57dbf0cc9efe1913b7ba6e3aca1fd92aa867dca42c8c8dd", func := "pentrough/pentroughlaw12.SegParts", spec := "segParts", unfollowed := true, recurses := true, apart := false }
def SegPartsSaid : Prop := segPartsRow.holds Try.pinned (OpenSpec.ofChange segPartsSpec)

/-- ITS FALSE NEIGHBOUR: 'it returns false'. Refute it at one input. -/
def segPartsWrong : ChangeSpec := { name := "segParts", fn := fun _ => fun
  | [d1, d2] => { results := [.lit (.bool false)], args := [d1, d2] }
  | _ => none }
def SegPartsWrongFalsely : Prop := segPartsRow.holds Try.pinned (OpenSpec.ofChange segPartsWrong)

/-- 'pentroughlaw13.FrameRows': WHATEVER THE INPUT: true; the input reads as it did. -/
def frameRowsSpec : ChangeSpec := { name := "frameRows", fn := fun _ => fun
  | [d] => { results := [.lit (.bool true)], args := [d] }
  | _ => none }
def frameRowsRow : OpenClaim := { program := "ytcabijajjceghaa", sum := "d1bbe0e538ea38bee57dbf0cc9efe1913b7ba6e3aca1fd92aa867dca42c8c8dd", func := "pentrough/pentroughlaw13.FrameRows", spec := "frameRows", inPlace := ["internal/abi.NoEscape"], unfollowed := true, recurses := true, apart := false }
def FrameRowsSaid : Prop := frameRowsRow.holds Try.pinned (OpenSpec.ofChange frameRowsSpec)

/-- ITS FALSE NEIGHBOUR: 'it returns false'. Refute it at one input. -/
def frameRowsWrong : ChangeSpec := { name := "frameRows", fn := fun _ => fun
  | [d] => { results := [.lit (.bool false)], args := [d] }
  | _ => none }
def FrameRowsWrongFalsely : Prop := frameRowsRow.holds Try.pinned (OpenSpec.ofChange frameRowsWrong)

/- THE SECOND FORM. 'bulk': how many values and letters a reading holds, each counted each time it is reached (what is shared counts as often as it is met; a slice's spare places count too). A statement '..UptoSaid' is the law's where the arguments, and the package variables that the reading takes, are together of bulk at most 1048576: NARROWER than '..Said'. Prove '..Said' where nothing that the law and all that it calls make is longer than what came in: it says more and counts as full. Else prove '..UptoSaid'. A law counts once. -/
mutual
def uptoBulk {H : Type} : DataW H → Nat
  | .lit (.string bytes) => bytes.length + 1
  | .lit _ => 1
  | .nil => 1
  | .ptr d => uptoBulk d + 1
  | .slice elems spare => uptoBulkAll elems + uptoBulkAll spare + 1
  | .agg parts => uptoBulkAll parts + 1
  | .iface _ d => uptoBulk d + 1
  | .map entries => uptoBulkEntries entries + 1
  | .held _ => 1
def uptoBulkAll {H : Type} : List (DataW H) → Nat
  | [] => 0
  | d :: r => uptoBulk d + uptoBulkAll r
def uptoBulkEntries {H : Type} : List (Lit × DataW H) → Nat
  | [] => 0
  | x :: r => uptoBulkEntry x + uptoBulkEntries r
def uptoBulkEntry {H : Type} : Lit × DataW H → Nat
  | (.string bytes, d) => bytes.length + uptoBulk d + 1
  | (_, d) => uptoBulk d + 1
 end
def uptoSmall : (H : Type) → List (DataW H) → Bool := fun _ ds => decide (uptoBulkAll ds ≤ 1048576)
def OpenSpec.upto (s : _root_.Go.ChangeSpec) : _root_.Go.OpenSpec := { _root_.Go.OpenSpec.ofChange s with cond := some uptoSmall }

/-- 'pentroughlaw13.FrameBack', WHERE WHAT IT READS IS OF BULK AT MOST 1048576: true; the input reads as it did. -/
def frameBackUptoRow : OpenClaim := { program := "ytcabijajjceghaa", sum := "d1bbe0e538ea38bee57dbf0cc9efe1913b7ba6e3aca1fd92aa867dca42c8c8dd", func := "pentrough/pentroughlaw13.FrameBack", spec := "frameBack", inPlace := ["internal/abi.NoEscape"], apart := false, narrowed := true }
def FrameBackUptoSaid : Prop := frameBackUptoRow.holds Try.pinned (OpenSpec.upto frameBackSpec)

/-- 'pentroughlaw13.FrameSizes', WHERE WHAT IT READS IS OF BULK AT MOST 1048576: true; the input reads as it did. -/
def frameSizesUptoRow : OpenClaim := { program := "ytcabijajjceghaa", sum := "d1bbe0e538ea38bee57dbf0cc9efe1913b7ba6e3aca1fd92aa867dca42c8c8dd", func := "pentrough/pentroughlaw13.FrameSizes", spec := "frameSizes", inPlace := ["internal/abi.NoEscape"], apart := false, narrowed := true }
def FrameSizesUptoSaid : Prop := frameSizesUptoRow.holds Try.pinned (OpenSpec.upto frameSizesSpec)

/-- 'pentroughlaw13.FrameIs', WHERE WHAT IT READS IS OF BULK AT MOST 1048576: true; the input reads as it did. -/
def frameIsUptoRow : OpenClaim := { program := "ytcabijajjceghaa", sum := "d1bbe0e538ea38bee57dbf0cc9efe1913b7ba6e3aca1fd92aa867dca42c8c8dd", func := "pentrough/pentroughlaw13.FrameIs", spec := "frameIs", inPlace := ["internal/abi.NoEscape"], apart := false, narrowed := true }
def FrameIsUptoSaid : Prop := frameIsUptoRow.holds Try.pinned (OpenSpec.upto frameIsSpec)

/-- 'pentroughlaw13.FrameWhole', WHERE WHAT IT READS IS OF BULK AT MOST 1048576: true; the input reads as it did. -/
def frameWholeUptoRow : OpenClaim := { program := "ytcabijajjceghaa", sum := "d1bbe0e538ea38bee57dbf0cc9efe1913b7ba6e3aca1fd92aa867dca42c8c8dd", func := "pentrough/pentroughlaw13.FrameWhole", spec := "frameWhole", inPlace := ["internal/abi.NoEscape"], apart := false, narrowed := true }
def FrameWholeUptoSaid : Prop := frameWholeUptoRow.holds Try.pinned (OpenSpec.upto frameWholeSpec)

/-- 'pentroughlaw12.SegJoins', WHERE WHAT IT READS IS OF BULK AT MOST 1048576: true; the input reads as it did. -/
def segJoinsUptoRow : OpenClaim := { program := "ytcabijajjceghaa", sum := "d1bbe0e538ea38bee57dbf0cc9efe1913b7ba6e3aca1fd92aa867dca42c8c8dd", func := "pentrough/pentroughlaw12.SegJoins", spec := "segJoins", unfollowed := true, recurses := true, apart := false, narrowed := true }
def SegJoinsUptoSaid : Prop := segJoinsUptoRow.holds Try.pinned (OpenSpec.upto segJoinsSpec)

/-- 'pentroughlaw12.SegKeeps', WHERE WHAT IT READS IS OF BULK AT MOST 1048576: true; the input reads as it did. -/
def segKeepsUptoRow : OpenClaim := { program := "ytcabijajjceghaa", sum := "d1bbe0e538ea38bee57dbf0cc9efe1913b7ba6e3aca1fd92aa867dca42c8c8dd", func := "pentrough/pentroughlaw12.SegKeeps", spec := "segKeeps", unfollowed := true, recurses := true, apart := false, narrowed := true }
def SegKeepsUptoSaid : Prop := segKeepsUptoRow.holds Try.pinned (OpenSpec.upto segKeepsSpec)

/-- 'pentroughlaw12.SegLong', WHERE WHAT IT READS IS OF BULK AT MOST 1048576: true; the input reads as it did. -/
def segLongUptoRow : OpenClaim := { program := "ytcabijajjceghaa", sum := "d1bbe0e538ea38bee57dbf0cc9efe1913b7ba6e3aca1fd92aa867dca42c8c8dd", func := "pentrough/pentroughlaw12.SegLong", spec := "segLong", unfollowed := true, recurses := true, apart := false, narrowed := true }
def SegLongUptoSaid : Prop := segLongUptoRow.holds Try.pinned (OpenSpec.upto segLongSpec)

/-- 'pentroughlaw12.SegIs', WHERE WHAT IT READS IS OF BULK AT MOST 1048576: true; the input reads as it did. -/
def segIsUptoRow : OpenClaim := { program := "ytcabijajjceghaa", sum := "d1bbe0e538ea38bee57dbf0cc9efe1913b7ba6e3aca1fd92aa867dca42c8c8dd", func := "pentrough/pentroughlaw12.SegIs", spec := "segIs", unfollowed := true, recurses := true, apart := false, narrowed := true }
def SegIsUptoSaid : Prop := segIsUptoRow.holds Try.pinned (OpenSpec.upto segIsSpec)

/-- 'pentroughlaw12.SegCuts', WHERE WHAT IT READS IS OF BULK AT MOST 1048576: true; the input reads as it did. -/
def segCutsUptoRow : OpenClaim := { program := "ytcabijajjceghaa", sum := "d1bbe0e538ea38bee57dbf0cc9efe1913b7ba6e3aca1fd92aa867dca42c8c8dd", func := "pentrough/pentroughlaw12.SegCuts", spec := "segCuts", unfollowed := true, recurses := true, apart := false, narrowed := true }
def SegCutsUptoSaid : Prop := segCutsUptoRow.holds Try.pinned (OpenSpec.upto segCutsSpec)

/-- 'pentroughlaw12.SegParts', WHERE WHAT IT READS IS OF BULK AT MOST 1048576: true; the input reads as it did. -/
def segPartsUptoRow : OpenClaim := { program := "ytcabijajjceghaa", sum := "d1bbe0e538ea38bee57dbf0cc9efe1913b7ba6e3aca1fd92aa867dca42c8c8dd", func := "pentrough/pentroughlaw12.SegParts", spec := "segParts", unfollowed := true, recurses := true, apart := false, narrowed := true }
def SegPartsUptoSaid : Prop := segPartsUptoRow.holds Try.pinned (OpenSpec.upto segPartsSpec)

/-- 'pentroughlaw13.FrameRows', WHERE WHAT IT READS IS OF BULK AT MOST 1048576: true; the input reads as it did. -/
def frameRowsUptoRow : OpenClaim := { program := "ytcabijajjceghaa", sum := "d1bbe0e538ea38bee57dbf0cc9efe1913b7ba6e3aca1fd92aa867dca42c8c8dd", func := "pentrough/pentroughlaw13.FrameRows", spec := "frameRows", inPlace := ["internal/abi.NoEscape"], unfollowed := true, recurses := true, apart := false, narrowed := true }
def FrameRowsUptoSaid : Prop := frameRowsUptoRow.holds Try.pinned (OpenSpec.upto frameRowsSpec)

end Rows
end Go.Proofs.Ytcabijajjceghaa
