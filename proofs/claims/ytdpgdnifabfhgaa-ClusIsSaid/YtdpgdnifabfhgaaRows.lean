/-
  No cell of these rows narrows 'for every input' (looked for: loops, veiled, ifaces, maps, wideKeys, modest, calm, conditions, laid).
  DERIVED. THE GIVEN ROWS OF THIS SEAT. 11 by the template 'for every input the law returns true; each argument reads behind the call as it read before'; 0 by the template 'total and deterministic' (their statements: YtdpgdnifabfhgaaTotals.lean).
  GIVEN WITH THE SEED: the statements are not yours to turn. If you find one false, say at which input.
  Laid BY PROGRAM, IN A SANDBOX (cutbox-rows.mjs): the forced cells as the released guide's own fill.sh prints them over the translation 3edf2d851ae1eeb4… (all of the seat's roots in one cut). By AI agents, Wed Nov 11 2026. No macro, syntax, notation, axiom, sorry.
-/
import Derived.Test.YtdpgdnifabfhgaaChecked
import GoSem.Claim
import GoSem.ClaimJoined
import GoSem.ClaimMapViews
import Derived.JoinedTies
import Derived.KernelRfl
namespace Go.Proofs.Ytdpgdnifabfhgaa
/- THE CELL 'sum', in the pinned program and in every row, IS THE sha256 OF THE DUMP (.gsa) THAT YtdpgdnifabfhgaaProg.lean LOADS. Nothing in Lean hashes anything: it is a label: what it is worth is what the hold of that sum in a sandbox is worth. -/
noncomputable def Try.pinned : Pinned := { name := "ytdpgdnifabfhgaa", sum := "3edf2d851ae1eeb432c038fda04f5beb68ea2315642011d3f00b23eeb4b1908a", checked := Try.checked }
namespace Rows
def none {H : Type} : Left H := { results := [], args := [] }

/-- 'pentroughlaw03.PropIs': WHATEVER THE INPUT: true; the input reads as it did. -/
def propIsSpec : ChangeSpec := { name := "propIs", fn := fun _ => fun
  | [d] => { results := [.lit (.bool true)], args := [d] }
  | _ => none }
def propIsRow : OpenClaim := { program := "ytdpgdnifabfhgaa", sum := "3edf2d851ae1eeb432c038fda04f5beb68ea2315642011d3f00b23eeb4b1908a", func := "pentrough/pentroughlaw03.PropIs", spec := "propIs", unfollowed := true, recurses := true, apart := false }
def PropIsSaid : Prop := propIsRow.holds Try.pinned (OpenSpec.ofChange propIsSpec)

/-- ITS FALSE NEIGHBOUR: 'it returns false'. Refute it at one input. -/
def propIsWrong : ChangeSpec := { name := "propIs", fn := fun _ => fun
  | [d] => { results := [.lit (.bool false)], args := [d] }
  | _ => none }
def PropIsWrongFalsely : Prop := propIsRow.holds Try.pinned (OpenSpec.ofChange propIsWrong)

/-- 'pentroughlaw03.PropSyllables': WHATEVER THE INPUT: true; the input reads as it did. -/
def propSyllablesSpec : ChangeSpec := { name := "propSyllables", fn := fun _ => fun
  | [d] => { results := [.lit (.bool true)], args := [d] }
  | _ => none }
def propSyllablesRow : OpenClaim := { program := "ytdpgdnifabfhgaa", sum := "3edf2d851ae1eeb432c038fda04f5beb68ea2315642011d3f00b23eeb4b1908a", func := "pentrough/pentroughlaw03.PropSyllables", spec := "propSyllables", unfollowed := true, recurses := true, apart := false }
def PropSyllablesSaid : Prop := propSyllablesRow.holds Try.pinned (OpenSpec.ofChange propSyllablesSpec)

/-- ITS FALSE NEIGHBOUR: 'it returns false'. Refute it at one input. -/
def propSyllablesWrong : ChangeSpec := { name := "propSyllables", fn := fun _ => fun
  | [d] => { results := [.lit (.bool false)], args := [d] }
  | _ => none }
def PropSyllablesWrongFalsely : Prop := propSyllablesRow.holds Try.pinned (OpenSpec.ofChange propSyllablesWrong)

/-- 'pentroughlaw03.PropAscii': WHATEVER THE INPUT: true; the input reads as it did. -/
def propAsciiSpec : ChangeSpec := { name := "propAscii", fn := fun _ => fun
  | [d] => { results := [.lit (.bool true)], args := [d] }
  | _ => none }
def propAsciiRow : OpenClaim := { program := "ytdpgdnifabfhgaa", sum := "3edf2d851ae1eeb432c038fda04f5beb68ea2315642011d3f00b23eeb4b1908a", func := "pentrough/pentroughlaw03.PropAscii", spec := "propAscii", unfollowed := true, recurses := true, apart := false }
def PropAsciiSaid : Prop := propAsciiRow.holds Try.pinned (OpenSpec.ofChange propAsciiSpec)

/-- ITS FALSE NEIGHBOUR: 'it returns false'. Refute it at one input. -/
def propAsciiWrong : ChangeSpec := { name := "propAscii", fn := fun _ => fun
  | [d] => { results := [.lit (.bool false)], args := [d] }
  | _ => none }
def PropAsciiWrongFalsely : Prop := propAsciiRow.holds Try.pinned (OpenSpec.ofChange propAsciiWrong)

/-- 'pentroughlaw03.PropMarks': WHATEVER THE INPUT: true; the input reads as it did. -/
def propMarksSpec : ChangeSpec := { name := "propMarks", fn := fun _ => fun
  | [d] => { results := [.lit (.bool true)], args := [d] }
  | _ => none }
def propMarksRow : OpenClaim := { program := "ytdpgdnifabfhgaa", sum := "3edf2d851ae1eeb432c038fda04f5beb68ea2315642011d3f00b23eeb4b1908a", func := "pentrough/pentroughlaw03.PropMarks", spec := "propMarks", unfollowed := true, recurses := true, apart := false }
def PropMarksSaid : Prop := propMarksRow.holds Try.pinned (OpenSpec.ofChange propMarksSpec)

/-- ITS FALSE NEIGHBOUR: 'it returns false'. Refute it at one input. -/
def propMarksWrong : ChangeSpec := { name := "propMarks", fn := fun _ => fun
  | [d] => { results := [.lit (.bool false)], args := [d] }
  | _ => none }
def PropMarksWrongFalsely : Prop := propMarksRow.holds Try.pinned (OpenSpec.ofChange propMarksWrong)

/-- 'pentroughlaw03.PropBounds': WHATEVER THE INPUT: true; the input reads as it did. -/
def propBoundsSpec : ChangeSpec := { name := "propBounds", fn := fun _ => fun
  | [d] => { results := [.lit (.bool true)], args := [d] }
  | _ => none }
def propBoundsRow : OpenClaim := { program := "ytdpgdnifabfhgaa", sum := "3edf2d851ae1eeb432c038fda04f5beb68ea2315642011d3f00b23eeb4b1908a", func := "pentrough/pentroughlaw03.PropBounds", spec := "propBounds", unfollowed := true, recurses := true, apart := false }
def PropBoundsSaid : Prop := propBoundsRow.holds Try.pinned (OpenSpec.ofChange propBoundsSpec)

/-- ITS FALSE NEIGHBOUR: 'it returns false'. Refute it at one input. -/
def propBoundsWrong : ChangeSpec := { name := "propBounds", fn := fun _ => fun
  | [d] => { results := [.lit (.bool false)], args := [d] }
  | _ => none }
def PropBoundsWrongFalsely : Prop := propBoundsRow.holds Try.pinned (OpenSpec.ofChange propBoundsWrong)

/-- 'pentroughlaw11.ClusIs': WHATEVER THE INPUT: true; the input reads as it did. -/
def clusIsSpec : ChangeSpec := { name := "clusIs", fn := fun _ => fun
  | [d1, d2, d3] => { results := [.lit (.bool true)], args := [d1, d2, d3] }
  | _ => none }
def clusIsRow : OpenClaim := { program := "ytdpgdnifabfhgaa", sum := "3edf2d851ae1eeb432c038fda04f5beb68ea2315642011d3f00b23eeb4b1908a", func := "pentrough/pentroughlaw11.ClusIs", spec := "clusIs", unfollowed := true, recurses := true, apart := false }
def ClusIsSaid : Prop := clusIsRow.holds Try.pinned (OpenSpec.ofChange clusIsSpec)

/-- ITS FALSE NEIGHBOUR: 'it returns false'. Refute it at one input. -/
def clusIsWrong : ChangeSpec := { name := "clusIs", fn := fun _ => fun
  | [d1, d2, d3] => { results := [.lit (.bool false)], args := [d1, d2, d3] }
  | _ => none }
def ClusIsWrongFalsely : Prop := clusIsRow.holds Try.pinned (OpenSpec.ofChange clusIsWrong)

/-- 'pentroughlaw11.ClusSound': WHATEVER THE INPUT: true; the input reads as it did. -/
def clusSoundSpec : ChangeSpec := { name := "clusSound", fn := fun _ => fun
  | [d1, d2] => { results := [.lit (.bool true)], args := [d1, d2] }
  | _ => none }
def clusSoundRow : OpenClaim := { program := "ytdpgdnifabfhgaa", sum := "3edf2d851ae1eeb432c038fda04f5beb68ea2315642011d3f00b23eeb4b1908a", func := "pentrough/pentroughlaw11.ClusSound", spec := "clusSound", unfollowed := true, recurses := true, apart := false }
def ClusSoundSaid : Prop := clusSoundRow.holds Try.pinned (OpenSpec.ofChange clusSoundSpec)

/-- ITS FALSE NEIGHBOUR: 'it returns false'. Refute it at one input. -/
def clusSoundWrong : ChangeSpec := { name := "clusSound", fn := fun _ => fun
  | [d1, d2] => { results := [.lit (.bool false)], args := [d1, d2] }
  | _ => none }
def ClusSoundWrongFalsely : Prop := clusSoundRow.holds Try.pinned (OpenSpec.ofChange clusSoundWrong)

/-- 'pentroughlaw11.ClusFlags': WHATEVER THE INPUT: true; the input reads as it did. -/
def clusFlagsSpec : ChangeSpec := { name := "clusFlags", fn := fun _ => fun
  | [d1, d2] => { results := [.lit (.bool true)], args := [d1, d2] }
  | _ => none }
def clusFlagsRow : OpenClaim := { program := "ytdpgdnifabfhgaa", sum := "3edf2d851ae1eeb432c038fda04f5beb68ea2315642011d3f00b23eeb4b1908a", func := "pentrough/pentroughlaw11.ClusFlags", spec := "clusFlags", unfollowed := true, recurses := true, apart := false }
def ClusFlagsSaid : Prop := clusFlagsRow.holds Try.pinned (OpenSpec.ofChange clusFlagsSpec)

/-- ITS FALSE NEIGHBOUR: 'it returns false'. Refute it at one input. -/
def clusFlagsWrong : ChangeSpec := { name := "clusFlags", fn := fun _ => fun
  | [d1, d2] => { results := [.lit (.bool false)], args := [d1, d2] }
  | _ => none }
def ClusFlagsWrongFalsely : Prop := clusFlagsRow.holds Try.pinned (OpenSpec.ofChange clusFlagsWrong)

/-- 'pentroughlaw11.ClusRows': WHATEVER THE INPUT: true; the input reads as it did. -/
def clusRowsSpec : ChangeSpec := { name := "clusRows", fn := fun _ => fun
  | [d1, d2, d3] => { results := [.lit (.bool true)], args := [d1, d2, d3] }
  | _ => none }
def clusRowsRow : OpenClaim := { program := "ytdpgdnifabfhgaa", sum := "3edf2d851ae1eeb432c038fda04f5beb68ea2315642011d3f00b23eeb4b1908a", func := "pentrough/pentroughlaw11.ClusRows", spec := "clusRows", unfollowed := true, recurses := true, apart := false }
def ClusRowsSaid : Prop := clusRowsRow.holds Try.pinned (OpenSpec.ofChange clusRowsSpec)

/-- ITS FALSE NEIGHBOUR: 'it returns false'. Refute it at one input. -/
def clusRowsWrong : ChangeSpec := { name := "clusRows", fn := fun _ => fun
  | [d1, d2, d3] => { results := [.lit (.bool false)], args := [d1, d2, d3] }
  | _ => none }
def ClusRowsWrongFalsely : Prop := clusRowsRow.holds Try.pinned (OpenSpec.ofChange clusRowsWrong)

/-- 'pentroughlaw11.ClusSyllables': WHATEVER THE INPUT: true; the input reads as it did. -/
def clusSyllablesSpec : ChangeSpec := { name := "clusSyllables", fn := fun _ => fun
  | [d1, d2, d3] => { results := [.lit (.bool true)], args := [d1, d2, d3] }
  | _ => none }
def clusSyllablesRow : OpenClaim := { program := "ytdpgdnifabfhgaa", sum := "3edf2d851ae1eeb432c038fda04f5beb68ea2315642011d3f00b23eeb4b1908a", func := "pentrough/pentroughlaw11.ClusSyllables", spec := "clusSyllables", unfollowed := true, recurses := true, apart := false }
def ClusSyllablesSaid : Prop := clusSyllablesRow.holds Try.pinned (OpenSpec.ofChange clusSyllablesSpec)

/-- ITS FALSE NEIGHBOUR: 'it returns false'. Refute it at one input. -/
def clusSyllablesWrong : ChangeSpec := { name := "clusSyllables", fn := fun _ => fun
  | [d1, d2, d3] => { results := [.lit (.bool false)], args := [d1, d2, d3] }
  | _ => none }
def ClusSyllablesWrongFalsely : Prop := clusSyllablesRow.holds Try.pinned (OpenSpec.ofChange clusSyllablesWrong)

/-- 'pentroughlaw11.ClusExtends': WHATEVER THE INPUT: true; the input reads as it did. -/
def clusExtendsSpec : ChangeSpec := { name := "clusExtends", fn := fun _ => fun
  | [d] => { results := [.lit (.bool true)], args := [d] }
  | _ => none }
def clusExtendsRow : OpenClaim := { program := "ytdpgdnifabfhgaa", sum := "3edf2d851ae1eeb432c038fda04f5beb68ea2315642011d3f00b23eeb4b1908a", func := "pentrough/pentroughlaw11.ClusExtends", spec := "clusExtends", unfollowed := true, recurses := true, apart := false }
def ClusExtendsSaid : Prop := clusExtendsRow.holds Try.pinned (OpenSpec.ofChange clusExtendsSpec)

/-- ITS FALSE NEIGHBOUR: 'it returns false'. Refute it at one input. -/
def clusExtendsWrong : ChangeSpec := { name := "clusExtends", fn := fun _ => fun
  | [d] => { results := [.lit (.bool false)], args := [d] }
  | _ => none }
def ClusExtendsWrongFalsely : Prop := clusExtendsRow.holds Try.pinned (OpenSpec.ofChange clusExtendsWrong)

/- THE SECOND FORM. 'bulk': how many values and letters a reading holds, each counted each time it is reached (what is shared counts as often as it is met; a slice's spare places count too). A statement '..UptoSaid' is the law's where the arguments, and the package variables that the reading takes, are together of bulk at most 1048576: NARROWER than '..Said'. Prove '..Said' where nothing that the law and all that it calls make is longer than what came in: it says more and counts as full. Else prove '..UptoSaid'. A law counts once. -/
mutual
def uptoBulk {H : Type} : DataW H → Nat
  | .lit (.string bytes) => bytes.length + 1
  | .lit _ => 1
  | .nil => 1
  | .ptr d => uptoBulk d + 1
  | .slice elems spare => uptoBulkAll elems + uptoBulkAll spare + 1
  | .agg parts => uptoBulkAll parts + 1
  | .iface _ d => uptoBulk d + 1
  | .map entries => uptoBulkEntries entries + 1
  | .held _ => 1
def uptoBulkAll {H : Type} : List (DataW H) → Nat
  | [] => 0
  | d :: r => uptoBulk d + uptoBulkAll r
def uptoBulkEntries {H : Type} : List (Lit × DataW H) → Nat
  | [] => 0
  | x :: r => uptoBulkEntry x + uptoBulkEntries r
def uptoBulkEntry {H : Type} : Lit × DataW H → Nat
  | (.string bytes, d) => bytes.length + uptoBulk d + 1
  | (_, d) => uptoBulk d + 1
 end
def uptoSmall : (H : Type) → List (DataW H) → Bool := fun _ ds => decide (uptoBulkAll ds ≤ 1048576)
def OpenSpec.upto (s : _root_.Go.ChangeSpec) : _root_.Go.OpenSpec := { _root_.Go.OpenSpec.ofChange s with cond := some uptoSmall }

/-- 'pentroughlaw03.PropIs', WHERE WHAT IT READS IS OF BULK AT MOST 1048576: true; the input reads as it did. -/
def propIsUptoRow : OpenClaim := { program := "ytdpgdnifabfhgaa", sum := "3edf2d851ae1eeb432c038fda04f5beb68ea2315642011d3f00b23eeb4b1908a", func := "pentrough/pentroughlaw03.PropIs", spec := "propIs", unfollowed := true, recurses := true, apart := false, narrowed := true }
def PropIsUptoSaid : Prop := propIsUptoRow.holds Try.pinned (OpenSpec.upto propIsSpec)

/-- 'pentroughlaw03.PropSyllables', WHERE WHAT IT READS IS OF BULK AT MOST 1048576: true; the input reads as it did. -/
def propSyllablesUptoRow : OpenClaim := { program := "ytdpgdnifabfhgaa", sum := "3edf2d851ae1eeb432c038fda04f5beb68ea2315642011d3f00b23eeb4b1908a", func := "pentrough/pentroughlaw03.PropSyllables", spec := "propSyllables", unfollowed := true, recurses := true, apart := false, narrowed := true }
def PropSyllablesUptoSaid : Prop := propSyllablesUptoRow.holds Try.pinned (OpenSpec.upto propSyllablesSpec)

/-- 'pentroughlaw03.PropAscii', WHERE WHAT IT READS IS OF BULK AT MOST 1048576: true; the input reads as it did. -/
def propAsciiUptoRow : OpenClaim := { program := "ytdpgdnifabfhgaa", sum := "3edf2d851ae1eeb432c038fda04f5beb68ea2315642011d3f00b23eeb4b1908a", func := "pentrough/pentroughlaw03.PropAscii", spec := "propAscii", unfollowed := true, recurses := true, apart := false, narrowed := true }
def PropAsciiUptoSaid : Prop := propAsciiUptoRow.holds Try.pinned (OpenSpec.upto propAsciiSpec)

/-- 'pentroughlaw03.PropMarks', WHERE WHAT IT READS IS OF BULK AT MOST 1048576: true; the input reads as it did. -/
def propMarksUptoRow : OpenClaim := { program := "ytdpgdnifabfhgaa", sum := "3edf2d851ae1eeb432c038fda04f5beb68ea2315642011d3f00b23eeb4b1908a", func := "pentrough/pentroughlaw03.PropMarks", spec := "propMarks", unfollowed := true, recurses := true, apart := false, narrowed := true }
def PropMarksUptoSaid : Prop := propMarksUptoRow.holds Try.pinned (OpenSpec.upto propMarksSpec)

/-- 'pentroughlaw03.PropBounds', WHERE WHAT IT READS IS OF BULK AT MOST 1048576: true; the input reads as it did. -/
def propBoundsUptoRow : OpenClaim := { program := "ytdpgdnifabfhgaa", sum := "3edf2d851ae1eeb432c038fda04f5beb68ea2315642011d3f00b23eeb4b1908a", func := "pentrough/pentroughlaw03.PropBounds", spec := "propBounds", unfollowed := true, recurses := true, apart := false, narrowed := true }
def PropBoundsUptoSaid : Prop := propBoundsUptoRow.holds Try.pinned (OpenSpec.upto propBoundsSpec)

/-- 'pentroughlaw11.ClusIs', WHERE WHAT IT READS IS OF BULK AT MOST 1048576: true; the input reads as it did. -/
def clusIsUptoRow : OpenClaim := { program := "ytdpgdnifabfhgaa", sum := "3edf2d851ae1eeb432c038fda04f5beb68ea2315642011d3f00b23eeb4b1908a", func := "pentrough/pentroughlaw11.ClusIs", spec := "clusIs", unfollowed := true, recurses := true, apart := false, narrowed := true }
def ClusIsUptoSaid : Prop := clusIsUptoRow.holds Try.pinned (OpenSpec.upto clusIsSpec)

/-- 'pentroughlaw11.ClusSound', WHERE WHAT IT READS IS OF BULK AT MOST 1048576: true; the input reads as it did. -/
def clusSoundUptoRow : OpenClaim := { program := "ytdpgdnifabfhgaa", sum := "3edf2d851ae1eeb432c038fda04f5beb68ea2315642011d3f00b23eeb4b1908a", func := "pentrough/pentroughlaw11.ClusSound", spec := "clusSound", unfollowed := true, recurses := true, apart := false, narrowed := true }
def ClusSoundUptoSaid : Prop := clusSoundUptoRow.holds Try.pinned (OpenSpec.upto clusSoundSpec)

/-- 'pentroughlaw11.ClusFlags', WHERE WHAT IT READS IS OF BULK AT MOST 1048576: true; the input reads as it did. -/
def clusFlagsUptoRow : OpenClaim := { program := "ytdpgdnifabfhgaa", sum := "3edf2d851ae1eeb432c038fda04f5beb68ea2315642011d3f00b23eeb4b1908a", func := "pentrough/pentroughlaw11.ClusFlags", spec := "clusFlags", unfollowed := true, recurses := true, apart := false, narrowed := true }
def ClusFlagsUptoSaid : Prop := clusFlagsUptoRow.holds Try.pinned (OpenSpec.upto clusFlagsSpec)

/-- 'pentroughlaw11.ClusRows', WHERE WHAT IT READS IS OF BULK AT MOST 1048576: true; the input reads as it did. -/
def clusRowsUptoRow : OpenClaim := { program := "ytdpgdnifabfhgaa", sum := "3edf2d851ae1eeb432c038fda04f5beb68ea2315642011d3f00b23eeb4b1908a", func := "pentrough/pentroughlaw11.ClusRows", spec := "clusRows", unfollowed := true, recurses := true, apart := false, narrowed := true }
def ClusRowsUptoSaid : Prop := clusRowsUptoRow.holds Try.pinned (OpenSpec.upto clusRowsSpec)

/-- 'pentroughlaw11.ClusSyllables', WHERE WHAT IT READS IS OF BULK AT MOST 1048576: true; the input reads as it did. -/
def clusSyllablesUptoRow : OpenClaim := { program := "ytdpgdnifabfhgaa", sum := "3edf2d851ae1eeb432c038fda04f5beb68ea2315642011d3f00b23eeb4b1908a", func := "pentrough/pentroughlaw11.ClusSyllables", spec := "clusSyllables", unfollowed := true, recurses := true, apart := false, narrowed := true }
def ClusSyllablesUptoSaid : Prop := clusSyllablesUptoRow.holds Try.pinned (OpenSpec.upto clusSyllablesSpec)

/-- 'pentroughlaw11.ClusExtends', WHERE WHAT IT READS IS OF BULK AT MOST 1048576: true; the input reads as it did. -/
def clusExtendsUptoRow : OpenClaim := { program := "ytdpgdnifabfhgaa", sum := "3edf2d851ae1eeb432c038fda04f5beb68ea2315642011d3f00b23eeb4b1908a", func := "pentrough/pentroughlaw11.ClusExtends", spec := "clusExtends", unfollowed := true, recurses := true, apart := false, narrowed := true }
def ClusExtendsUptoSaid : Prop := clusExtendsUptoRow.holds Try.pinned (OpenSpec.upto clusExtendsSpec)

end Rows
end Go.Proofs.Ytdpgdnifabfhgaa
