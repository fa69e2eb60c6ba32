/-
  DERIVED. GIVEN WITH THE SEED: THE CARDS: each row of YtocapbnnkfjacaaDoorRows.lean that lists a variable, with what it lists TIED to the program's text (the seventh form; the later family's looks); each row that meets fmt, with fmt's text TOLD by the authors' own Lean function (tested against real Go, not proved from fmt's source: count such statements apart). THE CARD IS WHAT COUNTS. Prove the row's statement (the work); the ties are given (YtocapbnnkfjacaaDoorTie.lean); close each card by the builder's one call (the guide's Derived/Test/ToyasCard.lean, 'card_holds'). Laid BY PROGRAM, IN A SANDBOX (cutbox-door.mjs). By AI agents, Wed Nov 11 2026. No macro, syntax, notation, axiom, sorry.
-/
import Derived.Test.YtocapbnnkfjacaaDoorRows
import GoSem.ClaimSeven
namespace Go.Proofs.YtocapbnnkfjacaaDoor
namespace Rows

/-- THE TIED CARD OF 'pentroughlaw04.DecompIs'. -/
def decompIsCard : Claim7 := { stood := { row := decompIsRow, standIns := [], harness := (true, "2176270a9c7f3a8fe01ca800fed175c8caa35af4498544942035e88f5adf3c5b"), looks := true }, kinds := [], alts := [], laidByText := true, laidKinds := [.data, .data, .data, .data, .sentinel, .sentinel, .pinned, .pinned], laidTests := true, laidLooks := .later }
def DecompIsCardSaid : Prop := Claim7.holds Tryd.pinned (.plain (OpenSpec.ofChange decompIsSpec)) decompIsCard

/-- THE TIED CARD OF 'pentroughlaw04.DecompSyllables'. -/
def decompSyllablesCard : Claim7 := { stood := { row := decompSyllablesRow, standIns := [], harness := (true, "2176270a9c7f3a8fe01ca800fed175c8caa35af4498544942035e88f5adf3c5b"), looks := true }, kinds := [], alts := [], laidByText := true, laidKinds := [.data, .data, .data, .data, .sentinel, .sentinel, .pinned, .pinned], laidTests := true, laidLooks := .later }
def DecompSyllablesCardSaid : Prop := Claim7.holds Tryd.pinned (.plain (OpenSpec.ofChange decompSyllablesSpec)) decompSyllablesCard

/-- THE TIED CARD OF 'pentroughlaw04.DecompOnce'. -/
def decompOnceCard : Claim7 := { stood := { row := decompOnceRow, standIns := [], harness := (true, "2176270a9c7f3a8fe01ca800fed175c8caa35af4498544942035e88f5adf3c5b"), looks := true }, kinds := [], alts := [], laidByText := true, laidKinds := [.data, .data, .data, .data, .sentinel, .sentinel, .pinned, .pinned], laidTests := true, laidLooks := .later }
def DecompOnceCardSaid : Prop := Claim7.holds Tryd.pinned (.plain (OpenSpec.ofChange decompOnceSpec)) decompOnceCard

/-- THE TIED CARD OF 'pentroughlaw04.DecompWide'. -/
def decompWideCard : Claim7 := { stood := { row := decompWideRow, standIns := [], harness := (true, "2176270a9c7f3a8fe01ca800fed175c8caa35af4498544942035e88f5adf3c5b"), looks := true }, kinds := [], alts := [], laidByText := true, laidKinds := [.data, .data, .data, .data, .sentinel, .sentinel, .pinned, .pinned], laidTests := true, laidLooks := .later }
def DecompWideCardSaid : Prop := Claim7.holds Tryd.pinned (.plain (OpenSpec.ofChange decompWideSpec)) decompWideCard

/-- THE SECOND FORM's CARD OF 'pentroughlaw04.DecompIs'. -/
def decompIsUptoCard : Claim7 := { stood := { row := decompIsUptoRow, standIns := [], harness := (true, "2176270a9c7f3a8fe01ca800fed175c8caa35af4498544942035e88f5adf3c5b"), looks := true }, kinds := [], alts := [], laidByText := true, laidKinds := [.data, .data, .data, .data, .sentinel, .sentinel, .pinned, .pinned], laidTests := true, laidLooks := .later }
def DecompIsUptoCardSaid : Prop := Claim7.holds Tryd.pinned (.plain (OpenSpec.upto decompIsSpec)) decompIsUptoCard

/-- THE SECOND FORM's CARD OF 'pentroughlaw04.DecompSyllables'. -/
def decompSyllablesUptoCard : Claim7 := { stood := { row := decompSyllablesUptoRow, standIns := [], harness := (true, "2176270a9c7f3a8fe01ca800fed175c8caa35af4498544942035e88f5adf3c5b"), looks := true }, kinds := [], alts := [], laidByText := true, laidKinds := [.data, .data, .data, .data, .sentinel, .sentinel, .pinned, .pinned], laidTests := true, laidLooks := .later }
def DecompSyllablesUptoCardSaid : Prop := Claim7.holds Tryd.pinned (.plain (OpenSpec.upto decompSyllablesSpec)) decompSyllablesUptoCard

/-- THE SECOND FORM's CARD OF 'pentroughlaw04.DecompOnce'. -/
def decompOnceUptoCard : Claim7 := { stood := { row := decompOnceUptoRow, standIns := [], harness := (true, "2176270a9c7f3a8fe01ca800fed175c8caa35af4498544942035e88f5adf3c5b"), looks := true }, kinds := [], alts := [], laidByText := true, laidKinds := [.data, .data, .data, .data, .sentinel, .sentinel, .pinned, .pinned], laidTests := true, laidLooks := .later }
def DecompOnceUptoCardSaid : Prop := Claim7.holds Tryd.pinned (.plain (OpenSpec.upto decompOnceSpec)) decompOnceUptoCard

/-- THE SECOND FORM's CARD OF 'pentroughlaw04.DecompWide'. -/
def decompWideUptoCard : Claim7 := { stood := { row := decompWideUptoRow, standIns := [], harness := (true, "2176270a9c7f3a8fe01ca800fed175c8caa35af4498544942035e88f5adf3c5b"), looks := true }, kinds := [], alts := [], laidByText := true, laidKinds := [.data, .data, .data, .data, .sentinel, .sentinel, .pinned, .pinned], laidTests := true, laidLooks := .later }
def DecompWideUptoCardSaid : Prop := Claim7.holds Tryd.pinned (.plain (OpenSpec.upto decompWideSpec)) decompWideUptoCard
end Rows
end Go.Proofs.YtocapbnnkfjacaaDoor
