/-
  DERIVED. GIVEN WITH THE SEED: THE CARDS: each row of YtnlilbkddjcjdaaDoorRows.lean that lists a variable, with what it lists TIED to the program's text (the seventh form; the later family's looks); each row that meets fmt, with fmt's text TOLD by the authors' own Lean function (tested against real Go, not proved from fmt's source: count such statements apart). THE CARD IS WHAT COUNTS. Prove the row's statement (the work); the ties are given (YtnlilbkddjcjdaaDoorTie.lean); close each card by the builder's one call (the guide's Derived/Test/ToyasCard.lean, 'card_holds'). Laid BY PROGRAM, IN A SANDBOX (cutbox-door.mjs). By AI agents, Wed Nov 11 2026. No macro, syntax, notation, axiom, sorry.
-/
import Derived.Test.YtnlilbkddjcjdaaDoorRows
import GoSem.ClaimSeven
namespace Go.Proofs.YtnlilbkddjcjdaaDoor
namespace Rows

/-- THE TIED CARD OF 'thimbleriglaw06.FaultWraps'. -/
def faultWrapsCard : Claim7 := { stood := { row := faultWrapsRow, standIns := [], harness := (true, "a8cbc8076a308a26c1a4b4239d0fbc1326cc170d1fae25e07ab08d1052b858d0"), looks := true }, kinds := [], alts := [], laidByText := true, laidKinds := [.handle], laidTests := true, laidLooks := .later }
def FaultWrapsCardSaid : Prop := Claim7.holds Tryd.pinned (.plain (OpenSpec.ofChange faultWrapsSpec)) faultWrapsCard

/-- THE TIED CARD OF 'thimbleriglaw28.TokenSeals'. -/
def tokenSealsCard : Claim7 := { stood := { row := tokenSealsRow, standIns := [], harness := (true, "a8cbc8076a308a26c1a4b4239d0fbc1326cc170d1fae25e07ab08d1052b858d0"), looks := true }, kinds := [], alts := [], laidByText := true, laidKinds := [.data], laidTests := true, laidLooks := .later }
def TokenSealsCardSaid : Prop := Claim7.holds Tryd.pinned (.plain (OpenSpec.ofChange tokenSealsSpec)) tokenSealsCard

/-- THE TIED CARD OF 'thimbleriglaw06.FaultText'. -/
def faultTextCard : Claim7 := { stood := { row := faultTextRow, standIns := [], harness := (true, "a8cbc8076a308a26c1a4b4239d0fbc1326cc170d1fae25e07ab08d1052b858d0"), looks := true }, kinds := [], alts := [], laidByText := true, laidKinds := [.handle], laidTests := true, laidLooks := .later }
def FaultTextCardSaid : Prop := Claim7.holds Tryd.pinned (.plain (OpenSpec.ofChange faultTextSpec)) faultTextCard

/-- THE TIED CARD OF 'thimbleriglaw06.FaultNames'. -/
def faultNamesCard : Claim7 := { stood := { row := faultNamesRow, standIns := [], harness := (true, "a8cbc8076a308a26c1a4b4239d0fbc1326cc170d1fae25e07ab08d1052b858d0"), looks := true }, kinds := [], alts := [], laidByText := true, laidKinds := [.handle], laidTests := true, laidLooks := .later }
def FaultNamesCardSaid : Prop := Claim7.holds Tryd.pinned (.plain (OpenSpec.ofChange faultNamesSpec)) faultNamesCard

/-- THE SECOND FORM's CARD OF 'thimbleriglaw06.FaultWraps'. -/
def faultWrapsUptoCard : Claim7 := { stood := { row := faultWrapsUptoRow, standIns := [], harness := (true, "a8cbc8076a308a26c1a4b4239d0fbc1326cc170d1fae25e07ab08d1052b858d0"), looks := true }, kinds := [], alts := [], laidByText := true, laidKinds := [.handle], laidTests := true, laidLooks := .later }
def FaultWrapsUptoCardSaid : Prop := Claim7.holds Tryd.pinned (.plain (OpenSpec.upto faultWrapsSpec)) faultWrapsUptoCard

/-- THE SECOND FORM's CARD OF 'thimbleriglaw28.TokenSeals'. -/
def tokenSealsUptoCard : Claim7 := { stood := { row := tokenSealsUptoRow, standIns := [], harness := (true, "a8cbc8076a308a26c1a4b4239d0fbc1326cc170d1fae25e07ab08d1052b858d0"), looks := true }, kinds := [], alts := [], laidByText := true, laidKinds := [.data], laidTests := true, laidLooks := .later }
def TokenSealsUptoCardSaid : Prop := Claim7.holds Tryd.pinned (.plain (OpenSpec.upto tokenSealsSpec)) tokenSealsUptoCard

/-- THE SECOND FORM's CARD OF 'thimbleriglaw06.FaultText'. -/
def faultTextUptoCard : Claim7 := { stood := { row := faultTextUptoRow, standIns := [], harness := (true, "a8cbc8076a308a26c1a4b4239d0fbc1326cc170d1fae25e07ab08d1052b858d0"), looks := true }, kinds := [], alts := [], laidByText := true, laidKinds := [.handle], laidTests := true, laidLooks := .later }
def FaultTextUptoCardSaid : Prop := Claim7.holds Tryd.pinned (.plain (OpenSpec.upto faultTextSpec)) faultTextUptoCard

/-- THE SECOND FORM's CARD OF 'thimbleriglaw06.FaultNames'. -/
def faultNamesUptoCard : Claim7 := { stood := { row := faultNamesUptoRow, standIns := [], harness := (true, "a8cbc8076a308a26c1a4b4239d0fbc1326cc170d1fae25e07ab08d1052b858d0"), looks := true }, kinds := [], alts := [], laidByText := true, laidKinds := [.handle], laidTests := true, laidLooks := .later }
def FaultNamesUptoCardSaid : Prop := Claim7.holds Tryd.pinned (.plain (OpenSpec.upto faultNamesSpec)) faultNamesUptoCard
end Rows
end Go.Proofs.YtnlilbkddjcjdaaDoor
