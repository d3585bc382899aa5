/-
  DERIVED. GIVEN WITH THE SEED: THE CARDS: each row of YtabiobmfelafoaaDoorRows.lean that lists a variable, with what it lists TIED to the program's text (the seventh form; the later family's looks); each row that meets fmt, with fmt's text TOLD by the authors' own Lean function (tested against real Go, not proved from fmt's source: count such statements apart). THE CARD IS WHAT COUNTS. Prove the row's statement (the work); the ties are given (YtabiobmfelafoaaDoorTie.lean); close each card by the builder's one call (the guide's Derived/Test/ToyasCard.lean, 'card_holds'). Laid BY PROGRAM, IN A SANDBOX (cutbox-door.mjs). By AI agents, Wed Nov 11 2026. No macro, syntax, notation, axiom, sorry.
-/
import Derived.Test.YtabiobmfelafoaaDoorRows
import GoSem.ClaimSeven
namespace Go.Proofs.YtabiobmfelafoaaDoor
namespace Rows

/-- THE TIED CARD OF 'sorobanlaw04.DyadAlgebra'. -/
def dyadAlgebraCard : Claim7 := { stood := { row := dyadAlgebraRow, standIns := [], harness := (true, "473b4c3cfa5f36a7a1aa8add4075aa4c60caa21d53653413709aa78d3cbebef7"), looks := true }, kinds := [], alts := [], laidByText := true, laidKinds := [.data], laidTests := true, laidLooks := .later }
def DyadAlgebraCardSaid : Prop := Claim7.holds Tryd.pinned (.plain (OpenSpec.ofChange dyadAlgebraSpec)) dyadAlgebraCard

/-- THE TIED CARD OF 'sorobanlaw04.DyadNarrows'. -/
def dyadNarrowsCard : Claim7 := { stood := { row := dyadNarrowsRow, standIns := [], harness := (true, "473b4c3cfa5f36a7a1aa8add4075aa4c60caa21d53653413709aa78d3cbebef7"), looks := true }, kinds := [], alts := [], laidByText := true, laidKinds := [.data], laidTests := true, laidLooks := .later }
def DyadNarrowsCardSaid : Prop := Claim7.holds Tryd.pinned (.plain (OpenSpec.ofChange dyadNarrowsSpec)) dyadNarrowsCard

/-- THE TIED CARD OF 'sorobanlaw04.DyadTight'. -/
def dyadTightCard : Claim7 := { stood := { row := dyadTightRow, standIns := [], harness := (true, "473b4c3cfa5f36a7a1aa8add4075aa4c60caa21d53653413709aa78d3cbebef7"), looks := true }, kinds := [], alts := [], laidByText := true, laidKinds := [.data], laidTests := true, laidLooks := .later }
def DyadTightCardSaid : Prop := Claim7.holds Tryd.pinned (.plain (OpenSpec.ofChange dyadTightSpec)) dyadTightCard

/-- THE SECOND FORM's CARD OF 'sorobanlaw04.DyadAlgebra'. -/
def dyadAlgebraUptoCard : Claim7 := { stood := { row := dyadAlgebraUptoRow, standIns := [], harness := (true, "473b4c3cfa5f36a7a1aa8add4075aa4c60caa21d53653413709aa78d3cbebef7"), looks := true }, kinds := [], alts := [], laidByText := true, laidKinds := [.data], laidTests := true, laidLooks := .later }
def DyadAlgebraUptoCardSaid : Prop := Claim7.holds Tryd.pinned (.plain (OpenSpec.upto dyadAlgebraSpec)) dyadAlgebraUptoCard

/-- THE SECOND FORM's CARD OF 'sorobanlaw04.DyadNarrows'. -/
def dyadNarrowsUptoCard : Claim7 := { stood := { row := dyadNarrowsUptoRow, standIns := [], harness := (true, "473b4c3cfa5f36a7a1aa8add4075aa4c60caa21d53653413709aa78d3cbebef7"), looks := true }, kinds := [], alts := [], laidByText := true, laidKinds := [.data], laidTests := true, laidLooks := .later }
def DyadNarrowsUptoCardSaid : Prop := Claim7.holds Tryd.pinned (.plain (OpenSpec.upto dyadNarrowsSpec)) dyadNarrowsUptoCard

/-- THE SECOND FORM's CARD OF 'sorobanlaw04.DyadTight'. -/
def dyadTightUptoCard : Claim7 := { stood := { row := dyadTightUptoRow, standIns := [], harness := (true, "473b4c3cfa5f36a7a1aa8add4075aa4c60caa21d53653413709aa78d3cbebef7"), looks := true }, kinds := [], alts := [], laidByText := true, laidKinds := [.data], laidTests := true, laidLooks := .later }
def DyadTightUptoCardSaid : Prop := Claim7.holds Tryd.pinned (.plain (OpenSpec.upto dyadTightSpec)) dyadTightUptoCard
end Rows
end Go.Proofs.YtabiobmfelafoaaDoor
