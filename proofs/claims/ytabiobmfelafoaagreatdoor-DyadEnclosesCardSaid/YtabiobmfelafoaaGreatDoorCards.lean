/-
  DERIVED. GIVEN WITH THE SEED: THE CARDS: each row of YtabiobmfelafoaaGreatDoorRows.lean that lists a variable, with what it lists TIED to the program's text (the seventh form; the later family's looks); each row that meets fmt, with fmt's text TOLD by the authors' own Lean function (tested against real Go, not proved from fmt's source: count such statements apart). THE CARD IS WHAT COUNTS. Prove the row's statement (the work); the ties are given (YtabiobmfelafoaaGreatDoorTie.lean); close each card by the builder's one call (the guide's Derived/Test/ToyasCard.lean, 'card_holds'). Laid BY PROGRAM, IN A SANDBOX (cutbox-door.mjs). By AI agents, Wed Nov 11 2026. No macro, syntax, notation, axiom, sorry.
-/
import Derived.Test.YtabiobmfelafoaaGreatDoorRows
import GoSem.ClaimSeven
namespace Go.Proofs.YtabiobmfelafoaaGreatDoor
namespace Rows

/-- THE TIED CARD OF 'sorobanlaw04.DyadQuotients'. -/
def dyadQuotientsCard : Claim7 := { stood := { row := dyadQuotientsRow, standIns := [], harness := (true, "61638970f02b2941bf70a08c46d5c4337576e96da5867b8c882c3bb13d839212"), looks := true }, kinds := [], alts := [], laidByText := true, laidKinds := [.data], laidTests := true, laidLooks := .later }
def DyadQuotientsCardSaid : Prop := Claim7.holds Tryz.pinned (.plain (OpenSpec.ofChange dyadQuotientsSpec)) dyadQuotientsCard

/-- THE TIED CARD OF 'sorobanlaw04.DyadSpans'. -/
def dyadSpansCard : Claim7 := { stood := { row := dyadSpansRow, standIns := [], harness := (true, "61638970f02b2941bf70a08c46d5c4337576e96da5867b8c882c3bb13d839212"), looks := true }, kinds := [], alts := [], laidByText := true, laidKinds := [.data], laidTests := true, laidLooks := .later }
def DyadSpansCardSaid : Prop := Claim7.holds Tryz.pinned (.plain (OpenSpec.ofChange dyadSpansSpec)) dyadSpansCard

/-- THE TIED CARD OF 'sorobanlaw04.DyadNear'. -/
def dyadNearCard : Claim7 := { stood := { row := dyadNearRow, standIns := [], harness := (true, "61638970f02b2941bf70a08c46d5c4337576e96da5867b8c882c3bb13d839212"), looks := true }, kinds := [], alts := [], laidByText := true, laidKinds := [.data], laidTests := true, laidLooks := .later }
def DyadNearCardSaid : Prop := Claim7.holds Tryz.pinned (.plain (OpenSpec.ofChange dyadNearSpec)) dyadNearCard

/-- THE TIED CARD OF 'sorobanlaw04.DyadSums'. -/
def dyadSumsCard : Claim7 := { stood := { row := dyadSumsRow, standIns := [], harness := (true, "61638970f02b2941bf70a08c46d5c4337576e96da5867b8c882c3bb13d839212"), looks := true }, kinds := [], alts := [], laidByText := true, laidKinds := [.data], laidTests := true, laidLooks := .later }
def DyadSumsCardSaid : Prop := Claim7.holds Tryz.pinned (.plain (OpenSpec.ofChange dyadSumsSpec)) dyadSumsCard

/-- THE TIED CARD OF 'sorobanlaw04.DyadRounds'. -/
def dyadRoundsCard : Claim7 := { stood := { row := dyadRoundsRow, standIns := [], harness := (true, "61638970f02b2941bf70a08c46d5c4337576e96da5867b8c882c3bb13d839212"), looks := true }, kinds := [], alts := [], laidByText := true, laidKinds := [.data], laidTests := true, laidLooks := .later }
def DyadRoundsCardSaid : Prop := Claim7.holds Tryz.pinned (.plain (OpenSpec.ofChange dyadRoundsSpec)) dyadRoundsCard

/-- THE TIED CARD OF 'sorobanlaw04.DyadChecks'. -/
def dyadChecksCard : Claim7 := { stood := { row := dyadChecksRow, standIns := [], harness := (true, "61638970f02b2941bf70a08c46d5c4337576e96da5867b8c882c3bb13d839212"), looks := true }, kinds := [], alts := [], laidByText := true, laidKinds := [.data], laidTests := true, laidLooks := .later }
def DyadChecksCardSaid : Prop := Claim7.holds Tryz.pinned (.plain (OpenSpec.ofChange dyadChecksSpec)) dyadChecksCard

/-- THE TIED CARD OF 'sorobanlaw04.DyadSets'. -/
def dyadSetsCard : Claim7 := { stood := { row := dyadSetsRow, standIns := [], harness := (true, "61638970f02b2941bf70a08c46d5c4337576e96da5867b8c882c3bb13d839212"), looks := true }, kinds := [], alts := [], laidByText := true, laidKinds := [.data], laidTests := true, laidLooks := .later }
def DyadSetsCardSaid : Prop := Claim7.holds Tryz.pinned (.plain (OpenSpec.ofChange dyadSetsSpec)) dyadSetsCard

/-- THE TIED CARD OF 'sorobanlaw04.DyadOrders'. -/
def dyadOrdersCard : Claim7 := { stood := { row := dyadOrdersRow, standIns := [], harness := (true, "61638970f02b2941bf70a08c46d5c4337576e96da5867b8c882c3bb13d839212"), looks := true }, kinds := [], alts := [], laidByText := true, laidKinds := [.data], laidTests := true, laidLooks := .later }
def DyadOrdersCardSaid : Prop := Claim7.holds Tryz.pinned (.plain (OpenSpec.ofChange dyadOrdersSpec)) dyadOrdersCard

/-- THE TIED CARD OF 'sorobanlaw04.DyadOne'. -/
def dyadOneCard : Claim7 := { stood := { row := dyadOneRow, standIns := [], harness := (true, "61638970f02b2941bf70a08c46d5c4337576e96da5867b8c882c3bb13d839212"), looks := true }, kinds := [], alts := [], laidByText := true, laidKinds := [.data], laidTests := true, laidLooks := .later }
def DyadOneCardSaid : Prop := Claim7.holds Tryz.pinned (.plain (OpenSpec.ofChange dyadOneSpec)) dyadOneCard

/-- THE TIED CARD OF 'sorobanlaw04.DyadHulls'. -/
def dyadHullsCard : Claim7 := { stood := { row := dyadHullsRow, standIns := [], harness := (true, "61638970f02b2941bf70a08c46d5c4337576e96da5867b8c882c3bb13d839212"), looks := true }, kinds := [], alts := [], laidByText := true, laidKinds := [.data], laidTests := true, laidLooks := .later }
def DyadHullsCardSaid : Prop := Claim7.holds Tryz.pinned (.plain (OpenSpec.ofChange dyadHullsSpec)) dyadHullsCard

/-- THE TIED CARD OF 'sorobanlaw04.DyadEncloses'. -/
def dyadEnclosesCard : Claim7 := { stood := { row := dyadEnclosesRow, standIns := [], harness := (true, "61638970f02b2941bf70a08c46d5c4337576e96da5867b8c882c3bb13d839212"), looks := true }, kinds := [], alts := [], laidByText := true, laidKinds := [.data], laidTests := true, laidLooks := .later }
def DyadEnclosesCardSaid : Prop := Claim7.holds Tryz.pinned (.plain (OpenSpec.ofChange dyadEnclosesSpec)) dyadEnclosesCard

/-- THE SECOND FORM's CARD OF 'sorobanlaw04.DyadQuotients'. -/
def dyadQuotientsUptoCard : Claim7 := { stood := { row := dyadQuotientsUptoRow, standIns := [], harness := (true, "61638970f02b2941bf70a08c46d5c4337576e96da5867b8c882c3bb13d839212"), looks := true }, kinds := [], alts := [], laidByText := true, laidKinds := [.data], laidTests := true, laidLooks := .later }
def DyadQuotientsUptoCardSaid : Prop := Claim7.holds Tryz.pinned (.plain (OpenSpec.upto dyadQuotientsSpec)) dyadQuotientsUptoCard

/-- THE SECOND FORM's CARD OF 'sorobanlaw04.DyadSpans'. -/
def dyadSpansUptoCard : Claim7 := { stood := { row := dyadSpansUptoRow, standIns := [], harness := (true, "61638970f02b2941bf70a08c46d5c4337576e96da5867b8c882c3bb13d839212"), looks := true }, kinds := [], alts := [], laidByText := true, laidKinds := [.data], laidTests := true, laidLooks := .later }
def DyadSpansUptoCardSaid : Prop := Claim7.holds Tryz.pinned (.plain (OpenSpec.upto dyadSpansSpec)) dyadSpansUptoCard

/-- THE SECOND FORM's CARD OF 'sorobanlaw04.DyadNear'. -/
def dyadNearUptoCard : Claim7 := { stood := { row := dyadNearUptoRow, standIns := [], harness := (true, "61638970f02b2941bf70a08c46d5c4337576e96da5867b8c882c3bb13d839212"), looks := true }, kinds := [], alts := [], laidByText := true, laidKinds := [.data], laidTests := true, laidLooks := .later }
def DyadNearUptoCardSaid : Prop := Claim7.holds Tryz.pinned (.plain (OpenSpec.upto dyadNearSpec)) dyadNearUptoCard

/-- THE SECOND FORM's CARD OF 'sorobanlaw04.DyadSums'. -/
def dyadSumsUptoCard : Claim7 := { stood := { row := dyadSumsUptoRow, standIns := [], harness := (true, "61638970f02b2941bf70a08c46d5c4337576e96da5867b8c882c3bb13d839212"), looks := true }, kinds := [], alts := [], laidByText := true, laidKinds := [.data], laidTests := true, laidLooks := .later }
def DyadSumsUptoCardSaid : Prop := Claim7.holds Tryz.pinned (.plain (OpenSpec.upto dyadSumsSpec)) dyadSumsUptoCard

/-- THE SECOND FORM's CARD OF 'sorobanlaw04.DyadRounds'. -/
def dyadRoundsUptoCard : Claim7 := { stood := { row := dyadRoundsUptoRow, standIns := [], harness := (true, "61638970f02b2941bf70a08c46d5c4337576e96da5867b8c882c3bb13d839212"), looks := true }, kinds := [], alts := [], laidByText := true, laidKinds := [.data], laidTests := true, laidLooks := .later }
def DyadRoundsUptoCardSaid : Prop := Claim7.holds Tryz.pinned (.plain (OpenSpec.upto dyadRoundsSpec)) dyadRoundsUptoCard

/-- THE SECOND FORM's CARD OF 'sorobanlaw04.DyadChecks'. -/
def dyadChecksUptoCard : Claim7 := { stood := { row := dyadChecksUptoRow, standIns := [], harness := (true, "61638970f02b2941bf70a08c46d5c4337576e96da5867b8c882c3bb13d839212"), looks := true }, kinds := [], alts := [], laidByText := true, laidKinds := [.data], laidTests := true, laidLooks := .later }
def DyadChecksUptoCardSaid : Prop := Claim7.holds Tryz.pinned (.plain (OpenSpec.upto dyadChecksSpec)) dyadChecksUptoCard

/-- THE SECOND FORM's CARD OF 'sorobanlaw04.DyadSets'. -/
def dyadSetsUptoCard : Claim7 := { stood := { row := dyadSetsUptoRow, standIns := [], harness := (true, "61638970f02b2941bf70a08c46d5c4337576e96da5867b8c882c3bb13d839212"), looks := true }, kinds := [], alts := [], laidByText := true, laidKinds := [.data], laidTests := true, laidLooks := .later }
def DyadSetsUptoCardSaid : Prop := Claim7.holds Tryz.pinned (.plain (OpenSpec.upto dyadSetsSpec)) dyadSetsUptoCard

/-- THE SECOND FORM's CARD OF 'sorobanlaw04.DyadOrders'. -/
def dyadOrdersUptoCard : Claim7 := { stood := { row := dyadOrdersUptoRow, standIns := [], harness := (true, "61638970f02b2941bf70a08c46d5c4337576e96da5867b8c882c3bb13d839212"), looks := true }, kinds := [], alts := [], laidByText := true, laidKinds := [.data], laidTests := true, laidLooks := .later }
def DyadOrdersUptoCardSaid : Prop := Claim7.holds Tryz.pinned (.plain (OpenSpec.upto dyadOrdersSpec)) dyadOrdersUptoCard

/-- THE SECOND FORM's CARD OF 'sorobanlaw04.DyadOne'. -/
def dyadOneUptoCard : Claim7 := { stood := { row := dyadOneUptoRow, standIns := [], harness := (true, "61638970f02b2941bf70a08c46d5c4337576e96da5867b8c882c3bb13d839212"), looks := true }, kinds := [], alts := [], laidByText := true, laidKinds := [.data], laidTests := true, laidLooks := .later }
def DyadOneUptoCardSaid : Prop := Claim7.holds Tryz.pinned (.plain (OpenSpec.upto dyadOneSpec)) dyadOneUptoCard

/-- THE SECOND FORM's CARD OF 'sorobanlaw04.DyadHulls'. -/
def dyadHullsUptoCard : Claim7 := { stood := { row := dyadHullsUptoRow, standIns := [], harness := (true, "61638970f02b2941bf70a08c46d5c4337576e96da5867b8c882c3bb13d839212"), looks := true }, kinds := [], alts := [], laidByText := true, laidKinds := [.data], laidTests := true, laidLooks := .later }
def DyadHullsUptoCardSaid : Prop := Claim7.holds Tryz.pinned (.plain (OpenSpec.upto dyadHullsSpec)) dyadHullsUptoCard

/-- THE SECOND FORM's CARD OF 'sorobanlaw04.DyadEncloses'. -/
def dyadEnclosesUptoCard : Claim7 := { stood := { row := dyadEnclosesUptoRow, standIns := [], harness := (true, "61638970f02b2941bf70a08c46d5c4337576e96da5867b8c882c3bb13d839212"), looks := true }, kinds := [], alts := [], laidByText := true, laidKinds := [.data], laidTests := true, laidLooks := .later }
def DyadEnclosesUptoCardSaid : Prop := Claim7.holds Tryz.pinned (.plain (OpenSpec.upto dyadEnclosesSpec)) dyadEnclosesUptoCard
end Rows
end Go.Proofs.YtabiobmfelafoaaGreatDoor
