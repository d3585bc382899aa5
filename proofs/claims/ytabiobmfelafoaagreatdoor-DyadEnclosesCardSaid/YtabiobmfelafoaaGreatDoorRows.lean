/-
  NARROWER THAN 'FOR EVERY INPUT', by the rows' own cells (each row's printed sentence says how): DyadQuotients: laid · DyadSpans: laid · DyadNear: laid · DyadSums: laid · DyadRounds: laid · DyadChecks: laid · DyadSets: laid · DyadOrders: laid · DyadOne: laid · DyadHulls: laid · DyadEncloses: laid.
  DERIVED. THE GIVEN ROWS OF THIS SEAT. 11 by the template 'for every input the law returns true; each argument reads behind the call as it read before'; 0 by the template 'total and deterministic' (their statements: YtabiobmfelafoaaGreatDoorTotals.lean).
  GIVEN WITH THE SEED: the statements are not yours to turn. If you find one false, say at which input.
  Laid BY PROGRAM, IN A SANDBOX (cutbox-rows.mjs): the forced cells as the released guide's own fill.sh prints them over the translation 83f95dae9c92242e… (all of the seat's roots in one cut). By AI agents, Wed Nov 11 2026. No macro, syntax, notation, axiom, sorry.
-/
import Derived.Test.YtabiobmfelafoaaGreatDoorChecked
import GoSem.Claim
import GoSem.ClaimJoined
import GoSem.ClaimMapViews
import Derived.JoinedTies
import Derived.KernelRfl
namespace Go.Proofs.YtabiobmfelafoaaGreatDoor
/- THE CELL 'sum', in the pinned program and in every row, IS THE sha256 OF THE DUMP (.gsa) THAT YtabiobmfelafoaaGreatDoorProg.lean LOADS. Nothing in Lean hashes anything: it is a label: what it is worth is what the hold of that sum in a sandbox is worth. -/
noncomputable def Tryz.pinned : Pinned := { name := "ytabiobmfelafoaagreatdoor", sum := "83f95dae9c92242e1ef4d0ab7fcddb708590d7e8445a6dcb6f83d749881ab602", checked := Tryz.checked }
namespace Rows
def none {H : Type} : Left H := { results := [], args := [] }

/- WHAT THE LISTED PACKAGE-LEVEL VARIABLES READ AS WHEN THE CALL BEGINS. Each datum BY PROGRAM (the guide's laid-datum.mjs) off the statement by which the dump's own 'gosem.cut.vars' lays the variable. In a bare row this is a premise. The card (YtabiobmfelafoaaGreatDoorCards.lean) ties it to the program's text. -/
def laid_math_bits_deBruijn32tab {H : Type} : DataW H := .agg [.lit (.int .u8 0), .lit (.int .u8 1), .lit (.int .u8 28), .lit (.int .u8 2), .lit (.int .u8 29), .lit (.int .u8 14), .lit (.int .u8 24), .lit (.int .u8 3), .lit (.int .u8 30), .lit (.int .u8 22), .lit (.int .u8 20), .lit (.int .u8 15), .lit (.int .u8 25), .lit (.int .u8 17), .lit (.int .u8 4), .lit (.int .u8 8), .lit (.int .u8 31), .lit (.int .u8 27), .lit (.int .u8 13), .lit (.int .u8 23), .lit (.int .u8 21), .lit (.int .u8 19), .lit (.int .u8 16), .lit (.int .u8 7), .lit (.int .u8 26), .lit (.int .u8 12), .lit (.int .u8 18), .lit (.int .u8 6), .lit (.int .u8 11), .lit (.int .u8 5), .lit (.int .u8 10), .lit (.int .u8 9)]

/-- 'sorobanlaw04.DyadQuotients': WHATEVER THE INPUT: true; the input reads as it did. -/
def dyadQuotientsSpec : ChangeSpec := { name := "dyadQuotients", fn := fun _ => fun
  | [d1, d2, d3] => { results := [.lit (.bool true)], args := [d1, d2, d3] }
  | _ => none }
def dyadQuotientsRow : OpenClaim := { program := "ytabiobmfelafoaagreatdoor", sum := "83f95dae9c92242e1ef4d0ab7fcddb708590d7e8445a6dcb6f83d749881ab602", func := "soroban/sorobanlaw04.DyadQuotients", spec := "dyadQuotients", unfollowed := true, recurses := true, named := ["math/bits.deBruijn32tab"], apart := false, laid := [("math/bits.deBruijn32tab", laid_math_bits_deBruijn32tab)] }
def DyadQuotientsSaid : Prop := dyadQuotientsRow.holds Tryz.pinned (OpenSpec.ofChange dyadQuotientsSpec)

/-- ITS FALSE NEIGHBOUR: 'it returns false'. Refute it at one input. -/
def dyadQuotientsWrong : ChangeSpec := { name := "dyadQuotients", fn := fun _ => fun
  | [d1, d2, d3] => { results := [.lit (.bool false)], args := [d1, d2, d3] }
  | _ => none }
def DyadQuotientsWrongFalsely : Prop := dyadQuotientsRow.holds Tryz.pinned (OpenSpec.ofChange dyadQuotientsWrong)

/-- 'sorobanlaw04.DyadSpans': WHATEVER THE INPUT: true; the input reads as it did. -/
def dyadSpansSpec : ChangeSpec := { name := "dyadSpans", fn := fun _ => fun
  | [d1, d2, d3] => { results := [.lit (.bool true)], args := [d1, d2, d3] }
  | _ => none }
def dyadSpansRow : OpenClaim := { program := "ytabiobmfelafoaagreatdoor", sum := "83f95dae9c92242e1ef4d0ab7fcddb708590d7e8445a6dcb6f83d749881ab602", func := "soroban/sorobanlaw04.DyadSpans", spec := "dyadSpans", unfollowed := true, recurses := true, named := ["math/bits.deBruijn32tab"], apart := false, laid := [("math/bits.deBruijn32tab", laid_math_bits_deBruijn32tab)] }
def DyadSpansSaid : Prop := dyadSpansRow.holds Tryz.pinned (OpenSpec.ofChange dyadSpansSpec)

/-- ITS FALSE NEIGHBOUR: 'it returns false'. Refute it at one input. -/
def dyadSpansWrong : ChangeSpec := { name := "dyadSpans", fn := fun _ => fun
  | [d1, d2, d3] => { results := [.lit (.bool false)], args := [d1, d2, d3] }
  | _ => none }
def DyadSpansWrongFalsely : Prop := dyadSpansRow.holds Tryz.pinned (OpenSpec.ofChange dyadSpansWrong)

/-- 'sorobanlaw04.DyadNear': WHATEVER THE INPUT: true; the input reads as it did. -/
def dyadNearSpec : ChangeSpec := { name := "dyadNear", fn := fun _ => fun
  | [d1, d2, d3] => { results := [.lit (.bool true)], args := [d1, d2, d3] }
  | _ => none }
def dyadNearRow : OpenClaim := { program := "ytabiobmfelafoaagreatdoor", sum := "83f95dae9c92242e1ef4d0ab7fcddb708590d7e8445a6dcb6f83d749881ab602", func := "soroban/sorobanlaw04.DyadNear", spec := "dyadNear", unfollowed := true, recurses := true, named := ["math/bits.deBruijn32tab"], apart := false, laid := [("math/bits.deBruijn32tab", laid_math_bits_deBruijn32tab)] }
def DyadNearSaid : Prop := dyadNearRow.holds Tryz.pinned (OpenSpec.ofChange dyadNearSpec)

/-- ITS FALSE NEIGHBOUR: 'it returns false'. Refute it at one input. -/
def dyadNearWrong : ChangeSpec := { name := "dyadNear", fn := fun _ => fun
  | [d1, d2, d3] => { results := [.lit (.bool false)], args := [d1, d2, d3] }
  | _ => none }
def DyadNearWrongFalsely : Prop := dyadNearRow.holds Tryz.pinned (OpenSpec.ofChange dyadNearWrong)

/-- 'sorobanlaw04.DyadSums': WHATEVER THE INPUT: true; the input reads as it did. -/
def dyadSumsSpec : ChangeSpec := { name := "dyadSums", fn := fun _ => fun
  | [d1, d2, d3] => { results := [.lit (.bool true)], args := [d1, d2, d3] }
  | _ => none }
def dyadSumsRow : OpenClaim := { program := "ytabiobmfelafoaagreatdoor", sum := "83f95dae9c92242e1ef4d0ab7fcddb708590d7e8445a6dcb6f83d749881ab602", func := "soroban/sorobanlaw04.DyadSums", spec := "dyadSums", unfollowed := true, recurses := true, named := ["math/bits.deBruijn32tab"], apart := false, laid := [("math/bits.deBruijn32tab", laid_math_bits_deBruijn32tab)] }
def DyadSumsSaid : Prop := dyadSumsRow.holds Tryz.pinned (OpenSpec.ofChange dyadSumsSpec)

/-- ITS FALSE NEIGHBOUR: 'it returns false'. Refute it at one input. -/
def dyadSumsWrong : ChangeSpec := { name := "dyadSums", fn := fun _ => fun
  | [d1, d2, d3] => { results := [.lit (.bool false)], args := [d1, d2, d3] }
  | _ => none }
def DyadSumsWrongFalsely : Prop := dyadSumsRow.holds Tryz.pinned (OpenSpec.ofChange dyadSumsWrong)

/-- 'sorobanlaw04.DyadRounds': WHATEVER THE INPUT: true; the input reads as it did. -/
def dyadRoundsSpec : ChangeSpec := { name := "dyadRounds", fn := fun _ => fun
  | [d1, d2, d3, d4] => { results := [.lit (.bool true)], args := [d1, d2, d3, d4] }
  | _ => none }
def dyadRoundsRow : OpenClaim := { program := "ytabiobmfelafoaagreatdoor", sum := "83f95dae9c92242e1ef4d0ab7fcddb708590d7e8445a6dcb6f83d749881ab602", func := "soroban/sorobanlaw04.DyadRounds", spec := "dyadRounds", unfollowed := true, recurses := true, named := ["math/bits.deBruijn32tab"], apart := false, laid := [("math/bits.deBruijn32tab", laid_math_bits_deBruijn32tab)] }
def DyadRoundsSaid : Prop := dyadRoundsRow.holds Tryz.pinned (OpenSpec.ofChange dyadRoundsSpec)

/-- ITS FALSE NEIGHBOUR: 'it returns false'. Refute it at one input. -/
def dyadRoundsWrong : ChangeSpec := { name := "dyadRounds", fn := fun _ => fun
  | [d1, d2, d3, d4] => { results := [.lit (.bool false)], args := [d1, d2, d3, d4] }
  | _ => none }
def DyadRoundsWrongFalsely : Prop := dyadRoundsRow.holds Tryz.pinned (OpenSpec.ofChange dyadRoundsWrong)

/-- 'sorobanlaw04.DyadChecks': WHATEVER THE INPUT: true; the input reads as it did. -/
def dyadChecksSpec : ChangeSpec := { name := "dyadChecks", fn := fun _ => fun
  | [d1, d2, d3, d4] => { results := [.lit (.bool true)], args := [d1, d2, d3, d4] }
  | _ => none }
def dyadChecksRow : OpenClaim := { program := "ytabiobmfelafoaagreatdoor", sum := "83f95dae9c92242e1ef4d0ab7fcddb708590d7e8445a6dcb6f83d749881ab602", func := "soroban/sorobanlaw04.DyadChecks", spec := "dyadChecks", unfollowed := true, recurses := true, named := ["math/bits.deBruijn32tab"], apart := false, laid := [("math/bits.deBruijn32tab", laid_math_bits_deBruijn32tab)] }
def DyadChecksSaid : Prop := dyadChecksRow.holds Tryz.pinned (OpenSpec.ofChange dyadChecksSpec)

/-- ITS FALSE NEIGHBOUR: 'it returns false'. Refute it at one input. -/
def dyadChecksWrong : ChangeSpec := { name := "dyadChecks", fn := fun _ => fun
  | [d1, d2, d3, d4] => { results := [.lit (.bool false)], args := [d1, d2, d3, d4] }
  | _ => none }
def DyadChecksWrongFalsely : Prop := dyadChecksRow.holds Tryz.pinned (OpenSpec.ofChange dyadChecksWrong)

/-- 'sorobanlaw04.DyadSets': WHATEVER THE INPUT: true; the input reads as it did. -/
def dyadSetsSpec : ChangeSpec := { name := "dyadSets", fn := fun _ => fun
  | [d1, d2, d3, d4] => { results := [.lit (.bool true)], args := [d1, d2, d3, d4] }
  | _ => none }
def dyadSetsRow : OpenClaim := { program := "ytabiobmfelafoaagreatdoor", sum := "83f95dae9c92242e1ef4d0ab7fcddb708590d7e8445a6dcb6f83d749881ab602", func := "soroban/sorobanlaw04.DyadSets", spec := "dyadSets", unfollowed := true, recurses := true, named := ["math/bits.deBruijn32tab"], apart := false, laid := [("math/bits.deBruijn32tab", laid_math_bits_deBruijn32tab)] }
def DyadSetsSaid : Prop := dyadSetsRow.holds Tryz.pinned (OpenSpec.ofChange dyadSetsSpec)

/-- ITS FALSE NEIGHBOUR: 'it returns false'. Refute it at one input. -/
def dyadSetsWrong : ChangeSpec := { name := "dyadSets", fn := fun _ => fun
  | [d1, d2, d3, d4] => { results := [.lit (.bool false)], args := [d1, d2, d3, d4] }
  | _ => none }
def DyadSetsWrongFalsely : Prop := dyadSetsRow.holds Tryz.pinned (OpenSpec.ofChange dyadSetsWrong)

/-- 'sorobanlaw04.DyadOrders': WHATEVER THE INPUT: true; the input reads as it did. -/
def dyadOrdersSpec : ChangeSpec := { name := "dyadOrders", fn := fun _ => fun
  | [d1, d2, d3] => { results := [.lit (.bool true)], args := [d1, d2, d3] }
  | _ => none }
def dyadOrdersRow : OpenClaim := { program := "ytabiobmfelafoaagreatdoor", sum := "83f95dae9c92242e1ef4d0ab7fcddb708590d7e8445a6dcb6f83d749881ab602", func := "soroban/sorobanlaw04.DyadOrders", spec := "dyadOrders", unfollowed := true, recurses := true, named := ["math/bits.deBruijn32tab"], apart := false, laid := [("math/bits.deBruijn32tab", laid_math_bits_deBruijn32tab)] }
def DyadOrdersSaid : Prop := dyadOrdersRow.holds Tryz.pinned (OpenSpec.ofChange dyadOrdersSpec)

/-- ITS FALSE NEIGHBOUR: 'it returns false'. Refute it at one input. -/
def dyadOrdersWrong : ChangeSpec := { name := "dyadOrders", fn := fun _ => fun
  | [d1, d2, d3] => { results := [.lit (.bool false)], args := [d1, d2, d3] }
  | _ => none }
def DyadOrdersWrongFalsely : Prop := dyadOrdersRow.holds Tryz.pinned (OpenSpec.ofChange dyadOrdersWrong)

/-- 'sorobanlaw04.DyadOne': WHATEVER THE INPUT: true; the input reads as it did. -/
def dyadOneSpec : ChangeSpec := { name := "dyadOne", fn := fun _ => fun
  | [d1, d2, d3] => { results := [.lit (.bool true)], args := [d1, d2, d3] }
  | _ => none }
def dyadOneRow : OpenClaim := { program := "ytabiobmfelafoaagreatdoor", sum := "83f95dae9c92242e1ef4d0ab7fcddb708590d7e8445a6dcb6f83d749881ab602", func := "soroban/sorobanlaw04.DyadOne", spec := "dyadOne", unfollowed := true, recurses := true, named := ["math/bits.deBruijn32tab"], apart := false, laid := [("math/bits.deBruijn32tab", laid_math_bits_deBruijn32tab)] }
def DyadOneSaid : Prop := dyadOneRow.holds Tryz.pinned (OpenSpec.ofChange dyadOneSpec)

/-- ITS FALSE NEIGHBOUR: 'it returns false'. Refute it at one input. -/
def dyadOneWrong : ChangeSpec := { name := "dyadOne", fn := fun _ => fun
  | [d1, d2, d3] => { results := [.lit (.bool false)], args := [d1, d2, d3] }
  | _ => none }
def DyadOneWrongFalsely : Prop := dyadOneRow.holds Tryz.pinned (OpenSpec.ofChange dyadOneWrong)

/-- 'sorobanlaw04.DyadHulls': WHATEVER THE INPUT: true; the input reads as it did. -/
def dyadHullsSpec : ChangeSpec := { name := "dyadHulls", fn := fun _ => fun
  | [d1, d2, d3, d4] => { results := [.lit (.bool true)], args := [d1, d2, d3, d4] }
  | _ => none }
def dyadHullsRow : OpenClaim := { program := "ytabiobmfelafoaagreatdoor", sum := "83f95dae9c92242e1ef4d0ab7fcddb708590d7e8445a6dcb6f83d749881ab602", func := "soroban/sorobanlaw04.DyadHulls", spec := "dyadHulls", unfollowed := true, recurses := true, named := ["math/bits.deBruijn32tab"], apart := false, laid := [("math/bits.deBruijn32tab", laid_math_bits_deBruijn32tab)] }
def DyadHullsSaid : Prop := dyadHullsRow.holds Tryz.pinned (OpenSpec.ofChange dyadHullsSpec)

/-- ITS FALSE NEIGHBOUR: 'it returns false'. Refute it at one input. -/
def dyadHullsWrong : ChangeSpec := { name := "dyadHulls", fn := fun _ => fun
  | [d1, d2, d3, d4] => { results := [.lit (.bool false)], args := [d1, d2, d3, d4] }
  | _ => none }
def DyadHullsWrongFalsely : Prop := dyadHullsRow.holds Tryz.pinned (OpenSpec.ofChange dyadHullsWrong)

/-- 'sorobanlaw04.DyadEncloses': WHATEVER THE INPUT: true; the input reads as it did. -/
def dyadEnclosesSpec : ChangeSpec := { name := "dyadEncloses", fn := fun _ => fun
  | [d1, d2, d3, d4, d5] => { results := [.lit (.bool true)], args := [d1, d2, d3, d4, d5] }
  | _ => none }
def dyadEnclosesRow : OpenClaim := { program := "ytabiobmfelafoaagreatdoor", sum := "83f95dae9c92242e1ef4d0ab7fcddb708590d7e8445a6dcb6f83d749881ab602", func := "soroban/sorobanlaw04.DyadEncloses", spec := "dyadEncloses", unfollowed := true, recurses := true, named := ["math/bits.deBruijn32tab"], apart := false, laid := [("math/bits.deBruijn32tab", laid_math_bits_deBruijn32tab)] }
def DyadEnclosesSaid : Prop := dyadEnclosesRow.holds Tryz.pinned (OpenSpec.ofChange dyadEnclosesSpec)

/-- ITS FALSE NEIGHBOUR: 'it returns false'. Refute it at one input. -/
def dyadEnclosesWrong : ChangeSpec := { name := "dyadEncloses", fn := fun _ => fun
  | [d1, d2, d3, d4, d5] => { results := [.lit (.bool false)], args := [d1, d2, d3, d4, d5] }
  | _ => none }
def DyadEnclosesWrongFalsely : Prop := dyadEnclosesRow.holds Tryz.pinned (OpenSpec.ofChange dyadEnclosesWrong)

/- THE SECOND FORM. 'bulk': how many values and letters a reading holds, each counted each time it is reached (what is shared counts as often as it is met; a slice's spare places count too). A statement '..UptoSaid' is the law's where the arguments, and the package variables that the reading takes, are together of bulk at most 1048576: NARROWER than '..Said'. Prove '..Said' where nothing that the law and all that it calls make is longer than what came in: it says more and counts as full. Else prove '..UptoSaid'. A law counts once. -/
mutual
def uptoBulk {H : Type} : DataW H → Nat
  | .lit (.string bytes) => bytes.length + 1
  | .lit _ => 1
  | .nil => 1
  | .ptr d => uptoBulk d + 1
  | .slice elems spare => uptoBulkAll elems + uptoBulkAll spare + 1
  | .agg parts => uptoBulkAll parts + 1
  | .iface _ d => uptoBulk d + 1
  | .map entries => uptoBulkEntries entries + 1
  | .held _ => 1
def uptoBulkAll {H : Type} : List (DataW H) → Nat
  | [] => 0
  | d :: r => uptoBulk d + uptoBulkAll r
def uptoBulkEntries {H : Type} : List (Lit × DataW H) → Nat
  | [] => 0
  | x :: r => uptoBulkEntry x + uptoBulkEntries r
def uptoBulkEntry {H : Type} : Lit × DataW H → Nat
  | (.string bytes, d) => bytes.length + uptoBulk d + 1
  | (_, d) => uptoBulk d + 1
 end
def uptoSmall : (H : Type) → List (DataW H) → Bool := fun _ ds => decide (uptoBulkAll ds ≤ 1048576)
def OpenSpec.upto (s : _root_.Go.ChangeSpec) : _root_.Go.OpenSpec := { _root_.Go.OpenSpec.ofChange s with cond := some uptoSmall }

/-- 'sorobanlaw04.DyadQuotients', WHERE WHAT IT READS IS OF BULK AT MOST 1048576: true; the input reads as it did. -/
def dyadQuotientsUptoRow : OpenClaim := { program := "ytabiobmfelafoaagreatdoor", sum := "83f95dae9c92242e1ef4d0ab7fcddb708590d7e8445a6dcb6f83d749881ab602", func := "soroban/sorobanlaw04.DyadQuotients", spec := "dyadQuotients", unfollowed := true, recurses := true, named := ["math/bits.deBruijn32tab"], apart := false, laid := [("math/bits.deBruijn32tab", laid_math_bits_deBruijn32tab)], narrowed := true }
def DyadQuotientsUptoSaid : Prop := dyadQuotientsUptoRow.holds Tryz.pinned (OpenSpec.upto dyadQuotientsSpec)

/-- 'sorobanlaw04.DyadSpans', WHERE WHAT IT READS IS OF BULK AT MOST 1048576: true; the input reads as it did. -/
def dyadSpansUptoRow : OpenClaim := { program := "ytabiobmfelafoaagreatdoor", sum := "83f95dae9c92242e1ef4d0ab7fcddb708590d7e8445a6dcb6f83d749881ab602", func := "soroban/sorobanlaw04.DyadSpans", spec := "dyadSpans", unfollowed := true, recurses := true, named := ["math/bits.deBruijn32tab"], apart := false, laid := [("math/bits.deBruijn32tab", laid_math_bits_deBruijn32tab)], narrowed := true }
def DyadSpansUptoSaid : Prop := dyadSpansUptoRow.holds Tryz.pinned (OpenSpec.upto dyadSpansSpec)

/-- 'sorobanlaw04.DyadNear', WHERE WHAT IT READS IS OF BULK AT MOST 1048576: true; the input reads as it did. -/
def dyadNearUptoRow : OpenClaim := { program := "ytabiobmfelafoaagreatdoor", sum := "83f95dae9c92242e1ef4d0ab7fcddb708590d7e8445a6dcb6f83d749881ab602", func := "soroban/sorobanlaw04.DyadNear", spec := "dyadNear", unfollowed := true, recurses := true, named := ["math/bits.deBruijn32tab"], apart := false, laid := [("math/bits.deBruijn32tab", laid_math_bits_deBruijn32tab)], narrowed := true }
def DyadNearUptoSaid : Prop := dyadNearUptoRow.holds Tryz.pinned (OpenSpec.upto dyadNearSpec)

/-- 'sorobanlaw04.DyadSums', WHERE WHAT IT READS IS OF BULK AT MOST 1048576: true; the input reads as it did. -/
def dyadSumsUptoRow : OpenClaim := { program := "ytabiobmfelafoaagreatdoor", sum := "83f95dae9c92242e1ef4d0ab7fcddb708590d7e8445a6dcb6f83d749881ab602", func := "soroban/sorobanlaw04.DyadSums", spec := "dyadSums", unfollowed := true, recurses := true, named := ["math/bits.deBruijn32tab"], apart := false, laid := [("math/bits.deBruijn32tab", laid_math_bits_deBruijn32tab)], narrowed := true }
def DyadSumsUptoSaid : Prop := dyadSumsUptoRow.holds Tryz.pinned (OpenSpec.upto dyadSumsSpec)

/-- 'sorobanlaw04.DyadRounds', WHERE WHAT IT READS IS OF BULK AT MOST 1048576: true; the input reads as it did. -/
def dyadRoundsUptoRow : OpenClaim := { program := "ytabiobmfelafoaagreatdoor", sum := "83f95dae9c92242e1ef4d0ab7fcddb708590d7e8445a6dcb6f83d749881ab602", func := "soroban/sorobanlaw04.DyadRounds", spec := "dyadRounds", unfollowed := true, recurses := true, named := ["math/bits.deBruijn32tab"], apart := false, laid := [("math/bits.deBruijn32tab", laid_math_bits_deBruijn32tab)], narrowed := true }
def DyadRoundsUptoSaid : Prop := dyadRoundsUptoRow.holds Tryz.pinned (OpenSpec.upto dyadRoundsSpec)

/-- 'sorobanlaw04.DyadChecks', WHERE WHAT IT READS IS OF BULK AT MOST 1048576: true; the input reads as it did. -/
def dyadChecksUptoRow : OpenClaim := { program := "ytabiobmfelafoaagreatdoor", sum := "83f95dae9c92242e1ef4d0ab7fcddb708590d7e8445a6dcb6f83d749881ab602", func := "soroban/sorobanlaw04.DyadChecks", spec := "dyadChecks", unfollowed := true, recurses := true, named := ["math/bits.deBruijn32tab"], apart := false, laid := [("math/bits.deBruijn32tab", laid_math_bits_deBruijn32tab)], narrowed := true }
def DyadChecksUptoSaid : Prop := dyadChecksUptoRow.holds Tryz.pinned (OpenSpec.upto dyadChecksSpec)

/-- 'sorobanlaw04.DyadSets', WHERE WHAT IT READS IS OF BULK AT MOST 1048576: true; the input reads as it did. -/
def dyadSetsUptoRow : OpenClaim := { program := "ytabiobmfelafoaagreatdoor", sum := "83f95dae9c92242e1ef4d0ab7fcddb708590d7e8445a6dcb6f83d749881ab602", func := "soroban/sorobanlaw04.DyadSets", spec := "dyadSets", unfollowed := true, recurses := true, named := ["math/bits.deBruijn32tab"], apart := false, laid := [("math/bits.deBruijn32tab", laid_math_bits_deBruijn32tab)], narrowed := true }
def DyadSetsUptoSaid : Prop := dyadSetsUptoRow.holds Tryz.pinned (OpenSpec.upto dyadSetsSpec)

/-- 'sorobanlaw04.DyadOrders', WHERE WHAT IT READS IS OF BULK AT MOST 1048576: true; the input reads as it did. -/
def dyadOrdersUptoRow : OpenClaim := { program := "ytabiobmfelafoaagreatdoor", sum := "83f95dae9c92242e1ef4d0ab7fcddb708590d7e8445a6dcb6f83d749881ab602", func := "soroban/sorobanlaw04.DyadOrders", spec := "dyadOrders", unfollowed := true, recurses := true, named := ["math/bits.deBruijn32tab"], apart := false, laid := [("math/bits.deBruijn32tab", laid_math_bits_deBruijn32tab)], narrowed := true }
def DyadOrdersUptoSaid : Prop := dyadOrdersUptoRow.holds Tryz.pinned (OpenSpec.upto dyadOrdersSpec)

/-- 'sorobanlaw04.DyadOne', WHERE WHAT IT READS IS OF BULK AT MOST 1048576: true; the input reads as it did. -/
def dyadOneUptoRow : OpenClaim := { program := "ytabiobmfelafoaagreatdoor", sum := "83f95dae9c92242e1ef4d0ab7fcddb708590d7e8445a6dcb6f83d749881ab602", func := "soroban/sorobanlaw04.DyadOne", spec := "dyadOne", unfollowed := true, recurses := true, named := ["math/bits.deBruijn32tab"], apart := false, laid := [("math/bits.deBruijn32tab", laid_math_bits_deBruijn32tab)], narrowed := true }
def DyadOneUptoSaid : Prop := dyadOneUptoRow.holds Tryz.pinned (OpenSpec.upto dyadOneSpec)

/-- 'sorobanlaw04.DyadHulls', WHERE WHAT IT READS IS OF BULK AT MOST 1048576: true; the input reads as it did. -/
def dyadHullsUptoRow : OpenClaim := { program := "ytabiobmfelafoaagreatdoor", sum := "83f95dae9c92242e1ef4d0ab7fcddb708590d7e8445a6dcb6f83d749881ab602", func := "soroban/sorobanlaw04.DyadHulls", spec := "dyadHulls", unfollowed := true, recurses := true, named := ["math/bits.deBruijn32tab"], apart := false, laid := [("math/bits.deBruijn32tab", laid_math_bits_deBruijn32tab)], narrowed := true }
def DyadHullsUptoSaid : Prop := dyadHullsUptoRow.holds Tryz.pinned (OpenSpec.upto dyadHullsSpec)

/-- 'sorobanlaw04.DyadEncloses', WHERE WHAT IT READS IS OF BULK AT MOST 1048576: true; the input reads as it did. -/
def dyadEnclosesUptoRow : OpenClaim := { program := "ytabiobmfelafoaagreatdoor", sum := "83f95dae9c92242e1ef4d0ab7fcddb708590d7e8445a6dcb6f83d749881ab602", func := "soroban/sorobanlaw04.DyadEncloses", spec := "dyadEncloses", unfollowed := true, recurses := true, named := ["math/bits.deBruijn32tab"], apart := false, laid := [("math/bits.deBruijn32tab", laid_math_bits_deBruijn32tab)], narrowed := true }
def DyadEnclosesUptoSaid : Prop := dyadEnclosesUptoRow.holds Tryz.pinned (OpenSpec.upto dyadEnclosesSpec)

end Rows
end Go.Proofs.YtabiobmfelafoaaGreatDoor
