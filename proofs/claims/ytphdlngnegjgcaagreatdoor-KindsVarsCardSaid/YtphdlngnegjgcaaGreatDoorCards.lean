/-
  DERIVED. GIVEN WITH THE SEED: THE CARDS: each row of YtphdlngnegjgcaaGreatDoorRows.lean that lists a variable, with what it lists TIED to the program's text (the seventh form; the later family's looks); each row that meets fmt, with fmt's text TOLD by the authors' own Lean function (tested against real Go, not proved from fmt's source: count such statements apart). THE CARD IS WHAT COUNTS. Prove the row's statement (the work); the ties are given (YtphdlngnegjgcaaGreatDoorTie.lean); close each card by the builder's one call (the guide's Derived/Test/ToyasCard.lean, 'card_holds'). Laid BY PROGRAM, IN A SANDBOX (cutbox-door.mjs). By AI agents, Wed Nov 11 2026. No macro, syntax, notation, axiom, sorry.
-/
import Derived.Test.YtphdlngnegjgcaaGreatDoorRows
import GoSem.ClaimSeven
namespace Go.Proofs.YtphdlngnegjgcaaGreatDoor
namespace Rows

/-- THE TIED CARD OF 'seedbedlaw05.KindsChecks'. -/
def kindsChecksCard : Claim7 := { stood := { row := kindsChecksRow, standIns := [], harness := (true, "335c1a123ed709cfafc303db1d0ef1d27907b430ce53e05714a9b1ff300de5c3"), looks := true }, kinds := [], alts := [], laidByText := true, laidKinds := [.data, .listed, .data, .pinned], laidTests := true, laidLooks := .later }
def KindsChecksCardSaid : Prop := Claim7.holds Tryz.pinned (.plain (OpenSpec.ofChange kindsChecksSpec)) kindsChecksCard

/-- THE TIED CARD OF 'seedbedlaw05.KindsExprs'. -/
def kindsExprsCard : Claim7 := { stood := { row := kindsExprsRow, standIns := [], harness := (true, "335c1a123ed709cfafc303db1d0ef1d27907b430ce53e05714a9b1ff300de5c3"), looks := true }, kinds := [], alts := [], laidByText := true, laidKinds := [.data, .listed, .data, .pinned], laidTests := true, laidLooks := .later }
def KindsExprsCardSaid : Prop := Claim7.holds Tryz.pinned (.plain (OpenSpec.ofChange kindsExprsSpec)) kindsExprsCard

/-- THE TIED CARD OF 'seedbedlaw05.KindsOrders'. -/
def kindsOrdersCard : Claim7 := { stood := { row := kindsOrdersRow, standIns := [], harness := (true, "335c1a123ed709cfafc303db1d0ef1d27907b430ce53e05714a9b1ff300de5c3"), looks := true }, kinds := [], alts := [], laidByText := true, laidKinds := [.data, .listed, .data, .pinned], laidTests := true, laidLooks := .later }
def KindsOrdersCardSaid : Prop := Claim7.holds Tryz.pinned (.plain (OpenSpec.ofChange kindsOrdersSpec)) kindsOrdersCard

/-- THE TIED CARD OF 'seedbedlaw05.KindsVars'. -/
def kindsVarsCard : Claim7 := { stood := { row := kindsVarsRow, standIns := [], harness := (true, "335c1a123ed709cfafc303db1d0ef1d27907b430ce53e05714a9b1ff300de5c3"), looks := true }, kinds := [], alts := [], laidByText := true, laidKinds := [.data, .listed, .data, .pinned], laidTests := true, laidLooks := .later }
def KindsVarsCardSaid : Prop := Claim7.holds Tryz.pinned (.plain (OpenSpec.ofChange kindsVarsSpec)) kindsVarsCard

/-- THE TIED CARD OF 'seedbedlaw05.KindsFits'. -/
def kindsFitsCard : Claim7 := { stood := { row := kindsFitsRow, standIns := [], harness := (true, "335c1a123ed709cfafc303db1d0ef1d27907b430ce53e05714a9b1ff300de5c3"), looks := true }, kinds := [], alts := [], laidByText := true, laidKinds := [.data, .listed, .data, .pinned], laidTests := true, laidLooks := .later }
def KindsFitsCardSaid : Prop := Claim7.holds Tryz.pinned (.plain (OpenSpec.ofChange kindsFitsSpec)) kindsFitsCard

/-- THE SECOND FORM's CARD OF 'seedbedlaw05.KindsChecks'. -/
def kindsChecksUptoCard : Claim7 := { stood := { row := kindsChecksUptoRow, standIns := [], harness := (true, "335c1a123ed709cfafc303db1d0ef1d27907b430ce53e05714a9b1ff300de5c3"), looks := true }, kinds := [], alts := [], laidByText := true, laidKinds := [.data, .listed, .data, .pinned], laidTests := true, laidLooks := .later }
def KindsChecksUptoCardSaid : Prop := Claim7.holds Tryz.pinned (.plain (OpenSpec.upto kindsChecksSpec)) kindsChecksUptoCard

/-- THE SECOND FORM's CARD OF 'seedbedlaw05.KindsExprs'. -/
def kindsExprsUptoCard : Claim7 := { stood := { row := kindsExprsUptoRow, standIns := [], harness := (true, "335c1a123ed709cfafc303db1d0ef1d27907b430ce53e05714a9b1ff300de5c3"), looks := true }, kinds := [], alts := [], laidByText := true, laidKinds := [.data, .listed, .data, .pinned], laidTests := true, laidLooks := .later }
def KindsExprsUptoCardSaid : Prop := Claim7.holds Tryz.pinned (.plain (OpenSpec.upto kindsExprsSpec)) kindsExprsUptoCard

/-- THE SECOND FORM's CARD OF 'seedbedlaw05.KindsOrders'. -/
def kindsOrdersUptoCard : Claim7 := { stood := { row := kindsOrdersUptoRow, standIns := [], harness := (true, "335c1a123ed709cfafc303db1d0ef1d27907b430ce53e05714a9b1ff300de5c3"), looks := true }, kinds := [], alts := [], laidByText := true, laidKinds := [.data, .listed, .data, .pinned], laidTests := true, laidLooks := .later }
def KindsOrdersUptoCardSaid : Prop := Claim7.holds Tryz.pinned (.plain (OpenSpec.upto kindsOrdersSpec)) kindsOrdersUptoCard

/-- THE SECOND FORM's CARD OF 'seedbedlaw05.KindsVars'. -/
def kindsVarsUptoCard : Claim7 := { stood := { row := kindsVarsUptoRow, standIns := [], harness := (true, "335c1a123ed709cfafc303db1d0ef1d27907b430ce53e05714a9b1ff300de5c3"), looks := true }, kinds := [], alts := [], laidByText := true, laidKinds := [.data, .listed, .data, .pinned], laidTests := true, laidLooks := .later }
def KindsVarsUptoCardSaid : Prop := Claim7.holds Tryz.pinned (.plain (OpenSpec.upto kindsVarsSpec)) kindsVarsUptoCard

/-- THE SECOND FORM's CARD OF 'seedbedlaw05.KindsFits'. -/
def kindsFitsUptoCard : Claim7 := { stood := { row := kindsFitsUptoRow, standIns := [], harness := (true, "335c1a123ed709cfafc303db1d0ef1d27907b430ce53e05714a9b1ff300de5c3"), looks := true }, kinds := [], alts := [], laidByText := true, laidKinds := [.data, .listed, .data, .pinned], laidTests := true, laidLooks := .later }
def KindsFitsUptoCardSaid : Prop := Claim7.holds Tryz.pinned (.plain (OpenSpec.upto kindsFitsSpec)) kindsFitsUptoCard
end Rows
end Go.Proofs.YtphdlngnegjgcaaGreatDoor
