/-
  DERIVED. GIVEN WITH THE SEED: THE CARDS: each row of YtoegpkmhifmamaaGreatDoorRows.lean that lists a variable, with what it lists TIED to the program's text (the seventh form; the later family's looks); each row that meets fmt, with fmt's text TOLD by the authors' own Lean function (tested against real Go, not proved from fmt's source: count such statements apart). THE CARD IS WHAT COUNTS. Prove the row's statement (the work); the ties are given (YtoegpkmhifmamaaGreatDoorTie.lean); close each card by the builder's one call (the guide's Derived/Test/ToyasCard.lean, 'card_holds'). Laid BY PROGRAM, IN A SANDBOX (cutbox-door.mjs). By AI agents, Wed Nov 11 2026. No macro, syntax, notation, axiom, sorry.
-/
import Derived.Test.YtoegpkmhifmamaaGreatDoorRows
import GoSem.ClaimSeven
namespace Go.Proofs.YtoegpkmhifmamaaGreatDoor
namespace Rows

/-- THE TIED CARD OF 'seedbedlaw05.KindsWant'. -/
def kindsWantCard : Claim7 := { stood := { row := kindsWantRow, standIns := [], harness := (true, "6530f90eb040ea462f216d28e6627a4480b8d9651eadd39940a0af8e63d03501"), looks := true }, kinds := [], alts := [], laidByText := true, laidKinds := [.data, .listed, .data, .pinned], laidTests := true, laidLooks := .later }
def KindsWantCardSaid : Prop := Claim7.holds Tryz.pinned (.plain (OpenSpec.ofChange kindsWantSpec)) kindsWantCard

/-- THE TIED CARD OF 'seedbedlaw05.KindsLater'. -/
def kindsLaterCard : Claim7 := { stood := { row := kindsLaterRow, standIns := [], harness := (true, "6530f90eb040ea462f216d28e6627a4480b8d9651eadd39940a0af8e63d03501"), looks := true }, kinds := [], alts := [], laidByText := true, laidKinds := [.data, .listed, .data, .pinned], laidTests := true, laidLooks := .later }
def KindsLaterCardSaid : Prop := Claim7.holds Tryz.pinned (.plain (OpenSpec.ofChange kindsLaterSpec)) kindsLaterCard

/-- THE TIED CARD OF 'seedbedlaw05.KindsExchanged'. -/
def kindsExchangedCard : Claim7 := { stood := { row := kindsExchangedRow, standIns := [], harness := (true, "6530f90eb040ea462f216d28e6627a4480b8d9651eadd39940a0af8e63d03501"), looks := true }, kinds := [], alts := [], laidByText := true, laidKinds := [.data, .listed, .data, .pinned], laidTests := true, laidLooks := .later }
def KindsExchangedCardSaid : Prop := Claim7.holds Tryz.pinned (.plain (OpenSpec.ofChange kindsExchangedSpec)) kindsExchangedCard

/-- THE TIED CARD OF 'seedbedlaw05.KindsUsual'. -/
def kindsUsualCard : Claim7 := { stood := { row := kindsUsualRow, standIns := [], harness := (true, "6530f90eb040ea462f216d28e6627a4480b8d9651eadd39940a0af8e63d03501"), looks := true }, kinds := [], alts := [], laidByText := true, laidKinds := [.data, .listed, .data, .pinned], laidTests := true, laidLooks := .later }
def KindsUsualCardSaid : Prop := Claim7.holds Tryz.pinned (.plain (OpenSpec.ofChange kindsUsualSpec)) kindsUsualCard

/-- THE SECOND FORM's CARD OF 'seedbedlaw05.KindsWant'. -/
def kindsWantUptoCard : Claim7 := { stood := { row := kindsWantUptoRow, standIns := [], harness := (true, "6530f90eb040ea462f216d28e6627a4480b8d9651eadd39940a0af8e63d03501"), looks := true }, kinds := [], alts := [], laidByText := true, laidKinds := [.data, .listed, .data, .pinned], laidTests := true, laidLooks := .later }
def KindsWantUptoCardSaid : Prop := Claim7.holds Tryz.pinned (.plain (OpenSpec.upto kindsWantSpec)) kindsWantUptoCard

/-- THE SECOND FORM's CARD OF 'seedbedlaw05.KindsLater'. -/
def kindsLaterUptoCard : Claim7 := { stood := { row := kindsLaterUptoRow, standIns := [], harness := (true, "6530f90eb040ea462f216d28e6627a4480b8d9651eadd39940a0af8e63d03501"), looks := true }, kinds := [], alts := [], laidByText := true, laidKinds := [.data, .listed, .data, .pinned], laidTests := true, laidLooks := .later }
def KindsLaterUptoCardSaid : Prop := Claim7.holds Tryz.pinned (.plain (OpenSpec.upto kindsLaterSpec)) kindsLaterUptoCard

/-- THE SECOND FORM's CARD OF 'seedbedlaw05.KindsExchanged'. -/
def kindsExchangedUptoCard : Claim7 := { stood := { row := kindsExchangedUptoRow, standIns := [], harness := (true, "6530f90eb040ea462f216d28e6627a4480b8d9651eadd39940a0af8e63d03501"), looks := true }, kinds := [], alts := [], laidByText := true, laidKinds := [.data, .listed, .data, .pinned], laidTests := true, laidLooks := .later }
def KindsExchangedUptoCardSaid : Prop := Claim7.holds Tryz.pinned (.plain (OpenSpec.upto kindsExchangedSpec)) kindsExchangedUptoCard

/-- THE SECOND FORM's CARD OF 'seedbedlaw05.KindsUsual'. -/
def kindsUsualUptoCard : Claim7 := { stood := { row := kindsUsualUptoRow, standIns := [], harness := (true, "6530f90eb040ea462f216d28e6627a4480b8d9651eadd39940a0af8e63d03501"), looks := true }, kinds := [], alts := [], laidByText := true, laidKinds := [.data, .listed, .data, .pinned], laidTests := true, laidLooks := .later }
def KindsUsualUptoCardSaid : Prop := Claim7.holds Tryz.pinned (.plain (OpenSpec.upto kindsUsualSpec)) kindsUsualUptoCard
end Rows
end Go.Proofs.YtoegpkmhifmamaaGreatDoor
