/-
  DERIVED. GIVEN WITH THE SEED: THE CARDS: each row of YtoajecnoffhlbaaGreatDoorRows.lean that lists a variable, with what it lists TIED to the program's text (the seventh form; the later family's looks); each row that meets fmt, with fmt's text TOLD by the authors' own Lean function (tested against real Go, not proved from fmt's source: count such statements apart). THE CARD IS WHAT COUNTS. Prove the row's statement (the work); the ties are given (YtoajecnoffhlbaaGreatDoorTie.lean); close each card by the builder's one call (the guide's Derived/Test/ToyasCard.lean, 'card_holds'). Laid BY PROGRAM, IN A SANDBOX (cutbox-door.mjs). By AI agents, Wed Nov 11 2026. No macro, syntax, notation, axiom, sorry.
-/
import Derived.Test.YtoajecnoffhlbaaGreatDoorRows
import GoSem.ClaimSeven
namespace Go.Proofs.YtoajecnoffhlbaaGreatDoor
namespace Rows

/-- THE TIED CARD OF 'seedbedlaw04.NamesResolves'. -/
def namesResolvesCard : Claim7 := { stood := { row := namesResolvesRow, standIns := [], harness := (true, "ead663c8e7df34f233a6a29ead4c878724ee9b1ddeb2cedca68e1c9d031e9e26"), looks := true }, kinds := [], alts := [], laidByText := true, laidKinds := [.data, .listed, .data, .pinned], laidTests := true, laidLooks := .later }
def NamesResolvesCardSaid : Prop := Claim7.holds Tryz.pinned (.plain (OpenSpec.ofChange namesResolvesSpec)) namesResolvesCard

/-- THE TIED CARD OF 'seedbedlaw04.NamesShielded'. -/
def namesShieldedCard : Claim7 := { stood := { row := namesShieldedRow, standIns := [], harness := (true, "ead663c8e7df34f233a6a29ead4c878724ee9b1ddeb2cedca68e1c9d031e9e26"), looks := true }, kinds := [], alts := [], laidByText := true, laidKinds := [.data, .listed, .data, .pinned], laidTests := true, laidLooks := .later }
def NamesShieldedCardSaid : Prop := Claim7.holds Tryz.pinned (.plain (OpenSpec.ofChange namesShieldedSpec)) namesShieldedCard

/-- THE TIED CARD OF 'seedbedlaw04.NamesStrips'. -/
def namesStripsCard : Claim7 := { stood := { row := namesStripsRow, standIns := [], harness := (true, "ead663c8e7df34f233a6a29ead4c878724ee9b1ddeb2cedca68e1c9d031e9e26"), looks := true }, kinds := [], alts := [], laidByText := true, laidKinds := [.data, .listed, .data, .pinned], laidTests := true, laidLooks := .later }
def NamesStripsCardSaid : Prop := Claim7.holds Tryz.pinned (.plain (OpenSpec.ofChange namesStripsSpec)) namesStripsCard

/-- THE TIED CARD OF 'seedbedlaw04.NamesOwn'. -/
def namesOwnCard : Claim7 := { stood := { row := namesOwnRow, standIns := [], harness := (true, "ead663c8e7df34f233a6a29ead4c878724ee9b1ddeb2cedca68e1c9d031e9e26"), looks := true }, kinds := [], alts := [], laidByText := true, laidKinds := [.data, .listed, .data, .pinned], laidTests := true, laidLooks := .later }
def NamesOwnCardSaid : Prop := Claim7.holds Tryz.pinned (.plain (OpenSpec.ofChange namesOwnSpec)) namesOwnCard

/-- THE TIED CARD OF 'seedbedlaw04.NamesVars'. -/
def namesVarsCard : Claim7 := { stood := { row := namesVarsRow, standIns := [], harness := (true, "ead663c8e7df34f233a6a29ead4c878724ee9b1ddeb2cedca68e1c9d031e9e26"), looks := true }, kinds := [], alts := [], laidByText := true, laidKinds := [.data, .listed, .data, .pinned], laidTests := true, laidLooks := .later }
def NamesVarsCardSaid : Prop := Claim7.holds Tryz.pinned (.plain (OpenSpec.ofChange namesVarsSpec)) namesVarsCard

/-- THE TIED CARD OF 'seedbedlaw04.NamesIndexes'. -/
def namesIndexesCard : Claim7 := { stood := { row := namesIndexesRow, standIns := [], harness := (true, "ead663c8e7df34f233a6a29ead4c878724ee9b1ddeb2cedca68e1c9d031e9e26"), looks := true }, kinds := [], alts := [], laidByText := true, laidKinds := [.data, .listed, .data, .pinned], laidTests := true, laidLooks := .later }
def NamesIndexesCardSaid : Prop := Claim7.holds Tryz.pinned (.plain (OpenSpec.ofChange namesIndexesSpec)) namesIndexesCard

/-- THE TIED CARD OF 'seedbedlaw04.NamesAdded'. -/
def namesAddedCard : Claim7 := { stood := { row := namesAddedRow, standIns := [], harness := (true, "ead663c8e7df34f233a6a29ead4c878724ee9b1ddeb2cedca68e1c9d031e9e26"), looks := true }, kinds := [], alts := [], laidByText := true, laidKinds := [.data, .listed, .data, .pinned], laidTests := true, laidLooks := .later }
def NamesAddedCardSaid : Prop := Claim7.holds Tryz.pinned (.plain (OpenSpec.ofChange namesAddedSpec)) namesAddedCard

/-- THE TIED CARD OF 'seedbedlaw04.NamesRenames'. -/
def namesRenamesCard : Claim7 := { stood := { row := namesRenamesRow, standIns := [], harness := (true, "ead663c8e7df34f233a6a29ead4c878724ee9b1ddeb2cedca68e1c9d031e9e26"), looks := true }, kinds := [], alts := [], laidByText := true, laidKinds := [.data, .listed, .data, .pinned], laidTests := true, laidLooks := .later }
def NamesRenamesCardSaid : Prop := Claim7.holds Tryz.pinned (.plain (OpenSpec.ofChange namesRenamesSpec)) namesRenamesCard

/-- THE TIED CARD OF 'seedbedlaw04.NamesFrees'. -/
def namesFreesCard : Claim7 := { stood := { row := namesFreesRow, standIns := [], harness := (true, "ead663c8e7df34f233a6a29ead4c878724ee9b1ddeb2cedca68e1c9d031e9e26"), looks := true }, kinds := [], alts := [], laidByText := true, laidKinds := [.data, .data, .data, .data, .listed, .data, .pinned], laidTests := true, laidLooks := .later }
def NamesFreesCardSaid : Prop := Claim7.holds Tryz.pinned (.plain (OpenSpec.ofChange namesFreesSpec)) namesFreesCard

/-- THE TIED CARD OF 'seedbedlaw04.NamesBack'. -/
def namesBackCard : Claim7 := { stood := { row := namesBackRow, standIns := [], harness := (true, "ead663c8e7df34f233a6a29ead4c878724ee9b1ddeb2cedca68e1c9d031e9e26"), looks := true }, kinds := [], alts := [], laidByText := true, laidKinds := [.data, .data, .data, .data, .listed, .data, .pinned], laidTests := true, laidLooks := .later }
def NamesBackCardSaid : Prop := Claim7.holds Tryz.pinned (.plain (OpenSpec.ofChange namesBackSpec)) namesBackCard

/-- THE SECOND FORM's CARD OF 'seedbedlaw04.NamesResolves'. -/
def namesResolvesUptoCard : Claim7 := { stood := { row := namesResolvesUptoRow, standIns := [], harness := (true, "ead663c8e7df34f233a6a29ead4c878724ee9b1ddeb2cedca68e1c9d031e9e26"), looks := true }, kinds := [], alts := [], laidByText := true, laidKinds := [.data, .listed, .data, .pinned], laidTests := true, laidLooks := .later }
def NamesResolvesUptoCardSaid : Prop := Claim7.holds Tryz.pinned (.plain (OpenSpec.upto namesResolvesSpec)) namesResolvesUptoCard

/-- THE SECOND FORM's CARD OF 'seedbedlaw04.NamesShielded'. -/
def namesShieldedUptoCard : Claim7 := { stood := { row := namesShieldedUptoRow, standIns := [], harness := (true, "ead663c8e7df34f233a6a29ead4c878724ee9b1ddeb2cedca68e1c9d031e9e26"), looks := true }, kinds := [], alts := [], laidByText := true, laidKinds := [.data, .listed, .data, .pinned], laidTests := true, laidLooks := .later }
def NamesShieldedUptoCardSaid : Prop := Claim7.holds Tryz.pinned (.plain (OpenSpec.upto namesShieldedSpec)) namesShieldedUptoCard

/-- THE SECOND FORM's CARD OF 'seedbedlaw04.NamesStrips'. -/
def namesStripsUptoCard : Claim7 := { stood := { row := namesStripsUptoRow, standIns := [], harness := (true, "ead663c8e7df34f233a6a29ead4c878724ee9b1ddeb2cedca68e1c9d031e9e26"), looks := true }, kinds := [], alts := [], laidByText := true, laidKinds := [.data, .listed, .data, .pinned], laidTests := true, laidLooks := .later }
def NamesStripsUptoCardSaid : Prop := Claim7.holds Tryz.pinned (.plain (OpenSpec.upto namesStripsSpec)) namesStripsUptoCard

/-- THE SECOND FORM's CARD OF 'seedbedlaw04.NamesOwn'. -/
def namesOwnUptoCard : Claim7 := { stood := { row := namesOwnUptoRow, standIns := [], harness := (true, "ead663c8e7df34f233a6a29ead4c878724ee9b1ddeb2cedca68e1c9d031e9e26"), looks := true }, kinds := [], alts := [], laidByText := true, laidKinds := [.data, .listed, .data, .pinned], laidTests := true, laidLooks := .later }
def NamesOwnUptoCardSaid : Prop := Claim7.holds Tryz.pinned (.plain (OpenSpec.upto namesOwnSpec)) namesOwnUptoCard

/-- THE SECOND FORM's CARD OF 'seedbedlaw04.NamesVars'. -/
def namesVarsUptoCard : Claim7 := { stood := { row := namesVarsUptoRow, standIns := [], harness := (true, "ead663c8e7df34f233a6a29ead4c878724ee9b1ddeb2cedca68e1c9d031e9e26"), looks := true }, kinds := [], alts := [], laidByText := true, laidKinds := [.data, .listed, .data, .pinned], laidTests := true, laidLooks := .later }
def NamesVarsUptoCardSaid : Prop := Claim7.holds Tryz.pinned (.plain (OpenSpec.upto namesVarsSpec)) namesVarsUptoCard

/-- THE SECOND FORM's CARD OF 'seedbedlaw04.NamesIndexes'. -/
def namesIndexesUptoCard : Claim7 := { stood := { row := namesIndexesUptoRow, standIns := [], harness := (true, "ead663c8e7df34f233a6a29ead4c878724ee9b1ddeb2cedca68e1c9d031e9e26"), looks := true }, kinds := [], alts := [], laidByText := true, laidKinds := [.data, .listed, .data, .pinned], laidTests := true, laidLooks := .later }
def NamesIndexesUptoCardSaid : Prop := Claim7.holds Tryz.pinned (.plain (OpenSpec.upto namesIndexesSpec)) namesIndexesUptoCard

/-- THE SECOND FORM's CARD OF 'seedbedlaw04.NamesAdded'. -/
def namesAddedUptoCard : Claim7 := { stood := { row := namesAddedUptoRow, standIns := [], harness := (true, "ead663c8e7df34f233a6a29ead4c878724ee9b1ddeb2cedca68e1c9d031e9e26"), looks := true }, kinds := [], alts := [], laidByText := true, laidKinds := [.data, .listed, .data, .pinned], laidTests := true, laidLooks := .later }
def NamesAddedUptoCardSaid : Prop := Claim7.holds Tryz.pinned (.plain (OpenSpec.upto namesAddedSpec)) namesAddedUptoCard

/-- THE SECOND FORM's CARD OF 'seedbedlaw04.NamesRenames'. -/
def namesRenamesUptoCard : Claim7 := { stood := { row := namesRenamesUptoRow, standIns := [], harness := (true, "ead663c8e7df34f233a6a29ead4c878724ee9b1ddeb2cedca68e1c9d031e9e26"), looks := true }, kinds := [], alts := [], laidByText := true, laidKinds := [.data, .listed, .data, .pinned], laidTests := true, laidLooks := .later }
def NamesRenamesUptoCardSaid : Prop := Claim7.holds Tryz.pinned (.plain (OpenSpec.upto namesRenamesSpec)) namesRenamesUptoCard

/-- THE SECOND FORM's CARD OF 'seedbedlaw04.NamesFrees'. -/
def namesFreesUptoCard : Claim7 := { stood := { row := namesFreesUptoRow, standIns := [], harness := (true, "ead663c8e7df34f233a6a29ead4c878724ee9b1ddeb2cedca68e1c9d031e9e26"), looks := true }, kinds := [], alts := [], laidByText := true, laidKinds := [.data, .data, .data, .data, .listed, .data, .pinned], laidTests := true, laidLooks := .later }
def NamesFreesUptoCardSaid : Prop := Claim7.holds Tryz.pinned (.plain (OpenSpec.upto namesFreesSpec)) namesFreesUptoCard

/-- THE SECOND FORM's CARD OF 'seedbedlaw04.NamesBack'. -/
def namesBackUptoCard : Claim7 := { stood := { row := namesBackUptoRow, standIns := [], harness := (true, "ead663c8e7df34f233a6a29ead4c878724ee9b1ddeb2cedca68e1c9d031e9e26"), looks := true }, kinds := [], alts := [], laidByText := true, laidKinds := [.data, .data, .data, .data, .listed, .data, .pinned], laidTests := true, laidLooks := .later }
def NamesBackUptoCardSaid : Prop := Claim7.holds Tryz.pinned (.plain (OpenSpec.upto namesBackSpec)) namesBackUptoCard
end Rows
end Go.Proofs.YtoajecnoffhlbaaGreatDoor
