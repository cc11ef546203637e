/-
  DERIVED. GIVEN WITH THE SEED: THE CARDS: each row of YtoajecnoffhlbaaDoorRows.lean that lists a variable, with what it lists TIED to the program's text (the seventh form; the later family's looks); each row that meets fmt, with fmt's text TOLD by the authors' own Lean function (tested against real Go, not proved from fmt's source: count such statements apart). THE CARD IS WHAT COUNTS. Prove the row's statement (the work); the ties are given (YtoajecnoffhlbaaDoorTie.lean); close each card by the builder's one call (the guide's Derived/Test/ToyasCard.lean, 'card_holds'). Laid BY PROGRAM, IN A SANDBOX (cutbox-door.mjs). By AI agents, Wed Nov 11 2026. No macro, syntax, notation, axiom, sorry.
-/
import Derived.Test.YtoajecnoffhlbaaDoorRows
import GoSem.ClaimSeven
namespace Go.Proofs.YtoajecnoffhlbaaDoor
namespace Rows

/-- THE TIED CARD OF 'seedbedlaw04.NamesAgain'. -/
def namesAgainCard : Claim7 := { stood := { row := namesAgainRow, standIns := [], harness := (true, "4d5dc5a1e656f69322707b64000a0e782e1d88f20b55e1193e25adccf8ae88c1"), looks := true }, kinds := [], alts := [], laidByText := true, laidKinds := [.data, .listed, .data, .pinned], laidTests := true, laidLooks := .later }
def NamesAgainCardSaid : Prop := Claim7.holds Tryd.pinned (.plain (OpenSpec.ofChange namesAgainSpec)) namesAgainCard

/-- THE TIED CARD OF 'seedbedlaw04.NamesSlots'. -/
def namesSlotsCard : Claim7 := { stood := { row := namesSlotsRow, standIns := [], harness := (true, "4d5dc5a1e656f69322707b64000a0e782e1d88f20b55e1193e25adccf8ae88c1"), looks := true }, kinds := [], alts := [], laidByText := true, laidKinds := [.data, .listed, .data, .pinned], laidTests := true, laidLooks := .later }
def NamesSlotsCardSaid : Prop := Claim7.holds Tryd.pinned (.plain (OpenSpec.ofChange namesSlotsSpec)) namesSlotsCard

/-- THE SECOND FORM's CARD OF 'seedbedlaw04.NamesAgain'. -/
def namesAgainUptoCard : Claim7 := { stood := { row := namesAgainUptoRow, standIns := [], harness := (true, "4d5dc5a1e656f69322707b64000a0e782e1d88f20b55e1193e25adccf8ae88c1"), looks := true }, kinds := [], alts := [], laidByText := true, laidKinds := [.data, .listed, .data, .pinned], laidTests := true, laidLooks := .later }
def NamesAgainUptoCardSaid : Prop := Claim7.holds Tryd.pinned (.plain (OpenSpec.upto namesAgainSpec)) namesAgainUptoCard

/-- THE SECOND FORM's CARD OF 'seedbedlaw04.NamesSlots'. -/
def namesSlotsUptoCard : Claim7 := { stood := { row := namesSlotsUptoRow, standIns := [], harness := (true, "4d5dc5a1e656f69322707b64000a0e782e1d88f20b55e1193e25adccf8ae88c1"), looks := true }, kinds := [], alts := [], laidByText := true, laidKinds := [.data, .listed, .data, .pinned], laidTests := true, laidLooks := .later }
def NamesSlotsUptoCardSaid : Prop := Claim7.holds Tryd.pinned (.plain (OpenSpec.upto namesSlotsSpec)) namesSlotsUptoCard
end Rows
end Go.Proofs.YtoajecnoffhlbaaDoor
