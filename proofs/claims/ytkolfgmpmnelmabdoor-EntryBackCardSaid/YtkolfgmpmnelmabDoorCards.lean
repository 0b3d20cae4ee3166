/-
  DERIVED. GIVEN WITH THE SEED: THE CARDS: each row of YtkolfgmpmnelmabDoorRows.lean that lists a variable, with what it lists TIED to the program's text (the seventh form; the later family's looks); each row that meets fmt, with fmt's text TOLD by the authors' own Lean function (tested against real Go, not proved from fmt's source: count such statements apart). THE CARD IS WHAT COUNTS. Prove the row's statement (the work); the ties are given (YtkolfgmpmnelmabDoorTie.lean); close each card by the builder's one call (the guide's Derived/Test/ToyasCard.lean, 'card_holds'). Laid BY PROGRAM, IN A SANDBOX (cutbox-door.mjs). By AI agents, Wed Nov 11 2026. No macro, syntax, notation, axiom, sorry.
-/
import Derived.Test.YtkolfgmpmnelmabDoorRows
import GoSem.ClaimSeven
namespace Go.Proofs.YtkolfgmpmnelmabDoor
namespace Rows

/-- THE TIED CARD OF 'salternkeep.ZoneHolds'. -/
def zoneHoldsCard : Claim7 := { stood := { row := zoneHoldsRow, standIns := [], harness := (true, "59962ff6378bdf5bb98db8b8e8366f734ba864e1783d4526d4bde7a92ae95fb3"), looks := true }, kinds := [], alts := [], laidByText := true, laidKinds := [.handle], laidTests := true, laidLooks := .later }
def ZoneHoldsCardSaid : Prop := Claim7.holds Tryd.pinned (.plain (OpenSpec.ofChange zoneHoldsSpec)) zoneHoldsCard

/-- THE TIED CARD OF 'salternkeep.SealBack'. -/
def sealBackCard : Claim7 := { stood := { row := sealBackRow, standIns := [], harness := (true, "59962ff6378bdf5bb98db8b8e8366f734ba864e1783d4526d4bde7a92ae95fb3"), looks := true }, kinds := [], alts := [], laidByText := true, laidKinds := [.data, .handle], laidTests := true, laidLooks := .later }
def SealBackCardSaid : Prop := Claim7.holds Tryd.pinned (.plain (OpenSpec.ofChange sealBackSpec)) sealBackCard

/-- THE TIED CARD OF 'salternlaw.SealSeals'. -/
def sealSealsCard : Claim7 := { stood := { row := sealSealsRow, standIns := [], harness := (true, "59962ff6378bdf5bb98db8b8e8366f734ba864e1783d4526d4bde7a92ae95fb3"), looks := true }, kinds := [], alts := [], laidByText := true, laidKinds := [.data, .handle], laidTests := true, laidLooks := .later }
def SealSealsCardSaid : Prop := Claim7.holds Tryd.pinned (.plain (OpenSpec.ofChange sealSealsSpec)) sealSealsCard

/-- THE TIED CARD OF 'salternlaw.ZoneKeeps'. -/
def zoneKeepsCard : Claim7 := { stood := { row := zoneKeepsRow, standIns := [], harness := (true, "59962ff6378bdf5bb98db8b8e8366f734ba864e1783d4526d4bde7a92ae95fb3"), looks := true }, kinds := [], alts := [], laidByText := true, laidKinds := [.handle], laidTests := true, laidLooks := .later }
def ZoneKeepsCardSaid : Prop := Claim7.holds Tryd.pinned (.plain (OpenSpec.ofChange zoneKeepsSpec)) zoneKeepsCard

/-- THE TIED CARD OF 'salternkeep.ZoneRests'. -/
def zoneRestsCard : Claim7 := { stood := { row := zoneRestsRow, standIns := [], harness := (true, "59962ff6378bdf5bb98db8b8e8366f734ba864e1783d4526d4bde7a92ae95fb3"), looks := true }, kinds := [], alts := [], laidByText := true, laidKinds := [.handle], laidTests := true, laidLooks := .later }
def ZoneRestsCardSaid : Prop := Claim7.holds Tryd.pinned (.plain (OpenSpec.ofChange zoneRestsSpec)) zoneRestsCard

/-- THE TIED CARD OF 'salternkeep.EntryBack'. -/
def entryBackCard : Claim7 := { stood := { row := entryBackRow, standIns := [], harness := (true, "59962ff6378bdf5bb98db8b8e8366f734ba864e1783d4526d4bde7a92ae95fb3"), looks := true }, kinds := [], alts := [], laidByText := true, laidKinds := [.data, .data, .data, .data, .sentinel, .sentinel, .pinned], laidTests := true, laidLooks := .later }
def EntryBackCardSaid : Prop := Claim7.holds Tryd.pinned (.plain (OpenSpec.ofChange entryBackSpec)) entryBackCard

/-- THE TIED CARD OF 'salternkeep.EntryFree'. -/
def entryFreeCard : Claim7 := { stood := { row := entryFreeRow, standIns := [], harness := (true, "59962ff6378bdf5bb98db8b8e8366f734ba864e1783d4526d4bde7a92ae95fb3"), looks := true }, kinds := [], alts := [], laidByText := true, laidKinds := [.data, .data, .data, .data, .sentinel, .sentinel, .pinned], laidTests := true, laidLooks := .later }
def EntryFreeCardSaid : Prop := Claim7.holds Tryd.pinned (.plain (OpenSpec.ofChange entryFreeSpec)) entryFreeCard

/-- THE SECOND FORM's CARD OF 'salternkeep.ZoneHolds'. -/
def zoneHoldsUptoCard : Claim7 := { stood := { row := zoneHoldsUptoRow, standIns := [], harness := (true, "59962ff6378bdf5bb98db8b8e8366f734ba864e1783d4526d4bde7a92ae95fb3"), looks := true }, kinds := [], alts := [], laidByText := true, laidKinds := [.handle], laidTests := true, laidLooks := .later }
def ZoneHoldsUptoCardSaid : Prop := Claim7.holds Tryd.pinned (.plain (OpenSpec.upto zoneHoldsSpec)) zoneHoldsUptoCard

/-- THE SECOND FORM's CARD OF 'salternkeep.SealBack'. -/
def sealBackUptoCard : Claim7 := { stood := { row := sealBackUptoRow, standIns := [], harness := (true, "59962ff6378bdf5bb98db8b8e8366f734ba864e1783d4526d4bde7a92ae95fb3"), looks := true }, kinds := [], alts := [], laidByText := true, laidKinds := [.data, .handle], laidTests := true, laidLooks := .later }
def SealBackUptoCardSaid : Prop := Claim7.holds Tryd.pinned (.plain (OpenSpec.upto sealBackSpec)) sealBackUptoCard

/-- THE SECOND FORM's CARD OF 'salternlaw.SealSeals'. -/
def sealSealsUptoCard : Claim7 := { stood := { row := sealSealsUptoRow, standIns := [], harness := (true, "59962ff6378bdf5bb98db8b8e8366f734ba864e1783d4526d4bde7a92ae95fb3"), looks := true }, kinds := [], alts := [], laidByText := true, laidKinds := [.data, .handle], laidTests := true, laidLooks := .later }
def SealSealsUptoCardSaid : Prop := Claim7.holds Tryd.pinned (.plain (OpenSpec.upto sealSealsSpec)) sealSealsUptoCard

/-- THE SECOND FORM's CARD OF 'salternlaw.ZoneKeeps'. -/
def zoneKeepsUptoCard : Claim7 := { stood := { row := zoneKeepsUptoRow, standIns := [], harness := (true, "59962ff6378bdf5bb98db8b8e8366f734ba864e1783d4526d4bde7a92ae95fb3"), looks := true }, kinds := [], alts := [], laidByText := true, laidKinds := [.handle], laidTests := true, laidLooks := .later }
def ZoneKeepsUptoCardSaid : Prop := Claim7.holds Tryd.pinned (.plain (OpenSpec.upto zoneKeepsSpec)) zoneKeepsUptoCard

/-- THE SECOND FORM's CARD OF 'salternkeep.ZoneRests'. -/
def zoneRestsUptoCard : Claim7 := { stood := { row := zoneRestsUptoRow, standIns := [], harness := (true, "59962ff6378bdf5bb98db8b8e8366f734ba864e1783d4526d4bde7a92ae95fb3"), looks := true }, kinds := [], alts := [], laidByText := true, laidKinds := [.handle], laidTests := true, laidLooks := .later }
def ZoneRestsUptoCardSaid : Prop := Claim7.holds Tryd.pinned (.plain (OpenSpec.upto zoneRestsSpec)) zoneRestsUptoCard

/-- THE SECOND FORM's CARD OF 'salternkeep.EntryBack'. -/
def entryBackUptoCard : Claim7 := { stood := { row := entryBackUptoRow, standIns := [], harness := (true, "59962ff6378bdf5bb98db8b8e8366f734ba864e1783d4526d4bde7a92ae95fb3"), looks := true }, kinds := [], alts := [], laidByText := true, laidKinds := [.data, .data, .data, .data, .sentinel, .sentinel, .pinned], laidTests := true, laidLooks := .later }
def EntryBackUptoCardSaid : Prop := Claim7.holds Tryd.pinned (.plain (OpenSpec.upto entryBackSpec)) entryBackUptoCard

/-- THE SECOND FORM's CARD OF 'salternkeep.EntryFree'. -/
def entryFreeUptoCard : Claim7 := { stood := { row := entryFreeUptoRow, standIns := [], harness := (true, "59962ff6378bdf5bb98db8b8e8366f734ba864e1783d4526d4bde7a92ae95fb3"), looks := true }, kinds := [], alts := [], laidByText := true, laidKinds := [.data, .data, .data, .data, .sentinel, .sentinel, .pinned], laidTests := true, laidLooks := .later }
def EntryFreeUptoCardSaid : Prop := Claim7.holds Tryd.pinned (.plain (OpenSpec.upto entryFreeSpec)) entryFreeUptoCard
end Rows
end Go.Proofs.YtkolfgmpmnelmabDoor
