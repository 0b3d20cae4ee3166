/-
  DERIVED. GIVEN WITH THE SEED: THE CARDS: each row of YtkolfgmpmnelmaaDoorRows.lean that lists a variable, with what it lists TIED to the program's text (the seventh form; the later family's looks); each row that meets fmt, with fmt's text TOLD by the authors' own Lean function (tested against real Go, not proved from fmt's source: count such statements apart). THE CARD IS WHAT COUNTS. Prove the row's statement (the work); the ties are given (YtkolfgmpmnelmaaDoorTie.lean); close each card by the builder's one call (the guide's Derived/Test/ToyasCard.lean, 'card_holds'). Laid BY PROGRAM, IN A SANDBOX (cutbox-door.mjs). By AI agents, Wed Nov 11 2026. No macro, syntax, notation, axiom, sorry.
-/
import Derived.Test.YtkolfgmpmnelmaaDoorRows
import GoSem.ClaimSeven
namespace Go.Proofs.YtkolfgmpmnelmaaDoor
namespace Rows

/-- THE TIED CARD OF 'salternkeep.SumApart'. -/
def sumApartCard : Claim7 := { stood := { row := sumApartRow, standIns := [], harness := (true, "318a870c5090f9bf85efd2eda194dc27a8149591d4624319e5fb399f9ed020cb"), looks := true }, kinds := [], alts := [], laidByText := true, laidKinds := [.data], laidTests := true, laidLooks := .later }
def SumApartCardSaid : Prop := Claim7.holds Tryd.pinned (.plain (OpenSpec.ofChange sumApartSpec)) sumApartCard

/-- THE TIED CARD OF 'salternlaw.StreamBlocks'. -/
def streamBlocksCard : Claim7 := { stood := { row := streamBlocksRow, standIns := [], harness := (true, "318a870c5090f9bf85efd2eda194dc27a8149591d4624319e5fb399f9ed020cb"), looks := true }, kinds := [], alts := [], laidByText := true, laidKinds := [.handle], laidTests := true, laidLooks := .later }
def StreamBlocksCardSaid : Prop := Claim7.holds Tryd.pinned (.plain (OpenSpec.ofChange streamBlocksSpec)) streamBlocksCard

/-- THE TIED CARD OF 'salternkeep.MeterRises'. -/
def meterRisesCard : Claim7 := { stood := { row := meterRisesRow, standIns := [], harness := (true, "318a870c5090f9bf85efd2eda194dc27a8149591d4624319e5fb399f9ed020cb"), looks := true }, kinds := [], alts := [], laidByText := true, laidKinds := [.data, .handle], laidTests := true, laidLooks := .later }
def MeterRisesCardSaid : Prop := Claim7.holds Tryd.pinned (.plain (OpenSpec.ofChange meterRisesSpec)) meterRisesCard

/-- THE TIED CARD OF 'salternlaw.MeterCounts'. -/
def meterCountsCard : Claim7 := { stood := { row := meterCountsRow, standIns := [], harness := (true, "318a870c5090f9bf85efd2eda194dc27a8149591d4624319e5fb399f9ed020cb"), looks := true }, kinds := [], alts := [], laidByText := true, laidKinds := [.data, .handle], laidTests := true, laidLooks := .later }
def MeterCountsCardSaid : Prop := Claim7.holds Tryd.pinned (.plain (OpenSpec.ofChange meterCountsSpec)) meterCountsCard

/-- THE TIED CARD OF 'salternlaw.SumTells'. -/
def sumTellsCard : Claim7 := { stood := { row := sumTellsRow, standIns := [], harness := (true, "318a870c5090f9bf85efd2eda194dc27a8149591d4624319e5fb399f9ed020cb"), looks := true }, kinds := [], alts := [], laidByText := true, laidKinds := [.data, .data, .data, .data], laidTests := true, laidLooks := .later }
def SumTellsCardSaid : Prop := Claim7.holds Tryd.pinned (.plain (OpenSpec.ofChange sumTellsSpec)) sumTellsCard

/-- THE TIED CARD OF 'salternkeep.SealApart'. -/
def sealApartCard : Claim7 := { stood := { row := sealApartRow, standIns := [], harness := (true, "318a870c5090f9bf85efd2eda194dc27a8149591d4624319e5fb399f9ed020cb"), looks := true }, kinds := [], alts := [], laidByText := true, laidKinds := [.data], laidTests := true, laidLooks := .later }
def SealApartCardSaid : Prop := Claim7.holds Tryd.pinned (.plain (OpenSpec.ofChange sealApartSpec)) sealApartCard

/-- THE SECOND FORM's CARD OF 'salternkeep.SumApart'. -/
def sumApartUptoCard : Claim7 := { stood := { row := sumApartUptoRow, standIns := [], harness := (true, "318a870c5090f9bf85efd2eda194dc27a8149591d4624319e5fb399f9ed020cb"), looks := true }, kinds := [], alts := [], laidByText := true, laidKinds := [.data], laidTests := true, laidLooks := .later }
def SumApartUptoCardSaid : Prop := Claim7.holds Tryd.pinned (.plain (OpenSpec.upto sumApartSpec)) sumApartUptoCard

/-- THE SECOND FORM's CARD OF 'salternlaw.StreamBlocks'. -/
def streamBlocksUptoCard : Claim7 := { stood := { row := streamBlocksUptoRow, standIns := [], harness := (true, "318a870c5090f9bf85efd2eda194dc27a8149591d4624319e5fb399f9ed020cb"), looks := true }, kinds := [], alts := [], laidByText := true, laidKinds := [.handle], laidTests := true, laidLooks := .later }
def StreamBlocksUptoCardSaid : Prop := Claim7.holds Tryd.pinned (.plain (OpenSpec.upto streamBlocksSpec)) streamBlocksUptoCard

/-- THE SECOND FORM's CARD OF 'salternkeep.MeterRises'. -/
def meterRisesUptoCard : Claim7 := { stood := { row := meterRisesUptoRow, standIns := [], harness := (true, "318a870c5090f9bf85efd2eda194dc27a8149591d4624319e5fb399f9ed020cb"), looks := true }, kinds := [], alts := [], laidByText := true, laidKinds := [.data, .handle], laidTests := true, laidLooks := .later }
def MeterRisesUptoCardSaid : Prop := Claim7.holds Tryd.pinned (.plain (OpenSpec.upto meterRisesSpec)) meterRisesUptoCard

/-- THE SECOND FORM's CARD OF 'salternlaw.MeterCounts'. -/
def meterCountsUptoCard : Claim7 := { stood := { row := meterCountsUptoRow, standIns := [], harness := (true, "318a870c5090f9bf85efd2eda194dc27a8149591d4624319e5fb399f9ed020cb"), looks := true }, kinds := [], alts := [], laidByText := true, laidKinds := [.data, .handle], laidTests := true, laidLooks := .later }
def MeterCountsUptoCardSaid : Prop := Claim7.holds Tryd.pinned (.plain (OpenSpec.upto meterCountsSpec)) meterCountsUptoCard

/-- THE SECOND FORM's CARD OF 'salternlaw.SumTells'. -/
def sumTellsUptoCard : Claim7 := { stood := { row := sumTellsUptoRow, standIns := [], harness := (true, "318a870c5090f9bf85efd2eda194dc27a8149591d4624319e5fb399f9ed020cb"), looks := true }, kinds := [], alts := [], laidByText := true, laidKinds := [.data, .data, .data, .data], laidTests := true, laidLooks := .later }
def SumTellsUptoCardSaid : Prop := Claim7.holds Tryd.pinned (.plain (OpenSpec.upto sumTellsSpec)) sumTellsUptoCard

/-- THE SECOND FORM's CARD OF 'salternkeep.SealApart'. -/
def sealApartUptoCard : Claim7 := { stood := { row := sealApartUptoRow, standIns := [], harness := (true, "318a870c5090f9bf85efd2eda194dc27a8149591d4624319e5fb399f9ed020cb"), looks := true }, kinds := [], alts := [], laidByText := true, laidKinds := [.data], laidTests := true, laidLooks := .later }
def SealApartUptoCardSaid : Prop := Claim7.holds Tryd.pinned (.plain (OpenSpec.upto sealApartSpec)) sealApartUptoCard
end Rows
end Go.Proofs.YtkolfgmpmnelmaaDoor
