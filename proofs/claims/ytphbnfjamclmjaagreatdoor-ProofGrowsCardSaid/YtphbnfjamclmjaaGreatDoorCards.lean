/-
  DERIVED. GIVEN WITH THE SEED: THE CARDS: each row of YtphbnfjamclmjaaGreatDoorRows.lean that lists a variable, with what it lists TIED to the program's text (the seventh form; the later family's looks); each row that meets fmt, with fmt's text TOLD by the authors' own Lean function (tested against real Go, not proved from fmt's source: count such statements apart). THE CARD IS WHAT COUNTS. Prove the row's statement (the work); the ties are given (YtphbnfjamclmjaaGreatDoorTie.lean); close each card by the builder's one call (the guide's Derived/Test/ToyasCard.lean, 'card_holds'). Laid BY PROGRAM, IN A SANDBOX (cutbox-door.mjs). By AI agents, Wed Nov 11 2026. No macro, syntax, notation, axiom, sorry.
-/
import Derived.Test.YtphbnfjamclmjaaGreatDoorRows
import GoSem.ClaimSeven
namespace Go.Proofs.YtphbnfjamclmjaaGreatDoor
namespace Rows

/-- THE TIED CARD OF 'burnbaglaw16.ProofMay'. -/
def proofMayCard : Claim7 := { stood := { row := proofMayRow, standIns := [], harness := (true, "4f7dfa431c059d82a9205536c6d88c83aead6ca2ac115c3d882759c0ffcf6bb5"), looks := true }, kinds := [], alts := [], laidByText := true, laidKinds := [.handle], laidTests := true, laidLooks := .later }
def ProofMayCardSaid : Prop := Claim7.holds Tryz.pinned (.plain (OpenSpec.ofChange proofMaySpec)) proofMayCard

/-- THE TIED CARD OF 'burnbaglaw16.ProofGrows'. -/
def proofGrowsCard : Claim7 := { stood := { row := proofGrowsRow, standIns := [], harness := (true, "4f7dfa431c059d82a9205536c6d88c83aead6ca2ac115c3d882759c0ffcf6bb5"), looks := true }, kinds := [], alts := [], laidByText := true, laidKinds := [.handle], laidTests := true, laidLooks := .later }
def ProofGrowsCardSaid : Prop := Claim7.holds Tryz.pinned (.plain (OpenSpec.ofChange proofGrowsSpec)) proofGrowsCard

/-- THE TIED CARD OF 'burnbaglaw17.OrderTells'. -/
def orderTellsCard : Claim7 := { stood := { row := orderTellsRow, standIns := [], harness := (true, "4f7dfa431c059d82a9205536c6d88c83aead6ca2ac115c3d882759c0ffcf6bb5"), looks := true }, kinds := [], alts := [], laidByText := true, laidKinds := [.data, .data, .data, .handle], laidTests := true, laidLooks := .later }
def OrderTellsCardSaid : Prop := Claim7.holds Tryz.pinned (.plain (OpenSpec.ofChange orderTellsSpec)) orderTellsCard

/-- THE TIED CARD OF 'burnbaglaw17.OrderMany'. -/
def orderManyCard : Claim7 := { stood := { row := orderManyRow, standIns := [], harness := (true, "4f7dfa431c059d82a9205536c6d88c83aead6ca2ac115c3d882759c0ffcf6bb5"), looks := true }, kinds := [], alts := [], laidByText := true, laidKinds := [.data, .data, .data, .handle], laidTests := true, laidLooks := .later }
def OrderManyCardSaid : Prop := Claim7.holds Tryz.pinned (.plain (OpenSpec.ofChange orderManySpec)) orderManyCard

/-- THE SECOND FORM's CARD OF 'burnbaglaw16.ProofMay'. -/
def proofMayUptoCard : Claim7 := { stood := { row := proofMayUptoRow, standIns := [], harness := (true, "4f7dfa431c059d82a9205536c6d88c83aead6ca2ac115c3d882759c0ffcf6bb5"), looks := true }, kinds := [], alts := [], laidByText := true, laidKinds := [.handle], laidTests := true, laidLooks := .later }
def ProofMayUptoCardSaid : Prop := Claim7.holds Tryz.pinned (.plain (OpenSpec.upto proofMaySpec)) proofMayUptoCard

/-- THE SECOND FORM's CARD OF 'burnbaglaw16.ProofGrows'. -/
def proofGrowsUptoCard : Claim7 := { stood := { row := proofGrowsUptoRow, standIns := [], harness := (true, "4f7dfa431c059d82a9205536c6d88c83aead6ca2ac115c3d882759c0ffcf6bb5"), looks := true }, kinds := [], alts := [], laidByText := true, laidKinds := [.handle], laidTests := true, laidLooks := .later }
def ProofGrowsUptoCardSaid : Prop := Claim7.holds Tryz.pinned (.plain (OpenSpec.upto proofGrowsSpec)) proofGrowsUptoCard

/-- THE SECOND FORM's CARD OF 'burnbaglaw17.OrderTells'. -/
def orderTellsUptoCard : Claim7 := { stood := { row := orderTellsUptoRow, standIns := [], harness := (true, "4f7dfa431c059d82a9205536c6d88c83aead6ca2ac115c3d882759c0ffcf6bb5"), looks := true }, kinds := [], alts := [], laidByText := true, laidKinds := [.data, .data, .data, .handle], laidTests := true, laidLooks := .later }
def OrderTellsUptoCardSaid : Prop := Claim7.holds Tryz.pinned (.plain (OpenSpec.upto orderTellsSpec)) orderTellsUptoCard

/-- THE SECOND FORM's CARD OF 'burnbaglaw17.OrderMany'. -/
def orderManyUptoCard : Claim7 := { stood := { row := orderManyUptoRow, standIns := [], harness := (true, "4f7dfa431c059d82a9205536c6d88c83aead6ca2ac115c3d882759c0ffcf6bb5"), looks := true }, kinds := [], alts := [], laidByText := true, laidKinds := [.data, .data, .data, .handle], laidTests := true, laidLooks := .later }
def OrderManyUptoCardSaid : Prop := Claim7.holds Tryz.pinned (.plain (OpenSpec.upto orderManySpec)) orderManyUptoCard
end Rows
end Go.Proofs.YtphbnfjamclmjaaGreatDoor
