/-
  DERIVED. GIVEN WITH THE SEED: THE CARDS: each row of YtcdinjhcnhepeaaGreatDoorRows.lean that lists a variable, with what it lists TIED to the program's text (the seventh form; the later family's looks); each row that meets fmt, with fmt's text TOLD by the authors' own Lean function (tested against real Go, not proved from fmt's source: count such statements apart). THE CARD IS WHAT COUNTS. Prove the row's statement (the work); the ties are given (YtcdinjhcnhepeaaGreatDoorTie.lean); close each card by the builder's one call (the guide's Derived/Test/ToyasCard.lean, 'card_holds'). Laid BY PROGRAM, IN A SANDBOX (cutbox-door.mjs). By AI agents, Wed Nov 11 2026. No macro, syntax, notation, axiom, sorry.
-/
import Derived.Test.YtcdinjhcnhepeaaGreatDoorRows
import GoSem.ClaimSeven
namespace Go.Proofs.YtcdinjhcnhepeaaGreatDoor
namespace Rows

/-- THE TIED CARD OF 'roundelaylaw19.PassesDrops'. -/
def passesDropsCard : Claim7 := { stood := { row := passesDropsRow, standIns := [], harness := (true, "79664b28dea2fec5375730221e2c062c9e019e7136fa4b5f0719e1cb06bae466"), looks := false }, kinds := [], alts := [], laidByText := true, laidKinds := [.data, .pinned], laidTests := true, laidLooks := .later }
def PassesDropsCardSaid : Prop := Claim7.holds Tryz.pinned (.plain (OpenSpec.ofChange passesDropsSpec)) passesDropsCard

/-- THE TIED CARD OF 'roundelaylaw19.PassesPuts'. -/
def passesPutsCard : Claim7 := { stood := { row := passesPutsRow, standIns := [], harness := (true, "79664b28dea2fec5375730221e2c062c9e019e7136fa4b5f0719e1cb06bae466"), looks := false }, kinds := [], alts := [], laidByText := true, laidKinds := [.data, .pinned], laidTests := true, laidLooks := .later }
def PassesPutsCardSaid : Prop := Claim7.holds Tryz.pinned (.plain (OpenSpec.ofChange passesPutsSpec)) passesPutsCard

/-- THE TIED CARD OF 'roundelaylaw19.PassesAll'. -/
def passesAllCard : Claim7 := { stood := { row := passesAllRow, standIns := [], harness := (true, "79664b28dea2fec5375730221e2c062c9e019e7136fa4b5f0719e1cb06bae466"), looks := false }, kinds := [], alts := [], laidByText := true, laidKinds := [.data, .pinned], laidTests := true, laidLooks := .later }
def PassesAllCardSaid : Prop := Claim7.holds Tryz.pinned (.plain (OpenSpec.ofChange passesAllSpec)) passesAllCard

/-- THE TIED CARD OF 'roundelaylaw19.PassesBlocks'. -/
def passesBlocksCard : Claim7 := { stood := { row := passesBlocksRow, standIns := [], harness := (true, "79664b28dea2fec5375730221e2c062c9e019e7136fa4b5f0719e1cb06bae466"), looks := false }, kinds := [], alts := [], laidByText := true, laidKinds := [.data, .pinned], laidTests := true, laidLooks := .later }
def PassesBlocksCardSaid : Prop := Claim7.holds Tryz.pinned (.plain (OpenSpec.ofChange passesBlocksSpec)) passesBlocksCard

/-- THE SECOND FORM's CARD OF 'roundelaylaw19.PassesDrops'. -/
def passesDropsUptoCard : Claim7 := { stood := { row := passesDropsUptoRow, standIns := [], harness := (true, "79664b28dea2fec5375730221e2c062c9e019e7136fa4b5f0719e1cb06bae466"), looks := false }, kinds := [], alts := [], laidByText := true, laidKinds := [.data, .pinned], laidTests := true, laidLooks := .later }
def PassesDropsUptoCardSaid : Prop := Claim7.holds Tryz.pinned (.plain (OpenSpec.upto passesDropsSpec)) passesDropsUptoCard

/-- THE SECOND FORM's CARD OF 'roundelaylaw19.PassesPuts'. -/
def passesPutsUptoCard : Claim7 := { stood := { row := passesPutsUptoRow, standIns := [], harness := (true, "79664b28dea2fec5375730221e2c062c9e019e7136fa4b5f0719e1cb06bae466"), looks := false }, kinds := [], alts := [], laidByText := true, laidKinds := [.data, .pinned], laidTests := true, laidLooks := .later }
def PassesPutsUptoCardSaid : Prop := Claim7.holds Tryz.pinned (.plain (OpenSpec.upto passesPutsSpec)) passesPutsUptoCard

/-- THE SECOND FORM's CARD OF 'roundelaylaw19.PassesAll'. -/
def passesAllUptoCard : Claim7 := { stood := { row := passesAllUptoRow, standIns := [], harness := (true, "79664b28dea2fec5375730221e2c062c9e019e7136fa4b5f0719e1cb06bae466"), looks := false }, kinds := [], alts := [], laidByText := true, laidKinds := [.data, .pinned], laidTests := true, laidLooks := .later }
def PassesAllUptoCardSaid : Prop := Claim7.holds Tryz.pinned (.plain (OpenSpec.upto passesAllSpec)) passesAllUptoCard

/-- THE SECOND FORM's CARD OF 'roundelaylaw19.PassesBlocks'. -/
def passesBlocksUptoCard : Claim7 := { stood := { row := passesBlocksUptoRow, standIns := [], harness := (true, "79664b28dea2fec5375730221e2c062c9e019e7136fa4b5f0719e1cb06bae466"), looks := false }, kinds := [], alts := [], laidByText := true, laidKinds := [.data, .pinned], laidTests := true, laidLooks := .later }
def PassesBlocksUptoCardSaid : Prop := Claim7.holds Tryz.pinned (.plain (OpenSpec.upto passesBlocksSpec)) passesBlocksUptoCard
end Rows
end Go.Proofs.YtcdinjhcnhepeaaGreatDoor
