/-
  DERIVED. GIVEN WITH THE SEED: THE CARDS: each row of YthhepmakjimhlabDoorRows.lean that lists a variable, with what it lists TIED to the program's text (the seventh form; the later family's looks); each row that meets fmt, with fmt's text TOLD by the authors' own Lean function (tested against real Go, not proved from fmt's source: count such statements apart). THE CARD IS WHAT COUNTS. Prove the row's statement (the work); the ties are given (YthhepmakjimhlabDoorTie.lean); close each card by the builder's one call (the guide's Derived/Test/ToyasCard.lean, 'card_holds'). Laid BY PROGRAM, IN A SANDBOX (cutbox-door.mjs). By AI agents, Wed Nov 11 2026. No macro, syntax, notation, axiom, sorry.
-/
import Derived.Test.YthhepmakjimhlabDoorRows
import GoSem.ClaimSeven
namespace Go.Proofs.YthhepmakjimhlabDoor
namespace Rows

/-- THE TIED CARD OF 'cratewatchtop.TopTag'. -/
def topTagCard : Claim7 := { stood := { row := topTagRow, standIns := [], harness := (true, "f0d926cb751c76e395ca0169ae8d14f11df2a9c10f5f909e9a3e4f6b47bf7da5"), looks := true }, kinds := [], alts := [], laidByText := true, laidKinds := [.data, .data, .data, .data, .pinned], laidTests := true, laidLooks := .later }
def TopTagCardSaid : Prop := Claim7.holds Tryd.pinned (.plain (OpenSpec.ofChange topTagSpec)) topTagCard

/-- THE TIED CARD OF 'cratewatchtop.TopRule'. -/
def topRuleCard : Claim7 := { stood := { row := topRuleRow, standIns := [], harness := (true, "f0d926cb751c76e395ca0169ae8d14f11df2a9c10f5f909e9a3e4f6b47bf7da5"), looks := true }, kinds := [], alts := [], laidByText := true, laidKinds := [.data, .data, .data, .data, .sentinel, .sentinel, .pinned], laidTests := true, laidLooks := .later }
def TopRuleCardSaid : Prop := Claim7.holds Tryd.pinned (.plain (OpenSpec.ofChange topRuleSpec)) topRuleCard

/-- THE SECOND FORM's CARD OF 'cratewatchtop.TopTag'. -/
def topTagUptoCard : Claim7 := { stood := { row := topTagUptoRow, standIns := [], harness := (true, "f0d926cb751c76e395ca0169ae8d14f11df2a9c10f5f909e9a3e4f6b47bf7da5"), looks := true }, kinds := [], alts := [], laidByText := true, laidKinds := [.data, .data, .data, .data, .pinned], laidTests := true, laidLooks := .later }
def TopTagUptoCardSaid : Prop := Claim7.holds Tryd.pinned (.plain (OpenSpec.upto topTagSpec)) topTagUptoCard

/-- THE SECOND FORM's CARD OF 'cratewatchtop.TopRule'. -/
def topRuleUptoCard : Claim7 := { stood := { row := topRuleUptoRow, standIns := [], harness := (true, "f0d926cb751c76e395ca0169ae8d14f11df2a9c10f5f909e9a3e4f6b47bf7da5"), looks := true }, kinds := [], alts := [], laidByText := true, laidKinds := [.data, .data, .data, .data, .sentinel, .sentinel, .pinned], laidTests := true, laidLooks := .later }
def TopRuleUptoCardSaid : Prop := Claim7.holds Tryd.pinned (.plain (OpenSpec.upto topRuleSpec)) topRuleUptoCard
end Rows
end Go.Proofs.YthhepmakjimhlabDoor
