/-
  DERIVED. GIVEN WITH THE SEED: THE CARDS: each row of YthhepmakjimhlaaDoorRows.lean that lists a variable, with what it lists TIED to the program's text (the seventh form; the later family's looks); each row that meets fmt, with fmt's text TOLD by the authors' own Lean function (tested against real Go, not proved from fmt's source: count such statements apart). THE CARD IS WHAT COUNTS. Prove the row's statement (the work); the ties are given (YthhepmakjimhlaaDoorTie.lean); close each card by the builder's one call (the guide's Derived/Test/ToyasCard.lean, 'card_holds'). Laid BY PROGRAM, IN A SANDBOX (cutbox-door.mjs). By AI agents, Wed Nov 11 2026. No macro, syntax, notation, axiom, sorry.
-/
import Derived.Test.YthhepmakjimhlaaDoorRows
import GoSem.ClaimSeven
namespace Go.Proofs.YthhepmakjimhlaaDoor
namespace Rows

/-- THE TIED CARD OF 'cratewatchlaw.Names'. -/
def namesCard : Claim7 := { stood := { row := namesRow, standIns := [], harness := (true, "c51883006657bd9b63622be3047240f53b2d2f19287f35565662fa721652696e"), looks := true }, kinds := [], alts := [], laidByText := true, laidKinds := [.data, .data, .data], laidTests := true, laidLooks := .later }
def NamesCardSaid : Prop := Claim7.holds Tryd.pinned (.plain (OpenSpec.ofChange namesSpec)) namesCard

/-- THE TIED CARD OF 'cratewatchlaw.TagSays'. -/
def tagSaysCard : Claim7 := { stood := { row := tagSaysRow, standIns := [], harness := (true, "c51883006657bd9b63622be3047240f53b2d2f19287f35565662fa721652696e"), looks := true }, kinds := [], alts := [], laidByText := true, laidKinds := [.data, .data, .data, .data, .pinned], laidTests := true, laidLooks := .later }
def TagSaysCardSaid : Prop := Claim7.holds Tryd.pinned (.plain (OpenSpec.ofChange tagSaysSpec)) tagSaysCard

/-- THE TIED CARD OF 'cratewatchlaw.RuleSays'. -/
def ruleSaysCard : Claim7 := { stood := { row := ruleSaysRow, standIns := [], harness := (true, "c51883006657bd9b63622be3047240f53b2d2f19287f35565662fa721652696e"), looks := true }, kinds := [], alts := [], laidByText := true, laidKinds := [.data, .data, .data, .data, .sentinel, .sentinel, .pinned], laidTests := true, laidLooks := .later }
def RuleSaysCardSaid : Prop := Claim7.holds Tryd.pinned (.plain (OpenSpec.ofChange ruleSaysSpec)) ruleSaysCard

/-- THE SECOND FORM's CARD OF 'cratewatchlaw.Names'. -/
def namesUptoCard : Claim7 := { stood := { row := namesUptoRow, standIns := [], harness := (true, "c51883006657bd9b63622be3047240f53b2d2f19287f35565662fa721652696e"), looks := true }, kinds := [], alts := [], laidByText := true, laidKinds := [.data, .data, .data], laidTests := true, laidLooks := .later }
def NamesUptoCardSaid : Prop := Claim7.holds Tryd.pinned (.plain (OpenSpec.upto namesSpec)) namesUptoCard

/-- THE SECOND FORM's CARD OF 'cratewatchlaw.TagSays'. -/
def tagSaysUptoCard : Claim7 := { stood := { row := tagSaysUptoRow, standIns := [], harness := (true, "c51883006657bd9b63622be3047240f53b2d2f19287f35565662fa721652696e"), looks := true }, kinds := [], alts := [], laidByText := true, laidKinds := [.data, .data, .data, .data, .pinned], laidTests := true, laidLooks := .later }
def TagSaysUptoCardSaid : Prop := Claim7.holds Tryd.pinned (.plain (OpenSpec.upto tagSaysSpec)) tagSaysUptoCard

/-- THE SECOND FORM's CARD OF 'cratewatchlaw.RuleSays'. -/
def ruleSaysUptoCard : Claim7 := { stood := { row := ruleSaysUptoRow, standIns := [], harness := (true, "c51883006657bd9b63622be3047240f53b2d2f19287f35565662fa721652696e"), looks := true }, kinds := [], alts := [], laidByText := true, laidKinds := [.data, .data, .data, .data, .sentinel, .sentinel, .pinned], laidTests := true, laidLooks := .later }
def RuleSaysUptoCardSaid : Prop := Claim7.holds Tryd.pinned (.plain (OpenSpec.upto ruleSaysSpec)) ruleSaysUptoCard
end Rows
end Go.Proofs.YthhepmakjimhlaaDoor
