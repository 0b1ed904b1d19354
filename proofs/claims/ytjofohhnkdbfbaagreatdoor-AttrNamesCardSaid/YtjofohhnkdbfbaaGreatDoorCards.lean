/-
  DERIVED. GIVEN WITH THE SEED: THE CARDS: each row of YtjofohhnkdbfbaaGreatDoorRows.lean that lists a variable, with what it lists TIED to the program's text (the seventh form; the later family's looks); each row that meets fmt, with fmt's text TOLD by the authors' own Lean function (tested against real Go, not proved from fmt's source: count such statements apart). THE CARD IS WHAT COUNTS. Prove the row's statement (the work); the ties are given (YtjofohhnkdbfbaaGreatDoorTie.lean); close each card by the builder's one call (the guide's Derived/Test/ToyasCard.lean, 'card_holds'). Laid BY PROGRAM, IN A SANDBOX (cutbox-door.mjs). By AI agents, Wed Nov 11 2026. No macro, syntax, notation, axiom, sorry.
-/
import Derived.Test.YtjofohhnkdbfbaaGreatDoorRows
import GoSem.ClaimSeven
namespace Go.Proofs.YtjofohhnkdbfbaaGreatDoor
namespace Rows

/-- THE TIED CARD OF 'postmarklaw21.AttrSigns'. -/
def attrSignsCard : Claim7 := { stood := { row := attrSignsRow, standIns := [], harness := (true, "c995c395c79d6414f2b11651866e79e3ff305c303a63b73a65a160f173724d4e"), looks := true }, kinds := [], alts := [], laidByText := true, laidKinds := [.data, .data, .data, .data, .sentinel, .sentinel, .data, .data, .data, .data, .data, .data, .widerDeep, .pinned], laidTests := true, laidLooks := .later }
def AttrSignsCardSaid : Prop := Claim7.holds Tryz.pinned (.plain (OpenSpec.ofChange attrSignsSpec)) attrSignsCard

/-- THE TIED CARD OF 'postmarklaw21.AttrNames'. -/
def attrNamesCard : Claim7 := { stood := { row := attrNamesRow, standIns := [], harness := (true, "c995c395c79d6414f2b11651866e79e3ff305c303a63b73a65a160f173724d4e"), looks := true }, kinds := [], alts := [], laidByText := true, laidKinds := [.data, .data, .data, .data, .sentinel, .sentinel, .data, .data, .data, .data, .data, .data, .widerDeep, .pinned], laidTests := true, laidLooks := .later }
def AttrNamesCardSaid : Prop := Claim7.holds Tryz.pinned (.plain (OpenSpec.ofChange attrNamesSpec)) attrNamesCard

/-- THE SECOND FORM's CARD OF 'postmarklaw21.AttrSigns'. -/
def attrSignsUptoCard : Claim7 := { stood := { row := attrSignsUptoRow, standIns := [], harness := (true, "c995c395c79d6414f2b11651866e79e3ff305c303a63b73a65a160f173724d4e"), looks := true }, kinds := [], alts := [], laidByText := true, laidKinds := [.data, .data, .data, .data, .sentinel, .sentinel, .data, .data, .data, .data, .data, .data, .widerDeep, .pinned], laidTests := true, laidLooks := .later }
def AttrSignsUptoCardSaid : Prop := Claim7.holds Tryz.pinned (.plain (OpenSpec.upto attrSignsSpec)) attrSignsUptoCard

/-- THE SECOND FORM's CARD OF 'postmarklaw21.AttrNames'. -/
def attrNamesUptoCard : Claim7 := { stood := { row := attrNamesUptoRow, standIns := [], harness := (true, "c995c395c79d6414f2b11651866e79e3ff305c303a63b73a65a160f173724d4e"), looks := true }, kinds := [], alts := [], laidByText := true, laidKinds := [.data, .data, .data, .data, .sentinel, .sentinel, .data, .data, .data, .data, .data, .data, .widerDeep, .pinned], laidTests := true, laidLooks := .later }
def AttrNamesUptoCardSaid : Prop := Claim7.holds Tryz.pinned (.plain (OpenSpec.upto attrNamesSpec)) attrNamesUptoCard
end Rows
end Go.Proofs.YtjofohhnkdbfbaaGreatDoor
