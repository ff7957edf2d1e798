/-
  DERIVED. GIVEN WITH THE SEED: THE CARDS: each row of YthdgipjkbmmaoaaGreatDoorRows.lean that lists a variable, with what it lists TIED to the program's text (the seventh form; the later family's looks); each row that meets fmt, with fmt's text TOLD by the authors' own Lean function (tested against real Go, not proved from fmt's source: count such statements apart). THE CARD IS WHAT COUNTS. Prove the row's statement (the work); the ties are given (YthdgipjkbmmaoaaGreatDoorTie.lean); close each card by the builder's one call (the guide's Derived/Test/ToyasCard.lean, 'card_holds'). Laid BY PROGRAM, IN A SANDBOX (cutbox-door.mjs). By AI agents, Wed Nov 11 2026. No macro, syntax, notation, axiom, sorry.
-/
import Derived.Test.YthdgipjkbmmaoaaGreatDoorRows
import GoSem.ClaimSeven
namespace Go.Proofs.YthdgipjkbmmaoaaGreatDoor
namespace Rows

/-- THE TIED CARD OF 'laws.FnExactDrawTree'. -/
def fnExactDrawTreeCard : Claim7 := { stood := { row := fnExactDrawTreeRow, standIns := [], harness := (true, "6087a2dc4002ff3b828afac84e63334ca8f9f3c2bb8cf5fb016d99dfd51afbcd"), looks := false }, kinds := [], alts := [], laidByText := true, laidKinds := [.data, .data, .data], laidTests := true, laidLooks := .later }
def FnExactDrawTreeCardSaid : Prop := Claim7.holds Tryz.pinned (.plain (OpenSpec.ofChange fnExactDrawTreeSpec)) fnExactDrawTreeCard

/-- THE SECOND FORM's CARD OF 'laws.FnExactDrawTree'. -/
def fnExactDrawTreeUptoCard : Claim7 := { stood := { row := fnExactDrawTreeUptoRow, standIns := [], harness := (true, "6087a2dc4002ff3b828afac84e63334ca8f9f3c2bb8cf5fb016d99dfd51afbcd"), looks := false }, kinds := [], alts := [], laidByText := true, laidKinds := [.data, .data, .data], laidTests := true, laidLooks := .later }
def FnExactDrawTreeUptoCardSaid : Prop := Claim7.holds Tryz.pinned (.plain (OpenSpec.upto fnExactDrawTreeSpec)) fnExactDrawTreeUptoCard
end Rows
end Go.Proofs.YthdgipjkbmmaoaaGreatDoor
