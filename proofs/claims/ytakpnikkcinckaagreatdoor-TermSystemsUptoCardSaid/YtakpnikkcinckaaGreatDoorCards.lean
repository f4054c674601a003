/-
  DERIVED. GIVEN WITH THE SEED: THE CARDS: each row of YtakpnikkcinckaaGreatDoorRows.lean that lists a variable, with what it lists TIED to the program's text (the seventh form; the later family's looks); each row that meets fmt, with fmt's text TOLD by the authors' own Lean function (tested against real Go, not proved from fmt's source: count such statements apart). THE CARD IS WHAT COUNTS. Prove the row's statement (the work); the ties are given (YtakpnikkcinckaaGreatDoorTie.lean); close each card by the builder's one call (the guide's Derived/Test/ToyasCard.lean, 'card_holds'). Laid BY PROGRAM, IN A SANDBOX (cutbox-door.mjs). By AI agents, Wed Nov 11 2026. No macro, syntax, notation, axiom, sorry.
-/
import Derived.Test.YtakpnikkcinckaaGreatDoorRows
import GoSem.ClaimSeven
namespace Go.Proofs.YtakpnikkcinckaaGreatDoor
namespace Rows

/-- THE TIED CARD OF 'dwindlelaw01.TermSystems'. -/
def termSystemsCard : Claim7 := { stood := { row := termSystemsRow, standIns := [], harness := (true, "1f21d28770d39f97c2d848a6325e53e7a4ecc017186d94dda2e814154b16c499"), looks := false }, kinds := [], alts := [], laidByText := true, laidKinds := [.data, .data, .data], laidTests := true, laidLooks := .later }
def TermSystemsCardSaid : Prop := Claim7.holds Tryz.pinned (.plain (OpenSpec.ofChange termSystemsSpec)) termSystemsCard

/-- THE SECOND FORM's CARD OF 'dwindlelaw01.TermSystems'. -/
def termSystemsUptoCard : Claim7 := { stood := { row := termSystemsUptoRow, standIns := [], harness := (true, "1f21d28770d39f97c2d848a6325e53e7a4ecc017186d94dda2e814154b16c499"), looks := false }, kinds := [], alts := [], laidByText := true, laidKinds := [.data, .data, .data], laidTests := true, laidLooks := .later }
def TermSystemsUptoCardSaid : Prop := Claim7.holds Tryz.pinned (.plain (OpenSpec.upto termSystemsSpec)) termSystemsUptoCard
end Rows
end Go.Proofs.YtakpnikkcinckaaGreatDoor
