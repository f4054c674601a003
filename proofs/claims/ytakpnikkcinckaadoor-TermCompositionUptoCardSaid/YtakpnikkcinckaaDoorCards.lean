/-
  DERIVED. GIVEN WITH THE SEED: THE CARDS: each row of YtakpnikkcinckaaDoorRows.lean that lists a variable, with what it lists TIED to the program's text (the seventh form; the later family's looks); each row that meets fmt, with fmt's text TOLD by the authors' own Lean function (tested against real Go, not proved from fmt's source: count such statements apart). THE CARD IS WHAT COUNTS. Prove the row's statement (the work); the ties are given (YtakpnikkcinckaaDoorTie.lean); close each card by the builder's one call (the guide's Derived/Test/ToyasCard.lean, 'card_holds'). Laid BY PROGRAM, IN A SANDBOX (cutbox-door.mjs). By AI agents, Wed Nov 11 2026. No macro, syntax, notation, axiom, sorry.
-/
import Derived.Test.YtakpnikkcinckaaDoorRows
import GoSem.ClaimSeven
namespace Go.Proofs.YtakpnikkcinckaaDoor
namespace Rows

/-- THE TIED CARD OF 'dwindlelaw01.TermVariants'. -/
def termVariantsCard : Claim7 := { stood := { row := termVariantsRow, standIns := [], harness := (true, "c3da7ad778b46ca44f5dc8aa0be251e7a835a45ac241c44901a258ffb41745f6"), looks := false }, kinds := [], alts := [], laidByText := true, laidKinds := [.data, .data, .data], laidTests := true, laidLooks := .later }
def TermVariantsCardSaid : Prop := Claim7.holds Tryd.pinned (.plain (OpenSpec.ofChange termVariantsSpec)) termVariantsCard

/-- THE TIED CARD OF 'dwindlelaw01.TermPlaces'. -/
def termPlacesCard : Claim7 := { stood := { row := termPlacesRow, standIns := [], harness := (true, "c3da7ad778b46ca44f5dc8aa0be251e7a835a45ac241c44901a258ffb41745f6"), looks := false }, kinds := [], alts := [], laidByText := true, laidKinds := [.data, .data, .data], laidTests := true, laidLooks := .later }
def TermPlacesCardSaid : Prop := Claim7.holds Tryd.pinned (.plain (OpenSpec.ofChange termPlacesSpec)) termPlacesCard

/-- THE TIED CARD OF 'dwindlelaw01.TermReplacement'. -/
def termReplacementCard : Claim7 := { stood := { row := termReplacementRow, standIns := [], harness := (true, "c3da7ad778b46ca44f5dc8aa0be251e7a835a45ac241c44901a258ffb41745f6"), looks := false }, kinds := [], alts := [], laidByText := true, laidKinds := [.data, .data, .data], laidTests := true, laidLooks := .later }
def TermReplacementCardSaid : Prop := Claim7.holds Tryd.pinned (.plain (OpenSpec.ofChange termReplacementSpec)) termReplacementCard

/-- THE TIED CARD OF 'dwindlelaw01.TermNames'. -/
def termNamesCard : Claim7 := { stood := { row := termNamesRow, standIns := [], harness := (true, "c3da7ad778b46ca44f5dc8aa0be251e7a835a45ac241c44901a258ffb41745f6"), looks := false }, kinds := [], alts := [], laidByText := true, laidKinds := [.data, .data, .data], laidTests := true, laidLooks := .later }
def TermNamesCardSaid : Prop := Claim7.holds Tryd.pinned (.plain (OpenSpec.ofChange termNamesSpec)) termNamesCard

/-- THE TIED CARD OF 'dwindlelaw01.TermInspects'. -/
def termInspectsCard : Claim7 := { stood := { row := termInspectsRow, standIns := [], harness := (true, "c3da7ad778b46ca44f5dc8aa0be251e7a835a45ac241c44901a258ffb41745f6"), looks := false }, kinds := [], alts := [], laidByText := true, laidKinds := [.data, .data, .data], laidTests := true, laidLooks := .later }
def TermInspectsCardSaid : Prop := Claim7.holds Tryd.pinned (.plain (OpenSpec.ofChange termInspectsSpec)) termInspectsCard

/-- THE TIED CARD OF 'dwindlelaw01.TermSubstitutions'. -/
def termSubstitutionsCard : Claim7 := { stood := { row := termSubstitutionsRow, standIns := [], harness := (true, "c3da7ad778b46ca44f5dc8aa0be251e7a835a45ac241c44901a258ffb41745f6"), looks := false }, kinds := [], alts := [], laidByText := true, laidKinds := [.data, .data, .data], laidTests := true, laidLooks := .later }
def TermSubstitutionsCardSaid : Prop := Claim7.holds Tryd.pinned (.plain (OpenSpec.ofChange termSubstitutionsSpec)) termSubstitutionsCard

/-- THE TIED CARD OF 'dwindlelaw01.TermComposition'. -/
def termCompositionCard : Claim7 := { stood := { row := termCompositionRow, standIns := [], harness := (true, "c3da7ad778b46ca44f5dc8aa0be251e7a835a45ac241c44901a258ffb41745f6"), looks := false }, kinds := [], alts := [], laidByText := true, laidKinds := [.data, .data, .data], laidTests := true, laidLooks := .later }
def TermCompositionCardSaid : Prop := Claim7.holds Tryd.pinned (.plain (OpenSpec.ofChange termCompositionSpec)) termCompositionCard

/-- THE SECOND FORM's CARD OF 'dwindlelaw01.TermVariants'. -/
def termVariantsUptoCard : Claim7 := { stood := { row := termVariantsUptoRow, standIns := [], harness := (true, "c3da7ad778b46ca44f5dc8aa0be251e7a835a45ac241c44901a258ffb41745f6"), looks := false }, kinds := [], alts := [], laidByText := true, laidKinds := [.data, .data, .data], laidTests := true, laidLooks := .later }
def TermVariantsUptoCardSaid : Prop := Claim7.holds Tryd.pinned (.plain (OpenSpec.upto termVariantsSpec)) termVariantsUptoCard

/-- THE SECOND FORM's CARD OF 'dwindlelaw01.TermPlaces'. -/
def termPlacesUptoCard : Claim7 := { stood := { row := termPlacesUptoRow, standIns := [], harness := (true, "c3da7ad778b46ca44f5dc8aa0be251e7a835a45ac241c44901a258ffb41745f6"), looks := false }, kinds := [], alts := [], laidByText := true, laidKinds := [.data, .data, .data], laidTests := true, laidLooks := .later }
def TermPlacesUptoCardSaid : Prop := Claim7.holds Tryd.pinned (.plain (OpenSpec.upto termPlacesSpec)) termPlacesUptoCard

/-- THE SECOND FORM's CARD OF 'dwindlelaw01.TermReplacement'. -/
def termReplacementUptoCard : Claim7 := { stood := { row := termReplacementUptoRow, standIns := [], harness := (true, "c3da7ad778b46ca44f5dc8aa0be251e7a835a45ac241c44901a258ffb41745f6"), looks := false }, kinds := [], alts := [], laidByText := true, laidKinds := [.data, .data, .data], laidTests := true, laidLooks := .later }
def TermReplacementUptoCardSaid : Prop := Claim7.holds Tryd.pinned (.plain (OpenSpec.upto termReplacementSpec)) termReplacementUptoCard

/-- THE SECOND FORM's CARD OF 'dwindlelaw01.TermNames'. -/
def termNamesUptoCard : Claim7 := { stood := { row := termNamesUptoRow, standIns := [], harness := (true, "c3da7ad778b46ca44f5dc8aa0be251e7a835a45ac241c44901a258ffb41745f6"), looks := false }, kinds := [], alts := [], laidByText := true, laidKinds := [.data, .data, .data], laidTests := true, laidLooks := .later }
def TermNamesUptoCardSaid : Prop := Claim7.holds Tryd.pinned (.plain (OpenSpec.upto termNamesSpec)) termNamesUptoCard

/-- THE SECOND FORM's CARD OF 'dwindlelaw01.TermInspects'. -/
def termInspectsUptoCard : Claim7 := { stood := { row := termInspectsUptoRow, standIns := [], harness := (true, "c3da7ad778b46ca44f5dc8aa0be251e7a835a45ac241c44901a258ffb41745f6"), looks := false }, kinds := [], alts := [], laidByText := true, laidKinds := [.data, .data, .data], laidTests := true, laidLooks := .later }
def TermInspectsUptoCardSaid : Prop := Claim7.holds Tryd.pinned (.plain (OpenSpec.upto termInspectsSpec)) termInspectsUptoCard

/-- THE SECOND FORM's CARD OF 'dwindlelaw01.TermSubstitutions'. -/
def termSubstitutionsUptoCard : Claim7 := { stood := { row := termSubstitutionsUptoRow, standIns := [], harness := (true, "c3da7ad778b46ca44f5dc8aa0be251e7a835a45ac241c44901a258ffb41745f6"), looks := false }, kinds := [], alts := [], laidByText := true, laidKinds := [.data, .data, .data], laidTests := true, laidLooks := .later }
def TermSubstitutionsUptoCardSaid : Prop := Claim7.holds Tryd.pinned (.plain (OpenSpec.upto termSubstitutionsSpec)) termSubstitutionsUptoCard

/-- THE SECOND FORM's CARD OF 'dwindlelaw01.TermComposition'. -/
def termCompositionUptoCard : Claim7 := { stood := { row := termCompositionUptoRow, standIns := [], harness := (true, "c3da7ad778b46ca44f5dc8aa0be251e7a835a45ac241c44901a258ffb41745f6"), looks := false }, kinds := [], alts := [], laidByText := true, laidKinds := [.data, .data, .data], laidTests := true, laidLooks := .later }
def TermCompositionUptoCardSaid : Prop := Claim7.holds Tryd.pinned (.plain (OpenSpec.upto termCompositionSpec)) termCompositionUptoCard
end Rows
end Go.Proofs.YtakpnikkcinckaaDoor
