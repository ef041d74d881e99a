/-
  DERIVED. GIVEN WITH THE SEED: THE CARDS: each row of YtgbaedjegdcloaaGreatDoorRows.lean that lists a variable, with what it lists TIED to the program's text (the seventh form; the later family's looks); each row that meets fmt, with fmt's text TOLD by the authors' own Lean function (tested against real Go, not proved from fmt's source: count such statements apart). THE CARD IS WHAT COUNTS. Prove the row's statement (the work); the ties are given (YtgbaedjegdcloaaGreatDoorTie.lean); close each card by the builder's one call (the guide's Derived/Test/ToyasCard.lean, 'card_holds'). Laid BY PROGRAM, IN A SANDBOX (cutbox-door.mjs). By AI agents, Wed Nov 11 2026. No macro, syntax, notation, axiom, sorry.
-/
import Derived.Test.YtgbaedjegdcloaaGreatDoorRows
import GoSem.ClaimSeven
namespace Go.Proofs.YtgbaedjegdcloaaGreatDoor
namespace Rows

/-- THE TIED CARD OF 'proteuslaw06.LookCertified'. -/
def lookCertifiedCard : Claim7 := { stood := { row := lookCertifiedRow, standIns := [], harness := (true, "7ad2dde134a219ce24110abea31c8db770900f4c1701bc63726b8005e91f7cda"), looks := true }, kinds := [], alts := [], laidByText := true, laidKinds := [.data, .data, .data, .data, .sentinel, .sentinel, .pinned], laidTests := true, laidLooks := .later }
def LookCertifiedCardSaid : Prop := Claim7.holds Tryz.pinned (.plain (OpenSpec.ofChange lookCertifiedSpec)) lookCertifiedCard

/-- THE TIED CARD OF 'proteuslaw06.LookOwn'. -/
def lookOwnCard : Claim7 := { stood := { row := lookOwnRow, standIns := [], harness := (true, "7ad2dde134a219ce24110abea31c8db770900f4c1701bc63726b8005e91f7cda"), looks := true }, kinds := [], alts := [], laidByText := true, laidKinds := [.data, .data, .data, .data, .sentinel, .sentinel, .pinned], laidTests := true, laidLooks := .later }
def LookOwnCardSaid : Prop := Claim7.holds Tryz.pinned (.plain (OpenSpec.ofChange lookOwnSpec)) lookOwnCard

/-- THE TIED CARD OF 'proteuslaw06.LookWays'. -/
def lookWaysCard : Claim7 := { stood := { row := lookWaysRow, standIns := [], harness := (true, "7ad2dde134a219ce24110abea31c8db770900f4c1701bc63726b8005e91f7cda"), looks := true }, kinds := [], alts := [], laidByText := true, laidKinds := [.data, .data, .data, .data, .sentinel, .sentinel, .pinned], laidTests := true, laidLooks := .later }
def LookWaysCardSaid : Prop := Claim7.holds Tryz.pinned (.plain (OpenSpec.ofChange lookWaysSpec)) lookWaysCard

/-- THE TIED CARD OF 'proteuslaw06.LookOthers'. -/
def lookOthersCard : Claim7 := { stood := { row := lookOthersRow, standIns := [], harness := (true, "7ad2dde134a219ce24110abea31c8db770900f4c1701bc63726b8005e91f7cda"), looks := true }, kinds := [], alts := [], laidByText := true, laidKinds := [.data, .data, .data, .data, .sentinel, .sentinel, .pinned], laidTests := true, laidLooks := .later }
def LookOthersCardSaid : Prop := Claim7.holds Tryz.pinned (.plain (OpenSpec.ofChange lookOthersSpec)) lookOthersCard

/-- THE TIED CARD OF 'proteuslaw06.LookEach'. -/
def lookEachCard : Claim7 := { stood := { row := lookEachRow, standIns := [], harness := (true, "7ad2dde134a219ce24110abea31c8db770900f4c1701bc63726b8005e91f7cda"), looks := true }, kinds := [], alts := [], laidByText := true, laidKinds := [.data, .data, .data, .data, .sentinel, .sentinel, .pinned], laidTests := true, laidLooks := .later }
def LookEachCardSaid : Prop := Claim7.holds Tryz.pinned (.plain (OpenSpec.ofChange lookEachSpec)) lookEachCard

/-- THE TIED CARD OF 'proteuslaw06.LookFinds'. -/
def lookFindsCard : Claim7 := { stood := { row := lookFindsRow, standIns := [], harness := (true, "7ad2dde134a219ce24110abea31c8db770900f4c1701bc63726b8005e91f7cda"), looks := true }, kinds := [], alts := [], laidByText := true, laidKinds := [.data, .data, .data, .data, .sentinel, .sentinel, .pinned], laidTests := true, laidLooks := .later }
def LookFindsCardSaid : Prop := Claim7.holds Tryz.pinned (.plain (OpenSpec.ofChange lookFindsSpec)) lookFindsCard

/-- THE TIED CARD OF 'proteuslaw06.LookValues'. -/
def lookValuesCard : Claim7 := { stood := { row := lookValuesRow, standIns := [], harness := (true, "7ad2dde134a219ce24110abea31c8db770900f4c1701bc63726b8005e91f7cda"), looks := true }, kinds := [], alts := [], laidByText := true, laidKinds := [.data, .data, .data, .data, .sentinel, .sentinel, .pinned], laidTests := true, laidLooks := .later }
def LookValuesCardSaid : Prop := Claim7.holds Tryz.pinned (.plain (OpenSpec.ofChange lookValuesSpec)) lookValuesCard

/-- THE TIED CARD OF 'proteuslaw06.LookProofs'. -/
def lookProofsCard : Claim7 := { stood := { row := lookProofsRow, standIns := [], harness := (true, "7ad2dde134a219ce24110abea31c8db770900f4c1701bc63726b8005e91f7cda"), looks := true }, kinds := [], alts := [], laidByText := true, laidKinds := [.data, .data, .data, .data, .sentinel, .sentinel, .pinned], laidTests := true, laidLooks := .later }
def LookProofsCardSaid : Prop := Claim7.holds Tryz.pinned (.plain (OpenSpec.ofChange lookProofsSpec)) lookProofsCard

/-- THE TIED CARD OF 'proteuslaw06.LookPaths'. -/
def lookPathsCard : Claim7 := { stood := { row := lookPathsRow, standIns := [], harness := (true, "7ad2dde134a219ce24110abea31c8db770900f4c1701bc63726b8005e91f7cda"), looks := true }, kinds := [], alts := [], laidByText := true, laidKinds := [.data, .data, .data, .data, .sentinel, .sentinel, .pinned], laidTests := true, laidLooks := .later }
def LookPathsCardSaid : Prop := Claim7.holds Tryz.pinned (.plain (OpenSpec.ofChange lookPathsSpec)) lookPathsCard

/-- THE TIED CARD OF 'proteuslaw06.LookActs'. -/
def lookActsCard : Claim7 := { stood := { row := lookActsRow, standIns := [], harness := (true, "7ad2dde134a219ce24110abea31c8db770900f4c1701bc63726b8005e91f7cda"), looks := true }, kinds := [], alts := [], laidByText := true, laidKinds := [.data, .data, .data, .data, .sentinel, .sentinel, .pinned], laidTests := true, laidLooks := .later }
def LookActsCardSaid : Prop := Claim7.holds Tryz.pinned (.plain (OpenSpec.ofChange lookActsSpec)) lookActsCard

/-- THE TIED CARD OF 'proteuslaw06.LookNames'. -/
def lookNamesCard : Claim7 := { stood := { row := lookNamesRow, standIns := [], harness := (true, "7ad2dde134a219ce24110abea31c8db770900f4c1701bc63726b8005e91f7cda"), looks := true }, kinds := [], alts := [], laidByText := true, laidKinds := [.data, .data, .data, .data, .sentinel, .sentinel, .pinned], laidTests := true, laidLooks := .later }
def LookNamesCardSaid : Prop := Claim7.holds Tryz.pinned (.plain (OpenSpec.ofChange lookNamesSpec)) lookNamesCard

/-- THE SECOND FORM's CARD OF 'proteuslaw06.LookCertified'. -/
def lookCertifiedUptoCard : Claim7 := { stood := { row := lookCertifiedUptoRow, standIns := [], harness := (true, "7ad2dde134a219ce24110abea31c8db770900f4c1701bc63726b8005e91f7cda"), looks := true }, kinds := [], alts := [], laidByText := true, laidKinds := [.data, .data, .data, .data, .sentinel, .sentinel, .pinned], laidTests := true, laidLooks := .later }
def LookCertifiedUptoCardSaid : Prop := Claim7.holds Tryz.pinned (.plain (OpenSpec.upto lookCertifiedSpec)) lookCertifiedUptoCard

/-- THE SECOND FORM's CARD OF 'proteuslaw06.LookOwn'. -/
def lookOwnUptoCard : Claim7 := { stood := { row := lookOwnUptoRow, standIns := [], harness := (true, "7ad2dde134a219ce24110abea31c8db770900f4c1701bc63726b8005e91f7cda"), looks := true }, kinds := [], alts := [], laidByText := true, laidKinds := [.data, .data, .data, .data, .sentinel, .sentinel, .pinned], laidTests := true, laidLooks := .later }
def LookOwnUptoCardSaid : Prop := Claim7.holds Tryz.pinned (.plain (OpenSpec.upto lookOwnSpec)) lookOwnUptoCard

/-- THE SECOND FORM's CARD OF 'proteuslaw06.LookWays'. -/
def lookWaysUptoCard : Claim7 := { stood := { row := lookWaysUptoRow, standIns := [], harness := (true, "7ad2dde134a219ce24110abea31c8db770900f4c1701bc63726b8005e91f7cda"), looks := true }, kinds := [], alts := [], laidByText := true, laidKinds := [.data, .data, .data, .data, .sentinel, .sentinel, .pinned], laidTests := true, laidLooks := .later }
def LookWaysUptoCardSaid : Prop := Claim7.holds Tryz.pinned (.plain (OpenSpec.upto lookWaysSpec)) lookWaysUptoCard

/-- THE SECOND FORM's CARD OF 'proteuslaw06.LookOthers'. -/
def lookOthersUptoCard : Claim7 := { stood := { row := lookOthersUptoRow, standIns := [], harness := (true, "7ad2dde134a219ce24110abea31c8db770900f4c1701bc63726b8005e91f7cda"), looks := true }, kinds := [], alts := [], laidByText := true, laidKinds := [.data, .data, .data, .data, .sentinel, .sentinel, .pinned], laidTests := true, laidLooks := .later }
def LookOthersUptoCardSaid : Prop := Claim7.holds Tryz.pinned (.plain (OpenSpec.upto lookOthersSpec)) lookOthersUptoCard

/-- THE SECOND FORM's CARD OF 'proteuslaw06.LookEach'. -/
def lookEachUptoCard : Claim7 := { stood := { row := lookEachUptoRow, standIns := [], harness := (true, "7ad2dde134a219ce24110abea31c8db770900f4c1701bc63726b8005e91f7cda"), looks := true }, kinds := [], alts := [], laidByText := true, laidKinds := [.data, .data, .data, .data, .sentinel, .sentinel, .pinned], laidTests := true, laidLooks := .later }
def LookEachUptoCardSaid : Prop := Claim7.holds Tryz.pinned (.plain (OpenSpec.upto lookEachSpec)) lookEachUptoCard

/-- THE SECOND FORM's CARD OF 'proteuslaw06.LookFinds'. -/
def lookFindsUptoCard : Claim7 := { stood := { row := lookFindsUptoRow, standIns := [], harness := (true, "7ad2dde134a219ce24110abea31c8db770900f4c1701bc63726b8005e91f7cda"), looks := true }, kinds := [], alts := [], laidByText := true, laidKinds := [.data, .data, .data, .data, .sentinel, .sentinel, .pinned], laidTests := true, laidLooks := .later }
def LookFindsUptoCardSaid : Prop := Claim7.holds Tryz.pinned (.plain (OpenSpec.upto lookFindsSpec)) lookFindsUptoCard

/-- THE SECOND FORM's CARD OF 'proteuslaw06.LookValues'. -/
def lookValuesUptoCard : Claim7 := { stood := { row := lookValuesUptoRow, standIns := [], harness := (true, "7ad2dde134a219ce24110abea31c8db770900f4c1701bc63726b8005e91f7cda"), looks := true }, kinds := [], alts := [], laidByText := true, laidKinds := [.data, .data, .data, .data, .sentinel, .sentinel, .pinned], laidTests := true, laidLooks := .later }
def LookValuesUptoCardSaid : Prop := Claim7.holds Tryz.pinned (.plain (OpenSpec.upto lookValuesSpec)) lookValuesUptoCard

/-- THE SECOND FORM's CARD OF 'proteuslaw06.LookProofs'. -/
def lookProofsUptoCard : Claim7 := { stood := { row := lookProofsUptoRow, standIns := [], harness := (true, "7ad2dde134a219ce24110abea31c8db770900f4c1701bc63726b8005e91f7cda"), looks := true }, kinds := [], alts := [], laidByText := true, laidKinds := [.data, .data, .data, .data, .sentinel, .sentinel, .pinned], laidTests := true, laidLooks := .later }
def LookProofsUptoCardSaid : Prop := Claim7.holds Tryz.pinned (.plain (OpenSpec.upto lookProofsSpec)) lookProofsUptoCard

/-- THE SECOND FORM's CARD OF 'proteuslaw06.LookPaths'. -/
def lookPathsUptoCard : Claim7 := { stood := { row := lookPathsUptoRow, standIns := [], harness := (true, "7ad2dde134a219ce24110abea31c8db770900f4c1701bc63726b8005e91f7cda"), looks := true }, kinds := [], alts := [], laidByText := true, laidKinds := [.data, .data, .data, .data, .sentinel, .sentinel, .pinned], laidTests := true, laidLooks := .later }
def LookPathsUptoCardSaid : Prop := Claim7.holds Tryz.pinned (.plain (OpenSpec.upto lookPathsSpec)) lookPathsUptoCard

/-- THE SECOND FORM's CARD OF 'proteuslaw06.LookActs'. -/
def lookActsUptoCard : Claim7 := { stood := { row := lookActsUptoRow, standIns := [], harness := (true, "7ad2dde134a219ce24110abea31c8db770900f4c1701bc63726b8005e91f7cda"), looks := true }, kinds := [], alts := [], laidByText := true, laidKinds := [.data, .data, .data, .data, .sentinel, .sentinel, .pinned], laidTests := true, laidLooks := .later }
def LookActsUptoCardSaid : Prop := Claim7.holds Tryz.pinned (.plain (OpenSpec.upto lookActsSpec)) lookActsUptoCard

/-- THE SECOND FORM's CARD OF 'proteuslaw06.LookNames'. -/
def lookNamesUptoCard : Claim7 := { stood := { row := lookNamesUptoRow, standIns := [], harness := (true, "7ad2dde134a219ce24110abea31c8db770900f4c1701bc63726b8005e91f7cda"), looks := true }, kinds := [], alts := [], laidByText := true, laidKinds := [.data, .data, .data, .data, .sentinel, .sentinel, .pinned], laidTests := true, laidLooks := .later }
def LookNamesUptoCardSaid : Prop := Claim7.holds Tryz.pinned (.plain (OpenSpec.upto lookNamesSpec)) lookNamesUptoCard
end Rows
end Go.Proofs.YtgbaedjegdcloaaGreatDoor
