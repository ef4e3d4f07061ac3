/-
  DERIVED. GIVEN WITH THE SEED: THE CARDS: each row of YthnmgbgmlhackaaGreatDoorRows.lean that lists a variable, with what it lists TIED to the program's text (the seventh form; the later family's looks); each row that meets fmt, with fmt's text TOLD by the authors' own Lean function (tested against real Go, not proved from fmt's source: count such statements apart). THE CARD IS WHAT COUNTS. Prove the row's statement (the work); the ties are given (YthnmgbgmlhackaaGreatDoorTie.lean); close each card by the builder's one call (the guide's Derived/Test/ToyasCard.lean, 'card_holds'). Laid BY PROGRAM, IN A SANDBOX (cutbox-door.mjs). By AI agents, Wed Nov 11 2026. No macro, syntax, notation, axiom, sorry.
-/
import Derived.Test.YthnmgbgmlhackaaGreatDoorRows
import GoSem.ClaimSeven
namespace Go.Proofs.YthnmgbgmlhackaaGreatDoor
namespace Rows

/-- THE TIED CARD OF 'pecialaw02.SlipComes'. -/
def slipComesCard : Claim7 := { stood := { row := slipComesRow, standIns := [], harness := (true, "f310aec18de0603d092a1a44aacda7291207ec74b98831434c725e5493a5daef"), looks := false }, kinds := [], alts := [], laidByText := true, laidKinds := [.data, .data, .data, .data], laidTests := true, laidLooks := .later }
def SlipComesCardSaid : Prop := Claim7.holds Tryz.pinned (.plain (OpenSpec.ofChange slipComesSpec)) slipComesCard

/-- THE TIED CARD OF 'pecialaw02.SlipSures'. -/
def slipSuresCard : Claim7 := { stood := { row := slipSuresRow, standIns := [], harness := (true, "f310aec18de0603d092a1a44aacda7291207ec74b98831434c725e5493a5daef"), looks := false }, kinds := [], alts := [], laidByText := true, laidKinds := [.data, .data, .data, .data], laidTests := true, laidLooks := .later }
def SlipSuresCardSaid : Prop := Claim7.holds Tryz.pinned (.plain (OpenSpec.ofChange slipSuresSpec)) slipSuresCard

/-- THE TIED CARD OF 'pecialaw02.SlipPlaces'. -/
def slipPlacesCard : Claim7 := { stood := { row := slipPlacesRow, standIns := [], harness := (true, "f310aec18de0603d092a1a44aacda7291207ec74b98831434c725e5493a5daef"), looks := false }, kinds := [], alts := [], laidByText := true, laidKinds := [.data, .data, .data, .data], laidTests := true, laidLooks := .later }
def SlipPlacesCardSaid : Prop := Claim7.holds Tryz.pinned (.plain (OpenSpec.ofChange slipPlacesSpec)) slipPlacesCard

/-- THE TIED CARD OF 'pecialaw02.SlipNeeds'. -/
def slipNeedsCard : Claim7 := { stood := { row := slipNeedsRow, standIns := [], harness := (true, "f310aec18de0603d092a1a44aacda7291207ec74b98831434c725e5493a5daef"), looks := false }, kinds := [], alts := [], laidByText := true, laidKinds := [.data, .data, .data, .data], laidTests := true, laidLooks := .later }
def SlipNeedsCardSaid : Prop := Claim7.holds Tryz.pinned (.plain (OpenSpec.ofChange slipNeedsSpec)) slipNeedsCard

/-- THE TIED CARD OF 'pecialaw02.SlipHands'. -/
def slipHandsCard : Claim7 := { stood := { row := slipHandsRow, standIns := [], harness := (true, "f310aec18de0603d092a1a44aacda7291207ec74b98831434c725e5493a5daef"), looks := false }, kinds := [], alts := [], laidByText := true, laidKinds := [.data, .data, .data, .data], laidTests := true, laidLooks := .later }
def SlipHandsCardSaid : Prop := Claim7.holds Tryz.pinned (.plain (OpenSpec.ofChange slipHandsSpec)) slipHandsCard

/-- THE TIED CARD OF 'pecialaw02.SlipNearer'. -/
def slipNearerCard : Claim7 := { stood := { row := slipNearerRow, standIns := [], harness := (true, "f310aec18de0603d092a1a44aacda7291207ec74b98831434c725e5493a5daef"), looks := false }, kinds := [], alts := [], laidByText := true, laidKinds := [.data, .data, .data, .data], laidTests := true, laidLooks := .later }
def SlipNearerCardSaid : Prop := Claim7.holds Tryz.pinned (.plain (OpenSpec.ofChange slipNearerSpec)) slipNearerCard

/-- THE TIED CARD OF 'pecialaw02.SlipProves'. -/
def slipProvesCard : Claim7 := { stood := { row := slipProvesRow, standIns := [], harness := (true, "f310aec18de0603d092a1a44aacda7291207ec74b98831434c725e5493a5daef"), looks := false }, kinds := [], alts := [], laidByText := true, laidKinds := [.data, .data, .data, .data], laidTests := true, laidLooks := .later }
def SlipProvesCardSaid : Prop := Claim7.holds Tryz.pinned (.plain (OpenSpec.ofChange slipProvesSpec)) slipProvesCard

/-- THE TIED CARD OF 'pecialaw02.SlipMended'. -/
def slipMendedCard : Claim7 := { stood := { row := slipMendedRow, standIns := [], harness := (true, "f310aec18de0603d092a1a44aacda7291207ec74b98831434c725e5493a5daef"), looks := false }, kinds := [], alts := [], laidByText := true, laidKinds := [.data, .data, .data, .data], laidTests := true, laidLooks := .later }
def SlipMendedCardSaid : Prop := Claim7.holds Tryz.pinned (.plain (OpenSpec.ofChange slipMendedSpec)) slipMendedCard

/-- THE TIED CARD OF 'pecialaw02.SlipTrue'. -/
def slipTrueCard : Claim7 := { stood := { row := slipTrueRow, standIns := [], harness := (true, "f310aec18de0603d092a1a44aacda7291207ec74b98831434c725e5493a5daef"), looks := false }, kinds := [], alts := [], laidByText := true, laidKinds := [.data, .data, .data, .data], laidTests := true, laidLooks := .later }
def SlipTrueCardSaid : Prop := Claim7.holds Tryz.pinned (.plain (OpenSpec.ofChange slipTrueSpec)) slipTrueCard

/-- THE TIED CARD OF 'pecialaw02.SlipCheapest'. -/
def slipCheapestCard : Claim7 := { stood := { row := slipCheapestRow, standIns := [], harness := (true, "f310aec18de0603d092a1a44aacda7291207ec74b98831434c725e5493a5daef"), looks := false }, kinds := [], alts := [], laidByText := true, laidKinds := [.data, .data, .data, .data], laidTests := true, laidLooks := .later }
def SlipCheapestCardSaid : Prop := Claim7.holds Tryz.pinned (.plain (OpenSpec.ofChange slipCheapestSpec)) slipCheapestCard

/-- THE TIED CARD OF 'pecialaw02.SlipShares'. -/
def slipSharesCard : Claim7 := { stood := { row := slipSharesRow, standIns := [], harness := (true, "f310aec18de0603d092a1a44aacda7291207ec74b98831434c725e5493a5daef"), looks := false }, kinds := [], alts := [], laidByText := true, laidKinds := [.data, .data, .data, .data], laidTests := true, laidLooks := .later }
def SlipSharesCardSaid : Prop := Claim7.holds Tryz.pinned (.plain (OpenSpec.ofChange slipSharesSpec)) slipSharesCard

/-- THE TIED CARD OF 'pecialaw02.SlipCuts'. -/
def slipCutsCard : Claim7 := { stood := { row := slipCutsRow, standIns := [], harness := (true, "f310aec18de0603d092a1a44aacda7291207ec74b98831434c725e5493a5daef"), looks := false }, kinds := [], alts := [], laidByText := true, laidKinds := [.data, .data, .data, .data], laidTests := true, laidLooks := .later }
def SlipCutsCardSaid : Prop := Claim7.holds Tryz.pinned (.plain (OpenSpec.ofChange slipCutsSpec)) slipCutsCard

/-- THE TIED CARD OF 'pecialaw02.SlipBetween'. -/
def slipBetweenCard : Claim7 := { stood := { row := slipBetweenRow, standIns := [], harness := (true, "f310aec18de0603d092a1a44aacda7291207ec74b98831434c725e5493a5daef"), looks := false }, kinds := [], alts := [], laidByText := true, laidKinds := [.data, .data, .data, .data], laidTests := true, laidLooks := .later }
def SlipBetweenCardSaid : Prop := Claim7.holds Tryz.pinned (.plain (OpenSpec.ofChange slipBetweenSpec)) slipBetweenCard

/-- THE TIED CARD OF 'pecialaw02.SlipReads'. -/
def slipReadsCard : Claim7 := { stood := { row := slipReadsRow, standIns := [], harness := (true, "f310aec18de0603d092a1a44aacda7291207ec74b98831434c725e5493a5daef"), looks := false }, kinds := [], alts := [], laidByText := true, laidKinds := [.data, .data, .data, .data], laidTests := true, laidLooks := .later }
def SlipReadsCardSaid : Prop := Claim7.holds Tryz.pinned (.plain (OpenSpec.ofChange slipReadsSpec)) slipReadsCard

/-- THE TIED CARD OF 'pecialaw02.SlipMends'. -/
def slipMendsCard : Claim7 := { stood := { row := slipMendsRow, standIns := [], harness := (true, "f310aec18de0603d092a1a44aacda7291207ec74b98831434c725e5493a5daef"), looks := false }, kinds := [], alts := [], laidByText := true, laidKinds := [.data, .data, .data, .data], laidTests := true, laidLooks := .later }
def SlipMendsCardSaid : Prop := Claim7.holds Tryz.pinned (.plain (OpenSpec.ofChange slipMendsSpec)) slipMendsCard

/-- THE TIED CARD OF 'pecialaw02.SlipFurther'. -/
def slipFurtherCard : Claim7 := { stood := { row := slipFurtherRow, standIns := [], harness := (true, "f310aec18de0603d092a1a44aacda7291207ec74b98831434c725e5493a5daef"), looks := false }, kinds := [], alts := [], laidByText := true, laidKinds := [.data, .data, .data, .data], laidTests := true, laidLooks := .later }
def SlipFurtherCardSaid : Prop := Claim7.holds Tryz.pinned (.plain (OpenSpec.ofChange slipFurtherSpec)) slipFurtherCard

/-- THE SECOND FORM's CARD OF 'pecialaw02.SlipComes'. -/
def slipComesUptoCard : Claim7 := { stood := { row := slipComesUptoRow, standIns := [], harness := (true, "f310aec18de0603d092a1a44aacda7291207ec74b98831434c725e5493a5daef"), looks := false }, kinds := [], alts := [], laidByText := true, laidKinds := [.data, .data, .data, .data], laidTests := true, laidLooks := .later }
def SlipComesUptoCardSaid : Prop := Claim7.holds Tryz.pinned (.plain (OpenSpec.upto slipComesSpec)) slipComesUptoCard

/-- THE SECOND FORM's CARD OF 'pecialaw02.SlipSures'. -/
def slipSuresUptoCard : Claim7 := { stood := { row := slipSuresUptoRow, standIns := [], harness := (true, "f310aec18de0603d092a1a44aacda7291207ec74b98831434c725e5493a5daef"), looks := false }, kinds := [], alts := [], laidByText := true, laidKinds := [.data, .data, .data, .data], laidTests := true, laidLooks := .later }
def SlipSuresUptoCardSaid : Prop := Claim7.holds Tryz.pinned (.plain (OpenSpec.upto slipSuresSpec)) slipSuresUptoCard

/-- THE SECOND FORM's CARD OF 'pecialaw02.SlipPlaces'. -/
def slipPlacesUptoCard : Claim7 := { stood := { row := slipPlacesUptoRow, standIns := [], harness := (true, "f310aec18de0603d092a1a44aacda7291207ec74b98831434c725e5493a5daef"), looks := false }, kinds := [], alts := [], laidByText := true, laidKinds := [.data, .data, .data, .data], laidTests := true, laidLooks := .later }
def SlipPlacesUptoCardSaid : Prop := Claim7.holds Tryz.pinned (.plain (OpenSpec.upto slipPlacesSpec)) slipPlacesUptoCard

/-- THE SECOND FORM's CARD OF 'pecialaw02.SlipNeeds'. -/
def slipNeedsUptoCard : Claim7 := { stood := { row := slipNeedsUptoRow, standIns := [], harness := (true, "f310aec18de0603d092a1a44aacda7291207ec74b98831434c725e5493a5daef"), looks := false }, kinds := [], alts := [], laidByText := true, laidKinds := [.data, .data, .data, .data], laidTests := true, laidLooks := .later }
def SlipNeedsUptoCardSaid : Prop := Claim7.holds Tryz.pinned (.plain (OpenSpec.upto slipNeedsSpec)) slipNeedsUptoCard

/-- THE SECOND FORM's CARD OF 'pecialaw02.SlipHands'. -/
def slipHandsUptoCard : Claim7 := { stood := { row := slipHandsUptoRow, standIns := [], harness := (true, "f310aec18de0603d092a1a44aacda7291207ec74b98831434c725e5493a5daef"), looks := false }, kinds := [], alts := [], laidByText := true, laidKinds := [.data, .data, .data, .data], laidTests := true, laidLooks := .later }
def SlipHandsUptoCardSaid : Prop := Claim7.holds Tryz.pinned (.plain (OpenSpec.upto slipHandsSpec)) slipHandsUptoCard

/-- THE SECOND FORM's CARD OF 'pecialaw02.SlipNearer'. -/
def slipNearerUptoCard : Claim7 := { stood := { row := slipNearerUptoRow, standIns := [], harness := (true, "f310aec18de0603d092a1a44aacda7291207ec74b98831434c725e5493a5daef"), looks := false }, kinds := [], alts := [], laidByText := true, laidKinds := [.data, .data, .data, .data], laidTests := true, laidLooks := .later }
def SlipNearerUptoCardSaid : Prop := Claim7.holds Tryz.pinned (.plain (OpenSpec.upto slipNearerSpec)) slipNearerUptoCard

/-- THE SECOND FORM's CARD OF 'pecialaw02.SlipProves'. -/
def slipProvesUptoCard : Claim7 := { stood := { row := slipProvesUptoRow, standIns := [], harness := (true, "f310aec18de0603d092a1a44aacda7291207ec74b98831434c725e5493a5daef"), looks := false }, kinds := [], alts := [], laidByText := true, laidKinds := [.data, .data, .data, .data], laidTests := true, laidLooks := .later }
def SlipProvesUptoCardSaid : Prop := Claim7.holds Tryz.pinned (.plain (OpenSpec.upto slipProvesSpec)) slipProvesUptoCard

/-- THE SECOND FORM's CARD OF 'pecialaw02.SlipMended'. -/
def slipMendedUptoCard : Claim7 := { stood := { row := slipMendedUptoRow, standIns := [], harness := (true, "f310aec18de0603d092a1a44aacda7291207ec74b98831434c725e5493a5daef"), looks := false }, kinds := [], alts := [], laidByText := true, laidKinds := [.data, .data, .data, .data], laidTests := true, laidLooks := .later }
def SlipMendedUptoCardSaid : Prop := Claim7.holds Tryz.pinned (.plain (OpenSpec.upto slipMendedSpec)) slipMendedUptoCard

/-- THE SECOND FORM's CARD OF 'pecialaw02.SlipTrue'. -/
def slipTrueUptoCard : Claim7 := { stood := { row := slipTrueUptoRow, standIns := [], harness := (true, "f310aec18de0603d092a1a44aacda7291207ec74b98831434c725e5493a5daef"), looks := false }, kinds := [], alts := [], laidByText := true, laidKinds := [.data, .data, .data, .data], laidTests := true, laidLooks := .later }
def SlipTrueUptoCardSaid : Prop := Claim7.holds Tryz.pinned (.plain (OpenSpec.upto slipTrueSpec)) slipTrueUptoCard

/-- THE SECOND FORM's CARD OF 'pecialaw02.SlipCheapest'. -/
def slipCheapestUptoCard : Claim7 := { stood := { row := slipCheapestUptoRow, standIns := [], harness := (true, "f310aec18de0603d092a1a44aacda7291207ec74b98831434c725e5493a5daef"), looks := false }, kinds := [], alts := [], laidByText := true, laidKinds := [.data, .data, .data, .data], laidTests := true, laidLooks := .later }
def SlipCheapestUptoCardSaid : Prop := Claim7.holds Tryz.pinned (.plain (OpenSpec.upto slipCheapestSpec)) slipCheapestUptoCard

/-- THE SECOND FORM's CARD OF 'pecialaw02.SlipShares'. -/
def slipSharesUptoCard : Claim7 := { stood := { row := slipSharesUptoRow, standIns := [], harness := (true, "f310aec18de0603d092a1a44aacda7291207ec74b98831434c725e5493a5daef"), looks := false }, kinds := [], alts := [], laidByText := true, laidKinds := [.data, .data, .data, .data], laidTests := true, laidLooks := .later }
def SlipSharesUptoCardSaid : Prop := Claim7.holds Tryz.pinned (.plain (OpenSpec.upto slipSharesSpec)) slipSharesUptoCard

/-- THE SECOND FORM's CARD OF 'pecialaw02.SlipCuts'. -/
def slipCutsUptoCard : Claim7 := { stood := { row := slipCutsUptoRow, standIns := [], harness := (true, "f310aec18de0603d092a1a44aacda7291207ec74b98831434c725e5493a5daef"), looks := false }, kinds := [], alts := [], laidByText := true, laidKinds := [.data, .data, .data, .data], laidTests := true, laidLooks := .later }
def SlipCutsUptoCardSaid : Prop := Claim7.holds Tryz.pinned (.plain (OpenSpec.upto slipCutsSpec)) slipCutsUptoCard

/-- THE SECOND FORM's CARD OF 'pecialaw02.SlipBetween'. -/
def slipBetweenUptoCard : Claim7 := { stood := { row := slipBetweenUptoRow, standIns := [], harness := (true, "f310aec18de0603d092a1a44aacda7291207ec74b98831434c725e5493a5daef"), looks := false }, kinds := [], alts := [], laidByText := true, laidKinds := [.data, .data, .data, .data], laidTests := true, laidLooks := .later }
def SlipBetweenUptoCardSaid : Prop := Claim7.holds Tryz.pinned (.plain (OpenSpec.upto slipBetweenSpec)) slipBetweenUptoCard

/-- THE SECOND FORM's CARD OF 'pecialaw02.SlipReads'. -/
def slipReadsUptoCard : Claim7 := { stood := { row := slipReadsUptoRow, standIns := [], harness := (true, "f310aec18de0603d092a1a44aacda7291207ec74b98831434c725e5493a5daef"), looks := false }, kinds := [], alts := [], laidByText := true, laidKinds := [.data, .data, .data, .data], laidTests := true, laidLooks := .later }
def SlipReadsUptoCardSaid : Prop := Claim7.holds Tryz.pinned (.plain (OpenSpec.upto slipReadsSpec)) slipReadsUptoCard

/-- THE SECOND FORM's CARD OF 'pecialaw02.SlipMends'. -/
def slipMendsUptoCard : Claim7 := { stood := { row := slipMendsUptoRow, standIns := [], harness := (true, "f310aec18de0603d092a1a44aacda7291207ec74b98831434c725e5493a5daef"), looks := false }, kinds := [], alts := [], laidByText := true, laidKinds := [.data, .data, .data, .data], laidTests := true, laidLooks := .later }
def SlipMendsUptoCardSaid : Prop := Claim7.holds Tryz.pinned (.plain (OpenSpec.upto slipMendsSpec)) slipMendsUptoCard

/-- THE SECOND FORM's CARD OF 'pecialaw02.SlipFurther'. -/
def slipFurtherUptoCard : Claim7 := { stood := { row := slipFurtherUptoRow, standIns := [], harness := (true, "f310aec18de0603d092a1a44aacda7291207ec74b98831434c725e5493a5daef"), looks := false }, kinds := [], alts := [], laidByText := true, laidKinds := [.data, .data, .data, .data], laidTests := true, laidLooks := .later }
def SlipFurtherUptoCardSaid : Prop := Claim7.holds Tryz.pinned (.plain (OpenSpec.upto slipFurtherSpec)) slipFurtherUptoCard
end Rows
end Go.Proofs.YthnmgbgmlhackaaGreatDoor
