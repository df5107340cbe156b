/-
  DERIVED. GIVEN WITH THE SEED: THE CARDS: each row of YtdpjoppdlhfidaaDoorRows.lean that lists a variable, with what it lists TIED to the program's text (the seventh form; the later family's looks); each row that meets fmt, with fmt's text TOLD by the authors' own Lean function (tested against real Go, not proved from fmt's source: count such statements apart). THE CARD IS WHAT COUNTS. Prove the row's statement (the work); the ties are given (YtdpjoppdlhfidaaDoorTie.lean); close each card by the builder's one call (the guide's Derived/Test/ToyasCard.lean, 'card_holds'). Laid BY PROGRAM, IN A SANDBOX (cutbox-door.mjs). By AI agents, Wed Nov 11 2026. No macro, syntax, notation, axiom, sorry.
-/
import Derived.Test.YtdpjoppdlhfidaaDoorRows
import GoSem.ClaimSeven
namespace Go.Proofs.YtdpjoppdlhfidaaDoor
namespace Rows

/-- THE TIED CARD OF 'huerlaw03.SeineHolds'. -/
def seineHoldsCard : Claim7 := { stood := { row := seineHoldsRow, standIns := [], harness := (true, "b257ec4bfb6555dd820535dcbfe2d200b1b3c2694199492f523410cf5beded7e"), looks := false }, kinds := [], alts := [], laidByText := true, laidKinds := [.data, .funcs], laidTests := true, laidLooks := .later }
def SeineHoldsCardSaid : Prop := Claim7.holds Tryd.pinned (.plain (OpenSpec.ofChange seineHoldsSpec)) seineHoldsCard

/-- THE TIED CARD OF 'huerlaw03.SeineSaves'. -/
def seineSavesCard : Claim7 := { stood := { row := seineSavesRow, standIns := [], harness := (true, "b257ec4bfb6555dd820535dcbfe2d200b1b3c2694199492f523410cf5beded7e"), looks := false }, kinds := [], alts := [], laidByText := true, laidKinds := [.data, .funcs], laidTests := true, laidLooks := .later }
def SeineSavesCardSaid : Prop := Claim7.holds Tryd.pinned (.plain (OpenSpec.ofChange seineSavesSpec)) seineSavesCard

/-- THE TIED CARD OF 'huerlaw03.SeineWrongs'. -/
def seineWrongsCard : Claim7 := { stood := { row := seineWrongsRow, standIns := [], harness := (true, "b257ec4bfb6555dd820535dcbfe2d200b1b3c2694199492f523410cf5beded7e"), looks := false }, kinds := [], alts := [], laidByText := true, laidKinds := [.data, .funcs], laidTests := true, laidLooks := .later }
def SeineWrongsCardSaid : Prop := Claim7.holds Tryd.pinned (.plain (OpenSpec.ofChange seineWrongsSpec)) seineWrongsCard

/-- THE TIED CARD OF 'huerlaw03.SeineTrue'. -/
def seineTrueCard : Claim7 := { stood := { row := seineTrueRow, standIns := [], harness := (true, "b257ec4bfb6555dd820535dcbfe2d200b1b3c2694199492f523410cf5beded7e"), looks := false }, kinds := [], alts := [], laidByText := true, laidKinds := [.data, .funcs], laidTests := true, laidLooks := .later }
def SeineTrueCardSaid : Prop := Claim7.holds Tryd.pinned (.plain (OpenSpec.ofChange seineTrueSpec)) seineTrueCard

/-- THE TIED CARD OF 'huerlaw03.SeineEnds'. -/
def seineEndsCard : Claim7 := { stood := { row := seineEndsRow, standIns := [], harness := (true, "b257ec4bfb6555dd820535dcbfe2d200b1b3c2694199492f523410cf5beded7e"), looks := false }, kinds := [], alts := [], laidByText := true, laidKinds := [.data, .funcs], laidTests := true, laidLooks := .later }
def SeineEndsCardSaid : Prop := Claim7.holds Tryd.pinned (.plain (OpenSpec.ofChange seineEndsSpec)) seineEndsCard

/-- THE TIED CARD OF 'huerlaw03.SeineMore'. -/
def seineMoreCard : Claim7 := { stood := { row := seineMoreRow, standIns := [], harness := (true, "b257ec4bfb6555dd820535dcbfe2d200b1b3c2694199492f523410cf5beded7e"), looks := false }, kinds := [], alts := [], laidByText := true, laidKinds := [.data, .funcs], laidTests := true, laidLooks := .later }
def SeineMoreCardSaid : Prop := Claim7.holds Tryd.pinned (.plain (OpenSpec.ofChange seineMoreSpec)) seineMoreCard

/-- THE TIED CARD OF 'huertop.TopUncounted'. -/
def topUncountedCard : Claim7 := { stood := { row := topUncountedRow, standIns := [], harness := (true, "b257ec4bfb6555dd820535dcbfe2d200b1b3c2694199492f523410cf5beded7e"), looks := false }, kinds := [], alts := [], laidByText := true, laidKinds := [.funcs, .funcs], laidTests := true, laidLooks := .later }
def TopUncountedCardSaid : Prop := Claim7.holds Tryd.pinned (.plain (OpenSpec.ofChange topUncountedSpec)) topUncountedCard

/-- THE TIED CARD OF 'huerlaw03.SeineLater'. -/
def seineLaterCard : Claim7 := { stood := { row := seineLaterRow, standIns := [], harness := (true, "b257ec4bfb6555dd820535dcbfe2d200b1b3c2694199492f523410cf5beded7e"), looks := false }, kinds := [], alts := [], laidByText := true, laidKinds := [.data, .funcs], laidTests := true, laidLooks := .later }
def SeineLaterCardSaid : Prop := Claim7.holds Tryd.pinned (.plain (OpenSpec.ofChange seineLaterSpec)) seineLaterCard

/-- THE TIED CARD OF 'huerlaw03.SeineSaved'. -/
def seineSavedCard : Claim7 := { stood := { row := seineSavedRow, standIns := [], harness := (true, "b257ec4bfb6555dd820535dcbfe2d200b1b3c2694199492f523410cf5beded7e"), looks := false }, kinds := [], alts := [], laidByText := true, laidKinds := [.data, .funcs], laidTests := true, laidLooks := .later }
def SeineSavedCardSaid : Prop := Claim7.holds Tryd.pinned (.plain (OpenSpec.ofChange seineSavedSpec)) seineSavedCard

/-- THE TIED CARD OF 'huertop.TopBushels'. -/
def topBushelsCard : Claim7 := { stood := { row := topBushelsRow, standIns := [], harness := (true, "b257ec4bfb6555dd820535dcbfe2d200b1b3c2694199492f523410cf5beded7e"), looks := false }, kinds := [], alts := [], laidByText := true, laidKinds := [.funcs, .data, .funcs, .data, .funcs], laidTests := true, laidLooks := .later }
def TopBushelsCardSaid : Prop := Claim7.holds Tryd.pinned (.plain (OpenSpec.ofChange topBushelsSpec)) topBushelsCard

/-- THE TIED CARD OF 'huerlaw03.SeineWrong'. -/
def seineWrongCard : Claim7 := { stood := { row := seineWrongRow, standIns := [], harness := (true, "b257ec4bfb6555dd820535dcbfe2d200b1b3c2694199492f523410cf5beded7e"), looks := false }, kinds := [], alts := [], laidByText := true, laidKinds := [.data, .funcs], laidTests := true, laidLooks := .later }
def SeineWrongCardSaid : Prop := Claim7.holds Tryd.pinned (.plain (OpenSpec.ofChange seineWrongSpec)) seineWrongCard

/-- THE TIED CARD OF 'huerlaw03.SeinePlain'. -/
def seinePlainCard : Claim7 := { stood := { row := seinePlainRow, standIns := [], harness := (true, "b257ec4bfb6555dd820535dcbfe2d200b1b3c2694199492f523410cf5beded7e"), looks := false }, kinds := [], alts := [], laidByText := true, laidKinds := [.data, .funcs], laidTests := true, laidLooks := .later }
def SeinePlainCardSaid : Prop := Claim7.holds Tryd.pinned (.plain (OpenSpec.ofChange seinePlainSpec)) seinePlainCard

/-- THE TIED CARD OF 'huerlaw03.SeineKnown'. -/
def seineKnownCard : Claim7 := { stood := { row := seineKnownRow, standIns := [], harness := (true, "b257ec4bfb6555dd820535dcbfe2d200b1b3c2694199492f523410cf5beded7e"), looks := false }, kinds := [], alts := [], laidByText := true, laidKinds := [.data, .funcs], laidTests := true, laidLooks := .later }
def SeineKnownCardSaid : Prop := Claim7.holds Tryd.pinned (.plain (OpenSpec.ofChange seineKnownSpec)) seineKnownCard

/-- THE TIED CARD OF 'huerlaw04.TidePlans'. -/
def tidePlansCard : Claim7 := { stood := { row := tidePlansRow, standIns := [], harness := (true, "b257ec4bfb6555dd820535dcbfe2d200b1b3c2694199492f523410cf5beded7e"), looks := false }, kinds := [], alts := [], laidByText := true, laidKinds := [.data, .funcs, .funcs], laidTests := true, laidLooks := .later }
def TidePlansCardSaid : Prop := Claim7.holds Tryd.pinned (.plain (OpenSpec.ofChange tidePlansSpec)) tidePlansCard

/-- THE TIED CARD OF 'huerlaw04.TideLefts'. -/
def tideLeftsCard : Claim7 := { stood := { row := tideLeftsRow, standIns := [], harness := (true, "b257ec4bfb6555dd820535dcbfe2d200b1b3c2694199492f523410cf5beded7e"), looks := false }, kinds := [], alts := [], laidByText := true, laidKinds := [.data, .funcs, .funcs], laidTests := true, laidLooks := .later }
def TideLeftsCardSaid : Prop := Claim7.holds Tryd.pinned (.plain (OpenSpec.ofChange tideLeftsSpec)) tideLeftsCard

/-- THE TIED CARD OF 'huerlaw04.TideBests'. -/
def tideBestsCard : Claim7 := { stood := { row := tideBestsRow, standIns := [], harness := (true, "b257ec4bfb6555dd820535dcbfe2d200b1b3c2694199492f523410cf5beded7e"), looks := false }, kinds := [], alts := [], laidByText := true, laidKinds := [.data, .funcs, .funcs], laidTests := true, laidLooks := .later }
def TideBestsCardSaid : Prop := Claim7.holds Tryd.pinned (.plain (OpenSpec.ofChange tideBestsSpec)) tideBestsCard

/-- THE TIED CARD OF 'huerlaw04.TideTrue'. -/
def tideTrueCard : Claim7 := { stood := { row := tideTrueRow, standIns := [], harness := (true, "b257ec4bfb6555dd820535dcbfe2d200b1b3c2694199492f523410cf5beded7e"), looks := false }, kinds := [], alts := [], laidByText := true, laidKinds := [.data, .funcs, .funcs], laidTests := true, laidLooks := .later }
def TideTrueCardSaid : Prop := Claim7.holds Tryd.pinned (.plain (OpenSpec.ofChange tideTrueSpec)) tideTrueCard

/-- THE TIED CARD OF 'huerlaw04.TideEnds'. -/
def tideEndsCard : Claim7 := { stood := { row := tideEndsRow, standIns := [], harness := (true, "b257ec4bfb6555dd820535dcbfe2d200b1b3c2694199492f523410cf5beded7e"), looks := false }, kinds := [], alts := [], laidByText := true, laidKinds := [.data, .funcs, .funcs], laidTests := true, laidLooks := .later }
def TideEndsCardSaid : Prop := Claim7.holds Tryd.pinned (.plain (OpenSpec.ofChange tideEndsSpec)) tideEndsCard

/-- THE TIED CARD OF 'huerlaw04.TideBest'. -/
def tideBestCard : Claim7 := { stood := { row := tideBestRow, standIns := [], harness := (true, "b257ec4bfb6555dd820535dcbfe2d200b1b3c2694199492f523410cf5beded7e"), looks := false }, kinds := [], alts := [], laidByText := true, laidKinds := [.data, .funcs, .funcs], laidTests := true, laidLooks := .later }
def TideBestCardSaid : Prop := Claim7.holds Tryd.pinned (.plain (OpenSpec.ofChange tideBestSpec)) tideBestCard

/-- THE TIED CARD OF 'huerlaw04.TideMore'. -/
def tideMoreCard : Claim7 := { stood := { row := tideMoreRow, standIns := [], harness := (true, "b257ec4bfb6555dd820535dcbfe2d200b1b3c2694199492f523410cf5beded7e"), looks := false }, kinds := [], alts := [], laidByText := true, laidKinds := [.data, .funcs, .funcs], laidTests := true, laidLooks := .later }
def TideMoreCardSaid : Prop := Claim7.holds Tryd.pinned (.plain (OpenSpec.ofChange tideMoreSpec)) tideMoreCard

/-- THE TIED CARD OF 'huerlaw04.TideSpare'. -/
def tideSpareCard : Claim7 := { stood := { row := tideSpareRow, standIns := [], harness := (true, "b257ec4bfb6555dd820535dcbfe2d200b1b3c2694199492f523410cf5beded7e"), looks := false }, kinds := [], alts := [], laidByText := true, laidKinds := [.data, .funcs, .funcs], laidTests := true, laidLooks := .later }
def TideSpareCardSaid : Prop := Claim7.holds Tryd.pinned (.plain (OpenSpec.ofChange tideSpareSpec)) tideSpareCard

/-- THE TIED CARD OF 'huerlaw04.TideEasier'. -/
def tideEasierCard : Claim7 := { stood := { row := tideEasierRow, standIns := [], harness := (true, "b257ec4bfb6555dd820535dcbfe2d200b1b3c2694199492f523410cf5beded7e"), looks := false }, kinds := [], alts := [], laidByText := true, laidKinds := [.data, .funcs, .funcs], laidTests := true, laidLooks := .later }
def TideEasierCardSaid : Prop := Claim7.holds Tryd.pinned (.plain (OpenSpec.ofChange tideEasierSpec)) tideEasierCard

/-- THE TIED CARD OF 'huerlaw04.TideCalm'. -/
def tideCalmCard : Claim7 := { stood := { row := tideCalmRow, standIns := [], harness := (true, "b257ec4bfb6555dd820535dcbfe2d200b1b3c2694199492f523410cf5beded7e"), looks := false }, kinds := [], alts := [], laidByText := true, laidKinds := [.data, .funcs, .funcs], laidTests := true, laidLooks := .later }
def TideCalmCardSaid : Prop := Claim7.holds Tryd.pinned (.plain (OpenSpec.ofChange tideCalmSpec)) tideCalmCard

/-- THE TIED CARD OF 'huerlaw04.TideKnown'. -/
def tideKnownCard : Claim7 := { stood := { row := tideKnownRow, standIns := [], harness := (true, "b257ec4bfb6555dd820535dcbfe2d200b1b3c2694199492f523410cf5beded7e"), looks := false }, kinds := [], alts := [], laidByText := true, laidKinds := [.data, .funcs, .funcs], laidTests := true, laidLooks := .later }
def TideKnownCardSaid : Prop := Claim7.holds Tryd.pinned (.plain (OpenSpec.ofChange tideKnownSpec)) tideKnownCard

/-- THE SECOND FORM's CARD OF 'huerlaw03.SeineHolds'. -/
def seineHoldsUptoCard : Claim7 := { stood := { row := seineHoldsUptoRow, standIns := [], harness := (true, "b257ec4bfb6555dd820535dcbfe2d200b1b3c2694199492f523410cf5beded7e"), looks := false }, kinds := [], alts := [], laidByText := true, laidKinds := [.data, .funcs], laidTests := true, laidLooks := .later }
def SeineHoldsUptoCardSaid : Prop := Claim7.holds Tryd.pinned (.plain (OpenSpec.upto seineHoldsSpec)) seineHoldsUptoCard

/-- THE SECOND FORM's CARD OF 'huerlaw03.SeineSaves'. -/
def seineSavesUptoCard : Claim7 := { stood := { row := seineSavesUptoRow, standIns := [], harness := (true, "b257ec4bfb6555dd820535dcbfe2d200b1b3c2694199492f523410cf5beded7e"), looks := false }, kinds := [], alts := [], laidByText := true, laidKinds := [.data, .funcs], laidTests := true, laidLooks := .later }
def SeineSavesUptoCardSaid : Prop := Claim7.holds Tryd.pinned (.plain (OpenSpec.upto seineSavesSpec)) seineSavesUptoCard

/-- THE SECOND FORM's CARD OF 'huerlaw03.SeineWrongs'. -/
def seineWrongsUptoCard : Claim7 := { stood := { row := seineWrongsUptoRow, standIns := [], harness := (true, "b257ec4bfb6555dd820535dcbfe2d200b1b3c2694199492f523410cf5beded7e"), looks := false }, kinds := [], alts := [], laidByText := true, laidKinds := [.data, .funcs], laidTests := true, laidLooks := .later }
def SeineWrongsUptoCardSaid : Prop := Claim7.holds Tryd.pinned (.plain (OpenSpec.upto seineWrongsSpec)) seineWrongsUptoCard

/-- THE SECOND FORM's CARD OF 'huerlaw03.SeineTrue'. -/
def seineTrueUptoCard : Claim7 := { stood := { row := seineTrueUptoRow, standIns := [], harness := (true, "b257ec4bfb6555dd820535dcbfe2d200b1b3c2694199492f523410cf5beded7e"), looks := false }, kinds := [], alts := [], laidByText := true, laidKinds := [.data, .funcs], laidTests := true, laidLooks := .later }
def SeineTrueUptoCardSaid : Prop := Claim7.holds Tryd.pinned (.plain (OpenSpec.upto seineTrueSpec)) seineTrueUptoCard

/-- THE SECOND FORM's CARD OF 'huerlaw03.SeineEnds'. -/
def seineEndsUptoCard : Claim7 := { stood := { row := seineEndsUptoRow, standIns := [], harness := (true, "b257ec4bfb6555dd820535dcbfe2d200b1b3c2694199492f523410cf5beded7e"), looks := false }, kinds := [], alts := [], laidByText := true, laidKinds := [.data, .funcs], laidTests := true, laidLooks := .later }
def SeineEndsUptoCardSaid : Prop := Claim7.holds Tryd.pinned (.plain (OpenSpec.upto seineEndsSpec)) seineEndsUptoCard

/-- THE SECOND FORM's CARD OF 'huerlaw03.SeineMore'. -/
def seineMoreUptoCard : Claim7 := { stood := { row := seineMoreUptoRow, standIns := [], harness := (true, "b257ec4bfb6555dd820535dcbfe2d200b1b3c2694199492f523410cf5beded7e"), looks := false }, kinds := [], alts := [], laidByText := true, laidKinds := [.data, .funcs], laidTests := true, laidLooks := .later }
def SeineMoreUptoCardSaid : Prop := Claim7.holds Tryd.pinned (.plain (OpenSpec.upto seineMoreSpec)) seineMoreUptoCard

/-- THE SECOND FORM's CARD OF 'huertop.TopUncounted'. -/
def topUncountedUptoCard : Claim7 := { stood := { row := topUncountedUptoRow, standIns := [], harness := (true, "b257ec4bfb6555dd820535dcbfe2d200b1b3c2694199492f523410cf5beded7e"), looks := false }, kinds := [], alts := [], laidByText := true, laidKinds := [.funcs, .funcs], laidTests := true, laidLooks := .later }
def TopUncountedUptoCardSaid : Prop := Claim7.holds Tryd.pinned (.plain (OpenSpec.upto topUncountedSpec)) topUncountedUptoCard

/-- THE SECOND FORM's CARD OF 'huerlaw03.SeineLater'. -/
def seineLaterUptoCard : Claim7 := { stood := { row := seineLaterUptoRow, standIns := [], harness := (true, "b257ec4bfb6555dd820535dcbfe2d200b1b3c2694199492f523410cf5beded7e"), looks := false }, kinds := [], alts := [], laidByText := true, laidKinds := [.data, .funcs], laidTests := true, laidLooks := .later }
def SeineLaterUptoCardSaid : Prop := Claim7.holds Tryd.pinned (.plain (OpenSpec.upto seineLaterSpec)) seineLaterUptoCard

/-- THE SECOND FORM's CARD OF 'huerlaw03.SeineSaved'. -/
def seineSavedUptoCard : Claim7 := { stood := { row := seineSavedUptoRow, standIns := [], harness := (true, "b257ec4bfb6555dd820535dcbfe2d200b1b3c2694199492f523410cf5beded7e"), looks := false }, kinds := [], alts := [], laidByText := true, laidKinds := [.data, .funcs], laidTests := true, laidLooks := .later }
def SeineSavedUptoCardSaid : Prop := Claim7.holds Tryd.pinned (.plain (OpenSpec.upto seineSavedSpec)) seineSavedUptoCard

/-- THE SECOND FORM's CARD OF 'huertop.TopBushels'. -/
def topBushelsUptoCard : Claim7 := { stood := { row := topBushelsUptoRow, standIns := [], harness := (true, "b257ec4bfb6555dd820535dcbfe2d200b1b3c2694199492f523410cf5beded7e"), looks := false }, kinds := [], alts := [], laidByText := true, laidKinds := [.funcs, .data, .funcs, .data, .funcs], laidTests := true, laidLooks := .later }
def TopBushelsUptoCardSaid : Prop := Claim7.holds Tryd.pinned (.plain (OpenSpec.upto topBushelsSpec)) topBushelsUptoCard

/-- THE SECOND FORM's CARD OF 'huerlaw03.SeineWrong'. -/
def seineWrongUptoCard : Claim7 := { stood := { row := seineWrongUptoRow, standIns := [], harness := (true, "b257ec4bfb6555dd820535dcbfe2d200b1b3c2694199492f523410cf5beded7e"), looks := false }, kinds := [], alts := [], laidByText := true, laidKinds := [.data, .funcs], laidTests := true, laidLooks := .later }
def SeineWrongUptoCardSaid : Prop := Claim7.holds Tryd.pinned (.plain (OpenSpec.upto seineWrongSpec)) seineWrongUptoCard

/-- THE SECOND FORM's CARD OF 'huerlaw03.SeinePlain'. -/
def seinePlainUptoCard : Claim7 := { stood := { row := seinePlainUptoRow, standIns := [], harness := (true, "b257ec4bfb6555dd820535dcbfe2d200b1b3c2694199492f523410cf5beded7e"), looks := false }, kinds := [], alts := [], laidByText := true, laidKinds := [.data, .funcs], laidTests := true, laidLooks := .later }
def SeinePlainUptoCardSaid : Prop := Claim7.holds Tryd.pinned (.plain (OpenSpec.upto seinePlainSpec)) seinePlainUptoCard

/-- THE SECOND FORM's CARD OF 'huerlaw03.SeineKnown'. -/
def seineKnownUptoCard : Claim7 := { stood := { row := seineKnownUptoRow, standIns := [], harness := (true, "b257ec4bfb6555dd820535dcbfe2d200b1b3c2694199492f523410cf5beded7e"), looks := false }, kinds := [], alts := [], laidByText := true, laidKinds := [.data, .funcs], laidTests := true, laidLooks := .later }
def SeineKnownUptoCardSaid : Prop := Claim7.holds Tryd.pinned (.plain (OpenSpec.upto seineKnownSpec)) seineKnownUptoCard

/-- THE SECOND FORM's CARD OF 'huerlaw04.TidePlans'. -/
def tidePlansUptoCard : Claim7 := { stood := { row := tidePlansUptoRow, standIns := [], harness := (true, "b257ec4bfb6555dd820535dcbfe2d200b1b3c2694199492f523410cf5beded7e"), looks := false }, kinds := [], alts := [], laidByText := true, laidKinds := [.data, .funcs, .funcs], laidTests := true, laidLooks := .later }
def TidePlansUptoCardSaid : Prop := Claim7.holds Tryd.pinned (.plain (OpenSpec.upto tidePlansSpec)) tidePlansUptoCard

/-- THE SECOND FORM's CARD OF 'huerlaw04.TideLefts'. -/
def tideLeftsUptoCard : Claim7 := { stood := { row := tideLeftsUptoRow, standIns := [], harness := (true, "b257ec4bfb6555dd820535dcbfe2d200b1b3c2694199492f523410cf5beded7e"), looks := false }, kinds := [], alts := [], laidByText := true, laidKinds := [.data, .funcs, .funcs], laidTests := true, laidLooks := .later }
def TideLeftsUptoCardSaid : Prop := Claim7.holds Tryd.pinned (.plain (OpenSpec.upto tideLeftsSpec)) tideLeftsUptoCard

/-- THE SECOND FORM's CARD OF 'huerlaw04.TideBests'. -/
def tideBestsUptoCard : Claim7 := { stood := { row := tideBestsUptoRow, standIns := [], harness := (true, "b257ec4bfb6555dd820535dcbfe2d200b1b3c2694199492f523410cf5beded7e"), looks := false }, kinds := [], alts := [], laidByText := true, laidKinds := [.data, .funcs, .funcs], laidTests := true, laidLooks := .later }
def TideBestsUptoCardSaid : Prop := Claim7.holds Tryd.pinned (.plain (OpenSpec.upto tideBestsSpec)) tideBestsUptoCard

/-- THE SECOND FORM's CARD OF 'huerlaw04.TideTrue'. -/
def tideTrueUptoCard : Claim7 := { stood := { row := tideTrueUptoRow, standIns := [], harness := (true, "b257ec4bfb6555dd820535dcbfe2d200b1b3c2694199492f523410cf5beded7e"), looks := false }, kinds := [], alts := [], laidByText := true, laidKinds := [.data, .funcs, .funcs], laidTests := true, laidLooks := .later }
def TideTrueUptoCardSaid : Prop := Claim7.holds Tryd.pinned (.plain (OpenSpec.upto tideTrueSpec)) tideTrueUptoCard

/-- THE SECOND FORM's CARD OF 'huerlaw04.TideEnds'. -/
def tideEndsUptoCard : Claim7 := { stood := { row := tideEndsUptoRow, standIns := [], harness := (true, "b257ec4bfb6555dd820535dcbfe2d200b1b3c2694199492f523410cf5beded7e"), looks := false }, kinds := [], alts := [], laidByText := true, laidKinds := [.data, .funcs, .funcs], laidTests := true, laidLooks := .later }
def TideEndsUptoCardSaid : Prop := Claim7.holds Tryd.pinned (.plain (OpenSpec.upto tideEndsSpec)) tideEndsUptoCard

/-- THE SECOND FORM's CARD OF 'huerlaw04.TideBest'. -/
def tideBestUptoCard : Claim7 := { stood := { row := tideBestUptoRow, standIns := [], harness := (true, "b257ec4bfb6555dd820535dcbfe2d200b1b3c2694199492f523410cf5beded7e"), looks := false }, kinds := [], alts := [], laidByText := true, laidKinds := [.data, .funcs, .funcs], laidTests := true, laidLooks := .later }
def TideBestUptoCardSaid : Prop := Claim7.holds Tryd.pinned (.plain (OpenSpec.upto tideBestSpec)) tideBestUptoCard

/-- THE SECOND FORM's CARD OF 'huerlaw04.TideMore'. -/
def tideMoreUptoCard : Claim7 := { stood := { row := tideMoreUptoRow, standIns := [], harness := (true, "b257ec4bfb6555dd820535dcbfe2d200b1b3c2694199492f523410cf5beded7e"), looks := false }, kinds := [], alts := [], laidByText := true, laidKinds := [.data, .funcs, .funcs], laidTests := true, laidLooks := .later }
def TideMoreUptoCardSaid : Prop := Claim7.holds Tryd.pinned (.plain (OpenSpec.upto tideMoreSpec)) tideMoreUptoCard

/-- THE SECOND FORM's CARD OF 'huerlaw04.TideSpare'. -/
def tideSpareUptoCard : Claim7 := { stood := { row := tideSpareUptoRow, standIns := [], harness := (true, "b257ec4bfb6555dd820535dcbfe2d200b1b3c2694199492f523410cf5beded7e"), looks := false }, kinds := [], alts := [], laidByText := true, laidKinds := [.data, .funcs, .funcs], laidTests := true, laidLooks := .later }
def TideSpareUptoCardSaid : Prop := Claim7.holds Tryd.pinned (.plain (OpenSpec.upto tideSpareSpec)) tideSpareUptoCard

/-- THE SECOND FORM's CARD OF 'huerlaw04.TideEasier'. -/
def tideEasierUptoCard : Claim7 := { stood := { row := tideEasierUptoRow, standIns := [], harness := (true, "b257ec4bfb6555dd820535dcbfe2d200b1b3c2694199492f523410cf5beded7e"), looks := false }, kinds := [], alts := [], laidByText := true, laidKinds := [.data, .funcs, .funcs], laidTests := true, laidLooks := .later }
def TideEasierUptoCardSaid : Prop := Claim7.holds Tryd.pinned (.plain (OpenSpec.upto tideEasierSpec)) tideEasierUptoCard

/-- THE SECOND FORM's CARD OF 'huerlaw04.TideCalm'. -/
def tideCalmUptoCard : Claim7 := { stood := { row := tideCalmUptoRow, standIns := [], harness := (true, "b257ec4bfb6555dd820535dcbfe2d200b1b3c2694199492f523410cf5beded7e"), looks := false }, kinds := [], alts := [], laidByText := true, laidKinds := [.data, .funcs, .funcs], laidTests := true, laidLooks := .later }
def TideCalmUptoCardSaid : Prop := Claim7.holds Tryd.pinned (.plain (OpenSpec.upto tideCalmSpec)) tideCalmUptoCard

/-- THE SECOND FORM's CARD OF 'huerlaw04.TideKnown'. -/
def tideKnownUptoCard : Claim7 := { stood := { row := tideKnownUptoRow, standIns := [], harness := (true, "b257ec4bfb6555dd820535dcbfe2d200b1b3c2694199492f523410cf5beded7e"), looks := false }, kinds := [], alts := [], laidByText := true, laidKinds := [.data, .funcs, .funcs], laidTests := true, laidLooks := .later }
def TideKnownUptoCardSaid : Prop := Claim7.holds Tryd.pinned (.plain (OpenSpec.upto tideKnownSpec)) tideKnownUptoCard
end Rows
end Go.Proofs.YtdpjoppdlhfidaaDoor
