/-
  DERIVED. GIVEN WITH THE SEED: THE PROGRAM's TIES (one call each: nine closed facts by the kernel) AND EACH ROW's TIE, after the 31st guide's Derived/Test/Toyas{Tie, Card}.lean. No idea stands in it: it is a product of the set-up. Laid BY PROGRAM, IN A SANDBOX (cutbox-door.mjs). By AI agents, Wed Nov 11 2026. No macro, syntax, notation, axiom, sorry.
-/
import Derived.Test.YtdpjoppdlhfidaaDoorRows
import Derived.LaidByTextLater
import Derived.SevenTiedAt
import Derived.LaidSub
import Derived.LaidOnce
namespace Go.Proofs.YtdpjoppdlhfidaaDoor
open Go
set_option maxRecDepth 100000
theorem seatTie1 : Tryd.prog.laidByTextLater [("huer/bulk.counts", Rows.laid_huer_bulk_counts), ("huer/bond.tells", Rows.laid_huer_bond_tells), ("huer/salt.never", Rows.laid_huer_salt_never), ("huer/salt.ends", Rows.laid_huer_salt_ends), ("huer/seine.most", Rows.laid_huer_seine_most), ("huer/seine.does", Rows.laid_huer_seine_does), ("huer/tide.asks", Rows.laid_huer_tide_asks)] [.funcs, .funcs, .data, .funcs, .data, .funcs, .funcs] true :=
  Program.laidByTextLater_by_one 47 8 6 (by kernel_rfl) (by kernel_rfl) (by kernel_rfl) (by kernel_rfl) (by kernel_rfl) (by kernel_rfl) (fun _ _ => by kernel_rfl)
theorem noOwnUnsafe : Tryd.pinned.checked.prog.headLifts.contains "ownunsafe" = false := by kernel_rfl
theorem tie : Tryd.prog.laidByTextLater [("huer/seine.most", Rows.laid_huer_seine_most), ("huer/seine.does", Rows.laid_huer_seine_does)] [.data, .funcs] true :=
  Program.laidByTextLater.sub seatTie1 ["huer/seine.most", "huer/seine.does"] (by kernel_rfl) (by kernel_rfl)
theorem seineHolds_row_tie : Rows.seineHoldsRow.laidByTextAt .later Tryd.pinned [.data, .funcs] true :=
  OpenClaim.laidByTextAt_later rfl rfl tie noOwnUnsafe
theorem seineSaves_row_tie : Rows.seineSavesRow.laidByTextAt .later Tryd.pinned [.data, .funcs] true :=
  OpenClaim.laidByTextAt_later rfl rfl tie noOwnUnsafe
theorem seineWrongs_row_tie : Rows.seineWrongsRow.laidByTextAt .later Tryd.pinned [.data, .funcs] true :=
  OpenClaim.laidByTextAt_later rfl rfl tie noOwnUnsafe
theorem seineTrue_row_tie : Rows.seineTrueRow.laidByTextAt .later Tryd.pinned [.data, .funcs] true :=
  OpenClaim.laidByTextAt_later rfl rfl tie noOwnUnsafe
theorem seineEnds_row_tie : Rows.seineEndsRow.laidByTextAt .later Tryd.pinned [.data, .funcs] true :=
  OpenClaim.laidByTextAt_later rfl rfl tie noOwnUnsafe
theorem seineMore_row_tie : Rows.seineMoreRow.laidByTextAt .later Tryd.pinned [.data, .funcs] true :=
  OpenClaim.laidByTextAt_later rfl rfl tie noOwnUnsafe
theorem seineLater_row_tie : Rows.seineLaterRow.laidByTextAt .later Tryd.pinned [.data, .funcs] true :=
  OpenClaim.laidByTextAt_later rfl rfl tie noOwnUnsafe
theorem seineSaved_row_tie : Rows.seineSavedRow.laidByTextAt .later Tryd.pinned [.data, .funcs] true :=
  OpenClaim.laidByTextAt_later rfl rfl tie noOwnUnsafe
theorem seineWrong_row_tie : Rows.seineWrongRow.laidByTextAt .later Tryd.pinned [.data, .funcs] true :=
  OpenClaim.laidByTextAt_later rfl rfl tie noOwnUnsafe
theorem seinePlain_row_tie : Rows.seinePlainRow.laidByTextAt .later Tryd.pinned [.data, .funcs] true :=
  OpenClaim.laidByTextAt_later rfl rfl tie noOwnUnsafe
theorem seineKnown_row_tie : Rows.seineKnownRow.laidByTextAt .later Tryd.pinned [.data, .funcs] true :=
  OpenClaim.laidByTextAt_later rfl rfl tie noOwnUnsafe
theorem tie2 : Tryd.prog.laidByTextLater [("huer/bulk.counts", Rows.laid_huer_bulk_counts), ("huer/bond.tells", Rows.laid_huer_bond_tells)] [.funcs, .funcs] true :=
  Program.laidByTextLater.sub seatTie1 ["huer/bulk.counts", "huer/bond.tells"] (by kernel_rfl) (by kernel_rfl)
theorem topUncounted_row_tie : Rows.topUncountedRow.laidByTextAt .later Tryd.pinned [.funcs, .funcs] true :=
  OpenClaim.laidByTextAt_later rfl rfl tie2 noOwnUnsafe
theorem tie3 : Tryd.prog.laidByTextLater [("huer/bulk.counts", Rows.laid_huer_bulk_counts), ("huer/salt.never", Rows.laid_huer_salt_never), ("huer/salt.ends", Rows.laid_huer_salt_ends), ("huer/seine.most", Rows.laid_huer_seine_most), ("huer/seine.does", Rows.laid_huer_seine_does)] [.funcs, .data, .funcs, .data, .funcs] true :=
  Program.laidByTextLater.sub seatTie1 ["huer/bulk.counts", "huer/salt.never", "huer/salt.ends", "huer/seine.most", "huer/seine.does"] (by kernel_rfl) (by kernel_rfl)
theorem topBushels_row_tie : Rows.topBushelsRow.laidByTextAt .later Tryd.pinned [.funcs, .data, .funcs, .data, .funcs] true :=
  OpenClaim.laidByTextAt_later rfl rfl tie3 noOwnUnsafe
theorem tie4 : Tryd.prog.laidByTextLater [("huer/seine.most", Rows.laid_huer_seine_most), ("huer/seine.does", Rows.laid_huer_seine_does), ("huer/tide.asks", Rows.laid_huer_tide_asks)] [.data, .funcs, .funcs] true :=
  Program.laidByTextLater.sub seatTie1 ["huer/seine.most", "huer/seine.does", "huer/tide.asks"] (by kernel_rfl) (by kernel_rfl)
theorem tidePlans_row_tie : Rows.tidePlansRow.laidByTextAt .later Tryd.pinned [.data, .funcs, .funcs] true :=
  OpenClaim.laidByTextAt_later rfl rfl tie4 noOwnUnsafe
theorem tideLefts_row_tie : Rows.tideLeftsRow.laidByTextAt .later Tryd.pinned [.data, .funcs, .funcs] true :=
  OpenClaim.laidByTextAt_later rfl rfl tie4 noOwnUnsafe
theorem tideBests_row_tie : Rows.tideBestsRow.laidByTextAt .later Tryd.pinned [.data, .funcs, .funcs] true :=
  OpenClaim.laidByTextAt_later rfl rfl tie4 noOwnUnsafe
theorem tideTrue_row_tie : Rows.tideTrueRow.laidByTextAt .later Tryd.pinned [.data, .funcs, .funcs] true :=
  OpenClaim.laidByTextAt_later rfl rfl tie4 noOwnUnsafe
theorem tideEnds_row_tie : Rows.tideEndsRow.laidByTextAt .later Tryd.pinned [.data, .funcs, .funcs] true :=
  OpenClaim.laidByTextAt_later rfl rfl tie4 noOwnUnsafe
theorem tideBest_row_tie : Rows.tideBestRow.laidByTextAt .later Tryd.pinned [.data, .funcs, .funcs] true :=
  OpenClaim.laidByTextAt_later rfl rfl tie4 noOwnUnsafe
theorem tideMore_row_tie : Rows.tideMoreRow.laidByTextAt .later Tryd.pinned [.data, .funcs, .funcs] true :=
  OpenClaim.laidByTextAt_later rfl rfl tie4 noOwnUnsafe
theorem tideSpare_row_tie : Rows.tideSpareRow.laidByTextAt .later Tryd.pinned [.data, .funcs, .funcs] true :=
  OpenClaim.laidByTextAt_later rfl rfl tie4 noOwnUnsafe
theorem tideEasier_row_tie : Rows.tideEasierRow.laidByTextAt .later Tryd.pinned [.data, .funcs, .funcs] true :=
  OpenClaim.laidByTextAt_later rfl rfl tie4 noOwnUnsafe
theorem tideCalm_row_tie : Rows.tideCalmRow.laidByTextAt .later Tryd.pinned [.data, .funcs, .funcs] true :=
  OpenClaim.laidByTextAt_later rfl rfl tie4 noOwnUnsafe
theorem tideKnown_row_tie : Rows.tideKnownRow.laidByTextAt .later Tryd.pinned [.data, .funcs, .funcs] true :=
  OpenClaim.laidByTextAt_later rfl rfl tie4 noOwnUnsafe
theorem seineHoldsUpto_row_tie : Rows.seineHoldsUptoRow.laidByTextAt .later Tryd.pinned [.data, .funcs] true :=
  OpenClaim.laidByTextAt_later rfl rfl tie noOwnUnsafe
theorem seineSavesUpto_row_tie : Rows.seineSavesUptoRow.laidByTextAt .later Tryd.pinned [.data, .funcs] true :=
  OpenClaim.laidByTextAt_later rfl rfl tie noOwnUnsafe
theorem seineWrongsUpto_row_tie : Rows.seineWrongsUptoRow.laidByTextAt .later Tryd.pinned [.data, .funcs] true :=
  OpenClaim.laidByTextAt_later rfl rfl tie noOwnUnsafe
theorem seineTrueUpto_row_tie : Rows.seineTrueUptoRow.laidByTextAt .later Tryd.pinned [.data, .funcs] true :=
  OpenClaim.laidByTextAt_later rfl rfl tie noOwnUnsafe
theorem seineEndsUpto_row_tie : Rows.seineEndsUptoRow.laidByTextAt .later Tryd.pinned [.data, .funcs] true :=
  OpenClaim.laidByTextAt_later rfl rfl tie noOwnUnsafe
theorem seineMoreUpto_row_tie : Rows.seineMoreUptoRow.laidByTextAt .later Tryd.pinned [.data, .funcs] true :=
  OpenClaim.laidByTextAt_later rfl rfl tie noOwnUnsafe
theorem topUncountedUpto_row_tie : Rows.topUncountedUptoRow.laidByTextAt .later Tryd.pinned [.funcs, .funcs] true :=
  OpenClaim.laidByTextAt_later rfl rfl tie2 noOwnUnsafe
theorem seineLaterUpto_row_tie : Rows.seineLaterUptoRow.laidByTextAt .later Tryd.pinned [.data, .funcs] true :=
  OpenClaim.laidByTextAt_later rfl rfl tie noOwnUnsafe
theorem seineSavedUpto_row_tie : Rows.seineSavedUptoRow.laidByTextAt .later Tryd.pinned [.data, .funcs] true :=
  OpenClaim.laidByTextAt_later rfl rfl tie noOwnUnsafe
theorem topBushelsUpto_row_tie : Rows.topBushelsUptoRow.laidByTextAt .later Tryd.pinned [.funcs, .data, .funcs, .data, .funcs] true :=
  OpenClaim.laidByTextAt_later rfl rfl tie3 noOwnUnsafe
theorem seineWrongUpto_row_tie : Rows.seineWrongUptoRow.laidByTextAt .later Tryd.pinned [.data, .funcs] true :=
  OpenClaim.laidByTextAt_later rfl rfl tie noOwnUnsafe
theorem seinePlainUpto_row_tie : Rows.seinePlainUptoRow.laidByTextAt .later Tryd.pinned [.data, .funcs] true :=
  OpenClaim.laidByTextAt_later rfl rfl tie noOwnUnsafe
theorem seineKnownUpto_row_tie : Rows.seineKnownUptoRow.laidByTextAt .later Tryd.pinned [.data, .funcs] true :=
  OpenClaim.laidByTextAt_later rfl rfl tie noOwnUnsafe
theorem tidePlansUpto_row_tie : Rows.tidePlansUptoRow.laidByTextAt .later Tryd.pinned [.data, .funcs, .funcs] true :=
  OpenClaim.laidByTextAt_later rfl rfl tie4 noOwnUnsafe
theorem tideLeftsUpto_row_tie : Rows.tideLeftsUptoRow.laidByTextAt .later Tryd.pinned [.data, .funcs, .funcs] true :=
  OpenClaim.laidByTextAt_later rfl rfl tie4 noOwnUnsafe
theorem tideBestsUpto_row_tie : Rows.tideBestsUptoRow.laidByTextAt .later Tryd.pinned [.data, .funcs, .funcs] true :=
  OpenClaim.laidByTextAt_later rfl rfl tie4 noOwnUnsafe
theorem tideTrueUpto_row_tie : Rows.tideTrueUptoRow.laidByTextAt .later Tryd.pinned [.data, .funcs, .funcs] true :=
  OpenClaim.laidByTextAt_later rfl rfl tie4 noOwnUnsafe
theorem tideEndsUpto_row_tie : Rows.tideEndsUptoRow.laidByTextAt .later Tryd.pinned [.data, .funcs, .funcs] true :=
  OpenClaim.laidByTextAt_later rfl rfl tie4 noOwnUnsafe
theorem tideBestUpto_row_tie : Rows.tideBestUptoRow.laidByTextAt .later Tryd.pinned [.data, .funcs, .funcs] true :=
  OpenClaim.laidByTextAt_later rfl rfl tie4 noOwnUnsafe
theorem tideMoreUpto_row_tie : Rows.tideMoreUptoRow.laidByTextAt .later Tryd.pinned [.data, .funcs, .funcs] true :=
  OpenClaim.laidByTextAt_later rfl rfl tie4 noOwnUnsafe
theorem tideSpareUpto_row_tie : Rows.tideSpareUptoRow.laidByTextAt .later Tryd.pinned [.data, .funcs, .funcs] true :=
  OpenClaim.laidByTextAt_later rfl rfl tie4 noOwnUnsafe
theorem tideEasierUpto_row_tie : Rows.tideEasierUptoRow.laidByTextAt .later Tryd.pinned [.data, .funcs, .funcs] true :=
  OpenClaim.laidByTextAt_later rfl rfl tie4 noOwnUnsafe
theorem tideCalmUpto_row_tie : Rows.tideCalmUptoRow.laidByTextAt .later Tryd.pinned [.data, .funcs, .funcs] true :=
  OpenClaim.laidByTextAt_later rfl rfl tie4 noOwnUnsafe
theorem tideKnownUpto_row_tie : Rows.tideKnownUptoRow.laidByTextAt .later Tryd.pinned [.data, .funcs, .funcs] true :=
  OpenClaim.laidByTextAt_later rfl rfl tie4 noOwnUnsafe
end Go.Proofs.YtdpjoppdlhfidaaDoor
