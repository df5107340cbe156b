/-
  Closed facts of the program that a row asks for.
-/
import Derived.Test.YtdpjoppdlhfidaaDoorRows
import Derived.JoinedOf
import Derived.SevenTiedAt
namespace Go.Proofs.YtdpjoppdlhfidaaDoor

theorem sLay : laidOutB Tryd.prog = true := by kernel_rfl
theorem sMr : mapsRowed Tryd.prog = true := by kernel_rfl
theorem sPlain : (false == Tryd.prog.plainKeys) = true := by kernel_rfl
theorem sHeard : Tryd.prog.stopsHeard = true := by kernel_rfl
theorem sMay : Tryd.prog.mayEnter = true := by kernel_rfl
theorem sLifted : (Rows.seineHoldsRow.lifted == Tryd.prog.liftsFinal) = true := by kernel_rfl
theorem sMake : (Tryd.prog.make == some Rows.seineHoldsRow.make) = true := by kernel_rfl
theorem sMain : Tryd.pinned.checked.prog.mainIs = some (true, "b257ec4bfb6555dd820535dcbfe2d200b1b3c2694199492f523410cf5beded7e".toList) := by kernel_rfl
theorem sLooks : false = Tryd.pinned.checked.prog.looks [] := by kernel_rfl
end Go.Proofs.YtdpjoppdlhfidaaDoor
