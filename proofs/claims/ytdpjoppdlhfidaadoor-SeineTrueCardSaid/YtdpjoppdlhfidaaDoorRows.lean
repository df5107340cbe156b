/-
  NARROWER THAN 'FOR EVERY INPUT', by the rows' own cells (each row's printed sentence says how): SeineHolds: laid · SeineSaves: laid · SeineWrongs: laid · SeineTrue: laid · SeineEnds: laid · SeineMore: laid · TopUncounted: laid · SeineLater: laid · SeineSaved: laid · TopBushels: laid · SeineWrong: laid · SeinePlain: laid · SeineKnown: laid · TidePlans: laid · TideLefts: laid · TideBests: laid · TideTrue: laid · TideEnds: laid · TideBest: laid · TideMore: laid · TideSpare: laid · TideEasier: laid · TideCalm: laid · TideKnown: laid.
  DERIVED. THE GIVEN ROWS OF THIS SEAT. 24 by the template 'for every input the law returns true; each argument reads behind the call as it read before'; 0 by the template 'total and deterministic' (their statements: YtdpjoppdlhfidaaDoorTotals.lean).
  GIVEN WITH THE SEED: the statements are not yours to turn. If you find one false, say at which input.
  Laid BY PROGRAM, IN A SANDBOX (cutbox-rows.mjs): the forced cells as the released guide's own fill.sh prints them over the translation 6fdc523a7b24a93c… (all of the seat's roots in one cut). By AI agents, Wed Nov 11 2026. No macro, syntax, notation, axiom, sorry.
-/
import Derived.Test.YtdpjoppdlhfidaaDoorChecked
import GoSem.Claim
import GoSem.ClaimJoined
import GoSem.ClaimMapViews
import Derived.JoinedTies
import Derived.KernelRfl
namespace Go.Proofs.YtdpjoppdlhfidaaDoor
/- THE CELL 'sum', in the pinned program and in every row, IS THE sha256 OF THE DUMP (.gsa) THAT YtdpjoppdlhfidaaDoorProg.lean LOADS. Nothing in Lean hashes anything: it is a label: what it is worth is what the hold of that sum in a sandbox is worth. -/
noncomputable def Tryd.pinned : Pinned := { name := "ytdpjoppdlhfidaadoor", sum := "6fdc523a7b24a93c978177c33b6414afd5ac41fd5175a242a354d287f45fb71a", checked := Tryd.checked }
namespace Rows
def none {H : Type} : Left H := { results := [], args := [] }

/- WHAT THE LISTED PACKAGE-LEVEL VARIABLES READ AS WHEN THE CALL BEGINS. Each datum BY PROGRAM (the guide's laid-datum.mjs) off the statement by which the dump's own 'gosem.cut.vars' lays the variable. In a bare row this is a premise. The card (YtdpjoppdlhfidaaDoorCards.lean) ties it to the program's text. -/
def laid_huer_seine_most {H : Type} : DataW H := .agg [.lit (.int .i64 400), .lit (.int .i64 9), .lit (.int .i64 0), .lit (.int .i64 400), .lit (.int .i64 400)]
def laid_huer_seine_does {H : Type} : DataW H := .iface "func table" (.agg [.iface "func" (.lit (.string [40, 104, 117, 101, 114, 47, 115, 101, 105, 110, 101, 46, 115, 116, 97, 116, 101, 41, 46, 116, 117, 99, 107])), .iface "func" (.lit (.string [40, 104, 117, 101, 114, 47, 115, 101, 105, 110, 101, 46, 115, 116, 97, 116, 101, 41, 46, 98, 114, 101, 97, 99, 104])), .iface "func" (.lit (.string [40, 104, 117, 101, 114, 47, 115, 101, 105, 110, 101, 46, 115, 116, 97, 116, 101, 41, 46, 109, 101, 110, 100])), .iface "func" (.lit (.string [40, 104, 117, 101, 114, 47, 115, 101, 105, 110, 101, 46, 115, 116, 97, 116, 101, 41, 46, 100, 111, 103, 115])), .iface "func" (.lit (.string [40, 104, 117, 101, 114, 47, 115, 101, 105, 110, 101, 46, 115, 116, 97, 116, 101, 41, 46, 115, 111, 117, 110, 100]))])
def laid_huer_bulk_counts {H : Type} : DataW H := .iface "func table" (.agg [.iface "func" (.lit (.string [40, 104, 117, 101, 114, 47, 98, 117, 108, 107, 46, 102, 105, 115, 104, 41, 46, 98, 97, 114, 114, 111, 119, 115])), .iface "func" (.lit (.string [40, 104, 117, 101, 114, 47, 98, 117, 108, 107, 46, 102, 105, 115, 104, 41, 46, 114, 111, 119, 115])), .iface "func" (.lit (.string [40, 104, 117, 101, 114, 47, 98, 117, 108, 107, 46, 102, 105, 115, 104, 41, 46, 99, 97, 115, 107, 115]))])
def laid_huer_bond_tells {H : Type} : DataW H := .iface "func table" (.agg [.iface "func" (.lit (.string [40, 104, 117, 101, 114, 47, 98, 111, 110, 100, 46, 98, 111, 111, 107, 41, 46, 115, 104, 111, 114, 116])), .iface "func" (.lit (.string [40, 104, 117, 101, 114, 47, 98, 111, 110, 100, 46, 98, 111, 111, 107, 41, 46, 112, 97, 105, 100]))])
def laid_huer_salt_never {H : Type} : DataW H := .agg [.lit (.int .i64 (-1)), .lit (.int .i64 0)]
def laid_huer_salt_ends {H : Type} : DataW H := .iface "func table" (.agg [.iface "func" (.lit (.string [40, 104, 117, 101, 114, 47, 115, 97, 108, 116, 46, 98, 111, 111, 107, 41, 46, 108, 101, 97, 115, 116])), .iface "func" (.lit (.string [40, 104, 117, 101, 114, 47, 115, 97, 108, 116, 46, 98, 111, 111, 107, 41, 46, 103, 114, 101, 97, 116, 101, 115, 116]))])
def laid_huer_tide_asks {H : Type} : DataW H := .iface "func table" (.agg [.agg [.iface "func" (.lit (.string [40, 104, 117, 101, 114, 47, 116, 105, 100, 101, 46, 98, 111, 111, 107, 41, 46, 111, 117, 116])), .iface "func" (.lit (.string [40, 104, 117, 101, 114, 47, 116, 105, 100, 101, 46, 98, 111, 111, 107, 41, 46, 119, 111, 114, 115, 116])), .iface "func" (.lit (.string [40, 104, 117, 101, 114, 47, 116, 105, 100, 101, 46, 98, 111, 111, 107, 41, 46, 98, 101, 115, 116]))], .agg [.iface "func" (.lit (.string [40, 104, 117, 101, 114, 47, 116, 105, 100, 101, 46, 98, 111, 111, 107, 41, 46, 108, 111, 115, 116])), .iface "func" (.lit (.string [40, 104, 117, 101, 114, 47, 116, 105, 100, 101, 46, 98, 111, 111, 107, 41, 46, 102, 101, 119])), .iface "func" (.lit (.string [40, 104, 117, 101, 114, 47, 116, 105, 100, 101, 46, 98, 111, 111, 107, 41, 46, 109, 97, 110, 121]))], .agg [.iface "func" (.lit (.string [40, 104, 117, 101, 114, 47, 116, 105, 100, 101, 46, 98, 111, 111, 107, 41, 46, 108, 101, 102, 116])), .iface "func" (.lit (.string [40, 104, 117, 101, 114, 47, 116, 105, 100, 101, 46, 98, 111, 111, 107, 41, 46, 100, 114, 121])), .iface "func" (.lit (.string [40, 104, 117, 101, 114, 47, 116, 105, 100, 101, 46, 98, 111, 111, 107, 41, 46, 102, 117, 108, 108]))]])

/-- 'huerlaw03.SeineHolds': WHATEVER THE INPUT: true; the input reads as it did. -/
def seineHoldsSpec : ChangeSpec := { name := "seineHolds", fn := fun _ => fun
  | [d1, d2] => { results := [.lit (.bool true)], args := [d1, d2] }
  | _ => none }
def seineHoldsRow : OpenClaim := { program := "ytdpjoppdlhfidaadoor", sum := "6fdc523a7b24a93c978177c33b6414afd5ac41fd5175a242a354d287f45fb71a", func := "huer/huerlaw03.SeineHolds", spec := "seineHolds", inPlace := ["slices.overlaps[huer/api.SeineNote]"], unfollowed := true, recurses := true, named := ["huer/seine.most", "huer/seine.does"], plainKeys := false, apart := false, laid := [("huer/seine.most", laid_huer_seine_most), ("huer/seine.does", laid_huer_seine_does)] }
def SeineHoldsSaid : Prop := seineHoldsRow.holds Tryd.pinned (OpenSpec.ofChange seineHoldsSpec)

/-- ITS FALSE NEIGHBOUR: 'it returns false'. Refute it at one input. -/
def seineHoldsWrong : ChangeSpec := { name := "seineHolds", fn := fun _ => fun
  | [d1, d2] => { results := [.lit (.bool false)], args := [d1, d2] }
  | _ => none }
def SeineHoldsWrongFalsely : Prop := seineHoldsRow.holds Tryd.pinned (OpenSpec.ofChange seineHoldsWrong)

/-- 'huerlaw03.SeineSaves': WHATEVER THE INPUT: true; the input reads as it did. -/
def seineSavesSpec : ChangeSpec := { name := "seineSaves", fn := fun _ => fun
  | [d1, d2] => { results := [.lit (.bool true)], args := [d1, d2] }
  | _ => none }
def seineSavesRow : OpenClaim := { program := "ytdpjoppdlhfidaadoor", sum := "6fdc523a7b24a93c978177c33b6414afd5ac41fd5175a242a354d287f45fb71a", func := "huer/huerlaw03.SeineSaves", spec := "seineSaves", inPlace := ["slices.overlaps[huer/api.SeineNote]"], unfollowed := true, recurses := true, named := ["huer/seine.most", "huer/seine.does"], plainKeys := false, apart := false, laid := [("huer/seine.most", laid_huer_seine_most), ("huer/seine.does", laid_huer_seine_does)] }
def SeineSavesSaid : Prop := seineSavesRow.holds Tryd.pinned (OpenSpec.ofChange seineSavesSpec)

/-- ITS FALSE NEIGHBOUR: 'it returns false'. Refute it at one input. -/
def seineSavesWrong : ChangeSpec := { name := "seineSaves", fn := fun _ => fun
  | [d1, d2] => { results := [.lit (.bool false)], args := [d1, d2] }
  | _ => none }
def SeineSavesWrongFalsely : Prop := seineSavesRow.holds Tryd.pinned (OpenSpec.ofChange seineSavesWrong)

/-- 'huerlaw03.SeineWrongs': WHATEVER THE INPUT: true; the input reads as it did. -/
def seineWrongsSpec : ChangeSpec := { name := "seineWrongs", fn := fun _ => fun
  | [d] => { results := [.lit (.bool true)], args := [d] }
  | _ => none }
def seineWrongsRow : OpenClaim := { program := "ytdpjoppdlhfidaadoor", sum := "6fdc523a7b24a93c978177c33b6414afd5ac41fd5175a242a354d287f45fb71a", func := "huer/huerlaw03.SeineWrongs", spec := "seineWrongs", inPlace := ["slices.overlaps[huer/api.SeineNote]"], unfollowed := true, recurses := true, named := ["huer/seine.most", "huer/seine.does"], plainKeys := false, apart := false, laid := [("huer/seine.most", laid_huer_seine_most), ("huer/seine.does", laid_huer_seine_does)] }
def SeineWrongsSaid : Prop := seineWrongsRow.holds Tryd.pinned (OpenSpec.ofChange seineWrongsSpec)

/-- ITS FALSE NEIGHBOUR: 'it returns false'. Refute it at one input. -/
def seineWrongsWrong : ChangeSpec := { name := "seineWrongs", fn := fun _ => fun
  | [d] => { results := [.lit (.bool false)], args := [d] }
  | _ => none }
def SeineWrongsWrongFalsely : Prop := seineWrongsRow.holds Tryd.pinned (OpenSpec.ofChange seineWrongsWrong)

/-- 'huerlaw03.SeineTrue': WHATEVER THE INPUT: true; the input reads as it did. -/
def seineTrueSpec : ChangeSpec := { name := "seineTrue", fn := fun _ => fun
  | [d1, d2, d3] => { results := [.lit (.bool true)], args := [d1, d2, d3] }
  | _ => none }
def seineTrueRow : OpenClaim := { program := "ytdpjoppdlhfidaadoor", sum := "6fdc523a7b24a93c978177c33b6414afd5ac41fd5175a242a354d287f45fb71a", func := "huer/huerlaw03.SeineTrue", spec := "seineTrue", inPlace := ["slices.overlaps[huer/api.SeineNote]"], unfollowed := true, recurses := true, named := ["huer/seine.most", "huer/seine.does"], plainKeys := false, apart := false, laid := [("huer/seine.most", laid_huer_seine_most), ("huer/seine.does", laid_huer_seine_does)] }
def SeineTrueSaid : Prop := seineTrueRow.holds Tryd.pinned (OpenSpec.ofChange seineTrueSpec)

/-- ITS FALSE NEIGHBOUR: 'it returns false'. Refute it at one input. -/
def seineTrueWrong : ChangeSpec := { name := "seineTrue", fn := fun _ => fun
  | [d1, d2, d3] => { results := [.lit (.bool false)], args := [d1, d2, d3] }
  | _ => none }
def SeineTrueWrongFalsely : Prop := seineTrueRow.holds Tryd.pinned (OpenSpec.ofChange seineTrueWrong)

/-- 'huerlaw03.SeineEnds': WHATEVER THE INPUT: true; the input reads as it did. -/
def seineEndsSpec : ChangeSpec := { name := "seineEnds", fn := fun _ => fun
  | [d1, d2] => { results := [.lit (.bool true)], args := [d1, d2] }
  | _ => none }
def seineEndsRow : OpenClaim := { program := "ytdpjoppdlhfidaadoor", sum := "6fdc523a7b24a93c978177c33b6414afd5ac41fd5175a242a354d287f45fb71a", func := "huer/huerlaw03.SeineEnds", spec := "seineEnds", inPlace := ["slices.overlaps[huer/api.SeineNote]"], unfollowed := true, recurses := true, named := ["huer/seine.most", "huer/seine.does"], plainKeys := false, apart := false, laid := [("huer/seine.most", laid_huer_seine_most), ("huer/seine.does", laid_huer_seine_does)] }
def SeineEndsSaid : Prop := seineEndsRow.holds Tryd.pinned (OpenSpec.ofChange seineEndsSpec)

/-- ITS FALSE NEIGHBOUR: 'it returns false'. Refute it at one input. -/
def seineEndsWrong : ChangeSpec := { name := "seineEnds", fn := fun _ => fun
  | [d1, d2] => { results := [.lit (.bool false)], args := [d1, d2] }
  | _ => none }
def SeineEndsWrongFalsely : Prop := seineEndsRow.holds Tryd.pinned (OpenSpec.ofChange seineEndsWrong)

/-- 'huerlaw03.SeineMore': WHATEVER THE INPUT: true; the input reads as it did. -/
def seineMoreSpec : ChangeSpec := { name := "seineMore", fn := fun _ => fun
  | [d1, d2, d3] => { results := [.lit (.bool true)], args := [d1, d2, d3] }
  | _ => none }
def seineMoreRow : OpenClaim := { program := "ytdpjoppdlhfidaadoor", sum := "6fdc523a7b24a93c978177c33b6414afd5ac41fd5175a242a354d287f45fb71a", func := "huer/huerlaw03.SeineMore", spec := "seineMore", inPlace := ["slices.overlaps[huer/api.SeineNote]"], unfollowed := true, recurses := true, named := ["huer/seine.most", "huer/seine.does"], plainKeys := false, apart := false, laid := [("huer/seine.most", laid_huer_seine_most), ("huer/seine.does", laid_huer_seine_does)] }
def SeineMoreSaid : Prop := seineMoreRow.holds Tryd.pinned (OpenSpec.ofChange seineMoreSpec)

/-- ITS FALSE NEIGHBOUR: 'it returns false'. Refute it at one input. -/
def seineMoreWrong : ChangeSpec := { name := "seineMore", fn := fun _ => fun
  | [d1, d2, d3] => { results := [.lit (.bool false)], args := [d1, d2, d3] }
  | _ => none }
def SeineMoreWrongFalsely : Prop := seineMoreRow.holds Tryd.pinned (OpenSpec.ofChange seineMoreWrong)

/-- 'huertop.TopUncounted': WHATEVER THE INPUT: true; the input reads as it did. -/
def topUncountedSpec : ChangeSpec := { name := "topUncounted", fn := fun _ => fun
  | [d1, d2] => { results := [.lit (.bool true)], args := [d1, d2] }
  | _ => none }
def topUncountedRow : OpenClaim := { program := "ytdpjoppdlhfidaadoor", sum := "6fdc523a7b24a93c978177c33b6414afd5ac41fd5175a242a354d287f45fb71a", func := "huer/huertop.TopUncounted", spec := "topUncounted", unfollowed := true, recurses := true, named := ["huer/bulk.counts", "huer/bond.tells"], plainKeys := false, apart := false, laid := [("huer/bulk.counts", laid_huer_bulk_counts), ("huer/bond.tells", laid_huer_bond_tells)] }
def TopUncountedSaid : Prop := topUncountedRow.holds Tryd.pinned (OpenSpec.ofChange topUncountedSpec)

/-- ITS FALSE NEIGHBOUR: 'it returns false'. Refute it at one input. -/
def topUncountedWrong : ChangeSpec := { name := "topUncounted", fn := fun _ => fun
  | [d1, d2] => { results := [.lit (.bool false)], args := [d1, d2] }
  | _ => none }
def TopUncountedWrongFalsely : Prop := topUncountedRow.holds Tryd.pinned (OpenSpec.ofChange topUncountedWrong)

/-- 'huerlaw03.SeineLater': WHATEVER THE INPUT: true; the input reads as it did. -/
def seineLaterSpec : ChangeSpec := { name := "seineLater", fn := fun _ => fun
  | [d1, d2] => { results := [.lit (.bool true)], args := [d1, d2] }
  | _ => none }
def seineLaterRow : OpenClaim := { program := "ytdpjoppdlhfidaadoor", sum := "6fdc523a7b24a93c978177c33b6414afd5ac41fd5175a242a354d287f45fb71a", func := "huer/huerlaw03.SeineLater", spec := "seineLater", inPlace := ["slices.overlaps[huer/api.SeineNote]"], unfollowed := true, recurses := true, named := ["huer/seine.most", "huer/seine.does"], plainKeys := false, apart := false, laid := [("huer/seine.most", laid_huer_seine_most), ("huer/seine.does", laid_huer_seine_does)] }
def SeineLaterSaid : Prop := seineLaterRow.holds Tryd.pinned (OpenSpec.ofChange seineLaterSpec)

/-- ITS FALSE NEIGHBOUR: 'it returns false'. Refute it at one input. -/
def seineLaterWrong : ChangeSpec := { name := "seineLater", fn := fun _ => fun
  | [d1, d2] => { results := [.lit (.bool false)], args := [d1, d2] }
  | _ => none }
def SeineLaterWrongFalsely : Prop := seineLaterRow.holds Tryd.pinned (OpenSpec.ofChange seineLaterWrong)

/-- 'huerlaw03.SeineSaved': WHATEVER THE INPUT: true; the input reads as it did. -/
def seineSavedSpec : ChangeSpec := { name := "seineSaved", fn := fun _ => fun
  | [d] => { results := [.lit (.bool true)], args := [d] }
  | _ => none }
def seineSavedRow : OpenClaim := { program := "ytdpjoppdlhfidaadoor", sum := "6fdc523a7b24a93c978177c33b6414afd5ac41fd5175a242a354d287f45fb71a", func := "huer/huerlaw03.SeineSaved", spec := "seineSaved", inPlace := ["slices.overlaps[huer/api.SeineNote]"], unfollowed := true, recurses := true, named := ["huer/seine.most", "huer/seine.does"], plainKeys := false, apart := false, laid := [("huer/seine.most", laid_huer_seine_most), ("huer/seine.does", laid_huer_seine_does)] }
def SeineSavedSaid : Prop := seineSavedRow.holds Tryd.pinned (OpenSpec.ofChange seineSavedSpec)

/-- ITS FALSE NEIGHBOUR: 'it returns false'. Refute it at one input. -/
def seineSavedWrong : ChangeSpec := { name := "seineSaved", fn := fun _ => fun
  | [d] => { results := [.lit (.bool false)], args := [d] }
  | _ => none }
def SeineSavedWrongFalsely : Prop := seineSavedRow.holds Tryd.pinned (OpenSpec.ofChange seineSavedWrong)

/-- 'huertop.TopBushels': WHATEVER THE INPUT: true; the input reads as it did. -/
def topBushelsSpec : ChangeSpec := { name := "topBushels", fn := fun _ => fun
  | [d] => { results := [.lit (.bool true)], args := [d] }
  | _ => none }
def topBushelsRow : OpenClaim := { program := "ytdpjoppdlhfidaadoor", sum := "6fdc523a7b24a93c978177c33b6414afd5ac41fd5175a242a354d287f45fb71a", func := "huer/huertop.TopBushels", spec := "topBushels", unfollowed := true, recurses := true, named := ["huer/bulk.counts", "huer/salt.never", "huer/salt.ends", "huer/seine.most", "huer/seine.does"], plainKeys := false, apart := false, laid := [("huer/bulk.counts", laid_huer_bulk_counts), ("huer/salt.never", laid_huer_salt_never), ("huer/salt.ends", laid_huer_salt_ends), ("huer/seine.most", laid_huer_seine_most), ("huer/seine.does", laid_huer_seine_does)] }
def TopBushelsSaid : Prop := topBushelsRow.holds Tryd.pinned (OpenSpec.ofChange topBushelsSpec)

/-- ITS FALSE NEIGHBOUR: 'it returns false'. Refute it at one input. -/
def topBushelsWrong : ChangeSpec := { name := "topBushels", fn := fun _ => fun
  | [d] => { results := [.lit (.bool false)], args := [d] }
  | _ => none }
def TopBushelsWrongFalsely : Prop := topBushelsRow.holds Tryd.pinned (OpenSpec.ofChange topBushelsWrong)

/-- 'huerlaw03.SeineWrong': WHATEVER THE INPUT: true; the input reads as it did. -/
def seineWrongSpec : ChangeSpec := { name := "seineWrong", fn := fun _ => fun
  | [d1, d2] => { results := [.lit (.bool true)], args := [d1, d2] }
  | _ => none }
def seineWrongRow : OpenClaim := { program := "ytdpjoppdlhfidaadoor", sum := "6fdc523a7b24a93c978177c33b6414afd5ac41fd5175a242a354d287f45fb71a", func := "huer/huerlaw03.SeineWrong", spec := "seineWrong", inPlace := ["slices.overlaps[huer/api.SeineNote]"], unfollowed := true, recurses := true, named := ["huer/seine.most", "huer/seine.does"], plainKeys := false, apart := false, laid := [("huer/seine.most", laid_huer_seine_most), ("huer/seine.does", laid_huer_seine_does)] }
def SeineWrongSaid : Prop := seineWrongRow.holds Tryd.pinned (OpenSpec.ofChange seineWrongSpec)

/-- ITS FALSE NEIGHBOUR: 'it returns false'. Refute it at one input. -/
def seineWrongWrong : ChangeSpec := { name := "seineWrong", fn := fun _ => fun
  | [d1, d2] => { results := [.lit (.bool false)], args := [d1, d2] }
  | _ => none }
def SeineWrongWrongFalsely : Prop := seineWrongRow.holds Tryd.pinned (OpenSpec.ofChange seineWrongWrong)

/-- 'huerlaw03.SeinePlain': WHATEVER THE INPUT: true; the input reads as it did. -/
def seinePlainSpec : ChangeSpec := { name := "seinePlain", fn := fun _ => fun
  | [d1, d2] => { results := [.lit (.bool true)], args := [d1, d2] }
  | _ => none }
def seinePlainRow : OpenClaim := { program := "ytdpjoppdlhfidaadoor", sum := "6fdc523a7b24a93c978177c33b6414afd5ac41fd5175a242a354d287f45fb71a", func := "huer/huerlaw03.SeinePlain", spec := "seinePlain", inPlace := ["slices.overlaps[huer/api.SeineNote]"], unfollowed := true, recurses := true, named := ["huer/seine.most", "huer/seine.does"], plainKeys := false, apart := false, laid := [("huer/seine.most", laid_huer_seine_most), ("huer/seine.does", laid_huer_seine_does)] }
def SeinePlainSaid : Prop := seinePlainRow.holds Tryd.pinned (OpenSpec.ofChange seinePlainSpec)

/-- ITS FALSE NEIGHBOUR: 'it returns false'. Refute it at one input. -/
def seinePlainWrong : ChangeSpec := { name := "seinePlain", fn := fun _ => fun
  | [d1, d2] => { results := [.lit (.bool false)], args := [d1, d2] }
  | _ => none }
def SeinePlainWrongFalsely : Prop := seinePlainRow.holds Tryd.pinned (OpenSpec.ofChange seinePlainWrong)

/-- 'huerlaw03.SeineKnown': WHATEVER THE INPUT: true; the input reads as it did. -/
def seineKnownSpec : ChangeSpec := { name := "seineKnown", fn := fun _ => fun
  | [] => { results := [.lit (.bool true)], args := [] }
  | _ => none }
def seineKnownRow : OpenClaim := { program := "ytdpjoppdlhfidaadoor", sum := "6fdc523a7b24a93c978177c33b6414afd5ac41fd5175a242a354d287f45fb71a", func := "huer/huerlaw03.SeineKnown", spec := "seineKnown", inPlace := ["slices.overlaps[huer/api.SeineNote]"], unfollowed := true, recurses := true, named := ["huer/seine.most", "huer/seine.does"], plainKeys := false, apart := false, laid := [("huer/seine.most", laid_huer_seine_most), ("huer/seine.does", laid_huer_seine_does)] }
def SeineKnownSaid : Prop := seineKnownRow.holds Tryd.pinned (OpenSpec.ofChange seineKnownSpec)

/-- ITS FALSE NEIGHBOUR: 'it returns false'. Refute it at one input. -/
def seineKnownWrong : ChangeSpec := { name := "seineKnown", fn := fun _ => fun
  | [] => { results := [.lit (.bool false)], args := [] }
  | _ => none }
def SeineKnownWrongFalsely : Prop := seineKnownRow.holds Tryd.pinned (OpenSpec.ofChange seineKnownWrong)

/-- 'huerlaw04.TidePlans': WHATEVER THE INPUT: true; the input reads as it did. -/
def tidePlansSpec : ChangeSpec := { name := "tidePlans", fn := fun _ => fun
  | [d1, d2] => { results := [.lit (.bool true)], args := [d1, d2] }
  | _ => none }
def tidePlansRow : OpenClaim := { program := "ytdpjoppdlhfidaadoor", sum := "6fdc523a7b24a93c978177c33b6414afd5ac41fd5175a242a354d287f45fb71a", func := "huer/huerlaw04.TidePlans", spec := "tidePlans", unfollowed := true, recurses := true, named := ["huer/seine.most", "huer/seine.does", "huer/tide.asks"], plainKeys := false, apart := false, laid := [("huer/seine.most", laid_huer_seine_most), ("huer/seine.does", laid_huer_seine_does), ("huer/tide.asks", laid_huer_tide_asks)] }
def TidePlansSaid : Prop := tidePlansRow.holds Tryd.pinned (OpenSpec.ofChange tidePlansSpec)

/-- ITS FALSE NEIGHBOUR: 'it returns false'. Refute it at one input. -/
def tidePlansWrong : ChangeSpec := { name := "tidePlans", fn := fun _ => fun
  | [d1, d2] => { results := [.lit (.bool false)], args := [d1, d2] }
  | _ => none }
def TidePlansWrongFalsely : Prop := tidePlansRow.holds Tryd.pinned (OpenSpec.ofChange tidePlansWrong)

/-- 'huerlaw04.TideLefts': WHATEVER THE INPUT: true; the input reads as it did. -/
def tideLeftsSpec : ChangeSpec := { name := "tideLefts", fn := fun _ => fun
  | [d1, d2] => { results := [.lit (.bool true)], args := [d1, d2] }
  | _ => none }
def tideLeftsRow : OpenClaim := { program := "ytdpjoppdlhfidaadoor", sum := "6fdc523a7b24a93c978177c33b6414afd5ac41fd5175a242a354d287f45fb71a", func := "huer/huerlaw04.TideLefts", spec := "tideLefts", unfollowed := true, recurses := true, named := ["huer/seine.most", "huer/seine.does", "huer/tide.asks"], plainKeys := false, apart := false, laid := [("huer/seine.most", laid_huer_seine_most), ("huer/seine.does", laid_huer_seine_does), ("huer/tide.asks", laid_huer_tide_asks)] }
def TideLeftsSaid : Prop := tideLeftsRow.holds Tryd.pinned (OpenSpec.ofChange tideLeftsSpec)

/-- ITS FALSE NEIGHBOUR: 'it returns false'. Refute it at one input. -/
def tideLeftsWrong : ChangeSpec := { name := "tideLefts", fn := fun _ => fun
  | [d1, d2] => { results := [.lit (.bool false)], args := [d1, d2] }
  | _ => none }
def TideLeftsWrongFalsely : Prop := tideLeftsRow.holds Tryd.pinned (OpenSpec.ofChange tideLeftsWrong)

/-- 'huerlaw04.TideBests': WHATEVER THE INPUT: true; the input reads as it did. -/
def tideBestsSpec : ChangeSpec := { name := "tideBests", fn := fun _ => fun
  | [d] => { results := [.lit (.bool true)], args := [d] }
  | _ => none }
def tideBestsRow : OpenClaim := { program := "ytdpjoppdlhfidaadoor", sum := "6fdc523a7b24a93c978177c33b6414afd5ac41fd5175a242a354d287f45fb71a", func := "huer/huerlaw04.TideBests", spec := "tideBests", unfollowed := true, recurses := true, named := ["huer/seine.most", "huer/seine.does", "huer/tide.asks"], plainKeys := false, apart := false, laid := [("huer/seine.most", laid_huer_seine_most), ("huer/seine.does", laid_huer_seine_does), ("huer/tide.asks", laid_huer_tide_asks)] }
def TideBestsSaid : Prop := tideBestsRow.holds Tryd.pinned (OpenSpec.ofChange tideBestsSpec)

/-- ITS FALSE NEIGHBOUR: 'it returns false'. Refute it at one input. -/
def tideBestsWrong : ChangeSpec := { name := "tideBests", fn := fun _ => fun
  | [d] => { results := [.lit (.bool false)], args := [d] }
  | _ => none }
def TideBestsWrongFalsely : Prop := tideBestsRow.holds Tryd.pinned (OpenSpec.ofChange tideBestsWrong)

/-- 'huerlaw04.TideTrue': WHATEVER THE INPUT: true; the input reads as it did. -/
def tideTrueSpec : ChangeSpec := { name := "tideTrue", fn := fun _ => fun
  | [d1, d2, d3] => { results := [.lit (.bool true)], args := [d1, d2, d3] }
  | _ => none }
def tideTrueRow : OpenClaim := { program := "ytdpjoppdlhfidaadoor", sum := "6fdc523a7b24a93c978177c33b6414afd5ac41fd5175a242a354d287f45fb71a", func := "huer/huerlaw04.TideTrue", spec := "tideTrue", unfollowed := true, recurses := true, named := ["huer/seine.most", "huer/seine.does", "huer/tide.asks"], plainKeys := false, apart := false, laid := [("huer/seine.most", laid_huer_seine_most), ("huer/seine.does", laid_huer_seine_does), ("huer/tide.asks", laid_huer_tide_asks)] }
def TideTrueSaid : Prop := tideTrueRow.holds Tryd.pinned (OpenSpec.ofChange tideTrueSpec)

/-- ITS FALSE NEIGHBOUR: 'it returns false'. Refute it at one input. -/
def tideTrueWrong : ChangeSpec := { name := "tideTrue", fn := fun _ => fun
  | [d1, d2, d3] => { results := [.lit (.bool false)], args := [d1, d2, d3] }
  | _ => none }
def TideTrueWrongFalsely : Prop := tideTrueRow.holds Tryd.pinned (OpenSpec.ofChange tideTrueWrong)

/-- 'huerlaw04.TideEnds': WHATEVER THE INPUT: true; the input reads as it did. -/
def tideEndsSpec : ChangeSpec := { name := "tideEnds", fn := fun _ => fun
  | [d1, d2] => { results := [.lit (.bool true)], args := [d1, d2] }
  | _ => none }
def tideEndsRow : OpenClaim := { program := "ytdpjoppdlhfidaadoor", sum := "6fdc523a7b24a93c978177c33b6414afd5ac41fd5175a242a354d287f45fb71a", func := "huer/huerlaw04.TideEnds", spec := "tideEnds", unfollowed := true, recurses := true, named := ["huer/seine.most", "huer/seine.does", "huer/tide.asks"], plainKeys := false, apart := false, laid := [("huer/seine.most", laid_huer_seine_most), ("huer/seine.does", laid_huer_seine_does), ("huer/tide.asks", laid_huer_tide_asks)] }
def TideEndsSaid : Prop := tideEndsRow.holds Tryd.pinned (OpenSpec.ofChange tideEndsSpec)

/-- ITS FALSE NEIGHBOUR: 'it returns false'. Refute it at one input. -/
def tideEndsWrong : ChangeSpec := { name := "tideEnds", fn := fun _ => fun
  | [d1, d2] => { results := [.lit (.bool false)], args := [d1, d2] }
  | _ => none }
def TideEndsWrongFalsely : Prop := tideEndsRow.holds Tryd.pinned (OpenSpec.ofChange tideEndsWrong)

/-- 'huerlaw04.TideBest': WHATEVER THE INPUT: true; the input reads as it did. -/
def tideBestSpec : ChangeSpec := { name := "tideBest", fn := fun _ => fun
  | [d1, d2] => { results := [.lit (.bool true)], args := [d1, d2] }
  | _ => none }
def tideBestRow : OpenClaim := { program := "ytdpjoppdlhfidaadoor", sum := "6fdc523a7b24a93c978177c33b6414afd5ac41fd5175a242a354d287f45fb71a", func := "huer/huerlaw04.TideBest", spec := "tideBest", unfollowed := true, recurses := true, named := ["huer/seine.most", "huer/seine.does", "huer/tide.asks"], plainKeys := false, apart := false, laid := [("huer/seine.most", laid_huer_seine_most), ("huer/seine.does", laid_huer_seine_does), ("huer/tide.asks", laid_huer_tide_asks)] }
def TideBestSaid : Prop := tideBestRow.holds Tryd.pinned (OpenSpec.ofChange tideBestSpec)

/-- ITS FALSE NEIGHBOUR: 'it returns false'. Refute it at one input. -/
def tideBestWrong : ChangeSpec := { name := "tideBest", fn := fun _ => fun
  | [d1, d2] => { results := [.lit (.bool false)], args := [d1, d2] }
  | _ => none }
def TideBestWrongFalsely : Prop := tideBestRow.holds Tryd.pinned (OpenSpec.ofChange tideBestWrong)

/-- 'huerlaw04.TideMore': WHATEVER THE INPUT: true; the input reads as it did. -/
def tideMoreSpec : ChangeSpec := { name := "tideMore", fn := fun _ => fun
  | [d1, d2, d3] => { results := [.lit (.bool true)], args := [d1, d2, d3] }
  | _ => none }
def tideMoreRow : OpenClaim := { program := "ytdpjoppdlhfidaadoor", sum := "6fdc523a7b24a93c978177c33b6414afd5ac41fd5175a242a354d287f45fb71a", func := "huer/huerlaw04.TideMore", spec := "tideMore", unfollowed := true, recurses := true, named := ["huer/seine.most", "huer/seine.does", "huer/tide.asks"], plainKeys := false, apart := false, laid := [("huer/seine.most", laid_huer_seine_most), ("huer/seine.does", laid_huer_seine_does), ("huer/tide.asks", laid_huer_tide_asks)] }
def TideMoreSaid : Prop := tideMoreRow.holds Tryd.pinned (OpenSpec.ofChange tideMoreSpec)

/-- ITS FALSE NEIGHBOUR: 'it returns false'. Refute it at one input. -/
def tideMoreWrong : ChangeSpec := { name := "tideMore", fn := fun _ => fun
  | [d1, d2, d3] => { results := [.lit (.bool false)], args := [d1, d2, d3] }
  | _ => none }
def TideMoreWrongFalsely : Prop := tideMoreRow.holds Tryd.pinned (OpenSpec.ofChange tideMoreWrong)

/-- 'huerlaw04.TideSpare': WHATEVER THE INPUT: true; the input reads as it did. -/
def tideSpareSpec : ChangeSpec := { name := "tideSpare", fn := fun _ => fun
  | [d1, d2] => { results := [.lit (.bool true)], args := [d1, d2] }
  | _ => none }
def tideSpareRow : OpenClaim := { program := "ytdpjoppdlhfidaadoor", sum := "6fdc523a7b24a93c978177c33b6414afd5ac41fd5175a242a354d287f45fb71a", func := "huer/huerlaw04.TideSpare", spec := "tideSpare", unfollowed := true, recurses := true, named := ["huer/seine.most", "huer/seine.does", "huer/tide.asks"], plainKeys := false, apart := false, laid := [("huer/seine.most", laid_huer_seine_most), ("huer/seine.does", laid_huer_seine_does), ("huer/tide.asks", laid_huer_tide_asks)] }
def TideSpareSaid : Prop := tideSpareRow.holds Tryd.pinned (OpenSpec.ofChange tideSpareSpec)

/-- ITS FALSE NEIGHBOUR: 'it returns false'. Refute it at one input. -/
def tideSpareWrong : ChangeSpec := { name := "tideSpare", fn := fun _ => fun
  | [d1, d2] => { results := [.lit (.bool false)], args := [d1, d2] }
  | _ => none }
def TideSpareWrongFalsely : Prop := tideSpareRow.holds Tryd.pinned (OpenSpec.ofChange tideSpareWrong)

/-- 'huerlaw04.TideEasier': WHATEVER THE INPUT: true; the input reads as it did. -/
def tideEasierSpec : ChangeSpec := { name := "tideEasier", fn := fun _ => fun
  | [d1, d2] => { results := [.lit (.bool true)], args := [d1, d2] }
  | _ => none }
def tideEasierRow : OpenClaim := { program := "ytdpjoppdlhfidaadoor", sum := "6fdc523a7b24a93c978177c33b6414afd5ac41fd5175a242a354d287f45fb71a", func := "huer/huerlaw04.TideEasier", spec := "tideEasier", unfollowed := true, recurses := true, named := ["huer/seine.most", "huer/seine.does", "huer/tide.asks"], plainKeys := false, apart := false, laid := [("huer/seine.most", laid_huer_seine_most), ("huer/seine.does", laid_huer_seine_does), ("huer/tide.asks", laid_huer_tide_asks)] }
def TideEasierSaid : Prop := tideEasierRow.holds Tryd.pinned (OpenSpec.ofChange tideEasierSpec)

/-- ITS FALSE NEIGHBOUR: 'it returns false'. Refute it at one input. -/
def tideEasierWrong : ChangeSpec := { name := "tideEasier", fn := fun _ => fun
  | [d1, d2] => { results := [.lit (.bool false)], args := [d1, d2] }
  | _ => none }
def TideEasierWrongFalsely : Prop := tideEasierRow.holds Tryd.pinned (OpenSpec.ofChange tideEasierWrong)

/-- 'huerlaw04.TideCalm': WHATEVER THE INPUT: true; the input reads as it did. -/
def tideCalmSpec : ChangeSpec := { name := "tideCalm", fn := fun _ => fun
  | [d1, d2, d3] => { results := [.lit (.bool true)], args := [d1, d2, d3] }
  | _ => none }
def tideCalmRow : OpenClaim := { program := "ytdpjoppdlhfidaadoor", sum := "6fdc523a7b24a93c978177c33b6414afd5ac41fd5175a242a354d287f45fb71a", func := "huer/huerlaw04.TideCalm", spec := "tideCalm", unfollowed := true, recurses := true, named := ["huer/seine.most", "huer/seine.does", "huer/tide.asks"], plainKeys := false, apart := false, laid := [("huer/seine.most", laid_huer_seine_most), ("huer/seine.does", laid_huer_seine_does), ("huer/tide.asks", laid_huer_tide_asks)] }
def TideCalmSaid : Prop := tideCalmRow.holds Tryd.pinned (OpenSpec.ofChange tideCalmSpec)

/-- ITS FALSE NEIGHBOUR: 'it returns false'. Refute it at one input. -/
def tideCalmWrong : ChangeSpec := { name := "tideCalm", fn := fun _ => fun
  | [d1, d2, d3] => { results := [.lit (.bool false)], args := [d1, d2, d3] }
  | _ => none }
def TideCalmWrongFalsely : Prop := tideCalmRow.holds Tryd.pinned (OpenSpec.ofChange tideCalmWrong)

/-- 'huerlaw04.TideKnown': WHATEVER THE INPUT: true; the input reads as it did. -/
def tideKnownSpec : ChangeSpec := { name := "tideKnown", fn := fun _ => fun
  | [] => { results := [.lit (.bool true)], args := [] }
  | _ => none }
def tideKnownRow : OpenClaim := { program := "ytdpjoppdlhfidaadoor", sum := "6fdc523a7b24a93c978177c33b6414afd5ac41fd5175a242a354d287f45fb71a", func := "huer/huerlaw04.TideKnown", spec := "tideKnown", unfollowed := true, recurses := true, named := ["huer/seine.most", "huer/seine.does", "huer/tide.asks"], plainKeys := false, apart := false, laid := [("huer/seine.most", laid_huer_seine_most), ("huer/seine.does", laid_huer_seine_does), ("huer/tide.asks", laid_huer_tide_asks)] }
def TideKnownSaid : Prop := tideKnownRow.holds Tryd.pinned (OpenSpec.ofChange tideKnownSpec)

/-- ITS FALSE NEIGHBOUR: 'it returns false'. Refute it at one input. -/
def tideKnownWrong : ChangeSpec := { name := "tideKnown", fn := fun _ => fun
  | [] => { results := [.lit (.bool false)], args := [] }
  | _ => none }
def TideKnownWrongFalsely : Prop := tideKnownRow.holds Tryd.pinned (OpenSpec.ofChange tideKnownWrong)

/- THE SECOND FORM. 'bulk': how many values and letters a reading holds, each counted each time it is reached (what is shared counts as often as it is met; a slice's spare places count too). A statement '..UptoSaid' is the law's where the arguments, and the package variables that the reading takes, are together of bulk at most 1048576: NARROWER than '..Said'. Prove '..Said' where nothing that the law and all that it calls make is longer than what came in: it says more and counts as full. Else prove '..UptoSaid'. A law counts once. -/
mutual
def uptoBulk {H : Type} : DataW H → Nat
  | .lit (.string bytes) => bytes.length + 1
  | .lit _ => 1
  | .nil => 1
  | .ptr d => uptoBulk d + 1
  | .slice elems spare => uptoBulkAll elems + uptoBulkAll spare + 1
  | .agg parts => uptoBulkAll parts + 1
  | .iface _ d => uptoBulk d + 1
  | .map entries => uptoBulkEntries entries + 1
  | .held _ => 1
def uptoBulkAll {H : Type} : List (DataW H) → Nat
  | [] => 0
  | d :: r => uptoBulk d + uptoBulkAll r
def uptoBulkEntries {H : Type} : List (Lit × DataW H) → Nat
  | [] => 0
  | x :: r => uptoBulkEntry x + uptoBulkEntries r
def uptoBulkEntry {H : Type} : Lit × DataW H → Nat
  | (.string bytes, d) => bytes.length + uptoBulk d + 1
  | (_, d) => uptoBulk d + 1
 end
def uptoSmall : (H : Type) → List (DataW H) → Bool := fun _ ds => decide (uptoBulkAll ds ≤ 1048576)
def OpenSpec.upto (s : _root_.Go.ChangeSpec) : _root_.Go.OpenSpec := { _root_.Go.OpenSpec.ofChange s with cond := some uptoSmall }

/-- 'huerlaw03.SeineHolds', WHERE WHAT IT READS IS OF BULK AT MOST 1048576: true; the input reads as it did. -/
def seineHoldsUptoRow : OpenClaim := { program := "ytdpjoppdlhfidaadoor", sum := "6fdc523a7b24a93c978177c33b6414afd5ac41fd5175a242a354d287f45fb71a", func := "huer/huerlaw03.SeineHolds", spec := "seineHolds", inPlace := ["slices.overlaps[huer/api.SeineNote]"], unfollowed := true, recurses := true, named := ["huer/seine.most", "huer/seine.does"], plainKeys := false, apart := false, laid := [("huer/seine.most", laid_huer_seine_most), ("huer/seine.does", laid_huer_seine_does)], narrowed := true }
def SeineHoldsUptoSaid : Prop := seineHoldsUptoRow.holds Tryd.pinned (OpenSpec.upto seineHoldsSpec)

/-- 'huerlaw03.SeineSaves', WHERE WHAT IT READS IS OF BULK AT MOST 1048576: true; the input reads as it did. -/
def seineSavesUptoRow : OpenClaim := { program := "ytdpjoppdlhfidaadoor", sum := "6fdc523a7b24a93c978177c33b6414afd5ac41fd5175a242a354d287f45fb71a", func := "huer/huerlaw03.SeineSaves", spec := "seineSaves", inPlace := ["slices.overlaps[huer/api.SeineNote]"], unfollowed := true, recurses := true, named := ["huer/seine.most", "huer/seine.does"], plainKeys := false, apart := false, laid := [("huer/seine.most", laid_huer_seine_most), ("huer/seine.does", laid_huer_seine_does)], narrowed := true }
def SeineSavesUptoSaid : Prop := seineSavesUptoRow.holds Tryd.pinned (OpenSpec.upto seineSavesSpec)

/-- 'huerlaw03.SeineWrongs', WHERE WHAT IT READS IS OF BULK AT MOST 1048576: true; the input reads as it did. -/
def seineWrongsUptoRow : OpenClaim := { program := "ytdpjoppdlhfidaadoor", sum := "6fdc523a7b24a93c978177c33b6414afd5ac41fd5175a242a354d287f45fb71a", func := "huer/huerlaw03.SeineWrongs", spec := "seineWrongs", inPlace := ["slices.overlaps[huer/api.SeineNote]"], unfollowed := true, recurses := true, named := ["huer/seine.most", "huer/seine.does"], plainKeys := false, apart := false, laid := [("huer/seine.most", laid_huer_seine_most), ("huer/seine.does", laid_huer_seine_does)], narrowed := true }
def SeineWrongsUptoSaid : Prop := seineWrongsUptoRow.holds Tryd.pinned (OpenSpec.upto seineWrongsSpec)

/-- 'huerlaw03.SeineTrue', WHERE WHAT IT READS IS OF BULK AT MOST 1048576: true; the input reads as it did. -/
def seineTrueUptoRow : OpenClaim := { program := "ytdpjoppdlhfidaadoor", sum := "6fdc523a7b24a93c978177c33b6414afd5ac41fd5175a242a354d287f45fb71a", func := "huer/huerlaw03.SeineTrue", spec := "seineTrue", inPlace := ["slices.overlaps[huer/api.SeineNote]"], unfollowed := true, recurses := true, named := ["huer/seine.most", "huer/seine.does"], plainKeys := false, apart := false, laid := [("huer/seine.most", laid_huer_seine_most), ("huer/seine.does", laid_huer_seine_does)], narrowed := true }
def SeineTrueUptoSaid : Prop := seineTrueUptoRow.holds Tryd.pinned (OpenSpec.upto seineTrueSpec)

/-- 'huerlaw03.SeineEnds', WHERE WHAT IT READS IS OF BULK AT MOST 1048576: true; the input reads as it did. -/
def seineEndsUptoRow : OpenClaim := { program := "ytdpjoppdlhfidaadoor", sum := "6fdc523a7b24a93c978177c33b6414afd5ac41fd5175a242a354d287f45fb71a", func := "huer/huerlaw03.SeineEnds", spec := "seineEnds", inPlace := ["slices.overlaps[huer/api.SeineNote]"], unfollowed := true, recurses := true, named := ["huer/seine.most", "huer/seine.does"], plainKeys := false, apart := false, laid := [("huer/seine.most", laid_huer_seine_most), ("huer/seine.does", laid_huer_seine_does)], narrowed := true }
def SeineEndsUptoSaid : Prop := seineEndsUptoRow.holds Tryd.pinned (OpenSpec.upto seineEndsSpec)

/-- 'huerlaw03.SeineMore', WHERE WHAT IT READS IS OF BULK AT MOST 1048576: true; the input reads as it did. -/
def seineMoreUptoRow : OpenClaim := { program := "ytdpjoppdlhfidaadoor", sum := "6fdc523a7b24a93c978177c33b6414afd5ac41fd5175a242a354d287f45fb71a", func := "huer/huerlaw03.SeineMore", spec := "seineMore", inPlace := ["slices.overlaps[huer/api.SeineNote]"], unfollowed := true, recurses := true, named := ["huer/seine.most", "huer/seine.does"], plainKeys := false, apart := false, laid := [("huer/seine.most", laid_huer_seine_most), ("huer/seine.does", laid_huer_seine_does)], narrowed := true }
def SeineMoreUptoSaid : Prop := seineMoreUptoRow.holds Tryd.pinned (OpenSpec.upto seineMoreSpec)

/-- 'huertop.TopUncounted', WHERE WHAT IT READS IS OF BULK AT MOST 1048576: true; the input reads as it did. -/
def topUncountedUptoRow : OpenClaim := { program := "ytdpjoppdlhfidaadoor", sum := "6fdc523a7b24a93c978177c33b6414afd5ac41fd5175a242a354d287f45fb71a", func := "huer/huertop.TopUncounted", spec := "topUncounted", unfollowed := true, recurses := true, named := ["huer/bulk.counts", "huer/bond.tells"], plainKeys := false, apart := false, laid := [("huer/bulk.counts", laid_huer_bulk_counts), ("huer/bond.tells", laid_huer_bond_tells)], narrowed := true }
def TopUncountedUptoSaid : Prop := topUncountedUptoRow.holds Tryd.pinned (OpenSpec.upto topUncountedSpec)

/-- 'huerlaw03.SeineLater', WHERE WHAT IT READS IS OF BULK AT MOST 1048576: true; the input reads as it did. -/
def seineLaterUptoRow : OpenClaim := { program := "ytdpjoppdlhfidaadoor", sum := "6fdc523a7b24a93c978177c33b6414afd5ac41fd5175a242a354d287f45fb71a", func := "huer/huerlaw03.SeineLater", spec := "seineLater", inPlace := ["slices.overlaps[huer/api.SeineNote]"], unfollowed := true, recurses := true, named := ["huer/seine.most", "huer/seine.does"], plainKeys := false, apart := false, laid := [("huer/seine.most", laid_huer_seine_most), ("huer/seine.does", laid_huer_seine_does)], narrowed := true }
def SeineLaterUptoSaid : Prop := seineLaterUptoRow.holds Tryd.pinned (OpenSpec.upto seineLaterSpec)

/-- 'huerlaw03.SeineSaved', WHERE WHAT IT READS IS OF BULK AT MOST 1048576: true; the input reads as it did. -/
def seineSavedUptoRow : OpenClaim := { program := "ytdpjoppdlhfidaadoor", sum := "6fdc523a7b24a93c978177c33b6414afd5ac41fd5175a242a354d287f45fb71a", func := "huer/huerlaw03.SeineSaved", spec := "seineSaved", inPlace := ["slices.overlaps[huer/api.SeineNote]"], unfollowed := true, recurses := true, named := ["huer/seine.most", "huer/seine.does"], plainKeys := false, apart := false, laid := [("huer/seine.most", laid_huer_seine_most), ("huer/seine.does", laid_huer_seine_does)], narrowed := true }
def SeineSavedUptoSaid : Prop := seineSavedUptoRow.holds Tryd.pinned (OpenSpec.upto seineSavedSpec)

/-- 'huertop.TopBushels', WHERE WHAT IT READS IS OF BULK AT MOST 1048576: true; the input reads as it did. -/
def topBushelsUptoRow : OpenClaim := { program := "ytdpjoppdlhfidaadoor", sum := "6fdc523a7b24a93c978177c33b6414afd5ac41fd5175a242a354d287f45fb71a", func := "huer/huertop.TopBushels", spec := "topBushels", unfollowed := true, recurses := true, named := ["huer/bulk.counts", "huer/salt.never", "huer/salt.ends", "huer/seine.most", "huer/seine.does"], plainKeys := false, apart := false, laid := [("huer/bulk.counts", laid_huer_bulk_counts), ("huer/salt.never", laid_huer_salt_never), ("huer/salt.ends", laid_huer_salt_ends), ("huer/seine.most", laid_huer_seine_most), ("huer/seine.does", laid_huer_seine_does)], narrowed := true }
def TopBushelsUptoSaid : Prop := topBushelsUptoRow.holds Tryd.pinned (OpenSpec.upto topBushelsSpec)

/-- 'huerlaw03.SeineWrong', WHERE WHAT IT READS IS OF BULK AT MOST 1048576: true; the input reads as it did. -/
def seineWrongUptoRow : OpenClaim := { program := "ytdpjoppdlhfidaadoor", sum := "6fdc523a7b24a93c978177c33b6414afd5ac41fd5175a242a354d287f45fb71a", func := "huer/huerlaw03.SeineWrong", spec := "seineWrong", inPlace := ["slices.overlaps[huer/api.SeineNote]"], unfollowed := true, recurses := true, named := ["huer/seine.most", "huer/seine.does"], plainKeys := false, apart := false, laid := [("huer/seine.most", laid_huer_seine_most), ("huer/seine.does", laid_huer_seine_does)], narrowed := true }
def SeineWrongUptoSaid : Prop := seineWrongUptoRow.holds Tryd.pinned (OpenSpec.upto seineWrongSpec)

/-- 'huerlaw03.SeinePlain', WHERE WHAT IT READS IS OF BULK AT MOST 1048576: true; the input reads as it did. -/
def seinePlainUptoRow : OpenClaim := { program := "ytdpjoppdlhfidaadoor", sum := "6fdc523a7b24a93c978177c33b6414afd5ac41fd5175a242a354d287f45fb71a", func := "huer/huerlaw03.SeinePlain", spec := "seinePlain", inPlace := ["slices.overlaps[huer/api.SeineNote]"], unfollowed := true, recurses := true, named := ["huer/seine.most", "huer/seine.does"], plainKeys := false, apart := false, laid := [("huer/seine.most", laid_huer_seine_most), ("huer/seine.does", laid_huer_seine_does)], narrowed := true }
def SeinePlainUptoSaid : Prop := seinePlainUptoRow.holds Tryd.pinned (OpenSpec.upto seinePlainSpec)

/-- 'huerlaw03.SeineKnown', WHERE WHAT IT READS IS OF BULK AT MOST 1048576: true; the input reads as it did. -/
def seineKnownUptoRow : OpenClaim := { program := "ytdpjoppdlhfidaadoor", sum := "6fdc523a7b24a93c978177c33b6414afd5ac41fd5175a242a354d287f45fb71a", func := "huer/huerlaw03.SeineKnown", spec := "seineKnown", inPlace := ["slices.overlaps[huer/api.SeineNote]"], unfollowed := true, recurses := true, named := ["huer/seine.most", "huer/seine.does"], plainKeys := false, apart := false, laid := [("huer/seine.most", laid_huer_seine_most), ("huer/seine.does", laid_huer_seine_does)], narrowed := true }
def SeineKnownUptoSaid : Prop := seineKnownUptoRow.holds Tryd.pinned (OpenSpec.upto seineKnownSpec)

/-- 'huerlaw04.TidePlans', WHERE WHAT IT READS IS OF BULK AT MOST 1048576: true; the input reads as it did. -/
def tidePlansUptoRow : OpenClaim := { program := "ytdpjoppdlhfidaadoor", sum := "6fdc523a7b24a93c978177c33b6414afd5ac41fd5175a242a354d287f45fb71a", func := "huer/huerlaw04.TidePlans", spec := "tidePlans", unfollowed := true, recurses := true, named := ["huer/seine.most", "huer/seine.does", "huer/tide.asks"], plainKeys := false, apart := false, laid := [("huer/seine.most", laid_huer_seine_most), ("huer/seine.does", laid_huer_seine_does), ("huer/tide.asks", laid_huer_tide_asks)], narrowed := true }
def TidePlansUptoSaid : Prop := tidePlansUptoRow.holds Tryd.pinned (OpenSpec.upto tidePlansSpec)

/-- 'huerlaw04.TideLefts', WHERE WHAT IT READS IS OF BULK AT MOST 1048576: true; the input reads as it did. -/
def tideLeftsUptoRow : OpenClaim := { program := "ytdpjoppdlhfidaadoor", sum := "6fdc523a7b24a93c978177c33b6414afd5ac41fd5175a242a354d287f45fb71a", func := "huer/huerlaw04.TideLefts", spec := "tideLefts", unfollowed := true, recurses := true, named := ["huer/seine.most", "huer/seine.does", "huer/tide.asks"], plainKeys := false, apart := false, laid := [("huer/seine.most", laid_huer_seine_most), ("huer/seine.does", laid_huer_seine_does), ("huer/tide.asks", laid_huer_tide_asks)], narrowed := true }
def TideLeftsUptoSaid : Prop := tideLeftsUptoRow.holds Tryd.pinned (OpenSpec.upto tideLeftsSpec)

/-- 'huerlaw04.TideBests', WHERE WHAT IT READS IS OF BULK AT MOST 1048576: true; the input reads as it did. -/
def tideBestsUptoRow : OpenClaim := { program := "ytdpjoppdlhfidaadoor", sum := "6fdc523a7b24a93c978177c33b6414afd5ac41fd5175a242a354d287f45fb71a", func := "huer/huerlaw04.TideBests", spec := "tideBests", unfollowed := true, recurses := true, named := ["huer/seine.most", "huer/seine.does", "huer/tide.asks"], plainKeys := false, apart := false, laid := [("huer/seine.most", laid_huer_seine_most), ("huer/seine.does", laid_huer_seine_does), ("huer/tide.asks", laid_huer_tide_asks)], narrowed := true }
def TideBestsUptoSaid : Prop := tideBestsUptoRow.holds Tryd.pinned (OpenSpec.upto tideBestsSpec)

/-- 'huerlaw04.TideTrue', WHERE WHAT IT READS IS OF BULK AT MOST 1048576: true; the input reads as it did. -/
def tideTrueUptoRow : OpenClaim := { program := "ytdpjoppdlhfidaadoor", sum := "6fdc523a7b24a93c978177c33b6414afd5ac41fd5175a242a354d287f45fb71a", func := "huer/huerlaw04.TideTrue", spec := "tideTrue", unfollowed := true, recurses := true, named := ["huer/seine.most", "huer/seine.does", "huer/tide.asks"], plainKeys := false, apart := false, laid := [("huer/seine.most", laid_huer_seine_most), ("huer/seine.does", laid_huer_seine_does), ("huer/tide.asks", laid_huer_tide_asks)], narrowed := true }
def TideTrueUptoSaid : Prop := tideTrueUptoRow.holds Tryd.pinned (OpenSpec.upto tideTrueSpec)

/-- 'huerlaw04.TideEnds', WHERE WHAT IT READS IS OF BULK AT MOST 1048576: true; the input reads as it did. -/
def tideEndsUptoRow : OpenClaim := { program := "ytdpjoppdlhfidaadoor", sum := "6fdc523a7b24a93c978177c33b6414afd5ac41fd5175a242a354d287f45fb71a", func := "huer/huerlaw04.TideEnds", spec := "tideEnds", unfollowed := true, recurses := true, named := ["huer/seine.most", "huer/seine.does", "huer/tide.asks"], plainKeys := false, apart := false, laid := [("huer/seine.most", laid_huer_seine_most), ("huer/seine.does", laid_huer_seine_does), ("huer/tide.asks", laid_huer_tide_asks)], narrowed := true }
def TideEndsUptoSaid : Prop := tideEndsUptoRow.holds Tryd.pinned (OpenSpec.upto tideEndsSpec)

/-- 'huerlaw04.TideBest', WHERE WHAT IT READS IS OF BULK AT MOST 1048576: true; the input reads as it did. -/
def tideBestUptoRow : OpenClaim := { program := "ytdpjoppdlhfidaadoor", sum := "6fdc523a7b24a93c978177c33b6414afd5ac41fd5175a242a354d287f45fb71a", func := "huer/huerlaw04.TideBest", spec := "tideBest", unfollowed := true, recurses := true, named := ["huer/seine.most", "huer/seine.does", "huer/tide.asks"], plainKeys := false, apart := false, laid := [("huer/seine.most", laid_huer_seine_most), ("huer/seine.does", laid_huer_seine_does), ("huer/tide.asks", laid_huer_tide_asks)], narrowed := true }
def TideBestUptoSaid : Prop := tideBestUptoRow.holds Tryd.pinned (OpenSpec.upto tideBestSpec)

/-- 'huerlaw04.TideMore', WHERE WHAT IT READS IS OF BULK AT MOST 1048576: true; the input reads as it did. -/
def tideMoreUptoRow : OpenClaim := { program := "ytdpjoppdlhfidaadoor", sum := "6fdc523a7b24a93c978177c33b6414afd5ac41fd5175a242a354d287f45fb71a", func := "huer/huerlaw04.TideMore", spec := "tideMore", unfollowed := true, recurses := true, named := ["huer/seine.most", "huer/seine.does", "huer/tide.asks"], plainKeys := false, apart := false, laid := [("huer/seine.most", laid_huer_seine_most), ("huer/seine.does", laid_huer_seine_does), ("huer/tide.asks", laid_huer_tide_asks)], narrowed := true }
def TideMoreUptoSaid : Prop := tideMoreUptoRow.holds Tryd.pinned (OpenSpec.upto tideMoreSpec)

/-- 'huerlaw04.TideSpare', WHERE WHAT IT READS IS OF BULK AT MOST 1048576: true; the input reads as it did. -/
def tideSpareUptoRow : OpenClaim := { program := "ytdpjoppdlhfidaadoor", sum := "6fdc523a7b24a93c978177c33b6414afd5ac41fd5175a242a354d287f45fb71a", func := "huer/huerlaw04.TideSpare", spec := "tideSpare", unfollowed := true, recurses := true, named := ["huer/seine.most", "huer/seine.does", "huer/tide.asks"], plainKeys := false, apart := false, laid := [("huer/seine.most", laid_huer_seine_most), ("huer/seine.does", laid_huer_seine_does), ("huer/tide.asks", laid_huer_tide_asks)], narrowed := true }
def TideSpareUptoSaid : Prop := tideSpareUptoRow.holds Tryd.pinned (OpenSpec.upto tideSpareSpec)

/-- 'huerlaw04.TideEasier', WHERE WHAT IT READS IS OF BULK AT MOST 1048576: true; the input reads as it did. -/
def tideEasierUptoRow : OpenClaim := { program := "ytdpjoppdlhfidaadoor", sum := "6fdc523a7b24a93c978177c33b6414afd5ac41fd5175a242a354d287f45fb71a", func := "huer/huerlaw04.TideEasier", spec := "tideEasier", unfollowed := true, recurses := true, named := ["huer/seine.most", "huer/seine.does", "huer/tide.asks"], plainKeys := false, apart := false, laid := [("huer/seine.most", laid_huer_seine_most), ("huer/seine.does", laid_huer_seine_does), ("huer/tide.asks", laid_huer_tide_asks)], narrowed := true }
def TideEasierUptoSaid : Prop := tideEasierUptoRow.holds Tryd.pinned (OpenSpec.upto tideEasierSpec)

/-- 'huerlaw04.TideCalm', WHERE WHAT IT READS IS OF BULK AT MOST 1048576: true; the input reads as it did. -/
def tideCalmUptoRow : OpenClaim := { program := "ytdpjoppdlhfidaadoor", sum := "6fdc523a7b24a93c978177c33b6414afd5ac41fd5175a242a354d287f45fb71a", func := "huer/huerlaw04.TideCalm", spec := "tideCalm", unfollowed := true, recurses := true, named := ["huer/seine.most", "huer/seine.does", "huer/tide.asks"], plainKeys := false, apart := false, laid := [("huer/seine.most", laid_huer_seine_most), ("huer/seine.does", laid_huer_seine_does), ("huer/tide.asks", laid_huer_tide_asks)], narrowed := true }
def TideCalmUptoSaid : Prop := tideCalmUptoRow.holds Tryd.pinned (OpenSpec.upto tideCalmSpec)

/-- 'huerlaw04.TideKnown', WHERE WHAT IT READS IS OF BULK AT MOST 1048576: true; the input reads as it did. -/
def tideKnownUptoRow : OpenClaim := { program := "ytdpjoppdlhfidaadoor", sum := "6fdc523a7b24a93c978177c33b6414afd5ac41fd5175a242a354d287f45fb71a", func := "huer/huerlaw04.TideKnown", spec := "tideKnown", unfollowed := true, recurses := true, named := ["huer/seine.most", "huer/seine.does", "huer/tide.asks"], plainKeys := false, apart := false, laid := [("huer/seine.most", laid_huer_seine_most), ("huer/seine.does", laid_huer_seine_does), ("huer/tide.asks", laid_huer_tide_asks)], narrowed := true }
def TideKnownUptoSaid : Prop := tideKnownUptoRow.holds Tryd.pinned (OpenSpec.upto tideKnownSpec)

end Rows
end Go.Proofs.YtdpjoppdlhfidaaDoor
