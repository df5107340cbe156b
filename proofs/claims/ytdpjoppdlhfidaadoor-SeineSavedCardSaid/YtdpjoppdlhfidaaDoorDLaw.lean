/-
  seineSaved: the law returns true, whatever the input; the input reads as it did. No condition.
-/
import Derived.Test.YtdpjoppdlhfidaaDoorDx
set_option linter.unusedVariables false
namespace Go.Proofs.YtdpjoppdlhfidaaDoor
open Go.Hu Go.ChangeShapes Go.WideShapes Go.ChangeAt Go.RowKit

set_option maxRecDepth 100000 in
theorem seineSaved_lifted (os : Os) (started : os.Started) (H : Type) (enc : TypeId × Value → H) :
    ReturnsInHanded {} Tryd.checked os 11 .any (fun w args => (Rows.seineSavedSpec.pre enc Tryd.prog Tryd.f11 [] false w args ∧ laidMetH Tryd.prog laidL w) ∧ sizedMet enc Tryd.prog Tryd.f11 (OpenSpec.ofChange Rows.seineSavedSpec) false w args)
      (Rows.seineSavedSpec.post enc Tryd.prog Tryd.f11 false true false false) := by
  refine returnsInHanded_of_change_and (C := Tryd.checked) (X := fun w _ => laidMetH Tryd.prog laidL w) (fun _ _ _ hh h => h.of_heap hh) own started (by kernel_rfl) Tryd.func11
    (ChangeSpec.witness_shaped (enc := enc) (C := Tryd.checked) (os := os) (X := fun w _ => laidMetH Tryd.prog laidL w) false (World.doorLaid Tryd.prog 3000 os) #[.agg #[.int .i64 0, .int .i64 0, .slice none 0 0]] 8 rfl (World.shaped_of_RefB (by kernel_rfl) (by kernel_rfl)) (by kernel_rfl) (by kernel_rfl) (by kernel_rfl) (door_met os _)) ?_
  intro W base args ds gs before hval0 hW _ _ hL _
  have hval : ∀ (j : Nat) t v, Tryd.f11.params[j]? = some t → args[j]? = some v → Value.okWide Tryd.prog W .any base t v := hval0
  obtain ⟨p, q, hA0, hV, _, _, _⟩ := id hW
  have hA : DataW.TrodAll enc Tryd.prog W 0 (fun _ => true) true Tryd.f11.params.toList args.toList ds p := hA0
  rw [Tryd.params11] at hA hval
  obtain ⟨vs⟩ := args
  simp only at hA
  obtain ⟨v0, vs0, d0, ds0, p0, q0, rfl, rfl, _, h0, hA0⟩ := trodAll_cons hA
  obtain ⟨rfl, rfl, _⟩ := trodAll_nil hA0
  obtain ⟨ys0, hg0, e0⟩ := arg_has (nm := X.nm) Tryd.underlying26 (.inl rfl) (k := 8) (l := [.int, .int, .sl true [true, true, true, true]]) (by kernel_rfl) h0 (hval 0 26 v0 rfl rfl)
  have hargs : EncL X.nm (g0 W.heap) W.heap [wrap true ys0] #[v0] := by
    refine ⟨rfl, fun j x hx => ?_⟩
    match j with
    | 0 => simp at hx; subst hx; exact e0
    | j + 1 => simp at hx
  refine (Calls.true_of follows laid (f := 11) (k := 11) rfl (globs hL) hargs (Hu.Sn.pureSaved hg0)).mono fun e W' ⟨he, hos, hk⟩ => ?_
  subst he
  exact ⟨_, rfl, post_true kids full (by rw [Tryd.params11]; decide +kernel) rfl hW (by kernel_rfl) Tryd.underlying4 rfl hos hk⟩

theorem seineSaved_f_in : (Rows.seineSavedRow.inPlace == Tryd.prog.inPlace 11) = true := by kernel_rfl
theorem seineSaved_f_un : (Rows.seineSavedRow.unfollowed == Tryd.prog.unfollowed 11) = true := by kernel_rfl
theorem seineSaved_f_rec : (Rows.seineSavedRow.recurses == Tryd.prog.recurses 11) = true := by kernel_rfl
theorem seineSaved_f_named : (Rows.seineSavedRow.named == Tryd.prog.varsNamed 11) = true := by kernel_rfl
theorem seineSaved_f_goes : false = Rows.seineSavedRow.goesBy Tryd.pinned.checked.prog := by kernel_rfl
theorem seineSaved_closed : joinedFacts Tryd.prog 11 Tryd.f11 Rows.seineSavedSpec Rows.seineSavedRow = true := by
  simp only [joinedFacts, Bool.and_eq_true]
  exact ⟨⟨⟨⟨⟨⟨⟨⟨⟨⟨⟨⟨⟨⟨⟨⟨⟨⟨⟨⟨⟨⟨⟨⟨⟨⟨⟨⟨⟨⟨⟨by kernel_rfl, sLay⟩, sMr⟩, by kernel_rfl⟩, by kernel_rfl⟩, by kernel_rfl⟩, by kernel_rfl⟩, by kernel_rfl⟩, by kernel_rfl⟩, seineSaved_f_in⟩, seineSaved_f_un⟩, seineSaved_f_rec⟩, seineSaved_f_named⟩, by kernel_rfl⟩, by kernel_rfl⟩, by kernel_rfl⟩, by kernel_rfl⟩, by kernel_rfl⟩, by kernel_rfl⟩, by kernel_rfl⟩, by kernel_rfl⟩, by kernel_rfl⟩, sPlain⟩, by kernel_rfl⟩, sHeard⟩, sMay⟩, sLifted⟩, sMake⟩, by kernel_rfl⟩, by kernel_rfl⟩, by kernel_rfl⟩, by kernel_rfl⟩

theorem seineSaved_row : Rows.SeineSavedSaid :=
  OpenClaim.holds_of_wide 11 Tryd.f11 rfl rfl rfl rfl rfl rfl rfl ⟨rfl, rfl, rfl, rfl, rfl⟩ rfl rfl rfl rfl rfl (by kernel_rfl) Tryd.func11 seineSaved_closed
    (of_decide_eq_true (by kernel_rfl)) (by unfold Func.isWrapper; first | (rw [if_pos (by decide +kernel)]; kernel_rfl) | (rw [if_neg (by decide +kernel)]; exact ⟨rfl, rfl⟩))
    (fun os started H enc _ => seineSaved_lifted os started H enc)

theorem seineSaved : Rows.SeineSavedCardSaid :=
  Claim7.holds_tied_plain_at .later [] [.data, .funcs] true (true, "b257ec4bfb6555dd820535dcbfe2d200b1b3c2694199492f523410cf5beded7e") false
    seineSaved_row (fun _ h => by cases h) (by kernel_rfl) (fun _ h => by cases h) seineSaved_row_tie rfl ⟨rfl, rfl⟩ sMain rfl
    (fun f fn hf hfn => by
      obtain rfl : f = 11 := Option.some.inj ((show Tryd.prog.funcNamed "huer/huerlaw03.SeineSaved" = some 11 by kernel_rfl).symm.trans hf) |>.symm
      obtain rfl : fn = Tryd.f11 := (Option.some.inj (Tryd.func11.symm.trans hfn)).symm
      exact ⟨sLooks, fun j t ht => by
        rw [Tryd.params11] at ht
        have hm : t ∈ ([26] : List TypeId) := by simpa using Array.mem_of_getElem? ht
        have hall : (([26] : List TypeId).all fun u => !Tryd.prog.wantsStandIn u) = true := by kernel_rfl
        exact (show Tryd.prog.wantsStandIn t = false by simpa using List.all_eq_true.1 hall t hm)⟩)
    seineSaved_f_goes
#print axioms seineSaved
end Go.Proofs.YtdpjoppdlhfidaaDoor
