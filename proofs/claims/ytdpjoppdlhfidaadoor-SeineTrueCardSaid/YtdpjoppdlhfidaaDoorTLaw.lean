/-
  seineTrue: the law returns true, whatever the input; the input reads as it did. No condition.
-/
import Derived.Test.YtdpjoppdlhfidaaDoorTx
set_option linter.unusedVariables false
namespace Go.Proofs.YtdpjoppdlhfidaaDoor
open Go.Hu Go.ChangeShapes Go.WideShapes Go.ChangeAt Go.RowKit

set_option maxRecDepth 100000 in
theorem seineTrue_lifted (os : Os) (started : os.Started) (H : Type) (enc : TypeId × Value → H) :
    ReturnsInHanded {} Tryd.checked os 6 .any (fun w args => (Rows.seineTrueSpec.pre enc Tryd.prog Tryd.f6 [] false w args ∧ laidMetH Tryd.prog laidL w) ∧ sizedMet enc Tryd.prog Tryd.f6 (OpenSpec.ofChange Rows.seineTrueSpec) false w args)
      (Rows.seineTrueSpec.post enc Tryd.prog Tryd.f6 false true false false) := by
  refine returnsInHanded_of_change_and (C := Tryd.checked) (X := fun w _ => laidMetH Tryd.prog laidL w) (fun _ _ _ hh h => h.of_heap hh) own started (by kernel_rfl) Tryd.func6
    (ChangeSpec.witness_shaped (enc := enc) (C := Tryd.checked) (os := os) (X := fun w _ => laidMetH Tryd.prog laidL w) false (World.doorLaid Tryd.prog 3000 os) #[.agg #[.int .i64 0, .int .i64 0, .slice none 0 0], .slice none 0 0, .int .i64 0] 8 rfl (World.shaped_of_RefB (by kernel_rfl) (by kernel_rfl)) (by kernel_rfl) (by kernel_rfl) (by kernel_rfl) (door_met os _)) ?_
  intro W base args ds gs before hval0 hW _ _ hL _
  have hval : ∀ (j : Nat) t v, Tryd.f6.params[j]? = some t → args[j]? = some v → Value.okWide Tryd.prog W .any base t v := hval0
  obtain ⟨p, q, hA0, hV, _, _, _⟩ := id hW
  have hA : DataW.TrodAll enc Tryd.prog W 0 (fun _ => true) true Tryd.f6.params.toList args.toList ds p := hA0
  rw [Tryd.params6] at hA hval
  obtain ⟨vs⟩ := args
  simp only at hA
  obtain ⟨v0, vs0, d0, ds0, p0, q0, rfl, rfl, _, h0, hA0⟩ := trodAll_cons hA
  obtain ⟨v1, vs1, d1, ds1, p1, q1, rfl, rfl, _, h1, hA1⟩ := trodAll_cons hA0
  obtain ⟨v2, vs2, d2, ds2, p2, q2, rfl, rfl, _, h2, hA2⟩ := trodAll_cons hA1
  obtain ⟨rfl, rfl, _⟩ := trodAll_nil hA2
  obtain ⟨ys0, hg0, e0⟩ := arg_has (nm := X.nm) Tryd.underlying26 (.inl rfl) (k := 8) (l := [.int, .int, .sl true [true, true, true, true]]) (by kernel_rfl) h0 (hval 0 26 v0 rfl rfl)
  obtain ⟨ys1, hg1, e1⟩ := arg_has (nm := X.nm) Tryd.underlying44 (.inr rfl) (k := 8) (l := [.sl false [true]]) (by kernel_rfl) h1 (hval 1 44 v1 rfl rfl)
  obtain ⟨ys2, hg2, e2⟩ := arg_has (nm := X.nm) Tryd.underlying3 (.inr rfl) (k := 8) (l := [.int]) (by kernel_rfl) h2 (hval 2 3 v2 rfl rfl)
  have hargs : EncL X.nm (g0 W.heap) W.heap [wrap true ys0, wrap false ys1, wrap false ys2] #[v0, v1, v2] := by
    refine ⟨rfl, fun j x hx => ?_⟩
    match j with
    | 0 => simp at hx; subst hx; exact e0
    | 1 => simp at hx; subst hx; exact e1
    | 2 => simp at hx; subst hx; exact e2
    | j + 3 => simp at hx
  refine (Calls.true_of follows laid (f := 6) (k := 6) rfl (globs hL) hargs (Hu.Sn.pureTrue hg0 hg1 hg2)).mono fun e W' ⟨he, hos, hk⟩ => ?_
  subst he
  exact ⟨_, rfl, post_true kids full (by rw [Tryd.params6]; decide +kernel) rfl hW (by kernel_rfl) Tryd.underlying4 rfl hos hk⟩

theorem seineTrue_f_in : (Rows.seineTrueRow.inPlace == Tryd.prog.inPlace 6) = true := by kernel_rfl
theorem seineTrue_f_un : (Rows.seineTrueRow.unfollowed == Tryd.prog.unfollowed 6) = true := by kernel_rfl
theorem seineTrue_f_rec : (Rows.seineTrueRow.recurses == Tryd.prog.recurses 6) = true := by kernel_rfl
theorem seineTrue_f_named : (Rows.seineTrueRow.named == Tryd.prog.varsNamed 6) = true := by kernel_rfl
theorem seineTrue_f_goes : false = Rows.seineTrueRow.goesBy Tryd.pinned.checked.prog := by kernel_rfl
theorem seineTrue_closed : joinedFacts Tryd.prog 6 Tryd.f6 Rows.seineTrueSpec Rows.seineTrueRow = true := by
  simp only [joinedFacts, Bool.and_eq_true]
  exact ⟨⟨⟨⟨⟨⟨⟨⟨⟨⟨⟨⟨⟨⟨⟨⟨⟨⟨⟨⟨⟨⟨⟨⟨⟨⟨⟨⟨⟨⟨⟨by kernel_rfl, sLay⟩, sMr⟩, by kernel_rfl⟩, by kernel_rfl⟩, by kernel_rfl⟩, by kernel_rfl⟩, by kernel_rfl⟩, by kernel_rfl⟩, seineTrue_f_in⟩, seineTrue_f_un⟩, seineTrue_f_rec⟩, seineTrue_f_named⟩, by kernel_rfl⟩, by kernel_rfl⟩, by kernel_rfl⟩, by kernel_rfl⟩, by kernel_rfl⟩, by kernel_rfl⟩, by kernel_rfl⟩, by kernel_rfl⟩, by kernel_rfl⟩, sPlain⟩, by kernel_rfl⟩, sHeard⟩, sMay⟩, sLifted⟩, sMake⟩, by kernel_rfl⟩, by kernel_rfl⟩, by kernel_rfl⟩, by kernel_rfl⟩

theorem seineTrue_row : Rows.SeineTrueSaid :=
  OpenClaim.holds_of_wide 6 Tryd.f6 rfl rfl rfl rfl rfl rfl rfl ⟨rfl, rfl, rfl, rfl, rfl⟩ rfl rfl rfl rfl rfl (by kernel_rfl) Tryd.func6 seineTrue_closed
    (of_decide_eq_true (by kernel_rfl)) (by unfold Func.isWrapper; first | (rw [if_pos (by decide +kernel)]; kernel_rfl) | (rw [if_neg (by decide +kernel)]; exact ⟨rfl, rfl⟩))
    (fun os started H enc _ => seineTrue_lifted os started H enc)

theorem seineTrue : Rows.SeineTrueCardSaid :=
  Claim7.holds_tied_plain_at .later [] [.data, .funcs] true (true, "b257ec4bfb6555dd820535dcbfe2d200b1b3c2694199492f523410cf5beded7e") false
    seineTrue_row (fun _ h => by cases h) (by kernel_rfl) (fun _ h => by cases h) seineTrue_row_tie rfl ⟨rfl, rfl⟩ sMain rfl
    (fun f fn hf hfn => by
      obtain rfl : f = 6 := Option.some.inj ((show Tryd.prog.funcNamed "huer/huerlaw03.SeineTrue" = some 6 by kernel_rfl).symm.trans hf) |>.symm
      obtain rfl : fn = Tryd.f6 := (Option.some.inj (Tryd.func6.symm.trans hfn)).symm
      exact ⟨sLooks, fun j t ht => by
        rw [Tryd.params6] at ht
        have hm : t ∈ ([26, 44, 3] : List TypeId) := by simpa using Array.mem_of_getElem? ht
        have hall : (([26, 44, 3] : List TypeId).all fun u => !Tryd.prog.wantsStandIn u) = true := by kernel_rfl
        exact (show Tryd.prog.wantsStandIn t = false by simpa using List.all_eq_true.1 hall t hm)⟩)
    seineTrue_f_goes
#print axioms seineTrue
end Go.Proofs.YtdpjoppdlhfidaaDoor
