/-
  seinePlain: the law returns true, whatever the input; the input reads as it did. No condition.
-/
import Derived.Test.YtdpjoppdlhfidaaDoorPx
set_option linter.unusedVariables false
namespace Go.Proofs.YtdpjoppdlhfidaaDoor
open Go.Hu Go.ChangeShapes Go.WideShapes Go.ChangeAt Go.RowKit

set_option maxRecDepth 100000 in
theorem seinePlain_lifted (os : Os) (started : os.Started) (H : Type) (enc : TypeId × Value → H) :
    ReturnsInHanded {} Tryd.checked os 14 .any (fun w args => (Rows.seinePlainSpec.pre enc Tryd.prog Tryd.f14 [] false w args ∧ laidMetH Tryd.prog laidL w) ∧ sizedMet enc Tryd.prog Tryd.f14 (OpenSpec.ofChange Rows.seinePlainSpec) false w args)
      (Rows.seinePlainSpec.post enc Tryd.prog Tryd.f14 false true false false) := by
  refine returnsInHanded_of_change_and (C := Tryd.checked) (X := fun w _ => laidMetH Tryd.prog laidL w) (fun _ _ _ hh h => h.of_heap hh) own started (by kernel_rfl) Tryd.func14
    (ChangeSpec.witness_shaped (enc := enc) (C := Tryd.checked) (os := os) (X := fun w _ => laidMetH Tryd.prog laidL w) false (World.doorLaid Tryd.prog 3000 os) #[.agg #[.int .i64 0, .int .i64 0], .agg #[.int .i64 0, .int .i64 0, .int .i64 0]] 8 rfl (World.shaped_of_RefB (by kernel_rfl) (by kernel_rfl)) (by kernel_rfl) (by kernel_rfl) (by kernel_rfl) (door_met os _)) ?_
  intro W base args ds gs before hval0 hW _ _ hL _
  have hval : ∀ (j : Nat) t v, Tryd.f14.params[j]? = some t → args[j]? = some v → Value.okWide Tryd.prog W .any base t v := hval0
  obtain ⟨p, q, hA0, hV, _, _, _⟩ := id hW
  have hA : DataW.TrodAll enc Tryd.prog W 0 (fun _ => true) true Tryd.f14.params.toList args.toList ds p := hA0
  rw [Tryd.params14] at hA hval
  obtain ⟨vs⟩ := args
  simp only at hA
  obtain ⟨v0, vs0, d0, ds0, p0, q0, rfl, rfl, _, h0, hA0⟩ := trodAll_cons hA
  obtain ⟨v1, vs1, d1, ds1, p1, q1, rfl, rfl, _, h1, hA1⟩ := trodAll_cons hA0
  obtain ⟨rfl, rfl, _⟩ := trodAll_nil hA1
  obtain ⟨ys0, hg0, e0⟩ := arg_has (nm := X.nm) Tryd.underlying23 (.inl rfl) (k := 8) (l := [.int, .int]) (by kernel_rfl) h0 (hval 0 23 v0 rfl rfl)
  obtain ⟨ys1, hg1, e1⟩ := arg_has (nm := X.nm) Tryd.underlying64 (.inl rfl) (k := 8) (l := [.int, .int, .int]) (by kernel_rfl) h1 (hval 1 64 v1 rfl rfl)
  have hargs : EncL X.nm (g0 W.heap) W.heap [wrap true ys0, wrap true ys1] #[v0, v1] := by
    refine ⟨rfl, fun j x hx => ?_⟩
    match j with
    | 0 => simp at hx; subst hx; exact e0
    | 1 => simp at hx; subst hx; exact e1
    | j + 2 => simp at hx
  refine (Calls.true_of follows laid (f := 14) (k := 14) rfl (globs hL) hargs (Hu.Sn.purePlain hg0 hg1)).mono fun e W' ⟨he, hos, hk⟩ => ?_
  subst he
  exact ⟨_, rfl, post_true kids full (by rw [Tryd.params14]; decide +kernel) rfl hW (by kernel_rfl) Tryd.underlying4 rfl hos hk⟩

theorem seinePlain_f_in : (Rows.seinePlainRow.inPlace == Tryd.prog.inPlace 14) = true := by kernel_rfl
theorem seinePlain_f_un : (Rows.seinePlainRow.unfollowed == Tryd.prog.unfollowed 14) = true := by kernel_rfl
theorem seinePlain_f_rec : (Rows.seinePlainRow.recurses == Tryd.prog.recurses 14) = true := by kernel_rfl
theorem seinePlain_f_named : (Rows.seinePlainRow.named == Tryd.prog.varsNamed 14) = true := by kernel_rfl
theorem seinePlain_f_goes : false = Rows.seinePlainRow.goesBy Tryd.pinned.checked.prog := by kernel_rfl
theorem seinePlain_closed : joinedFacts Tryd.prog 14 Tryd.f14 Rows.seinePlainSpec Rows.seinePlainRow = true := by
  simp only [joinedFacts, Bool.and_eq_true]
  exact ⟨⟨⟨⟨⟨⟨⟨⟨⟨⟨⟨⟨⟨⟨⟨⟨⟨⟨⟨⟨⟨⟨⟨⟨⟨⟨⟨⟨⟨⟨⟨by kernel_rfl, sLay⟩, sMr⟩, by kernel_rfl⟩, by kernel_rfl⟩, by kernel_rfl⟩, by kernel_rfl⟩, by kernel_rfl⟩, by kernel_rfl⟩, seinePlain_f_in⟩, seinePlain_f_un⟩, seinePlain_f_rec⟩, seinePlain_f_named⟩, by kernel_rfl⟩, by kernel_rfl⟩, by kernel_rfl⟩, by kernel_rfl⟩, by kernel_rfl⟩, by kernel_rfl⟩, by kernel_rfl⟩, by kernel_rfl⟩, by kernel_rfl⟩, sPlain⟩, by kernel_rfl⟩, sHeard⟩, sMay⟩, sLifted⟩, sMake⟩, by kernel_rfl⟩, by kernel_rfl⟩, by kernel_rfl⟩, by kernel_rfl⟩

theorem seinePlain_row : Rows.SeinePlainSaid :=
  OpenClaim.holds_of_wide 14 Tryd.f14 rfl rfl rfl rfl rfl rfl rfl ⟨rfl, rfl, rfl, rfl, rfl⟩ rfl rfl rfl rfl rfl (by kernel_rfl) Tryd.func14 seinePlain_closed
    (of_decide_eq_true (by kernel_rfl)) (by unfold Func.isWrapper; first | (rw [if_pos (by decide +kernel)]; kernel_rfl) | (rw [if_neg (by decide +kernel)]; exact ⟨rfl, rfl⟩))
    (fun os started H enc _ => seinePlain_lifted os started H enc)

theorem seinePlain : Rows.SeinePlainCardSaid :=
  Claim7.holds_tied_plain_at .later [] [.data, .funcs] true (true, "b257ec4bfb6555dd820535dcbfe2d200b1b3c2694199492f523410cf5beded7e") false
    seinePlain_row (fun _ h => by cases h) (by kernel_rfl) (fun _ h => by cases h) seinePlain_row_tie rfl ⟨rfl, rfl⟩ sMain rfl
    (fun f fn hf hfn => by
      obtain rfl : f = 14 := Option.some.inj ((show Tryd.prog.funcNamed "huer/huerlaw03.SeinePlain" = some 14 by kernel_rfl).symm.trans hf) |>.symm
      obtain rfl : fn = Tryd.f14 := (Option.some.inj (Tryd.func14.symm.trans hfn)).symm
      exact ⟨sLooks, fun j t ht => by
        rw [Tryd.params14] at ht
        have hm : t ∈ ([23, 64] : List TypeId) := by simpa using Array.mem_of_getElem? ht
        have hall : (([23, 64] : List TypeId).all fun u => !Tryd.prog.wantsStandIn u) = true := by kernel_rfl
        exact (show Tryd.prog.wantsStandIn t = false by simpa using List.all_eq_true.1 hall t hm)⟩)
    seinePlain_f_goes
#print axioms seinePlain
end Go.Proofs.YtdpjoppdlhfidaaDoor
