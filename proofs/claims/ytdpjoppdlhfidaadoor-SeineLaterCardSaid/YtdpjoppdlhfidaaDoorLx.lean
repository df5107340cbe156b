/-
  The pure code is what the functions of the translation are compiled to: closed facts.
-/
import Derived.Test.YtdpjoppdlhfidaaDoorRows
import Derived.Test.YtdpjoppdlhfidaaDoorLa
import Derived.Test.YtdpjoppdlhfidaaDoorMc
import Derived.Test.YtdpjoppdlhfidaaDoorCards
import Derived.Test.YtdpjoppdlhfidaaDoorTie
import Derived.Stop.Joined
import Derived.Test.YtdpjoppdlhfidaaDoorG
import Derived.Test.YtdpjoppdlhfidaaDoorLb
namespace Go.Proofs.YtdpjoppdlhfidaaDoor
open Go.Hu

noncomputable def X : Ctx := { P := Tryd.prog, nm := some, gl := fun g => if g = 0 then some [.int 400, .int 9, .int 0, .int 400, .int 400] else if g = 4 then some [.fn 323 [] [], .fn 324 [] [], .fn 325 [] [], .fn 326 [] [], .fn 327 [] []] else none }
theorem follows : X.P.follows .mixedOrders = true := by kernel_rfl
def Good (p : Nat × PFunc) : Prop := ∃ fn h, X.P.funcs[p.1]? = some fn ∧ (fn.name == "runtime.NumGoroutine") = false ∧ compileF X h fn = some p.2
theorem good3 : Good (3, Hu.Sn.F3) := ⟨Tryd.f3, ⟨[2, 3, 9, 10], [], false, [], [], []⟩, Tryd.func3, by kernel_rfl, by kernel_rfl⟩
theorem good4 : Good (4, Hu.Sn.F4) := ⟨Tryd.f4, ⟨[2, 3, 9, 10], [], false, [], [], []⟩, Tryd.func4, by kernel_rfl, by kernel_rfl⟩
theorem good5 : Good (5, Hu.Sn.F5) := ⟨Tryd.f5, ⟨[1], [], false, [], [], []⟩, Tryd.func5, by kernel_rfl, by kernel_rfl⟩
theorem good6 : Good (6, Hu.Sn.F6) := ⟨Tryd.f6, ⟨[3, 7, 8, 14, 19, 21], [], false, [], [], []⟩, Tryd.func6, by kernel_rfl, by kernel_rfl⟩
theorem good7 : Good (7, Hu.Sn.F7) := ⟨Tryd.f7, ⟨[2, 3, 6, 8], [], false, [], [], []⟩, Tryd.func7, by kernel_rfl, by kernel_rfl⟩
theorem good10 : Good (10, Hu.Sn.F10) := ⟨Tryd.f10, ⟨[2, 3, 7, 9], [], false, [], [], []⟩, Tryd.func10, by kernel_rfl, by kernel_rfl⟩
theorem good27 : Good (27, Hu.Sn.F27) := ⟨Tryd.f27, ⟨[1], [], false, [], [], []⟩, Tryd.func27, by kernel_rfl, by kernel_rfl⟩
theorem good29 : Good (29, Hu.Sn.F29) := ⟨Tryd.f29, ⟨[1, 6], [], false, [], [], []⟩, Tryd.func29, by kernel_rfl, by kernel_rfl⟩
theorem good30 : Good (30, Hu.Sn.F30) := ⟨Tryd.f30, ⟨[1], [], false, [], [], []⟩, Tryd.func30, by kernel_rfl, by kernel_rfl⟩
theorem good31 : Good (31, Hu.Sn.F31) := ⟨Tryd.f31, ⟨[3, 5, 8, 10], [], false, [], [], []⟩, Tryd.func31, by kernel_rfl, by kernel_rfl⟩
theorem good33 : Good (33, Hu.Sn.F33) := ⟨Tryd.f33, ⟨[2, 4, 6], [], false, [], [], []⟩, Tryd.func33, by kernel_rfl, by kernel_rfl⟩
theorem good35 : Good (35, Hu.Sn.F35) := ⟨Tryd.f35, ⟨[2, 4, 6], [], false, [], [], []⟩, Tryd.func35, by kernel_rfl, by kernel_rfl⟩
theorem good37 : Good (37, Hu.Sn.F37) := ⟨Tryd.f37, ⟨[1, 3, 12, 13], [], false, [], [], []⟩, Tryd.func37, by kernel_rfl, by kernel_rfl⟩
theorem good38 : Good (38, Hu.Sn.F38) := ⟨Tryd.f38, ⟨[1, 4], [], false, [], [], []⟩, Tryd.func38, by kernel_rfl, by kernel_rfl⟩
theorem good40 : Good (40, Hu.Sn.F40) := ⟨Tryd.f40, ⟨[1, 2, 4, 9], [], false, [], [], []⟩, Tryd.func40, by kernel_rfl, by kernel_rfl⟩
theorem good42 : Good (42, Hu.Sn.F42) := ⟨Tryd.f42, ⟨[2, 3, 8], [], false, [], [(10, false, 8, (some 2), 4, (some 4))], []⟩, Tryd.func42, by kernel_rfl, by kernel_rfl⟩
theorem good44 : Good (44, Hu.Sn.F44) := ⟨Tryd.f44, ⟨[], [1], false, [], [], []⟩, Tryd.func44, by kernel_rfl, by kernel_rfl⟩
theorem good46 : Good (46, Hu.Sn.F46) := ⟨Tryd.f46, ⟨[], [], false, [], [], []⟩, Tryd.func46, by kernel_rfl, by kernel_rfl⟩
theorem good47 : Good (47, Hu.Sn.F47) := ⟨Tryd.f47, ⟨[1, 6], [], false, [], [], []⟩, Tryd.func47, by kernel_rfl, by kernel_rfl⟩
theorem good49 : Good (49, Hu.Sn.F49) := ⟨Tryd.f49, ⟨[2], [], false, [], [], []⟩, Tryd.func49, by kernel_rfl, by kernel_rfl⟩
theorem good50 : Good (50, Hu.Sn.F50) := ⟨Tryd.f50, ⟨[], [], false, [], [], []⟩, Tryd.func50, by kernel_rfl, by kernel_rfl⟩
theorem good51 : Good (51, Hu.Sn.F51) := ⟨Tryd.f51, ⟨[], [], false, [], [], []⟩, Tryd.func51, by kernel_rfl, by kernel_rfl⟩
theorem good52 : Good (52, Hu.Sn.F52) := ⟨Tryd.f52, ⟨[2], [], false, [], [], []⟩, Tryd.func52, by kernel_rfl, by kernel_rfl⟩
theorem good53 : Good (53, Hu.Sn.F53) := ⟨Tryd.f53, ⟨[5, 6], [], false, [], [], []⟩, Tryd.func53, by kernel_rfl, by kernel_rfl⟩
theorem good54 : Good (54, Hu.Sn.F54) := ⟨Tryd.f54, ⟨[3], [], false, [], [], []⟩, Tryd.func54, by kernel_rfl, by kernel_rfl⟩
theorem good68 : Good (68, Hu.Sn.F68) := ⟨Tryd.f68, ⟨[4], [], false, [], [], []⟩, Tryd.func68, by kernel_rfl, by kernel_rfl⟩
theorem good74 : Good (74, Hu.Sn.F74) := ⟨Tryd.f74, ⟨[2], [], false, [], [], []⟩, Tryd.func74, by kernel_rfl, by kernel_rfl⟩
theorem good75 : Good (75, Hu.Sn.F75) := ⟨Tryd.f75, ⟨[0], [], false, [], [], []⟩, Tryd.func75, by kernel_rfl, by kernel_rfl⟩
theorem good76 : Good (76, Hu.Sn.F76) := ⟨Tryd.f76, ⟨[0], [], false, [], [], []⟩, Tryd.func76, by kernel_rfl, by kernel_rfl⟩
theorem good110 : Good (110, Hu.Sn.F110) := ⟨Tryd.f110, ⟨[1, 2, 3, 5], [], false, [], [], []⟩, Tryd.func110, by kernel_rfl, by kernel_rfl⟩
theorem good111 : Good (111, Hu.Sn.F111) := ⟨Tryd.f111, ⟨[1], [], false, [], [], []⟩, Tryd.func111, by kernel_rfl, by kernel_rfl⟩
theorem good113 : Good (113, Hu.Sn.F113) := ⟨Tryd.f113, ⟨[2], [], false, [], [], []⟩, Tryd.func113, by kernel_rfl, by kernel_rfl⟩
theorem good114 : Good (114, Hu.Sn.F114) := ⟨Tryd.f114, ⟨[1], [], false, [], [], []⟩, Tryd.func114, by kernel_rfl, by kernel_rfl⟩
theorem good115 : Good (115, Hu.Sn.F115) := ⟨Tryd.f115, ⟨[1], [], false, [], [], []⟩, Tryd.func115, by kernel_rfl, by kernel_rfl⟩
theorem good116 : Good (116, Hu.Sn.F116) := ⟨Tryd.f116, ⟨[2, 4, 7], [], false, [], [], []⟩, Tryd.func116, by kernel_rfl, by kernel_rfl⟩
theorem good117 : Good (117, Hu.Sn.F117) := ⟨Tryd.f117, ⟨[], [], false, [], [], []⟩, Tryd.func117, by kernel_rfl, by kernel_rfl⟩
theorem good118 : Good (118, Hu.Sn.F118) := ⟨Tryd.f118, ⟨[], [], false, [], [], []⟩, Tryd.func118, by kernel_rfl, by kernel_rfl⟩
theorem good119 : Good (119, Hu.Sn.F119) := ⟨Tryd.f119, ⟨[], [2, 3], false, [], [], []⟩, Tryd.func119, by kernel_rfl, by kernel_rfl⟩
theorem good122 : Good (122, Hu.Sn.F122) := ⟨Tryd.f122, ⟨[3, 5, 6, 8], [], false, [], [], []⟩, Tryd.func122, by kernel_rfl, by kernel_rfl⟩
theorem good123 : Good (123, Hu.Sn.F123) := ⟨Tryd.f123, ⟨[0], [], false, [], [], []⟩, Tryd.func123, by kernel_rfl, by kernel_rfl⟩
theorem good126 : Good (126, Hu.Sn.F126) := ⟨Tryd.f126, ⟨[0], [], false, [], [], []⟩, Tryd.func126, by kernel_rfl, by kernel_rfl⟩
theorem good128 : Good (128, Hu.Sn.F128) := ⟨Tryd.f128, ⟨[9], [], false, [], [], []⟩, Tryd.func128, by kernel_rfl, by kernel_rfl⟩
theorem good129 : Good (129, Hu.Sn.F129) := ⟨Tryd.f129, ⟨[1, 3, 4], [], false, [], [], []⟩, Tryd.func129, by kernel_rfl, by kernel_rfl⟩
theorem good130 : Good (130, Hu.Sn.F130) := ⟨Tryd.f130, ⟨[2, 4], [], false, [], [], []⟩, Tryd.func130, by kernel_rfl, by kernel_rfl⟩
theorem good131 : Good (131, Hu.Sn.F131) := ⟨Tryd.f131, ⟨[2], [], false, [], [], []⟩, Tryd.func131, by kernel_rfl, by kernel_rfl⟩
theorem good135 : Good (135, Hu.Sn.F135) := ⟨Tryd.f135, ⟨[], [], false, [25], [], []⟩, Tryd.func135, by kernel_rfl, by kernel_rfl⟩
theorem good136 : Good (136, Hu.Sn.F136) := ⟨Tryd.f136, ⟨[], [], false, [7], [], []⟩, Tryd.func136, by kernel_rfl, by kernel_rfl⟩
theorem good138 : Good (138, Hu.Sn.F138) := ⟨Tryd.f138, ⟨[9, 11], [2], false, [], [], []⟩, Tryd.func138, by kernel_rfl, by kernel_rfl⟩
theorem good139 : Good (139, Hu.Sn.F139) := ⟨Tryd.f139, ⟨[], [], false, [], [], []⟩, Tryd.func139, by kernel_rfl, by kernel_rfl⟩
theorem good202 : Good (202, Hu.Sn.F202) := ⟨Tryd.f202, ⟨[0, 1], [], false, [], [], []⟩, Tryd.func202, by kernel_rfl, by kernel_rfl⟩
theorem good203 : Good (203, Hu.Sn.F203) := ⟨Tryd.f203, ⟨[9], [2, 1], false, [], [], []⟩, Tryd.func203, by kernel_rfl, by kernel_rfl⟩
theorem good204 : Good (204, Hu.Sn.F204) := ⟨Tryd.f204, ⟨[5], [4], false, [], [], []⟩, Tryd.func204, by kernel_rfl, by kernel_rfl⟩
theorem good205 : Good (205, Hu.Sn.F205) := ⟨Tryd.f205, ⟨[1], [], false, [], [], []⟩, Tryd.func205, by kernel_rfl, by kernel_rfl⟩
theorem good206 : Good (206, Hu.Sn.F206) := ⟨Tryd.f206, ⟨[1], [], false, [], [], []⟩, Tryd.func206, by kernel_rfl, by kernel_rfl⟩
theorem good207 : Good (207, Hu.Sn.F207) := ⟨Tryd.f207, ⟨[5, 8, 10], [], false, [], [], []⟩, Tryd.func207, by kernel_rfl, by kernel_rfl⟩
theorem good208 : Good (208, Hu.Sn.F208) := ⟨Tryd.f208, ⟨[], [1], false, [], [], []⟩, Tryd.func208, by kernel_rfl, by kernel_rfl⟩
theorem good209 : Good (209, Hu.Sn.F209) := ⟨Tryd.f209, ⟨[], [], false, [], [], []⟩, Tryd.func209, by kernel_rfl, by kernel_rfl⟩
theorem good210 : Good (210, Hu.Sn.F210) := ⟨Tryd.f210, ⟨[], [], false, [], [], []⟩, Tryd.func210, by kernel_rfl, by kernel_rfl⟩
theorem good214 : Good (214, Hu.Sn.F214) := ⟨Tryd.f214, ⟨[], [], false, [], [], []⟩, Tryd.func214, by kernel_rfl, by kernel_rfl⟩
theorem good250 : Good (250, Hu.Sn.F250) := ⟨Tryd.f250, ⟨[], [3], false, [], [], []⟩, Tryd.func250, by kernel_rfl, by kernel_rfl⟩
theorem good251 : Good (251, Hu.Sn.F251) := ⟨Tryd.f251, ⟨[], [1], false, [], [], []⟩, Tryd.func251, by kernel_rfl, by kernel_rfl⟩
theorem good323 : Good (323, Hu.Sn.F323) := ⟨Tryd.f323, ⟨[2, 4], [], false, [], [], []⟩, Tryd.func323, by kernel_rfl, by kernel_rfl⟩
theorem good324 : Good (324, Hu.Sn.F324) := ⟨Tryd.f324, ⟨[2, 4], [], false, [], [], []⟩, Tryd.func324, by kernel_rfl, by kernel_rfl⟩
theorem good325 : Good (325, Hu.Sn.F325) := ⟨Tryd.f325, ⟨[2, 4], [], false, [], [], []⟩, Tryd.func325, by kernel_rfl, by kernel_rfl⟩
theorem good326 : Good (326, Hu.Sn.F326) := ⟨Tryd.f326, ⟨[2, 4], [], false, [], [], []⟩, Tryd.func326, by kernel_rfl, by kernel_rfl⟩
theorem good327 : Good (327, Hu.Sn.F327) := ⟨Tryd.f327, ⟨[2, 4], [], false, [], [], []⟩, Tryd.func327, by kernel_rfl, by kernel_rfl⟩
theorem good : ∀ p ∈ Hu.Sn.tab, Good p := by
  simp only [Hu.Sn.tab, List.forall_mem_cons]
  exact ⟨good3, good4, good5, good6, good7, good10, good27, good29, good30, good31, good33, good35, good37, good38, good40, good42, good44, good46, good47, good49, good50, good51, good52, good53, good54, good68, good74, good75, good76, good110, good111, good113, good114, good115, good116, good117, good118, good119, good122, good123, good126, good128, good129, good130, good131, good135, good136, good138, good139, good202, good203, good204, good205, good206, good207, good208, good209, good210, good214, good250, good251, good323, good324, good325, good326, good327, by simp⟩
theorem laid : Laid X Hu.Sn.prog := by
  intro f k F hn hp
  obtain rfl : f = k := Option.some.inj hn
  exact good (f, F) (look_mem hp)
end Go.Proofs.YtdpjoppdlhfidaaDoor

set_option linter.unusedVariables false
namespace Go.Proofs.YtdpjoppdlhfidaaDoor
open Go.Hu Go.ChangeShapes Go.WideShapes Go.ChangeAt Go.RowKit

theorem own : ownKnob Tryd.prog.godebug = none := by kernel_rfl
def laidL : List (String × DataW Unit) := [("huer/seine.most", Rows.laid_huer_seine_most), ("huer/seine.does", Rows.laid_huer_seine_does)]
theorem gMost : Tryd.prog.globalNamed "huer/seine.most" = some 0 := by kernel_rfl
theorem gDoes : Tryd.prog.globalNamed "huer/seine.does" = some 4 := by kernel_rfl
theorem tMost : (Tryd.prog.globals[0]?).map (·.type) = some 131 := by kernel_rfl
theorem tDoes : (Tryd.prog.globals[4]?).map (·.type) = some 306 := by kernel_rfl
theorem kids : Kids Tryd.prog (· < Tryd.prog.types.size) := kids_rows (by kernel_rfl) (by kernel_rfl)
theorem full : ∀ t e, t < Tryd.prog.types.size → Tryd.prog.underlying t = some (.slice e) → 0 < Tryd.prog.cellsOf e := slices_full_of Tryd.prog (by kernel_rfl)

theorem globs {W : World} (h : laidMetH Tryd.prog laidL W) : ∀ n cs, X.gl n = some cs → GlobOk X.nm W n cs := by
  intro n cs hn
  simp only [X] at hn
  split at hn
  · rename_i h0
    cases hn
    subst h0
    obtain ⟨g, t, cs, fuel, p, hg, ht, hv, hd⟩ := laid_ints h (name := "huer/seine.most") (d := Rows.laid_huer_seine_most) (by simp [laidL]) rfl
    obtain rfl := Option.some.inj (gMost.symm.trans hg)
    obtain rfl := Option.some.inj (tMost.symm.trans ht)
    exact glob_ints (nm := X.nm) hg hv (by kernel_rfl : Tryd.prog.underlying 131 = some (.array 5 3)) (by kernel_rfl : Tryd.prog.underlying 3 = some (.int .i64)) (by kernel_rfl) [400, 9, 0, 400, 400] rfl hd
  · split at hn
    · rename_i h0
      cases hn
      subst h0
      obtain ⟨g, t, cs, fuel, p, hg, ht, hv, hd⟩ := h.funcs (n := "huer/seine.does") (by simp only [laidL, Rows.laid_huer_seine_does]; exact List.mem_cons_of_mem _ (List.mem_cons_self ..))
      obtain rfl := Option.some.inj (gDoes.symm.trans hg)
      obtain rfl := Option.some.inj (tDoes.symm.trans ht)
      refine glob_fns (nm := X.nm) (e := 305) hg hv (by kernel_rfl : Tryd.prog.underlying 306 = some (.array 5 305)) Tryd.underlying305 (by kernel_rfl)
        [(323, [40, 104, 117, 101, 114, 47, 115, 101, 105, 110, 101, 46, 115, 116, 97, 116, 101, 41, 46, 116, 117, 99, 107], 323), (324, [40, 104, 117, 101, 114, 47, 115, 101, 105, 110, 101, 46, 115, 116, 97, 116, 101, 41, 46, 98, 114, 101, 97, 99, 104], 324),
         (325, [40, 104, 117, 101, 114, 47, 115, 101, 105, 110, 101, 46, 115, 116, 97, 116, 101, 41, 46, 109, 101, 110, 100], 325), (326, [40, 104, 117, 101, 114, 47, 115, 101, 105, 110, 101, 46, 115, 116, 97, 116, 101, 41, 46, 100, 111, 103, 115], 326), (327, [40, 104, 117, 101, 114, 47, 115, 101, 105, 110, 101, 46, 115, 116, 97, 116, 101, 41, 46, 115, 111, 117, 110, 100], 327)]
        ?_ rfl hd
      simp only [List.forall_mem_cons]
      exact ⟨⟨rfl, by simp, by kernel_rfl⟩, ⟨rfl, by simp, by kernel_rfl⟩, ⟨rfl, by simp, by kernel_rfl⟩, ⟨rfl, by simp, by kernel_rfl⟩, ⟨rfl, by simp, by kernel_rfl⟩, by simp⟩
    · cases hn
theorem door_met (os : Os) (args : Array Value) : laidMetH Tryd.prog laidL ((World.doorLaid Tryd.prog 3000 os).forCall (fun _ _ => 0) ⟨#[], args, []⟩).memory :=
  laidMetH_of_parts3 (fuel := 8) (laidMet_of_run' 8 (by kernel_rfl) (by kernel_rfl)) (by kernel_rfl) (by kernel_rfl)
end Go.Proofs.YtdpjoppdlhfidaaDoor

set_option linter.unusedSimpArgs false
set_option linter.unusedVariables false
namespace Go.Hu.Sn
attribute [local irreducible] wpS wpIs wpI
attribute [local go_sem] Nat.mul_one Nat.one_mul Nat.zero_add Nat.add_zero Nat.zero_mul and_self and_true true_and decide_true decide_false Bool.false_eq_true if_true if_false Int.cast_ofNat_Int Int.zero_le_ofNat Int.le_refl Int.reduceLT Int.reduceLE Int.reduceToNat

variable {s : St} {Q : V → St → Prop}

theorem notes_of : ∀ {xs : List V}, (∀ x ∈ xs, ∃ cs, HasF [true, true, true, true] cs ∧ x = wrap true cs) → ∃ ns : List Note, xs = notesV ns
  | [], _ => ⟨[], rfl⟩
  | x :: xs, h => by
    obtain ⟨ns, rfl⟩ := notes_of (xs := xs) fun y hy => h y (by simp [hy])
    obtain ⟨cs, hc, rfl⟩ := h x (by simp)
    obtain ⟨_, _, rfl, ⟨a, _, rfl⟩, _, _, rfl, ⟨b, _, rfl⟩, _, _, rfl, ⟨c, _, rfl⟩, _, _, rfl, ⟨d, _, rfl⟩, rfl⟩ := hc
    exact ⟨⟨a, b, c, d⟩ :: ns, rfl⟩
theorem book_of {y : List V} (h : Has [.int, .int, .sl true [true, true, true, true]] y) : ∃ b : Book, wrap true y = bookV b ∧ (b.notes.length : Int) < 9223372036854775808 := by
  obtain ⟨_, _, rfl, ⟨lo, _, rfl⟩, _, _, rfl, ⟨hi, _, rfl⟩, _, _, rfl, ⟨xs, rfl, hl, hx⟩, rfl⟩ := h
  obtain ⟨ns, rfl⟩ := notes_of hx
  rw [notesV_length] at hl
  refine ⟨⟨lo, hi, ns⟩, rfl, ?_⟩
  show (ns.length : Int) < _
  omega
theorem pair_of {y : List V} (h : Has [.int, .int] y) : ∃ a b : Int, wrap true y = .agg [.int a, .int b] := by
  obtain ⟨_, _, rfl, ⟨lo, _, rfl⟩, _, _, rfl, ⟨hi, _, rfl⟩, rfl⟩ := h
  exact ⟨lo, hi, rfl⟩
theorem note_of {y : List V} (h : Has [.int, .int, .int, .int] y) : ∃ x : Note, wrap true y = noteV x := by
  obtain ⟨_, _, rfl, ⟨a, _, rfl⟩, _, _, rfl, ⟨b, _, rfl⟩, _, _, rfl, ⟨c, _, rfl⟩, _, _, rfl, ⟨d, _, rfl⟩, rfl⟩ := h
  exact ⟨⟨a, b, c, d⟩, rfl⟩
theorem Answer.unique {e : Int} {S : Int → Prop} {a b c d : Int} (h : Answer e S a b) (h' : Answer e S c d) : a = c ∧ b = d := by
  unfold Answer at h h'
  by_cases he : e = 0
  · rw [if_pos he] at h h'
    exact h.unique h'
  · rw [if_neg he] at h h'
    omega

end Go.Hu.Sn

set_option linter.unusedSimpArgs false
set_option linter.unusedVariables false
namespace Go.Hu.Sn
attribute [local irreducible] wpS wpIs wpI
attribute [local go_sem] Nat.mul_one Nat.one_mul Nat.zero_add Nat.add_zero Nat.zero_mul and_self and_true true_and decide_true decide_false Bool.false_eq_true if_true if_false Int.cast_ofNat_Int Int.zero_le_ofNat Int.le_refl Int.reduceLT Int.reduceLE Int.reduceToNat

theorem gone_hi {b : Book} (hb : ok' b) {h lo hi : Int} (hh : 0 ≤ h) (he : Ends (fun n => ∃ x, atH b h x ∧ x.1 = n) lo hi) : 0 ≤ lo ∧ lo ≤ hi := by
  obtain ⟨x, hx, h1⟩ := he.1.1
  have := (atH_one hb hh hx).1
  have := (he.2 lo he.1.1).2
  omega
set_option maxRecDepth 20000 in
set_option maxHeartbeats 2000000 in
theorem pureLater {y0 y1 : List V} (h0 : Has [.int, .int, .sl true [true, true, true, true]] y0) (h1 : Has [.int, .int] y1) : Call prog (.fn 10 [] []) [wrap true y0, wrap true y1] (fun _ => none) fun v _ => v = .bool true := by
  obtain ⟨b, hb, hlen⟩ := book_of h0
  obtain ⟨n0, n1, hn⟩ := pair_of h1
  rw [hb, hn]
  refine Call.fn F10 p10 rfl ?_
  simp only [F10, bookV]
  by_cases hok : ok b
  · repeat first|refine Wr ?_|refine Wb ?_|refine Wc ?_|refine Wd ?_|refine We ?_|refine Wf ?_|refine Wg ?_|refine Wh ?_|refine Wi ?_|refine Wj (by decide) ?_|refine Wa ?_|refine Wk ?_|refine Wl ?_|refine Wm ?_|refine Wn ?_|refine Wo ?_|refine Wp ?_|refine Wq ?_|refine Ww (by simp only[go_sem,hok];done) ?_|((first|refine Ws ?_|refine Wt ?_|refine Wu ?_|refine Wv (by simp only[go_sem,hok];done) ?_);conv=>arg 2;simp only[go_sem,hok])|(refine Wx (by simp only[go_sem,hok];rfl) (by simp only[go_sem,hok];rfl) ?_;first|refine c47 b hlen ?_|refine c50' n0 61 (by decide) (by decide) fun r1 hr1 => ?_)
    refine w_call (by simp only [go_sem]; rfl) (by simp only [go_sem]; rfl) ?_
    refine c50' n1 61 (by decide) (by decide) fun r2 hr2 => ?_
    first|refine w_trimI [2,19,22] fun e he => ?_|refine w_trimR [2,19,22] fun e he => ?_|refine w_trimS [2,19,22] fun e he => ?_
    simp only[w_map1,w_map0,List.cons.injEq,go_sem] at he
    obtain ⟨e2,e19,e22⟩ := he
    obtain ⟨a, ha⟩ : ∃ a, (if r2 < r1 then r2 else r1) = a := ⟨_, rfl⟩
    obtain ⟨c, hc⟩ : ∃ c, (if r2 > r1 then r2 else r1) = c := ⟨_, rfl⟩
    have hac : a ≤ c := by split at ha <;> split at hc <;> omega
    have hha : 0 ≤ a ∧ a ≤ 60 := by split at ha <;> omega
    have hhc : 0 ≤ c ∧ c ≤ 60 := by split at hc <;> omega
    by_cases hcan : can b
    · have hE : askE b (0 ≤ a ∧ a ≤ 60) = 0 := askE_ok hok hha hcan
      have hE' : askE b (0 ≤ c ∧ c ≤ 60) = 0 := askE_ok hok hhc hcan
      have z0 : ((0 : Int) == 0) = true := rfl
      have z40 : ((4 : Int) == 0) = false := rfl
      have z44 : ((4 : Int) == 4) = true := rfl
      repeat first|refine Wr ?_|refine Wb ?_|refine Wc ?_|refine Wd ?_|refine We ?_|refine Wf ?_|refine Wg ?_|refine Wh ?_|refine Wi ?_|refine Wj (by decide) ?_|refine Wa ?_|refine Wk ?_|refine Wl ?_|refine Wm ?_|refine Wn ?_|refine Wo ?_|refine Wp ?_|refine Wq ?_|refine Ww (by simp only[go_sem,ha,hc,e2,e19,e22];done) ?_|((first|refine Ws ?_|refine Wt ?_|refine Wu ?_|refine Wv (by simp only[go_sem,ha,hc,e2,e19,e22];done) ?_);conv=>arg 2;simp only[go_sem,ha,hc,e2,e19,e22])
      refine w_call (by simp only [go_sem, ha, hc, e2]; rfl) (by simp only [go_sem, ha, hc, e2]; rfl) ?_
      refine c33v (h := a) hlen hE fun sl sh s1 g1 g2 => ?_
      first|refine w_trimI [2,5,6,32] fun e he => ?_|refine w_trimR [2,5,6,32] fun e he => ?_|refine w_trimS [2,5,6,32] fun e he => ?_
      simp only[w_map1,w_map0,List.cons.injEq,go_sem,ha, hc, e2] at he
      obtain ⟨e2,e5,e6,e32⟩ := he
      repeat first|refine Wr ?_|refine Wb ?_|refine Wc ?_|refine Wd ?_|refine We ?_|refine Wf ?_|refine Wg ?_|refine Wh ?_|refine Wi ?_|refine Wj (by decide) ?_|refine Wa ?_|refine Wk ?_|refine Wl ?_|refine Wm ?_|refine Wn ?_|refine Wo ?_|refine Wp ?_|refine Wq ?_|refine Ww (by simp only[go_sem,e2,e5,e6,e32];done) ?_|((first|refine Ws ?_|refine Wt ?_|refine Wu ?_|refine Wv (by simp only[go_sem,e2,e5,e6,e32];done) ?_);conv=>arg 2;simp only[go_sem,e2,e5,e6,e32])
      refine w_call (by simp only [go_sem, e2, e6]; rfl) (by simp only [go_sem, e2, e6]; rfl) ?_
      refine c33v (h := c) hlen hE' fun tl th s2 g3 g4 => ?_
      first|refine w_trimI [2,5,6,7,8,38] fun e he => ?_|refine w_trimR [2,5,6,7,8,38] fun e he => ?_|refine w_trimS [2,5,6,7,8,38] fun e he => ?_
      simp only[w_map1,w_map0,List.cons.injEq,go_sem,e2, e5, e6] at he
      obtain ⟨e2,e5,e6,e7,e8,e38⟩ := he
      replace g1 := g1.ends
      replace g3 := g3.ends
      repeat first|refine Wr ?_|refine Wb ?_|refine Wc ?_|refine Wd ?_|refine We ?_|refine Wf ?_|refine Wg ?_|refine Wh ?_|refine Wi ?_|refine Wj (by decide) ?_|refine Wa ?_|refine Wk ?_|refine Wl ?_|refine Wm ?_|refine Wn ?_|refine Wo ?_|refine Wp ?_|refine Wq ?_|refine Ww (by simp only[go_sem,e2,e5,e6,e7,e8,e38];done) ?_|((first|refine Ws ?_|refine Wt ?_|refine Wu ?_|refine Wv (by simp only[go_sem,e2,e5,e6,e7,e8,e38];done) ?_);conv=>arg 2;simp only[go_sem,e2,e5,e6,e7,e8,e38])
      refine w_call (by simp only [go_sem, e2]; rfl) (by simp only [go_sem, e2]; rfl) ?_
      refine c38 b hlen fun n e s3 g5 g6 => ?_
      first|refine w_trimI [5,6,7,8,9,10,43] fun e he => ?_|refine w_trimR [5,6,7,8,9,10,43] fun e he => ?_|refine w_trimS [5,6,7,8,9,10,43] fun e he => ?_
      simp only[w_map1,w_map0,List.cons.injEq,go_sem,e5, e6, e7, e8] at he
      obtain ⟨e5,e6,e7,e8,e9,e10,e43⟩ := he
      have hl : ¬ (tl > sl) := by
        obtain ⟨x, hx, h⟩ := g1.1.1
        obtain ⟨y, hy, h'⟩ := at_up hok.ok' hha.1 hac hx
        have := (g3.2 y.1 ⟨y, hy, rfl⟩).1
        omega
      have hh : ¬ (th > sh) := by
        obtain ⟨y, hy, h⟩ := g3.1.2
        obtain ⟨x, hx, h'⟩ := at_down hok.ok' hha.1 hac hy
        have := (g1.2 x.1 ⟨x, hx, rfl⟩).2
        omega
      have hga := gone_ends hok.ok' hha.1 g1
      have hgc := gone_ends hok.ok' hhc.1 g3
      have hia := gone_hi hok.ok' hha.1 g1
      have hic := gone_hi hok.ok' hhc.1 g3
      rcases g5 with ⟨h5, _⟩ | ⟨h5, h6, h7, h8, h9⟩ | ⟨h5, h6, h7, h8⟩
      · exact absurd (askE_ok hok trivial hcan) h5
      · subst h7
        have hgo : ∀ h, 0 ≤ h → (gone b h ↔ h ≥ n) := fun h hh => by
          constructor
          · intro hg
            by_cases hn : h < n
            · exact absurd hg (h9 h hh hn)
            · omega
          · intro hg
            exact gone_mono hok.ok' h6.1 hg h8
        have hth : (th == 0) = decide (c ≥ n) := by
          rw [Bool.eq_iff_iff, beq_iff_eq, decide_eq_true_eq, ← hgc, hgo c hhc.1]
        have hsh : (sh == 0) = decide (a ≥ n) := by
          rw [Bool.eq_iff_iff, beq_iff_eq, decide_eq_true_eq, ← hga, hgo a hha.1]
        repeat first|refine Wr ?_|refine Wb ?_|refine Wc ?_|refine Wd ?_|refine We ?_|refine Wf ?_|refine Wg ?_|refine Wh ?_|refine Wi ?_|refine Wj (by decide) ?_|refine Wa ?_|refine Wk ?_|refine Wl ?_|refine Wm ?_|refine Wn ?_|refine Wo ?_|refine Wp ?_|refine Wq ?_|refine Ww (by simp only[go_sem,z0,hl,hh,h6,hth,hsh,e5,e6,e7,e8,e9,e10,e43,bne_self_eq_false];done) ?_|((first|refine Ws ?_|refine Wt ?_|refine Wu ?_|refine Wv (by simp only[go_sem,z0,hl,hh,h6,hth,hsh,e5,e6,e7,e8,e9,e10,e43,bne_self_eq_false];done) ?_);conv=>arg 2;simp only[go_sem,z0,hl,hh,h6,hth,hsh,e5,e6,e7,e8,e9,e10,e43,bne_self_eq_false])|(refine Wx (by simp only[go_sem,z0,hl,hh,h6,hth,hsh,e5,e6,e7,e8,e9,e10,e43,bne_self_eq_false];rfl) (by simp only[go_sem,z0,hl,hh,h6,hth,hsh,e5,e6,e7,e8,e9,e10,e43,bne_self_eq_false];rfl) ?_;first|refine c51 _ _ _ ?_|refine c37 fun s8 g10 => ?_)
        first|refine w_retQ ?_|refine w_endQ ?_
        conv=>arg 1;simp only[go_sem]
        exact w_res (v := .bool true) (by simp only [go_sem]) rfl
      · subst h6 h7
        have hth : th > 0 := by
          have := h8 c hhc.1 hhc.2
          rw [hgc] at this
          omega
        repeat first|refine Wr ?_|refine Wb ?_|refine Wc ?_|refine Wd ?_|refine We ?_|refine Wf ?_|refine Wg ?_|refine Wh ?_|refine Wi ?_|refine Wj (by decide) ?_|refine Wa ?_|refine Wk ?_|refine Wl ?_|refine Wm ?_|refine Wn ?_|refine Wo ?_|refine Wp ?_|refine Wq ?_|refine Ww (by simp only[go_sem,z0,z40,z44,hl,hh,hth,e5,e6,e7,e8,e9,e10,e43,bne_self_eq_false];done) ?_|((first|refine Ws ?_|refine Wt ?_|refine Wu ?_|refine Wv (by simp only[go_sem,z0,z40,z44,hl,hh,hth,e5,e6,e7,e8,e9,e10,e43,bne_self_eq_false];done) ?_);conv=>arg 2;simp only[go_sem,z0,z40,z44,hl,hh,hth,e5,e6,e7,e8,e9,e10,e43,bne_self_eq_false])|(refine Wx (by simp only[go_sem,z0,z40,z44,hl,hh,hth,e5,e6,e7,e8,e9,e10,e43,bne_self_eq_false];rfl) (by simp only[go_sem,z0,z40,z44,hl,hh,hth,e5,e6,e7,e8,e9,e10,e43,bne_self_eq_false];rfl) ?_;first|refine c51 _ _ _ ?_|refine c37 fun s8 g10 => ?_)
        first|refine w_retQ ?_|refine w_endQ ?_
        conv=>arg 1;simp only[go_sem]
        exact w_res (v := .bool true) (by simp only [go_sem]) rfl
    · have hE : askE b (0 ≤ a ∧ a ≤ 60) = 32 := askE_not hok hha hcan
      have hE' : askE b (0 ≤ c ∧ c ≤ 60) = 32 := askE_not hok hhc hcan
      have hE2 : askE b True = 32 := askE_not hok trivial hcan
      have z0 : ((0 : Int) == 0) = true := rfl
      have z32 : ((32 : Int) == 0) = false := rfl
      have z33 : ((32 : Int) == 32) = true := rfl
      repeat first|refine Wr ?_|refine Wb ?_|refine Wc ?_|refine Wd ?_|refine We ?_|refine Wf ?_|refine Wg ?_|refine Wh ?_|refine Wi ?_|refine Wj (by decide) ?_|refine Wa ?_|refine Wk ?_|refine Wl ?_|refine Wm ?_|refine Wn ?_|refine Wo ?_|refine Wp ?_|refine Wq ?_|refine Ww (by simp only[go_sem,ha,hc,e2,e19,e22];done) ?_|((first|refine Ws ?_|refine Wt ?_|refine Wu ?_|refine Wv (by simp only[go_sem,ha,hc,e2,e19,e22];done) ?_);conv=>arg 2;simp only[go_sem,ha,hc,e2,e19,e22])
      refine w_call (by simp only [go_sem, ha, hc, e2]; rfl) (by simp only [go_sem, ha, hc, e2]; rfl) ?_
      refine c33v (h := a) hlen hE fun sl sh s1 g1 g2 => ?_
      first|refine w_trimI [2,5,6,32] fun e he => ?_|refine w_trimR [2,5,6,32] fun e he => ?_|refine w_trimS [2,5,6,32] fun e he => ?_
      simp only[w_map1,w_map0,List.cons.injEq,go_sem,ha, hc, e2] at he
      obtain ⟨e2,e5,e6,e32⟩ := he
      repeat first|refine Wr ?_|refine Wb ?_|refine Wc ?_|refine Wd ?_|refine We ?_|refine Wf ?_|refine Wg ?_|refine Wh ?_|refine Wi ?_|refine Wj (by decide) ?_|refine Wa ?_|refine Wk ?_|refine Wl ?_|refine Wm ?_|refine Wn ?_|refine Wo ?_|refine Wp ?_|refine Wq ?_|refine Ww (by simp only[go_sem,e2,e5,e6,e32];done) ?_|((first|refine Ws ?_|refine Wt ?_|refine Wu ?_|refine Wv (by simp only[go_sem,e2,e5,e6,e32];done) ?_);conv=>arg 2;simp only[go_sem,e2,e5,e6,e32])
      refine w_call (by simp only [go_sem, e2, e6]; rfl) (by simp only [go_sem, e2, e6]; rfl) ?_
      refine c33v (h := c) hlen hE' fun tl th s2 g3 g4 => ?_
      first|refine w_trimI [2,5,6,7,8,38] fun e he => ?_|refine w_trimR [2,5,6,7,8,38] fun e he => ?_|refine w_trimS [2,5,6,7,8,38] fun e he => ?_
      simp only[w_map1,w_map0,List.cons.injEq,go_sem,e2, e5, e6] at he
      obtain ⟨e2,e5,e6,e7,e8,e38⟩ := he
      repeat first|refine Wr ?_|refine Wb ?_|refine Wc ?_|refine Wd ?_|refine We ?_|refine Wf ?_|refine Wg ?_|refine Wh ?_|refine Wi ?_|refine Wj (by decide) ?_|refine Wa ?_|refine Wk ?_|refine Wl ?_|refine Wm ?_|refine Wn ?_|refine Wo ?_|refine Wp ?_|refine Wq ?_|refine Ww (by simp only[go_sem,e2,e5,e6,e7,e8,e38];done) ?_|((first|refine Ws ?_|refine Wt ?_|refine Wu ?_|refine Wv (by simp only[go_sem,e2,e5,e6,e7,e8,e38];done) ?_);conv=>arg 2;simp only[go_sem,e2,e5,e6,e7,e8,e38])
      refine w_call (by simp only [go_sem, e2]; rfl) (by simp only [go_sem, e2]; rfl) ?_
      refine c38 b hlen fun n e s3 g5 g6 => ?_
      first|refine w_trimI [5,6,7,8,9,10,43] fun e he => ?_|refine w_trimR [5,6,7,8,9,10,43] fun e he => ?_|refine w_trimS [5,6,7,8,9,10,43] fun e he => ?_
      simp only[w_map1,w_map0,List.cons.injEq,go_sem,e5, e6, e7, e8] at he
      obtain ⟨e5,e6,e7,e8,e9,e10,e43⟩ := he
      rcases g5 with ⟨h5, h6, h7⟩ | ⟨h5, _⟩ | ⟨h5, _⟩
      · rw [hE2] at h7
        subst h6 h7
        repeat first|refine Wr ?_|refine Wb ?_|refine Wc ?_|refine Wd ?_|refine We ?_|refine Wf ?_|refine Wg ?_|refine Wh ?_|refine Wi ?_|refine Wj (by decide) ?_|refine Wa ?_|refine Wk ?_|refine Wl ?_|refine Wm ?_|refine Wn ?_|refine Wo ?_|refine Wp ?_|refine Wq ?_|refine Ww (by simp only[go_sem,z0,z32,z33,e5,e6,e7,e8,e9,e10,e43,bne_self_eq_false];done) ?_|((first|refine Ws ?_|refine Wt ?_|refine Wu ?_|refine Wv (by simp only[go_sem,z0,z32,z33,e5,e6,e7,e8,e9,e10,e43,bne_self_eq_false];done) ?_);conv=>arg 2;simp only[go_sem,z0,z32,z33,e5,e6,e7,e8,e9,e10,e43,bne_self_eq_false])|(refine Wx (by simp only[go_sem,z0,z32,z33,e5,e6,e7,e8,e9,e10,e43,bne_self_eq_false];rfl) (by simp only[go_sem,z0,z32,z33,e5,e6,e7,e8,e9,e10,e43,bne_self_eq_false];rfl) ?_;refine c37 fun s8 g10 => ?_)
        first|refine w_retQ ?_|refine w_endQ ?_
        conv=>arg 1;simp only[go_sem]
        exact w_res (v := .bool true) (by simp only [go_sem]) rfl
      · rw [hE2] at h5; cases h5
      · rw [hE2] at h5; cases h5
  · repeat first|refine Wr ?_|refine Wb ?_|refine Wc ?_|refine Wd ?_|refine We ?_|refine Wf ?_|refine Wg ?_|refine Wh ?_|refine Wi ?_|refine Wj (by decide) ?_|refine Wa ?_|refine Wk ?_|refine Wl ?_|refine Wm ?_|refine Wn ?_|refine Wo ?_|refine Wp ?_|refine Wq ?_|refine Ww (by simp only[go_sem,hok];done) ?_|((first|refine Ws ?_|refine Wt ?_|refine Wu ?_|refine Wv (by simp only[go_sem,hok];done) ?_);conv=>arg 2;simp only[go_sem,hok])|(refine Wx (by simp only[go_sem,hok];rfl) (by simp only[go_sem,hok];rfl) ?_;first|refine c47 b hlen ?_|refine c37 fun s1 g1 => ?_)
    first|refine w_retQ ?_|refine w_endQ ?_
    conv=>arg 1;simp only[go_sem]
    exact w_res (v := .bool true) (by simp only [go_sem]) rfl
end Go.Hu.Sn
