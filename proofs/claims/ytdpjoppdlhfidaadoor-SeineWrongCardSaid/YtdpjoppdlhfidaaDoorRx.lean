/-
  The pure code is what the functions of the translation are compiled to: closed facts.
-/
import Derived.Test.YtdpjoppdlhfidaaDoorRows
import Derived.Test.YtdpjoppdlhfidaaDoorRa
import Derived.Test.YtdpjoppdlhfidaaDoorMc
import Derived.Test.YtdpjoppdlhfidaaDoorCards
import Derived.Test.YtdpjoppdlhfidaaDoorTie
import Derived.Stop.Joined
import Derived.Test.YtdpjoppdlhfidaaDoorG
import Derived.Test.YtdpjoppdlhfidaaDoorRb
namespace Go.Proofs.YtdpjoppdlhfidaaDoor
open Go.Hu

noncomputable def X : Ctx := { P := Tryd.prog, nm := some, gl := fun g => if g = 0 then some [.int 400, .int 9, .int 0, .int 400, .int 400] else if g = 4 then some [.fn 323 [] [], .fn 324 [] [], .fn 325 [] [], .fn 326 [] [], .fn 327 [] []] else none }
theorem follows : X.P.follows .mixedOrders = true := by kernel_rfl
def Good (p : Nat × PFunc) : Prop := ∃ fn h, X.P.funcs[p.1]? = some fn ∧ (fn.name == "runtime.NumGoroutine") = false ∧ compileF X h fn = some p.2
theorem good3 : Good (3, Hu.Sn.F3) := ⟨Tryd.f3, ⟨[2, 3, 9, 10], [], false, [], [], []⟩, Tryd.func3, by kernel_rfl, by kernel_rfl⟩
theorem good4 : Good (4, Hu.Sn.F4) := ⟨Tryd.f4, ⟨[2, 3, 9, 10], [], false, [], [], []⟩, Tryd.func4, by kernel_rfl, by kernel_rfl⟩
theorem good5 : Good (5, Hu.Sn.F5) := ⟨Tryd.f5, ⟨[1], [], false, [], [], []⟩, Tryd.func5, by kernel_rfl, by kernel_rfl⟩
theorem good6 : Good (6, Hu.Sn.F6) := ⟨Tryd.f6, ⟨[3, 7, 8, 14, 19, 21], [], false, [], [], []⟩, Tryd.func6, by kernel_rfl, by kernel_rfl⟩
theorem good7 : Good (7, Hu.Sn.F7) := ⟨Tryd.f7, ⟨[2, 3, 6, 8], [], false, [], [], []⟩, Tryd.func7, by kernel_rfl, by kernel_rfl⟩
theorem good13 : Good (13, Hu.Sn.F13) := ⟨Tryd.f13, ⟨[2, 11], [], false, [], [], []⟩, Tryd.func13, by kernel_rfl, by kernel_rfl⟩
theorem good27 : Good (27, Hu.Sn.F27) := ⟨Tryd.f27, ⟨[1], [], false, [], [], []⟩, Tryd.func27, by kernel_rfl, by kernel_rfl⟩
theorem good29 : Good (29, Hu.Sn.F29) := ⟨Tryd.f29, ⟨[1, 6], [], false, [], [], []⟩, Tryd.func29, by kernel_rfl, by kernel_rfl⟩
theorem good30 : Good (30, Hu.Sn.F30) := ⟨Tryd.f30, ⟨[1], [], false, [], [], []⟩, Tryd.func30, by kernel_rfl, by kernel_rfl⟩
theorem good31 : Good (31, Hu.Sn.F31) := ⟨Tryd.f31, ⟨[3, 5, 8, 10], [], false, [], [], []⟩, Tryd.func31, by kernel_rfl, by kernel_rfl⟩
theorem good33 : Good (33, Hu.Sn.F33) := ⟨Tryd.f33, ⟨[2, 4, 6], [], false, [], [], []⟩, Tryd.func33, by kernel_rfl, by kernel_rfl⟩
theorem good35 : Good (35, Hu.Sn.F35) := ⟨Tryd.f35, ⟨[2, 4, 6], [], false, [], [], []⟩, Tryd.func35, by kernel_rfl, by kernel_rfl⟩
theorem good37 : Good (37, Hu.Sn.F37) := ⟨Tryd.f37, ⟨[1, 3, 12, 13], [], false, [], [], []⟩, Tryd.func37, by kernel_rfl, by kernel_rfl⟩
theorem good38 : Good (38, Hu.Sn.F38) := ⟨Tryd.f38, ⟨[1, 4], [], false, [], [], []⟩, Tryd.func38, by kernel_rfl, by kernel_rfl⟩
theorem good40 : Good (40, Hu.Sn.F40) := ⟨Tryd.f40, ⟨[1, 2, 4, 9], [], false, [], [], []⟩, Tryd.func40, by kernel_rfl, by kernel_rfl⟩
theorem good42 : Good (42, Hu.Sn.F42) := ⟨Tryd.f42, ⟨[2, 3, 8], [], false, [], [(10, false, 8, (some 2), 4, (some 4))], []⟩, Tryd.func42, by kernel_rfl, by kernel_rfl⟩
theorem good44 : Good (44, Hu.Sn.F44) := ⟨Tryd.f44, ⟨[], [1], false, [], [], []⟩, Tryd.func44, by kernel_rfl, by kernel_rfl⟩
theorem good46 : Good (46, Hu.Sn.F46) := ⟨Tryd.f46, ⟨[], [], false, [], [], []⟩, Tryd.func46, by kernel_rfl, by kernel_rfl⟩
theorem good47 : Good (47, Hu.Sn.F47) := ⟨Tryd.f47, ⟨[1, 6], [], false, [], [], []⟩, Tryd.func47, by kernel_rfl, by kernel_rfl⟩
theorem good49 : Good (49, Hu.Sn.F49) := ⟨Tryd.f49, ⟨[2], [], false, [], [], []⟩, Tryd.func49, by kernel_rfl, by kernel_rfl⟩
theorem good50 : Good (50, Hu.Sn.F50) := ⟨Tryd.f50, ⟨[], [], false, [], [], []⟩, Tryd.func50, by kernel_rfl, by kernel_rfl⟩
theorem good51 : Good (51, Hu.Sn.F51) := ⟨Tryd.f51, ⟨[], [], false, [], [], []⟩, Tryd.func51, by kernel_rfl, by kernel_rfl⟩
theorem good52 : Good (52, Hu.Sn.F52) := ⟨Tryd.f52, ⟨[2], [], false, [], [], []⟩, Tryd.func52, by kernel_rfl, by kernel_rfl⟩
theorem good53 : Good (53, Hu.Sn.F53) := ⟨Tryd.f53, ⟨[5, 6], [], false, [], [], []⟩, Tryd.func53, by kernel_rfl, by kernel_rfl⟩
theorem good54 : Good (54, Hu.Sn.F54) := ⟨Tryd.f54, ⟨[3], [], false, [], [], []⟩, Tryd.func54, by kernel_rfl, by kernel_rfl⟩
theorem good61 : Good (61, Hu.Sn.F61) := ⟨Tryd.f61, ⟨[], [], false, [], [], []⟩, Tryd.func61, by kernel_rfl, by kernel_rfl⟩
theorem good68 : Good (68, Hu.Sn.F68) := ⟨Tryd.f68, ⟨[4], [], false, [], [], []⟩, Tryd.func68, by kernel_rfl, by kernel_rfl⟩
theorem good71 : Good (71, Hu.Sn.F71) := ⟨Tryd.f71, ⟨[2, 4, 5], [], false, [], [], []⟩, Tryd.func71, by kernel_rfl, by kernel_rfl⟩
theorem good72 : Good (72, Hu.Sn.F72) := ⟨Tryd.f72, ⟨[], [], false, [], [], []⟩, Tryd.func72, by kernel_rfl, by kernel_rfl⟩
theorem good73 : Good (73, Hu.Sn.F73) := ⟨Tryd.f73, ⟨[], [], false, [], [], []⟩, Tryd.func73, by kernel_rfl, by kernel_rfl⟩
theorem good74 : Good (74, Hu.Sn.F74) := ⟨Tryd.f74, ⟨[2], [], false, [], [], []⟩, Tryd.func74, by kernel_rfl, by kernel_rfl⟩
theorem good75 : Good (75, Hu.Sn.F75) := ⟨Tryd.f75, ⟨[0], [], false, [], [], []⟩, Tryd.func75, by kernel_rfl, by kernel_rfl⟩
theorem good76 : Good (76, Hu.Sn.F76) := ⟨Tryd.f76, ⟨[0], [], false, [], [], []⟩, Tryd.func76, by kernel_rfl, by kernel_rfl⟩
theorem good101 : Good (101, Hu.Sn.F101) := ⟨Tryd.f101, ⟨[], [], false, [], [], []⟩, Tryd.func101, by kernel_rfl, by kernel_rfl⟩
theorem good103 : Good (103, Hu.Sn.F103) := ⟨Tryd.f103, ⟨[], [], false, [], [], []⟩, Tryd.func103, by kernel_rfl, by kernel_rfl⟩
theorem good110 : Good (110, Hu.Sn.F110) := ⟨Tryd.f110, ⟨[1, 2, 3, 5], [], false, [], [], []⟩, Tryd.func110, by kernel_rfl, by kernel_rfl⟩
theorem good111 : Good (111, Hu.Sn.F111) := ⟨Tryd.f111, ⟨[1], [], false, [], [], []⟩, Tryd.func111, by kernel_rfl, by kernel_rfl⟩
theorem good113 : Good (113, Hu.Sn.F113) := ⟨Tryd.f113, ⟨[2], [], false, [], [], []⟩, Tryd.func113, by kernel_rfl, by kernel_rfl⟩
theorem good114 : Good (114, Hu.Sn.F114) := ⟨Tryd.f114, ⟨[1], [], false, [], [], []⟩, Tryd.func114, by kernel_rfl, by kernel_rfl⟩
theorem good115 : Good (115, Hu.Sn.F115) := ⟨Tryd.f115, ⟨[1], [], false, [], [], []⟩, Tryd.func115, by kernel_rfl, by kernel_rfl⟩
theorem good116 : Good (116, Hu.Sn.F116) := ⟨Tryd.f116, ⟨[2, 4, 7], [], false, [], [], []⟩, Tryd.func116, by kernel_rfl, by kernel_rfl⟩
theorem good117 : Good (117, Hu.Sn.F117) := ⟨Tryd.f117, ⟨[], [], false, [], [], []⟩, Tryd.func117, by kernel_rfl, by kernel_rfl⟩
theorem good118 : Good (118, Hu.Sn.F118) := ⟨Tryd.f118, ⟨[], [], false, [], [], []⟩, Tryd.func118, by kernel_rfl, by kernel_rfl⟩
theorem good119 : Good (119, Hu.Sn.F119) := ⟨Tryd.f119, ⟨[], [2, 3], false, [], [], []⟩, Tryd.func119, by kernel_rfl, by kernel_rfl⟩
theorem good122 : Good (122, Hu.Sn.F122) := ⟨Tryd.f122, ⟨[3, 5, 6, 8], [], false, [], [], []⟩, Tryd.func122, by kernel_rfl, by kernel_rfl⟩
theorem good123 : Good (123, Hu.Sn.F123) := ⟨Tryd.f123, ⟨[0], [], false, [], [], []⟩, Tryd.func123, by kernel_rfl, by kernel_rfl⟩
theorem good126 : Good (126, Hu.Sn.F126) := ⟨Tryd.f126, ⟨[0], [], false, [], [], []⟩, Tryd.func126, by kernel_rfl, by kernel_rfl⟩
theorem good128 : Good (128, Hu.Sn.F128) := ⟨Tryd.f128, ⟨[9], [], false, [], [], []⟩, Tryd.func128, by kernel_rfl, by kernel_rfl⟩
theorem good129 : Good (129, Hu.Sn.F129) := ⟨Tryd.f129, ⟨[1, 3, 4], [], false, [], [], []⟩, Tryd.func129, by kernel_rfl, by kernel_rfl⟩
theorem good130 : Good (130, Hu.Sn.F130) := ⟨Tryd.f130, ⟨[2, 4], [], false, [], [], []⟩, Tryd.func130, by kernel_rfl, by kernel_rfl⟩
theorem good131 : Good (131, Hu.Sn.F131) := ⟨Tryd.f131, ⟨[2], [], false, [], [], []⟩, Tryd.func131, by kernel_rfl, by kernel_rfl⟩
theorem good135 : Good (135, Hu.Sn.F135) := ⟨Tryd.f135, ⟨[], [], false, [25], [], []⟩, Tryd.func135, by kernel_rfl, by kernel_rfl⟩
theorem good136 : Good (136, Hu.Sn.F136) := ⟨Tryd.f136, ⟨[], [], false, [7], [], []⟩, Tryd.func136, by kernel_rfl, by kernel_rfl⟩
theorem good138 : Good (138, Hu.Sn.F138) := ⟨Tryd.f138, ⟨[9, 11], [2], false, [], [], []⟩, Tryd.func138, by kernel_rfl, by kernel_rfl⟩
theorem good139 : Good (139, Hu.Sn.F139) := ⟨Tryd.f139, ⟨[], [], false, [], [], []⟩, Tryd.func139, by kernel_rfl, by kernel_rfl⟩
theorem good180 : Good (180, Hu.Sn.F180) := ⟨Tryd.f180, ⟨[], [], false, [], [], []⟩, Tryd.func180, by kernel_rfl, by kernel_rfl⟩
theorem good202 : Good (202, Hu.Sn.F202) := ⟨Tryd.f202, ⟨[0, 1], [], false, [], [], []⟩, Tryd.func202, by kernel_rfl, by kernel_rfl⟩
theorem good203 : Good (203, Hu.Sn.F203) := ⟨Tryd.f203, ⟨[9], [2, 1], false, [], [], []⟩, Tryd.func203, by kernel_rfl, by kernel_rfl⟩
theorem good204 : Good (204, Hu.Sn.F204) := ⟨Tryd.f204, ⟨[5], [4], false, [], [], []⟩, Tryd.func204, by kernel_rfl, by kernel_rfl⟩
theorem good205 : Good (205, Hu.Sn.F205) := ⟨Tryd.f205, ⟨[1], [], false, [], [], []⟩, Tryd.func205, by kernel_rfl, by kernel_rfl⟩
theorem good206 : Good (206, Hu.Sn.F206) := ⟨Tryd.f206, ⟨[1], [], false, [], [], []⟩, Tryd.func206, by kernel_rfl, by kernel_rfl⟩
theorem good207 : Good (207, Hu.Sn.F207) := ⟨Tryd.f207, ⟨[5, 8, 10], [], false, [], [], []⟩, Tryd.func207, by kernel_rfl, by kernel_rfl⟩
theorem good208 : Good (208, Hu.Sn.F208) := ⟨Tryd.f208, ⟨[], [1], false, [], [], []⟩, Tryd.func208, by kernel_rfl, by kernel_rfl⟩
theorem good209 : Good (209, Hu.Sn.F209) := ⟨Tryd.f209, ⟨[], [], false, [], [], []⟩, Tryd.func209, by kernel_rfl, by kernel_rfl⟩
theorem good210 : Good (210, Hu.Sn.F210) := ⟨Tryd.f210, ⟨[], [], false, [], [], []⟩, Tryd.func210, by kernel_rfl, by kernel_rfl⟩
theorem good214 : Good (214, Hu.Sn.F214) := ⟨Tryd.f214, ⟨[], [], false, [], [], []⟩, Tryd.func214, by kernel_rfl, by kernel_rfl⟩
theorem good250 : Good (250, Hu.Sn.F250) := ⟨Tryd.f250, ⟨[], [3], false, [], [], []⟩, Tryd.func250, by kernel_rfl, by kernel_rfl⟩
theorem good251 : Good (251, Hu.Sn.F251) := ⟨Tryd.f251, ⟨[], [1], false, [], [], []⟩, Tryd.func251, by kernel_rfl, by kernel_rfl⟩
theorem good323 : Good (323, Hu.Sn.F323) := ⟨Tryd.f323, ⟨[2, 4], [], false, [], [], []⟩, Tryd.func323, by kernel_rfl, by kernel_rfl⟩
theorem good324 : Good (324, Hu.Sn.F324) := ⟨Tryd.f324, ⟨[2, 4], [], false, [], [], []⟩, Tryd.func324, by kernel_rfl, by kernel_rfl⟩
theorem good325 : Good (325, Hu.Sn.F325) := ⟨Tryd.f325, ⟨[2, 4], [], false, [], [], []⟩, Tryd.func325, by kernel_rfl, by kernel_rfl⟩
theorem good326 : Good (326, Hu.Sn.F326) := ⟨Tryd.f326, ⟨[2, 4], [], false, [], [], []⟩, Tryd.func326, by kernel_rfl, by kernel_rfl⟩
theorem good327 : Good (327, Hu.Sn.F327) := ⟨Tryd.f327, ⟨[2, 4], [], false, [], [], []⟩, Tryd.func327, by kernel_rfl, by kernel_rfl⟩
theorem good : ∀ p ∈ Hu.Sn.tab, Good p := by
  simp only [Hu.Sn.tab, List.forall_mem_cons]
  exact ⟨good3, good4, good5, good6, good7, good13, good27, good29, good30, good31, good33, good35, good37, good38, good40, good42, good44, good46, good47, good49, good50, good51, good52, good53, good54, good61, good68, good71, good72, good73, good74, good75, good76, good101, good103, good110, good111, good113, good114, good115, good116, good117, good118, good119, good122, good123, good126, good128, good129, good130, good131, good135, good136, good138, good139, good180, good202, good203, good204, good205, good206, good207, good208, good209, good210, good214, good250, good251, good323, good324, good325, good326, good327, by simp⟩
theorem laid : Laid X Hu.Sn.prog := by
  intro f k F hn hp
  obtain rfl : f = k := Option.some.inj hn
  exact good (f, F) (look_mem hp)
end Go.Proofs.YtdpjoppdlhfidaaDoor

set_option linter.unusedVariables false
namespace Go.Proofs.YtdpjoppdlhfidaaDoor
open Go.Hu Go.ChangeShapes Go.WideShapes Go.ChangeAt Go.RowKit

theorem own : ownKnob Tryd.prog.godebug = none := by kernel_rfl
def laidL : List (String × DataW Unit) := [("huer/seine.most", Rows.laid_huer_seine_most), ("huer/seine.does", Rows.laid_huer_seine_does)]
theorem gMost : Tryd.prog.globalNamed "huer/seine.most" = some 0 := by kernel_rfl
theorem gDoes : Tryd.prog.globalNamed "huer/seine.does" = some 4 := by kernel_rfl
theorem tMost : (Tryd.prog.globals[0]?).map (·.type) = some 131 := by kernel_rfl
theorem tDoes : (Tryd.prog.globals[4]?).map (·.type) = some 306 := by kernel_rfl
theorem kids : Kids Tryd.prog (· < Tryd.prog.types.size) := kids_rows (by kernel_rfl) (by kernel_rfl)
theorem full : ∀ t e, t < Tryd.prog.types.size → Tryd.prog.underlying t = some (.slice e) → 0 < Tryd.prog.cellsOf e := slices_full_of Tryd.prog (by kernel_rfl)

theorem globs {W : World} (h : laidMetH Tryd.prog laidL W) : ∀ n cs, X.gl n = some cs → GlobOk X.nm W n cs := by
  intro n cs hn
  simp only [X] at hn
  split at hn
  · rename_i h0
    cases hn
    subst h0
    obtain ⟨g, t, cs, fuel, p, hg, ht, hv, hd⟩ := laid_ints h (name := "huer/seine.most") (d := Rows.laid_huer_seine_most) (by simp [laidL]) rfl
    obtain rfl := Option.some.inj (gMost.symm.trans hg)
    obtain rfl := Option.some.inj (tMost.symm.trans ht)
    exact glob_ints (nm := X.nm) hg hv (by kernel_rfl : Tryd.prog.underlying 131 = some (.array 5 3)) (by kernel_rfl : Tryd.prog.underlying 3 = some (.int .i64)) (by kernel_rfl) [400, 9, 0, 400, 400] rfl hd
  · split at hn
    · rename_i h0
      cases hn
      subst h0
      obtain ⟨g, t, cs, fuel, p, hg, ht, hv, hd⟩ := h.funcs (n := "huer/seine.does") (by simp only [laidL, Rows.laid_huer_seine_does]; exact List.mem_cons_of_mem _ (List.mem_cons_self ..))
      obtain rfl := Option.some.inj (gDoes.symm.trans hg)
      obtain rfl := Option.some.inj (tDoes.symm.trans ht)
      refine glob_fns (nm := X.nm) (e := 305) hg hv (by kernel_rfl : Tryd.prog.underlying 306 = some (.array 5 305)) Tryd.underlying305 (by kernel_rfl)
        [(323, [40, 104, 117, 101, 114, 47, 115, 101, 105, 110, 101, 46, 115, 116, 97, 116, 101, 41, 46, 116, 117, 99, 107], 323), (324, [40, 104, 117, 101, 114, 47, 115, 101, 105, 110, 101, 46, 115, 116, 97, 116, 101, 41, 46, 98, 114, 101, 97, 99, 104], 324),
         (325, [40, 104, 117, 101, 114, 47, 115, 101, 105, 110, 101, 46, 115, 116, 97, 116, 101, 41, 46, 109, 101, 110, 100], 325), (326, [40, 104, 117, 101, 114, 47, 115, 101, 105, 110, 101, 46, 115, 116, 97, 116, 101, 41, 46, 100, 111, 103, 115], 326), (327, [40, 104, 117, 101, 114, 47, 115, 101, 105, 110, 101, 46, 115, 116, 97, 116, 101, 41, 46, 115, 111, 117, 110, 100], 327)]
        ?_ rfl hd
      simp only [List.forall_mem_cons]
      exact ⟨⟨rfl, by simp, by kernel_rfl⟩, ⟨rfl, by simp, by kernel_rfl⟩, ⟨rfl, by simp, by kernel_rfl⟩, ⟨rfl, by simp, by kernel_rfl⟩, ⟨rfl, by simp, by kernel_rfl⟩, by simp⟩
    · cases hn
theorem door_met (os : Os) (args : Array Value) : laidMetH Tryd.prog laidL ((World.doorLaid Tryd.prog 3000 os).forCall (fun _ _ => 0) ⟨#[], args, []⟩).memory :=
  laidMetH_of_parts3 (fuel := 8) (laidMet_of_run' 8 (by kernel_rfl) (by kernel_rfl)) (by kernel_rfl) (by kernel_rfl)
end Go.Proofs.YtdpjoppdlhfidaaDoor

set_option linter.unusedSimpArgs false
set_option linter.unusedVariables false
namespace Go.Hu.Sn
attribute [local irreducible] wpS wpIs wpI
attribute [local go_sem] Nat.mul_one Nat.one_mul Nat.zero_add Nat.add_zero Nat.zero_mul and_self and_true true_and decide_true decide_false Bool.false_eq_true if_true if_false Int.cast_ofNat_Int Int.zero_le_ofNat Int.le_refl Int.reduceLT Int.reduceLE Int.reduceToNat

variable {s : St} {Q : V → St → Prop}

theorem notes_of : ∀ {xs : List V}, (∀ x ∈ xs, ∃ cs, HasF [true, true, true, true] cs ∧ x = wrap true cs) → ∃ ns : List Note, xs = notesV ns
  | [], _ => ⟨[], rfl⟩
  | x :: xs, h => by
    obtain ⟨ns, rfl⟩ := notes_of (xs := xs) fun y hy => h y (by simp [hy])
    obtain ⟨cs, hc, rfl⟩ := h x (by simp)
    obtain ⟨_, _, rfl, ⟨a, _, rfl⟩, _, _, rfl, ⟨b, _, rfl⟩, _, _, rfl, ⟨c, _, rfl⟩, _, _, rfl, ⟨d, _, rfl⟩, rfl⟩ := hc
    exact ⟨⟨a, b, c, d⟩ :: ns, rfl⟩
theorem book_of {y : List V} (h : Has [.int, .int, .sl true [true, true, true, true]] y) : ∃ b : Book, wrap true y = bookV b ∧ (b.notes.length : Int) < 9223372036854775808 := by
  obtain ⟨_, _, rfl, ⟨lo, _, rfl⟩, _, _, rfl, ⟨hi, _, rfl⟩, _, _, rfl, ⟨xs, rfl, hl, hx⟩, rfl⟩ := h
  obtain ⟨ns, rfl⟩ := notes_of hx
  rw [notesV_length] at hl
  refine ⟨⟨lo, hi, ns⟩, rfl, ?_⟩
  show (ns.length : Int) < _
  omega
theorem pair_of {y : List V} (h : Has [.int, .int] y) : ∃ a b : Int, wrap true y = .agg [.int a, .int b] := by
  obtain ⟨_, _, rfl, ⟨lo, _, rfl⟩, _, _, rfl, ⟨hi, _, rfl⟩, rfl⟩ := h
  exact ⟨lo, hi, rfl⟩
theorem note_of {y : List V} (h : Has [.int, .int, .int, .int] y) : ∃ x : Note, wrap true y = noteV x := by
  obtain ⟨_, _, rfl, ⟨a, _, rfl⟩, _, _, rfl, ⟨b, _, rfl⟩, _, _, rfl, ⟨c, _, rfl⟩, _, _, rfl, ⟨d, _, rfl⟩, rfl⟩ := h
  exact ⟨⟨a, b, c, d⟩, rfl⟩
theorem Answer.unique {e : Int} {S : Int → Prop} {a b c d : Int} (h : Answer e S a b) (h' : Answer e S c d) : a = c ∧ b = d := by
  unfold Answer at h h'
  by_cases he : e = 0
  · rw [if_pos he] at h h'
    exact h.unique h'
  · rw [if_neg he] at h h'
    omega

end Go.Hu.Sn

set_option linter.unusedSimpArgs false
set_option linter.unusedVariables false
namespace Go.Hu.Sn
attribute [local irreducible] wpS wpIs wpI
attribute [local go_sem] Nat.mul_one Nat.one_mul Nat.zero_add Nat.add_zero Nat.zero_mul and_self and_true true_and decide_true decide_false Bool.false_eq_true if_true if_false Int.cast_ofNat_Int Int.zero_le_ofNat Int.le_refl Int.reduceLT Int.reduceLE Int.reduceToNat

variable {s : St} {Q : V → St → Prop}

theorem c103 (l : List Int) (n : Int) (hl : l.length ≤ 1000) (hq : ∀ r : Int, (r < 0 ↔ n ∉ l) → Q (.int r) s) : Call prog (.fn 103 [] []) [.lst (intsV l) .any, .int n] s Q := by
  refine Call.fn F103 p103 rfl ?_
  simp only [F103]
  repeat first|refine Wr ?_|refine Wb ?_|refine Wc ?_|refine Wd ?_|refine We ?_|refine Wf ?_|refine Wg ?_|refine Wh ?_|refine Wi ?_|refine Wj (by decide) ?_|refine Wa ?_|refine Wk ?_|refine Wl ?_|refine Wm ?_|refine Wn ?_|refine Wo ?_|refine Wp ?_|refine Wq ?_|refine Ww (by simp only[go_sem];done) ?_|((first|refine Ws ?_|refine Wt ?_|refine Wu ?_|refine Wv (by simp only[go_sem];done) ?_);conv=>arg 2;simp only[go_sem])
  refine w_iter (fun m e s' => ∃ (a r : List Int), l = a ++ r ∧ r.length = m ∧ e 0 = .lst (intsV l) .any ∧ e 1 = .int n ∧ e 5 = .int a.length ∧ n ∉ a ∧ s' = s) l.length ?_ ?_
  · refine ⟨[], l, rfl, rfl, ?_, ?_, ?_, by simp, rfl⟩
    any_goals (simp only [go_sem, List.length_nil, Int.natCast_zero]; done)
  · rintro m e s' ⟨a, r, har, hrm, e0, e1, e5, hna, rfl⟩
    cases r with
    | nil =>
      have hla : l = a := by simpa using har
      have hlt : ¬ ((a.length : Int) < (l.length : Int)) := by rw [hla]; omega
      repeat first|refine Wr ?_|refine Wb ?_|refine Wc ?_|refine Wd ?_|refine We ?_|refine Wf ?_|refine Wg ?_|refine Wh ?_|refine Wi ?_|refine Wj (by decide) ?_|refine Wa ?_|refine Wk ?_|refine Wl ?_|refine Wm ?_|refine Wn ?_|refine Wo ?_|refine Wp ?_|refine Wq ?_|refine Ww (by simp only[go_sem,e0,e1,e5,intsV_length,hlt];done) ?_|((first|refine Ws ?_|refine Wt ?_|refine Wu ?_|refine Wv (by simp only[go_sem,e0,e1,e5,intsV_length,hlt];done) ?_);conv=>arg 2;simp only[go_sem,e0,e1,e5,intsV_length,hlt])
      first|refine w_retQ ?_|refine w_endQ ?_
      conv=>arg 1;simp only[go_sem]
      refine w_res (v := .int (-1)) (by simp only [go_sem]) (hq (-1) ?_)
      rw [hla]
      simp [hna]
    | cons x r =>
      have hlt : ((a.length : Int) < (l.length : Int)) := by rw [har]; simp; omega
      have hx : (intsV l)[((a.length : Int)).toNat]? = some (.int x) := by rw [har]; exact intsV_at
      have hp := len_nonneg a
      have hal : a.length + 1 ≤ l.length := by rw [har]; simp
      have hw : w64 ((a.length : Int) + 1) = (a ++ [x]).length := by rw [w64_id (by omega)]; simp
      by_cases hxn : x = n
      · have hxn' : (x == n) = true := by simpa using hxn
        repeat first|refine Wr ?_|refine Wb ?_|refine Wc ?_|refine Wd ?_|refine We ?_|refine Wf ?_|refine Wg ?_|refine Wh ?_|refine Wi ?_|refine Wj (by decide) ?_|refine Wa ?_|refine Wk ?_|refine Wl ?_|refine Wm ?_|refine Wn ?_|refine Wo ?_|refine Wp ?_|refine Wq ?_|refine Ww (by simp only[go_sem,e0,e1,e5,intsV_length,hlt,hx,hp,hxn'];done) ?_|((first|refine Ws ?_|refine Wt ?_|refine Wu ?_|refine Wv (by simp only[go_sem,e0,e1,e5,intsV_length,hlt,hx,hp,hxn'];done) ?_);conv=>arg 2;simp only[go_sem,e0,e1,e5,intsV_length,hlt,hx,hp,hxn'])
        first|refine w_retQ ?_|refine w_endQ ?_
        conv=>arg 1;simp only[go_sem]
        refine w_res (v := .int a.length) (by simp only [go_sem]) (hq _ ?_)
        rw [har, hxn]
        simp
      · have hxn' : (x == n) = false := by simpa using hxn
        repeat first|refine Wr ?_|refine Wb ?_|refine Wc ?_|refine Wd ?_|refine We ?_|refine Wf ?_|refine Wg ?_|refine Wh ?_|refine Wi ?_|refine Wj (by decide) ?_|refine Wa ?_|refine Wk ?_|refine Wl ?_|refine Wm ?_|refine Wn ?_|refine Wo ?_|refine Wp ?_|refine Wq ?_|refine Ww (by simp only[go_sem,e0,e1,e5,intsV_length,hlt,hx,hp,hxn',hw];done) ?_|((first|refine Ws ?_|refine Wt ?_|refine Wu ?_|refine Wv (by simp only[go_sem,e0,e1,e5,intsV_length,hlt,hx,hp,hxn',hw];done) ?_);conv=>arg 2;simp only[go_sem,e0,e1,e5,intsV_length,hlt,hx,hp,hxn',hw])
        refine ⟨r.length, by simp at hrm; omega, a ++ [x], r, by rw [har]; simp, rfl, ?_, ?_, ?_, ?_, rfl⟩
        any_goals (simp only [go_sem, e0, e1, e5, hw]; done)
        simp only [List.mem_append, List.mem_singleton, not_or]
        exact ⟨hna, fun h => hxn h.symm⟩

set_option maxHeartbeats 1000000 in
theorem c71 (b : Book) (l : List Int) (hl : l.length ≤ 1000) (hlen : b.notes.length ≤ 60) (hq : ∀ s', s ≤ s' → Q (bookV (withoutN b l)) s') : Call prog (.fn 71 [] []) [bookV b, .lst (intsV l) .any] s Q := by
  refine Call.fn F71 p71 rfl ?_
  simp only [F71, bookV]
  repeat first|refine Wr ?_|refine Wb ?_|refine Wc ?_|refine Wd ?_|refine We ?_|refine Wf ?_|refine Wg ?_|refine Wh ?_|refine Wi ?_|refine Wj (by decide) ?_|refine Wa ?_|refine Wk ?_|refine Wl ?_|refine Wm ?_|refine Wn ?_|refine Wo ?_|refine Wp ?_|refine Wq ?_|refine Ww (by simp only[go_sem];done) ?_|((first|refine Ws ?_|refine Wt ?_|refine Wu ?_|refine Wv (by simp only[go_sem];done) ?_);conv=>arg 2;simp only[go_sem])
  refine w_iter (fun n e s' => ∃ (a r : List Note) (c : Cap), b.notes = a ++ r ∧ r.length = n ∧ e 1 = .lst (intsV l) .any ∧ e 2 = .agg [.int b.lo, .int b.hi, .lst (notesV b.notes) .any] ∧ e 4 = .agg [.int 0, .int 0, .lst [] .exact] ∧ e 5 = .agg [.int b.lo, .int b.hi, .lst (notesV (wo l 0 a)) c] ∧ e 6 = .int a.length ∧ Gro s s' c (wo l 0 a).length) b.notes.length ?_ ?_
  · refine ⟨[], b.notes, .exact, rfl, rfl, ?_, ?_, ?_, ?_, ?_, Gro.start⟩
    any_goals (simp only [go_sem, List.length_nil, Int.natCast_zero]; done)
    all_goals (simp only [go_sem]; rfl)
  · rintro n e s' ⟨a, r, c, har, hrn, e1, e2, e4, e5, e6, hg⟩
    cases r with
    | nil =>
      have hna : b.notes = a := by simpa using har
      have hlt : ¬ ((a.length : Int) < (b.notes.length : Int)) := by rw [hna]; omega
      repeat first|refine Wr ?_|refine Wb ?_|refine Wc ?_|refine Wd ?_|refine We ?_|refine Wf ?_|refine Wg ?_|refine Wh ?_|refine Wi ?_|refine Wj (by decide) ?_|refine Wa ?_|refine Wk ?_|refine Wl ?_|refine Wm ?_|refine Wn ?_|refine Wo ?_|refine Wp ?_|refine Wq ?_|refine Ww (by simp only[go_sem,e1,e2,e4,e5,e6,notesV_length,hlt];done) ?_|((first|refine Ws ?_|refine Wt ?_|refine Wu ?_|refine Wv (by simp only[go_sem,e1,e2,e4,e5,e6,notesV_length,hlt];done) ?_);conv=>arg 2;simp only[go_sem,e1,e2,e4,e5,e6,notesV_length,hlt])
      first|refine w_retQ ?_|refine w_endQ ?_
      conv=>arg 1;simp only[go_sem]
      refine w_res (v := bookV (withoutN b l)) ?_ (hq s' hg.le)
      rw [← hna]
      simp only [go_sem, bookV, withoutN]
    | cons y r =>
      have hlt : ((a.length : Int) < (b.notes.length : Int)) := by rw [har]; simp; omega
      have hy : (notesV b.notes)[((a.length : Int)).toNat]? = some (.agg [.int y.kind, .int y.hour, .int y.lo, .int y.hi]) := by rw [har]; exact notesV_at
      have hp := len_nonneg a
      have hal : a.length + 1 ≤ b.notes.length := by rw [har]; simp
      have hw : w64 ((a.length : Int) + 1) = (a ++ [y]).length := by rw [w64_id (by omega)]; simp
      have hwl := wo_len l a 0
      have hmax : (notesV (wo l 0 a)).length + 1 ≤ maxLst := by rw [notesV_length]; simp only [maxLst]; omega
      have hsn := wo_snoc l a y
      repeat first|refine Wr ?_|refine Wb ?_|refine Wc ?_|refine Wd ?_|refine We ?_|refine Wf ?_|refine Wg ?_|refine Wh ?_|refine Wi ?_|refine Wj (by decide) ?_|refine Wa ?_|refine Wk ?_|refine Wl ?_|refine Wm ?_|refine Wn ?_|refine Wo ?_|refine Wp ?_|refine Wq ?_|refine Ww (by simp only[go_sem,e1,e2,e4,e5,e6,notesV_length,hlt];done) ?_|((first|refine Ws ?_|refine Wt ?_|refine Wu ?_|refine Wv (by simp only[go_sem,e1,e2,e4,e5,e6,notesV_length,hlt];done) ?_);conv=>arg 2;simp only[go_sem,e1,e2,e4,e5,e6,notesV_length,hlt])
      refine w_call (by simp only [go_sem, e1, e6]; rfl) (by simp only [go_sem, e1, e6]; rfl) ?_
      refine c103 l a.length hl fun pl hpl => ?_
      first|refine w_trimI [1,2,4,5,6,18] fun e he => ?_|refine w_trimR [1,2,4,5,6,18] fun e he => ?_|refine w_trimS [1,2,4,5,6,18] fun e he => ?_
      simp only[w_map1,w_map0,List.cons.injEq,go_sem,e1, e2, e4, e5, e6] at he
      obtain ⟨e1,e2,e4,e5,e6,e18⟩ := he
      by_cases hin : (a.length : Int) ∈ l
      · have hpl' : ¬ pl < 0 := fun h => (hpl.1 h) hin
        rw [if_pos hin] at hsn
        repeat first|refine Wr ?_|refine Wb ?_|refine Wc ?_|refine Wd ?_|refine We ?_|refine Wf ?_|refine Wg ?_|refine Wh ?_|refine Wi ?_|refine Wj (by decide) ?_|refine Wa ?_|refine Wk ?_|refine Wl ?_|refine Wm ?_|refine Wn ?_|refine Wo ?_|refine Wp ?_|refine Wq ?_|refine Ww (by simp only[go_sem,e1,e2,e4,e5,e6,e18,hpl',hw];done) ?_|((first|refine Ws ?_|refine Wt ?_|refine Wu ?_|refine Wv (by simp only[go_sem,e1,e2,e4,e5,e6,e18,hpl',hw];done) ?_);conv=>arg 2;simp only[go_sem,e1,e2,e4,e5,e6,e18,hpl',hw])
        refine ⟨r.length, by simp at hrn; omega, a ++ [y], r, c, by rw [har]; simp, rfl, ?_, ?_, ?_, ?_, ?_, by rw [hsn]; exact hg⟩
        any_goals (simp only [go_sem, e1, e2, e4, e5, e6, hw, hsn]; done)
      · have hpl' : pl < 0 := hpl.2 hin
        rw [if_neg hin] at hsn
        repeat first|refine Wr ?_|refine Wb ?_|refine Wc ?_|refine Wd ?_|refine We ?_|refine Wf ?_|refine Wg ?_|refine Wh ?_|refine Wi ?_|refine Wj (by decide) ?_|refine Wa ?_|refine Wk ?_|refine Wl ?_|refine Wm ?_|refine Wn ?_|refine Wo ?_|refine Wp ?_|refine Wq ?_|refine Ww (by simp only[go_sem,e1,e2,e4,e5,e6,e18,hpl',hy,hp];done) ?_|((first|refine Ws ?_|refine Wt ?_|refine Wu ?_|refine Wv (by simp only[go_sem,e1,e2,e4,e5,e6,e18,hpl',hy,hp];done) ?_);conv=>arg 2;simp only[go_sem,e1,e2,e4,e5,e6,e18,hpl',hy,hp])
        refine w_append1 (xs := notesV (wo l 0 a)) (y := .agg [.int y.kind, .int y.hour, .int y.lo, .int y.hi]) (c := c) rfl (by simp only [go_sem, e5] <;> rfl) (by simp only [go_sem] <;> rfl) hmax (hd_notes _) rfl rfl (by rw [notesV_length]; exact hg.room) fun c' s4 g => ?_
        rw [notesV_length] at g
        repeat first|refine Wr ?_|refine Wb ?_|refine Wc ?_|refine Wd ?_|refine We ?_|refine Wf ?_|refine Wg ?_|refine Wh ?_|refine Wi ?_|refine Wj (by decide) ?_|refine Wa ?_|refine Wk ?_|refine Wl ?_|refine Wm ?_|refine Wn ?_|refine Wo ?_|refine Wp ?_|refine Wq ?_|refine Ww (by simp only[go_sem,e1,e2,e4,e5,e6,hw];done) ?_|((first|refine Ws ?_|refine Wt ?_|refine Wu ?_|refine Wv (by simp only[go_sem,e1,e2,e4,e5,e6,hw];done) ?_);conv=>arg 2;simp only[go_sem,e1,e2,e4,e5,e6,hw])
        refine ⟨r.length, by simp at hrn; omega, a ++ [y], r, c', by rw [har]; simp, rfl, ?_, ?_, ?_, ?_, ?_, by rw [hsn]; simpa using hg.step g⟩
        any_goals (simp only [go_sem, e1, e2, e4, e5, e6, hw]; done)
        rw [hsn, notesV_append]
        simp only [go_sem]; rfl

theorem c61 (l : List Int) (n : Int) (hl : l.length ≤ 1000) (hn : 0 ≤ n ∧ n ≤ 1000) (hq : Q (.bool (riseB n 0 l)) s) : Call prog (.fn 61 [] []) [.lst (intsV l) .any, .int n] s Q := by
  refine Call.fn F61 p61 rfl ?_
  simp only [F61]
  have hw1 : w64 (n - 1) = n - 1 := w64_id (by omega)
  repeat first|refine Wr ?_|refine Wb ?_|refine Wc ?_|refine Wd ?_|refine We ?_|refine Wf ?_|refine Wg ?_|refine Wh ?_|refine Wi ?_|refine Wj (by decide) ?_|refine Wa ?_|refine Wk ?_|refine Wl ?_|refine Wm ?_|refine Wn ?_|refine Wo ?_|refine Wp ?_|refine Wq ?_|refine Ww (by simp only[go_sem];done) ?_|((first|refine Ws ?_|refine Wt ?_|refine Wu ?_|refine Wv (by simp only[go_sem];done) ?_);conv=>arg 2;simp only[go_sem])
  refine w_iter (fun m e s' => ∃ (a r : List Int) (k : Int), 0 ≤ k ∧ l = a ++ r ∧ r.length = m ∧ e 0 = .lst (intsV l) .any ∧ e 1 = .int n ∧ e 5 = .int k ∧ e 6 = .int a.length ∧ riseB n 0 l = riseB n k r ∧ s' = s) l.length ?_ ?_
  · refine ⟨[], l, 0, Int.le_refl 0, rfl, rfl, ?_, ?_, ?_, ?_, rfl, rfl⟩
    any_goals (simp only [go_sem, List.length_nil, Int.natCast_zero]; done)
  · rintro m e s' ⟨a, r, k, hk0, har, hrm, e0, e1, e5, e6, hr, rfl⟩
    rw [hr] at hq
    cases r with
    | nil =>
      have hla : l = a := by simpa using har
      have hlt : ¬ ((a.length : Int) < (l.length : Int)) := by rw [hla]; omega
      repeat first|refine Wr ?_|refine Wb ?_|refine Wc ?_|refine Wd ?_|refine We ?_|refine Wf ?_|refine Wg ?_|refine Wh ?_|refine Wi ?_|refine Wj (by decide) ?_|refine Wa ?_|refine Wk ?_|refine Wl ?_|refine Wm ?_|refine Wn ?_|refine Wo ?_|refine Wp ?_|refine Wq ?_|refine Ww (by simp only[go_sem,e0,e1,e5,e6,intsV_length,hlt];done) ?_|((first|refine Ws ?_|refine Wt ?_|refine Wu ?_|refine Wv (by simp only[go_sem,e0,e1,e5,e6,intsV_length,hlt];done) ?_);conv=>arg 2;simp only[go_sem,e0,e1,e5,e6,intsV_length,hlt])
      first|refine w_retQ ?_|refine w_endQ ?_
      conv=>arg 1;simp only[go_sem]
      exact w_res (by simp only [go_sem, riseB]) hq
    | cons x r =>
      have hlt : ((a.length : Int) < (l.length : Int)) := by rw [har]; simp; omega
      have hx : (intsV l)[((a.length : Int)).toNat]? = some (.int x) := by rw [har]; exact intsV_at
      have hp := len_nonneg a
      have hal : a.length + 1 ≤ l.length := by rw [har]; simp
      simp only [riseB] at hq hr
      by_cases hb : k ≤ x ∧ x ≤ n - 1
      · have hk1 : 0 ≤ x + 1 := by omega
        have hw : w64 ((a.length : Int) + 1) = (a ++ [x]).length := by rw [w64_id (by omega)]; simp
        have hw2 : w64 (x + 1) = x + 1 := w64_id (by omega)
        rw [decide_eq_true hb, Bool.true_and] at hr
        have hrm' : r.length < m := by simp at hrm; omega
        repeat first|refine Wr ?_|refine Wb ?_|refine Wc ?_|refine Wd ?_|refine We ?_|refine Wf ?_|refine Wg ?_|refine Wh ?_|refine Wi ?_|refine Wj (by decide) ?_|refine Wa ?_|refine Wk ?_|refine Wl ?_|refine Wm ?_|refine Wn ?_|refine Wo ?_|refine Wp ?_|refine Wq ?_|refine Ww (by simp only[go_sem,e0,e1,e5,e6,intsV_length,hlt,hx,hp,hb,hw1,hw2,hw];done) ?_|((first|refine Ws ?_|refine Wt ?_|refine Wu ?_|refine Wv (by simp only[go_sem,e0,e1,e5,e6,intsV_length,hlt,hx,hp,hb,hw1,hw2,hw];done) ?_);conv=>arg 2;simp only[go_sem,e0,e1,e5,e6,intsV_length,hlt,hx,hp,hb,hw1,hw2,hw])|(refine Wx (by simp only[go_sem,e0,e1,e5,e6,intsV_length,hlt,hx,hp,hb,hw1,hw2,hw];rfl) (by simp only[go_sem,e0,e1,e5,e6,intsV_length,hlt,hx,hp,hb,hw1,hw2,hw];rfl) ?_;refine c51 _ _ _ ?_)
        refine ⟨r.length, hrm', a ++ [x], r, x + 1, hk1, by rw [har]; simp, rfl, ?_, ?_, ?_, ?_, hr, rfl⟩
        any_goals (simp only [go_sem, e0, e1, e5, e6, hw, hw2]; done)
      · rw [decide_eq_false hb, Bool.false_and] at hq
        repeat first|refine Wr ?_|refine Wb ?_|refine Wc ?_|refine Wd ?_|refine We ?_|refine Wf ?_|refine Wg ?_|refine Wh ?_|refine Wi ?_|refine Wj (by decide) ?_|refine Wa ?_|refine Wk ?_|refine Wl ?_|refine Wm ?_|refine Wn ?_|refine Wo ?_|refine Wp ?_|refine Wq ?_|refine Ww (by simp only[go_sem,e0,e1,e5,e6,intsV_length,hlt,hx,hp,hb,hw1];done) ?_|((first|refine Ws ?_|refine Wt ?_|refine Wu ?_|refine Wv (by simp only[go_sem,e0,e1,e5,e6,intsV_length,hlt,hx,hp,hb,hw1];done) ?_);conv=>arg 2;simp only[go_sem,e0,e1,e5,e6,intsV_length,hlt,hx,hp,hb,hw1])|(refine Wx (by simp only[go_sem,e0,e1,e5,e6,intsV_length,hlt,hx,hp,hb,hw1];rfl) (by simp only[go_sem,e0,e1,e5,e6,intsV_length,hlt,hx,hp,hb,hw1];rfl) ?_;refine c51 _ _ _ ?_)
        first|refine w_retQ ?_|refine w_endQ ?_
        conv=>arg 1;simp only[go_sem]
        exact w_res (by simp only [go_sem]) hq

theorem c44v {b : Book} {w : List Int} (hlen : (b.notes.length : Int) < 9223372036854775808) (hb : ok b) (hw : (wrongL b).getD [] = w) (hq : ∀ s', s ≤ s' → Q (.tup [.lst (intsV w) .any, .int 0]) s') : Call prog (.fn 44 [] []) [bookV b] s Q := by
  refine c44 b hlen fun l s' g1 g2 g3 => ?_
  rw [g1 hb, hw, if_pos hb]
  exact hq s' g3
theorem c44n {b : Book} (hlen : (b.notes.length : Int) < 9223372036854775808) (hb : ¬ ok b) (hq : ∀ s', s ≤ s' → Q (.tup [.lst (intsV []) .any, .int 30]) s') : Call prog (.fn 44 [] []) [bookV b] s Q := by
  refine c44 b hlen fun l s' g1 g2 g3 => ?_
  rw [g2 hb, if_neg hb]
  exact hq s' g3
theorem num_of' {y : List V} (h : Has [.int] y) : ∃ n : Int, wrap false y = .int n := by
  obtain ⟨_, _, rfl, ⟨n, _, rfl⟩, rfl⟩ := h
  exact ⟨n, rfl⟩
theorem choices_len : ∀ n < 9, (choices n).all (fun l => decide (l.length ≤ 8)) = true := by decide +kernel
theorem free_snoc (b : Book) (a : List Note) (y : Note) : ((a ++ [y]).filter fun n : Note => n.kind != 0 && n.kind != 4) = if y.kind != 0 && y.kind != 4 then (a.filter fun n : Note => n.kind != 0 && n.kind != 4) ++ [y] else a.filter fun n : Note => n.kind != 0 && n.kind != 4 := by
  rw [List.filter_append, List.filter_cons]
  split <;> simp

set_option maxRecDepth 20000 in
set_option maxHeartbeats 4000000 in
theorem pureWrong {y0 y1 : List V} (h0 : Has [.int, .int, .sl true [true, true, true, true]] y0) (h1 : Has [.int] y1) : Call prog (.fn 13 [] []) [wrap true y0, wrap false y1] (fun _ => none) fun v _ => v = .bool true := by
  obtain ⟨b, hb, hlen⟩ := book_of h0
  obtain ⟨k, hk⟩ := num_of' h1
  rw [hb, hk]
  refine Call.fn F13 p13 rfl ?_
  simp only [F13, bookV]
  have z0 : ((0 : Int) == 0) = true := rfl
  have z30 : ((30 : Int) == 30) = true := rfl
  by_cases hok : ok b
  · have h8 : b.notes.length < 9 := by have := hok.2.1; omega
    have hl60 : b.notes.length ≤ 60 := by omega
    have hn8 : 0 ≤ (b.notes.length : Int) ∧ (b.notes.length : Int) ≤ 1000 := by omega
    obtain ⟨hw1, hw2, hw3⟩ := wrong_first hok
    have hw4 := wrong_none hok
    generalize hwe : (wrongL b).getD [] = w at hw1 hw2 hw3 hw4
    have hw5 : riseB (b.notes.length : Int) 0 w = true := List.all_eq_true.1 (rise_all _ h8) w hw1
    have hw6 : w.length ≤ 8 := of_decide_eq_true (List.all_eq_true.1 (choices_len _ h8) w hw1)
    have hw7 : w.length ≤ 1000 := by omega
    obtain ⟨rb, hrb⟩ : ∃ r : Bool, r = true ↔ can b := by
      by_cases hc : can b
      · exact ⟨true, by simp [hc]⟩
      · exact ⟨false, by simp [hc]⟩
    have hrb' : ((w.length : Int) == 0) = rb := by
      rw [Bool.eq_iff_iff, hrb, ← hw4, beq_iff_eq]
      constructor
      · intro h
        exact List.eq_nil_of_length_eq_zero (by omega)
      · intro h
        rw [h]; rfl
    have hokw := withoutN_ok hok w
    have hlenw : ((withoutN b w).notes.length : Int) < 9223372036854775808 := by have := hokw.2.1; omega
    have hokf := freeN_ok hok
    have hlenf : ((freeN b).notes.length : Int) < 9223372036854775808 := by have := hokf.2.1; omega
    obtain ⟨N, hN⟩ : ∃ N, N = 2 ^ b.notes.length := ⟨_, rfl⟩
    have hN1 : 1 ≤ N := by rw [hN]; exact Nat.one_le_two_pow
    have hN2 : N ≤ 256 := by rw [hN]; exact Nat.pow_le_pow_right (by omega) (show b.notes.length ≤ 8 by omega)
    have hN3 : 1 ≤ (N : Int) ∧ (N : Int) ≤ 1000000 := ⟨Int.ofNat_le.2 hN1, Int.ofNat_le.2 (Nat.le_trans hN2 (by decide))⟩
    have hNi : (1 : Int) * 2 ^ b.notes.length = (N : Int) := by rw [hN]; simp
    have hn64 : 0 ≤ (b.notes.length : Int) ∧ (b.notes.length : Int) < 64 := by omega
    have hsh : w64 (1 * 2 ^ b.notes.length) = (N : Int) := by rw [hNi]; exact w64_id ⟨Int.le_trans (by decide) hN3.1, Int.lt_of_le_of_lt hN3.2 (by decide)⟩
    clear hNi
    repeat first|refine Wr ?_|refine Wb ?_|refine Wc ?_|refine Wd ?_|refine We ?_|refine Wf ?_|refine Wg ?_|refine Wh ?_|refine Wi ?_|refine Wj (by decide) ?_|refine Wa ?_|refine Wk ?_|refine Wl ?_|refine Wm ?_|refine Wn ?_|refine Wo ?_|refine Wp ?_|refine Wq ?_|refine Ww (by simp only[go_sem];done) ?_|((first|refine Ws ?_|refine Wt ?_|refine Wu ?_|refine Wv (by simp only[go_sem];done) ?_);conv=>arg 2;simp only[go_sem])
    refine w_call (by simp only [go_sem]; rfl) (by simp only [go_sem]; rfl) ?_
    refine c44v hlen hok hwe fun s1 g1 => ?_
    first|refine w_trimI [1,2,21] fun e he => ?_|refine w_trimR [1,2,21] fun e he => ?_|refine w_trimS [1,2,21] fun e he => ?_
    simp only[w_map1,w_map0,List.cons.injEq,go_sem] at he
    obtain ⟨e1,e2,e21⟩ := he
    repeat first|refine Wr ?_|refine Wb ?_|refine Wc ?_|refine Wd ?_|refine We ?_|refine Wf ?_|refine Wg ?_|refine Wh ?_|refine Wi ?_|refine Wj (by decide) ?_|refine Wa ?_|refine Wk ?_|refine Wl ?_|refine Wm ?_|refine Wn ?_|refine Wo ?_|refine Wp ?_|refine Wq ?_|refine Ww (by simp only[go_sem,hok,e1,e2,e21];done) ?_|((first|refine Ws ?_|refine Wt ?_|refine Wu ?_|refine Wv (by simp only[go_sem,hok,e1,e2,e21];done) ?_);conv=>arg 2;simp only[go_sem,hok,e1,e2,e21])|(refine Wx (by simp only[go_sem,hok,e1,e2,e21];rfl) (by simp only[go_sem,hok,e1,e2,e21];rfl) ?_;refine c47 b hlen ?_)
    refine w_call (by simp only [go_sem, e2]; rfl) (by simp only [go_sem, e2]; rfl) ?_
    refine c27v hlen hok hrb fun s2 g2 => ?_
    first|refine w_trimI [1,2,5,6,39] fun e he => ?_|refine w_trimR [1,2,5,6,39] fun e he => ?_|refine w_trimS [1,2,5,6,39] fun e he => ?_
    simp only[w_map1,w_map0,List.cons.injEq,go_sem,e1, e2, e21] at he
    obtain ⟨e1,e2,e5,e6,e39⟩ := he
    repeat first|refine Wr ?_|refine Wb ?_|refine Wc ?_|refine Wd ?_|refine We ?_|refine Wf ?_|refine Wg ?_|refine Wh ?_|refine Wi ?_|refine Wj (by decide) ?_|refine Wa ?_|refine Wk ?_|refine Wl ?_|refine Wm ?_|refine Wn ?_|refine Wo ?_|refine Wp ?_|refine Wq ?_|refine Ww (by simp only[go_sem,z0,hw5,hrb',intsV_length,notesV_length,e1,e2,e5,e6,e39,bne_self_eq_false];done) ?_|((first|refine Ws ?_|refine Wt ?_|refine Wu ?_|refine Wv (by simp only[go_sem,z0,hw5,hrb',intsV_length,notesV_length,e1,e2,e5,e6,e39,bne_self_eq_false];done) ?_);conv=>arg 2;simp only[go_sem,z0,hw5,hrb',intsV_length,notesV_length,e1,e2,e5,e6,e39,bne_self_eq_false])|(refine Wx (by simp only[go_sem,z0,hw5,hrb',intsV_length,notesV_length,e1,e2,e5,e6,e39,bne_self_eq_false];rfl) (by simp only[go_sem,z0,hw5,hrb',intsV_length,notesV_length,e1,e2,e5,e6,e39,bne_self_eq_false];rfl) ?_;refine c61 w _ hw7 hn8 ?_)
    refine w_call (by simp only [go_sem, e2, e5]; rfl) (by simp only [go_sem, e2, e5]; rfl) ?_
    refine c71 b w hw7 hl60 fun s3 g3 => ?_
    first|refine w_trimI [1,2,5,66] fun e he => ?_|refine w_trimR [1,2,5,66] fun e he => ?_|refine w_trimS [1,2,5,66] fun e he => ?_
    simp only[w_map1,w_map0,List.cons.injEq,go_sem,e1, e2, e5] at he
    obtain ⟨e1,e2,e5,e66⟩ := he
    simp only [bookV] at e66
    repeat first|refine Wr ?_|refine Wb ?_|refine Wc ?_|refine Wd ?_|refine We ?_|refine Wf ?_|refine Wg ?_|refine Wh ?_|refine Wi ?_|refine Wj (by decide) ?_|refine Wa ?_|refine Wk ?_|refine Wl ?_|refine Wm ?_|refine Wn ?_|refine Wo ?_|refine Wp ?_|refine Wq ?_|refine Ww (by simp only[go_sem,e1,e2,e5,e66];done) ?_|((first|refine Ws ?_|refine Wt ?_|refine Wu ?_|refine Wv (by simp only[go_sem,e1,e2,e5,e66];done) ?_);conv=>arg 2;simp only[go_sem,e1,e2,e5,e66])
    refine w_call (by simp only [go_sem, e66]; rfl) (by simp only [go_sem, e66]; rfl) ?_
    refine c27v (b := withoutN b w) (r := true) hlenw hokw (by simp only [hw2]) fun s4 g4 => ?_
    first|refine w_trimI [1,2,5,67] fun e he => ?_|refine w_trimR [1,2,5,67] fun e he => ?_|refine w_trimS [1,2,5,67] fun e he => ?_
    simp only[w_map1,w_map0,List.cons.injEq,go_sem,e1, e2, e5] at he
    obtain ⟨e1,e2,e5,e67⟩ := he
    repeat first|refine Wr ?_|refine Wb ?_|refine Wc ?_|refine Wd ?_|refine We ?_|refine Wf ?_|refine Wg ?_|refine Wh ?_|refine Wi ?_|refine Wj (by decide) ?_|refine Wa ?_|refine Wk ?_|refine Wl ?_|refine Wm ?_|refine Wn ?_|refine Wo ?_|refine Wp ?_|refine Wq ?_|refine Ww (by simp only[go_sem,z0,e1,e2,e5,e67,bne_self_eq_false];done) ?_|((first|refine Ws ?_|refine Wt ?_|refine Wu ?_|refine Wv (by simp only[go_sem,z0,e1,e2,e5,e67,bne_self_eq_false];done) ?_);conv=>arg 2;simp only[go_sem,z0,e1,e2,e5,e67,bne_self_eq_false])
    refine w_iter (fun n e s' => ∃ (a r : List Note) (c : Cap), b.notes = a ++ r ∧ r.length = n ∧ e 1 = .int k ∧ e 2 = .agg [.int b.lo, .int b.hi, .lst (notesV b.notes) .any] ∧ e 5 = .lst (intsV w) .any ∧ e 11 = .agg [.int b.lo, .int b.hi, .lst (notesV (a.filter fun n => n.kind != 0 && n.kind != 4)) c] ∧ e 12 = .int a.length ∧ Gro s4 s' c (a.filter fun n => n.kind != 0 && n.kind != 4).length) b.notes.length ?_ ?_
    · refine ⟨[], b.notes, .exact, rfl, rfl, ?_, ?_, ?_, ?_, ?_, Gro.start⟩
      any_goals (simp only [go_sem, e1, e2, e5, List.length_nil, Int.natCast_zero]; done)
      all_goals (simp only [go_sem]; rfl)
    · clear e1 e2 e5 e67
      rintro n e s' ⟨a, r, c, har, hrn, e1, e2, e5, e11, e12, hg⟩
      cases r with
      | nil =>
        have hna : b.notes = a := by simpa using har
        have hlt : ¬ ((a.length : Int) < (b.notes.length : Int)) := by rw [hna]; omega
        rw [← hna] at e11
        have e11 : e 11 = .agg [.int (freeN b).lo, .int (freeN b).hi, .lst (notesV (freeN b).notes) c] := e11
        repeat first|refine Wr ?_|refine Wb ?_|refine Wc ?_|refine Wd ?_|refine We ?_|refine Wf ?_|refine Wg ?_|refine Wh ?_|refine Wi ?_|refine Wj (by decide) ?_|refine Wa ?_|refine Wk ?_|refine Wl ?_|refine Wm ?_|refine Wn ?_|refine Wo ?_|refine Wp ?_|refine Wq ?_|refine Ww (by simp only[go_sem,e1,e2,e5,e11,e12,notesV_length,hlt];done) ?_|((first|refine Ws ?_|refine Wt ?_|refine Wu ?_|refine Wv (by simp only[go_sem,e1,e2,e5,e11,e12,notesV_length,hlt];done) ?_);conv=>arg 2;simp only[go_sem,e1,e2,e5,e11,e12,notesV_length,hlt])
        refine w_call (by simp only [go_sem, e11]; rfl) (by simp only [go_sem, e11]; rfl) ?_
        refine c27v (b := freeN b) (r := true) hlenf hokf (by simp only [freeN_can hok]) fun s5 g5 => ?_
        first|refine w_trimI [1,2,5,109] fun e he => ?_|refine w_trimR [1,2,5,109] fun e he => ?_|refine w_trimS [1,2,5,109] fun e he => ?_
        simp only[w_map1,w_map0,List.cons.injEq,go_sem,e1, e2, e5] at he
        obtain ⟨e1,e2,e5,e109⟩ := he
        repeat first|refine Wr ?_|refine Wb ?_|refine Wc ?_|refine Wd ?_|refine We ?_|refine Wf ?_|refine Wg ?_|refine Wh ?_|refine Wi ?_|refine Wj (by decide) ?_|refine Wa ?_|refine Wk ?_|refine Wl ?_|refine Wm ?_|refine Wn ?_|refine Wo ?_|refine Wp ?_|refine Wq ?_|refine Ww (by simp only[go_sem,z0,notesV_length,hn64,hsh,Int.toNat_natCast,e1,e2,e5,e109,bne_self_eq_false];done) ?_|((first|refine Ws ?_|refine Wt ?_|refine Wu ?_|refine Wv (by simp only[go_sem,z0,notesV_length,hn64,hsh,Int.toNat_natCast,e1,e2,e5,e109,bne_self_eq_false];done) ?_);conv=>arg 2;simp only[go_sem,z0,notesV_length,hn64,hsh,Int.toNat_natCast,e1,e2,e5,e109,bne_self_eq_false])
        refine w_call (by simp only [go_sem, hsh, e1]; rfl) (by simp only [go_sem, hsh, e1]; rfl) ?_
        refine c50' k N hN3.1 hN3.2 fun q hq => ?_
        obtain ⟨t, rfl⟩ : ∃ t : Nat, q = (t : Int) := ⟨q.toNat, by omega⟩
        have ht : t < 2 ^ b.notes.length := by rw [← hN]; exact Int.ofNat_lt.1 hq.2
        have hol : (bitsL t b.notes.length).length ≤ 1000 := by have := bitsL_len t b.notes.length; omega
        first|refine w_trimI [2,5,123] fun e he => ?_|refine w_trimR [2,5,123] fun e he => ?_|refine w_trimS [2,5,123] fun e he => ?_
        simp only[w_map1,w_map0,List.cons.injEq,go_sem,e2, e5] at he
        obtain ⟨e2,e5,e123⟩ := he
        repeat first|refine Wr ?_|refine Wb ?_|refine Wc ?_|refine Wd ?_|refine We ?_|refine Wf ?_|refine Wg ?_|refine Wh ?_|refine Wi ?_|refine Wj (by decide) ?_|refine Wa ?_|refine Wk ?_|refine Wl ?_|refine Wm ?_|refine Wn ?_|refine Wo ?_|refine Wp ?_|refine Wq ?_|refine Ww (by simp only[go_sem,notesV_length,e2,e5,e123];done) ?_|((first|refine Ws ?_|refine Wt ?_|refine Wu ?_|refine Wv (by simp only[go_sem,notesV_length,e2,e5,e123];done) ?_);conv=>arg 2;simp only[go_sem,notesV_length,e2,e5,e123])
        refine w_call (by simp only [go_sem, e123]; rfl) (by simp only [go_sem, e123]; rfl) ?_
        refine c72 t b.notes.length hl60 fun s6 g6 => ?_
        first|refine w_trimI [2,5,127] fun e he => ?_|refine w_trimR [2,5,127] fun e he => ?_|refine w_trimS [2,5,127] fun e he => ?_
        simp only[w_map1,w_map0,List.cons.injEq,go_sem,e2, e5] at he
        obtain ⟨e2,e5,e127⟩ := he
        cases hfw : fewB (bitsL t b.notes.length) w with
        | false =>
          repeat first|refine Wr ?_|refine Wb ?_|refine Wc ?_|refine Wd ?_|refine We ?_|refine Wf ?_|refine Wg ?_|refine Wh ?_|refine Wi ?_|refine Wj (by decide) ?_|refine Wa ?_|refine Wk ?_|refine Wl ?_|refine Wm ?_|refine Wn ?_|refine Wo ?_|refine Wp ?_|refine Wq ?_|refine Ww (by simp only[go_sem,hfw,e2,e5,e127];done) ?_|((first|refine Ws ?_|refine Wt ?_|refine Wu ?_|refine Wv (by simp only[go_sem,hfw,e2,e5,e127];done) ?_);conv=>arg 2;simp only[go_sem,hfw,e2,e5,e127])|(refine Wx (by simp only[go_sem,hfw,e2,e5,e127];rfl) (by simp only[go_sem,hfw,e2,e5,e127];rfl) ?_;first|refine c73 _ _ hol hw7 ?_|refine c37 fun s7 g7 => ?_)
          first|refine w_retQ ?_|refine w_endQ ?_
          conv=>arg 1;simp only[go_sem]
          exact w_res (v := .bool true) (by simp only [go_sem]) rfl
        | true =>
          have hnc : ¬ can (withoutN b (bitsL t b.notes.length)) := fun h => by
            have := hw3 t ht h
            rw [hfw] at this
            cases this
          have hoko := withoutN_ok hok (bitsL t b.notes.length)
          have hleno : ((withoutN b (bitsL t b.notes.length)).notes.length : Int) < 9223372036854775808 := by have := hoko.2.1; omega
          repeat first|refine Wr ?_|refine Wb ?_|refine Wc ?_|refine Wd ?_|refine We ?_|refine Wf ?_|refine Wg ?_|refine Wh ?_|refine Wi ?_|refine Wj (by decide) ?_|refine Wa ?_|refine Wk ?_|refine Wl ?_|refine Wm ?_|refine Wn ?_|refine Wo ?_|refine Wp ?_|refine Wq ?_|refine Ww (by simp only[go_sem,hfw,e2,e5,e127];done) ?_|((first|refine Ws ?_|refine Wt ?_|refine Wu ?_|refine Wv (by simp only[go_sem,hfw,e2,e5,e127];done) ?_);conv=>arg 2;simp only[go_sem,hfw,e2,e5,e127])|(refine Wx (by simp only[go_sem,hfw,e2,e5,e127];rfl) (by simp only[go_sem,hfw,e2,e5,e127];rfl) ?_;refine c73 _ _ hol hw7 ?_)
          refine w_call (by simp only [go_sem, e2]; rfl) (by simp only [go_sem, e2]; rfl) ?_
          refine c71 b (bitsL t b.notes.length) hol hl60 fun s7 g7 => ?_
          first|refine w_trimI [2,136] fun e he => ?_|refine w_trimR [2,136] fun e he => ?_|refine w_trimS [2,136] fun e he => ?_
          simp only[w_map1,w_map0,List.cons.injEq,go_sem,e2] at he
          obtain ⟨e2,e136⟩ := he
          simp only [bookV] at e136
          repeat first|refine Wr ?_|refine Wb ?_|refine Wc ?_|refine Wd ?_|refine We ?_|refine Wf ?_|refine Wg ?_|refine Wh ?_|refine Wi ?_|refine Wj (by decide) ?_|refine Wa ?_|refine Wk ?_|refine Wl ?_|refine Wm ?_|refine Wn ?_|refine Wo ?_|refine Wp ?_|refine Wq ?_|refine Ww (by simp only[go_sem,e136];done) ?_|((first|refine Ws ?_|refine Wt ?_|refine Wu ?_|refine Wv (by simp only[go_sem,e136];done) ?_);conv=>arg 2;simp only[go_sem,e136])
          refine w_call (by simp only [go_sem, e136]; rfl) (by simp only [go_sem, e136]; rfl) ?_
          refine c27v (b := withoutN b (bitsL t b.notes.length)) (r := false) hleno hoko ⟨fun h => (by cases h), fun h => absurd h hnc⟩ fun s8 g8 => ?_
          first|refine w_trimI [2,137] fun e he => ?_|refine w_trimR [2,137] fun e he => ?_|refine w_trimS [2,137] fun e he => ?_
          simp only[w_map1,w_map0,List.cons.injEq,go_sem,e2] at he
          obtain ⟨e2,e137⟩ := he
          repeat first|refine Wr ?_|refine Wb ?_|refine Wc ?_|refine Wd ?_|refine We ?_|refine Wf ?_|refine Wg ?_|refine Wh ?_|refine Wi ?_|refine Wj (by decide) ?_|refine Wa ?_|refine Wk ?_|refine Wl ?_|refine Wm ?_|refine Wn ?_|refine Wo ?_|refine Wp ?_|refine Wq ?_|refine Ww (by simp only[go_sem,z0,e137];done) ?_|((first|refine Ws ?_|refine Wt ?_|refine Wu ?_|refine Wv (by simp only[go_sem,z0,e137];done) ?_);conv=>arg 2;simp only[go_sem,z0,e137])|(refine Wx (by simp only[go_sem,z0,e137];rfl) (by simp only[go_sem,z0,e137];rfl) ?_;refine c37 fun s9 g9 => ?_)
          first|refine w_retQ ?_|refine w_endQ ?_
          conv=>arg 1;simp only[go_sem]
          exact w_res (v := .bool true) (by simp only [go_sem]) rfl
      | cons y r =>
        have hlt : ((a.length : Int) < (b.notes.length : Int)) := by rw [har]; simp; omega
        have hy : (notesV b.notes)[((a.length : Int)).toNat]? = some (.agg [.int y.kind, .int y.hour, .int y.lo, .int y.hi]) := by rw [har]; exact notesV_at
        have hp := len_nonneg a
        have hal : a.length + 1 ≤ b.notes.length := by rw [har]; simp
        have hrn' : r.length < n := by simp at hrn; omega
        have hfl := List.length_filter_le (fun n : Note => n.kind != 0 && n.kind != 4) a
        have hmax : (notesV (a.filter fun n => n.kind != 0 && n.kind != 4)).length + 1 ≤ maxLst := by rw [notesV_length]; simp only [maxLst]; omega
        have hw : w64 ((a.length : Int) + 1) = (a ++ [y]).length := by rw [w64_id (by omega)]; simp
        have hsn := free_snoc b a y
        by_cases k0 : y.kind = 0
        · have k0' : (y.kind == 0) = true := by simpa using k0
          rw [if_neg (by simp [k0])] at hsn
          repeat first|refine Wr ?_|refine Wb ?_|refine Wc ?_|refine Wd ?_|refine We ?_|refine Wf ?_|refine Wg ?_|refine Wh ?_|refine Wi ?_|refine Wj (by decide) ?_|refine Wa ?_|refine Wk ?_|refine Wl ?_|refine Wm ?_|refine Wn ?_|refine Wo ?_|refine Wp ?_|refine Wq ?_|refine Ww (by simp only[go_sem,e1,e2,e5,e11,e12,notesV_length,hlt,hy,hp,k0',hw];done) ?_|((first|refine Ws ?_|refine Wt ?_|refine Wu ?_|refine Wv (by simp only[go_sem,e1,e2,e5,e11,e12,notesV_length,hlt,hy,hp,k0',hw];done) ?_);conv=>arg 2;simp only[go_sem,e1,e2,e5,e11,e12,notesV_length,hlt,hy,hp,k0',hw])
          refine ⟨r.length, hrn', a ++ [y], r, c, by rw [har]; simp, rfl, ?_, ?_, ?_, ?_, ?_, by rw [hsn]; exact hg⟩
          any_goals (simp only [go_sem, e1, e2, e5, e11, e12, hw, hsn]; done)
        · have k0' : (y.kind == 0) = false := by simpa using k0
          by_cases k4 : y.kind = 4
          · have k4' : (y.kind == 4) = true := by simpa using k4
            rw [if_neg (by simp [k4])] at hsn
            repeat first|refine Wr ?_|refine Wb ?_|refine Wc ?_|refine Wd ?_|refine We ?_|refine Wf ?_|refine Wg ?_|refine Wh ?_|refine Wi ?_|refine Wj (by decide) ?_|refine Wa ?_|refine Wk ?_|refine Wl ?_|refine Wm ?_|refine Wn ?_|refine Wo ?_|refine Wp ?_|refine Wq ?_|refine Ww (by simp only[go_sem,e1,e2,e5,e11,e12,notesV_length,hlt,hy,hp,k0',k4',hw];done) ?_|((first|refine Ws ?_|refine Wt ?_|refine Wu ?_|refine Wv (by simp only[go_sem,e1,e2,e5,e11,e12,notesV_length,hlt,hy,hp,k0',k4',hw];done) ?_);conv=>arg 2;simp only[go_sem,e1,e2,e5,e11,e12,notesV_length,hlt,hy,hp,k0',k4',hw])
            refine ⟨r.length, hrn', a ++ [y], r, c, by rw [har]; simp, rfl, ?_, ?_, ?_, ?_, ?_, by rw [hsn]; exact hg⟩
            any_goals (simp only [go_sem, e1, e2, e5, e11, e12, hw, hsn]; done)
          · have k4' : (y.kind == 4) = false := by simpa using k4
            rw [if_pos (by simp [k0, k4])] at hsn
            repeat first|refine Wr ?_|refine Wb ?_|refine Wc ?_|refine Wd ?_|refine We ?_|refine Wf ?_|refine Wg ?_|refine Wh ?_|refine Wi ?_|refine Wj (by decide) ?_|refine Wa ?_|refine Wk ?_|refine Wl ?_|refine Wm ?_|refine Wn ?_|refine Wo ?_|refine Wp ?_|refine Wq ?_|refine Ww (by simp only[go_sem,e1,e2,e5,e11,e12,notesV_length,hlt,hy,hp,k0',k4'];done) ?_|((first|refine Ws ?_|refine Wt ?_|refine Wu ?_|refine Wv (by simp only[go_sem,e1,e2,e5,e11,e12,notesV_length,hlt,hy,hp,k0',k4'];done) ?_);conv=>arg 2;simp only[go_sem,e1,e2,e5,e11,e12,notesV_length,hlt,hy,hp,k0',k4'])
            refine w_append1 (xs := notesV (a.filter fun n => n.kind != 0 && n.kind != 4)) (y := .agg [.int y.kind, .int y.hour, .int y.lo, .int y.hi]) (c := c) rfl (by simp only [go_sem, e11] <;> rfl) (by simp only [go_sem] <;> rfl) hmax (hd_notes _) rfl rfl (by rw [notesV_length]; exact hg.room) fun c' s5 g => ?_
            rw [notesV_length] at g
            repeat first|refine Wr ?_|refine Wb ?_|refine Wc ?_|refine Wd ?_|refine We ?_|refine Wf ?_|refine Wg ?_|refine Wh ?_|refine Wi ?_|refine Wj (by decide) ?_|refine Wa ?_|refine Wk ?_|refine Wl ?_|refine Wm ?_|refine Wn ?_|refine Wo ?_|refine Wp ?_|refine Wq ?_|refine Ww (by simp only[go_sem,e1,e2,e5,e11,e12,hw];done) ?_|((first|refine Ws ?_|refine Wt ?_|refine Wu ?_|refine Wv (by simp only[go_sem,e1,e2,e5,e11,e12,hw];done) ?_);conv=>arg 2;simp only[go_sem,e1,e2,e5,e11,e12,hw])
            refine ⟨r.length, hrn', a ++ [y], r, c', by rw [har]; simp, rfl, ?_, ?_, ?_, ?_, ?_, by rw [hsn]; simpa using hg.step g⟩
            any_goals (simp only [go_sem, e1, e2, e5, e11, e12, hw]; done)
            rw [hsn, notesV_append]
            simp only [go_sem]; rfl
  · repeat first|refine Wr ?_|refine Wb ?_|refine Wc ?_|refine Wd ?_|refine We ?_|refine Wf ?_|refine Wg ?_|refine Wh ?_|refine Wi ?_|refine Wj (by decide) ?_|refine Wa ?_|refine Wk ?_|refine Wl ?_|refine Wm ?_|refine Wn ?_|refine Wo ?_|refine Wp ?_|refine Wq ?_|refine Ww (by simp only[go_sem];done) ?_|((first|refine Ws ?_|refine Wt ?_|refine Wu ?_|refine Wv (by simp only[go_sem];done) ?_);conv=>arg 2;simp only[go_sem])
    refine w_call (by simp only [go_sem]; rfl) (by simp only [go_sem]; rfl) ?_
    refine c44n hlen hok fun s1 g1 => ?_
    first|refine w_trimI [2,21] fun e he => ?_|refine w_trimR [2,21] fun e he => ?_|refine w_trimS [2,21] fun e he => ?_
    simp only[w_map1,w_map0,List.cons.injEq,go_sem] at he
    obtain ⟨e2,e21⟩ := he
    repeat first|refine Wr ?_|refine Wb ?_|refine Wc ?_|refine Wd ?_|refine We ?_|refine Wf ?_|refine Wg ?_|refine Wh ?_|refine Wi ?_|refine Wj (by decide) ?_|refine Wa ?_|refine Wk ?_|refine Wl ?_|refine Wm ?_|refine Wn ?_|refine Wo ?_|refine Wp ?_|refine Wq ?_|refine Ww (by simp only[go_sem,hok,z0,z30,intsV_length,List.length_nil,Int.natCast_zero,e2,e21];done) ?_|((first|refine Ws ?_|refine Wt ?_|refine Wu ?_|refine Wv (by simp only[go_sem,hok,z0,z30,intsV_length,List.length_nil,Int.natCast_zero,e2,e21];done) ?_);conv=>arg 2;simp only[go_sem,hok,z0,z30,intsV_length,List.length_nil,Int.natCast_zero,e2,e21])|(refine Wx (by simp only[go_sem,hok,z0,z30,intsV_length,List.length_nil,Int.natCast_zero,e2,e21];rfl) (by simp only[go_sem,hok,z0,z30,intsV_length,List.length_nil,Int.natCast_zero,e2,e21];rfl) ?_;first|refine c47 b hlen ?_|refine c37 fun s2 g2 => ?_)
    first|refine w_retQ ?_|refine w_endQ ?_
    conv=>arg 1;simp only[go_sem]
    exact w_res (v := .bool true) (by simp only [go_sem]) rfl
end Go.Hu.Sn
