/-
  The pure code is what the functions of the translation are compiled to: closed facts.
-/
import Derived.Test.YtdpjoppdlhfidaaDoorRows
import Derived.Test.YtdpjoppdlhfidaaDoorTa
import Derived.Test.YtdpjoppdlhfidaaDoorMc
import Derived.Test.YtdpjoppdlhfidaaDoorCards
import Derived.Test.YtdpjoppdlhfidaaDoorTie
import Derived.Stop.Joined
import Derived.Test.YtdpjoppdlhfidaaDoorG
import Derived.Test.YtdpjoppdlhfidaaDoorTb
import Derived.Test.YtdpjoppdlhfidaaDoorTc
namespace Go.Proofs.YtdpjoppdlhfidaaDoor
open Go.Hu

noncomputable def X : Ctx := { P := Tryd.prog, nm := some, gl := fun g => if g = 0 then some [.int 400, .int 9, .int 0, .int 400, .int 400] else if g = 4 then some [.fn 323 [] [], .fn 324 [] [], .fn 325 [] [], .fn 326 [] [], .fn 327 [] []] else none }
theorem follows : X.P.follows .mixedOrders = true := by kernel_rfl
def Good (p : Nat × PFunc) : Prop := ∃ fn h, X.P.funcs[p.1]? = some fn ∧ (fn.name == "runtime.NumGoroutine") = false ∧ compileF X h fn = some p.2
theorem good3 : Good (3, Hu.Sn.F3) := ⟨Tryd.f3, ⟨[2, 3, 9, 10], [], false, [], [], []⟩, Tryd.func3, by kernel_rfl, by kernel_rfl⟩
theorem good4 : Good (4, Hu.Sn.F4) := ⟨Tryd.f4, ⟨[2, 3, 9, 10], [], false, [], [], []⟩, Tryd.func4, by kernel_rfl, by kernel_rfl⟩
theorem good5 : Good (5, Hu.Sn.F5) := ⟨Tryd.f5, ⟨[1], [], false, [], [], []⟩, Tryd.func5, by kernel_rfl, by kernel_rfl⟩
theorem good6 : Good (6, Hu.Sn.F6) := ⟨Tryd.f6, ⟨[3, 7, 8, 14, 19, 21], [], false, [], [], []⟩, Tryd.func6, by kernel_rfl, by kernel_rfl⟩
theorem good7 : Good (7, Hu.Sn.F7) := ⟨Tryd.f7, ⟨[2, 3, 6, 8], [], false, [], [], []⟩, Tryd.func7, by kernel_rfl, by kernel_rfl⟩
theorem good27 : Good (27, Hu.Sn.F27) := ⟨Tryd.f27, ⟨[1], [], false, [], [], []⟩, Tryd.func27, by kernel_rfl, by kernel_rfl⟩
theorem good29 : Good (29, Hu.Sn.F29) := ⟨Tryd.f29, ⟨[1, 6], [], false, [], [], []⟩, Tryd.func29, by kernel_rfl, by kernel_rfl⟩
theorem good30 : Good (30, Hu.Sn.F30) := ⟨Tryd.f30, ⟨[1], [], false, [], [], []⟩, Tryd.func30, by kernel_rfl, by kernel_rfl⟩
theorem good31 : Good (31, Hu.Sn.F31) := ⟨Tryd.f31, ⟨[3, 5, 8, 10], [], false, [], [], []⟩, Tryd.func31, by kernel_rfl, by kernel_rfl⟩
theorem good33 : Good (33, Hu.Sn.F33) := ⟨Tryd.f33, ⟨[2, 4, 6], [], false, [], [], []⟩, Tryd.func33, by kernel_rfl, by kernel_rfl⟩
theorem good35 : Good (35, Hu.Sn.F35) := ⟨Tryd.f35, ⟨[2, 4, 6], [], false, [], [], []⟩, Tryd.func35, by kernel_rfl, by kernel_rfl⟩
theorem good37 : Good (37, Hu.Sn.F37) := ⟨Tryd.f37, ⟨[1, 3, 12, 13], [], false, [], [], []⟩, Tryd.func37, by kernel_rfl, by kernel_rfl⟩
theorem good38 : Good (38, Hu.Sn.F38) := ⟨Tryd.f38, ⟨[1, 4], [], false, [], [], []⟩, Tryd.func38, by kernel_rfl, by kernel_rfl⟩
theorem good40 : Good (40, Hu.Sn.F40) := ⟨Tryd.f40, ⟨[1, 2, 4, 9], [], false, [], [], []⟩, Tryd.func40, by kernel_rfl, by kernel_rfl⟩
theorem good42 : Good (42, Hu.Sn.F42) := ⟨Tryd.f42, ⟨[2, 3, 8], [], false, [], [(10, false, 8, (some 2), 4, (some 4))], []⟩, Tryd.func42, by kernel_rfl, by kernel_rfl⟩
theorem good44 : Good (44, Hu.Sn.F44) := ⟨Tryd.f44, ⟨[], [1], false, [], [], []⟩, Tryd.func44, by kernel_rfl, by kernel_rfl⟩
theorem good46 : Good (46, Hu.Sn.F46) := ⟨Tryd.f46, ⟨[], [], false, [], [], []⟩, Tryd.func46, by kernel_rfl, by kernel_rfl⟩
theorem good47 : Good (47, Hu.Sn.F47) := ⟨Tryd.f47, ⟨[1, 6], [], false, [], [], []⟩, Tryd.func47, by kernel_rfl, by kernel_rfl⟩
theorem good48 : Good (48, Hu.Sn.F48) := ⟨Tryd.f48, ⟨[2, 4, 5, 6, 7, 12], [], false, [], [], []⟩, Tryd.func48, by kernel_rfl, by kernel_rfl⟩
theorem good49 : Good (49, Hu.Sn.F49) := ⟨Tryd.f49, ⟨[2], [], false, [], [], []⟩, Tryd.func49, by kernel_rfl, by kernel_rfl⟩
theorem good50 : Good (50, Hu.Sn.F50) := ⟨Tryd.f50, ⟨[], [], false, [], [], []⟩, Tryd.func50, by kernel_rfl, by kernel_rfl⟩
theorem good51 : Good (51, Hu.Sn.F51) := ⟨Tryd.f51, ⟨[], [], false, [], [], []⟩, Tryd.func51, by kernel_rfl, by kernel_rfl⟩
theorem good52 : Good (52, Hu.Sn.F52) := ⟨Tryd.f52, ⟨[2], [], false, [], [], []⟩, Tryd.func52, by kernel_rfl, by kernel_rfl⟩
theorem good53 : Good (53, Hu.Sn.F53) := ⟨Tryd.f53, ⟨[5, 6], [], false, [], [], []⟩, Tryd.func53, by kernel_rfl, by kernel_rfl⟩
theorem good54 : Good (54, Hu.Sn.F54) := ⟨Tryd.f54, ⟨[3], [], false, [], [], []⟩, Tryd.func54, by kernel_rfl, by kernel_rfl⟩
theorem good68 : Good (68, Hu.Sn.F68) := ⟨Tryd.f68, ⟨[4], [], false, [], [], []⟩, Tryd.func68, by kernel_rfl, by kernel_rfl⟩
theorem good72 : Good (72, Hu.Sn.F72) := ⟨Tryd.f72, ⟨[], [], false, [], [], []⟩, Tryd.func72, by kernel_rfl, by kernel_rfl⟩
theorem good73 : Good (73, Hu.Sn.F73) := ⟨Tryd.f73, ⟨[], [], false, [], [], []⟩, Tryd.func73, by kernel_rfl, by kernel_rfl⟩
theorem good74 : Good (74, Hu.Sn.F74) := ⟨Tryd.f74, ⟨[2], [], false, [], [], []⟩, Tryd.func74, by kernel_rfl, by kernel_rfl⟩
theorem good75 : Good (75, Hu.Sn.F75) := ⟨Tryd.f75, ⟨[0], [], false, [], [], []⟩, Tryd.func75, by kernel_rfl, by kernel_rfl⟩
theorem good76 : Good (76, Hu.Sn.F76) := ⟨Tryd.f76, ⟨[0], [], false, [], [], []⟩, Tryd.func76, by kernel_rfl, by kernel_rfl⟩
theorem good101 : Good (101, Hu.Sn.F101) := ⟨Tryd.f101, ⟨[], [], false, [], [], []⟩, Tryd.func101, by kernel_rfl, by kernel_rfl⟩
theorem good104 : Good (104, Hu.Sn.F104) := ⟨Tryd.f104, ⟨[2], [], false, [], [], []⟩, Tryd.func104, by kernel_rfl, by kernel_rfl⟩
theorem good110 : Good (110, Hu.Sn.F110) := ⟨Tryd.f110, ⟨[1, 2, 3, 5], [], false, [], [], []⟩, Tryd.func110, by kernel_rfl, by kernel_rfl⟩
theorem good111 : Good (111, Hu.Sn.F111) := ⟨Tryd.f111, ⟨[1], [], false, [], [], []⟩, Tryd.func111, by kernel_rfl, by kernel_rfl⟩
theorem good113 : Good (113, Hu.Sn.F113) := ⟨Tryd.f113, ⟨[2], [], false, [], [], []⟩, Tryd.func113, by kernel_rfl, by kernel_rfl⟩
theorem good114 : Good (114, Hu.Sn.F114) := ⟨Tryd.f114, ⟨[1], [], false, [], [], []⟩, Tryd.func114, by kernel_rfl, by kernel_rfl⟩
theorem good115 : Good (115, Hu.Sn.F115) := ⟨Tryd.f115, ⟨[1], [], false, [], [], []⟩, Tryd.func115, by kernel_rfl, by kernel_rfl⟩
theorem good116 : Good (116, Hu.Sn.F116) := ⟨Tryd.f116, ⟨[2, 4, 7], [], false, [], [], []⟩, Tryd.func116, by kernel_rfl, by kernel_rfl⟩
theorem good117 : Good (117, Hu.Sn.F117) := ⟨Tryd.f117, ⟨[], [], false, [], [], []⟩, Tryd.func117, by kernel_rfl, by kernel_rfl⟩
theorem good118 : Good (118, Hu.Sn.F118) := ⟨Tryd.f118, ⟨[], [], false, [], [], []⟩, Tryd.func118, by kernel_rfl, by kernel_rfl⟩
theorem good119 : Good (119, Hu.Sn.F119) := ⟨Tryd.f119, ⟨[], [2, 3], false, [], [], []⟩, Tryd.func119, by kernel_rfl, by kernel_rfl⟩
theorem good122 : Good (122, Hu.Sn.F122) := ⟨Tryd.f122, ⟨[3, 5, 6, 8], [], false, [], [], []⟩, Tryd.func122, by kernel_rfl, by kernel_rfl⟩
theorem good123 : Good (123, Hu.Sn.F123) := ⟨Tryd.f123, ⟨[0], [], false, [], [], []⟩, Tryd.func123, by kernel_rfl, by kernel_rfl⟩
theorem good126 : Good (126, Hu.Sn.F126) := ⟨Tryd.f126, ⟨[0], [], false, [], [], []⟩, Tryd.func126, by kernel_rfl, by kernel_rfl⟩
theorem good128 : Good (128, Hu.Sn.F128) := ⟨Tryd.f128, ⟨[9], [], false, [], [], []⟩, Tryd.func128, by kernel_rfl, by kernel_rfl⟩
theorem good129 : Good (129, Hu.Sn.F129) := ⟨Tryd.f129, ⟨[1, 3, 4], [], false, [], [], []⟩, Tryd.func129, by kernel_rfl, by kernel_rfl⟩
theorem good130 : Good (130, Hu.Sn.F130) := ⟨Tryd.f130, ⟨[2, 4], [], false, [], [], []⟩, Tryd.func130, by kernel_rfl, by kernel_rfl⟩
theorem good131 : Good (131, Hu.Sn.F131) := ⟨Tryd.f131, ⟨[2], [], false, [], [], []⟩, Tryd.func131, by kernel_rfl, by kernel_rfl⟩
theorem good135 : Good (135, Hu.Sn.F135) := ⟨Tryd.f135, ⟨[], [], false, [25], [], []⟩, Tryd.func135, by kernel_rfl, by kernel_rfl⟩
theorem good136 : Good (136, Hu.Sn.F136) := ⟨Tryd.f136, ⟨[], [], false, [7], [], []⟩, Tryd.func136, by kernel_rfl, by kernel_rfl⟩
theorem good138 : Good (138, Hu.Sn.F138) := ⟨Tryd.f138, ⟨[9, 11], [2], false, [], [], []⟩, Tryd.func138, by kernel_rfl, by kernel_rfl⟩
theorem good139 : Good (139, Hu.Sn.F139) := ⟨Tryd.f139, ⟨[], [], false, [], [], []⟩, Tryd.func139, by kernel_rfl, by kernel_rfl⟩
theorem good141 : Good (141, Hu.Sn.F141) := ⟨Tryd.f141, ⟨[], [], false, [], [], []⟩, Tryd.func141, by kernel_rfl, by kernel_rfl⟩
theorem good180 : Good (180, Hu.Sn.F180) := ⟨Tryd.f180, ⟨[], [], false, [], [], []⟩, Tryd.func180, by kernel_rfl, by kernel_rfl⟩
theorem good202 : Good (202, Hu.Sn.F202) := ⟨Tryd.f202, ⟨[0, 1], [], false, [], [], []⟩, Tryd.func202, by kernel_rfl, by kernel_rfl⟩
theorem good203 : Good (203, Hu.Sn.F203) := ⟨Tryd.f203, ⟨[9], [2, 1], false, [], [], []⟩, Tryd.func203, by kernel_rfl, by kernel_rfl⟩
theorem good204 : Good (204, Hu.Sn.F204) := ⟨Tryd.f204, ⟨[5], [4], false, [], [], []⟩, Tryd.func204, by kernel_rfl, by kernel_rfl⟩
theorem good205 : Good (205, Hu.Sn.F205) := ⟨Tryd.f205, ⟨[1], [], false, [], [], []⟩, Tryd.func205, by kernel_rfl, by kernel_rfl⟩
theorem good206 : Good (206, Hu.Sn.F206) := ⟨Tryd.f206, ⟨[1], [], false, [], [], []⟩, Tryd.func206, by kernel_rfl, by kernel_rfl⟩
theorem good207 : Good (207, Hu.Sn.F207) := ⟨Tryd.f207, ⟨[5, 8, 10], [], false, [], [], []⟩, Tryd.func207, by kernel_rfl, by kernel_rfl⟩
theorem good208 : Good (208, Hu.Sn.F208) := ⟨Tryd.f208, ⟨[], [1], false, [], [], []⟩, Tryd.func208, by kernel_rfl, by kernel_rfl⟩
theorem good209 : Good (209, Hu.Sn.F209) := ⟨Tryd.f209, ⟨[], [], false, [], [], []⟩, Tryd.func209, by kernel_rfl, by kernel_rfl⟩
theorem good210 : Good (210, Hu.Sn.F210) := ⟨Tryd.f210, ⟨[], [], false, [], [], []⟩, Tryd.func210, by kernel_rfl, by kernel_rfl⟩
theorem good214 : Good (214, Hu.Sn.F214) := ⟨Tryd.f214, ⟨[], [], false, [], [], []⟩, Tryd.func214, by kernel_rfl, by kernel_rfl⟩
theorem good250 : Good (250, Hu.Sn.F250) := ⟨Tryd.f250, ⟨[], [3], false, [], [], []⟩, Tryd.func250, by kernel_rfl, by kernel_rfl⟩
theorem good251 : Good (251, Hu.Sn.F251) := ⟨Tryd.f251, ⟨[], [1], false, [], [], []⟩, Tryd.func251, by kernel_rfl, by kernel_rfl⟩
theorem good323 : Good (323, Hu.Sn.F323) := ⟨Tryd.f323, ⟨[2, 4], [], false, [], [], []⟩, Tryd.func323, by kernel_rfl, by kernel_rfl⟩
theorem good324 : Good (324, Hu.Sn.F324) := ⟨Tryd.f324, ⟨[2, 4], [], false, [], [], []⟩, Tryd.func324, by kernel_rfl, by kernel_rfl⟩
theorem good325 : Good (325, Hu.Sn.F325) := ⟨Tryd.f325, ⟨[2, 4], [], false, [], [], []⟩, Tryd.func325, by kernel_rfl, by kernel_rfl⟩
theorem good326 : Good (326, Hu.Sn.F326) := ⟨Tryd.f326, ⟨[2, 4], [], false, [], [], []⟩, Tryd.func326, by kernel_rfl, by kernel_rfl⟩
theorem good327 : Good (327, Hu.Sn.F327) := ⟨Tryd.f327, ⟨[2, 4], [], false, [], [], []⟩, Tryd.func327, by kernel_rfl, by kernel_rfl⟩
theorem good : ∀ p ∈ Hu.Sn.tab, Good p := by
  simp only [Hu.Sn.tab, List.forall_mem_cons]
  exact ⟨good3, good4, good5, good6, good7, good27, good29, good30, good31, good33, good35, good37, good38, good40, good42, good44, good46, good47, good48, good49, good50, good51, good52, good53, good54, good68, good72, good73, good74, good75, good76, good101, good104, good110, good111, good113, good114, good115, good116, good117, good118, good119, good122, good123, good126, good128, good129, good130, good131, good135, good136, good138, good139, good141, good180, good202, good203, good204, good205, good206, good207, good208, good209, good210, good214, good250, good251, good323, good324, good325, good326, good327, by simp⟩
theorem laid : Laid X Hu.Sn.prog := by
  intro f k F hn hp
  obtain rfl : f = k := Option.some.inj hn
  exact good (f, F) (look_mem hp)
end Go.Proofs.YtdpjoppdlhfidaaDoor

set_option linter.unusedVariables false
namespace Go.Proofs.YtdpjoppdlhfidaaDoor
open Go.Hu Go.ChangeShapes Go.WideShapes Go.ChangeAt Go.RowKit

theorem own : ownKnob Tryd.prog.godebug = none := by kernel_rfl
def laidL : List (String × DataW Unit) := [("huer/seine.most", Rows.laid_huer_seine_most), ("huer/seine.does", Rows.laid_huer_seine_does)]
theorem gMost : Tryd.prog.globalNamed "huer/seine.most" = some 0 := by kernel_rfl
theorem gDoes : Tryd.prog.globalNamed "huer/seine.does" = some 4 := by kernel_rfl
theorem tMost : (Tryd.prog.globals[0]?).map (·.type) = some 131 := by kernel_rfl
theorem tDoes : (Tryd.prog.globals[4]?).map (·.type) = some 306 := by kernel_rfl
theorem kids : Kids Tryd.prog (· < Tryd.prog.types.size) := kids_rows (by kernel_rfl) (by kernel_rfl)
theorem full : ∀ t e, t < Tryd.prog.types.size → Tryd.prog.underlying t = some (.slice e) → 0 < Tryd.prog.cellsOf e := slices_full_of Tryd.prog (by kernel_rfl)

theorem globs {W : World} (h : laidMetH Tryd.prog laidL W) : ∀ n cs, X.gl n = some cs → GlobOk X.nm W n cs := by
  intro n cs hn
  simp only [X] at hn
  split at hn
  · rename_i h0
    cases hn
    subst h0
    obtain ⟨g, t, cs, fuel, p, hg, ht, hv, hd⟩ := laid_ints h (name := "huer/seine.most") (d := Rows.laid_huer_seine_most) (by simp [laidL]) rfl
    obtain rfl := Option.some.inj (gMost.symm.trans hg)
    obtain rfl := Option.some.inj (tMost.symm.trans ht)
    exact glob_ints (nm := X.nm) hg hv (by kernel_rfl : Tryd.prog.underlying 131 = some (.array 5 3)) (by kernel_rfl : Tryd.prog.underlying 3 = some (.int .i64)) (by kernel_rfl) [400, 9, 0, 400, 400] rfl hd
  · split at hn
    · rename_i h0
      cases hn
      subst h0
      obtain ⟨g, t, cs, fuel, p, hg, ht, hv, hd⟩ := h.funcs (n := "huer/seine.does") (by simp only [laidL, Rows.laid_huer_seine_does]; exact List.mem_cons_of_mem _ (List.mem_cons_self ..))
      obtain rfl := Option.some.inj (gDoes.symm.trans hg)
      obtain rfl := Option.some.inj (tDoes.symm.trans ht)
      refine glob_fns (nm := X.nm) (e := 305) hg hv (by kernel_rfl : Tryd.prog.underlying 306 = some (.array 5 305)) Tryd.underlying305 (by kernel_rfl)
        [(323, [40, 104, 117, 101, 114, 47, 115, 101, 105, 110, 101, 46, 115, 116, 97, 116, 101, 41, 46, 116, 117, 99, 107], 323), (324, [40, 104, 117, 101, 114, 47, 115, 101, 105, 110, 101, 46, 115, 116, 97, 116, 101, 41, 46, 98, 114, 101, 97, 99, 104], 324),
         (325, [40, 104, 117, 101, 114, 47, 115, 101, 105, 110, 101, 46, 115, 116, 97, 116, 101, 41, 46, 109, 101, 110, 100], 325), (326, [40, 104, 117, 101, 114, 47, 115, 101, 105, 110, 101, 46, 115, 116, 97, 116, 101, 41, 46, 100, 111, 103, 115], 326), (327, [40, 104, 117, 101, 114, 47, 115, 101, 105, 110, 101, 46, 115, 116, 97, 116, 101, 41, 46, 115, 111, 117, 110, 100], 327)]
        ?_ rfl hd
      simp only [List.forall_mem_cons]
      exact ⟨⟨rfl, by simp, by kernel_rfl⟩, ⟨rfl, by simp, by kernel_rfl⟩, ⟨rfl, by simp, by kernel_rfl⟩, ⟨rfl, by simp, by kernel_rfl⟩, ⟨rfl, by simp, by kernel_rfl⟩, by simp⟩
    · cases hn
theorem door_met (os : Os) (args : Array Value) : laidMetH Tryd.prog laidL ((World.doorLaid Tryd.prog 3000 os).forCall (fun _ _ => 0) ⟨#[], args, []⟩).memory :=
  laidMetH_of_parts3 (fuel := 8) (laidMet_of_run' 8 (by kernel_rfl) (by kernel_rfl)) (by kernel_rfl) (by kernel_rfl)
end Go.Proofs.YtdpjoppdlhfidaaDoor

set_option linter.unusedSimpArgs false
set_option linter.unusedVariables false
namespace Go.Hu.Sn
attribute [local irreducible] wpS wpIs wpI
attribute [local go_sem] Nat.mul_one Nat.one_mul Nat.zero_add Nat.add_zero Nat.zero_mul and_self and_true true_and decide_true decide_false Bool.false_eq_true if_true if_false Int.cast_ofNat_Int Int.zero_le_ofNat Int.le_refl Int.reduceLT Int.reduceLE Int.reduceToNat

variable {s : St} {Q : V → St → Prop}

theorem notes_of : ∀ {xs : List V}, (∀ x ∈ xs, ∃ cs, HasF [true, true, true, true] cs ∧ x = wrap true cs) → ∃ ns : List Note, xs = notesV ns
  | [], _ => ⟨[], rfl⟩
  | x :: xs, h => by
    obtain ⟨ns, rfl⟩ := notes_of (xs := xs) fun y hy => h y (by simp [hy])
    obtain ⟨cs, hc, rfl⟩ := h x (by simp)
    obtain ⟨_, _, rfl, ⟨a, _, rfl⟩, _, _, rfl, ⟨b, _, rfl⟩, _, _, rfl, ⟨c, _, rfl⟩, _, _, rfl, ⟨d, _, rfl⟩, rfl⟩ := hc
    exact ⟨⟨a, b, c, d⟩ :: ns, rfl⟩
theorem book_of {y : List V} (h : Has [.int, .int, .sl true [true, true, true, true]] y) : ∃ b : Book, wrap true y = bookV b ∧ (b.notes.length : Int) < 9223372036854775808 := by
  obtain ⟨_, _, rfl, ⟨lo, _, rfl⟩, _, _, rfl, ⟨hi, _, rfl⟩, _, _, rfl, ⟨xs, rfl, hl, hx⟩, rfl⟩ := h
  obtain ⟨ns, rfl⟩ := notes_of hx
  rw [notesV_length] at hl
  refine ⟨⟨lo, hi, ns⟩, rfl, ?_⟩
  show (ns.length : Int) < _
  omega
theorem pair_of {y : List V} (h : Has [.int, .int] y) : ∃ a b : Int, wrap true y = .agg [.int a, .int b] := by
  obtain ⟨_, _, rfl, ⟨lo, _, rfl⟩, _, _, rfl, ⟨hi, _, rfl⟩, rfl⟩ := h
  exact ⟨lo, hi, rfl⟩
theorem note_of {y : List V} (h : Has [.int, .int, .int, .int] y) : ∃ x : Note, wrap true y = noteV x := by
  obtain ⟨_, _, rfl, ⟨a, _, rfl⟩, _, _, rfl, ⟨b, _, rfl⟩, _, _, rfl, ⟨c, _, rfl⟩, _, _, rfl, ⟨d, _, rfl⟩, rfl⟩ := h
  exact ⟨⟨a, b, c, d⟩, rfl⟩
theorem Answer.unique {e : Int} {S : Int → Prop} {a b c d : Int} (h : Answer e S a b) (h' : Answer e S c d) : a = c ∧ b = d := by
  unfold Answer at h h'
  by_cases he : e = 0
  · rw [if_pos he] at h h'
    exact h.unique h'
  · rw [if_neg he] at h h'
    omega

end Go.Hu.Sn

set_option linter.unusedSimpArgs false
set_option linter.unusedVariables false
namespace Go.Hu.Sn
attribute [local irreducible] wpS wpIs wpI
attribute [local go_sem] Nat.mul_one Nat.one_mul Nat.zero_add Nat.add_zero Nat.zero_mul and_self and_true true_and decide_true decide_false Bool.false_eq_true if_true if_false Int.cast_ofNat_Int Int.zero_le_ofNat Int.le_refl Int.reduceLT Int.reduceLE Int.reduceToNat

variable {s : St} {Q : V → St → Prop}

theorem last_cases' (ns : List Note) (hl : ns.length ≤ 100) : (ns = [] ∧ ¬ (ns.length : Int) > 0) ∨ ((ns.length : Int) > 0 ∧ w64 ((ns.length : Int) - 1) = (ns.length : Int) - 1 ∧ 0 ≤ (ns.length : Int) - 1 ∧ ∃ x : Note, (notesV ns)[((ns.length : Int) - 1).toNat]? = some (.agg [.int x.kind, .int x.hour, .int x.lo, .int x.hi]) ∧ x.hour = hourOf 0 ns) := by
  rcases List.eq_nil_or_concat ns with h | ⟨a, x, h⟩
  · left
    exact ⟨h, by rw [h]; simp⟩
  · right
    rw [List.concat_eq_append] at h
    have hl : (ns.length : Int) = a.length + 1 := by rw [h]; simp
    refine ⟨by omega, w64_id (by omega), by omega, x, ?_, ?_⟩
    · rw [show ((ns.length : Int) - 1) = (a.length : Int) by omega, h]
      exact notesV_at
    · rw [h, hourOf_append]
      rfl
theorem nums_of {y : List V} (h : Has [.sl false [true]] y) : ∃ l : List Int, wrap false y = .lst (intsV l) .any ∧ (l.length : Int) < 9223372036854775808 := by
  obtain ⟨_, _, rfl, ⟨xs, rfl, hl, hx⟩, rfl⟩ := h
  have : ∀ xs : List V, (∀ x ∈ xs, ∃ cs, HasF [true] cs ∧ x = wrap false cs) → ∃ l : List Int, xs = intsV l := by
    intro xs
    induction xs with
    | nil => intro _; exact ⟨[], rfl⟩
    | cons x xs ih =>
      intro h
      obtain ⟨l, rfl⟩ := ih fun y hy => h y (by simp [hy])
      obtain ⟨cs, hc, rfl⟩ := h x (by simp)
      obtain ⟨_, _, rfl, ⟨a, _, rfl⟩, rfl⟩ := hc
      exact ⟨a :: l, rfl⟩
  obtain ⟨l, rfl⟩ := this xs hx
  rw [intsV_length] at hl
  refine ⟨l, rfl, ?_⟩
  omega
theorem one_of {y : List V} (h : Has [.int] y) : ∃ n : Int, wrap false y = .int n := by
  obtain ⟨_, _, rfl, ⟨n, _, rfl⟩, rfl⟩ := h
  exact ⟨n, rfl⟩
theorem c44w {b : Book} {w : List Int} (hlen : (b.notes.length : Int) < 9223372036854775808) (hb : ok b) (hw : (wrongL b).getD [] = w) (hq : ∀ s', s ≤ s' → Q (.tup [.lst (intsV w) .any, .int 0]) s') : Call prog (.fn 44 [] []) [bookV b] s Q := by
  refine c44 b hlen fun l s' g1 g2 g3 => ?_
  rw [g1 hb, hw, if_pos hb]
  exact hq s' g3
theorem rec_look {hs rs : List Int} {i : Int} {x : X} (hi : 0 ≤ i) (h : recAt hs rs i.toNat x) : (intsV hs)[i.toNat]? = some (.int x.1) ∧ (intsV rs)[i.toNat]? = some (.int x.2) := by
  unfold recAt at h
  unfold intsV
  simp [h.1, h.2]

set_option maxRecDepth 20000 in
set_option maxHeartbeats 4000000 in
theorem pureTrue {y0 y1 y2 : List V} (h0 : Has [.int, .int, .sl true [true, true, true, true]] y0) (h1 : Has [.sl false [true]] y1) (h2 : Has [.int] y2) : Call prog (.fn 6 [] []) [wrap true y0, wrap false y1, wrap false y2] (fun _ => none) fun v _ => v = .bool true := by
  obtain ⟨b, hb, hlen⟩ := book_of h0
  obtain ⟨bits, hbits, hbl⟩ := nums_of h1
  obtain ⟨k, hk⟩ := one_of h2
  rw [hb, hbits, hk]
  refine Call.fn F6 p6 rfl ?_
  simp only [F6, bookV]
  by_cases hok : ok b
  · repeat first|refine Wr ?_|refine Wb ?_|refine Wc ?_|refine Wd ?_|refine We ?_|refine Wf ?_|refine Wg ?_|refine Wh ?_|refine Wi ?_|refine Wj (by decide) ?_|refine Wa ?_|refine Wk ?_|refine Wl ?_|refine Wm ?_|refine Wn ?_|refine Wo ?_|refine Wp ?_|refine Wq ?_|refine Ww (by simp only[go_sem,hok];done) ?_|((first|refine Ws ?_|refine Wt ?_|refine Wu ?_|refine Wv (by simp only[go_sem,hok];done) ?_);conv=>arg 2;simp only[go_sem,hok])|(refine Wx (by simp only[go_sem,hok];rfl) (by simp only[go_sem,hok];rfl) ?_;refine c47 b hlen ?_)
    refine w_call (by simp only [go_sem]; rfl) (by simp only [go_sem]; rfl) ?_
    refine c48 b bits hok hbl fun a hs rs c s1 g1 g2 g3 g4 => ?_
    first|refine w_trimI [2,34] fun e he => ?_|refine w_trimR [2,34] fun e he => ?_|refine w_trimS [2,34] fun e he => ?_
    simp only[w_map1,w_map0,List.cons.injEq,go_sem] at he
    obtain ⟨e2,e34⟩ := he
    have hokx : ok ⟨b.lo, b.hi, a⟩ := ⟨hok.1, g3, g1.okn⟩
    have hlenx : (((⟨b.lo, b.hi, a⟩ : Book).notes.length : Nat) : Int) < 9223372036854775808 := by show (a.length : Int) < _; omega
    have hL := hourOf_le g1.okn
    have hL' := hL.2 (by decide)
    have hrec : ∀ i : Int, 0 ≤ i ∧ i ≤ 60 → ∃ x, recAt hs rs i.toNat x ∧ atH ⟨b.lo, b.hi, a⟩ i x := fun i hi => by
      have h1 : i.toNat < hs.length := by omega
      have h2 : i.toNat < rs.length := by have := g1.len.2; omega
      have hr : recAt hs rs i.toNat (hs[i.toNat], rs[i.toNat]) := ⟨List.getElem?_eq_getElem h1, List.getElem?_eq_getElem h2⟩
      refine ⟨_, hr, ?_⟩
      have := g1.at hr
      rwa [show ((i.toNat : Nat) : Int) = i by omega] at this
    obtain ⟨xL, hxL, hxL2⟩ := hrec (hourOf 0 a) ⟨hL.1, hL'⟩
    obtain ⟨x6, hx6, hx62⟩ := hrec 60 (by decide)
    have hsv := g1.saved (i := (hourOf 0 a).toNat) (by omega) hxL hx6 hL'
    have hcan : can ⟨b.lo, b.hi, a⟩ := at_can hokx.ok' hL.1 hxL2
    have hwn : (wrongL ⟨b.lo, b.hi, a⟩).getD [] = [] := (wrong_none hokx).2 hcan
    have hE : askE ⟨b.lo, b.hi, a⟩ True = 0 := askE_ok hokx trivial hcan
    have lL := (rec_look hL.1 hxL).1
    have l6 := (rec_look (i := 60) (by decide) hx6).1
    have l6 : (intsV hs)[60]? = some (.int x6.1) := l6
    have hsm : ∀ {h x}, 0 ≤ h → atH ⟨b.lo, b.hi, a⟩ h x → (0 ≤ x.1 ∧ x.1 ≤ 400) ∧ (0 ≤ x.2 ∧ x.2 ≤ 81) := fun h hx => atH_small hokx.ok' h hx
    have bL := hsm hL.1 hxL2
    have b6 := hsm (by decide) hx62
    have z0 : ((0 : Int) == 0) = true := rfl
    have z40 : ((4 : Int) == 0) = false := rfl
    have z44 : ((4 : Int) == 4) = true := rfl
    have hla := last_cases' a (by omega)
    generalize hLe : hourOf 0 a = L at *
    simp only [bookV] at e34
    repeat first|refine Wr ?_|refine Wb ?_|refine Wc ?_|refine Wd ?_|refine We ?_|refine Wf ?_|refine Wg ?_|refine Wh ?_|refine Wi ?_|refine Wj (by decide) ?_|refine Wa ?_|refine Wk ?_|refine Wl ?_|refine Wm ?_|refine Wn ?_|refine Wo ?_|refine Wp ?_|refine Wq ?_|refine Ww (by simp only[go_sem,e2,e34];done) ?_|((first|refine Ws ?_|refine Wt ?_|refine Wu ?_|refine Wv (by simp only[go_sem,e2,e34];done) ?_);conv=>arg 2;simp only[go_sem,e2,e34])
    refine w_call (by simp only [go_sem]; rfl) (by simp only [go_sem]; rfl) ?_
    refine c27v (b := ⟨b.lo, b.hi, a⟩) (r := true) hlenx hokx (by simp only [hcan]) fun s2 g5 => ?_
    first|refine w_trimI [2,7,8,39] fun e he => ?_|refine w_trimR [2,7,8,39] fun e he => ?_|refine w_trimS [2,7,8,39] fun e he => ?_
    simp only[w_map1,w_map0,List.cons.injEq,go_sem,e2, e34] at he
    obtain ⟨e2,e7,e8,e39⟩ := he
    repeat first|refine Wr ?_|refine Wb ?_|refine Wc ?_|refine Wd ?_|refine We ?_|refine Wf ?_|refine Wg ?_|refine Wh ?_|refine Wi ?_|refine Wj (by decide) ?_|refine Wa ?_|refine Wk ?_|refine Wl ?_|refine Wm ?_|refine Wn ?_|refine Wo ?_|refine Wp ?_|refine Wq ?_|refine Ww (by simp only[go_sem,e2,e7,e8,e39];done) ?_|((first|refine Ws ?_|refine Wt ?_|refine Wu ?_|refine Wv (by simp only[go_sem,e2,e7,e8,e39];done) ?_);conv=>arg 2;simp only[go_sem,e2,e7,e8,e39])
    refine w_call (by simp only [go_sem, e7]; rfl) (by simp only [go_sem, e7]; rfl) ?_
    refine c44w (b := ⟨b.lo, b.hi, a⟩) hlenx hokx hwn fun s3 g6 => ?_
    first|refine w_trimI [2,7,8,9,10,44] fun e he => ?_|refine w_trimR [2,7,8,9,10,44] fun e he => ?_|refine w_trimS [2,7,8,9,10,44] fun e he => ?_
    simp only[w_map1,w_map0,List.cons.injEq,go_sem,e2, e7, e8] at he
    obtain ⟨e2,e7,e8,e9,e10,e44⟩ := he
    rcases hla with ⟨l1, l2⟩ | ⟨l2, l3, l4, x, l5, l7⟩
    case' inl =>
      have hL0 : 0 = L := by rw [← hLe, l1]; rfl
      repeat first|refine Wr ?_|refine Wb ?_|refine Wc ?_|refine Wd ?_|refine We ?_|refine Wf ?_|refine Wg ?_|refine Wh ?_|refine Wi ?_|refine Wj (by decide) ?_|refine Wa ?_|refine Wk ?_|refine Wl ?_|refine Wm ?_|refine Wn ?_|refine Wo ?_|refine Wp ?_|refine Wq ?_|refine Ww (by simp only[go_sem,notesV_length,l2,e2,e7,e8,e9,e10,e44];done) ?_|((first|refine Ws ?_|refine Wt ?_|refine Wu ?_|refine Wv (by simp only[go_sem,notesV_length,l2,e2,e7,e8,e9,e10,e44];done) ?_);conv=>arg 2;simp only[go_sem,notesV_length,l2,e2,e7,e8,e9,e10,e44])
      refine w_call (by simp only [go_sem, e7]; rfl) (by simp only [go_sem, e7]; rfl) ?_
      refine c40v (b := ⟨b.lo, b.hi, a⟩) hlenx hE fun sl sh s4 g7 g8 => ?_
      first|refine w_trimI [2,7,8,9,10,11,12,13,62] fun e he => ?_|refine w_trimR [2,7,8,9,10,11,12,13,62] fun e he => ?_|refine w_trimS [2,7,8,9,10,11,12,13,62] fun e he => ?_
      simp only[w_map1,w_map0,List.cons.injEq,go_sem,e2, e7, e8, e9, e10] at he
      obtain ⟨e2,e7,e8,e9,e10,e11,e12,e13,e62⟩ := he
      rw [hL0] at e13
    case' inr =>
      repeat first|refine Wr ?_|refine Wb ?_|refine Wc ?_|refine Wd ?_|refine We ?_|refine Wf ?_|refine Wg ?_|refine Wh ?_|refine Wi ?_|refine Wj (by decide) ?_|refine Wa ?_|refine Wk ?_|refine Wl ?_|refine Wm ?_|refine Wn ?_|refine Wo ?_|refine Wp ?_|refine Wq ?_|refine Ww (by simp only[go_sem,notesV_length,l2,l3,l4,l5,l7,e2,e7,e8,e9,e10,e44];done) ?_|((first|refine Ws ?_|refine Wt ?_|refine Wu ?_|refine Wv (by simp only[go_sem,notesV_length,l2,l3,l4,l5,l7,e2,e7,e8,e9,e10,e44];done) ?_);conv=>arg 2;simp only[go_sem,notesV_length,l2,l3,l4,l5,l7,e2,e7,e8,e9,e10,e44])
      refine w_call (by simp only [go_sem, e7]; rfl) (by simp only [go_sem, e7]; rfl) ?_
      refine c40v (b := ⟨b.lo, b.hi, a⟩) hlenx hE fun sl sh s4 g7 g8 => ?_
      first|refine w_trimI [2,7,8,9,10,11,12,13,62] fun e he => ?_|refine w_trimR [2,7,8,9,10,11,12,13,62] fun e he => ?_|refine w_trimS [2,7,8,9,10,11,12,13,62] fun e he => ?_
      simp only[w_map1,w_map0,List.cons.injEq,go_sem,l7, e2, e7, e8, e9, e10] at he
      obtain ⟨e2,e7,e8,e9,e10,e11,e12,e13,e62⟩ := he
    all_goals
      have hs1 : sl ≤ xL.1 - x6.1 ∧ xL.1 - x6.1 ≤ sh := by
        have := g7.ends.2 (xL.1 - x6.1) ⟨xL, hsv.1, hsv.2⟩
        exact this
      have hw : w64 (xL.1 - x6.1) = xL.1 - x6.1 := w64_id (by omega)
      repeat first|refine Wr ?_|refine Wb ?_|refine Wc ?_|refine Wd ?_|refine We ?_|refine Wf ?_|refine Wg ?_|refine Wh ?_|refine Wi ?_|refine Wj (by decide) ?_|refine Wa ?_|refine Wk ?_|refine Wl ?_|refine Wm ?_|refine Wn ?_|refine Wo ?_|refine Wp ?_|refine Wq ?_|refine Ww (by simp only[go_sem,z0,hs1,hw,hL.1,lL,l6,intsV_length,List.length_nil,Int.natCast_zero,e2,e7,e8,e9,e10,e11,e12,e13,e62,bne_self_eq_false];done) ?_|((first|refine Ws ?_|refine Wt ?_|refine Wu ?_|refine Wv (by simp only[go_sem,z0,hs1,hw,hL.1,lL,l6,intsV_length,List.length_nil,Int.natCast_zero,e2,e7,e8,e9,e10,e11,e12,e13,e62,bne_self_eq_false];done) ?_);conv=>arg 2;simp only[go_sem,z0,hs1,hw,hL.1,lL,l6,intsV_length,List.length_nil,Int.natCast_zero,e2,e7,e8,e9,e10,e11,e12,e13,e62,bne_self_eq_false])|(refine Wx (by simp only[go_sem,z0,hs1,hw,hL.1,lL,l6,intsV_length,List.length_nil,Int.natCast_zero,e2,e7,e8,e9,e10,e11,e12,e13,e62,bne_self_eq_false];rfl) (by simp only[go_sem,z0,hs1,hw,hL.1,lL,l6,intsV_length,List.length_nil,Int.natCast_zero,e2,e7,e8,e9,e10,e11,e12,e13,e62,bne_self_eq_false];rfl) ?_;refine c49 _ _ _ ?_)
      clear hw
      refine w_call (by simp only [go_sem, e2]; rfl) (by simp only [go_sem, e2]; rfl) ?_
      refine c50' k 61 (by decide) (by decide) fun q hq => ?_
      first|refine w_trimI [7,8,99,101] fun e he => ?_|refine w_trimR [7,8,99,101] fun e he => ?_|refine w_trimS [7,8,99,101] fun e he => ?_
      simp only[w_map1,w_map0,List.cons.injEq,go_sem,e7, e8, e13] at he
      obtain ⟨e7,e8,e99,e101⟩ := he
      repeat first|refine Wr ?_|refine Wb ?_|refine Wc ?_|refine Wd ?_|refine We ?_|refine Wf ?_|refine Wg ?_|refine Wh ?_|refine Wi ?_|refine Wj (by decide) ?_|refine Wa ?_|refine Wk ?_|refine Wl ?_|refine Wm ?_|refine Wn ?_|refine Wo ?_|refine Wp ?_|refine Wq ?_|refine Ww (by simp only[go_sem,e7,e8,e99,e101];done) ?_|((first|refine Ws ?_|refine Wt ?_|refine Wu ?_|refine Wv (by simp only[go_sem,e7,e8,e99,e101];done) ?_);conv=>arg 2;simp only[go_sem,e7,e8,e99,e101])
      refine w_iter (fun m e s' => ∃ (p r : List Int), [0, L, q, 60] = p ++ r ∧ r.length = m ∧ e 7 = .agg [.int b.lo, .int b.hi, .lst (notesV a) .any] ∧ e 8 = .agg [.lst (intsV hs) .any, .lst (intsV rs) .any] ∧ e 16 = .lst (intsV [0, L, q, 60]) .exact ∧ e 17 = .int p.length) 4 ?_ ?_
      · refine ⟨[], [0, L, q, 60], rfl, rfl, ?_, ?_, ?_, ?_⟩
        any_goals (simp only [go_sem, e7, e8, List.length_nil, Int.natCast_zero]; done)
        simp only [go_sem]; rfl
      · clear e7 e8 e99 e101
        rintro m e s' ⟨p, r, hpr, hrm, e7, e8, e16, e17⟩
        cases r with
        | nil =>
          have hlt : ¬ ((p.length : Int) < 4) := by have := congrArg List.length hpr; simp at this; omega
          repeat first|refine Wr ?_|refine Wb ?_|refine Wc ?_|refine Wd ?_|refine We ?_|refine Wf ?_|refine Wg ?_|refine Wh ?_|refine Wi ?_|refine Wj (by decide) ?_|refine Wa ?_|refine Wk ?_|refine Wl ?_|refine Wm ?_|refine Wn ?_|refine Wo ?_|refine Wp ?_|refine Wq ?_|refine Ww (by simp only[go_sem,intsV_length,hlt,e7,e8,e16,e17];done) ?_|((first|refine Ws ?_|refine Wt ?_|refine Wu ?_|refine Wv (by simp only[go_sem,intsV_length,hlt,e7,e8,e16,e17];done) ?_);conv=>arg 2;simp only[go_sem,intsV_length,hlt,e7,e8,e16,e17])
          refine w_call (by simp only [go_sem, e7]; rfl) (by simp only [go_sem, e7]; rfl) ?_
          refine c38 ⟨b.lo, b.hi, a⟩ hlenx fun n er s5 g9 g10 => ?_
          first|refine w_trimI [8,172] fun e he => ?_|refine w_trimR [8,172] fun e he => ?_|refine w_trimS [8,172] fun e he => ?_
          simp only[w_map1,w_map0,List.cons.injEq,go_sem,e8] at he
          obtain ⟨e8,e172⟩ := he
          rcases g9 with ⟨n1, _⟩ | ⟨n1, n2, n3, n4, _⟩ | ⟨n1, n2, n3, n4⟩
          · exact absurd hE n1
          · subst n3
            obtain ⟨xn, hxn, hxn2⟩ := hrec n n2
            have ln := (rec_look n2.1 hxn).1
            have hz : (xn.1 == 0) = true := by simpa using n4 xn hxn2
            have hn0 := n2.1
            repeat first|refine Wr ?_|refine Wb ?_|refine Wc ?_|refine Wd ?_|refine We ?_|refine Wf ?_|refine Wg ?_|refine Wh ?_|refine Wi ?_|refine Wj (by decide) ?_|refine Wa ?_|refine Wk ?_|refine Wl ?_|refine Wm ?_|refine Wn ?_|refine Wo ?_|refine Wp ?_|refine Wq ?_|refine Ww (by simp only[go_sem,z0,n2,hn0,ln,hz,e8,e172];done) ?_|((first|refine Ws ?_|refine Wt ?_|refine Wu ?_|refine Wv (by simp only[go_sem,z0,n2,hn0,ln,hz,e8,e172];done) ?_);conv=>arg 2;simp only[go_sem,z0,n2,hn0,ln,hz,e8,e172])|(refine Wx (by simp only[go_sem,z0,n2,hn0,ln,hz,e8,e172];rfl) (by simp only[go_sem,z0,n2,hn0,ln,hz,e8,e172];rfl) ?_;first|refine c51 _ _ _ ?_|refine c37 fun s8 g10 => ?_)
            first|refine w_retQ ?_|refine w_endQ ?_
            conv=>arg 1;simp only[go_sem]
            exact w_res (v := .bool true) (by simp only [go_sem]) rfl
          · subst n2 n3
            repeat first|refine Wr ?_|refine Wb ?_|refine Wc ?_|refine Wd ?_|refine We ?_|refine Wf ?_|refine Wg ?_|refine Wh ?_|refine Wi ?_|refine Wj (by decide) ?_|refine Wa ?_|refine Wk ?_|refine Wl ?_|refine Wm ?_|refine Wn ?_|refine Wo ?_|refine Wp ?_|refine Wq ?_|refine Ww (by simp only[go_sem,z0,z40,z44,e8,e172];done) ?_|((first|refine Ws ?_|refine Wt ?_|refine Wu ?_|refine Wv (by simp only[go_sem,z0,z40,z44,e8,e172];done) ?_);conv=>arg 2;simp only[go_sem,z0,z40,z44,e8,e172])|(refine Wx (by simp only[go_sem,z0,z40,z44,e8,e172];rfl) (by simp only[go_sem,z0,z40,z44,e8,e172];rfl) ?_;first|refine c51 _ _ _ ?_|refine c37 fun s8 g10 => ?_)
            first|refine w_retQ ?_|refine w_endQ ?_
            conv=>arg 1;simp only[go_sem]
            exact w_res (v := .bool true) (by simp only [go_sem]) rfl
        | cons h r =>
          have hlt : ((p.length : Int) < 4) := by have := congrArg List.length hpr; simp at this; omega
          have hx : (intsV [0, L, q, 60])[((p.length : Int)).toNat]? = some (.int h) := by rw [hpr]; exact intsV_at
          have hp := len_nonneg p
          have hp4 : p.length < 4 := by have := congrArg List.length hpr; simp at this; omega
          have hrm' : r.length < m := by simp at hrm; omega
          have hwp : w64 ((p.length : Int) + 1) = (p ++ [h]).length := by rw [w64_id (by omega)]; simp
          have hh : 0 ≤ h ∧ h ≤ 60 := by
            have : h ∈ [0, L, q, 60] := by rw [hpr]; simp
            simp at this
            rcases this with rfl | rfl | rfl | rfl <;> omega
          obtain ⟨xh, hxh, hxh2⟩ := hrec h hh
          obtain ⟨lh, lr⟩ := rec_look hh.1 hxh
          have bh := hsm hh.1 hxh2
          have hh0 := hh.1
          have hE1 : askE ⟨b.lo, b.hi, a⟩ (0 ≤ h ∧ h ≤ 60) = 0 := askE_ok hokx hh hcan
          have hE2 : askE ⟨b.lo, b.hi, a⟩ ((0 ≤ h ∧ h ≤ 60) ∧ 0 ≤ xh.1 ∧ xh.1 ≤ 400) = 0 := askE_ok hokx ⟨hh, bh.1⟩ hcan
          have hc31 : true = true ↔ (0 : Int) = 0 ∧ ∃ x, atH ⟨b.lo, b.hi, a⟩ h x ∧ x.1 = xh.1 := ⟨fun _ => ⟨rfl, xh, hxh2, rfl⟩, fun _ => rfl⟩
          repeat first|refine Wr ?_|refine Wb ?_|refine Wc ?_|refine Wd ?_|refine We ?_|refine Wf ?_|refine Wg ?_|refine Wh ?_|refine Wi ?_|refine Wj (by decide) ?_|refine Wa ?_|refine Wk ?_|refine Wl ?_|refine Wm ?_|refine Wn ?_|refine Wo ?_|refine Wp ?_|refine Wq ?_|refine Ww (by simp only[go_sem,intsV_length,hlt,hx,hp,e7,e8,e16,e17];done) ?_|((first|refine Ws ?_|refine Wt ?_|refine Wu ?_|refine Wv (by simp only[go_sem,intsV_length,hlt,hx,hp,e7,e8,e16,e17];done) ?_);conv=>arg 2;simp only[go_sem,intsV_length,hlt,hx,hp,e7,e8,e16,e17])
          refine w_call (by simp only [go_sem, e7]; rfl) (by simp only [go_sem, e7]; rfl) ?_
          refine c33v (b := ⟨b.lo, b.hi, a⟩) (h := h) hlenx hE1 fun tl th s5 g9 g10 => ?_
          first|refine w_trimI [7,8,16,17,18,116] fun e he => ?_|refine w_trimR [7,8,16,17,18,116] fun e he => ?_|refine w_trimS [7,8,16,17,18,116] fun e he => ?_
          simp only[w_map1,w_map0,List.cons.injEq,go_sem,hx, hp, e7, e8, e16, e17] at he
          obtain ⟨e7,e8,e16,e17,e18,e116⟩ := he
          repeat first|refine Wr ?_|refine Wb ?_|refine Wc ?_|refine Wd ?_|refine We ?_|refine Wf ?_|refine Wg ?_|refine Wh ?_|refine Wi ?_|refine Wj (by decide) ?_|refine Wa ?_|refine Wk ?_|refine Wl ?_|refine Wm ?_|refine Wn ?_|refine Wo ?_|refine Wp ?_|refine Wq ?_|refine Ww (by simp only[go_sem,e7,e8,e16,e17,e18,e116];done) ?_|((first|refine Ws ?_|refine Wt ?_|refine Wu ?_|refine Wv (by simp only[go_sem,e7,e8,e16,e17,e18,e116];done) ?_);conv=>arg 2;simp only[go_sem,e7,e8,e16,e17,e18,e116])
          refine w_call (by simp only [go_sem, e7, e18]; rfl) (by simp only [go_sem, e7, e18]; rfl) ?_
          refine c35v (b := ⟨b.lo, b.hi, a⟩) (h := h) hlenx hE1 fun ul uh s6 g11 g12 => ?_
          first|refine w_trimI [7,8,16,17,18,19,20,122] fun e he => ?_|refine w_trimR [7,8,16,17,18,19,20,122] fun e he => ?_|refine w_trimS [7,8,16,17,18,19,20,122] fun e he => ?_
          simp only[w_map1,w_map0,List.cons.injEq,go_sem,e7, e8, e16, e17, e18] at he
          obtain ⟨e7,e8,e16,e17,e18,e19,e20,e122⟩ := he
          repeat first|refine Wr ?_|refine Wb ?_|refine Wc ?_|refine Wd ?_|refine We ?_|refine Wf ?_|refine Wg ?_|refine Wh ?_|refine Wi ?_|refine Wj (by decide) ?_|refine Wa ?_|refine Wk ?_|refine Wl ?_|refine Wm ?_|refine Wn ?_|refine Wo ?_|refine Wp ?_|refine Wq ?_|refine Ww (by simp only[go_sem,lh,hh0,e7,e8,e16,e17,e18,e19,e20,e122];done) ?_|((first|refine Ws ?_|refine Wt ?_|refine Wu ?_|refine Wv (by simp only[go_sem,lh,hh0,e7,e8,e16,e17,e18,e19,e20,e122];done) ?_);conv=>arg 2;simp only[go_sem,lh,hh0,e7,e8,e16,e17,e18,e19,e20,e122])
          refine w_call (by simp only [go_sem, lh, e7, e18]; rfl) (by simp only [go_sem, lh, e7, e18]; rfl) ?_
          refine c31v (b := ⟨b.lo, b.hi, a⟩) (m := xh.1) hlenx hE2 hc31 fun s7 g13 => ?_
          first|refine w_trimI [7,8,16,17,18,19,20,21,22,133] fun e he => ?_|refine w_trimR [7,8,16,17,18,19,20,21,22,133] fun e he => ?_|refine w_trimS [7,8,16,17,18,19,20,21,22,133] fun e he => ?_
          simp only[w_map1,w_map0,List.cons.injEq,go_sem,e7, e8, e16, e17, e18, e19, e20] at he
          obtain ⟨e7,e8,e16,e17,e18,e19,e20,e21,e22,e133⟩ := he
          have hs2 : tl ≤ xh.1 ∧ xh.1 ≤ th := g9.ends.2 _ ⟨xh, hxh2, rfl⟩
          have hs3 : ul ≤ xh.2 ∧ xh.2 ≤ uh := g11.ends.2 _ ⟨xh, hxh2, rfl⟩
          repeat first|refine Wr ?_|refine Wb ?_|refine Wc ?_|refine Wd ?_|refine We ?_|refine Wf ?_|refine Wg ?_|refine Wh ?_|refine Wi ?_|refine Wj (by decide) ?_|refine Wa ?_|refine Wk ?_|refine Wl ?_|refine Wm ?_|refine Wn ?_|refine Wo ?_|refine Wp ?_|refine Wq ?_|refine Ww (by simp only[go_sem,z0,lh,lr,hh0,hs2,hs3,hwp,e7,e8,e16,e17,e18,e19,e20,e21,e22,e133,bne_self_eq_false];done) ?_|((first|refine Ws ?_|refine Wt ?_|refine Wu ?_|refine Wv (by simp only[go_sem,z0,lh,lr,hh0,hs2,hs3,hwp,e7,e8,e16,e17,e18,e19,e20,e21,e22,e133,bne_self_eq_false];done) ?_);conv=>arg 2;simp only[go_sem,z0,lh,lr,hh0,hs2,hs3,hwp,e7,e8,e16,e17,e18,e19,e20,e21,e22,e133,bne_self_eq_false])|(refine Wx (by simp only[go_sem,z0,lh,lr,hh0,hs2,hs3,hwp,e7,e8,e16,e17,e18,e19,e20,e21,e22,e133,bne_self_eq_false];rfl) (by simp only[go_sem,z0,lh,lr,hh0,hs2,hs3,hwp,e7,e8,e16,e17,e18,e19,e20,e21,e22,e133,bne_self_eq_false];rfl) ?_;refine c49 _ _ _ ?_)
          refine ⟨r.length, hrm', p ++ [h], r, by rw [hpr]; simp, rfl, ?_, ?_, ?_, ?_⟩
          any_goals (simp only [go_sem, e7, e8, e16, e17, hwp]; done)
  · repeat first|refine Wr ?_|refine Wb ?_|refine Wc ?_|refine Wd ?_|refine We ?_|refine Wf ?_|refine Wg ?_|refine Wh ?_|refine Wi ?_|refine Wj (by decide) ?_|refine Wa ?_|refine Wk ?_|refine Wl ?_|refine Wm ?_|refine Wn ?_|refine Wo ?_|refine Wp ?_|refine Wq ?_|refine Ww (by simp only[go_sem,hok];done) ?_|((first|refine Ws ?_|refine Wt ?_|refine Wu ?_|refine Wv (by simp only[go_sem,hok];done) ?_);conv=>arg 2;simp only[go_sem,hok])|(refine Wx (by simp only[go_sem,hok];rfl) (by simp only[go_sem,hok];rfl) ?_;first|refine c47 b hlen ?_|refine c37 fun s1 g1 => ?_)
    first|refine w_retQ ?_|refine w_endQ ?_
    conv=>arg 1;simp only[go_sem]
    exact w_res (v := .bool true) (by simp only [go_sem]) rfl
end Go.Hu.Sn
