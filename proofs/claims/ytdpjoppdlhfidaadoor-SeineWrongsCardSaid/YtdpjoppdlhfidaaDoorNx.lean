/-
  The pure code is what the functions of the translation are compiled to: closed facts.
-/
import Derived.Test.YtdpjoppdlhfidaaDoorRows
import Derived.Test.YtdpjoppdlhfidaaDoorNa
import Derived.Test.YtdpjoppdlhfidaaDoorMc
import Derived.Test.YtdpjoppdlhfidaaDoorCards
import Derived.Test.YtdpjoppdlhfidaaDoorTie
import Derived.Stop.Joined
import Derived.Test.YtdpjoppdlhfidaaDoorG
import Derived.Test.YtdpjoppdlhfidaaDoorNb
namespace Go.Proofs.YtdpjoppdlhfidaaDoor
open Go.Hu

noncomputable def X : Ctx := { P := Tryd.prog, nm := some, gl := fun g => if g = 0 then some [.int 400, .int 9, .int 0, .int 400, .int 400] else if g = 4 then some [.fn 323 [] [], .fn 324 [] [], .fn 325 [] [], .fn 326 [] [], .fn 327 [] []] else none }
theorem follows : X.P.follows .mixedOrders = true := by kernel_rfl
def Good (p : Nat × PFunc) : Prop := ∃ fn h, X.P.funcs[p.1]? = some fn ∧ (fn.name == "runtime.NumGoroutine") = false ∧ compileF X h fn = some p.2
theorem good3 : Good (3, Hu.Sn.F3) := ⟨Tryd.f3, ⟨[2, 3, 9, 10], [], false, [], [], []⟩, Tryd.func3, by kernel_rfl, by kernel_rfl⟩
theorem good4 : Good (4, Hu.Sn.F4) := ⟨Tryd.f4, ⟨[2, 3, 9, 10], [], false, [], [], []⟩, Tryd.func4, by kernel_rfl, by kernel_rfl⟩
theorem good5 : Good (5, Hu.Sn.F5) := ⟨Tryd.f5, ⟨[1], [], false, [], [], []⟩, Tryd.func5, by kernel_rfl, by kernel_rfl⟩
theorem good6 : Good (6, Hu.Sn.F6) := ⟨Tryd.f6, ⟨[3, 7, 8, 14, 19, 21], [], false, [], [], []⟩, Tryd.func6, by kernel_rfl, by kernel_rfl⟩
theorem good7 : Good (7, Hu.Sn.F7) := ⟨Tryd.f7, ⟨[2, 3, 6, 8], [], false, [], [], []⟩, Tryd.func7, by kernel_rfl, by kernel_rfl⟩
theorem good27 : Good (27, Hu.Sn.F27) := ⟨Tryd.f27, ⟨[1], [], false, [], [], []⟩, Tryd.func27, by kernel_rfl, by kernel_rfl⟩
theorem good28 : Good (28, Hu.Sn.F28) := ⟨Tryd.f28, ⟨[1], [], false, [], [], []⟩, Tryd.func28, by kernel_rfl, by kernel_rfl⟩
theorem good29 : Good (29, Hu.Sn.F29) := ⟨Tryd.f29, ⟨[1, 6], [], false, [], [], []⟩, Tryd.func29, by kernel_rfl, by kernel_rfl⟩
theorem good30 : Good (30, Hu.Sn.F30) := ⟨Tryd.f30, ⟨[1], [], false, [], [], []⟩, Tryd.func30, by kernel_rfl, by kernel_rfl⟩
theorem good31 : Good (31, Hu.Sn.F31) := ⟨Tryd.f31, ⟨[3, 5, 8, 10], [], false, [], [], []⟩, Tryd.func31, by kernel_rfl, by kernel_rfl⟩
theorem good32 : Good (32, Hu.Sn.F32) := ⟨Tryd.f32, ⟨[3], [], false, [], [], []⟩, Tryd.func32, by kernel_rfl, by kernel_rfl⟩
theorem good33 : Good (33, Hu.Sn.F33) := ⟨Tryd.f33, ⟨[2, 4, 6], [], false, [], [], []⟩, Tryd.func33, by kernel_rfl, by kernel_rfl⟩
theorem good34 : Good (34, Hu.Sn.F34) := ⟨Tryd.f34, ⟨[2, 4], [], false, [], [], []⟩, Tryd.func34, by kernel_rfl, by kernel_rfl⟩
theorem good35 : Good (35, Hu.Sn.F35) := ⟨Tryd.f35, ⟨[2, 4, 6], [], false, [], [], []⟩, Tryd.func35, by kernel_rfl, by kernel_rfl⟩
theorem good36 : Good (36, Hu.Sn.F36) := ⟨Tryd.f36, ⟨[2, 4], [], false, [], [], []⟩, Tryd.func36, by kernel_rfl, by kernel_rfl⟩
theorem good37 : Good (37, Hu.Sn.F37) := ⟨Tryd.f37, ⟨[1, 3, 12, 13], [], false, [], [], []⟩, Tryd.func37, by kernel_rfl, by kernel_rfl⟩
theorem good38 : Good (38, Hu.Sn.F38) := ⟨Tryd.f38, ⟨[1, 4], [], false, [], [], []⟩, Tryd.func38, by kernel_rfl, by kernel_rfl⟩
theorem good39 : Good (39, Hu.Sn.F39) := ⟨Tryd.f39, ⟨[1], [], false, [], [], []⟩, Tryd.func39, by kernel_rfl, by kernel_rfl⟩
theorem good40 : Good (40, Hu.Sn.F40) := ⟨Tryd.f40, ⟨[1, 2, 4, 9], [], false, [], [], []⟩, Tryd.func40, by kernel_rfl, by kernel_rfl⟩
theorem good41 : Good (41, Hu.Sn.F41) := ⟨Tryd.f41, ⟨[1, 2], [], false, [], [], []⟩, Tryd.func41, by kernel_rfl, by kernel_rfl⟩
theorem good42 : Good (42, Hu.Sn.F42) := ⟨Tryd.f42, ⟨[2, 3, 8], [], false, [], [(10, false, 8, (some 2), 4, (some 4))], []⟩, Tryd.func42, by kernel_rfl, by kernel_rfl⟩
theorem good43 : Good (43, Hu.Sn.F43) := ⟨Tryd.f43, ⟨[2, 3], [], false, [], [], []⟩, Tryd.func43, by kernel_rfl, by kernel_rfl⟩
theorem good44 : Good (44, Hu.Sn.F44) := ⟨Tryd.f44, ⟨[], [1], false, [], [], []⟩, Tryd.func44, by kernel_rfl, by kernel_rfl⟩
theorem good45 : Good (45, Hu.Sn.F45) := ⟨Tryd.f45, ⟨[1], [], false, [], [], []⟩, Tryd.func45, by kernel_rfl, by kernel_rfl⟩
theorem good46 : Good (46, Hu.Sn.F46) := ⟨Tryd.f46, ⟨[], [], false, [], [], []⟩, Tryd.func46, by kernel_rfl, by kernel_rfl⟩
theorem good51 : Good (51, Hu.Sn.F51) := ⟨Tryd.f51, ⟨[], [], false, [], [], []⟩, Tryd.func51, by kernel_rfl, by kernel_rfl⟩
theorem good52 : Good (52, Hu.Sn.F52) := ⟨Tryd.f52, ⟨[2], [], false, [], [], []⟩, Tryd.func52, by kernel_rfl, by kernel_rfl⟩
theorem good53 : Good (53, Hu.Sn.F53) := ⟨Tryd.f53, ⟨[5, 6], [], false, [], [], []⟩, Tryd.func53, by kernel_rfl, by kernel_rfl⟩
theorem good54 : Good (54, Hu.Sn.F54) := ⟨Tryd.f54, ⟨[3], [], false, [], [], []⟩, Tryd.func54, by kernel_rfl, by kernel_rfl⟩
theorem good68 : Good (68, Hu.Sn.F68) := ⟨Tryd.f68, ⟨[4], [], false, [], [], []⟩, Tryd.func68, by kernel_rfl, by kernel_rfl⟩
theorem good72 : Good (72, Hu.Sn.F72) := ⟨Tryd.f72, ⟨[], [], false, [], [], []⟩, Tryd.func72, by kernel_rfl, by kernel_rfl⟩
theorem good73 : Good (73, Hu.Sn.F73) := ⟨Tryd.f73, ⟨[], [], false, [], [], []⟩, Tryd.func73, by kernel_rfl, by kernel_rfl⟩
theorem good74 : Good (74, Hu.Sn.F74) := ⟨Tryd.f74, ⟨[2], [], false, [], [], []⟩, Tryd.func74, by kernel_rfl, by kernel_rfl⟩
theorem good75 : Good (75, Hu.Sn.F75) := ⟨Tryd.f75, ⟨[0], [], false, [], [], []⟩, Tryd.func75, by kernel_rfl, by kernel_rfl⟩
theorem good76 : Good (76, Hu.Sn.F76) := ⟨Tryd.f76, ⟨[0], [], false, [], [], []⟩, Tryd.func76, by kernel_rfl, by kernel_rfl⟩
theorem good101 : Good (101, Hu.Sn.F101) := ⟨Tryd.f101, ⟨[], [], false, [], [], []⟩, Tryd.func101, by kernel_rfl, by kernel_rfl⟩
theorem good110 : Good (110, Hu.Sn.F110) := ⟨Tryd.f110, ⟨[1, 2, 3, 5], [], false, [], [], []⟩, Tryd.func110, by kernel_rfl, by kernel_rfl⟩
theorem good111 : Good (111, Hu.Sn.F111) := ⟨Tryd.f111, ⟨[1], [], false, [], [], []⟩, Tryd.func111, by kernel_rfl, by kernel_rfl⟩
theorem good112 : Good (112, Hu.Sn.F112) := ⟨Tryd.f112, ⟨[1], [], false, [], [], []⟩, Tryd.func112, by kernel_rfl, by kernel_rfl⟩
theorem good113 : Good (113, Hu.Sn.F113) := ⟨Tryd.f113, ⟨[2], [], false, [], [], []⟩, Tryd.func113, by kernel_rfl, by kernel_rfl⟩
theorem good114 : Good (114, Hu.Sn.F114) := ⟨Tryd.f114, ⟨[1], [], false, [], [], []⟩, Tryd.func114, by kernel_rfl, by kernel_rfl⟩
theorem good115 : Good (115, Hu.Sn.F115) := ⟨Tryd.f115, ⟨[1], [], false, [], [], []⟩, Tryd.func115, by kernel_rfl, by kernel_rfl⟩
theorem good116 : Good (116, Hu.Sn.F116) := ⟨Tryd.f116, ⟨[2, 4, 7], [], false, [], [], []⟩, Tryd.func116, by kernel_rfl, by kernel_rfl⟩
theorem good117 : Good (117, Hu.Sn.F117) := ⟨Tryd.f117, ⟨[], [], false, [], [], []⟩, Tryd.func117, by kernel_rfl, by kernel_rfl⟩
theorem good118 : Good (118, Hu.Sn.F118) := ⟨Tryd.f118, ⟨[], [], false, [], [], []⟩, Tryd.func118, by kernel_rfl, by kernel_rfl⟩
theorem good119 : Good (119, Hu.Sn.F119) := ⟨Tryd.f119, ⟨[], [2, 3], false, [], [], []⟩, Tryd.func119, by kernel_rfl, by kernel_rfl⟩
theorem good120 : Good (120, Hu.Sn.F120) := ⟨Tryd.f120, ⟨[2], [], false, [], [], []⟩, Tryd.func120, by kernel_rfl, by kernel_rfl⟩
theorem good121 : Good (121, Hu.Sn.F121) := ⟨Tryd.f121, ⟨[2, 10], [], false, [], [], []⟩, Tryd.func121, by kernel_rfl, by kernel_rfl⟩
theorem good122 : Good (122, Hu.Sn.F122) := ⟨Tryd.f122, ⟨[3, 5, 6, 8], [], false, [], [], []⟩, Tryd.func122, by kernel_rfl, by kernel_rfl⟩
theorem good123 : Good (123, Hu.Sn.F123) := ⟨Tryd.f123, ⟨[0], [], false, [], [], []⟩, Tryd.func123, by kernel_rfl, by kernel_rfl⟩
theorem good124 : Good (124, Hu.Sn.F124) := ⟨Tryd.f124, ⟨[2, 3], [], false, [], [], []⟩, Tryd.func124, by kernel_rfl, by kernel_rfl⟩
theorem good125 : Good (125, Hu.Sn.F125) := ⟨Tryd.f125, ⟨[], [], false, [], [], []⟩, Tryd.func125, by kernel_rfl, by kernel_rfl⟩
theorem good126 : Good (126, Hu.Sn.F126) := ⟨Tryd.f126, ⟨[0], [], false, [], [], []⟩, Tryd.func126, by kernel_rfl, by kernel_rfl⟩
theorem good127 : Good (127, Hu.Sn.F127) := ⟨Tryd.f127, ⟨[], [], false, [], [], []⟩, Tryd.func127, by kernel_rfl, by kernel_rfl⟩
theorem good128 : Good (128, Hu.Sn.F128) := ⟨Tryd.f128, ⟨[9], [], false, [], [], []⟩, Tryd.func128, by kernel_rfl, by kernel_rfl⟩
theorem good129 : Good (129, Hu.Sn.F129) := ⟨Tryd.f129, ⟨[1, 3, 4], [], false, [], [], []⟩, Tryd.func129, by kernel_rfl, by kernel_rfl⟩
theorem good130 : Good (130, Hu.Sn.F130) := ⟨Tryd.f130, ⟨[2, 4], [], false, [], [], []⟩, Tryd.func130, by kernel_rfl, by kernel_rfl⟩
theorem good131 : Good (131, Hu.Sn.F131) := ⟨Tryd.f131, ⟨[2], [], false, [], [], []⟩, Tryd.func131, by kernel_rfl, by kernel_rfl⟩
theorem good132 : Good (132, Hu.Sn.F132) := ⟨Tryd.f132, ⟨[], [], false, [], [], []⟩, Tryd.func132, by kernel_rfl, by kernel_rfl⟩
theorem good133 : Good (133, Hu.Sn.F133) := ⟨Tryd.f133, ⟨[1], [], false, [], [], []⟩, Tryd.func133, by kernel_rfl, by kernel_rfl⟩
theorem good134 : Good (134, Hu.Sn.F134) := ⟨Tryd.f134, ⟨[2, 4], [], false, [], [], []⟩, Tryd.func134, by kernel_rfl, by kernel_rfl⟩
theorem good135 : Good (135, Hu.Sn.F135) := ⟨Tryd.f135, ⟨[], [], false, [25], [], []⟩, Tryd.func135, by kernel_rfl, by kernel_rfl⟩
theorem good136 : Good (136, Hu.Sn.F136) := ⟨Tryd.f136, ⟨[], [], false, [7], [], []⟩, Tryd.func136, by kernel_rfl, by kernel_rfl⟩
theorem good137 : Good (137, Hu.Sn.F137) := ⟨Tryd.f137, ⟨[2, 3, 4, 5], [], false, [], [], []⟩, Tryd.func137, by kernel_rfl, by kernel_rfl⟩
theorem good138 : Good (138, Hu.Sn.F138) := ⟨Tryd.f138, ⟨[9, 11], [2], false, [], [], []⟩, Tryd.func138, by kernel_rfl, by kernel_rfl⟩
theorem good139 : Good (139, Hu.Sn.F139) := ⟨Tryd.f139, ⟨[], [], false, [], [], []⟩, Tryd.func139, by kernel_rfl, by kernel_rfl⟩
theorem good140 : Good (140, Hu.Sn.F140) := ⟨Tryd.f140, ⟨[2, 4, 5], [], false, [], [], []⟩, Tryd.func140, by kernel_rfl, by kernel_rfl⟩
theorem good180 : Good (180, Hu.Sn.F180) := ⟨Tryd.f180, ⟨[], [], false, [], [], []⟩, Tryd.func180, by kernel_rfl, by kernel_rfl⟩
theorem good202 : Good (202, Hu.Sn.F202) := ⟨Tryd.f202, ⟨[0, 1], [], false, [], [], []⟩, Tryd.func202, by kernel_rfl, by kernel_rfl⟩
theorem good203 : Good (203, Hu.Sn.F203) := ⟨Tryd.f203, ⟨[9], [2, 1], false, [], [], []⟩, Tryd.func203, by kernel_rfl, by kernel_rfl⟩
theorem good204 : Good (204, Hu.Sn.F204) := ⟨Tryd.f204, ⟨[5], [4], false, [], [], []⟩, Tryd.func204, by kernel_rfl, by kernel_rfl⟩
theorem good205 : Good (205, Hu.Sn.F205) := ⟨Tryd.f205, ⟨[1], [], false, [], [], []⟩, Tryd.func205, by kernel_rfl, by kernel_rfl⟩
theorem good206 : Good (206, Hu.Sn.F206) := ⟨Tryd.f206, ⟨[1], [], false, [], [], []⟩, Tryd.func206, by kernel_rfl, by kernel_rfl⟩
theorem good207 : Good (207, Hu.Sn.F207) := ⟨Tryd.f207, ⟨[5, 8, 10], [], false, [], [], []⟩, Tryd.func207, by kernel_rfl, by kernel_rfl⟩
theorem good208 : Good (208, Hu.Sn.F208) := ⟨Tryd.f208, ⟨[], [1], false, [], [], []⟩, Tryd.func208, by kernel_rfl, by kernel_rfl⟩
theorem good209 : Good (209, Hu.Sn.F209) := ⟨Tryd.f209, ⟨[], [], false, [], [], []⟩, Tryd.func209, by kernel_rfl, by kernel_rfl⟩
theorem good210 : Good (210, Hu.Sn.F210) := ⟨Tryd.f210, ⟨[], [], false, [], [], []⟩, Tryd.func210, by kernel_rfl, by kernel_rfl⟩
theorem good211 : Good (211, Hu.Sn.F211) := ⟨Tryd.f211, ⟨[5, 11], [], true, [13], [], []⟩, Tryd.func211, by kernel_rfl, by kernel_rfl⟩
theorem good214 : Good (214, Hu.Sn.F214) := ⟨Tryd.f214, ⟨[], [], false, [], [], []⟩, Tryd.func214, by kernel_rfl, by kernel_rfl⟩
theorem good250 : Good (250, Hu.Sn.F250) := ⟨Tryd.f250, ⟨[], [3], false, [], [], []⟩, Tryd.func250, by kernel_rfl, by kernel_rfl⟩
theorem good251 : Good (251, Hu.Sn.F251) := ⟨Tryd.f251, ⟨[], [1], false, [], [], []⟩, Tryd.func251, by kernel_rfl, by kernel_rfl⟩
theorem good252 : Good (252, Hu.Sn.F252) := ⟨Tryd.f252, ⟨[3, 4, 6], [], false, [], [], []⟩, Tryd.func252, by kernel_rfl, by kernel_rfl⟩
theorem good323 : Good (323, Hu.Sn.F323) := ⟨Tryd.f323, ⟨[2, 4], [], false, [], [], []⟩, Tryd.func323, by kernel_rfl, by kernel_rfl⟩
theorem good324 : Good (324, Hu.Sn.F324) := ⟨Tryd.f324, ⟨[2, 4], [], false, [], [], []⟩, Tryd.func324, by kernel_rfl, by kernel_rfl⟩
theorem good325 : Good (325, Hu.Sn.F325) := ⟨Tryd.f325, ⟨[2, 4], [], false, [], [], []⟩, Tryd.func325, by kernel_rfl, by kernel_rfl⟩
theorem good326 : Good (326, Hu.Sn.F326) := ⟨Tryd.f326, ⟨[2, 4], [], false, [], [], []⟩, Tryd.func326, by kernel_rfl, by kernel_rfl⟩
theorem good327 : Good (327, Hu.Sn.F327) := ⟨Tryd.f327, ⟨[2, 4], [], false, [], [], []⟩, Tryd.func327, by kernel_rfl, by kernel_rfl⟩
theorem good : ∀ p ∈ Hu.Sn.tab, Good p := by
  simp only [Hu.Sn.tab, List.forall_mem_cons]
  exact ⟨good3, good4, good5, good6, good7, good27, good28, good29, good30, good31, good32, good33, good34, good35, good36, good37, good38, good39, good40, good41, good42, good43, good44, good45, good46, good51, good52, good53, good54, good68, good72, good73, good74, good75, good76, good101, good110, good111, good112, good113, good114, good115, good116, good117, good118, good119, good120, good121, good122, good123, good124, good125, good126, good127, good128, good129, good130, good131, good132, good133, good134, good135, good136, good137, good138, good139, good140, good180, good202, good203, good204, good205, good206, good207, good208, good209, good210, good211, good214, good250, good251, good252, good323, good324, good325, good326, good327, by simp⟩
theorem laid : Laid X Hu.Sn.prog := by
  intro f k F hn hp
  obtain rfl : f = k := Option.some.inj hn
  exact good (f, F) (look_mem hp)
end Go.Proofs.YtdpjoppdlhfidaaDoor

set_option linter.unusedVariables false
namespace Go.Proofs.YtdpjoppdlhfidaaDoor
open Go.Hu Go.ChangeShapes Go.WideShapes Go.ChangeAt Go.RowKit

theorem own : ownKnob Tryd.prog.godebug = none := by kernel_rfl
def laidL : List (String × DataW Unit) := [("huer/seine.most", Rows.laid_huer_seine_most), ("huer/seine.does", Rows.laid_huer_seine_does)]
theorem gMost : Tryd.prog.globalNamed "huer/seine.most" = some 0 := by kernel_rfl
theorem gDoes : Tryd.prog.globalNamed "huer/seine.does" = some 4 := by kernel_rfl
theorem tMost : (Tryd.prog.globals[0]?).map (·.type) = some 131 := by kernel_rfl
theorem tDoes : (Tryd.prog.globals[4]?).map (·.type) = some 306 := by kernel_rfl
theorem kids : Kids Tryd.prog (· < Tryd.prog.types.size) := kids_rows (by kernel_rfl) (by kernel_rfl)
theorem full : ∀ t e, t < Tryd.prog.types.size → Tryd.prog.underlying t = some (.slice e) → 0 < Tryd.prog.cellsOf e := slices_full_of Tryd.prog (by kernel_rfl)

theorem globs {W : World} (h : laidMetH Tryd.prog laidL W) : ∀ n cs, X.gl n = some cs → GlobOk X.nm W n cs := by
  intro n cs hn
  simp only [X] at hn
  split at hn
  · rename_i h0
    cases hn
    subst h0
    obtain ⟨g, t, cs, fuel, p, hg, ht, hv, hd⟩ := laid_ints h (name := "huer/seine.most") (d := Rows.laid_huer_seine_most) (by simp [laidL]) rfl
    obtain rfl := Option.some.inj (gMost.symm.trans hg)
    obtain rfl := Option.some.inj (tMost.symm.trans ht)
    exact glob_ints (nm := X.nm) hg hv (by kernel_rfl : Tryd.prog.underlying 131 = some (.array 5 3)) (by kernel_rfl : Tryd.prog.underlying 3 = some (.int .i64)) (by kernel_rfl) [400, 9, 0, 400, 400] rfl hd
  · split at hn
    · rename_i h0
      cases hn
      subst h0
      obtain ⟨g, t, cs, fuel, p, hg, ht, hv, hd⟩ := h.funcs (n := "huer/seine.does") (by simp only [laidL, Rows.laid_huer_seine_does]; exact List.mem_cons_of_mem _ (List.mem_cons_self ..))
      obtain rfl := Option.some.inj (gDoes.symm.trans hg)
      obtain rfl := Option.some.inj (tDoes.symm.trans ht)
      refine glob_fns (nm := X.nm) (e := 305) hg hv (by kernel_rfl : Tryd.prog.underlying 306 = some (.array 5 305)) Tryd.underlying305 (by kernel_rfl)
        [(323, [40, 104, 117, 101, 114, 47, 115, 101, 105, 110, 101, 46, 115, 116, 97, 116, 101, 41, 46, 116, 117, 99, 107], 323), (324, [40, 104, 117, 101, 114, 47, 115, 101, 105, 110, 101, 46, 115, 116, 97, 116, 101, 41, 46, 98, 114, 101, 97, 99, 104], 324),
         (325, [40, 104, 117, 101, 114, 47, 115, 101, 105, 110, 101, 46, 115, 116, 97, 116, 101, 41, 46, 109, 101, 110, 100], 325), (326, [40, 104, 117, 101, 114, 47, 115, 101, 105, 110, 101, 46, 115, 116, 97, 116, 101, 41, 46, 100, 111, 103, 115], 326), (327, [40, 104, 117, 101, 114, 47, 115, 101, 105, 110, 101, 46, 115, 116, 97, 116, 101, 41, 46, 115, 111, 117, 110, 100], 327)]
        ?_ rfl hd
      simp only [List.forall_mem_cons]
      exact ⟨⟨rfl, by simp, by kernel_rfl⟩, ⟨rfl, by simp, by kernel_rfl⟩, ⟨rfl, by simp, by kernel_rfl⟩, ⟨rfl, by simp, by kernel_rfl⟩, ⟨rfl, by simp, by kernel_rfl⟩, by simp⟩
    · cases hn
theorem door_met (os : Os) (args : Array Value) : laidMetH Tryd.prog laidL ((World.doorLaid Tryd.prog 3000 os).forCall (fun _ _ => 0) ⟨#[], args, []⟩).memory :=
  laidMetH_of_parts3 (fuel := 8) (laidMet_of_run' 8 (by kernel_rfl) (by kernel_rfl)) (by kernel_rfl) (by kernel_rfl)
end Go.Proofs.YtdpjoppdlhfidaaDoor

set_option linter.unusedSimpArgs false
set_option linter.unusedVariables false
namespace Go.Hu.Sn
attribute [local irreducible] wpS wpIs wpI
attribute [local go_sem] Nat.mul_one Nat.one_mul Nat.zero_add Nat.add_zero Nat.zero_mul and_self and_true true_and decide_true decide_false Bool.false_eq_true if_true if_false Int.cast_ofNat_Int Int.zero_le_ofNat Int.le_refl Int.reduceLT Int.reduceLE Int.reduceToNat

variable {s : St} {Q : V → St → Prop}

theorem notes_of : ∀ {xs : List V}, (∀ x ∈ xs, ∃ cs, HasF [true, true, true, true] cs ∧ x = wrap true cs) → ∃ ns : List Note, xs = notesV ns
  | [], _ => ⟨[], rfl⟩
  | x :: xs, h => by
    obtain ⟨ns, rfl⟩ := notes_of (xs := xs) fun y hy => h y (by simp [hy])
    obtain ⟨cs, hc, rfl⟩ := h x (by simp)
    obtain ⟨_, _, rfl, ⟨a, _, rfl⟩, _, _, rfl, ⟨b, _, rfl⟩, _, _, rfl, ⟨c, _, rfl⟩, _, _, rfl, ⟨d, _, rfl⟩, rfl⟩ := hc
    exact ⟨⟨a, b, c, d⟩ :: ns, rfl⟩
theorem book_of {y : List V} (h : Has [.int, .int, .sl true [true, true, true, true]] y) : ∃ b : Book, wrap true y = bookV b ∧ (b.notes.length : Int) < 9223372036854775808 := by
  obtain ⟨_, _, rfl, ⟨lo, _, rfl⟩, _, _, rfl, ⟨hi, _, rfl⟩, _, _, rfl, ⟨xs, rfl, hl, hx⟩, rfl⟩ := h
  obtain ⟨ns, rfl⟩ := notes_of hx
  rw [notesV_length] at hl
  refine ⟨⟨lo, hi, ns⟩, rfl, ?_⟩
  show (ns.length : Int) < _
  omega
theorem pair_of {y : List V} (h : Has [.int, .int] y) : ∃ a b : Int, wrap true y = .agg [.int a, .int b] := by
  obtain ⟨_, _, rfl, ⟨lo, _, rfl⟩, _, _, rfl, ⟨hi, _, rfl⟩, rfl⟩ := h
  exact ⟨lo, hi, rfl⟩
theorem note_of {y : List V} (h : Has [.int, .int, .int, .int] y) : ∃ x : Note, wrap true y = noteV x := by
  obtain ⟨_, _, rfl, ⟨a, _, rfl⟩, _, _, rfl, ⟨b, _, rfl⟩, _, _, rfl, ⟨c, _, rfl⟩, _, _, rfl, ⟨d, _, rfl⟩, rfl⟩ := h
  exact ⟨⟨a, b, c, d⟩, rfl⟩
theorem Answer.unique {e : Int} {S : Int → Prop} {a b c d : Int} (h : Answer e S a b) (h' : Answer e S c d) : a = c ∧ b = d := by
  unfold Answer at h h'
  by_cases he : e = 0
  · rw [if_pos he] at h h'
    exact h.unique h'
  · rw [if_neg he] at h h'
    omega

end Go.Hu.Sn
