/-
  The pure code is what the functions of the translation are compiled to: closed facts.
-/
import Derived.Test.YtdpjoppdlhfidaaDoorRows
import Derived.Test.YtdpjoppdlhfidaaDoorOa
import Derived.Test.YtdpjoppdlhfidaaDoorMc
import Derived.Test.YtdpjoppdlhfidaaDoorCards
import Derived.Test.YtdpjoppdlhfidaaDoorTie
import Derived.Stop.Joined
import Derived.Test.YtdpjoppdlhfidaaDoorG
import Derived.Test.YtdpjoppdlhfidaaDoorOb
namespace Go.Proofs.YtdpjoppdlhfidaaDoor
open Go.Hu

noncomputable def X : Ctx := { P := Tryd.prog, nm := some, gl := fun g => if g = 0 then some [.int 400, .int 9, .int 0, .int 400, .int 400] else if g = 4 then some [.fn 323 [] [], .fn 324 [] [], .fn 325 [] [], .fn 326 [] [], .fn 327 [] []] else none }
theorem follows : X.P.follows .mixedOrders = true := by kernel_rfl
def Good (p : Nat × PFunc) : Prop := ∃ fn h, X.P.funcs[p.1]? = some fn ∧ (fn.name == "runtime.NumGoroutine") = false ∧ compileF X h fn = some p.2
theorem good3 : Good (3, Hu.Sn.F3) := ⟨Tryd.f3, ⟨[2, 3, 9, 10], [], false, [], [], []⟩, Tryd.func3, by kernel_rfl, by kernel_rfl⟩
theorem good4 : Good (4, Hu.Sn.F4) := ⟨Tryd.f4, ⟨[2, 3, 9, 10], [], false, [], [], []⟩, Tryd.func4, by kernel_rfl, by kernel_rfl⟩
theorem good5 : Good (5, Hu.Sn.F5) := ⟨Tryd.f5, ⟨[1], [], false, [], [], []⟩, Tryd.func5, by kernel_rfl, by kernel_rfl⟩
theorem good6 : Good (6, Hu.Sn.F6) := ⟨Tryd.f6, ⟨[3, 7, 8, 14, 19, 21], [], false, [], [], []⟩, Tryd.func6, by kernel_rfl, by kernel_rfl⟩
theorem good7 : Good (7, Hu.Sn.F7) := ⟨Tryd.f7, ⟨[2, 3, 6, 8], [], false, [], [], []⟩, Tryd.func7, by kernel_rfl, by kernel_rfl⟩
theorem good8 : Good (8, Hu.Sn.F8) := ⟨Tryd.f8, ⟨[3, 4, 11, 16, 18, 20, 22], [], false, [], [], []⟩, Tryd.func8, by kernel_rfl, by kernel_rfl⟩
theorem good11 : Good (11, Hu.Sn.F11) := ⟨Tryd.f11, ⟨[1, 4, 6, 8, 10, 12], [], false, [], [], []⟩, Tryd.func11, by kernel_rfl, by kernel_rfl⟩
theorem good27 : Good (27, Hu.Sn.F27) := ⟨Tryd.f27, ⟨[1], [], false, [], [], []⟩, Tryd.func27, by kernel_rfl, by kernel_rfl⟩
theorem good29 : Good (29, Hu.Sn.F29) := ⟨Tryd.f29, ⟨[1, 6], [], false, [], [], []⟩, Tryd.func29, by kernel_rfl, by kernel_rfl⟩
theorem good30 : Good (30, Hu.Sn.F30) := ⟨Tryd.f30, ⟨[1], [], false, [], [], []⟩, Tryd.func30, by kernel_rfl, by kernel_rfl⟩
theorem good31 : Good (31, Hu.Sn.F31) := ⟨Tryd.f31, ⟨[3, 5, 8, 10], [], false, [], [], []⟩, Tryd.func31, by kernel_rfl, by kernel_rfl⟩
theorem good33 : Good (33, Hu.Sn.F33) := ⟨Tryd.f33, ⟨[2, 4, 6], [], false, [], [], []⟩, Tryd.func33, by kernel_rfl, by kernel_rfl⟩
theorem good35 : Good (35, Hu.Sn.F35) := ⟨Tryd.f35, ⟨[2, 4, 6], [], false, [], [], []⟩, Tryd.func35, by kernel_rfl, by kernel_rfl⟩
theorem good37 : Good (37, Hu.Sn.F37) := ⟨Tryd.f37, ⟨[1, 3, 12, 13], [], false, [], [], []⟩, Tryd.func37, by kernel_rfl, by kernel_rfl⟩
theorem good38 : Good (38, Hu.Sn.F38) := ⟨Tryd.f38, ⟨[1, 4], [], false, [], [], []⟩, Tryd.func38, by kernel_rfl, by kernel_rfl⟩
theorem good40 : Good (40, Hu.Sn.F40) := ⟨Tryd.f40, ⟨[1, 2, 4, 9], [], false, [], [], []⟩, Tryd.func40, by kernel_rfl, by kernel_rfl⟩
theorem good42 : Good (42, Hu.Sn.F42) := ⟨Tryd.f42, ⟨[2, 3, 8], [], false, [], [(10, false, 8, (some 2), 4, (some 4))], []⟩, Tryd.func42, by kernel_rfl, by kernel_rfl⟩
theorem good44 : Good (44, Hu.Sn.F44) := ⟨Tryd.f44, ⟨[], [1], false, [], [], []⟩, Tryd.func44, by kernel_rfl, by kernel_rfl⟩
theorem good46 : Good (46, Hu.Sn.F46) := ⟨Tryd.f46, ⟨[], [], false, [], [], []⟩, Tryd.func46, by kernel_rfl, by kernel_rfl⟩
theorem good47 : Good (47, Hu.Sn.F47) := ⟨Tryd.f47, ⟨[1, 6], [], false, [], [], []⟩, Tryd.func47, by kernel_rfl, by kernel_rfl⟩
theorem good49 : Good (49, Hu.Sn.F49) := ⟨Tryd.f49, ⟨[2], [], false, [], [], []⟩, Tryd.func49, by kernel_rfl, by kernel_rfl⟩
theorem good50 : Good (50, Hu.Sn.F50) := ⟨Tryd.f50, ⟨[], [], false, [], [], []⟩, Tryd.func50, by kernel_rfl, by kernel_rfl⟩
theorem good51 : Good (51, Hu.Sn.F51) := ⟨Tryd.f51, ⟨[], [], false, [], [], []⟩, Tryd.func51, by kernel_rfl, by kernel_rfl⟩
theorem good52 : Good (52, Hu.Sn.F52) := ⟨Tryd.f52, ⟨[2], [], false, [], [], []⟩, Tryd.func52, by kernel_rfl, by kernel_rfl⟩
theorem good53 : Good (53, Hu.Sn.F53) := ⟨Tryd.f53, ⟨[5, 6], [], false, [], [], []⟩, Tryd.func53, by kernel_rfl, by kernel_rfl⟩
theorem good54 : Good (54, Hu.Sn.F54) := ⟨Tryd.f54, ⟨[3], [], false, [], [], []⟩, Tryd.func54, by kernel_rfl, by kernel_rfl⟩
theorem good55 : Good (55, Hu.Sn.F55) := ⟨Tryd.f55, ⟨[2, 3, 4, 5], [], false, [], [], []⟩, Tryd.func55, by kernel_rfl, by kernel_rfl⟩
theorem good56 : Good (56, Hu.Sn.F56) := ⟨Tryd.f56, ⟨[2, 3], [], false, [], [], []⟩, Tryd.func56, by kernel_rfl, by kernel_rfl⟩
theorem good68 : Good (68, Hu.Sn.F68) := ⟨Tryd.f68, ⟨[4], [], false, [], [], []⟩, Tryd.func68, by kernel_rfl, by kernel_rfl⟩
theorem good74 : Good (74, Hu.Sn.F74) := ⟨Tryd.f74, ⟨[2], [], false, [], [], []⟩, Tryd.func74, by kernel_rfl, by kernel_rfl⟩
theorem good75 : Good (75, Hu.Sn.F75) := ⟨Tryd.f75, ⟨[0], [], false, [], [], []⟩, Tryd.func75, by kernel_rfl, by kernel_rfl⟩
theorem good76 : Good (76, Hu.Sn.F76) := ⟨Tryd.f76, ⟨[0], [], false, [], [], []⟩, Tryd.func76, by kernel_rfl, by kernel_rfl⟩
theorem good110 : Good (110, Hu.Sn.F110) := ⟨Tryd.f110, ⟨[1, 2, 3, 5], [], false, [], [], []⟩, Tryd.func110, by kernel_rfl, by kernel_rfl⟩
theorem good111 : Good (111, Hu.Sn.F111) := ⟨Tryd.f111, ⟨[1], [], false, [], [], []⟩, Tryd.func111, by kernel_rfl, by kernel_rfl⟩
theorem good113 : Good (113, Hu.Sn.F113) := ⟨Tryd.f113, ⟨[2], [], false, [], [], []⟩, Tryd.func113, by kernel_rfl, by kernel_rfl⟩
theorem good114 : Good (114, Hu.Sn.F114) := ⟨Tryd.f114, ⟨[1], [], false, [], [], []⟩, Tryd.func114, by kernel_rfl, by kernel_rfl⟩
theorem good115 : Good (115, Hu.Sn.F115) := ⟨Tryd.f115, ⟨[1], [], false, [], [], []⟩, Tryd.func115, by kernel_rfl, by kernel_rfl⟩
theorem good116 : Good (116, Hu.Sn.F116) := ⟨Tryd.f116, ⟨[2, 4, 7], [], false, [], [], []⟩, Tryd.func116, by kernel_rfl, by kernel_rfl⟩
theorem good117 : Good (117, Hu.Sn.F117) := ⟨Tryd.f117, ⟨[], [], false, [], [], []⟩, Tryd.func117, by kernel_rfl, by kernel_rfl⟩
theorem good118 : Good (118, Hu.Sn.F118) := ⟨Tryd.f118, ⟨[], [], false, [], [], []⟩, Tryd.func118, by kernel_rfl, by kernel_rfl⟩
theorem good119 : Good (119, Hu.Sn.F119) := ⟨Tryd.f119, ⟨[], [2, 3], false, [], [], []⟩, Tryd.func119, by kernel_rfl, by kernel_rfl⟩
theorem good122 : Good (122, Hu.Sn.F122) := ⟨Tryd.f122, ⟨[3, 5, 6, 8], [], false, [], [], []⟩, Tryd.func122, by kernel_rfl, by kernel_rfl⟩
theorem good123 : Good (123, Hu.Sn.F123) := ⟨Tryd.f123, ⟨[0], [], false, [], [], []⟩, Tryd.func123, by kernel_rfl, by kernel_rfl⟩
theorem good126 : Good (126, Hu.Sn.F126) := ⟨Tryd.f126, ⟨[0], [], false, [], [], []⟩, Tryd.func126, by kernel_rfl, by kernel_rfl⟩
theorem good128 : Good (128, Hu.Sn.F128) := ⟨Tryd.f128, ⟨[9], [], false, [], [], []⟩, Tryd.func128, by kernel_rfl, by kernel_rfl⟩
theorem good129 : Good (129, Hu.Sn.F129) := ⟨Tryd.f129, ⟨[1, 3, 4], [], false, [], [], []⟩, Tryd.func129, by kernel_rfl, by kernel_rfl⟩
theorem good130 : Good (130, Hu.Sn.F130) := ⟨Tryd.f130, ⟨[2, 4], [], false, [], [], []⟩, Tryd.func130, by kernel_rfl, by kernel_rfl⟩
theorem good131 : Good (131, Hu.Sn.F131) := ⟨Tryd.f131, ⟨[2], [], false, [], [], []⟩, Tryd.func131, by kernel_rfl, by kernel_rfl⟩
theorem good135 : Good (135, Hu.Sn.F135) := ⟨Tryd.f135, ⟨[], [], false, [25], [], []⟩, Tryd.func135, by kernel_rfl, by kernel_rfl⟩
theorem good136 : Good (136, Hu.Sn.F136) := ⟨Tryd.f136, ⟨[], [], false, [7], [], []⟩, Tryd.func136, by kernel_rfl, by kernel_rfl⟩
theorem good138 : Good (138, Hu.Sn.F138) := ⟨Tryd.f138, ⟨[9, 11], [2], false, [], [], []⟩, Tryd.func138, by kernel_rfl, by kernel_rfl⟩
theorem good139 : Good (139, Hu.Sn.F139) := ⟨Tryd.f139, ⟨[], [], false, [], [], []⟩, Tryd.func139, by kernel_rfl, by kernel_rfl⟩
theorem good202 : Good (202, Hu.Sn.F202) := ⟨Tryd.f202, ⟨[0, 1], [], false, [], [], []⟩, Tryd.func202, by kernel_rfl, by kernel_rfl⟩
theorem good203 : Good (203, Hu.Sn.F203) := ⟨Tryd.f203, ⟨[9], [2, 1], false, [], [], []⟩, Tryd.func203, by kernel_rfl, by kernel_rfl⟩
theorem good204 : Good (204, Hu.Sn.F204) := ⟨Tryd.f204, ⟨[5], [4], false, [], [], []⟩, Tryd.func204, by kernel_rfl, by kernel_rfl⟩
theorem good205 : Good (205, Hu.Sn.F205) := ⟨Tryd.f205, ⟨[1], [], false, [], [], []⟩, Tryd.func205, by kernel_rfl, by kernel_rfl⟩
theorem good206 : Good (206, Hu.Sn.F206) := ⟨Tryd.f206, ⟨[1], [], false, [], [], []⟩, Tryd.func206, by kernel_rfl, by kernel_rfl⟩
theorem good207 : Good (207, Hu.Sn.F207) := ⟨Tryd.f207, ⟨[5, 8, 10], [], false, [], [], []⟩, Tryd.func207, by kernel_rfl, by kernel_rfl⟩
theorem good208 : Good (208, Hu.Sn.F208) := ⟨Tryd.f208, ⟨[], [1], false, [], [], []⟩, Tryd.func208, by kernel_rfl, by kernel_rfl⟩
theorem good209 : Good (209, Hu.Sn.F209) := ⟨Tryd.f209, ⟨[], [], false, [], [], []⟩, Tryd.func209, by kernel_rfl, by kernel_rfl⟩
theorem good210 : Good (210, Hu.Sn.F210) := ⟨Tryd.f210, ⟨[], [], false, [], [], []⟩, Tryd.func210, by kernel_rfl, by kernel_rfl⟩
theorem good214 : Good (214, Hu.Sn.F214) := ⟨Tryd.f214, ⟨[], [], false, [], [], []⟩, Tryd.func214, by kernel_rfl, by kernel_rfl⟩
theorem good250 : Good (250, Hu.Sn.F250) := ⟨Tryd.f250, ⟨[], [3], false, [], [], []⟩, Tryd.func250, by kernel_rfl, by kernel_rfl⟩
theorem good251 : Good (251, Hu.Sn.F251) := ⟨Tryd.f251, ⟨[], [1], false, [], [], []⟩, Tryd.func251, by kernel_rfl, by kernel_rfl⟩
theorem good323 : Good (323, Hu.Sn.F323) := ⟨Tryd.f323, ⟨[2, 4], [], false, [], [], []⟩, Tryd.func323, by kernel_rfl, by kernel_rfl⟩
theorem good324 : Good (324, Hu.Sn.F324) := ⟨Tryd.f324, ⟨[2, 4], [], false, [], [], []⟩, Tryd.func324, by kernel_rfl, by kernel_rfl⟩
theorem good325 : Good (325, Hu.Sn.F325) := ⟨Tryd.f325, ⟨[2, 4], [], false, [], [], []⟩, Tryd.func325, by kernel_rfl, by kernel_rfl⟩
theorem good326 : Good (326, Hu.Sn.F326) := ⟨Tryd.f326, ⟨[2, 4], [], false, [], [], []⟩, Tryd.func326, by kernel_rfl, by kernel_rfl⟩
theorem good327 : Good (327, Hu.Sn.F327) := ⟨Tryd.f327, ⟨[2, 4], [], false, [], [], []⟩, Tryd.func327, by kernel_rfl, by kernel_rfl⟩
theorem good : ∀ p ∈ Hu.Sn.tab, Good p := by
  simp only [Hu.Sn.tab, List.forall_mem_cons]
  exact ⟨good3, good4, good5, good6, good7, good8, good11, good27, good29, good30, good31, good33, good35, good37, good38, good40, good42, good44, good46, good47, good49, good50, good51, good52, good53, good54, good55, good56, good68, good74, good75, good76, good110, good111, good113, good114, good115, good116, good117, good118, good119, good122, good123, good126, good128, good129, good130, good131, good135, good136, good138, good139, good202, good203, good204, good205, good206, good207, good208, good209, good210, good214, good250, good251, good323, good324, good325, good326, good327, by simp⟩
theorem laid : Laid X Hu.Sn.prog := by
  intro f k F hn hp
  obtain rfl : f = k := Option.some.inj hn
  exact good (f, F) (look_mem hp)
end Go.Proofs.YtdpjoppdlhfidaaDoor

set_option linter.unusedVariables false
namespace Go.Proofs.YtdpjoppdlhfidaaDoor
open Go.Hu Go.ChangeShapes Go.WideShapes Go.ChangeAt Go.RowKit

theorem own : ownKnob Tryd.prog.godebug = none := by kernel_rfl
def laidL : List (String × DataW Unit) := [("huer/seine.most", Rows.laid_huer_seine_most), ("huer/seine.does", Rows.laid_huer_seine_does)]
theorem gMost : Tryd.prog.globalNamed "huer/seine.most" = some 0 := by kernel_rfl
theorem gDoes : Tryd.prog.globalNamed "huer/seine.does" = some 4 := by kernel_rfl
theorem tMost : (Tryd.prog.globals[0]?).map (·.type) = some 131 := by kernel_rfl
theorem tDoes : (Tryd.prog.globals[4]?).map (·.type) = some 306 := by kernel_rfl
theorem kids : Kids Tryd.prog (· < Tryd.prog.types.size) := kids_rows (by kernel_rfl) (by kernel_rfl)
theorem full : ∀ t e, t < Tryd.prog.types.size → Tryd.prog.underlying t = some (.slice e) → 0 < Tryd.prog.cellsOf e := slices_full_of Tryd.prog (by kernel_rfl)

theorem globs {W : World} (h : laidMetH Tryd.prog laidL W) : ∀ n cs, X.gl n = some cs → GlobOk X.nm W n cs := by
  intro n cs hn
  simp only [X] at hn
  split at hn
  · rename_i h0
    cases hn
    subst h0
    obtain ⟨g, t, cs, fuel, p, hg, ht, hv, hd⟩ := laid_ints h (name := "huer/seine.most") (d := Rows.laid_huer_seine_most) (by simp [laidL]) rfl
    obtain rfl := Option.some.inj (gMost.symm.trans hg)
    obtain rfl := Option.some.inj (tMost.symm.trans ht)
    exact glob_ints (nm := X.nm) hg hv (by kernel_rfl : Tryd.prog.underlying 131 = some (.array 5 3)) (by kernel_rfl : Tryd.prog.underlying 3 = some (.int .i64)) (by kernel_rfl) [400, 9, 0, 400, 400] rfl hd
  · split at hn
    · rename_i h0
      cases hn
      subst h0
      obtain ⟨g, t, cs, fuel, p, hg, ht, hv, hd⟩ := h.funcs (n := "huer/seine.does") (by simp only [laidL, Rows.laid_huer_seine_does]; exact List.mem_cons_of_mem _ (List.mem_cons_self ..))
      obtain rfl := Option.some.inj (gDoes.symm.trans hg)
      obtain rfl := Option.some.inj (tDoes.symm.trans ht)
      refine glob_fns (nm := X.nm) (e := 305) hg hv (by kernel_rfl : Tryd.prog.underlying 306 = some (.array 5 305)) Tryd.underlying305 (by kernel_rfl)
        [(323, [40, 104, 117, 101, 114, 47, 115, 101, 105, 110, 101, 46, 115, 116, 97, 116, 101, 41, 46, 116, 117, 99, 107], 323), (324, [40, 104, 117, 101, 114, 47, 115, 101, 105, 110, 101, 46, 115, 116, 97, 116, 101, 41, 46, 98, 114, 101, 97, 99, 104], 324),
         (325, [40, 104, 117, 101, 114, 47, 115, 101, 105, 110, 101, 46, 115, 116, 97, 116, 101, 41, 46, 109, 101, 110, 100], 325), (326, [40, 104, 117, 101, 114, 47, 115, 101, 105, 110, 101, 46, 115, 116, 97, 116, 101, 41, 46, 100, 111, 103, 115], 326), (327, [40, 104, 117, 101, 114, 47, 115, 101, 105, 110, 101, 46, 115, 116, 97, 116, 101, 41, 46, 115, 111, 117, 110, 100], 327)]
        ?_ rfl hd
      simp only [List.forall_mem_cons]
      exact ⟨⟨rfl, by simp, by kernel_rfl⟩, ⟨rfl, by simp, by kernel_rfl⟩, ⟨rfl, by simp, by kernel_rfl⟩, ⟨rfl, by simp, by kernel_rfl⟩, ⟨rfl, by simp, by kernel_rfl⟩, by simp⟩
    · cases hn
theorem door_met (os : Os) (args : Array Value) : laidMetH Tryd.prog laidL ((World.doorLaid Tryd.prog 3000 os).forCall (fun _ _ => 0) ⟨#[], args, []⟩).memory :=
  laidMetH_of_parts3 (fuel := 8) (laidMet_of_run' 8 (by kernel_rfl) (by kernel_rfl)) (by kernel_rfl) (by kernel_rfl)
end Go.Proofs.YtdpjoppdlhfidaaDoor

set_option linter.unusedSimpArgs false
set_option linter.unusedVariables false
namespace Go.Hu.Sn
attribute [local irreducible] wpS wpIs wpI
attribute [local go_sem] Nat.mul_one Nat.one_mul Nat.zero_add Nat.add_zero Nat.zero_mul and_self and_true true_and decide_true decide_false Bool.false_eq_true if_true if_false Int.cast_ofNat_Int Int.zero_le_ofNat Int.le_refl Int.reduceLT Int.reduceLE Int.reduceToNat

variable {s : St} {Q : V → St → Prop}

theorem notes_of : ∀ {xs : List V}, (∀ x ∈ xs, ∃ cs, HasF [true, true, true, true] cs ∧ x = wrap true cs) → ∃ ns : List Note, xs = notesV ns
  | [], _ => ⟨[], rfl⟩
  | x :: xs, h => by
    obtain ⟨ns, rfl⟩ := notes_of (xs := xs) fun y hy => h y (by simp [hy])
    obtain ⟨cs, hc, rfl⟩ := h x (by simp)
    obtain ⟨_, _, rfl, ⟨a, _, rfl⟩, _, _, rfl, ⟨b, _, rfl⟩, _, _, rfl, ⟨c, _, rfl⟩, _, _, rfl, ⟨d, _, rfl⟩, rfl⟩ := hc
    exact ⟨⟨a, b, c, d⟩ :: ns, rfl⟩
theorem book_of {y : List V} (h : Has [.int, .int, .sl true [true, true, true, true]] y) : ∃ b : Book, wrap true y = bookV b ∧ (b.notes.length : Int) < 9223372036854775808 := by
  obtain ⟨_, _, rfl, ⟨lo, _, rfl⟩, _, _, rfl, ⟨hi, _, rfl⟩, _, _, rfl, ⟨xs, rfl, hl, hx⟩, rfl⟩ := h
  obtain ⟨ns, rfl⟩ := notes_of hx
  rw [notesV_length] at hl
  refine ⟨⟨lo, hi, ns⟩, rfl, ?_⟩
  show (ns.length : Int) < _
  omega
theorem pair_of {y : List V} (h : Has [.int, .int] y) : ∃ a b : Int, wrap true y = .agg [.int a, .int b] := by
  obtain ⟨_, _, rfl, ⟨lo, _, rfl⟩, _, _, rfl, ⟨hi, _, rfl⟩, rfl⟩ := h
  exact ⟨lo, hi, rfl⟩
theorem note_of {y : List V} (h : Has [.int, .int, .int, .int] y) : ∃ x : Note, wrap true y = noteV x := by
  obtain ⟨_, _, rfl, ⟨a, _, rfl⟩, _, _, rfl, ⟨b, _, rfl⟩, _, _, rfl, ⟨c, _, rfl⟩, _, _, rfl, ⟨d, _, rfl⟩, rfl⟩ := h
  exact ⟨⟨a, b, c, d⟩, rfl⟩
theorem Answer.unique {e : Int} {S : Int → Prop} {a b c d : Int} (h : Answer e S a b) (h' : Answer e S c d) : a = c ∧ b = d := by
  unfold Answer at h h'
  by_cases he : e = 0
  · rw [if_pos he] at h h'
    exact h.unique h'
  · rw [if_neg he] at h h'
    omega

end Go.Hu.Sn

set_option linter.unusedSimpArgs false
set_option linter.unusedVariables false
namespace Go.Hu.Sn
attribute [local irreducible] wpS wpIs wpI
attribute [local go_sem] Nat.mul_one Nat.one_mul Nat.zero_add Nat.add_zero Nat.zero_mul and_self and_true true_and decide_true decide_false Bool.false_eq_true if_true if_false Int.cast_ofNat_Int Int.zero_le_ofNat Int.le_refl Int.reduceLT Int.reduceLE Int.reduceToNat

theorem hours_last : ∀ {ns : List Note} {h : Int}, okNotes h ns → ∀ n ∈ ns, n.hour ≤ hourOf h ns
  | [], _, _, n, hn => by simp at hn
  | m :: ns, h, hok, n, hn => by
    rcases List.mem_cons.1 hn with rfl | hn
    · exact (hourOf_le hok.2).1
    · exact hours_last hok.2 n hn
theorem before_all' {h : Int} : ∀ {ns : List Note}, (∀ n ∈ ns, n.hour ≤ h) → before h ns = ns ∧ later h ns = []
  | [], _ => ⟨rfl, rfl⟩
  | n :: ns, hn => by
    obtain ⟨h1, h2⟩ := before_all' (ns := ns) fun m hm => hn m (by simp [hm])
    have h3 := hn n (by simp)
    unfold before later at *
    simp only [List.takeWhile_cons, List.dropWhile_cons, h3, decide_true, if_true, h1, h2, and_self]
theorem at_end {b : Book} (hb : ok' b) {h : Int} (hh : hourOf 0 b.notes ≤ h) {y : X} : atH b h y ↔ ∃ x, run (begun b) 0 b.notes x ∧ y = pass x (h - hourOf 0 b.notes) := by
  obtain ⟨h1, h2⟩ := before_all' (ns := b.notes) (h := h) fun n hn => Int.le_trans (hours_last hb.2.2 n hn) hh
  unfold atH
  rw [h1, h2]
  exact ⟨fun h => h.1, fun h => ⟨h, y, rfl⟩⟩
theorem at_last {b : Book} (hb : ok' b) {y : X} : atH b (hourOf 0 b.notes) y ↔ run (begun b) 0 b.notes y := by
  rw [at_end hb (Int.le_refl _), Int.sub_self]
  constructor
  · rintro ⟨x, hx, rfl⟩
    rw [pass_zero (run_begun hb hb.2.2 hx).1.1]
    exact hx
  · intro hy
    exact ⟨y, hy, (pass_zero (run_begun hb hb.2.2 hy).1.1).symm⟩
/-- The book, mended behind its last note. -/
def mended (b : Book) : Book := withN b ⟨2, hourOf 0 b.notes, 0, 0⟩
theorem mended_notes {b : Book} (hb : ok' b) : (mended b).notes = b.notes ++ [⟨2, hourOf 0 b.notes, 0, 0⟩] := by
  obtain ⟨h1, h2⟩ := before_all' (ns := b.notes) (h := hourOf 0 b.notes) fun n hn => hours_last hb.2.2 n hn
  unfold mended withN
  simp only [h1, h2]
theorem mended_run {b : Book} (hb : ok' b) {z : X} : run (begun b) 0 (mended b).notes z ↔ ∃ x, run (begun b) 0 b.notes x ∧ z = (x.1, 0) := by
  rw [mended_notes hb, run_append]
  simp only [run, step, Int.sub_self]
  constructor
  · rintro ⟨x, hx, m, hm, hd⟩
    rw [pass_zero (run_begun hb hb.2.2 hx).1.1] at hd
    simp [does] at hd
    exact ⟨x, hx, hd.symm⟩
  · rintro ⟨x, hx, rfl⟩
    refine ⟨x, hx, 0, by simp, ?_⟩
    rw [pass_zero (run_begun hb hb.2.2 hx).1.1]
    simp [does]
theorem mended_ok {b : Book} (hb : ok b) (h7 : b.notes.length < 8) : ok (mended b) := by
  have h1 := hourOf_le hb.2.2
  refine ⟨hb.1, by rw [mended_notes hb.ok']; simp; omega, ?_⟩
  rw [mended_notes hb.ok', okNotes_append]
  refine ⟨hb.2.2, ⟨⟨by simp, by simp only; omega, ?_⟩, Int.le_refl _⟩, trivial⟩
  unfold okSpan most
  simp
theorem mended_can {b : Book} (hb : ok' b) : can (mended b) ↔ can b := by
  constructor
  · rintro ⟨z, hz⟩
    obtain ⟨x, hx, _⟩ := (mended_run hb).1 hz
    exact ⟨x, hx⟩
  · rintro ⟨x, hx⟩
    exact ⟨_, (mended_run hb).2 ⟨x, hx, rfl⟩⟩
theorem mended_hour {b : Book} (hb : ok' b) : hourOf 0 (mended b).notes = hourOf 0 b.notes := by
  rw [mended_notes hb, hourOf_append]
  rfl
theorem mended_at {b : Book} (hb : ok b) (h7 : b.notes.length < 8) {y : X} : atH (mended b) 60 y ↔ ∃ x, run (begun b) 0 b.notes x ∧ y = (x.1, 0) := by
  have h1 := hourOf_le hb.2.2
  rw [at_end (mended_ok hb h7).ok' (by rw [mended_hour hb.ok']; omega)]
  have e : begun (mended b) = begun b := rfl
  rw [e]
  simp only [mended_run hb.ok']
  constructor
  · rintro ⟨_, ⟨x, hx, rfl⟩, rfl⟩
    refine ⟨x, hx, ?_⟩
    have := (run_begun hb.ok' hb.2.2 hx).1.1
    unfold pass
    simp only [Int.zero_mul, Prod.mk.injEq, and_true]
    omega
  · rintro ⟨x, hx, rfl⟩
    refine ⟨_, ⟨x, hx, rfl⟩, ?_⟩
    have := (run_begun hb.ok' hb.2.2 hx).1.1
    unfold pass
    simp only [Int.zero_mul, Prod.mk.injEq, and_true]
    omega

theorem saved_laws {b : Book} (hb : ok b) (h7 : b.notes.length < 8) {L sl sh tl th el eh rl rh kl kh : Int} (hL : hourOf 0 b.notes = L) (gs : Ends (fun n => ∃ x, run (begun b) 0 b.notes x ∧ save b x = n) sl sh) (gt : Ends (fun n => ∃ x, atH b L x ∧ x.1 = n) tl th)
    (ge : Ends (fun n => ∃ x, atH b 60 x ∧ x.1 = n) el eh) (gr : Ends (fun n => ∃ x, atH b L x ∧ x.2 = n) rl rh) (gk : Ends (fun n => ∃ x, atH (mended b) 60 x ∧ x.1 = n) kl kh) :
    (kl = tl ∧ kh = th) ∧ (0 ≤ sl ∧ tl - eh ≤ sl) ∧ sh ≤ th ∧ sl ≤ sh ∧ th - eh ≤ sh ∧ (¬ rh > 0 → sl = 0 ∧ sh = 0) ∧ (¬ L < 60 → sl = 0 ∧ sh = 0) ∧ (0 ≤ tl ∧ tl ≤ 400 ∧ 0 ≤ eh ∧ eh ≤ 400 ∧ 0 ≤ th ∧ th ≤ 400) := by
  have hb' := hb.ok'
  have hl60 := (hourOf_le hb.2.2).2 (by decide)
  rw [hL] at hl60
  have hS : ∀ x, run (begun b) 0 b.notes x → Sm9 x ∧ x.1 ≤ 400 := fun x hx => by
    have h1 := run_begun hb' hb.2.2 hx
    have h2 := hb.1
    unfold okSpan at h2
    exact ⟨h1.1, by omega⟩
  have hat : ∀ y, atH b L y ↔ run (begun b) 0 b.notes y := fun y => by rw [← hL]; exact at_last hb'
  have hend : ∀ y, atH b 60 y ↔ ∃ x, run (begun b) 0 b.notes x ∧ y = pass x (60 - L) := fun y => by rw [at_end hb' (by rw [hL]; exact hl60), hL]
  have hP : ∀ x, run (begun b) 0 b.notes x → 0 ≤ (pass x (60 - L)).1 ∧ (pass x (60 - L)).1 ≤ x.1 := fun x hx => by
    obtain ⟨⟨h1, _⟩, h2, _⟩ := pass_one (d := 60 - L) (hS x hx).1 (by omega)
    exact ⟨h1, h2⟩
  have hsv : ∀ x, save b x = x.1 - (pass x (60 - L)).1 := fun x => by unfold save; rw [hL]
  have t1 : ∀ x, run (begun b) 0 b.notes x → tl ≤ x.1 ∧ x.1 ≤ th := fun x hx => gt.2 _ ⟨x, (hat x).2 hx, rfl⟩
  have e1 : ∀ x, run (begun b) 0 b.notes x → el ≤ (pass x (60 - L)).1 ∧ (pass x (60 - L)).1 ≤ eh := fun x hx => ge.2 _ ⟨_, (hend _).2 ⟨x, hx, rfl⟩, rfl⟩
  have s1 : ∀ x, run (begun b) 0 b.notes x → sl ≤ save b x ∧ save b x ≤ sh := fun x hx => gs.2 _ ⟨x, hx, rfl⟩
  obtain ⟨xs, hxs, hxs'⟩ := gs.1.1
  obtain ⟨ys, hys, hys'⟩ := gs.1.2
  obtain ⟨xt, hxt, hxt'⟩ := gt.1.1
  obtain ⟨yt, hyt, hyt'⟩ := gt.1.2
  obtain ⟨ye, hye, hye'⟩ := ge.1.2
  rw [hat] at hxt hyt
  rw [hend] at hye
  obtain ⟨ze, hze, rfl⟩ := hye
  have a1 := t1 xs hxs; have a2 := e1 xs hxs; have a3 := hP xs hxs
  have b1 := t1 ys hys; have b2 := hP ys hys
  have c1 := s1 yt hyt; have c2 := e1 yt hyt
  have d1 := hS xt hxt; have d2 := hS yt hyt; have d3 := hS ze hze; have d4 := hP ze hze
  have f1 := s1 xs hxs
  rw [hsv] at hxs' hys' c1
  unfold Sm9 at d1 d2
  refine ⟨?_, ⟨by omega, by omega⟩, by omega, by omega, by omega, ?_, ?_, by omega⟩
  · refine gk.unique ⟨⟨⟨(xt.1, 0), (mended_at hb h7).2 ⟨xt, hxt, rfl⟩, hxt'⟩, ⟨(yt.1, 0), (mended_at hb h7).2 ⟨yt, hyt, rfl⟩, hyt'⟩⟩, ?_⟩
    rintro n ⟨y, hy, rfl⟩
    obtain ⟨x, hx, rfl⟩ := (mended_at hb h7).1 hy
    exact t1 x hx
  · intro hr
    have h0 : ∀ x, run (begun b) 0 b.notes x → save b x = 0 := fun x hx => by
      have h1 := (gr.2 _ ⟨x, (hat x).2 hx, rfl⟩).2
      obtain ⟨⟨h2, h3⟩, _⟩ := hS x hx
      have h4 : x.2 = 0 := by omega
      rw [hsv]
      unfold pass
      rw [h4]
      simp only [Int.zero_mul]
      omega
    have := h0 xs hxs; have := h0 ys hys
    rw [hsv] at *
    omega
  · intro hr
    have h6 : 60 - L = 0 := by omega
    have h0 : ∀ x, run (begun b) 0 b.notes x → save b x = 0 := fun x hx => by
      rw [hsv, h6, pass_zero (hS x hx).1.1]
      omega
    have := h0 xs hxs; have := h0 ys hys
    rw [hsv] at *
    omega

set_option maxRecDepth 20000 in
set_option maxHeartbeats 2000000 in
theorem pureSaved {y0 : List V} (h0 : Has [.int, .int, .sl true [true, true, true, true]] y0) : Call prog (.fn 11 [] []) [wrap true y0] (fun _ => none) fun v _ => v = .bool true := by
  obtain ⟨b, hb, hlen⟩ := book_of h0
  rw [hb]
  refine Call.fn F11 p11 rfl ?_
  simp only [F11, bookV]
  by_cases hok : ok b
  · by_cases h8 : (b.notes.length : Int) = 8
    · have h8' : ((b.notes.length : Int) == 8) = true := by simpa using h8
      repeat first|refine Wr ?_|refine Wb ?_|refine Wc ?_|refine Wd ?_|refine We ?_|refine Wf ?_|refine Wg ?_|refine Wh ?_|refine Wi ?_|refine Wj (by decide) ?_|refine Wa ?_|refine Wk ?_|refine Wl ?_|refine Wm ?_|refine Wn ?_|refine Wo ?_|refine Wp ?_|refine Wq ?_|refine Ww (by simp only[go_sem,hok,notesV_length,h8'];done) ?_|((first|refine Ws ?_|refine Wt ?_|refine Wu ?_|refine Wv (by simp only[go_sem,hok,notesV_length,h8'];done) ?_);conv=>arg 2;simp only[go_sem,hok,notesV_length,h8'])|(refine Wx (by simp only[go_sem,hok,notesV_length,h8'];rfl) (by simp only[go_sem,hok,notesV_length,h8'];rfl) ?_;first|refine c47 b hlen ?_|refine c37 fun s1 g1 => ?_)
      first|refine w_retQ ?_|refine w_endQ ?_
      conv=>arg 1;simp only[go_sem]
      exact w_res (v := .bool true) (by simp only [go_sem]) rfl
    · have h8' : ((b.notes.length : Int) == 8) = false := by simpa using h8
      have h7 : b.notes.length < 8 := by have := hok.2.1; omega
      have hL := hourOf_le hok.2.2
      have hlast : (b.notes = [] ∧ ¬ (b.notes.length : Int) > 0) ∨ ((b.notes.length : Int) > 0 ∧ w64 ((b.notes.length : Int) - 1) = (b.notes.length : Int) - 1 ∧ 0 ≤ (b.notes.length : Int) - 1 ∧ ∃ x : Note, (notesV b.notes)[((b.notes.length : Int) - 1).toNat]? = some (.agg [.int x.kind, .int x.hour, .int x.lo, .int x.hi]) ∧ x.hour = hourOf 0 b.notes) := by
        rcases List.eq_nil_or_concat b.notes with h | ⟨a, x, h⟩
        · left
          exact ⟨h, by rw [h]; simp⟩
        · right
          rw [List.concat_eq_append] at h
          have hl : (b.notes.length : Int) = a.length + 1 := by rw [h]; simp
          refine ⟨by omega, w64_id (by omega), by omega, x, ?_, ?_⟩
          · rw [show ((b.notes.length : Int) - 1) = (a.length : Int) by omega, h]
            exact notesV_at
          · rw [h, hourOf_append]
            rfl
      generalize hLe : hourOf 0 b.notes = L at hL hlast
      obtain ⟨E, hE⟩ : ∃ E, askE b True = E := ⟨_, rfl⟩
      have hE1 : askE b (0 ≤ L ∧ L ≤ 60) = E := by rw [← hE]; simp [askE, hL.1, hL.2 (by decide)]
      have hE2 : askE b ((0 : Int) ≤ 60 ∧ (60 : Int) ≤ 60) = E := by rw [← hE]; simp [askE]
      have hokm := mended_ok hok h7
      have hE3 : askE (mended b) ((0 : Int) ≤ 60 ∧ (60 : Int) ≤ 60) = E := by
        rw [← hE]
        by_cases hc : can b
        · simp [askE, hok, hokm, hc, (mended_can hok.ok').2 hc]
        · simp [askE, hok, hokm, hc, show ¬ can (mended b) from fun h => hc ((mended_can hok.ok').1 h)]
      have hlenm : ((mended b).notes.length : Int) < 9223372036854775808 := by have := hokm.2.1; omega
      rcases hlast with ⟨h1, h2⟩ | ⟨h2, h3, h4, x, h5, h6⟩
      case' inl =>
        have hL0 : L = 0 := by rw [← hLe, h1]; rfl
        repeat first|refine Wr ?_|refine Wb ?_|refine Wc ?_|refine Wd ?_|refine We ?_|refine Wf ?_|refine Wg ?_|refine Wh ?_|refine Wi ?_|refine Wj (by decide) ?_|refine Wa ?_|refine Wk ?_|refine Wl ?_|refine Wm ?_|refine Wn ?_|refine Wo ?_|refine Wp ?_|refine Wq ?_|refine Ww (by simp only[go_sem,hok,notesV_length,h8',h2];done) ?_|((first|refine Ws ?_|refine Wt ?_|refine Wu ?_|refine Wv (by simp only[go_sem,hok,notesV_length,h8',h2];done) ?_);conv=>arg 2;simp only[go_sem,hok,notesV_length,h8',h2])|(refine Wx (by simp only[go_sem,hok,notesV_length,h8',h2];rfl) (by simp only[go_sem,hok,notesV_length,h8',h2];rfl) ?_;refine c47 b hlen ?_)
        refine w_call (by simp only [go_sem]; rfl) (by simp only [go_sem]; rfl) ?_
        refine c40v (b := b) hlen hE fun sl sh s1 g1 g2 => ?_
        first|refine w_trimI [1,3,39] fun e he => ?_|refine w_trimR [1,3,39] fun e he => ?_|refine w_trimS [1,3,39] fun e he => ?_
        simp only[w_map1,w_map0,List.cons.injEq,go_sem] at he
        obtain ⟨e1,e3,e39⟩ := he
        rw [← hL0] at e3
      case' inr =>
        repeat first|refine Wr ?_|refine Wb ?_|refine Wc ?_|refine Wd ?_|refine We ?_|refine Wf ?_|refine Wg ?_|refine Wh ?_|refine Wi ?_|refine Wj (by decide) ?_|refine Wa ?_|refine Wk ?_|refine Wl ?_|refine Wm ?_|refine Wn ?_|refine Wo ?_|refine Wp ?_|refine Wq ?_|refine Ww (by simp only[go_sem,hok,notesV_length,h8',h2,h3,h4,h5,h6];done) ?_|((first|refine Ws ?_|refine Wt ?_|refine Wu ?_|refine Wv (by simp only[go_sem,hok,notesV_length,h8',h2,h3,h4,h5,h6];done) ?_);conv=>arg 2;simp only[go_sem,hok,notesV_length,h8',h2,h3,h4,h5,h6])|(refine Wx (by simp only[go_sem,hok,notesV_length,h8',h2,h3,h4,h5,h6];rfl) (by simp only[go_sem,hok,notesV_length,h8',h2,h3,h4,h5,h6];rfl) ?_;refine c47 b hlen ?_)
        refine w_call (by simp only [go_sem]; rfl) (by simp only [go_sem]; rfl) ?_
        refine c40v (b := b) hlen hE fun sl sh s1 g1 g2 => ?_
        first|refine w_trimI [1,3,39] fun e he => ?_|refine w_trimR [1,3,39] fun e he => ?_|refine w_trimS [1,3,39] fun e he => ?_
        simp only[w_map1,w_map0,List.cons.injEq,go_sem,h6] at he
        obtain ⟨e1,e3,e39⟩ := he
      all_goals
        repeat first|refine Wr ?_|refine Wb ?_|refine Wc ?_|refine Wd ?_|refine We ?_|refine Wf ?_|refine Wg ?_|refine Wh ?_|refine Wi ?_|refine Wj (by decide) ?_|refine Wa ?_|refine Wk ?_|refine Wl ?_|refine Wm ?_|refine Wn ?_|refine Wo ?_|refine Wp ?_|refine Wq ?_|refine Ww (by simp only[go_sem,e1,e3,e39];done) ?_|((first|refine Ws ?_|refine Wt ?_|refine Wu ?_|refine Wv (by simp only[go_sem,e1,e3,e39];done) ?_);conv=>arg 2;simp only[go_sem,e1,e3,e39])
        refine w_call (by simp only [go_sem, e1, e3]; rfl) (by simp only [go_sem, e1, e3]; rfl) ?_
        refine c33v (b := b) (h := L) hlen hE1 fun tl th s2 g3 g4 => ?_
        first|refine w_trimI [1,3,4,5,45] fun e he => ?_|refine w_trimR [1,3,4,5,45] fun e he => ?_|refine w_trimS [1,3,4,5,45] fun e he => ?_
        simp only[w_map1,w_map0,List.cons.injEq,go_sem,e1, e3] at he
        obtain ⟨e1,e3,e4,e5,e45⟩ := he
        repeat first|refine Wr ?_|refine Wb ?_|refine Wc ?_|refine Wd ?_|refine We ?_|refine Wf ?_|refine Wg ?_|refine Wh ?_|refine Wi ?_|refine Wj (by decide) ?_|refine Wa ?_|refine Wk ?_|refine Wl ?_|refine Wm ?_|refine Wn ?_|refine Wo ?_|refine Wp ?_|refine Wq ?_|refine Ww (by simp only[go_sem,e1,e3,e4,e5,e45];done) ?_|((first|refine Ws ?_|refine Wt ?_|refine Wu ?_|refine Wv (by simp only[go_sem,e1,e3,e4,e5,e45];done) ?_);conv=>arg 2;simp only[go_sem,e1,e3,e4,e5,e45])
        refine w_call (by simp only [go_sem, e1]; rfl) (by simp only [go_sem, e1]; rfl) ?_
        refine c33v (b := b) (h := 60) hlen hE2 fun el eh s3 g5 g6 => ?_
        first|refine w_trimI [1,3,4,5,6,7,50] fun e he => ?_|refine w_trimR [1,3,4,5,6,7,50] fun e he => ?_|refine w_trimS [1,3,4,5,6,7,50] fun e he => ?_
        simp only[w_map1,w_map0,List.cons.injEq,go_sem,e1, e3, e4, e5] at he
        obtain ⟨e1,e3,e4,e5,e6,e7,e50⟩ := he
        repeat first|refine Wr ?_|refine Wb ?_|refine Wc ?_|refine Wd ?_|refine We ?_|refine Wf ?_|refine Wg ?_|refine Wh ?_|refine Wi ?_|refine Wj (by decide) ?_|refine Wa ?_|refine Wk ?_|refine Wl ?_|refine Wm ?_|refine Wn ?_|refine Wo ?_|refine Wp ?_|refine Wq ?_|refine Ww (by simp only[go_sem,e1,e3,e4,e5,e6,e7,e50];done) ?_|((first|refine Ws ?_|refine Wt ?_|refine Wu ?_|refine Wv (by simp only[go_sem,e1,e3,e4,e5,e6,e7,e50];done) ?_);conv=>arg 2;simp only[go_sem,e1,e3,e4,e5,e6,e7,e50])
        refine w_call (by simp only [go_sem, e1, e3]; rfl) (by simp only [go_sem, e1, e3]; rfl) ?_
        refine c35v (b := b) (h := L) hlen hE1 fun rl rh s4 g7 g8 => ?_
        first|refine w_trimI [1,3,4,5,6,7,8,9,56] fun e he => ?_|refine w_trimR [1,3,4,5,6,7,8,9,56] fun e he => ?_|refine w_trimS [1,3,4,5,6,7,8,9,56] fun e he => ?_
        simp only[w_map1,w_map0,List.cons.injEq,go_sem,e1, e3, e4, e5, e6, e7] at he
        obtain ⟨e1,e3,e4,e5,e6,e7,e8,e9,e56⟩ := he
        repeat first|refine Wr ?_|refine Wb ?_|refine Wc ?_|refine Wd ?_|refine We ?_|refine Wf ?_|refine Wg ?_|refine Wh ?_|refine Wi ?_|refine Wj (by decide) ?_|refine Wa ?_|refine Wk ?_|refine Wl ?_|refine Wm ?_|refine Wn ?_|refine Wo ?_|refine Wp ?_|refine Wq ?_|refine Ww (by simp only[go_sem,e1,e3,e4,e5,e6,e7,e8,e9,e56];done) ?_|((first|refine Ws ?_|refine Wt ?_|refine Wu ?_|refine Wv (by simp only[go_sem,e1,e3,e4,e5,e6,e7,e8,e9,e56];done) ?_);conv=>arg 2;simp only[go_sem,e1,e3,e4,e5,e6,e7,e8,e9,e56])|(refine Wx (by simp only[go_sem,e1,e3,e4,e5,e6,e7,e8,e9,e56];rfl) (by simp only[go_sem,e1,e3,e4,e5,e6,e7,e8,e9,e56];rfl) ?_;first|refine c52 _ ?_|refine c53 _ _ _ _ ?_)
        have hl100 : b.notes.length ≤ 100 := by omega
        refine w_call (by simp only [go_sem]; rfl) (by simp only [go_sem]; rfl) ?_
        refine c55 b ⟨2, L, 0, 0⟩ hl100 fun s5 g9 => ?_
        rw [show withN b ⟨2, L, 0, 0⟩ = mended b by unfold mended; rw [hLe]]
        repeat first|refine Wr ?_|refine Wb ?_|refine Wc ?_|refine Wd ?_|refine We ?_|refine Wf ?_|refine Wg ?_|refine Wh ?_|refine Wi ?_|refine Wj (by decide) ?_|refine Wa ?_|refine Wk ?_|refine Wl ?_|refine Wm ?_|refine Wn ?_|refine Wo ?_|refine Wp ?_|refine Wq ?_|refine Ww (by simp only[go_sem,e1,e3,e4,e5,e6,e7,e8,e9];done) ?_|((first|refine Ws ?_|refine Wt ?_|refine Wu ?_|refine Wv (by simp only[go_sem,e1,e3,e4,e5,e6,e7,e8,e9];done) ?_);conv=>arg 2;simp only[go_sem,e1,e3,e4,e5,e6,e7,e8,e9])
        refine w_call (by simp only [go_sem]; rfl) (by simp only [go_sem]; rfl) ?_
        refine c33v (b := mended b) (h := 60) hlenm hE3 fun kl kh s6 g10 g11 => ?_
        first|refine w_trimI [3,4,5,6,7,8,9,10,11,65] fun e he => ?_|refine w_trimR [3,4,5,6,7,8,9,10,11,65] fun e he => ?_|refine w_trimS [3,4,5,6,7,8,9,10,11,65] fun e he => ?_
        simp only[w_map1,w_map0,List.cons.injEq,go_sem,e3, e4, e5, e6, e7, e8, e9] at he
        obtain ⟨e3,e4,e5,e6,e7,e8,e9,e10,e11,e65⟩ := he
        by_cases hcan : can b
        · have hE0 : E = 0 := by rw [← hE]; exact askE_ok hok trivial hcan
          subst hE0
          obtain ⟨⟨rfl, rfl⟩, ⟨q1, q2⟩, q3, q4, q5, q6, q7, q8⟩ := saved_laws hok h7 hLe g1.ends g3.ends g5.ends g7.ends g10.ends
          have z0 : ((0 : Int) == 0) = true := rfl
          obtain ⟨M, hM⟩ : ∃ M, (if kl - eh > 0 then kl - eh else 0) = M := ⟨_, rfl⟩
          have p1 : ¬ (sl < M) := by split at hM <;> omega
          have p2 : ¬ (sh > kh) := by omega
          have p3 : ¬ (sl > sh) := by omega
          have p4 : ¬ (sh < kh - eh) := by omega
          have w1 : w64 (kl - eh) = kl - eh := w64_id (by omega)
          have w2 : w64 (kh - eh) = kh - eh := w64_id (by omega)
          by_cases r1 : rh > 0
          · by_cases r2 : L < 60
            · repeat first|refine Wr ?_|refine Wb ?_|refine Wc ?_|refine Wd ?_|refine We ?_|refine Wf ?_|refine Wg ?_|refine Wh ?_|refine Wi ?_|refine Wj (by decide) ?_|refine Wa ?_|refine Wk ?_|refine Wl ?_|refine Wm ?_|refine Wn ?_|refine Wo ?_|refine Wp ?_|refine Wq ?_|refine Ww (by simp only[go_sem,z0,hM,p1,p2,p3,p4,w1,w2,r1,r2,e3,e4,e5,e6,e7,e8,e9,e10,e11,e65,bne_self_eq_false,beq_self_eq_true];done) ?_|((first|refine Ws ?_|refine Wt ?_|refine Wu ?_|refine Wv (by simp only[go_sem,z0,hM,p1,p2,p3,p4,w1,w2,r1,r2,e3,e4,e5,e6,e7,e8,e9,e10,e11,e65,bne_self_eq_false,beq_self_eq_true];done) ?_);conv=>arg 2;simp only[go_sem,z0,hM,p1,p2,p3,p4,w1,w2,r1,r2,e3,e4,e5,e6,e7,e8,e9,e10,e11,e65,bne_self_eq_false,beq_self_eq_true])|(refine Wx (by simp only[go_sem,z0,hM,p1,p2,p3,p4,w1,w2,r1,r2,e3,e4,e5,e6,e7,e8,e9,e10,e11,e65,bne_self_eq_false,beq_self_eq_true];rfl) (by simp only[go_sem,z0,hM,p1,p2,p3,p4,w1,w2,r1,r2,e3,e4,e5,e6,e7,e8,e9,e10,e11,e65,bne_self_eq_false,beq_self_eq_true];rfl) ?_;first|refine c52 _ ?_|refine c37 fun s7 g12 => ?_)
              first|refine w_retQ ?_|refine w_endQ ?_
              conv=>arg 1;simp only[go_sem]
              exact w_res (v := .bool true) (by simp only [go_sem]) rfl
            · obtain ⟨rfl, rfl⟩ := q7 r2
              repeat first|refine Wr ?_|refine Wb ?_|refine Wc ?_|refine Wd ?_|refine We ?_|refine Wf ?_|refine Wg ?_|refine Wh ?_|refine Wi ?_|refine Wj (by decide) ?_|refine Wa ?_|refine Wk ?_|refine Wl ?_|refine Wm ?_|refine Wn ?_|refine Wo ?_|refine Wp ?_|refine Wq ?_|refine Ww (by simp only[go_sem,z0,hM,p1,p2,p3,p4,w1,w2,r1,r2,e3,e4,e5,e6,e7,e8,e9,e10,e11,e65,bne_self_eq_false,beq_self_eq_true];done) ?_|((first|refine Ws ?_|refine Wt ?_|refine Wu ?_|refine Wv (by simp only[go_sem,z0,hM,p1,p2,p3,p4,w1,w2,r1,r2,e3,e4,e5,e6,e7,e8,e9,e10,e11,e65,bne_self_eq_false,beq_self_eq_true];done) ?_);conv=>arg 2;simp only[go_sem,z0,hM,p1,p2,p3,p4,w1,w2,r1,r2,e3,e4,e5,e6,e7,e8,e9,e10,e11,e65,bne_self_eq_false,beq_self_eq_true])|(refine Wx (by simp only[go_sem,z0,hM,p1,p2,p3,p4,w1,w2,r1,r2,e3,e4,e5,e6,e7,e8,e9,e10,e11,e65,bne_self_eq_false,beq_self_eq_true];rfl) (by simp only[go_sem,z0,hM,p1,p2,p3,p4,w1,w2,r1,r2,e3,e4,e5,e6,e7,e8,e9,e10,e11,e65,bne_self_eq_false,beq_self_eq_true];rfl) ?_;first|refine c52 _ ?_|refine c37 fun s7 g12 => ?_)
              first|refine w_retQ ?_|refine w_endQ ?_
              conv=>arg 1;simp only[go_sem]
              exact w_res (v := .bool true) (by simp only [go_sem]) rfl
          · obtain ⟨rfl, rfl⟩ := q6 r1
            by_cases r2 : L < 60
            · repeat first|refine Wr ?_|refine Wb ?_|refine Wc ?_|refine Wd ?_|refine We ?_|refine Wf ?_|refine Wg ?_|refine Wh ?_|refine Wi ?_|refine Wj (by decide) ?_|refine Wa ?_|refine Wk ?_|refine Wl ?_|refine Wm ?_|refine Wn ?_|refine Wo ?_|refine Wp ?_|refine Wq ?_|refine Ww (by simp only[go_sem,z0,hM,p1,p2,p3,p4,w1,w2,r1,r2,e3,e4,e5,e6,e7,e8,e9,e10,e11,e65,bne_self_eq_false,beq_self_eq_true];done) ?_|((first|refine Ws ?_|refine Wt ?_|refine Wu ?_|refine Wv (by simp only[go_sem,z0,hM,p1,p2,p3,p4,w1,w2,r1,r2,e3,e4,e5,e6,e7,e8,e9,e10,e11,e65,bne_self_eq_false,beq_self_eq_true];done) ?_);conv=>arg 2;simp only[go_sem,z0,hM,p1,p2,p3,p4,w1,w2,r1,r2,e3,e4,e5,e6,e7,e8,e9,e10,e11,e65,bne_self_eq_false,beq_self_eq_true])|(refine Wx (by simp only[go_sem,z0,hM,p1,p2,p3,p4,w1,w2,r1,r2,e3,e4,e5,e6,e7,e8,e9,e10,e11,e65,bne_self_eq_false,beq_self_eq_true];rfl) (by simp only[go_sem,z0,hM,p1,p2,p3,p4,w1,w2,r1,r2,e3,e4,e5,e6,e7,e8,e9,e10,e11,e65,bne_self_eq_false,beq_self_eq_true];rfl) ?_;first|refine c52 _ ?_|refine c37 fun s7 g12 => ?_)
              first|refine w_retQ ?_|refine w_endQ ?_
              conv=>arg 1;simp only[go_sem]
              exact w_res (v := .bool true) (by simp only [go_sem]) rfl
            · repeat first|refine Wr ?_|refine Wb ?_|refine Wc ?_|refine Wd ?_|refine We ?_|refine Wf ?_|refine Wg ?_|refine Wh ?_|refine Wi ?_|refine Wj (by decide) ?_|refine Wa ?_|refine Wk ?_|refine Wl ?_|refine Wm ?_|refine Wn ?_|refine Wo ?_|refine Wp ?_|refine Wq ?_|refine Ww (by simp only[go_sem,z0,hM,p1,p2,p3,p4,w1,w2,r1,r2,e3,e4,e5,e6,e7,e8,e9,e10,e11,e65,bne_self_eq_false,beq_self_eq_true];done) ?_|((first|refine Ws ?_|refine Wt ?_|refine Wu ?_|refine Wv (by simp only[go_sem,z0,hM,p1,p2,p3,p4,w1,w2,r1,r2,e3,e4,e5,e6,e7,e8,e9,e10,e11,e65,bne_self_eq_false,beq_self_eq_true];done) ?_);conv=>arg 2;simp only[go_sem,z0,hM,p1,p2,p3,p4,w1,w2,r1,r2,e3,e4,e5,e6,e7,e8,e9,e10,e11,e65,bne_self_eq_false,beq_self_eq_true])|(refine Wx (by simp only[go_sem,z0,hM,p1,p2,p3,p4,w1,w2,r1,r2,e3,e4,e5,e6,e7,e8,e9,e10,e11,e65,bne_self_eq_false,beq_self_eq_true];rfl) (by simp only[go_sem,z0,hM,p1,p2,p3,p4,w1,w2,r1,r2,e3,e4,e5,e6,e7,e8,e9,e10,e11,e65,bne_self_eq_false,beq_self_eq_true];rfl) ?_;first|refine c52 _ ?_|refine c37 fun s7 g12 => ?_)
              first|refine w_retQ ?_|refine w_endQ ?_
              conv=>arg 1;simp only[go_sem]
              exact w_res (v := .bool true) (by simp only [go_sem]) rfl
        · have hE0 : E = 32 := by rw [← hE]; exact askE_not hok trivial hcan
          subst hE0
          obtain ⟨rfl, rfl⟩ := g1.none (by decide)
          have z32 : ((32 : Int) == 0) = false := rfl
          have z33 : ((32 : Int) == 32) = true := rfl
          have z00 : ((0 : Int) == 0) = true := rfl
          repeat first|refine Wr ?_|refine Wb ?_|refine Wc ?_|refine Wd ?_|refine We ?_|refine Wf ?_|refine Wg ?_|refine Wh ?_|refine Wi ?_|refine Wj (by decide) ?_|refine Wa ?_|refine Wk ?_|refine Wl ?_|refine Wm ?_|refine Wn ?_|refine Wo ?_|refine Wp ?_|refine Wq ?_|refine Ww (by simp only[go_sem,z32,z33,z00,e3,e4,e5,e6,e7,e8,e9,e10,e11,e65,bne_self_eq_false,beq_self_eq_true];done) ?_|((first|refine Ws ?_|refine Wt ?_|refine Wu ?_|refine Wv (by simp only[go_sem,z32,z33,z00,e3,e4,e5,e6,e7,e8,e9,e10,e11,e65,bne_self_eq_false,beq_self_eq_true];done) ?_);conv=>arg 2;simp only[go_sem,z32,z33,z00,e3,e4,e5,e6,e7,e8,e9,e10,e11,e65,bne_self_eq_false,beq_self_eq_true])|(refine Wx (by simp only[go_sem,z32,z33,z00,e3,e4,e5,e6,e7,e8,e9,e10,e11,e65,bne_self_eq_false,beq_self_eq_true];rfl) (by simp only[go_sem,z32,z33,z00,e3,e4,e5,e6,e7,e8,e9,e10,e11,e65,bne_self_eq_false,beq_self_eq_true];rfl) ?_;first|refine c52 _ ?_|refine c37 fun s7 g12 => ?_)
          first|refine w_retQ ?_|refine w_endQ ?_
          conv=>arg 1;simp only[go_sem]
          exact w_res (v := .bool true) (by simp only [go_sem]) rfl
  · repeat first|refine Wr ?_|refine Wb ?_|refine Wc ?_|refine Wd ?_|refine We ?_|refine Wf ?_|refine Wg ?_|refine Wh ?_|refine Wi ?_|refine Wj (by decide) ?_|refine Wa ?_|refine Wk ?_|refine Wl ?_|refine Wm ?_|refine Wn ?_|refine Wo ?_|refine Wp ?_|refine Wq ?_|refine Ww (by simp only[go_sem,hok];done) ?_|((first|refine Ws ?_|refine Wt ?_|refine Wu ?_|refine Wv (by simp only[go_sem,hok];done) ?_);conv=>arg 2;simp only[go_sem,hok])|(refine Wx (by simp only[go_sem,hok];rfl) (by simp only[go_sem,hok];rfl) ?_;first|refine c47 b hlen ?_|refine c37 fun s1 g1 => ?_)
    first|refine w_retQ ?_|refine w_endQ ?_
    conv=>arg 1;simp only[go_sem]
    exact w_res (v := .bool true) (by simp only [go_sem]) rfl
end Go.Hu.Sn

set_option linter.unusedSimpArgs false
set_option linter.unusedVariables false
namespace Go.Hu.Sn
attribute [local irreducible] wpS wpIs wpI
attribute [local go_sem] Nat.mul_one Nat.one_mul Nat.zero_add Nat.add_zero Nat.zero_mul and_self and_true true_and decide_true decide_false Bool.false_eq_true if_true if_false Int.cast_ofNat_Int Int.zero_le_ofNat Int.le_refl Int.reduceLT Int.reduceLE Int.reduceToNat

variable {s : St} {Q : V → St → Prop}

theorem before_app {h : Int} : ∀ {a c : List Note}, (∀ n ∈ a, n.hour ≤ h) → (∀ n r, c = n :: r → ¬ n.hour ≤ h) → before h (a ++ c) = a ∧ later h (a ++ c) = c
  | [], [], _, _ => ⟨rfl, rfl⟩
  | [], n :: r, _, hc => by
    have h1 := hc n r rfl
    simp [before, later, List.takeWhile_cons, List.dropWhile_cons, h1]
  | n :: a, c, ha, hc => by
    obtain ⟨h1, h2⟩ := before_app (a := a) (c := c) (fun m hm => ha m (by simp [hm])) hc
    have h3 := ha n (by simp)
    simp only [before, later] at h1 h2 ⊢
    simp only [List.cons_append, List.takeWhile_cons, List.dropWhile_cons, h3, decide_true, if_true, h1, h2, and_self]
theorem sound_step {x z : X} {h : Int} {t : Note} (hk : t.kind = 4) (hs : step (· = x) h t z) : z = pass x (t.hour - h) := by
  obtain ⟨x', rfl, m, hm, hd⟩ := hs
  rw [hk] at hd
  simp [does] at hd
  exact hd.1.symm
/-- A sounding leaves what is true as it is. -/
theorem R_sound {x y : X} {h c : Int} {t : Note} {ns : List Note} (hx : Sm9 x) (hk : t.kind = 4) (h1 : h ≤ t.hour) (h2 : ∀ n r, ns = n :: r → t.hour ≤ n.hour) (h3 : t.hour ≤ c) (hr : R (· = x) h (t :: ns) c y) : R (· = x) h ns c y := by
  obtain ⟨w, hw, rfl⟩ := hr
  obtain ⟨z, hz, hw⟩ := (run_single (S := step (· = x) h t)).1 hw
  obtain rfl := sound_step hk hz
  by_cases hn : ns = []
  · subst hn
    obtain rfl : w = pass x (t.hour - h) := hw
    refine ⟨x, rfl, ?_⟩
    simp only [hourOf]
    rw [pass_pass hx.2 (by omega) (by omega)]
    congr 1
    omega
  · refine ⟨w, (run_shift hx.2 h1 h2 hn w).1 hw, ?_⟩
    show pass w (c - hourOf t.hour ns) = _
    rw [hourOf_ne hn t.hour h]
theorem alive_sound {x : X} {h : Int} {t : Note} {ns : List Note} (hx : Sm9 x) (hk : t.kind = 4) (h1 : h ≤ t.hour) (h2 : ∀ n r, ns = n :: r → t.hour ≤ n.hour) (hr : alive x h (t :: ns)) : alive x h ns := by
  obtain ⟨w, hw⟩ := hr
  obtain ⟨z, hz, hw⟩ := (run_single (S := step (· = x) h t)).1 hw
  obtain rfl := sound_step hk hz
  by_cases hn : ns = []
  · subst hn
    exact ⟨x, rfl⟩
  · exact ⟨w, (run_shift hx.2 h1 h2 hn w).1 hw⟩
theorem more_sound {b : Book} {t : Note} (hb : ok' b) (hk : t.kind = 4) (ht : 0 ≤ t.hour) {h : Int} (hh : 0 ≤ h) {y : X} (hy : atH (withN b t) h y) : atH b h y := by
  have hA := ok_before hb t.hour
  have hC := ok_later hb t.hour
  have hfC : ∀ n r, later t.hour b.notes = n :: r → t.hour ≤ n.hour := fun n r e => Int.le_of_lt (later_first e)
  have hhA := hourOf_before ht (before_all (h := t.hour) (ns := b.notes))
  by_cases hlt : h < t.hour
  · obtain ⟨e1, e2⟩ := before_two (a := h) (c := t.hour) (by omega) b.notes
    obtain ⟨f1, f2⟩ := before_app (h := h) (a := before h b.notes) (c := before t.hour (later h b.notes) ++ t :: later t.hour b.notes) before_all (fun n r e => by
      cases hB : before t.hour (later h b.notes) with
      | nil =>
        rw [hB] at e
        simp at e
        obtain ⟨rfl, _⟩ := e
        omega
      | cons m r' =>
        rw [hB] at e
        simp at e
        obtain ⟨rfl, _⟩ := e
        have := later_first (h := h) (ns := b.notes) (x := m) (r := r' ++ later t.hour b.notes) (by rw [e2, hB]; rfl)
        omega)
    have hn : (withN b t).notes = before h b.notes ++ (before t.hour (later h b.notes) ++ t :: later t.hour b.notes) := by
      show before t.hour b.notes ++ t :: later t.hour b.notes = _
      rw [e1, List.append_assoc]
    obtain ⟨g1, g2⟩ := atH_R.1 hy
    rw [hn, f1] at g1
    rw [hn, f2] at g2
    have hy1 : Sm9 y := by
      obtain ⟨z, hz, rfl⟩ := g1
      exact (pass_one (run_begun hb (ok_before hb h) hz).1 (by have := hourOf_before hh (before_all (h := h) (ns := b.notes)); omega)).1
    have hmid := mid_ok hb (a := h) (c := t.hour) (by omega)
    have hh2 := hourOf_before (h := t.hour) (h0 := h) (by omega) (before_all (h := t.hour) (ns := later h b.notes))
    refine atH_R.2 ⟨g1, ?_⟩
    obtain ⟨w, hw1, hw2⟩ := (alive_split (m := t.hour) (fun z hz => (run_one hy1 hmid hz).1.2) hh2 (fun n r e => by simp at e; rw [← e.1]; exact Int.le_refl _)).1 g2
    have hw3 := (R_one hy1 hmid hh2 hw1).1
    rw [e2]
    exact (alive_split (m := t.hour) (fun z hz => (run_one hy1 hmid hz).1.2) hh2 hfC).2 ⟨w, hw1, alive_sound hw3 hk (Int.le_refl _) hfC hw2⟩
  · obtain ⟨e1, e2⟩ := before_two (a := t.hour) (c := h) (by omega) b.notes
    obtain ⟨f1, f2⟩ := before_app (h := h) (a := before t.hour b.notes ++ t :: before h (later t.hour b.notes)) (c := later h b.notes) (fun n hn => by
      rcases List.mem_append.1 hn with hn | hn
      · have := before_all n hn; omega
      · rcases List.mem_cons.1 hn with rfl | hn
        · omega
        · exact before_all n hn) (fun n r e => by have := later_first e; omega)
    have hn : (withN b t).notes = before t.hour b.notes ++ t :: before h (later t.hour b.notes) ++ later h b.notes := by
      show before t.hour b.notes ++ t :: later t.hour b.notes = _
      conv => lhs; rw [e2]
      simp
    have hfD : ∀ n r, before h (later t.hour b.notes) = n :: r → t.hour ≤ n.hour := fun n r e => hfC n (r ++ later h b.notes) (by rw [e2, e]; rfl)
    have hS : ∀ x, run (begun (withN b t)) 0 (before t.hour b.notes) x → 0 ≤ x.2 := fun x hx => (run_begun hb hA hx).1.2
    obtain ⟨g1, g2⟩ := atH_R.1 hy
    rw [hn, f1] at g1
    rw [hn, f2] at g2
    refine atH_R.2 ⟨?_, g2⟩
    obtain ⟨w, hw1, hw2⟩ := (R_split (m := t.hour) hS hhA (fun n r e => by simp at e; rw [← e.1]; exact Int.le_refl _) (by omega)).1 g1
    have hw3 : Sm9 w := by
      obtain ⟨z, hz, rfl⟩ := hw1
      exact (pass_one (run_begun hb hA hz).1 (by omega)).1
    rw [e1]
    exact (R_split (m := t.hour) (fun x hx => (run_begun hb hA hx).1.2) hhA hfD (by omega)).2 ⟨w, hw1, R_sound hw3 hk (Int.le_refl _) hfD (by omega) hw2⟩
theorem last_notes {b : Book} {t : Note} (hb : ok' b) (hl : hourOf 0 b.notes ≤ t.hour) : (withN b t).notes = b.notes ++ [t] := by
  obtain ⟨h1, h2⟩ := before_all' (ns := b.notes) (h := t.hour) fun n hn => Int.le_trans (hours_last hb.2.2 n hn) hl
  show before t.hour b.notes ++ t :: later t.hour b.notes = _
  rw [h1, h2]
theorem run_snoc_some {S : XS} {h : Int} {ns : List Note} {t : Note} {z : X} (hr : run S h (ns ++ [t]) z) : ∃ x, run S h ns x := by
  rw [run_append] at hr
  obtain ⟨x, hx, _⟩ := hr
  exact ⟨x, hx⟩
theorem more_last {b : Book} {t : Note} (hb : ok' b) (hl : hourOf 0 b.notes ≤ t.hour) {h : Int} (hh : h < t.hour) {y : X} (hy : atH (withN b t) h y) : atH b h y := by
  obtain ⟨f1, f2⟩ := before_app (h := h) (a := before h b.notes) (c := later h b.notes ++ [t]) before_all (fun n r e => by
    cases hB : later h b.notes with
    | nil =>
      rw [hB] at e
      simp at e
      obtain ⟨rfl, _⟩ := e
      omega
    | cons m r' =>
      rw [hB] at e
      simp at e
      obtain ⟨rfl, _⟩ := e
      have := later_first hB
      omega)
  have hn : (withN b t).notes = before h b.notes ++ (later h b.notes ++ [t]) := by
    rw [last_notes hb hl, ← List.append_assoc, before_later]
  obtain ⟨g1, g2⟩ := atH_R.1 hy
  rw [hn, f1] at g1
  rw [hn, f2] at g2
  obtain ⟨z, hz⟩ := g2
  exact atH_R.2 ⟨g1, run_snoc_some hz⟩

theorem c56 (a b c d : Int) (hq : Q (.bool (decide (a ≤ c ∧ d ≤ b))) s) : Call prog (.fn 56 [] []) [.agg [.int a, .int b], .agg [.int c, .int d]] s Q := by
  refine Call.fn F56 p56 rfl ?_
  simp only [F56]
  by_cases h1 : a ≤ c
  · repeat first|refine Wr ?_|refine Wb ?_|refine Wc ?_|refine Wd ?_|refine We ?_|refine Wf ?_|refine Wg ?_|refine Wh ?_|refine Wi ?_|refine Wj (by decide) ?_|refine Wa ?_|refine Wk ?_|refine Wl ?_|refine Wm ?_|refine Wn ?_|refine Wo ?_|refine Wp ?_|refine Wq ?_|refine Ww (by simp only[go_sem,h1];done) ?_|((first|refine Ws ?_|refine Wt ?_|refine Wu ?_|refine Wv (by simp only[go_sem,h1];done) ?_);conv=>arg 2;simp only[go_sem,h1])
    first|refine w_retQ ?_|refine w_endQ ?_
    conv=>arg 1;simp only[go_sem]
    exact w_res (by simp only [go_sem, h1, true_and]) hq
  · repeat first|refine Wr ?_|refine Wb ?_|refine Wc ?_|refine Wd ?_|refine We ?_|refine Wf ?_|refine Wg ?_|refine Wh ?_|refine Wi ?_|refine Wj (by decide) ?_|refine Wa ?_|refine Wk ?_|refine Wl ?_|refine Wm ?_|refine Wn ?_|refine Wo ?_|refine Wp ?_|refine Wq ?_|refine Ww (by simp only[go_sem,h1];done) ?_|((first|refine Ws ?_|refine Wt ?_|refine Wu ?_|refine Wv (by simp only[go_sem,h1];done) ?_);conv=>arg 2;simp only[go_sem,h1])
    first|refine w_retQ ?_|refine w_endQ ?_
    conv=>arg 1;simp only[go_sem]
    exact w_res (by simp only [go_sem, h1, false_and, decide_false]) hq
theorem ends_sub {S T : Int → Prop} {a b c d : Int} (hs : Ends S a b) (ht : Ends T c d) (h : ∀ n, T n → S n) : a ≤ c ∧ d ≤ b := ⟨(hs.2 c (h c ht.1.1)).1, (hs.2 d (h d ht.1.2)).2⟩
theorem withN_bad {b : Book} {t : Note} (ht : ¬ okNote t) : ¬ ok (withN b t) := fun h => ht (okNotes_kind h.2.2 t (by show t ∈ before t.hour b.notes ++ t :: later t.hour b.notes; simp))
theorem withN_ok8 {b : Book} {t : Note} (hb : ok b) (h7 : b.notes.length < 8) (ht : okNote t) : ok (withN b t) := by
  have h1 := withN_ok hb ht
  refine ⟨h1.1, ?_, h1.2.2⟩
  have h2 := congrArg List.length (before_later t.hour b.notes)
  simp at h2
  show (before t.hour b.notes ++ t :: later t.hour b.notes).length ≤ 8
  simp
  omega

theorem c42n {b : Book} {x : Note} (hlen : (b.notes.length : Int) < 9223372036854775808) (hb : ok b) (hx : ¬ okNote x) (hq : ∀ s', s ≤ s' → Q (.tup [.bool false, .int 31]) s') : Call prog (.fn 42 [] []) [bookV b, noteV x] s Q := by
  refine c42 b x hlen fun s' hs => ?_
  rw [dec_of _ (by simp [hx] : false = true ↔ _), if_pos hb, if_neg hx]
  exact hq s' hs
theorem last_cases (ns : List Note) : (ns = [] ∧ ((ns.length : Int) == 0) = true) ∨ (((ns.length : Int) == 0) = false ∧ w64 ((ns.length : Int) - 1) = (ns.length : Int) - 1 ∧ 0 ≤ (ns.length : Int) - 1 ∧ ∃ x : Note, (notesV ns)[((ns.length : Int) - 1).toNat]? = some (.agg [.int x.kind, .int x.hour, .int x.lo, .int x.hi]) ∧ x.hour = hourOf 0 ns) ∨ ¬ (ns.length : Int) < 1000000 := by
  by_cases hl : (ns.length : Int) < 1000000
  · rcases List.eq_nil_or_concat ns with h | ⟨a, x, h⟩
    · left
      exact ⟨h, by rw [h]; rfl⟩
    · right; left
      rw [List.concat_eq_append] at h
      have hl : (ns.length : Int) = a.length + 1 := by rw [h]; simp
      refine ⟨by rw [hl]; simp; omega, w64_id (by omega), by omega, x, ?_, ?_⟩
      · rw [show ((ns.length : Int) - 1) = (a.length : Int) by omega, h]
        exact notesV_at
      · rw [h, hourOf_append]
        rfl
  · exact .inr (.inr hl)
theorem num_of {row : Bool} {y : List V} (h : Has [.int] y) : ∃ n : Int, wrap false y = .int n := by
  obtain ⟨_, _, rfl, ⟨n, _, rfl⟩, rfl⟩ := h
  exact ⟨n, rfl⟩

set_option maxRecDepth 20000 in
set_option maxHeartbeats 4000000 in
theorem pureMore {y0 y1 y2 : List V} (h0 : Has [.int, .int, .sl true [true, true, true, true]] y0) (h1 : Has [.int, .int, .int, .int] y1) (h2 : Has [.int] y2) : Call prog (.fn 8 [] []) [wrap true y0, wrap true y1, wrap false y2] (fun _ => none) fun v _ => v = .bool true := by
  obtain ⟨b, hb, hlen⟩ := book_of h0
  obtain ⟨t, ht⟩ := note_of h1
  obtain ⟨k, hk⟩ := num_of (row := false) h2
  rw [hb, ht, hk]
  refine Call.fn F8 p8 rfl ?_
  simp only [F8, bookV, noteV]
  by_cases hok : ok b
  · by_cases h8 : (b.notes.length : Int) = 8
    · have h8' : ((b.notes.length : Int) == 8) = true := by simpa using h8
      repeat first|refine Wr ?_|refine Wb ?_|refine Wc ?_|refine Wd ?_|refine We ?_|refine Wf ?_|refine Wg ?_|refine Wh ?_|refine Wi ?_|refine Wj (by decide) ?_|refine Wa ?_|refine Wk ?_|refine Wl ?_|refine Wm ?_|refine Wn ?_|refine Wo ?_|refine Wp ?_|refine Wq ?_|refine Ww (by simp only[go_sem,hok,notesV_length,h8'];done) ?_|((first|refine Ws ?_|refine Wt ?_|refine Wu ?_|refine Wv (by simp only[go_sem,hok,notesV_length,h8'];done) ?_);conv=>arg 2;simp only[go_sem,hok,notesV_length,h8'])|(refine Wx (by simp only[go_sem,hok,notesV_length,h8'];rfl) (by simp only[go_sem,hok,notesV_length,h8'];rfl) ?_;first|refine c47 b hlen ?_|refine c37 fun s1 g1 => ?_)
      first|refine w_retQ ?_|refine w_endQ ?_
      conv=>arg 1;simp only[go_sem]
      exact w_res (v := .bool true) (by simp only [go_sem]) rfl
    · have h8' : ((b.notes.length : Int) == 8) = false := by simpa using h8
      have h7 : b.notes.length < 8 := by have := hok.2.1; omega
      have hl100 : b.notes.length ≤ 100 := by omega
      have z0 : ((0 : Int) == 0) = true := rfl
      have z31 : ((31 : Int) == 31) = true := rfl
      have z30 : ((30 : Int) == 30) = true := rfl
      have z01 : ((0 : Int) == 31) = false := rfl
      obtain ⟨rb, hrb⟩ : ∃ r : Bool, r = true ↔ can b := by
        by_cases hc : can b
        · exact ⟨true, by simp [hc]⟩
        · exact ⟨false, by simp [hc]⟩
      by_cases hnt : okNote t
      · have hokx := withN_ok8 hok h7 hnt
        have hlenx : ((withN b t).notes.length : Int) < 9223372036854775808 := by have := hokx.2.1; omega
        obtain ⟨rc, hrc⟩ : ∃ r : Bool, r = true ↔ can (withN b t) := by
          by_cases hc : can (withN b t)
          · exact ⟨true, by simp [hc]⟩
          · exact ⟨false, by simp [hc]⟩
        have hth : 0 ≤ t.hour ∧ t.hour ≤ 60 := hnt.2.1
        repeat first|refine Wr ?_|refine Wb ?_|refine Wc ?_|refine Wd ?_|refine We ?_|refine Wf ?_|refine Wg ?_|refine Wh ?_|refine Wi ?_|refine Wj (by decide) ?_|refine Wa ?_|refine Wk ?_|refine Wl ?_|refine Wm ?_|refine Wn ?_|refine Wo ?_|refine Wp ?_|refine Wq ?_|refine Ww (by simp only[go_sem,hok,notesV_length,h8'];done) ?_|((first|refine Ws ?_|refine Wt ?_|refine Wu ?_|refine Wv (by simp only[go_sem,hok,notesV_length,h8'];done) ?_);conv=>arg 2;simp only[go_sem,hok,notesV_length,h8'])|(refine Wx (by simp only[go_sem,hok,notesV_length,h8'];rfl) (by simp only[go_sem,hok,notesV_length,h8'];rfl) ?_;refine c47 b hlen ?_)
        refine w_call (by simp only [go_sem]; rfl) (by simp only [go_sem]; rfl) ?_
        refine c42v (x := t) hlen hok hnt hrc fun s1 g1 => ?_
        first|refine w_trimI [2,3,4,37] fun e he => ?_|refine w_trimR [2,3,4,37] fun e he => ?_|refine w_trimS [2,3,4,37] fun e he => ?_
        simp only[w_map1,w_map0,List.cons.injEq,go_sem] at he
        obtain ⟨e2,e3,e4,e37⟩ := he
        repeat first|refine Wr ?_|refine Wb ?_|refine Wc ?_|refine Wd ?_|refine We ?_|refine Wf ?_|refine Wg ?_|refine Wh ?_|refine Wi ?_|refine Wj (by decide) ?_|refine Wa ?_|refine Wk ?_|refine Wl ?_|refine Wm ?_|refine Wn ?_|refine Wo ?_|refine Wp ?_|refine Wq ?_|refine Ww (by simp only[go_sem,e2,e3,e4,e37];done) ?_|((first|refine Ws ?_|refine Wt ?_|refine Wu ?_|refine Wv (by simp only[go_sem,e2,e3,e4,e37];done) ?_);conv=>arg 2;simp only[go_sem,e2,e3,e4,e37])
        refine w_call (by simp only [go_sem, e3]; rfl) (by simp only [go_sem, e3]; rfl) ?_
        refine c27v hlen hok hrb fun s2 g2 => ?_
        first|refine w_trimI [2,3,4,7,8,42] fun e he => ?_|refine w_trimR [2,3,4,7,8,42] fun e he => ?_|refine w_trimS [2,3,4,7,8,42] fun e he => ?_
        simp only[w_map1,w_map0,List.cons.injEq,go_sem,e2, e3, e4] at he
        obtain ⟨e2,e3,e4,e7,e8,e42⟩ := he
        repeat first|refine Wr ?_|refine Wb ?_|refine Wc ?_|refine Wd ?_|refine We ?_|refine Wf ?_|refine Wg ?_|refine Wh ?_|refine Wi ?_|refine Wj (by decide) ?_|refine Wa ?_|refine Wk ?_|refine Wl ?_|refine Wm ?_|refine Wn ?_|refine Wo ?_|refine Wp ?_|refine Wq ?_|refine Ww (by simp only[go_sem,e2,e3,e4,e7,e8,e42];done) ?_|((first|refine Ws ?_|refine Wt ?_|refine Wu ?_|refine Wv (by simp only[go_sem,e2,e3,e4,e7,e8,e42];done) ?_);conv=>arg 2;simp only[go_sem,e2,e3,e4,e7,e8,e42])
        refine w_call (by simp only [go_sem, e3, e4]; rfl) (by simp only [go_sem, e3, e4]; rfl) ?_
        refine c55 b t hl100 fun s3 g3 => ?_
        first|refine w_trimI [2,3,4,7,8,9,10,47] fun e he => ?_|refine w_trimR [2,3,4,7,8,9,10,47] fun e he => ?_|refine w_trimS [2,3,4,7,8,9,10,47] fun e he => ?_
        simp only[w_map1,w_map0,List.cons.injEq,go_sem,e2, e3, e4, e7, e8] at he
        obtain ⟨e2,e3,e4,e7,e8,e9,e10,e47⟩ := he
        simp only [bookV] at e47
        repeat first|refine Wr ?_|refine Wb ?_|refine Wc ?_|refine Wd ?_|refine We ?_|refine Wf ?_|refine Wg ?_|refine Wh ?_|refine Wi ?_|refine Wj (by decide) ?_|refine Wa ?_|refine Wk ?_|refine Wl ?_|refine Wm ?_|refine Wn ?_|refine Wo ?_|refine Wp ?_|refine Wq ?_|refine Ww (by simp only[go_sem,z01,e2,e3,e4,e7,e8,e9,e10,e47];done) ?_|((first|refine Ws ?_|refine Wt ?_|refine Wu ?_|refine Wv (by simp only[go_sem,z01,e2,e3,e4,e7,e8,e9,e10,e47];done) ?_);conv=>arg 2;simp only[go_sem,z01,e2,e3,e4,e7,e8,e9,e10,e47])
        refine w_call (by simp only [go_sem, e47]; rfl) (by simp only [go_sem, e47]; rfl) ?_
        refine c27v (b := withN b t) hlenx hokx hrc fun s4 g4 => ?_
        first|refine w_trimI [2,3,4,7,8,9,10,11,66] fun e he => ?_|refine w_trimR [2,3,4,7,8,9,10,11,66] fun e he => ?_|refine w_trimS [2,3,4,7,8,9,10,11,66] fun e he => ?_
        simp only[w_map1,w_map0,List.cons.injEq,go_sem,e2, e3, e4, e7, e8, e9, e10, e47] at he
        obtain ⟨e2,e3,e4,e7,e8,e9,e10,e11,e66⟩ := he
        have hlc : (b.notes = [] ∧ ((b.notes.length : Int) == 0) = true) ∨ (((b.notes.length : Int) == 0) = false ∧ w64 ((b.notes.length : Int) - 1) = (b.notes.length : Int) - 1 ∧ 0 ≤ (b.notes.length : Int) - 1 ∧ ∃ x : Note, (notesV b.notes)[((b.notes.length : Int) - 1).toNat]? = some (.agg [.int x.kind, .int x.hour, .int x.lo, .int x.hi]) ∧ x.hour = hourOf 0 b.notes) := by
          rcases last_cases b.notes with h | h | h
          · exact .inl h
          · exact .inr h
          · omega
        cases rc with
        | false =>
          rcases hlc with ⟨l1, l2⟩ | ⟨l2, l3, l4, x, l5, l6⟩
          · repeat first|refine Wr ?_|refine Wb ?_|refine Wc ?_|refine Wd ?_|refine We ?_|refine Wf ?_|refine Wg ?_|refine Wh ?_|refine Wi ?_|refine Wj (by decide) ?_|refine Wa ?_|refine Wk ?_|refine Wl ?_|refine Wm ?_|refine Wn ?_|refine Wo ?_|refine Wp ?_|refine Wq ?_|refine Ww (by simp only[go_sem,z0,l2,notesV_length,e2,e3,e4,e7,e8,e9,e10,e11,e66,bne_self_eq_false];done) ?_|((first|refine Ws ?_|refine Wt ?_|refine Wu ?_|refine Wv (by simp only[go_sem,z0,l2,notesV_length,e2,e3,e4,e7,e8,e9,e10,e11,e66,bne_self_eq_false];done) ?_);conv=>arg 2;simp only[go_sem,z0,l2,notesV_length,e2,e3,e4,e7,e8,e9,e10,e11,e66,bne_self_eq_false])|(refine Wx (by simp only[go_sem,z0,l2,notesV_length,e2,e3,e4,e7,e8,e9,e10,e11,e66,bne_self_eq_false];rfl) (by simp only[go_sem,z0,l2,notesV_length,e2,e3,e4,e7,e8,e9,e10,e11,e66,bne_self_eq_false];rfl) ?_;refine c37 fun s5 g5 => ?_)
            first|refine w_retQ ?_|refine w_endQ ?_
            conv=>arg 1;simp only[go_sem]
            exact w_res (v := .bool true) (by simp only [go_sem]) rfl
          · repeat first|refine Wr ?_|refine Wb ?_|refine Wc ?_|refine Wd ?_|refine We ?_|refine Wf ?_|refine Wg ?_|refine Wh ?_|refine Wi ?_|refine Wj (by decide) ?_|refine Wa ?_|refine Wk ?_|refine Wl ?_|refine Wm ?_|refine Wn ?_|refine Wo ?_|refine Wp ?_|refine Wq ?_|refine Ww (by simp only[go_sem,z0,l2,l3,l4,l5,l6,notesV_length,e2,e3,e4,e7,e8,e9,e10,e11,e66,bne_self_eq_false];done) ?_|((first|refine Ws ?_|refine Wt ?_|refine Wu ?_|refine Wv (by simp only[go_sem,z0,l2,l3,l4,l5,l6,notesV_length,e2,e3,e4,e7,e8,e9,e10,e11,e66,bne_self_eq_false];done) ?_);conv=>arg 2;simp only[go_sem,z0,l2,l3,l4,l5,l6,notesV_length,e2,e3,e4,e7,e8,e9,e10,e11,e66,bne_self_eq_false])|(refine Wx (by simp only[go_sem,z0,l2,l3,l4,l5,l6,notesV_length,e2,e3,e4,e7,e8,e9,e10,e11,e66,bne_self_eq_false];rfl) (by simp only[go_sem,z0,l2,l3,l4,l5,l6,notesV_length,e2,e3,e4,e7,e8,e9,e10,e11,e66,bne_self_eq_false];rfl) ?_;refine c37 fun s5 g5 => ?_)
            first|refine w_retQ ?_|refine w_endQ ?_
            conv=>arg 1;simp only[go_sem]
            exact w_res (v := .bool true) (by simp only [go_sem]) rfl
        | true =>
          have hcx : can (withN b t) := hrc.1 rfl
          by_cases hk4 : t.kind = 4
          · have hk4' : (t.kind == 4) = true := by simpa using hk4
            have hcb : can b := by
              obtain ⟨y, hy⟩ := atH_ne hokx.ok' hcx (Int.le_refl 0)
              exact at_can hok.ok' (Int.le_refl 0) (more_sound hok.ok' hk4 hth.1 (Int.le_refl 0) hy)
            obtain rfl : rb = true := hrb.2 hcb
            rcases hlc with ⟨l1, l2⟩ | ⟨l2, l3, l4, x, l5, l6⟩
            case' inl =>
              repeat first|refine Wr ?_|refine Wb ?_|refine Wc ?_|refine Wd ?_|refine We ?_|refine Wf ?_|refine Wg ?_|refine Wh ?_|refine Wi ?_|refine Wj (by decide) ?_|refine Wa ?_|refine Wk ?_|refine Wl ?_|refine Wm ?_|refine Wn ?_|refine Wo ?_|refine Wp ?_|refine Wq ?_|refine Ww (by simp only[go_sem,z0,l2,hk4',notesV_length,e2,e3,e4,e7,e8,e9,e10,e11,e66,bne_self_eq_false];done) ?_|((first|refine Ws ?_|refine Wt ?_|refine Wu ?_|refine Wv (by simp only[go_sem,z0,l2,hk4',notesV_length,e2,e3,e4,e7,e8,e9,e10,e11,e66,bne_self_eq_false];done) ?_);conv=>arg 2;simp only[go_sem,z0,l2,hk4',notesV_length,e2,e3,e4,e7,e8,e9,e10,e11,e66,bne_self_eq_false])
            case' inr =>
              repeat first|refine Wr ?_|refine Wb ?_|refine Wc ?_|refine Wd ?_|refine We ?_|refine Wf ?_|refine Wg ?_|refine Wh ?_|refine Wi ?_|refine Wj (by decide) ?_|refine Wa ?_|refine Wk ?_|refine Wl ?_|refine Wm ?_|refine Wn ?_|refine Wo ?_|refine Wp ?_|refine Wq ?_|refine Ww (by simp only[go_sem,z0,l2,l3,l4,l5,l6,hk4',notesV_length,e2,e3,e4,e7,e8,e9,e10,e11,e66,bne_self_eq_false];done) ?_|((first|refine Ws ?_|refine Wt ?_|refine Wu ?_|refine Wv (by simp only[go_sem,z0,l2,l3,l4,l5,l6,hk4',notesV_length,e2,e3,e4,e7,e8,e9,e10,e11,e66,bne_self_eq_false];done) ?_);conv=>arg 2;simp only[go_sem,z0,l2,l3,l4,l5,l6,hk4',notesV_length,e2,e3,e4,e7,e8,e9,e10,e11,e66,bne_self_eq_false])
            all_goals
              refine w_call (by simp only [go_sem, e2]; rfl) (by simp only [go_sem, e2]; rfl) ?_
              refine c50' k 61 (by decide) (by decide) fun h hh => ?_
              first|refine w_trimI [3,4,11,117] fun e he => ?_|refine w_trimR [3,4,11,117] fun e he => ?_|refine w_trimS [3,4,11,117] fun e he => ?_
              simp only[w_map1,w_map0,List.cons.injEq,go_sem,e3, e4, e11] at he
              obtain ⟨e3,e4,e11,e117⟩ := he
              have hh' : 0 ≤ h ∧ h ≤ 60 := by omega
              have hsub : ∀ y, atH (withN b t) h y → atH b h y := fun y hy => more_sound hok.ok' hk4 hth.1 hh'.1 hy
              repeat first|refine Wr ?_|refine Wb ?_|refine Wc ?_|refine Wd ?_|refine We ?_|refine Wf ?_|refine Wg ?_|refine Wh ?_|refine Wi ?_|refine Wj (by decide) ?_|refine Wa ?_|refine Wk ?_|refine Wl ?_|refine Wm ?_|refine Wn ?_|refine Wo ?_|refine Wp ?_|refine Wq ?_|refine Ww (by simp only[go_sem,hk4',e3,e4,e11,e117];done) ?_|((first|refine Ws ?_|refine Wt ?_|refine Wu ?_|refine Wv (by simp only[go_sem,hk4',e3,e4,e11,e117];done) ?_);conv=>arg 2;simp only[go_sem,hk4',e3,e4,e11,e117])
              have hE : askE b (0 ≤ h ∧ h ≤ 60) = 0 := askE_ok hok hh' hcb
              have hEx : askE (withN b t) (0 ≤ h ∧ h ≤ 60) = 0 := askE_ok hokx hh' hcx
              refine w_call (by simp only [go_sem, e3]; rfl) (by simp only [go_sem, e3]; rfl) ?_
              refine c33v (b := b) (h := h) hlen hE fun sl sh s5 g5 g6 => ?_
              first|refine w_trimI [3,11,15,132] fun e he => ?_|refine w_trimR [3,11,15,132] fun e he => ?_|refine w_trimS [3,11,15,132] fun e he => ?_
              simp only[w_map1,w_map0,List.cons.injEq,go_sem,e3, e11] at he
              obtain ⟨e3,e11,e15,e132⟩ := he
              repeat first|refine Wr ?_|refine Wb ?_|refine Wc ?_|refine Wd ?_|refine We ?_|refine Wf ?_|refine Wg ?_|refine Wh ?_|refine Wi ?_|refine Wj (by decide) ?_|refine Wa ?_|refine Wk ?_|refine Wl ?_|refine Wm ?_|refine Wn ?_|refine Wo ?_|refine Wp ?_|refine Wq ?_|refine Ww (by simp only[go_sem,e3,e11,e15,e132];done) ?_|((first|refine Ws ?_|refine Wt ?_|refine Wu ?_|refine Wv (by simp only[go_sem,e3,e11,e15,e132];done) ?_);conv=>arg 2;simp only[go_sem,e3,e11,e15,e132])
              refine w_call (by simp only [go_sem, e11, e15]; rfl) (by simp only [go_sem, e11, e15]; rfl) ?_
              refine c33v (b := withN b t) (h := h) hlenx hEx fun tl th s6 g7 g8 => ?_
              first|refine w_trimI [3,11,15,16,17,138] fun e he => ?_|refine w_trimR [3,11,15,16,17,138] fun e he => ?_|refine w_trimS [3,11,15,16,17,138] fun e he => ?_
              simp only[w_map1,w_map0,List.cons.injEq,go_sem,e3, e11, e15] at he
              obtain ⟨e3,e11,e15,e16,e17,e138⟩ := he
              repeat first|refine Wr ?_|refine Wb ?_|refine Wc ?_|refine Wd ?_|refine We ?_|refine Wf ?_|refine Wg ?_|refine Wh ?_|refine Wi ?_|refine Wj (by decide) ?_|refine Wa ?_|refine Wk ?_|refine Wl ?_|refine Wm ?_|refine Wn ?_|refine Wo ?_|refine Wp ?_|refine Wq ?_|refine Ww (by simp only[go_sem,e3,e11,e15,e16,e17,e138];done) ?_|((first|refine Ws ?_|refine Wt ?_|refine Wu ?_|refine Wv (by simp only[go_sem,e3,e11,e15,e16,e17,e138];done) ?_);conv=>arg 2;simp only[go_sem,e3,e11,e15,e16,e17,e138])
              refine w_call (by simp only [go_sem, e3, e15]; rfl) (by simp only [go_sem, e3, e15]; rfl) ?_
              refine c35v (b := b) (h := h) hlen hE fun ul uh s7 g9 g10 => ?_
              first|refine w_trimI [11,15,16,17,18,19,144] fun e he => ?_|refine w_trimR [11,15,16,17,18,19,144] fun e he => ?_|refine w_trimS [11,15,16,17,18,19,144] fun e he => ?_
              simp only[w_map1,w_map0,List.cons.injEq,go_sem,e11, e15, e16, e17] at he
              obtain ⟨e11,e15,e16,e17,e18,e19,e144⟩ := he
              repeat first|refine Wr ?_|refine Wb ?_|refine Wc ?_|refine Wd ?_|refine We ?_|refine Wf ?_|refine Wg ?_|refine Wh ?_|refine Wi ?_|refine Wj (by decide) ?_|refine Wa ?_|refine Wk ?_|refine Wl ?_|refine Wm ?_|refine Wn ?_|refine Wo ?_|refine Wp ?_|refine Wq ?_|refine Ww (by simp only[go_sem,e11,e15,e16,e17,e18,e19,e144];done) ?_|((first|refine Ws ?_|refine Wt ?_|refine Wu ?_|refine Wv (by simp only[go_sem,e11,e15,e16,e17,e18,e19,e144];done) ?_);conv=>arg 2;simp only[go_sem,e11,e15,e16,e17,e18,e19,e144])
              refine w_call (by simp only [go_sem, e11, e15]; rfl) (by simp only [go_sem, e11, e15]; rfl) ?_
              refine c35v (b := withN b t) (h := h) hlenx hEx fun vl vh s8 g11 g12 => ?_
              first|refine w_trimI [16,17,18,19,20,21,150] fun e he => ?_|refine w_trimR [16,17,18,19,20,21,150] fun e he => ?_|refine w_trimS [16,17,18,19,20,21,150] fun e he => ?_
              simp only[w_map1,w_map0,List.cons.injEq,go_sem,e16, e17, e18, e19] at he
              obtain ⟨e16,e17,e18,e19,e20,e21,e150⟩ := he
              have hp1 : sl ≤ tl ∧ th ≤ sh := ends_sub g5.ends g7.ends fun n ⟨y, hy, hn⟩ => ⟨y, hsub y hy, hn⟩
              have hp2 : ul ≤ vl ∧ vh ≤ uh := ends_sub g9.ends g11.ends fun n ⟨y, hy, hn⟩ => ⟨y, hsub y hy, hn⟩
              repeat first|refine Wr ?_|refine Wb ?_|refine Wc ?_|refine Wd ?_|refine We ?_|refine Wf ?_|refine Wg ?_|refine Wh ?_|refine Wi ?_|refine Wj (by decide) ?_|refine Wa ?_|refine Wk ?_|refine Wl ?_|refine Wm ?_|refine Wn ?_|refine Wo ?_|refine Wp ?_|refine Wq ?_|refine Ww (by simp only[go_sem,z0,hp1,hp2,e16,e17,e18,e19,e20,e21,e150];done) ?_|((first|refine Ws ?_|refine Wt ?_|refine Wu ?_|refine Wv (by simp only[go_sem,z0,hp1,hp2,e16,e17,e18,e19,e20,e21,e150];done) ?_);conv=>arg 2;simp only[go_sem,z0,hp1,hp2,e16,e17,e18,e19,e20,e21,e150])|(refine Wx (by simp only[go_sem,z0,hp1,hp2,e16,e17,e18,e19,e20,e21,e150];rfl) (by simp only[go_sem,z0,hp1,hp2,e16,e17,e18,e19,e20,e21,e150];rfl) ?_;first|refine c56 _ _ _ _ ?_|refine c37 fun s5 g5 => ?_)
              first|refine w_retQ ?_|refine w_endQ ?_
              conv=>arg 1;simp only[go_sem]
              exact w_res (v := .bool true) (by simp only [go_sem]) rfl
          · have hk4' : (t.kind == 4) = false := by simpa using hk4
            by_cases hla : hourOf 0 b.notes ≤ t.hour
            · have hcb : can b := by
                obtain ⟨z, hz⟩ := hcx
                rw [last_notes hok.ok' hla] at hz
                obtain ⟨x, hx⟩ := run_snoc_some hz
                exact ⟨x, hx⟩
              obtain rfl : rb = true := hrb.2 hcb
              rcases hlc with ⟨l1, l2⟩ | ⟨l2, l3, l4, x, l5, l6⟩
              case' inl =>
                repeat first|refine Wr ?_|refine Wb ?_|refine Wc ?_|refine Wd ?_|refine We ?_|refine Wf ?_|refine Wg ?_|refine Wh ?_|refine Wi ?_|refine Wj (by decide) ?_|refine Wa ?_|refine Wk ?_|refine Wl ?_|refine Wm ?_|refine Wn ?_|refine Wo ?_|refine Wp ?_|refine Wq ?_|refine Ww (by simp only[go_sem,z0,l2,hk4',notesV_length,e2,e3,e4,e7,e8,e9,e10,e11,e66,bne_self_eq_false];done) ?_|((first|refine Ws ?_|refine Wt ?_|refine Wu ?_|refine Wv (by simp only[go_sem,z0,l2,hk4',notesV_length,e2,e3,e4,e7,e8,e9,e10,e11,e66,bne_self_eq_false];done) ?_);conv=>arg 2;simp only[go_sem,z0,l2,hk4',notesV_length,e2,e3,e4,e7,e8,e9,e10,e11,e66,bne_self_eq_false])
              case' inr =>
                repeat first|refine Wr ?_|refine Wb ?_|refine Wc ?_|refine Wd ?_|refine We ?_|refine Wf ?_|refine Wg ?_|refine Wh ?_|refine Wi ?_|refine Wj (by decide) ?_|refine Wa ?_|refine Wk ?_|refine Wl ?_|refine Wm ?_|refine Wn ?_|refine Wo ?_|refine Wp ?_|refine Wq ?_|refine Ww (by simp only[go_sem,z0,l2,l3,l4,l5,l6,hla,hk4',notesV_length,e2,e3,e4,e7,e8,e9,e10,e11,e66,bne_self_eq_false];done) ?_|((first|refine Ws ?_|refine Wt ?_|refine Wu ?_|refine Wv (by simp only[go_sem,z0,l2,l3,l4,l5,l6,hla,hk4',notesV_length,e2,e3,e4,e7,e8,e9,e10,e11,e66,bne_self_eq_false];done) ?_);conv=>arg 2;simp only[go_sem,z0,l2,l3,l4,l5,l6,hla,hk4',notesV_length,e2,e3,e4,e7,e8,e9,e10,e11,e66,bne_self_eq_false])
              all_goals
                refine w_call (by simp only [go_sem, e2]; rfl) (by simp only [go_sem, e2]; rfl) ?_
                refine c50' k 61 (by decide) (by decide) fun h0 hh0 => ?_
                first|refine w_trimI [2,3,4,11,117] fun e he => ?_|refine w_trimR [2,3,4,11,117] fun e he => ?_|refine w_trimS [2,3,4,11,117] fun e he => ?_
                simp only[w_map1,w_map0,List.cons.injEq,go_sem,e2, e3, e4, e11] at he
                obtain ⟨e2,e3,e4,e11,e117⟩ := he
                by_cases hh1 : t.hour < 1
                · repeat first|refine Wr ?_|refine Wb ?_|refine Wc ?_|refine Wd ?_|refine We ?_|refine Wf ?_|refine Wg ?_|refine Wh ?_|refine Wi ?_|refine Wj (by decide) ?_|refine Wa ?_|refine Wk ?_|refine Wl ?_|refine Wm ?_|refine Wn ?_|refine Wo ?_|refine Wp ?_|refine Wq ?_|refine Ww (by simp only[go_sem,hk4',hh1,e2,e3,e4,e11,e117];done) ?_|((first|refine Ws ?_|refine Wt ?_|refine Wu ?_|refine Wv (by simp only[go_sem,hk4',hh1,e2,e3,e4,e11,e117];done) ?_);conv=>arg 2;simp only[go_sem,hk4',hh1,e2,e3,e4,e11,e117])|(refine Wx (by simp only[go_sem,hk4',hh1,e2,e3,e4,e11,e117];rfl) (by simp only[go_sem,hk4',hh1,e2,e3,e4,e11,e117];rfl) ?_;refine c37 fun s5 g5 => ?_)
                  first|refine w_retQ ?_|refine w_endQ ?_
                  conv=>arg 1;simp only[go_sem]
                  exact w_res (v := .bool true) (by simp only [go_sem]) rfl
                · repeat first|refine Wr ?_|refine Wb ?_|refine Wc ?_|refine Wd ?_|refine We ?_|refine Wf ?_|refine Wg ?_|refine Wh ?_|refine Wi ?_|refine Wj (by decide) ?_|refine Wa ?_|refine Wk ?_|refine Wl ?_|refine Wm ?_|refine Wn ?_|refine Wo ?_|refine Wp ?_|refine Wq ?_|refine Ww (by simp only[go_sem,hk4',hh1,e2,e3,e4,e11,e117];done) ?_|((first|refine Ws ?_|refine Wt ?_|refine Wu ?_|refine Wv (by simp only[go_sem,hk4',hh1,e2,e3,e4,e11,e117];done) ?_);conv=>arg 2;simp only[go_sem,hk4',hh1,e2,e3,e4,e11,e117])
                  refine w_call (by simp only [go_sem, e2, e4]; rfl) (by simp only [go_sem, e2, e4]; rfl) ?_
                  refine c50' k t.hour (by omega) (by omega) fun h hh => ?_
                  first|refine w_trimI [3,11,128] fun e he => ?_|refine w_trimR [3,11,128] fun e he => ?_|refine w_trimS [3,11,128] fun e he => ?_
                  simp only[w_map1,w_map0,List.cons.injEq,go_sem,e3, e11] at he
                  obtain ⟨e3,e11,e128⟩ := he
                  have hh' : 0 ≤ h ∧ h ≤ 60 := by omega
                  have hsub : ∀ y, atH (withN b t) h y → atH b h y := fun y hy => more_last hok.ok' hla hh.2 hy
                  repeat first|refine Wr ?_|refine Wb ?_|refine Wc ?_|refine Wd ?_|refine We ?_|refine Wf ?_|refine Wg ?_|refine Wh ?_|refine Wi ?_|refine Wj (by decide) ?_|refine Wa ?_|refine Wk ?_|refine Wl ?_|refine Wm ?_|refine Wn ?_|refine Wo ?_|refine Wp ?_|refine Wq ?_|refine Ww (by simp only[go_sem,e3,e11,e128];done) ?_|((first|refine Ws ?_|refine Wt ?_|refine Wu ?_|refine Wv (by simp only[go_sem,e3,e11,e128];done) ?_);conv=>arg 2;simp only[go_sem,e3,e11,e128])
                  have hE : askE b (0 ≤ h ∧ h ≤ 60) = 0 := askE_ok hok hh' hcb
                  have hEx : askE (withN b t) (0 ≤ h ∧ h ≤ 60) = 0 := askE_ok hokx hh' hcx
                  refine w_call (by simp only [go_sem, e3]; rfl) (by simp only [go_sem, e3]; rfl) ?_
                  refine c33v (b := b) (h := h) hlen hE fun sl sh s5 g5 g6 => ?_
                  first|refine w_trimI [3,11,15,132] fun e he => ?_|refine w_trimR [3,11,15,132] fun e he => ?_|refine w_trimS [3,11,15,132] fun e he => ?_
                  simp only[w_map1,w_map0,List.cons.injEq,go_sem,e3, e11] at he
                  obtain ⟨e3,e11,e15,e132⟩ := he
                  repeat first|refine Wr ?_|refine Wb ?_|refine Wc ?_|refine Wd ?_|refine We ?_|refine Wf ?_|refine Wg ?_|refine Wh ?_|refine Wi ?_|refine Wj (by decide) ?_|refine Wa ?_|refine Wk ?_|refine Wl ?_|refine Wm ?_|refine Wn ?_|refine Wo ?_|refine Wp ?_|refine Wq ?_|refine Ww (by simp only[go_sem,e3,e11,e15,e132];done) ?_|((first|refine Ws ?_|refine Wt ?_|refine Wu ?_|refine Wv (by simp only[go_sem,e3,e11,e15,e132];done) ?_);conv=>arg 2;simp only[go_sem,e3,e11,e15,e132])
                  refine w_call (by simp only [go_sem, e11, e15]; rfl) (by simp only [go_sem, e11, e15]; rfl) ?_
                  refine c33v (b := withN b t) (h := h) hlenx hEx fun tl th s6 g7 g8 => ?_
                  first|refine w_trimI [3,11,15,16,17,138] fun e he => ?_|refine w_trimR [3,11,15,16,17,138] fun e he => ?_|refine w_trimS [3,11,15,16,17,138] fun e he => ?_
                  simp only[w_map1,w_map0,List.cons.injEq,go_sem,e3, e11, e15] at he
                  obtain ⟨e3,e11,e15,e16,e17,e138⟩ := he
                  repeat first|refine Wr ?_|refine Wb ?_|refine Wc ?_|refine Wd ?_|refine We ?_|refine Wf ?_|refine Wg ?_|refine Wh ?_|refine Wi ?_|refine Wj (by decide) ?_|refine Wa ?_|refine Wk ?_|refine Wl ?_|refine Wm ?_|refine Wn ?_|refine Wo ?_|refine Wp ?_|refine Wq ?_|refine Ww (by simp only[go_sem,e3,e11,e15,e16,e17,e138];done) ?_|((first|refine Ws ?_|refine Wt ?_|refine Wu ?_|refine Wv (by simp only[go_sem,e3,e11,e15,e16,e17,e138];done) ?_);conv=>arg 2;simp only[go_sem,e3,e11,e15,e16,e17,e138])
                  refine w_call (by simp only [go_sem, e3, e15]; rfl) (by simp only [go_sem, e3, e15]; rfl) ?_
                  refine c35v (b := b) (h := h) hlen hE fun ul uh s7 g9 g10 => ?_
                  first|refine w_trimI [11,15,16,17,18,19,144] fun e he => ?_|refine w_trimR [11,15,16,17,18,19,144] fun e he => ?_|refine w_trimS [11,15,16,17,18,19,144] fun e he => ?_
                  simp only[w_map1,w_map0,List.cons.injEq,go_sem,e11, e15, e16, e17] at he
                  obtain ⟨e11,e15,e16,e17,e18,e19,e144⟩ := he
                  repeat first|refine Wr ?_|refine Wb ?_|refine Wc ?_|refine Wd ?_|refine We ?_|refine Wf ?_|refine Wg ?_|refine Wh ?_|refine Wi ?_|refine Wj (by decide) ?_|refine Wa ?_|refine Wk ?_|refine Wl ?_|refine Wm ?_|refine Wn ?_|refine Wo ?_|refine Wp ?_|refine Wq ?_|refine Ww (by simp only[go_sem,e11,e15,e16,e17,e18,e19,e144];done) ?_|((first|refine Ws ?_|refine Wt ?_|refine Wu ?_|refine Wv (by simp only[go_sem,e11,e15,e16,e17,e18,e19,e144];done) ?_);conv=>arg 2;simp only[go_sem,e11,e15,e16,e17,e18,e19,e144])
                  refine w_call (by simp only [go_sem, e11, e15]; rfl) (by simp only [go_sem, e11, e15]; rfl) ?_
                  refine c35v (b := withN b t) (h := h) hlenx hEx fun vl vh s8 g11 g12 => ?_
                  first|refine w_trimI [16,17,18,19,20,21,150] fun e he => ?_|refine w_trimR [16,17,18,19,20,21,150] fun e he => ?_|refine w_trimS [16,17,18,19,20,21,150] fun e he => ?_
                  simp only[w_map1,w_map0,List.cons.injEq,go_sem,e16, e17, e18, e19] at he
                  obtain ⟨e16,e17,e18,e19,e20,e21,e150⟩ := he
                  have hp1 : sl ≤ tl ∧ th ≤ sh := ends_sub g5.ends g7.ends fun n ⟨y, hy, hn⟩ => ⟨y, hsub y hy, hn⟩
                  have hp2 : ul ≤ vl ∧ vh ≤ uh := ends_sub g9.ends g11.ends fun n ⟨y, hy, hn⟩ => ⟨y, hsub y hy, hn⟩
                  repeat first|refine Wr ?_|refine Wb ?_|refine Wc ?_|refine Wd ?_|refine We ?_|refine Wf ?_|refine Wg ?_|refine Wh ?_|refine Wi ?_|refine Wj (by decide) ?_|refine Wa ?_|refine Wk ?_|refine Wl ?_|refine Wm ?_|refine Wn ?_|refine Wo ?_|refine Wp ?_|refine Wq ?_|refine Ww (by simp only[go_sem,z0,hp1,hp2,e16,e17,e18,e19,e20,e21,e150];done) ?_|((first|refine Ws ?_|refine Wt ?_|refine Wu ?_|refine Wv (by simp only[go_sem,z0,hp1,hp2,e16,e17,e18,e19,e20,e21,e150];done) ?_);conv=>arg 2;simp only[go_sem,z0,hp1,hp2,e16,e17,e18,e19,e20,e21,e150])|(refine Wx (by simp only[go_sem,z0,hp1,hp2,e16,e17,e18,e19,e20,e21,e150];rfl) (by simp only[go_sem,z0,hp1,hp2,e16,e17,e18,e19,e20,e21,e150];rfl) ?_;first|refine c56 _ _ _ _ ?_|refine c37 fun s5 g5 => ?_)
                  first|refine w_retQ ?_|refine w_endQ ?_
                  conv=>arg 1;simp only[go_sem]
                  exact w_res (v := .bool true) (by simp only [go_sem]) rfl
            · rcases hlc with ⟨l1, l2⟩ | ⟨l2, l3, l4, x, l5, l6⟩
              · exact absurd (by rw [l1]; exact hth.1) hla
              · repeat first|refine Wr ?_|refine Wb ?_|refine Wc ?_|refine Wd ?_|refine We ?_|refine Wf ?_|refine Wg ?_|refine Wh ?_|refine Wi ?_|refine Wj (by decide) ?_|refine Wa ?_|refine Wk ?_|refine Wl ?_|refine Wm ?_|refine Wn ?_|refine Wo ?_|refine Wp ?_|refine Wq ?_|refine Ww (by simp only[go_sem,z0,l2,l3,l4,l5,l6,hla,hk4',notesV_length,e2,e3,e4,e7,e8,e9,e10,e11,e66,bne_self_eq_false];done) ?_|((first|refine Ws ?_|refine Wt ?_|refine Wu ?_|refine Wv (by simp only[go_sem,z0,l2,l3,l4,l5,l6,hla,hk4',notesV_length,e2,e3,e4,e7,e8,e9,e10,e11,e66,bne_self_eq_false];done) ?_);conv=>arg 2;simp only[go_sem,z0,l2,l3,l4,l5,l6,hla,hk4',notesV_length,e2,e3,e4,e7,e8,e9,e10,e11,e66,bne_self_eq_false])|(refine Wx (by simp only[go_sem,z0,l2,l3,l4,l5,l6,hla,hk4',notesV_length,e2,e3,e4,e7,e8,e9,e10,e11,e66,bne_self_eq_false];rfl) (by simp only[go_sem,z0,l2,l3,l4,l5,l6,hla,hk4',notesV_length,e2,e3,e4,e7,e8,e9,e10,e11,e66,bne_self_eq_false];rfl) ?_;refine c37 fun s5 g5 => ?_)
                first|refine w_retQ ?_|refine w_endQ ?_
                conv=>arg 1;simp only[go_sem]
                exact w_res (v := .bool true) (by simp only [go_sem]) rfl
      · have hbad := withN_bad (b := b) hnt
        have hlenx : ((withN b t).notes.length : Int) < 9223372036854775808 := by
          have h2 := congrArg List.length (before_later t.hour b.notes)
          simp at h2
          show ((before t.hour b.notes ++ t :: later t.hour b.notes).length : Int) < _
          simp
          omega
        repeat first|refine Wr ?_|refine Wb ?_|refine Wc ?_|refine Wd ?_|refine We ?_|refine Wf ?_|refine Wg ?_|refine Wh ?_|refine Wi ?_|refine Wj (by decide) ?_|refine Wa ?_|refine Wk ?_|refine Wl ?_|refine Wm ?_|refine Wn ?_|refine Wo ?_|refine Wp ?_|refine Wq ?_|refine Ww (by simp only[go_sem,hok,notesV_length,h8'];done) ?_|((first|refine Ws ?_|refine Wt ?_|refine Wu ?_|refine Wv (by simp only[go_sem,hok,notesV_length,h8'];done) ?_);conv=>arg 2;simp only[go_sem,hok,notesV_length,h8'])|(refine Wx (by simp only[go_sem,hok,notesV_length,h8'];rfl) (by simp only[go_sem,hok,notesV_length,h8'];rfl) ?_;first|refine c47 b hlen ?_|refine c42n (x := t) hlen hok hnt fun s1 g1 => ?_)
        refine w_call (by simp only [go_sem]; rfl) (by simp only [go_sem]; rfl) ?_
        refine c27v hlen hok hrb fun s2 g2 => ?_
        first|refine w_trimI [2,3,4,7,8,42] fun e he => ?_|refine w_trimR [2,3,4,7,8,42] fun e he => ?_|refine w_trimS [2,3,4,7,8,42] fun e he => ?_
        simp only[w_map1,w_map0,List.cons.injEq,go_sem] at he
        obtain ⟨e2,e3,e4,e7,e8,e42⟩ := he
        repeat first|refine Wr ?_|refine Wb ?_|refine Wc ?_|refine Wd ?_|refine We ?_|refine Wf ?_|refine Wg ?_|refine Wh ?_|refine Wi ?_|refine Wj (by decide) ?_|refine Wa ?_|refine Wk ?_|refine Wl ?_|refine Wm ?_|refine Wn ?_|refine Wo ?_|refine Wp ?_|refine Wq ?_|refine Ww (by simp only[go_sem,e2,e3,e4,e7,e8,e42];done) ?_|((first|refine Ws ?_|refine Wt ?_|refine Wu ?_|refine Wv (by simp only[go_sem,e2,e3,e4,e7,e8,e42];done) ?_);conv=>arg 2;simp only[go_sem,e2,e3,e4,e7,e8,e42])
        refine w_call (by simp only [go_sem, e3, e4]; rfl) (by simp only [go_sem, e3, e4]; rfl) ?_
        refine c55 b t hl100 fun s3 g3 => ?_
        first|refine w_trimI [2,3,4,7,8,9,10,47] fun e he => ?_|refine w_trimR [2,3,4,7,8,9,10,47] fun e he => ?_|refine w_trimS [2,3,4,7,8,9,10,47] fun e he => ?_
        simp only[w_map1,w_map0,List.cons.injEq,go_sem,e2, e3, e4, e7, e8] at he
        obtain ⟨e2,e3,e4,e7,e8,e9,e10,e47⟩ := he
        simp only [bookV] at e47
        repeat first|refine Wr ?_|refine Wb ?_|refine Wc ?_|refine Wd ?_|refine We ?_|refine Wf ?_|refine Wg ?_|refine Wh ?_|refine Wi ?_|refine Wj (by decide) ?_|refine Wa ?_|refine Wk ?_|refine Wl ?_|refine Wm ?_|refine Wn ?_|refine Wo ?_|refine Wp ?_|refine Wq ?_|refine Ww (by simp only[go_sem,z31,z30,z0,hbad,e2,e3,e4,e7,e8,e9,e10,e47];done) ?_|((first|refine Ws ?_|refine Wt ?_|refine Wu ?_|refine Wv (by simp only[go_sem,z31,z30,z0,hbad,e2,e3,e4,e7,e8,e9,e10,e47];done) ?_);conv=>arg 2;simp only[go_sem,z31,z30,z0,hbad,e2,e3,e4,e7,e8,e9,e10,e47])|(refine Wx (by simp only[go_sem,z31,z30,z0,hbad,e2,e3,e4,e7,e8,e9,e10,e47];rfl) (by simp only[go_sem,z31,z30,z0,hbad,e2,e3,e4,e7,e8,e9,e10,e47];rfl) ?_;first|refine c29 (withN b t) hlenx ?_|refine c37 fun s1 g1 => ?_)
        first|refine w_retQ ?_|refine w_endQ ?_
        conv=>arg 1;simp only[go_sem]
        exact w_res (v := .bool true) (by simp only [go_sem]) rfl
  · repeat first|refine Wr ?_|refine Wb ?_|refine Wc ?_|refine Wd ?_|refine We ?_|refine Wf ?_|refine Wg ?_|refine Wh ?_|refine Wi ?_|refine Wj (by decide) ?_|refine Wa ?_|refine Wk ?_|refine Wl ?_|refine Wm ?_|refine Wn ?_|refine Wo ?_|refine Wp ?_|refine Wq ?_|refine Ww (by simp only[go_sem,hok];done) ?_|((first|refine Ws ?_|refine Wt ?_|refine Wu ?_|refine Wv (by simp only[go_sem,hok];done) ?_);conv=>arg 2;simp only[go_sem,hok])|(refine Wx (by simp only[go_sem,hok];rfl) (by simp only[go_sem,hok];rfl) ?_;first|refine c47 b hlen ?_|refine c37 fun s1 g1 => ?_)
    first|refine w_retQ ?_|refine w_endQ ?_
    conv=>arg 1;simp only[go_sem]
    exact w_res (v := .bool true) (by simp only [go_sem]) rfl
end Go.Hu.Sn
