/-
  The pure code is what the functions of the translation are compiled to: closed facts.
-/
import Derived.Test.YtdpjoppdlhfidaaDoorRows
import Derived.Test.YtdpjoppdlhfidaaDoorPa
import Derived.Test.YtdpjoppdlhfidaaDoorMc
import Derived.Test.YtdpjoppdlhfidaaDoorCards
import Derived.Test.YtdpjoppdlhfidaaDoorTie
import Derived.Stop.Joined
import Derived.Test.YtdpjoppdlhfidaaDoorG
import Derived.Test.YtdpjoppdlhfidaaDoorPb
namespace Go.Proofs.YtdpjoppdlhfidaaDoor
open Go.Hu

noncomputable def X : Ctx := { P := Tryd.prog, nm := some, gl := fun g => if g = 0 then some [.int 400, .int 9, .int 0, .int 400, .int 400] else if g = 4 then some [.fn 323 [] [], .fn 324 [] [], .fn 325 [] [], .fn 326 [] [], .fn 327 [] []] else none }
theorem follows : X.P.follows .mixedOrders = true := by kernel_rfl
def Good (p : Nat × PFunc) : Prop := ∃ fn h, X.P.funcs[p.1]? = some fn ∧ (fn.name == "runtime.NumGoroutine") = false ∧ compileF X h fn = some p.2
theorem good3 : Good (3, Hu.Sn.F3) := ⟨Tryd.f3, ⟨[2, 3, 9, 10], [], false, [], [], []⟩, Tryd.func3, by kernel_rfl, by kernel_rfl⟩
theorem good4 : Good (4, Hu.Sn.F4) := ⟨Tryd.f4, ⟨[2, 3, 9, 10], [], false, [], [], []⟩, Tryd.func4, by kernel_rfl, by kernel_rfl⟩
theorem good5 : Good (5, Hu.Sn.F5) := ⟨Tryd.f5, ⟨[1], [], false, [], [], []⟩, Tryd.func5, by kernel_rfl, by kernel_rfl⟩
theorem good6 : Good (6, Hu.Sn.F6) := ⟨Tryd.f6, ⟨[3, 7, 8, 14, 19, 21], [], false, [], [], []⟩, Tryd.func6, by kernel_rfl, by kernel_rfl⟩
theorem good7 : Good (7, Hu.Sn.F7) := ⟨Tryd.f7, ⟨[2, 3, 6, 8], [], false, [], [], []⟩, Tryd.func7, by kernel_rfl, by kernel_rfl⟩
theorem good14 : Good (14, Hu.Sn.F14) := ⟨Tryd.f14, ⟨[2, 3, 5, 9, 10, 12, 14, 16, 20], [], false, [], [], []⟩, Tryd.func14, by kernel_rfl, by kernel_rfl⟩
theorem good27 : Good (27, Hu.Sn.F27) := ⟨Tryd.f27, ⟨[1], [], false, [], [], []⟩, Tryd.func27, by kernel_rfl, by kernel_rfl⟩
theorem good29 : Good (29, Hu.Sn.F29) := ⟨Tryd.f29, ⟨[1, 6], [], false, [], [], []⟩, Tryd.func29, by kernel_rfl, by kernel_rfl⟩
theorem good30 : Good (30, Hu.Sn.F30) := ⟨Tryd.f30, ⟨[1], [], false, [], [], []⟩, Tryd.func30, by kernel_rfl, by kernel_rfl⟩
theorem good31 : Good (31, Hu.Sn.F31) := ⟨Tryd.f31, ⟨[3, 5, 8, 10], [], false, [], [], []⟩, Tryd.func31, by kernel_rfl, by kernel_rfl⟩
theorem good33 : Good (33, Hu.Sn.F33) := ⟨Tryd.f33, ⟨[2, 4, 6], [], false, [], [], []⟩, Tryd.func33, by kernel_rfl, by kernel_rfl⟩
theorem good35 : Good (35, Hu.Sn.F35) := ⟨Tryd.f35, ⟨[2, 4, 6], [], false, [], [], []⟩, Tryd.func35, by kernel_rfl, by kernel_rfl⟩
theorem good37 : Good (37, Hu.Sn.F37) := ⟨Tryd.f37, ⟨[1, 3, 12, 13], [], false, [], [], []⟩, Tryd.func37, by kernel_rfl, by kernel_rfl⟩
theorem good38 : Good (38, Hu.Sn.F38) := ⟨Tryd.f38, ⟨[1, 4], [], false, [], [], []⟩, Tryd.func38, by kernel_rfl, by kernel_rfl⟩
theorem good40 : Good (40, Hu.Sn.F40) := ⟨Tryd.f40, ⟨[1, 2, 4, 9], [], false, [], [], []⟩, Tryd.func40, by kernel_rfl, by kernel_rfl⟩
theorem good42 : Good (42, Hu.Sn.F42) := ⟨Tryd.f42, ⟨[2, 3, 8], [], false, [], [(10, false, 8, (some 2), 4, (some 4))], []⟩, Tryd.func42, by kernel_rfl, by kernel_rfl⟩
theorem good44 : Good (44, Hu.Sn.F44) := ⟨Tryd.f44, ⟨[], [1], false, [], [], []⟩, Tryd.func44, by kernel_rfl, by kernel_rfl⟩
theorem good46 : Good (46, Hu.Sn.F46) := ⟨Tryd.f46, ⟨[], [], false, [], [], []⟩, Tryd.func46, by kernel_rfl, by kernel_rfl⟩
theorem good47 : Good (47, Hu.Sn.F47) := ⟨Tryd.f47, ⟨[1, 6], [], false, [], [], []⟩, Tryd.func47, by kernel_rfl, by kernel_rfl⟩
theorem good49 : Good (49, Hu.Sn.F49) := ⟨Tryd.f49, ⟨[2], [], false, [], [], []⟩, Tryd.func49, by kernel_rfl, by kernel_rfl⟩
theorem good50 : Good (50, Hu.Sn.F50) := ⟨Tryd.f50, ⟨[], [], false, [], [], []⟩, Tryd.func50, by kernel_rfl, by kernel_rfl⟩
theorem good51 : Good (51, Hu.Sn.F51) := ⟨Tryd.f51, ⟨[], [], false, [], [], []⟩, Tryd.func51, by kernel_rfl, by kernel_rfl⟩
theorem good52 : Good (52, Hu.Sn.F52) := ⟨Tryd.f52, ⟨[2], [], false, [], [], []⟩, Tryd.func52, by kernel_rfl, by kernel_rfl⟩
theorem good53 : Good (53, Hu.Sn.F53) := ⟨Tryd.f53, ⟨[5, 6], [], false, [], [], []⟩, Tryd.func53, by kernel_rfl, by kernel_rfl⟩
theorem good54 : Good (54, Hu.Sn.F54) := ⟨Tryd.f54, ⟨[3], [], false, [], [], []⟩, Tryd.func54, by kernel_rfl, by kernel_rfl⟩
theorem good68 : Good (68, Hu.Sn.F68) := ⟨Tryd.f68, ⟨[4], [], false, [], [], []⟩, Tryd.func68, by kernel_rfl, by kernel_rfl⟩
theorem good74 : Good (74, Hu.Sn.F74) := ⟨Tryd.f74, ⟨[2], [], false, [], [], []⟩, Tryd.func74, by kernel_rfl, by kernel_rfl⟩
theorem good75 : Good (75, Hu.Sn.F75) := ⟨Tryd.f75, ⟨[0], [], false, [], [], []⟩, Tryd.func75, by kernel_rfl, by kernel_rfl⟩
theorem good76 : Good (76, Hu.Sn.F76) := ⟨Tryd.f76, ⟨[0], [], false, [], [], []⟩, Tryd.func76, by kernel_rfl, by kernel_rfl⟩
theorem good110 : Good (110, Hu.Sn.F110) := ⟨Tryd.f110, ⟨[1, 2, 3, 5], [], false, [], [], []⟩, Tryd.func110, by kernel_rfl, by kernel_rfl⟩
theorem good111 : Good (111, Hu.Sn.F111) := ⟨Tryd.f111, ⟨[1], [], false, [], [], []⟩, Tryd.func111, by kernel_rfl, by kernel_rfl⟩
theorem good113 : Good (113, Hu.Sn.F113) := ⟨Tryd.f113, ⟨[2], [], false, [], [], []⟩, Tryd.func113, by kernel_rfl, by kernel_rfl⟩
theorem good114 : Good (114, Hu.Sn.F114) := ⟨Tryd.f114, ⟨[1], [], false, [], [], []⟩, Tryd.func114, by kernel_rfl, by kernel_rfl⟩
theorem good115 : Good (115, Hu.Sn.F115) := ⟨Tryd.f115, ⟨[1], [], false, [], [], []⟩, Tryd.func115, by kernel_rfl, by kernel_rfl⟩
theorem good116 : Good (116, Hu.Sn.F116) := ⟨Tryd.f116, ⟨[2, 4, 7], [], false, [], [], []⟩, Tryd.func116, by kernel_rfl, by kernel_rfl⟩
theorem good117 : Good (117, Hu.Sn.F117) := ⟨Tryd.f117, ⟨[], [], false, [], [], []⟩, Tryd.func117, by kernel_rfl, by kernel_rfl⟩
theorem good118 : Good (118, Hu.Sn.F118) := ⟨Tryd.f118, ⟨[], [], false, [], [], []⟩, Tryd.func118, by kernel_rfl, by kernel_rfl⟩
theorem good119 : Good (119, Hu.Sn.F119) := ⟨Tryd.f119, ⟨[], [2, 3], false, [], [], []⟩, Tryd.func119, by kernel_rfl, by kernel_rfl⟩
theorem good122 : Good (122, Hu.Sn.F122) := ⟨Tryd.f122, ⟨[3, 5, 6, 8], [], false, [], [], []⟩, Tryd.func122, by kernel_rfl, by kernel_rfl⟩
theorem good123 : Good (123, Hu.Sn.F123) := ⟨Tryd.f123, ⟨[0], [], false, [], [], []⟩, Tryd.func123, by kernel_rfl, by kernel_rfl⟩
theorem good126 : Good (126, Hu.Sn.F126) := ⟨Tryd.f126, ⟨[0], [], false, [], [], []⟩, Tryd.func126, by kernel_rfl, by kernel_rfl⟩
theorem good128 : Good (128, Hu.Sn.F128) := ⟨Tryd.f128, ⟨[9], [], false, [], [], []⟩, Tryd.func128, by kernel_rfl, by kernel_rfl⟩
theorem good129 : Good (129, Hu.Sn.F129) := ⟨Tryd.f129, ⟨[1, 3, 4], [], false, [], [], []⟩, Tryd.func129, by kernel_rfl, by kernel_rfl⟩
theorem good130 : Good (130, Hu.Sn.F130) := ⟨Tryd.f130, ⟨[2, 4], [], false, [], [], []⟩, Tryd.func130, by kernel_rfl, by kernel_rfl⟩
theorem good131 : Good (131, Hu.Sn.F131) := ⟨Tryd.f131, ⟨[2], [], false, [], [], []⟩, Tryd.func131, by kernel_rfl, by kernel_rfl⟩
theorem good135 : Good (135, Hu.Sn.F135) := ⟨Tryd.f135, ⟨[], [], false, [25], [], []⟩, Tryd.func135, by kernel_rfl, by kernel_rfl⟩
theorem good136 : Good (136, Hu.Sn.F136) := ⟨Tryd.f136, ⟨[], [], false, [7], [], []⟩, Tryd.func136, by kernel_rfl, by kernel_rfl⟩
theorem good138 : Good (138, Hu.Sn.F138) := ⟨Tryd.f138, ⟨[9, 11], [2], false, [], [], []⟩, Tryd.func138, by kernel_rfl, by kernel_rfl⟩
theorem good139 : Good (139, Hu.Sn.F139) := ⟨Tryd.f139, ⟨[], [], false, [], [], []⟩, Tryd.func139, by kernel_rfl, by kernel_rfl⟩
theorem good202 : Good (202, Hu.Sn.F202) := ⟨Tryd.f202, ⟨[0, 1], [], false, [], [], []⟩, Tryd.func202, by kernel_rfl, by kernel_rfl⟩
theorem good203 : Good (203, Hu.Sn.F203) := ⟨Tryd.f203, ⟨[9], [2, 1], false, [], [], []⟩, Tryd.func203, by kernel_rfl, by kernel_rfl⟩
theorem good204 : Good (204, Hu.Sn.F204) := ⟨Tryd.f204, ⟨[5], [4], false, [], [], []⟩, Tryd.func204, by kernel_rfl, by kernel_rfl⟩
theorem good205 : Good (205, Hu.Sn.F205) := ⟨Tryd.f205, ⟨[1], [], false, [], [], []⟩, Tryd.func205, by kernel_rfl, by kernel_rfl⟩
theorem good206 : Good (206, Hu.Sn.F206) := ⟨Tryd.f206, ⟨[1], [], false, [], [], []⟩, Tryd.func206, by kernel_rfl, by kernel_rfl⟩
theorem good207 : Good (207, Hu.Sn.F207) := ⟨Tryd.f207, ⟨[5, 8, 10], [], false, [], [], []⟩, Tryd.func207, by kernel_rfl, by kernel_rfl⟩
theorem good208 : Good (208, Hu.Sn.F208) := ⟨Tryd.f208, ⟨[], [1], false, [], [], []⟩, Tryd.func208, by kernel_rfl, by kernel_rfl⟩
theorem good209 : Good (209, Hu.Sn.F209) := ⟨Tryd.f209, ⟨[], [], false, [], [], []⟩, Tryd.func209, by kernel_rfl, by kernel_rfl⟩
theorem good210 : Good (210, Hu.Sn.F210) := ⟨Tryd.f210, ⟨[], [], false, [], [], []⟩, Tryd.func210, by kernel_rfl, by kernel_rfl⟩
theorem good214 : Good (214, Hu.Sn.F214) := ⟨Tryd.f214, ⟨[], [], false, [], [], []⟩, Tryd.func214, by kernel_rfl, by kernel_rfl⟩
theorem good250 : Good (250, Hu.Sn.F250) := ⟨Tryd.f250, ⟨[], [3], false, [], [], []⟩, Tryd.func250, by kernel_rfl, by kernel_rfl⟩
theorem good251 : Good (251, Hu.Sn.F251) := ⟨Tryd.f251, ⟨[], [1], false, [], [], []⟩, Tryd.func251, by kernel_rfl, by kernel_rfl⟩
theorem good323 : Good (323, Hu.Sn.F323) := ⟨Tryd.f323, ⟨[2, 4], [], false, [], [], []⟩, Tryd.func323, by kernel_rfl, by kernel_rfl⟩
theorem good324 : Good (324, Hu.Sn.F324) := ⟨Tryd.f324, ⟨[2, 4], [], false, [], [], []⟩, Tryd.func324, by kernel_rfl, by kernel_rfl⟩
theorem good325 : Good (325, Hu.Sn.F325) := ⟨Tryd.f325, ⟨[2, 4], [], false, [], [], []⟩, Tryd.func325, by kernel_rfl, by kernel_rfl⟩
theorem good326 : Good (326, Hu.Sn.F326) := ⟨Tryd.f326, ⟨[2, 4], [], false, [], [], []⟩, Tryd.func326, by kernel_rfl, by kernel_rfl⟩
theorem good327 : Good (327, Hu.Sn.F327) := ⟨Tryd.f327, ⟨[2, 4], [], false, [], [], []⟩, Tryd.func327, by kernel_rfl, by kernel_rfl⟩
theorem good : ∀ p ∈ Hu.Sn.tab, Good p := by
  simp only [Hu.Sn.tab, List.forall_mem_cons]
  exact ⟨good3, good4, good5, good6, good7, good14, good27, good29, good30, good31, good33, good35, good37, good38, good40, good42, good44, good46, good47, good49, good50, good51, good52, good53, good54, good68, good74, good75, good76, good110, good111, good113, good114, good115, good116, good117, good118, good119, good122, good123, good126, good128, good129, good130, good131, good135, good136, good138, good139, good202, good203, good204, good205, good206, good207, good208, good209, good210, good214, good250, good251, good323, good324, good325, good326, good327, by simp⟩
theorem laid : Laid X Hu.Sn.prog := by
  intro f k F hn hp
  obtain rfl : f = k := Option.some.inj hn
  exact good (f, F) (look_mem hp)
end Go.Proofs.YtdpjoppdlhfidaaDoor

set_option linter.unusedVariables false
namespace Go.Proofs.YtdpjoppdlhfidaaDoor
open Go.Hu Go.ChangeShapes Go.WideShapes Go.ChangeAt Go.RowKit

theorem own : ownKnob Tryd.prog.godebug = none := by kernel_rfl
def laidL : List (String × DataW Unit) := [("huer/seine.most", Rows.laid_huer_seine_most), ("huer/seine.does", Rows.laid_huer_seine_does)]
theorem gMost : Tryd.prog.globalNamed "huer/seine.most" = some 0 := by kernel_rfl
theorem gDoes : Tryd.prog.globalNamed "huer/seine.does" = some 4 := by kernel_rfl
theorem tMost : (Tryd.prog.globals[0]?).map (·.type) = some 131 := by kernel_rfl
theorem tDoes : (Tryd.prog.globals[4]?).map (·.type) = some 306 := by kernel_rfl
theorem kids : Kids Tryd.prog (· < Tryd.prog.types.size) := kids_rows (by kernel_rfl) (by kernel_rfl)
theorem full : ∀ t e, t < Tryd.prog.types.size → Tryd.prog.underlying t = some (.slice e) → 0 < Tryd.prog.cellsOf e := slices_full_of Tryd.prog (by kernel_rfl)

theorem globs {W : World} (h : laidMetH Tryd.prog laidL W) : ∀ n cs, X.gl n = some cs → GlobOk X.nm W n cs := by
  intro n cs hn
  simp only [X] at hn
  split at hn
  · rename_i h0
    cases hn
    subst h0
    obtain ⟨g, t, cs, fuel, p, hg, ht, hv, hd⟩ := laid_ints h (name := "huer/seine.most") (d := Rows.laid_huer_seine_most) (by simp [laidL]) rfl
    obtain rfl := Option.some.inj (gMost.symm.trans hg)
    obtain rfl := Option.some.inj (tMost.symm.trans ht)
    exact glob_ints (nm := X.nm) hg hv (by kernel_rfl : Tryd.prog.underlying 131 = some (.array 5 3)) (by kernel_rfl : Tryd.prog.underlying 3 = some (.int .i64)) (by kernel_rfl) [400, 9, 0, 400, 400] rfl hd
  · split at hn
    · rename_i h0
      cases hn
      subst h0
      obtain ⟨g, t, cs, fuel, p, hg, ht, hv, hd⟩ := h.funcs (n := "huer/seine.does") (by simp only [laidL, Rows.laid_huer_seine_does]; exact List.mem_cons_of_mem _ (List.mem_cons_self ..))
      obtain rfl := Option.some.inj (gDoes.symm.trans hg)
      obtain rfl := Option.some.inj (tDoes.symm.trans ht)
      refine glob_fns (nm := X.nm) (e := 305) hg hv (by kernel_rfl : Tryd.prog.underlying 306 = some (.array 5 305)) Tryd.underlying305 (by kernel_rfl)
        [(323, [40, 104, 117, 101, 114, 47, 115, 101, 105, 110, 101, 46, 115, 116, 97, 116, 101, 41, 46, 116, 117, 99, 107], 323), (324, [40, 104, 117, 101, 114, 47, 115, 101, 105, 110, 101, 46, 115, 116, 97, 116, 101, 41, 46, 98, 114, 101, 97, 99, 104], 324),
         (325, [40, 104, 117, 101, 114, 47, 115, 101, 105, 110, 101, 46, 115, 116, 97, 116, 101, 41, 46, 109, 101, 110, 100], 325), (326, [40, 104, 117, 101, 114, 47, 115, 101, 105, 110, 101, 46, 115, 116, 97, 116, 101, 41, 46, 100, 111, 103, 115], 326), (327, [40, 104, 117, 101, 114, 47, 115, 101, 105, 110, 101, 46, 115, 116, 97, 116, 101, 41, 46, 115, 111, 117, 110, 100], 327)]
        ?_ rfl hd
      simp only [List.forall_mem_cons]
      exact ⟨⟨rfl, by simp, by kernel_rfl⟩, ⟨rfl, by simp, by kernel_rfl⟩, ⟨rfl, by simp, by kernel_rfl⟩, ⟨rfl, by simp, by kernel_rfl⟩, ⟨rfl, by simp, by kernel_rfl⟩, by simp⟩
    · cases hn
theorem door_met (os : Os) (args : Array Value) : laidMetH Tryd.prog laidL ((World.doorLaid Tryd.prog 3000 os).forCall (fun _ _ => 0) ⟨#[], args, []⟩).memory :=
  laidMetH_of_parts3 (fuel := 8) (laidMet_of_run' 8 (by kernel_rfl) (by kernel_rfl)) (by kernel_rfl) (by kernel_rfl)
end Go.Proofs.YtdpjoppdlhfidaaDoor

set_option linter.unusedSimpArgs false
set_option linter.unusedVariables false
namespace Go.Hu.Sn
attribute [local irreducible] wpS wpIs wpI
attribute [local go_sem] Nat.mul_one Nat.one_mul Nat.zero_add Nat.add_zero Nat.zero_mul and_self and_true true_and decide_true decide_false Bool.false_eq_true if_true if_false Int.cast_ofNat_Int Int.zero_le_ofNat Int.le_refl Int.reduceLT Int.reduceLE Int.reduceToNat

variable {s : St} {Q : V → St → Prop}

theorem notes_of : ∀ {xs : List V}, (∀ x ∈ xs, ∃ cs, HasF [true, true, true, true] cs ∧ x = wrap true cs) → ∃ ns : List Note, xs = notesV ns
  | [], _ => ⟨[], rfl⟩
  | x :: xs, h => by
    obtain ⟨ns, rfl⟩ := notes_of (xs := xs) fun y hy => h y (by simp [hy])
    obtain ⟨cs, hc, rfl⟩ := h x (by simp)
    obtain ⟨_, _, rfl, ⟨a, _, rfl⟩, _, _, rfl, ⟨b, _, rfl⟩, _, _, rfl, ⟨c, _, rfl⟩, _, _, rfl, ⟨d, _, rfl⟩, rfl⟩ := hc
    exact ⟨⟨a, b, c, d⟩ :: ns, rfl⟩
theorem book_of {y : List V} (h : Has [.int, .int, .sl true [true, true, true, true]] y) : ∃ b : Book, wrap true y = bookV b ∧ (b.notes.length : Int) < 9223372036854775808 := by
  obtain ⟨_, _, rfl, ⟨lo, _, rfl⟩, _, _, rfl, ⟨hi, _, rfl⟩, _, _, rfl, ⟨xs, rfl, hl, hx⟩, rfl⟩ := h
  obtain ⟨ns, rfl⟩ := notes_of hx
  rw [notesV_length] at hl
  refine ⟨⟨lo, hi, ns⟩, rfl, ?_⟩
  show (ns.length : Int) < _
  omega
theorem pair_of {y : List V} (h : Has [.int, .int] y) : ∃ a b : Int, wrap true y = .agg [.int a, .int b] := by
  obtain ⟨_, _, rfl, ⟨lo, _, rfl⟩, _, _, rfl, ⟨hi, _, rfl⟩, rfl⟩ := h
  exact ⟨lo, hi, rfl⟩
theorem note_of {y : List V} (h : Has [.int, .int, .int, .int] y) : ∃ x : Note, wrap true y = noteV x := by
  obtain ⟨_, _, rfl, ⟨a, _, rfl⟩, _, _, rfl, ⟨b, _, rfl⟩, _, _, rfl, ⟨c, _, rfl⟩, _, _, rfl, ⟨d, _, rfl⟩, rfl⟩ := h
  exact ⟨⟨a, b, c, d⟩, rfl⟩
theorem Answer.unique {e : Int} {S : Int → Prop} {a b c d : Int} (h : Answer e S a b) (h' : Answer e S c d) : a = c ∧ b = d := by
  unfold Answer at h h'
  by_cases he : e = 0
  · rw [if_pos he] at h h'
    exact h.unique h'
  · rw [if_neg he] at h h'
    omega

end Go.Hu.Sn

set_option linter.unusedSimpArgs false
set_option linter.unusedVariables false
namespace Go.Hu.Sn
attribute [local irreducible] wpS wpIs wpI
attribute [local go_sem] Nat.mul_one Nat.one_mul Nat.zero_add Nat.add_zero Nat.zero_mul and_self and_true true_and decide_true decide_false Bool.false_eq_true if_true if_false Int.cast_ofNat_Int Int.zero_le_ofNat Int.le_refl Int.reduceLT Int.reduceLE Int.reduceToNat

theorem triple_of {y : List V} (h : Has [.int, .int, .int] y) : ∃ a b c : Int, wrap true y = .agg [.int a, .int b, .int c] := by
  obtain ⟨_, _, rfl, ⟨a, _, rfl⟩, _, _, rfl, ⟨b, _, rfl⟩, _, _, rfl, ⟨c, _, rfl⟩, rfl⟩ := h
  exact ⟨a, b, c, rfl⟩
theorem pass_still {n d : Int} (h : 0 ≤ n) : pass (n, 0) d = (n, 0) := by
  unfold pass
  simp only [Int.zero_mul, Prod.mk.injEq, and_true]
  omega
theorem plain_at {lo hi h : Int} {y : X} (h0 : okSpan lo hi 400) : atH ⟨lo, hi, []⟩ h y ↔ (lo ≤ y.1 ∧ y.1 ≤ hi) ∧ y.2 = 0 := by
  unfold okSpan at h0
  constructor
  · rintro ⟨⟨x, hx, rfl⟩, _⟩
    have hx : begun ⟨lo, hi, []⟩ x := hx
    obtain ⟨x1, x2⟩ := x
    unfold begun at hx
    simp only at hx
    obtain ⟨hx1, rfl⟩ := hx
    rw [pass_still (by omega)]
    exact ⟨hx1, rfl⟩
  · rintro ⟨h1, h2⟩
    obtain ⟨y1, y2⟩ := y
    simp only at h1 h2
    subst h2
    refine ⟨⟨(y1, 0), ?_, ?_⟩, (y1, 0), rfl⟩
    · show begun ⟨lo, hi, []⟩ (y1, 0)
      exact ⟨h1, rfl⟩
    · rw [pass_still (by omega)]
theorem tuck_step {S : XS} {h at' m : Int} {y : X} (hS : ∀ x, S x → 0 ≤ x.1 ∧ x.2 = 0) : step S h ⟨0, at', m, m⟩ y ↔ S (y.1 + m, y.2) ∧ m ≤ y.1 + m ∧ y.2 = 0 := by
  unfold step does
  constructor
  · rintro ⟨x, hx, n, hn, hd⟩
    obtain ⟨x1, x2⟩ := x
    obtain ⟨h1, h2⟩ := hS _ hx
    simp only at h1 h2 hn
    subst h2
    have hnm : n = m := by omega
    subst hnm
    rw [pass_still h1] at hd
    simp at hd
    obtain ⟨rfl, h3⟩ := hd
    refine ⟨?_, ?_, rfl⟩
    · show S (x1 - n + n, 0)
      rw [Int.sub_add_cancel]
      exact hx
    · show n ≤ x1 - n + n
      omega
  · rintro ⟨hx, h3, h4⟩
    obtain ⟨y1, y2⟩ := y
    simp only at hx h3 h4
    subst h4
    refine ⟨_, hx, m, ⟨Int.le_refl m, Int.le_refl m⟩, ?_⟩
    rw [pass_still (by have := (hS _ hx).1; simpa using this)]
    simp [h3]
theorem tuck_sooner {lo hi h a m : Int} {y : X} (h0 : okSpan lo hi 400) (hm : 0 ≤ m) (hh : h < a) : atH ⟨lo, hi, [⟨0, a, m, m⟩]⟩ h y ↔ ((lo ≤ y.1 ∧ y.1 ≤ hi) ∧ y.2 = 0) ∧ m ≤ y.1 := by
  have h1 : before h [⟨0, a, m, m⟩] = [] := by simp [before, List.takeWhile_cons]; omega
  have h2 : later h [⟨0, a, m, m⟩] = [⟨0, a, m, m⟩] := by simp [later, List.dropWhile_cons]; omega
  have h3 : ∀ {y : X}, atH ⟨lo, hi, [⟨0, a, m, m⟩]⟩ h y ↔ atH ⟨lo, hi, []⟩ h y ∧ ∃ z, step (· = y) h ⟨0, a, m, m⟩ z := by
    intro y
    unfold atH
    simp only [h1, h2]
    constructor
    · rintro ⟨g1, g2⟩
      exact ⟨⟨g1, y, rfl⟩, g2⟩
    · rintro ⟨⟨g1, _⟩, g2⟩
      exact ⟨g1, g2⟩
  rw [h3, plain_at h0]
  refine and_congr_right fun hy => ?_
  unfold okSpan at h0
  simp only [tuck_step (S := (· = y)) (fun x hx => by subst hx; omega)]
  constructor
  · rintro ⟨z, hz, g1, g2⟩
    rw [← hz]
    exact g1
  · intro hmy
    refine ⟨(y.1 - m, 0), ?_, ?_, rfl⟩
    · obtain ⟨y1, y2⟩ := y
      simp only at hy hmy ⊢
      simp only [Prod.mk.injEq]
      omega
    · simp only
      omega
theorem tuck_later {lo hi h a m : Int} {y : X} (h0 : okSpan lo hi 400) (hm : 0 ≤ m) (hh : a ≤ h) : atH ⟨lo, hi, [⟨0, a, m, m⟩]⟩ h y ↔ (lo ≤ y.1 + m ∧ y.1 + m ≤ hi) ∧ 0 ≤ y.1 ∧ y.2 = 0 := by
  have h1 : before h [⟨0, a, m, m⟩] = [⟨0, a, m, m⟩] := by simp [before, List.takeWhile_cons]; omega
  have h2 : later h [⟨0, a, m, m⟩] = [] := by simp [later, List.dropWhile_cons]; omega
  unfold okSpan at h0
  have hS : ∀ x, begun ⟨lo, hi, [⟨0, a, m, m⟩]⟩ x → 0 ≤ x.1 ∧ x.2 = 0 := fun x hx => by
    unfold begun at hx
    simp only at hx
    omega
  unfold atH
  simp only [h1, h2, run, hourOf]
  constructor
  · rintro ⟨⟨x, hx, rfl⟩, _⟩
    obtain ⟨g1, g2, g3⟩ := (tuck_step hS).1 hx
    obtain ⟨x1, x2⟩ := x
    simp only at g1 g2 g3
    subst g3
    rw [pass_still (by omega)]
    unfold begun at g1
    simp only [and_true] at g1 ⊢
    omega
  · rintro ⟨g1, g2, g3⟩
    obtain ⟨y1, y2⟩ := y
    simp only at g1 g2 g3
    subst g3
    refine ⟨⟨(y1, 0), (tuck_step hS).2 ⟨⟨g1, rfl⟩, by simp only; omega, rfl⟩, ?_⟩, (y1, 0), rfl⟩
    rw [pass_still g2]
theorem tuck_can {lo hi a m : Int} (h0 : okSpan lo hi 400) (hm : 0 ≤ m) : can ⟨lo, hi, [⟨0, a, m, m⟩]⟩ ↔ m ≤ hi := by
  unfold okSpan at h0
  have hS : ∀ x, begun ⟨lo, hi, [⟨0, a, m, m⟩]⟩ x → 0 ≤ x.1 ∧ x.2 = 0 := fun x hx => by
    unfold begun at hx
    simp only at hx
    omega
  unfold can
  simp only [run, tuck_step hS]
  constructor
  · rintro ⟨z, g1, g2, g3⟩
    unfold begun at g1
    simp only at g1
    omega
  · intro h
    refine ⟨(hi - m, 0), ?_, ?_, rfl⟩
    · unfold begun
      simp only [and_true]
      omega
    · simp only
      omega

theorem Ends.of {S T : Int → Prop} {a b : Int} (h : Ends S a b) (hs : ∀ n, S n ↔ T n) : Ends T a b := by
  have : S = T := funext fun n => propext (hs n)
  rw [← this]
  exact h

set_option maxRecDepth 20000 in
set_option maxHeartbeats 2000000 in
theorem purePlain {y0 y1 : List V} (h0 : Has [.int, .int] y0) (h1 : Has [.int, .int, .int] y1) : Call prog (.fn 14 [] []) [wrap true y0, wrap true y1] (fun _ => none) fun v _ => v = .bool true := by
  obtain ⟨lo, hi, hb⟩ := pair_of h0
  obtain ⟨n0, n1, n2, hn⟩ := triple_of h1
  rw [hb, hn]
  refine Call.fn F14 p14 rfl ?_
  simp only [F14]
  have hlen : (((⟨lo, hi, []⟩ : Book).notes.length : Nat) : Int) < 9223372036854775808 := by simp
  by_cases hok : ok ⟨lo, hi, []⟩
  · have hsp : okSpan lo hi 400 := hok.1
    have hs' := hsp
    unfold okSpan at hs'
    have hcan : can ⟨lo, hi, []⟩ := can_nil hsp rfl
    repeat first|refine Wr ?_|refine Wb ?_|refine Wc ?_|refine Wd ?_|refine We ?_|refine Wf ?_|refine Wg ?_|refine Wh ?_|refine Wi ?_|refine Wj (by decide) ?_|refine Wa ?_|refine Wk ?_|refine Wl ?_|refine Wm ?_|refine Wn ?_|refine Wo ?_|refine Wp ?_|refine Wq ?_|refine Ww (by simp only[go_sem,hok];done) ?_|((first|refine Ws ?_|refine Wt ?_|refine Wu ?_|refine Wv (by simp only[go_sem,hok];done) ?_);conv=>arg 2;simp only[go_sem,hok])|(refine Wx (by simp only[go_sem,hok];rfl) (by simp only[go_sem,hok];rfl) ?_;first|refine c47 ⟨lo, hi, []⟩ hlen ?_|refine c50' n0 61 (by decide) (by decide) fun h hh => ?_|refine c50' n1 61 (by decide) (by decide) fun a ha => ?_)
    refine w_call (by simp only [go_sem]; rfl) (by simp only [go_sem]; rfl) ?_
    refine c50' n2 401 (by decide) (by decide) fun m hm => ?_
    first|refine w_trimI [2,5,29,32,35] fun e he => ?_|refine w_trimR [2,5,29,32,35] fun e he => ?_|refine w_trimS [2,5,29,32,35] fun e he => ?_
    simp only[w_map1,w_map0,List.cons.injEq,go_sem] at he
    obtain ⟨e2,e5,e29,e32,e35⟩ := he
    have hh' : 0 ≤ h ∧ h ≤ 60 := by omega
    have ha' : 0 ≤ a ∧ a ≤ 60 := by omega
    have hm' : 0 ≤ m ∧ m ≤ 400 := by omega
    have hE : askE ⟨lo, hi, []⟩ (0 ≤ h ∧ h ≤ 60) = 0 := askE_ok hok hh' hcan
    have hE2 : askE ⟨lo, hi, []⟩ True = 0 := askE_ok hok trivial hcan
    have hlenx : (((⟨lo, hi, [⟨0, a, m, m⟩]⟩ : Book).notes.length : Nat) : Int) < 9223372036854775808 := by simp
    have hokx : ok ⟨lo, hi, [⟨0, a, m, m⟩]⟩ := by
      refine ⟨hsp, by simp, ⟨⟨by simp, ha', ?_⟩, ha'.1⟩, trivial⟩
      unfold okSpan most
      simp
      omega
    have hcx : can ⟨lo, hi, [⟨0, a, m, m⟩]⟩ ↔ m ≤ hi := tuck_can hsp hm'.1
    have z0 : ((0 : Int) == 0) = true := rfl
    repeat first|refine Wr ?_|refine Wb ?_|refine Wc ?_|refine Wd ?_|refine We ?_|refine Wf ?_|refine Wg ?_|refine Wh ?_|refine Wi ?_|refine Wj (by decide) ?_|refine Wa ?_|refine Wk ?_|refine Wl ?_|refine Wm ?_|refine Wn ?_|refine Wo ?_|refine Wp ?_|refine Wq ?_|refine Ww (by simp only[go_sem,e2,e5,e29,e32,e35];done) ?_|((first|refine Ws ?_|refine Wt ?_|refine Wu ?_|refine Wv (by simp only[go_sem,e2,e5,e29,e32,e35];done) ?_);conv=>arg 2;simp only[go_sem,e2,e5,e29,e32,e35])|(refine Wx (by simp only[go_sem,e2,e5,e29,e32,e35];rfl) (by simp only[go_sem,e2,e5,e29,e32,e35];rfl) ?_;refine c52 _ ?_)
    refine w_call (by simp only [go_sem]; rfl) (by simp only [go_sem]; rfl) ?_
    refine c53 _ _ _ _ ?_
    first|refine w_trimI [2,5,6,7,8,9,40] fun e he => ?_|refine w_trimR [2,5,6,7,8,9,40] fun e he => ?_|refine w_trimS [2,5,6,7,8,9,40] fun e he => ?_
    simp only[w_map1,w_map0,List.cons.injEq,go_sem,e2, e5] at he
    obtain ⟨e2,e5,e6,e7,e8,e9,e40⟩ := he
    repeat first|refine Wr ?_|refine Wb ?_|refine Wc ?_|refine Wd ?_|refine We ?_|refine Wf ?_|refine Wg ?_|refine Wh ?_|refine Wi ?_|refine Wj (by decide) ?_|refine Wa ?_|refine Wk ?_|refine Wl ?_|refine Wm ?_|refine Wn ?_|refine Wo ?_|refine Wp ?_|refine Wq ?_|refine Ww (by simp only[go_sem,e2,e5,e6,e7,e8,e9,e40];done) ?_|((first|refine Ws ?_|refine Wt ?_|refine Wu ?_|refine Wv (by simp only[go_sem,e2,e5,e6,e7,e8,e9,e40];done) ?_);conv=>arg 2;simp only[go_sem,e2,e5,e6,e7,e8,e9,e40])
    refine w_call (by simp only [go_sem, e5, e6]; rfl) (by simp only [go_sem, e5, e6]; rfl) ?_
    refine c33v (b := ⟨lo, hi, []⟩) (h := h) hlen hE fun tl th s1 g1 g2 => ?_
    first|refine w_trimI [2,5,6,7,8,9,46] fun e he => ?_|refine w_trimR [2,5,6,7,8,9,46] fun e he => ?_|refine w_trimS [2,5,6,7,8,9,46] fun e he => ?_
    simp only[w_map1,w_map0,List.cons.injEq,go_sem,e2, e5, e6, e7, e8, e9] at he
    obtain ⟨e2,e5,e6,e7,e8,e9,e46⟩ := he
    repeat first|refine Wr ?_|refine Wb ?_|refine Wc ?_|refine Wd ?_|refine We ?_|refine Wf ?_|refine Wg ?_|refine Wh ?_|refine Wi ?_|refine Wj (by decide) ?_|refine Wa ?_|refine Wk ?_|refine Wl ?_|refine Wm ?_|refine Wn ?_|refine Wo ?_|refine Wp ?_|refine Wq ?_|refine Ww (by simp only[go_sem,e2,e5,e6,e7,e8,e9,e46];done) ?_|((first|refine Ws ?_|refine Wt ?_|refine Wu ?_|refine Wv (by simp only[go_sem,e2,e5,e6,e7,e8,e9,e46];done) ?_);conv=>arg 2;simp only[go_sem,e2,e5,e6,e7,e8,e9,e46])
    refine w_call (by simp only [go_sem, e5, e6]; rfl) (by simp only [go_sem, e5, e6]; rfl) ?_
    refine c35v (b := ⟨lo, hi, []⟩) (h := h) hlen hE fun rl rh s2 g3 g4 => ?_
    first|refine w_trimI [2,5,6,7,8,9,10,11,52] fun e he => ?_|refine w_trimR [2,5,6,7,8,9,10,11,52] fun e he => ?_|refine w_trimS [2,5,6,7,8,9,10,11,52] fun e he => ?_
    simp only[w_map1,w_map0,List.cons.injEq,go_sem,e2, e5, e6, e7, e8, e9] at he
    obtain ⟨e2,e5,e6,e7,e8,e9,e10,e11,e52⟩ := he
    repeat first|refine Wr ?_|refine Wb ?_|refine Wc ?_|refine Wd ?_|refine We ?_|refine Wf ?_|refine Wg ?_|refine Wh ?_|refine Wi ?_|refine Wj (by decide) ?_|refine Wa ?_|refine Wk ?_|refine Wl ?_|refine Wm ?_|refine Wn ?_|refine Wo ?_|refine Wp ?_|refine Wq ?_|refine Ww (by simp only[go_sem,e2,e5,e6,e7,e8,e9,e10,e11,e52];done) ?_|((first|refine Ws ?_|refine Wt ?_|refine Wu ?_|refine Wv (by simp only[go_sem,e2,e5,e6,e7,e8,e9,e10,e11,e52];done) ?_);conv=>arg 2;simp only[go_sem,e2,e5,e6,e7,e8,e9,e10,e11,e52])
    refine w_call (by simp only [go_sem, e5]; rfl) (by simp only [go_sem, e5]; rfl) ?_
    refine c40v (b := ⟨lo, hi, []⟩) hlen hE2 fun vl vh s3 g5 g6 => ?_
    first|refine w_trimI [2,5,6,7,8,9,10,11,12,13,57] fun e he => ?_|refine w_trimR [2,5,6,7,8,9,10,11,12,13,57] fun e he => ?_|refine w_trimS [2,5,6,7,8,9,10,11,12,13,57] fun e he => ?_
    simp only[w_map1,w_map0,List.cons.injEq,go_sem,e2, e5, e6, e7, e8, e9, e10, e11] at he
    obtain ⟨e2,e5,e6,e7,e8,e9,e10,e11,e12,e13,e57⟩ := he
    repeat first|refine Wr ?_|refine Wb ?_|refine Wc ?_|refine Wd ?_|refine We ?_|refine Wf ?_|refine Wg ?_|refine Wh ?_|refine Wi ?_|refine Wj (by decide) ?_|refine Wa ?_|refine Wk ?_|refine Wl ?_|refine Wm ?_|refine Wn ?_|refine Wo ?_|refine Wp ?_|refine Wq ?_|refine Ww (by simp only[go_sem,e2,e5,e6,e7,e8,e9,e10,e11,e12,e13,e57];done) ?_|((first|refine Ws ?_|refine Wt ?_|refine Wu ?_|refine Wv (by simp only[go_sem,e2,e5,e6,e7,e8,e9,e10,e11,e12,e13,e57];done) ?_);conv=>arg 2;simp only[go_sem,e2,e5,e6,e7,e8,e9,e10,e11,e12,e13,e57])
    have ht : tl = lo ∧ th = hi := by
      refine g1.ends.unique ⟨⟨⟨(lo, 0), ?_, rfl⟩, ⟨(hi, 0), ?_, rfl⟩⟩, ?_⟩
      · rw [plain_at hsp]; simp only [and_true]; omega
      · rw [plain_at hsp]; simp only [and_true]; omega
      · rintro n ⟨x, hx, rfl⟩
        rw [plain_at hsp] at hx
        exact hx.1
    have hr : rl = 0 ∧ rh = 0 := by
      refine g3.ends.unique ⟨⟨⟨(lo, 0), ?_, rfl⟩, ⟨(lo, 0), ?_, rfl⟩⟩, ?_⟩
      · rw [plain_at hsp]; simp only [and_true]; omega
      · rw [plain_at hsp]; simp only [and_true]; omega
      · rintro n ⟨x, hx, rfl⟩
        rw [plain_at hsp] at hx
        omega
    have hv : vl = 0 ∧ vh = 0 := by
      have hsv : ∀ x, run (begun ⟨lo, hi, []⟩) 0 [] x → save ⟨lo, hi, []⟩ x = 0 := fun x hx => by
        have hx : begun ⟨lo, hi, []⟩ x := hx
        obtain ⟨x1, x2⟩ := x
        unfold begun at hx
        simp only at hx
        obtain ⟨hx, rfl⟩ := hx
        unfold save
        rw [pass_still (by omega)]
        simp
      have hx0 : run (begun ⟨lo, hi, []⟩) 0 [] (lo, 0) := ⟨⟨Int.le_refl lo, hs'.2.1⟩, rfl⟩
      refine g5.ends.unique ⟨⟨⟨(lo, 0), hx0, hsv _ hx0⟩, ⟨(lo, 0), hx0, hsv _ hx0⟩⟩, ?_⟩
      rintro n ⟨x, hx, rfl⟩
      rw [hsv x hx]
      omega
    obtain ⟨rfl, rfl⟩ := ht
    obtain ⟨rfl, rfl⟩ := hr
    obtain ⟨rfl, rfl⟩ := hv
    have hgo : ∀ h, gone ⟨tl, th, []⟩ h ↔ th = 0 := fun h => by
      unfold gone
      simp only [plain_at hsp]
      constructor
      · intro g
        exact g (th, 0) (by simp only [and_true]; omega)
      · intro g x hx
        omega
    obtain ⟨E, hEx⟩ : ∃ E, askE ⟨tl, th, [⟨0, a, m, m⟩]⟩ (0 ≤ h ∧ h ≤ 60) = E := ⟨_, rfl⟩
    refine w_call (by simp only [go_sem, e9, e6]; rfl) (by simp only [go_sem, e9, e6]; rfl) ?_
    refine c33v (b := ⟨tl, th, [⟨0, a, m, m⟩]⟩) (h := h) hlenx hEx fun ul uh s4 g7 g8 => ?_
    first|refine w_trimI [2,5,6,7,8,10,11,12,13,14,15,63] fun e he => ?_|refine w_trimR [2,5,6,7,8,10,11,12,13,14,15,63] fun e he => ?_|refine w_trimS [2,5,6,7,8,10,11,12,13,14,15,63] fun e he => ?_
    simp only[w_map1,w_map0,List.cons.injEq,go_sem,e2, e5, e6, e7, e8, e10, e11, e12, e13] at he
    obtain ⟨e2,e5,e6,e7,e8,e10,e11,e12,e13,e14,e15,e63⟩ := he
    repeat first|refine Wr ?_|refine Wb ?_|refine Wc ?_|refine Wd ?_|refine We ?_|refine Wf ?_|refine Wg ?_|refine Wh ?_|refine Wi ?_|refine Wj (by decide) ?_|refine Wa ?_|refine Wk ?_|refine Wl ?_|refine Wm ?_|refine Wn ?_|refine Wo ?_|refine Wp ?_|refine Wq ?_|refine Ww (by simp only[go_sem,e2,e5,e6,e7,e8,e10,e11,e12,e13,e14,e15,e63];done) ?_|((first|refine Ws ?_|refine Wt ?_|refine Wu ?_|refine Wv (by simp only[go_sem,e2,e5,e6,e7,e8,e10,e11,e12,e13,e14,e15,e63];done) ?_);conv=>arg 2;simp only[go_sem,e2,e5,e6,e7,e8,e10,e11,e12,e13,e14,e15,e63])
    refine w_call (by simp only [go_sem, e5]; rfl) (by simp only [go_sem, e5]; rfl) ?_
    refine c38 ⟨tl, th, []⟩ hlen fun n er s5 g9 g10 => ?_
    first|refine w_trimI [2,6,7,8,10,11,12,13,14,15,16,17,68] fun e he => ?_|refine w_trimR [2,6,7,8,10,11,12,13,14,15,16,17,68] fun e he => ?_|refine w_trimS [2,6,7,8,10,11,12,13,14,15,16,17,68] fun e he => ?_
    simp only[w_map1,w_map0,List.cons.injEq,go_sem,e2, e6, e7, e8, e10, e11, e12, e13, e14, e15] at he
    obtain ⟨e2,e6,e7,e8,e10,e11,e12,e13,e14,e15,e16,e17,e68⟩ := he
    have hn0 : n = 0 ∧ (er == 0) = (th == 0) := by
      rcases g9 with ⟨g, _⟩ | ⟨_, p1, p2, p3, p4⟩ | ⟨_, p1, p2, p3⟩
      · exact absurd hE2 g
      · have hth := (hgo n).1 p3
        refine ⟨?_, by rw [p2, hth]⟩
        by_cases hn : n = 0
        · exact hn
        · exact absurd ((hgo 0).2 hth) (p4 0 (by omega) (by omega))
      · have := p3 0 (by omega) (by omega)
        rw [hgo] at this
        refine ⟨p1, ?_⟩
        rw [p2, Bool.eq_iff_iff, beq_iff_eq, beq_iff_eq]
        omega
    obtain ⟨rfl, hn1⟩ := hn0
    by_cases hmh : m > th
    · have hE32 : E = 32 := by rw [← hEx]; exact askE_not hokx hh' (by rw [hcx]; omega)
      subst hE32
      have z33 : ((32 : Int) == 32) = true := rfl
      repeat first|refine Wr ?_|refine Wb ?_|refine Wc ?_|refine Wd ?_|refine We ?_|refine Wf ?_|refine Wg ?_|refine Wh ?_|refine Wi ?_|refine Wj (by decide) ?_|refine Wa ?_|refine Wk ?_|refine Wl ?_|refine Wm ?_|refine Wn ?_|refine Wo ?_|refine Wp ?_|refine Wq ?_|refine Ww (by simp only[go_sem,z0,z33,hn1,hmh,e2,e6,e7,e8,e10,e11,e12,e13,e14,e15,e16,e17,e68,bne_self_eq_false];done) ?_|((first|refine Ws ?_|refine Wt ?_|refine Wu ?_|refine Wv (by simp only[go_sem,z0,z33,hn1,hmh,e2,e6,e7,e8,e10,e11,e12,e13,e14,e15,e16,e17,e68,bne_self_eq_false];done) ?_);conv=>arg 2;simp only[go_sem,z0,z33,hn1,hmh,e2,e6,e7,e8,e10,e11,e12,e13,e14,e15,e16,e17,e68,bne_self_eq_false])|(refine Wx (by simp only[go_sem,z0,z33,hn1,hmh,e2,e6,e7,e8,e10,e11,e12,e13,e14,e15,e16,e17,e68,bne_self_eq_false];rfl) (by simp only[go_sem,z0,z33,hn1,hmh,e2,e6,e7,e8,e10,e11,e12,e13,e14,e15,e16,e17,e68,bne_self_eq_false];rfl) ?_;first|refine c52 _ ?_|refine c37 fun s8 g10 => ?_)
      first|refine w_retQ ?_|refine w_endQ ?_
      conv=>arg 1;simp only[go_sem]
      exact w_res (v := .bool true) (by simp only [go_sem]) rfl
    · have hE0 : E = 0 := by rw [← hEx]; exact askE_ok hokx hh' (by rw [hcx]; omega)
      subst hE0
      replace g7 := g7.ends
      obtain ⟨had, hhad⟩ : ∃ had, (if m > tl then m else tl) = had := ⟨_, rfl⟩
      have hhb : (had = m ∨ had = tl) ∧ m ≤ had ∧ tl ≤ had ∧ had ≤ th := by split at hhad <;> omega
      by_cases hha : h < a
      · have hu : ul = had ∧ uh = th := by
          refine g7.unique ⟨⟨⟨(had, 0), ?_, rfl⟩, ⟨(th, 0), ?_, rfl⟩⟩, ?_⟩
          · rw [tuck_sooner hsp hm'.1 hha]; simp only [and_true]; omega
          · rw [tuck_sooner hsp hm'.1 hha]; simp only [and_true]; omega
          · rintro n ⟨x, hx, rfl⟩
            rw [tuck_sooner hsp hm'.1 hha] at hx
            omega
        obtain ⟨rfl, rfl⟩ := hu
        repeat first|refine Wr ?_|refine Wb ?_|refine Wc ?_|refine Wd ?_|refine We ?_|refine Wf ?_|refine Wg ?_|refine Wh ?_|refine Wi ?_|refine Wj (by decide) ?_|refine Wa ?_|refine Wk ?_|refine Wl ?_|refine Wm ?_|refine Wn ?_|refine Wo ?_|refine Wp ?_|refine Wq ?_|refine Ww (by simp only[go_sem,z0,hn1,hmh,hhad,hha,e2,e6,e7,e8,e10,e11,e12,e13,e14,e15,e16,e17,e68,bne_self_eq_false,beq_self_eq_true];done) ?_|((first|refine Ws ?_|refine Wt ?_|refine Wu ?_|refine Wv (by simp only[go_sem,z0,hn1,hmh,hhad,hha,e2,e6,e7,e8,e10,e11,e12,e13,e14,e15,e16,e17,e68,bne_self_eq_false,beq_self_eq_true];done) ?_);conv=>arg 2;simp only[go_sem,z0,hn1,hmh,hhad,hha,e2,e6,e7,e8,e10,e11,e12,e13,e14,e15,e16,e17,e68,bne_self_eq_false,beq_self_eq_true])|(refine Wx (by simp only[go_sem,z0,hn1,hmh,hhad,hha,e2,e6,e7,e8,e10,e11,e12,e13,e14,e15,e16,e17,e68,bne_self_eq_false,beq_self_eq_true];rfl) (by simp only[go_sem,z0,hn1,hmh,hhad,hha,e2,e6,e7,e8,e10,e11,e12,e13,e14,e15,e16,e17,e68,bne_self_eq_false,beq_self_eq_true];rfl) ?_;first|refine c52 _ ?_|refine c68 _ _ ?_|refine c37 fun s8 g10 => ?_)
        first|refine w_retQ ?_|refine w_endQ ?_
        conv=>arg 1;simp only[go_sem]
        exact w_res (v := .bool true) (by simp only [go_sem]) rfl
      · have hu : ul = had - m ∧ uh = th - m := by
          refine g7.unique ⟨⟨⟨(had - m, 0), ?_, rfl⟩, ⟨(th - m, 0), ?_, rfl⟩⟩, ?_⟩
          · rw [tuck_later hsp hm'.1 (by omega)]; simp only [and_true]; omega
          · rw [tuck_later hsp hm'.1 (by omega)]; simp only [and_true]; omega
          · rintro n ⟨x, hx, rfl⟩
            rw [tuck_later hsp hm'.1 (by omega)] at hx
            omega
        obtain ⟨rfl, rfl⟩ := hu
        have hw1 : w64 (had - m) = had - m := w64_id (by omega)
        have hw2 : w64 (th - m) = th - m := w64_id (by omega)
        repeat first|refine Wr ?_|refine Wb ?_|refine Wc ?_|refine Wd ?_|refine We ?_|refine Wf ?_|refine Wg ?_|refine Wh ?_|refine Wi ?_|refine Wj (by decide) ?_|refine Wa ?_|refine Wk ?_|refine Wl ?_|refine Wm ?_|refine Wn ?_|refine Wo ?_|refine Wp ?_|refine Wq ?_|refine Ww (by simp only[go_sem,z0,hn1,hmh,hhad,hha,hw1,hw2,e2,e6,e7,e8,e10,e11,e12,e13,e14,e15,e16,e17,e68,bne_self_eq_false,beq_self_eq_true];done) ?_|((first|refine Ws ?_|refine Wt ?_|refine Wu ?_|refine Wv (by simp only[go_sem,z0,hn1,hmh,hhad,hha,hw1,hw2,e2,e6,e7,e8,e10,e11,e12,e13,e14,e15,e16,e17,e68,bne_self_eq_false,beq_self_eq_true];done) ?_);conv=>arg 2;simp only[go_sem,z0,hn1,hmh,hhad,hha,hw1,hw2,e2,e6,e7,e8,e10,e11,e12,e13,e14,e15,e16,e17,e68,bne_self_eq_false,beq_self_eq_true])|(refine Wx (by simp only[go_sem,z0,hn1,hmh,hhad,hha,hw1,hw2,e2,e6,e7,e8,e10,e11,e12,e13,e14,e15,e16,e17,e68,bne_self_eq_false,beq_self_eq_true];rfl) (by simp only[go_sem,z0,hn1,hmh,hhad,hha,hw1,hw2,e2,e6,e7,e8,e10,e11,e12,e13,e14,e15,e16,e17,e68,bne_self_eq_false,beq_self_eq_true];rfl) ?_;first|refine c52 _ ?_|refine c68 _ _ ?_|refine c37 fun s8 g10 => ?_)
        first|refine w_retQ ?_|refine w_endQ ?_
        conv=>arg 1;simp only[go_sem]
        exact w_res (v := .bool true) (by simp only [go_sem]) rfl
  · repeat first|refine Wr ?_|refine Wb ?_|refine Wc ?_|refine Wd ?_|refine We ?_|refine Wf ?_|refine Wg ?_|refine Wh ?_|refine Wi ?_|refine Wj (by decide) ?_|refine Wa ?_|refine Wk ?_|refine Wl ?_|refine Wm ?_|refine Wn ?_|refine Wo ?_|refine Wp ?_|refine Wq ?_|refine Ww (by simp only[go_sem,hok];done) ?_|((first|refine Ws ?_|refine Wt ?_|refine Wu ?_|refine Wv (by simp only[go_sem,hok];done) ?_);conv=>arg 2;simp only[go_sem,hok])|(refine Wx (by simp only[go_sem,hok];rfl) (by simp only[go_sem,hok];rfl) ?_;first|refine c47 ⟨lo, hi, []⟩ hlen ?_|refine c37 fun s1 g1 => ?_)
    first|refine w_retQ ?_|refine w_endQ ?_
    conv=>arg 1;simp only[go_sem]
    exact w_res (v := .bool true) (by simp only [go_sem]) rfl
end Go.Hu.Sn
