/-
  A pure machine for programs, and its soundness against the model: the lemmas hold as they stand.
-/
import Derived.Test.YtdpjoppdlhfidaaDoorMa
import Derived.Deep.AppendSrc
import Derived.MapKept
import Derived.Laws.IdiomRangeMap
import GoSem.Dispatch
import Derived.Test.YtdpjoppdlhfidaaDoorWa
import Derived.Calls
import Derived.Orders
set_option linter.unusedSimpArgs false
set_option linter.unusedVariables false
namespace Go.Hu
section
variable {F : Fix} {g : Gh} {w : World} {s : St} {mine : Nat → Prop} {e : Env} {tmps : Array Value} {at_ at' : AT} {o : Oper} {K : Env → St → Prop} {ops : Array Oper} {tab tab' : Tab} {po : Op} {C : CP} {gd : Option (Nat × Bool)}

/-- A row of zeros. -/
theorem zero_row {nm : FuncId → Option Nat} {H : Heap} {z : V} {zc : Array Value} (hz : EncL nm g H z.cells zc) (n : Nat) : EncL nm g H (zeros z n) ((Array.range (n * zc.size)).map (zc[· % zc.size]!)) := by
  have hl : (zeros z n).length = n * zc.size := by unfold zeros; simp [hz.1]
  refine ⟨by simp [hl], fun j x hx => ?_⟩
  have hj : j < n * zc.size := by rw [← hl]; exact (List.getElem?_eq_some_iff.1 hx).1
  have hp : 0 < zc.size := by
    rcases Nat.eq_zero_or_pos zc.size with h | h
    · rw [h] at hj; simp at hj
    · exact h
  have key : ∀ (n j : Nat), j < n * zc.size → (zeros z n)[j]? = z.cells[j % zc.size]? := by
    intro n
    induction n with
    | zero => intro j h; simp at h
    | succ n ih =>
      intro j h
      have e : zeros z (n + 1) = z.cells ++ zeros z n := by simp [zeros, List.replicate_succ]
      rw [e]
      by_cases h1 : j < zc.size
      · rw [List.getElem?_append_left (by rw [hz.1]; exact h1), Nat.mod_eq_of_lt h1]
      · rw [List.getElem?_append_right (by rw [hz.1]; omega), hz.1, ih (j - zc.size) (by rw [Nat.succ_mul] at h; omega), ← Nat.mod_eq_sub_mod (by omega)]
  rw [key n j hj] at hx
  have := hz.2 _ x hx
  have hm : j % zc.size < zc.size := Nat.mod_lt _ hp
  simpa [Array.getD, hj, hm] using this

theorem set_cells {sz : Nat} : ∀ {xs : List V} (_ : ∀ x ∈ xs, x.cells.length = sz) {i : Nat} {v : V}, i < xs.length → v.cells.length = sz → putAt (xs.flatMap V.cells) (i * sz) v.cells = some ((xs.set i v).flatMap V.cells)
  | [], _, i, v, h, _ => by simp at h
  | x :: xs, hs, 0, v, h, hv => by
    have := hs x (by simp)
    unfold putAt
    rw [if_pos (by simp; omega)]
    simp [hv, this]
  | x :: xs, hs, i + 1, v, h, hv => by
    have hx := hs x (by simp)
    have ih := set_cells (sz := sz) (xs := xs) (fun y hy => hs y (by simp [hy])) (i := i) (v := v) (by simpa using h) hv
    unfold putAt at ih ⊢
    split at ih
    · rename_i hle
      simp only [Option.some.injEq] at ih
      have e : (i + 1) * sz = sz + i * sz := by rw [Nat.succ_mul]; omega
      rw [if_pos (by simp only [List.flatMap_cons, List.length_append, e]; omega)]
      simp only [List.set_cons_succ, List.flatMap_cons, ← ih, Option.some.injEq, e]
      rw [List.take_append, List.drop_append, List.take_of_length_le (by omega), List.drop_eq_nil_of_le (by omega : x.cells.length ≤ sz + i * sz + v.cells.length)]
      simp only [List.nil_append, List.append_assoc]
      congr 2
      · congr 1; omega
      · congr 2; omega
    · cases ih
theorem fillL_fillV {sh : Sh} : ∀ {is : List Nat} {vs xs ys : List V}, fillL xs is vs sh = some ys → (∀ x ∈ xs, x.fits sh = true) →
    fillV (xs.flatMap V.cells) (is.map fun i => (i * shN sh, shN sh)) vs = some (ys.flatMap V.cells) ∧ (∀ y ∈ ys, y.fits sh = true) ∧ ys.length = xs.length
  | [], [], xs, ys, h, hx => by
    simp only [fillL, Option.some.injEq] at h
    subst h
    exact ⟨rfl, hx, rfl⟩
  | i :: is, v :: vs, xs, ys, h, hx => by
    simp only [fillL] at h
    split at h
    · rename_i hc
      simp only [Bool.and_eq_true, decide_eq_true_eq] at hc
      have hx' : ∀ y ∈ xs.set i v, y.fits sh = true := fun y hy => by
        rcases List.mem_or_eq_of_mem_set hy with h | h
        · exact hx y h
        · rw [h]; exact hc.2
      obtain ⟨h1, h2, h3⟩ := fillL_fillV h hx'
      refine ⟨?_, h2, by simpa using h3⟩
      have hs : v.solid = true := by
        rcases fits_or hc.2 with ⟨cs, rfl⟩ | h
        · rfl
        · cases v <;> first | rfl | exact h
      simp only [List.map_cons, fillV]
      rw [if_pos ⟨hs, fits_len hc.2⟩, set_cells (fun x h => fits_len (hx x h)) hc.1 (fits_len hc.2)]
      exact h1
    · cases h
  | [], _ :: _, xs, ys, h, _ => by simp [fillL] at h
  | _ :: _, [], xs, ys, h, _ => by simp [fillL] at h

/-- A list in cells that stay. -/
theorem Enc.lst_new {nm : FuncId → Option Nat} {H : Heap} {b0 n cap sz : Nat} {xs : List V} {k : Cap} {c : Array Value} {el : TypeId} (hb : H[b0]? = some (.cells c el (0, 0))) (hs : ∀ x ∈ xs, x.cells.length = sz) (hc : ∀ (j : Nat) x, (xs.flatMap V.cells)[j]? = some x → ∃ v, c[j]? = some v ∧ Enc nm g H x v)
    (hn : (xs.flatMap V.cells).length ≤ n) (hk : capOk (g.withZ b0 0 n) k b0 0 sz xs.length cap) (hcap : xs.length ≤ cap) : Enc nm (g.withZ b0 0 n) H (.lst xs k) (.slice (some ⟨b0, 0, none⟩) xs.length cap) := by
  refine .lst (base := 0) (sz := sz) hs (vs := fun j => c.getD j Go.undef) ?_ ?_ ?_ hk hcap
  · intro j hj
    obtain ⟨v, h1, h2⟩ := hc j (xs.flatMap V.cells)[j] (by simp [hj])
    simp [cellH, hb, h1, Array.getD_eq_getD_getElem?]
  · intro j hj
    exact .inr ⟨rfl, by omega, by omega⟩
  · intro j x hx
    obtain ⟨v, h1, h2⟩ := hc j x hx
    have : c.getD j Go.undef = v := by rw [Array.getD_eq_getD_getElem?, h1]; rfl
    rw [this]
    exact h2.mono Gh.le_withZ (.refl _ _)

/-- A new row, told as a list that stays, or as a slice that can be written. -/
theorem done_row {d n : Nat} {ys : List V} {c : Array Value} {el : TypeId} {w' : World} {sz : Nat} (hS : Sim F g w.heap s mine e tmps at_) (hod : o.dst = some d) (hp : F.h.prom.contains d = false) (hd : d < F.nt)
    (hs : ∀ y ∈ ys, y.cells.length = sz) (hsc : ∀ y ∈ ys, ∀ z ∈ y.cells, z.scal = true) (hE : EncL F.X.nm g w.heap (ys.flatMap V.cells) c) (hn : ys.length = n)
    (hw' : w'.heap = w.heap.push (.cells c el)) (hos : w'.os = w.os ∧ w'.output = w.output) (hrun : (execOp (valOf tmps) o).run F.X.P w = .ok (.value (.slice (some ⟨w.heap.size, 0, none⟩) n n)) w') :
    (∀ i : Ins, i.op.wr = [d] → AT.adds i = none → K (e.set d (.lst ys .exact)) s → Done F o K w tmps (AT.step at_ i)) ∧
    (∀ i : Ins, i.op.wr = [d] → AT.adds i = none → (∀ l, s l = none → K (e.set d (.sli l 0 n n)) (s.set l (.cells (ys.flatMap V.cells)))) → Done F o K w tmps (AT.step at_ i)) := by
  obtain ⟨hS1, hfree⟩ := hS.push (.cells c el)
  have hst : Stays g w.heap (w.heap.push (.cells c el)) := stays_push hS.rel _
  subst hn
  refine ⟨?_, ?_⟩
  · intro i iw ia hK
    have hS2 := hS1.newZ (n := (ys.flatMap V.cells).length) hfree (fun j hj => by rw [cellH_push]; exact ⟨c[j]'(by rw [← hE.1]; exact hj), by simp [← hE.1, hj]⟩)
    refine ⟨_, _, .inl hrun, hos, _, s, g.withZ w.heap.size 0 (ys.flatMap V.cells).length, mine, hK, ?_⟩
    rw [hod, hw']
    refine hS2.setVal hp hd (Enc.lst_new (push_new _ _) hs (fun j x hx => ?_) (Nat.le_refl _) rfl (Nat.le_refl _)) (hat_of ia iw)
    obtain ⟨v, h1, h2⟩ := hE.get hx
    exact ⟨v, h1, h2.mono (.refl g) hst⟩
  · intro i iw ia hK
    obtain ⟨l, hl⟩ := hS1.fresh
    have hle := Gh.le_withObj (g := g) (l := l) (b := w.heap.size) (K := fun _ => False) hl.2.1
    have hS2 := hS1.newObj (o := .cells (ys.flatMap V.cells)) hl hfree (by simp) rfl ⟨⟨c, el, push_new _ _, (hE.mono (.refl g) hst).mono hle (.refl _ _)⟩, fun z hz => by
      obtain ⟨y, h1, h2⟩ := List.mem_flatMap.1 hz
      exact hsc y h1 z h2⟩ (by simp)
    refine ⟨_, _, .inl hrun, hos, _, _, g.withObj l w.heap.size (fun _ => False), mine, hK l hl.1, ?_⟩
    rw [hod, hw']
    exact hS2.setVal hp hd (.sli (by simp [Gh.withObj])) (hat_of ia iw)

theorem flat_replicate (z : V) (n : Nat) : (List.replicate n z).flatMap V.cells = zeros z n := by
  simp [zeros, List.flatMap_def]

theorem sim_buildSlice {t : TypeId} {len : Nat} {parts : Array (Nat × Operand)} (hS : Sim F g w.heap s mine e tmps at_) (ho : o.op = .buildSlice t len parts) (hc : compileOp F.X F.h ops tab o = some (po, tab')) (hlt : ∀ d ∈ po.wr, d < F.nt) (hw : wpO C po e s K) :
    Done F o K w tmps (AT.step at_ ⟨po, gd⟩) := by
  unfold compileOp at hc
  rw [ho] at hc
  simp only [Option.bind_eq_bind, Option.bind_eq_some_iff] at hc
  obtain ⟨desc, hu, hc⟩ := hc
  split at hc
  · rename_i el
    simp only [Option.bind_eq_some_iff] at hc
    obtain ⟨z, hz, sh, hsh, hc⟩ := hc
    split at hc
    · cases hc
    · rename_i hchk
      simp only [Bool.or_eq_true, Bool.not_eq_true', decide_eq_false_iff_not, not_or, Bool.not_eq_false, Nat.not_le, Nat.not_lt] at hchk
      obtain ⟨hzf, hmax⟩ := hchk
      obtain ⟨_, _, hsz, hpos, _⟩ := sh_parts hsh
      obtain ⟨zv, hzr, hzc⟩ := run_zero hz w
      obtain ⟨hz1, hz2, hz3⟩ := enc_fits (cV_enc (nm := F.X.nm) (g := g) (H := w.heap) zv z hzc) hzf
      -- the model's run
      have main : ∀ (xs : List Opd) (ys : List V), F.X.opds F.h (parts.map (·.2)) = some xs → fillL (List.replicate len z) (parts.toList.map (·.1)) (xs.map (ev e)) sh = some ys →
          ∃ c, EncL F.X.nm g w.heap (ys.flatMap V.cells) c ∧ (∀ y ∈ ys, y.fits sh = true) ∧ ys.length = len ∧ (execOp (valOf tmps) o).run F.X.P w = .ok (.value (.slice (some ⟨w.heap.size, 0, none⟩) len len)) { w with heap := w.heap.push (.cells c el) } := by
        intro xs ys hxs hfill
        have hE := hS.opds hxs
        obtain ⟨f1, f2, f3⟩ := fillL_fillV hfill (fun x hx => by rw [List.eq_of_mem_replicate hx]; exact hzf)
        rw [flat_replicate] at f1
        have hzrow := zero_row hz1 len
        rw [hz2] at hzrow
        have e1 : ((parts.map (·.2)).map (valOf tmps)).toList = parts.toList.map fun ix => valOf tmps ix.2 := by simp
        have hv := hE.vals
        rw [e1] at hv
        obtain ⟨c, hfr, hcE⟩ := fill_run (place := fun i => some (i * shN sh, shN sh)) (parts.toList.map (·.1)) ((parts.toList.map (·.1)).map fun i => (i * shN sh, shN sh)) (xs.map (ev e)) (parts.toList.map fun ix => valOf tmps ix.2) _ _ _ (by simp) (by
          intro j i p q1 q2
          rw [List.getElem?_map, q1] at q2
          simpa using q2) (by have := hE.1; simp at this ⊢; exact this) hv hzrow f1
        refine ⟨c, hcE, f2, by simpa using f3, ?_⟩
        have hl' : ((parts.map fun x => (x.1, valOf tmps x.2)).toList) = (parts.toList.map (·.1)).zip (parts.toList.map fun ix => valOf tmps ix.2) := by rw [zip_map]; simp
        have hmax' : ¬ len * shN sh > 2 ^ 24 := by omega
        by_cases h0 : len * shN sh = 0
        · have h1 : len = 0 := by
            rcases Nat.mul_eq_zero.1 h0 with h | h
            · exact h
            · omega
          subst h1
          simp only [Nat.zero_mul] at hfr
          have hfr' : Instr.fill (fun i => some (i * shN sh, shN sh)) #[] ((parts.toList.map (·.1)).zip (parts.toList.map fun ix => valOf tmps ix.2)) = some c := by simpa [Array.range_zero'] using hfr
          simp only [execOp, ho, Instr.buildSlice, Sem.run_bind, run_underlying hu, Result.andThen_ok, run_size hsz, Sem.run_ite]
          rw [if_neg hmax']
          simp only [Sem.run_pure, Result.andThen_ok, h0, if_true, Sem.run_bind, hl', Nat.zero_mul, Array.range_zero', List.map_toArray, List.map_nil, hfr', newRow, run_newObj]
        · have hne : ¬ 2 ^ 24 < len * shN sh := by omega
          simp only [execOp, ho, Instr.buildSlice, Sem.run_bind, run_underlying hu, Result.andThen_ok, run_size hsz, Sem.run_ite]
          rw [if_neg hmax']
          simp only [Sem.run_pure, Result.andThen_ok, h0, if_false, Sem.run_bind, hzr, hl', hz2, hfr, newRow, run_newObj]
      split at hc
      · simp only [Option.bind_eq_some_iff, Option.some.injEq] at hc
        obtain ⟨d, hd, xs, hxs, hc⟩ := hc
        cases hc
        obtain ⟨h1, h2, _⟩ := cdst_inv hd
        simp only [wpO] at hw
        split at hw
        · rename_i ys hys
          obtain ⟨c, hcE, hfit, hlen, hrun⟩ := main xs ys hxs hys
          exact (done_row hS h1 h2 (hlt d (by simp [Op.wr])) (fun y hy => fits_len (hfit y hy)) (fun y hy => fits_scal (hfit y hy)) hcE hlen rfl (by exact ⟨rfl, rfl⟩) hrun).2 _ rfl rfl hw.2
        · exact hw.elim
      · obtain ⟨d, xs, h1, h2, hxs, h4⟩ := cval_inv hc
        cases h4
        simp only [wpO, pv] at hw
        split at hw
        · rename_i v hv
          obtain ⟨ys, hys, rfl⟩ := Option.map_eq_some_iff.1 hv
          obtain ⟨c, hcE, hfit, hlen, hrun⟩ := main xs ys hxs hys
          exact (done_row hS h1 h2 (hlt d (by simp [Op.wr])) (fun y hy => fits_len (hfit y hy)) (fun y hy => fits_scal (hfit y hy)) hcE hlen rfl (by exact ⟨rfl, rfl⟩) hrun).1 _ rfl rfl hw
        · exact hw.elim
  · cases hc

theorem sim_makeSlice {t : TypeId} {ln cp : Operand} (hS : Sim F g w.heap s mine e tmps at_) (ho : o.op = .makeSlice t ln cp) (hc : compileOp F.X F.h ops tab o = some (po, tab')) (hlt : ∀ d ∈ po.wr, d < F.nt) (hw : wpO C po e s K) :
    Done F o K w tmps (AT.step at_ ⟨po, gd⟩) := by
  unfold compileOp at hc
  rw [ho] at hc
  simp only [Option.bind_eq_bind, Option.bind_eq_some_iff] at hc
  obtain ⟨desc, hu, hc⟩ := hc
  split at hc
  · rename_i el
    simp only [Option.bind_eq_some_iff] at hc
    obtain ⟨z, hz, sh, hsh, hc⟩ := hc
    split at hc
    · cases hc
    · rename_i hchk
      simp only [Bool.or_eq_true, Bool.not_eq_true', not_or, Bool.not_eq_false, Option.any_eq_true_iff_get, decide_eq_true_eq] at hchk
      obtain ⟨hzf, hby⟩ := hchk
      obtain ⟨_, _, hsz, hpos, _⟩ := sh_parts hsh
      obtain ⟨zv, hzr, hzc⟩ := run_zero hz w
      obtain ⟨hz1, hz2, hz3⟩ := enc_fits (cV_enc (nm := F.X.nm) (g := g) (H := w.heap) zv z hzc) hzf
      obtain ⟨i, hi, hib⟩ : ∃ i, F.X.P.info? el = some i ∧ i.bytes ≤ 4096 := by
        obtain ⟨i, hi, _⟩ := info_of_size hsz
        refine ⟨i, hi, ?_⟩
        simp only [hi, Option.map_some, Option.isSome_some, Option.get_some, exists_true_left] at hby
        exact hby
      have main : ∀ (n c : Int), 0 ≤ n → n ≤ c → c ≤ (maxLst : Int) → (Instr.makeSlice t (.int .i64 n) (.int .i64 c)).run F.X.P w = .ok (.slice (some ⟨w.heap.size, 0, none⟩) n.toNat c.toNat) { w with heap := w.heap.push (.cells ((Array.range (c.toNat * zv.cells.size)).map (zv.cells[· % zv.cells.size]!)) el) } := by
        intro n c h0 h1 h2
        have hm : (maxLst : Int) = 1073741824 := rfl
        have wn : IntKind.i64.wrap n = n := by rw [w64_eq]; unfold w64; omega
        have wc : IntKind.i64.wrap c = c := by rw [w64_eq]; unfold w64; omega
        have hb1 : ¬ ((2 : Int) ^ 48 < (i.bytes : Int) * c) := by
          have : (i.bytes : Int) * c ≤ 4096 * 1073741824 := Int.mul_le_mul (by omega) (by omega) (by omega) (by omega)
          omega
        have c1 : (decide (c < 0) || decide ((i.bytes : Int) * c > 2 ^ 48)) = false := by
          simp only [Bool.or_eq_false_iff, decide_eq_false_iff_not]
          exact ⟨by omega, hb1⟩
        simp only [Instr.makeSlice, Sem.run_bind, run_underlying hu, Result.andThen_ok, asInt, asIntOf, Sem.run_pure, typeInfo, run_program, hi, wn, wc, c1, Sem.run_ite]
        have c2 : ¬ (n < 0) := by omega
        have c3 : ¬ (n > c) := by omega
        simp only [Bool.false_or, c2, c3, decide_false, Bool.or_false, Bool.false_eq_true, if_false, false_or, Sem.run_bind, run_askRoom, Result.andThen_ok, run_size hsz, hz2]
        by_cases hz0 : c.toNat * shN sh = 0
        · simp only [hz0, if_true, Sem.run_pure, Result.andThen_ok, newRow, Sem.run_bind, run_newObj, Array.range_zero', List.map_toArray, List.map_nil]
        · simp only [hz0, if_false, Sem.run_pure, Result.andThen_ok, Sem.run_bind, hzr, newRow, run_newObj, hz2]
      have rowE : ∀ n : Nat, EncL F.X.nm g w.heap ((List.replicate n z).flatMap V.cells) ((Array.range (n * zv.cells.size)).map (zv.cells[· % zv.cells.size]!)) := fun n => by
        rw [flat_replicate]; exact zero_row hz1 n
      have gen : (cdst F.h o).bind (fun d => (F.X.opd F.h ln).bind fun a => (F.X.opd F.h cp).bind fun b => some (Op.mkslice d z (shN sh) a b, tab)) = some (po, tab') → Done F o K w tmps (AT.step at_ ⟨po, gd⟩) := by
        intro hc
        simp only [Option.bind_eq_some_iff, Option.some.injEq] at hc
        obtain ⟨d, hd, a, ha, b, hb, hc⟩ := hc
        cases hc
        obtain ⟨h1, h2, _⟩ := cdst_inv hd
        simp only [wpO] at hw
        split at hw
        · rename_i n c hn hcv
          obtain ⟨q1, q2, q3, q4, hK⟩ := hw
          have hA := hS.opd ha
          have hB := hS.opd hb
          rw [hn] at hA
          rw [hcv] at hB
          have hrun := main n c q1 q2 q3
          rw [← hA.of_int, ← hB.of_int] at hrun
          have hrun' : (execOp (valOf tmps) o).run F.X.P w = .ok (.value (.slice (some ⟨w.heap.size, 0, none⟩) n.toNat c.toNat)) { w with heap := w.heap.push (.cells ((Array.range (c.toNat * zv.cells.size)).map (zv.cells[· % zv.cells.size]!)) el) } := by
            simp only [execOp, ho, Sem.run_bind, hrun, Result.andThen_ok, Sem.run_pure]
          obtain ⟨hS1, hfree⟩ := hS.push (.cells ((Array.range (c.toNat * zv.cells.size)).map (zv.cells[· % zv.cells.size]!)) el)
          have hst : Stays g w.heap (w.heap.push (.cells ((Array.range (c.toNat * zv.cells.size)).map (zv.cells[· % zv.cells.size]!)) el)) := stays_push hS.rel _
          obtain ⟨l, hl⟩ := hS1.fresh
          have hle := Gh.le_withObj (g := g) (l := l) (b := w.heap.size) (K := fun _ => False) hl.2.1
          have hE := rowE c.toNat
          rw [flat_replicate] at hE
          have hS2 := hS1.newObj (o := .cells (zeros z c.toNat)) hl hfree (by simp) rfl ⟨⟨_, el, push_new _ _, (hE.mono (.refl g) hst).mono hle (.refl _ _)⟩, fun y hy => by
            simp only [zeros, List.mem_flatten, List.mem_replicate] at hy
            obtain ⟨l', ⟨_, rfl⟩, hy⟩ := hy
            exact fits_scal hzf y hy⟩ (by simp)
          refine ⟨_, _, .inl hrun', by exact ⟨rfl, rfl⟩, _, _, g.withObj l w.heap.size (fun _ => False), mine, hK l hl.1, ?_⟩
          rw [h1]
          exact hS2.setVal h2 (hlt d (by simp [Op.wr])) (.sli (by simp [Gh.withObj])) (hat_of rfl rfl)
        · exact hw.elim
      split at hc
      · rename_i n c hmt
        split at hc
        · rename_i hcond
          simp only [Bool.and_eq_true, beq_iff_eq, decide_eq_true_eq] at hcond
          obtain ⟨⟨rfl, h0⟩, h1⟩ := hcond
          obtain ⟨d, xs, g1, g2, g3, g4⟩ := cval_inv hc
          cases g4
          cases g3
          simp only [wpO, pv, List.map_nil, fillL, Option.map_some] at hw
          have hrun := main n n h0 (Int.le_refl _) (by have : (maxLst : Int) = 1073741824 := rfl; omega)
          have hrun' : (execOp (valOf tmps) o).run F.X.P w = .ok (.value (.slice (some ⟨w.heap.size, 0, none⟩) n.toNat n.toNat)) { w with heap := w.heap.push (.cells ((Array.range (n.toNat * zv.cells.size)).map (zv.cells[· % zv.cells.size]!)) el) } := by
            simp only [execOp, ho, valOf, Sem.run_bind, hrun, Result.andThen_ok, Sem.run_pure]
          have hall : ∀ y ∈ List.replicate n.toNat z, y.fits sh = true := fun y hy => by rw [List.eq_of_mem_replicate hy]; exact hzf
          exact (done_row hS g1 g2 (hlt d (by simp [Op.wr])) (fun y hy => fits_len (hall y hy)) (fun y hy => fits_scal (hall y hy)) (rowE n.toNat) (by simp) rfl (by exact ⟨rfl, rfl⟩) hrun').1 _ rfl rfl hw
        · cases hc
      · exact gen hc
  · cases hc

theorem sim_makeMap {t : TypeId} {r : Option Operand} (hS : Sim F g w.heap s mine e tmps at_) (ho : o.op = .makeMap t r) (hc : compileOp F.X F.h ops tab o = some (po, tab')) (hlt : ∀ d ∈ po.wr, d < F.nt) (hw : wpO C po e s K) :
    Done F o K w tmps (AT.step at_ ⟨po, gd⟩) := by
  unfold compileOp at hc
  rw [ho] at hc
  cases r with
  | some r => cases hc
  | none =>
    simp only [Option.bind_eq_bind, Option.bind_eq_some_iff, Option.some.injEq] at hc
    obtain ⟨d, hd, hc⟩ := hc
    cases hc
    obtain ⟨h1, h2, _⟩ := cdst_inv hd
    obtain ⟨hS1, hfree⟩ := hS.push (.map #[] 0)
    obtain ⟨l, hl⟩ := hS1.fresh
    have hS2 := hS1.newObj (o := .map []) hl hfree (by simp) rfl ⟨#[], push_new _ _, rfl, by simp⟩ (by simp)
    refine ⟨.map (some w.heap.size), { w with heap := w.heap.push (.map #[] 0) }, .inl (by simp [execOp, ho, Instr.makeMap]), by exact ⟨rfl, rfl⟩, _, _, g.withObj l w.heap.size (fun _ => False), mine, hw l hl.1, ?_⟩
    rw [h1]
    exact hS2.setVal h2 (hlt d (by simp [Op.wr])) (.map (by simp [Gh.withObj])) (hat_of rfl rfl)

/-! ## append, copy, clear -/
theorem row_scal {ys : List V} (h : ys.all V.row = true) : ∀ z ∈ ys.flatMap V.cells, z.scal = true := by
  intro z hz
  obtain ⟨y, h1, h2⟩ := List.mem_flatMap.1 hz
  have := List.all_eq_true.1 h y h1
  exact List.all_eq_true.1 this z h2
theorem hd_all {xs : List V} {sz : Nat} {sz' : Nat} (h : hd xs sz = true) (hs : ∀ x ∈ xs, x.cells.length = sz') : ∀ x ∈ xs, x.cells.length = sz := by
  intro x hx
  have : sz' = sz := hd_sz h hs (fun e => by rw [e] at hx; cases hx)
  rw [hs x hx, this]

/-- Cells of the model that tell pure cells, as a list. -/
theorem vals_list {nm : FuncId → Option Nat} {cs : List V} {vs : Nat → Value} {H : Heap} (he : ∀ (j : Nat) x, cs[j]? = some x → Enc nm g H x (vs j)) : EncL nm g H cs ((List.range cs.length).map vs).toArray := by
  refine ⟨by simp, fun j x hx => ?_⟩
  have hj := (List.getElem?_eq_some_iff.1 hx).1
  simpa [Array.getD, hj] using he j x hx
theorem scal_one {nm : FuncId → Option Nat} {H : Heap} {cs : List V} {c : Array Value} (h : EncL nm g H cs c) (hs : ∀ x ∈ cs, x.scal = true) : ∀ u ∈ c.toList, u.oneCell' = true := by
  intro u hu
  obtain ⟨j, hj, rfl⟩ := List.getElem_of_mem hu
  have hj' : j < cs.length := by rw [h.1]; simpa using hj
  obtain ⟨v', q1, q2⟩ := h.get (j := j) (x := cs[j]) (by simp [hj'])
  have := (q2.oneCell (hs _ (List.getElem_mem hj'))).1
  simp only [Array.getElem_toList]
  rw [Array.getElem?_eq_some_iff] at q1
  obtain ⟨_, rfl⟩ := q1
  exact this

/-- What the model reads of a list's or a slice's first elements. -/
structure SrcOk (X : Ctx) (g : Gh) (H : Heap) (sz : Nat) (vx : Value) (m : Nat) (news : List V) (nl : Array Value) : Prop where
  len : ∀ w' : World, (Builtin.lenOf vx).run X.P w' = .ok m w'
  enc : EncL X.nm g H news nl
  size : nl.size = m * sz
  cells : ∀ w' : World, w'.heap = H → ∀ k, k ≤ m → (Builtin.firstCells sz k vx).run X.P w' = .ok (nl.toList.take (k * sz)).toArray w'

theorem src_lst {xs : List V} {c : Cap} {v : Value} {sz : Nat} (hx : Enc F.X.nm g w.heap (.lst xs c) v) (hh : hd xs sz = true) : ∃ nl, SrcOk F.X g w.heap sz v xs.length (xs.flatMap V.cells) nl := by
  rcases hx.of_lst with ⟨rfl, rfl, _⟩ | ⟨b, base, sz', cap, vs, rfl, hs, hc, hZ, he, _, _⟩
  · exact ⟨#[], fun _ => rfl, EncL.nil, by simp, fun w' _ k hk => by simp [run_firstCells_none]⟩
  · have hs' := hd_all hh hs
    have hl := flat_len hs'
    have hE := vals_list (g := g) (H := w.heap) he
    refine ⟨_, fun _ => rfl, hE, by simp [hl], fun w' hw' k hk => ?_⟩
    refine run_firstCells_some w' sz k ⟨b, base, none⟩ xs.length cap _ ?_ ?_
    · simp [hl]; rw [Nat.min_eq_left hk]
    · intro j v hv
      rw [List.getElem?_take] at hv
      split at hv
      · simp only [List.getElem?_map, Option.map_eq_some_iff] at hv
        obtain ⟨a, ha, rfl⟩ := hv
        have hj := (List.getElem?_eq_some_iff.1 ha).1
        rw [List.length_range] at hj
        rw [List.getElem?_range hj] at ha
        cases ha
        rw [Addr.add_lit, cell?_eq, hw']
        exact hc j hj
      · cases hv
theorem src_sli {l off n c : Nat} {cs : List V} {v : Value} {sz : Nat} (hS : Sim F g w.heap s mine e tmps at_) (hx : Enc F.X.nm g w.heap (.sli l off n c) v) (hl : s l = some (.cells cs)) (hb : off + n * sz ≤ cs.length) : ∃ nl, SrcOk F.X g w.heap sz v n ((cs.drop off).take (n * sz)) nl ∧ ∀ x ∈ (cs.drop off).take (n * sz), x.scal = true := by
  obtain ⟨b, rfl, hβ⟩ := hx.of_sli
  obtain ⟨b', hβ', ⟨⟨cc, el, q2, q3⟩, qs⟩, _⟩ := hS.rel.obj l _ hl rfl
  obtain rfl := Option.some.inj (hβ'.symm.trans hβ)
  have hE : EncL F.X.nm g w.heap ((cs.drop off).take (n * sz)) ((cc.toList.drop off).take (n * sz)).toArray := by
    refine ⟨by have := q3.1; simp; omega, fun j x hx => ?_⟩
    rw [List.getElem?_take] at hx
    split at hx
    · rename_i hj
      rw [List.getElem?_drop] at hx
      obtain ⟨v, h1, h2⟩ := q3.get hx
      rw [Array.getD_eq_getD_getElem?, List.getElem?_toArray, List.getElem?_take, if_pos hj, List.getElem?_drop, Array.getElem?_toList, h1]
      exact h2
    · cases hx
  refine ⟨_, ⟨fun _ => rfl, hE, by have := q3.1; simp; omega, fun w' hw' k hk => ?_⟩, fun x hx => qs x (List.mem_of_mem_drop (List.mem_of_mem_take hx))⟩
  have hkm : k * sz ≤ n * sz := Nat.mul_le_mul_right _ hk
  refine run_firstCells_some w' sz k ⟨b', off, none⟩ n c _ ?_ ?_
  · have := q3.1; simp; omega
  · intro j v hv
    simp only [List.getElem?_take] at hv
    split at hv
    · split at hv
      · rw [List.getElem?_drop, Array.getElem?_toList] at hv
        rw [Addr.add_lit, cell?_eq, hw']
        simp [cellH, q2, hv]
      · cases hv
    · cases hv
theorem src_of {x : V} {v : Value} {sz m : Nat} {news : List V} (hS : Sim F g w.heap s mine e tmps at_) (hx : Enc F.X.nm g w.heap x v) (h : srcOf s sz x = some (news, m)) : ∃ nl, SrcOk F.X g w.heap sz v m news nl ∧ ∀ x ∈ news, x.scal = true := by
  unfold srcOf at h
  split at h
  · split at h
    · rename_i hc
      cases h
      simp only [Bool.and_eq_true] at hc
      obtain ⟨nl, h⟩ := src_lst hx hc.1
      exact ⟨nl, h, row_scal hc.2⟩
    · cases h
  · split at h
    · rename_i cs hl
      split at h
      · rename_i hb
        cases h
        exact src_sli hS hx hl hb
      · cases h
    · cases h
  · cases h

/-- 'append' where there is room. -/
theorem run_app_room {X : Ctx} {t tx ty el e' : TypeId} {sz : Nat} {args : Array TypeId} (h0 : args[0]? = some t) (h1 : args[1]? = some tx) (hu : X.P.underlying t = some (.slice el)) (hx : X.P.underlying tx = some (.slice e')) (hz : X.size el = some sz)
    {base : Option Addr} {n cap m : Nat} {vx : Value} {news : List V} {nl : Array Value} {H : Heap} (hs : SrcOk X g H sz vx m news nl) (hH : w.heap = H) (hroom : n + m ≤ cap) {w' : World} (hst : ∀ a, base = some a → (storeCells (a.add (n * sz)) nl.toList).run X.P w = .ok () w') (hnone : base = none → w' = w) :
    (Builtin.append_ args ty #[.slice base n cap, vx]).run X.P w = .ok (.slice base (n + m) cap) w' := by
  have hc := hs.cells w hH m (Nat.le_refl _)
  have hall : (nl.toList.take (m * sz)).toArray = nl := by rw [← hs.size, ← Array.length_toList, List.take_length]
  rw [hall] at hc
  have hi : (match (TypeDesc.slice e') with | .int _ => true | _ => false) = false := rfl
  cases base with
  | none =>
    obtain rfl := hnone rfl
    simp [Builtin.append_, h0, h1, run_underlying hu, run_underlying hx, run_size hz, hs.len, hroom, hc]
  | some a =>
    simp [Builtin.append_, h0, h1, run_underlying hu, run_underlying hx, run_size hz, hs.len, hroom, hc, hst a rfl]

/-- 'append' where there is none: a new row. -/
theorem run_app_grow {X : Ctx} {t tx ty el e' : TypeId} {sz : Nat} {args : Array TypeId} {i : TypeInfo} {zv : Value} (h0 : args[0]? = some t) (h1 : args[1]? = some tx) (hu : X.P.underlying t = some (.slice el)) (hx : X.P.underlying tx = some (.slice e')) (hz : X.size el = some sz)
    (hi : X.P.info? el = some i) (hb : i.bytes ≤ 4096) (hzv : i.zero = some zv) {base : Option Addr} {n cap m : Nat} {vx : Value} {news olds : List V} {nl ol : Array Value} {H : Heap} (hs : SrcOk X g H sz vx m news nl) (hso : SrcOk X g H sz (.slice base n cap) n olds ol) (hH : w.heap = H)
    (hroom : cap < n + m) (hmax : n + m ≤ maxLst) :
    ∃ (c' : Nat) (w' : World), (n + m ≤ c' ∧ (w'.os = w.os ∧ w'.output = w.output)) ∧ w'.heap = w.heap.push (.cells ((ol ++ nl) ++ Builtin.zeroCells zv.cells (c' - (n + m))) el) ∧
    (Builtin.append_ args ty #[.slice base n cap, vx]).run X.P w = .ok (.slice (some ⟨w.heap.size, 0, none⟩) (n + m) c') w' := by
  have hm : maxLst = 1073741824 := rfl
  have hns : Builtin.nextslicecap (n + m) cap ≤ 4 * (n + m) + 4096 := by
    unfold Builtin.nextslicecap
    split
    · omega
    · split
      · omega
      · rw [growBy_four]; repeat (first | split | omega)
  have hfit : ¬ (Builtin.nextslicecap (n + m) cap * i.bytes > 2 ^ 48) := by
    have : Builtin.nextslicecap (n + m) cap * i.bytes ≤ (4 * 1073741824 + 4096) * 4096 := Nat.mul_le_mul (by omega) hb
    omega
  have hn : ¬ (n + m ≤ cap) := by omega
  have hdrew : w.drew.heap = H := hH
  have hc := hs.cells w.drew hdrew m (Nat.le_refl _)
  have hall : (nl.toList.take (m * sz)).toArray = nl := by rw [← hs.size, ← Array.length_toList, List.take_length]
  rw [hall] at hc
  have ho := hso.cells w.drew hdrew n (Nat.le_refl _)
  have hallo : (ol.toList.take (n * sz)).toArray = ol := by rw [← hso.size, ← Array.length_toList, List.take_length]
  rw [hallo] at ho
  have h63' : ¬ (9223372036854775807 < ((n : Int) + (m : Int))) := by omega
  have hfit' : ¬ (281474976710656 < Builtin.nextslicecap (n + m) cap * i.bytes) := by omega
  refine ⟨(Question.appendCap (n + m) cap el).cut (w.tape w.drawn (.appendCap (n + m) cap el)), { w with drawn := w.drawn + 1, heap := w.heap.push (.cells ((ol ++ nl) ++ Builtin.zeroCells zv.cells ((Question.appendCap (n + m) cap el).cut (w.tape w.drawn (.appendCap (n + m) cap el)) - (n + m))) el) }, ⟨?_, rfl, rfl⟩, rfl, ?_⟩
  · simp [Question.cut]
  · simp [Builtin.append_, h0, h1, run_underlying hu, run_underlying hx, run_size hz, hs.len, hn, typeInfo, zeroValue, hi, hzv, h63', hfit', Question.forced, hc, ho, newRow]
    rfl

theorem opds_two {as : Array Operand} {a b : Opd} (h : F.X.opds F.h as = some [a, b]) : ∃ x y, as = #[x, y] ∧ F.X.opd F.h x = some a ∧ F.X.opd F.h y = some b := by
  unfold Ctx.opds at h
  obtain ⟨l⟩ := as
  simp only at h
  rcases l with _ | ⟨x, _ | ⟨y, _ | ⟨z, l⟩⟩⟩
  · simp at h
  · simp [Option.bind_eq_some_iff] at h
  · simp only [List.mapM_cons, List.mapM_nil, Option.bind_eq_bind, Option.bind_eq_some_iff, Option.pure_def, Option.some.injEq, List.cons.injEq, and_true] at h
    obtain ⟨p, hp, q, ⟨r, hr, s, rfl, rfl⟩, h1, h2⟩ := h
    simp only [List.cons.injEq, and_true] at h2
    exact ⟨x, y, rfl, h1 ▸ hp, h2 ▸ hr⟩
  · simp only [List.mapM_cons, Option.bind_eq_bind, Option.bind_eq_some_iff, Option.pure_def, Option.some.injEq] at h
    obtain ⟨p, hp, q, ⟨r, hr, s, ⟨u, hu, v, hv, rfl⟩, rfl⟩, h1⟩ := h
    simp at h1
theorem opds_one {as : Array Operand} {a : Opd} (h : F.X.opds F.h as = some [a]) : ∃ x, as = #[x] ∧ F.X.opd F.h x = some a := by
  unfold Ctx.opds at h
  obtain ⟨l⟩ := as
  simp only at h
  rcases l with _ | ⟨x, _ | ⟨y, l⟩⟩
  · simp at h
  · simp only [List.mapM_cons, List.mapM_nil, Option.bind_eq_bind, Option.bind_eq_some_iff, Option.pure_def, Option.some.injEq, List.cons.injEq, and_true] at h
    obtain ⟨p, hp, q, rfl, h1⟩ := h
    simp only [List.cons.injEq, and_true] at h1
    exact ⟨x, rfl, h1 ▸ hp⟩
  · simp only [List.mapM_cons, Option.bind_eq_bind, Option.bind_eq_some_iff, Option.pure_def, Option.some.injEq] at h
    obtain ⟨p, hp, q, ⟨r, hr, s, _, rfl⟩, h1⟩ := h
    simp at h1

/-- A right is used: what lies behind the row's end is written; a new right. -/
theorem Sim.tokWrite {t n : Nat} {b base sz cap : Nat} {c c' : Array Value} {el : TypeId} {H' : Heap} (hS : Sim F g w.heap s mine e tmps at_) (ht : s t = some (.tok n)) (hτ : g.τ t = some (b, base, sz, cap)) (hb : w.heap[b]? = some (.cells c el (0, 0)))
    (hsz : c'.size = c.size) (hsame : ∀ j, j < base + n * sz → c'[j]? = c[j]?) (hs : H'.size = w.heap.size) (hnew : H'[b]? = some (.cells c' el (0, 0))) (hold : ∀ b', b' ≠ b → H'[b']? = w.heap[b']?) {l n' : Nat} (hl : s l = none ∧ g.β l = none ∧ g.τ l = none) (hn : n ≤ n') (hn' : n' ≤ cap) :
    Sim F (g.withTok l b base sz cap (base + n * sz) (base + n' * sz)) H' ((s.set t .dead).set l (.tok n')) mine e tmps at_ := by
  obtain ⟨b1, base1, sz1, cap1, q1, ⟨c1, el1, q2, q3⟩, q4, q5, q6, q7, q8⟩ := hS.rel.tok t n ht
  obtain ⟨rfl, rfl, rfl, rfl⟩ : b1 = b ∧ base1 = base ∧ sz1 = sz ∧ cap1 = cap := by
    have := Option.some.inj (q1.symm.trans hτ)
    simpa using this
  obtain ⟨rfl, rfl⟩ : c1 = c ∧ el1 = el := by
    have := Option.some.inj (q2.symm.trans hb)
    simpa using this
  obtain ⟨k1, k2⟩ := hS.rel.kill ht
  have zlt : ∀ j, g.Z b1 j → j < base1 + n * sz1 := fun j hz => by
    rcases Nat.lt_or_ge j (base1 + n * sz1) with h | h
    · exact h
    · exact absurd hz (q5 j h)
  have hst : Stays g w.heap H' := by
    intro b' j hz
    by_cases e1 : b' = b1
    · subst e1
      simp only [cellH, hnew, hb]
      exact hsame j (zlt j hz)
    · exact cellH_congr (hold b' e1)
  have hne : t ≠ l := by rintro rfl; rw [hl.1] at ht; cases ht
  have other : ∀ t' m x, (s.set t .dead) t' = some (.tok m) → g.τ t' = some x → x.1 ≠ b1 := by
    intro t' m x h1 h2 h3
    by_cases e1 : t' = t
    · subst e1; rw [set_same] at h1; cases h1
    · rw [set_other e1] at h1
      exact e1 (hS.rel.tokinj t' t m n x _ h1 ht h2 hτ h3)
  have obj : ∀ l' o', (s.set t .dead) l' = some o' → o'.live = true → g.β l' ≠ some b1 := by
    intro l' o' h1 h2
    by_cases e1 : l' = t
    · subst e1; rw [set_same] at h1; cases h1; simp [PObj.live] at h2
    · rw [set_other e1] at h1
      exact q8 l' o' h1 h2
  have r1 := k1.touch' (b0 := b1) (H' := H') (by omega) (fun b' _ h => hold b' h) hst (fun _ => ⟨q6, obj, other⟩)
  have hz' : ∀ j, base1 + n * sz1 ≤ j → ¬ g.Z b1 j := q5
  have r2 := r1.newTok (t := l) (b0 := b1) (base := base1) (sz := sz1) (cap := cap1) (n := n') (lo := base1 + n * sz1) (by rw [set_other (Ne.symm hne)]; exact hl.1) hl.2.2 (Nat.add_le_add_left (Nat.mul_le_mul_right _ hn) _) q6 q7 hz' obj other ⟨c', el1, hnew, by omega⟩ hn'
  have ev1 : Evo g w.heap (s.set t .dead) F.kept g H' (s.set t .dead) := ⟨.refl g, hst, fun b' hb' => hold b' fun h => q6 (h ▸ hb'), by omega, fun _ _ h => .inl h, fun _ L h => ⟨L, h, fun _ h => h⟩, fun _ _ _ _ h => h, fun _ h => h⟩
  exact hS.heap r2.1 (k2.trans (ev1.trans r2.2)) fun b' hb' => hold b' fun h => q7 (h ▸ hb')

theorem Gh.withTok_Z {g : Gh} {t b base sz cap lo hi : Nat} {b' j : Nat} : (g.withTok t b base sz cap lo hi).Z b' j ↔ (g.Z b' j ∨ (b' = b ∧ lo ≤ j ∧ j < hi)) := Iff.rfl
theorem Gh.withTok_τ {g : Gh} {t b base sz cap lo hi : Nat} : (g.withTok t b base sz cap lo hi).τ t = some (b, base, sz, cap) := by simp [Gh.withTok]

theorem flat_append_get {xs ys : List V} (j : Nat) : ((xs ++ ys).flatMap V.cells)[j]? = if j < (xs.flatMap V.cells).length then (xs.flatMap V.cells)[j]? else (ys.flatMap V.cells)[j - (xs.flatMap V.cells).length]? := by
  rw [List.flatMap_append, List.getElem?_append]

theorem sim_append {c : Go.Call} (hS : Sim F g w.heap s mine e tmps at_) (ho : o.op = .call c) {t tx : TypeId} {el e' : TypeId} {d : Nat} {sz : Nat} {z : V} {sh : Sh} {mt : Bool} {sl x : Opd} (hcal : c.callee = .builtin .append) (h0 : c.argTypes[0]? = some t) (h1 : c.argTypes[1]? = some tx)
    (hu : F.X.P.underlying t = some (.slice el)) (hx : F.X.P.underlying tx = some (.slice e')) (hz : F.X.zero el = some z) (hsh : F.X.sh el = some sh) (hzf : z.fits sh = true) (hby : ∃ i, F.X.P.info? el = some i ∧ i.bytes ≤ 4096) (hargs : F.X.opds F.h c.args = some [sl, x]) (hsz : sz = shN sh)
    (hod : o.dst = some d) (hp : F.h.prom.contains d = false) (hd : d < F.nt) (hw : wpO C (.append d sz z mt sl x) e s K) :
    Done F o K w tmps (AT.step at_ ⟨.append d sz z mt sl x, gd⟩) := by
  obtain ⟨a1, a2, hav, hA1, hA2⟩ := opds_two hargs
  have hV1 := hS.opd hA1
  have hV2 := hS.opd hA2
  obtain ⟨_, _, hsize, hpos, _⟩ := sh_parts hsh
  rw [← hsz] at hsize hpos
  obtain ⟨zv, hzr, hzc⟩ := run_zero hz w
  obtain ⟨hz1, hz2, hz3⟩ := enc_fits (cV_enc (nm := F.X.nm) (g := g) (H := w.heap) zv z hzc) hzf
  obtain ⟨i, hi, hib⟩ := hby
  have hizero : i.zero = some zv := by
    have h := hzr
    simp only [zeroValue, typeInfo, Sem.run_bind, run_program, Result.andThen_ok, hi, Sem.run_pure] at h
    cases hq : i.zero with
    | none => rw [hq] at h; simp at h
    | some q => rw [hq] at h; simp at h; rw [h]
  have hat : ∀ y ∈ AT.step at_ ⟨.append d sz z mt sl x, gd⟩, y ∈ at_ ∧ y.1 ≠ d := hat_of rfl rfl
  have run : ∀ {r : Value} {w' : World}, (Builtin.append_ c.argTypes o.type #[valOf tmps a1, valOf tmps a2]).run F.X.P w = .ok r w' → (execOp (valOf tmps) o).run F.X.P w = .ok (.value r) w' := by
    intro r w' h
    simp only [execOp, ho, resolve, hcal, hav, List.map_toArray, List.map_cons, List.map_nil, Sem.run_bind, Sem.run_pure, Result.andThen_ok, invoke, builtin, h]
  simp only [wpO] at hw
  obtain ⟨hzl, hw⟩ := hw
  -- a new row
  have grow : ∀ {base : Option Addr} {n cap m : Nat} {olds news : List V} {ol nl : Array Value}, valOf tmps a1 = .slice base n cap → SrcOk F.X g w.heap sz (valOf tmps a1) n olds ol → SrcOk F.X g w.heap sz (valOf tmps a2) m news nl → cap < n + m → n + m ≤ maxLst →
      ∃ (c' : Nat) (w' : World) (row : Array Value), (n + m ≤ c' ∧ (w'.os = w.os ∧ w'.output = w.output)) ∧ w'.heap = w.heap.push (.cells row el) ∧ (execOp (valOf tmps) o).run F.X.P w = .ok (.value (.slice (some ⟨w.heap.size, 0, none⟩) (n + m) c')) w' ∧
        EncL F.X.nm g w.heap (olds ++ news ++ zeros z (c' - (n + m))) row := by
    intro base n cap m olds news ol nl hv hso hs hroom hmax
    rw [hv] at hso
    obtain ⟨c', w', g1, g2, g3⟩ := run_app_grow (ty := o.type) h0 h1 hu hx hsize hi hib hizero hs hso rfl hroom hmax
    refine ⟨c', w', _, g1, g2, run (by rw [hv]; exact g3), ?_⟩
    have hzrow := zero_row hz1 (c' - (n + m))
    have app : ∀ {a b : List V} {c d : Array Value}, EncL F.X.nm g w.heap a c → EncL F.X.nm g w.heap b d → EncL F.X.nm g w.heap (a ++ b) (c ++ d) := by
      intro a b c d h h'
      refine ⟨by simp [h.1, h'.1], fun j x hx => ?_⟩
      rw [List.getElem?_append] at hx
      rw [Array.getD_eq_getD_getElem?, Array.getElem?_append, ← h.1]
      split at hx
      · rename_i hj
        rw [if_pos hj]
        obtain ⟨v, q1, q2⟩ := h.get hx
        rw [q1]; exact q2
      · rename_i hj
        rw [if_neg hj]
        obtain ⟨v, q1, q2⟩ := h'.get hx
        rw [q1]; exact q2
    exact app (app hso.enc hs.enc) hzrow
  split at hw
  · rename_i xs cp hsl
    rw [hsl] at hV1
    split at hw
    · rename_i ys cy hxe
      rw [hxe] at hV2
      obtain ⟨b1, b2, b3, b4, hw⟩ := hw
      obtain ⟨nl, hsrc⟩ := src_lst hV2 b3
      split at hw
      · rename_i hy
        subst hy
        -- nothing is appended
        have hnl : nl = #[] := by have := hsrc.size; simpa using this
        have hrun : ∃ base cap, valOf tmps a1 = .slice base xs.length cap ∧ (Builtin.append_ c.argTypes o.type #[valOf tmps a1, valOf tmps a2]).run F.X.P w = .ok (valOf tmps a1) w := by
          have room : ∀ {base : Option Addr} {cap : Nat}, valOf tmps a1 = .slice base xs.length cap → xs.length ≤ cap → (Builtin.append_ c.argTypes o.type #[valOf tmps a1, valOf tmps a2]).run F.X.P w = .ok (valOf tmps a1) w := by
            intro base cap hv hle
            have := run_app_room (ty := o.type) h0 h1 hu hx hsize hsrc (w := w) rfl (base := base) (n := xs.length) (cap := cap) (by simpa using hle) (w' := w) (by intro a _; rw [hnl]; rfl) (by intro _; rfl)
            rw [hv]
            simpa using this
          rcases hV1.of_lst with ⟨h0', hv, _⟩ | ⟨b, base, sz', cap, vs, hv, _, _, _, _, _, hle⟩
          · subst h0'
            exact ⟨none, 0, hv, room hv (Nat.le_refl _)⟩
          · exact ⟨some ⟨b, base, none⟩, cap, hv, room hv hle⟩
        obtain ⟨base, cap, hv, hr⟩ := hrun
        exact done_val hS hod hp hd hat hw ⟨_, run hr, hV1⟩
      · rename_i hy
        have hm : 0 < ys.length := by
          rcases ys with _ | ⟨y, ys⟩
          · exact absurd rfl hy
          · simp
        obtain ⟨ol, hosrc⟩ := src_lst hV1 b2
        have hs1 : ∀ y ∈ xs, y.cells.length = sz := by
          rcases hV1.of_lst with ⟨h0', _⟩ | ⟨b, base, sz', cap, vs, hv, hs', _⟩
          · subst h0'; simp
          · exact hd_all b2 hs'
        have hs2 : ∀ y ∈ ys, y.cells.length = sz := by
          rcases hV2.of_lst with ⟨h0', _⟩ | ⟨b, base, sz', cap, vs, hv, hs', _⟩
          · subst h0'; simp
          · exact hd_all b3 hs'
        have hs12 : ∀ y ∈ xs ++ ys, y.cells.length = sz := fun y hy => (List.mem_append.1 hy).elim (hs1 y) (hs2 y)
        have hl12 := flat_len hs12
        have hlap : (xs ++ ys).length = xs.length + ys.length := List.length_append
        -- a new row, told as a list with a right
        have newlst : ∀ {base : Option Addr} {cap : Nat}, valOf tmps a1 = .slice base xs.length cap → cap < xs.length + ys.length → ∀ s1, Sim F g w.heap s1 mine e tmps at_ → (∀ l, s1 l = none → K (e.set d (.lst (xs ++ ys) (.tok l))) (s1.set l (.tok (xs ++ ys).length))) →
            Done F o K w tmps (AT.step at_ ⟨.append d sz z mt sl x, gd⟩) := by
          intro base cap hv hroom s1 hS1 hK
          obtain ⟨c', w', row, ⟨r1, ros⟩, r2, r3, r4⟩ := grow hv hosrc hsrc hroom b1
          obtain ⟨hS2, hfree⟩ := hS1.push (.cells row el)
          obtain ⟨l, hl⟩ := hS2.fresh
          have hst : Stays g w.heap (w.heap.push (.cells row el)) := stays_push hS.rel _
          have hrow : row.size = c' * sz := by
            rw [← r4.1]
            simp only [List.length_append, ← List.flatMap_append, hl12, hlap, zeros, List.length_flatten, List.map_replicate, List.sum_replicate_nat, hzl]
            rw [← Nat.add_mul]
            congr 1
            omega
          have hle : (xs ++ ys).length ≤ c' := by rw [hlap]; exact r1
          have hr := hS2.rel.newTok (t := l) (b0 := w.heap.size) (base := 0) (sz := sz) (cap := c') (n := (xs ++ ys).length) (lo := 0) hl.1 hl.2.2 (Nat.zero_le _) hfree.kept hfree.mine (fun j _ => hfree.z j) hfree.obj hfree.tok ⟨row, el, push_new _ _, by omega⟩ hle
          have hS3 := hS2.heap hr.1 hr.2 fun _ _ => rfl
          refine ⟨_, w', .inl r3, ros, _, _, g.withTok l w.heap.size 0 sz c' 0 (0 + (xs ++ ys).length * sz), mine, hK l hl.1, ?_⟩
          rw [hod, r2, ← hlap]
          refine hS3.setVal hp hd ?_ hat
          have hcell : ∀ (j : Nat) y, ((xs ++ ys).flatMap V.cells)[j]? = some y → ∃ v, row[j]? = some v ∧ Enc F.X.nm g w.heap y v := by
            intro j y hy
            refine r4.get ?_
            rw [← List.flatMap_append, List.getElem?_append_left (List.getElem?_eq_some_iff.1 hy).1]
            exact hy
          have hlegh := Gh.le_withTok (g := g) (t := l) (b := w.heap.size) (base := 0) (sz := sz) (cap := c') (lo := 0) (hi := 0 + (xs ++ ys).length * sz) hl.2.2
          refine .lst (base := 0) (sz := sz) hs12 (vs := fun j => row.getD j Go.undef) ?_ ?_ ?_ ⟨Gh.withTok_τ, by rw [hlap]; omega⟩ hle
          · intro j hj
            obtain ⟨v, q1, _⟩ := hcell j _ (List.getElem?_eq_getElem hj)
            rw [Nat.zero_add, cellH_push, q1]
            simp [Array.getD_eq_getD_getElem?, q1]
          · intro j hj
            rw [Gh.withTok_Z]
            rw [hl12] at hj
            exact .inr ⟨rfl, by omega, by omega⟩
          · intro j y hy
            obtain ⟨v, q1, q2⟩ := hcell j y hy
            have : row.getD j Go.undef = v := by rw [Array.getD_eq_getD_getElem?, q1]; rfl
            rw [this]
            exact (q2.mono (.refl g) hst).mono hlegh (.refl _ _)
        split at hw
        · -- there is no room
          have nocap : ∃ base, valOf tmps a1 = .slice base xs.length xs.length := by
            rcases hV1.of_lst with ⟨h0', hv, _⟩ | ⟨b, base, sz', cap, vs, hv, _, _, _, _, hk, hle⟩
            · subst h0'; exact ⟨none, hv⟩
            · simp only [capOk] at hk; subst hk; exact ⟨_, hv⟩
          obtain ⟨base, hv⟩ := nocap
          split at hw
          · obtain ⟨hrowx, hK⟩ := hw
            obtain ⟨c', w', row, ⟨r1, ros⟩, r2, r3, r4⟩ := grow hv hosrc hsrc (by omega) b1
            obtain ⟨hS2, hfree⟩ := hS.push (.cells row el)
            obtain ⟨l, hl⟩ := hS2.fresh
            have hst : Stays g w.heap (w.heap.push (.cells row el)) := stays_push hS.rel _
            have hle := Gh.le_withObj (g := g) (l := l) (b := w.heap.size) (K := fun _ => False) hl.2.1
            have hS3 := hS2.newObj (o := .cells (xs.flatMap V.cells ++ ys.flatMap V.cells ++ zeros z (c' - (xs.length + ys.length)))) hl hfree (by simp) rfl ⟨⟨row, el, push_new _ _, (r4.mono (.refl g) hst).mono hle (.refl _ _)⟩, fun y hy => by
              rcases List.mem_append.1 hy with hy | hy
              · rcases List.mem_append.1 hy with hy | hy
                · exact row_scal hrowx y hy
                · exact row_scal b4 y hy
              · simp only [zeros, List.mem_flatten, List.mem_replicate] at hy
                obtain ⟨l', ⟨_, rfl⟩, hy⟩ := hy
                exact fits_scal hzf y hy⟩ (by simp)
            refine ⟨_, w', .inl r3, ros, _, _, g.withObj l w.heap.size (fun _ => False), mine, hK l c' hl.1 r1, ?_⟩
            rw [hod, r2]
            exact hS3.setVal hp hd (.sli (by simp [Gh.withObj])) hat
          · exact newlst hv (by omega) s hS hw
        · -- a right to extend
          rename_i t'
          split at hw
          · rename_i n htok
            obtain ⟨rfl, hK⟩ := hw
            obtain ⟨b, base, sz', cap, vs, hv, hs', hc', hZ', he', hk, hle⟩ := hV1.of_lst.resolve_left (by rintro ⟨_, _, h⟩; exact h t' rfl)
            simp only [capOk] at hk
            obtain ⟨b2', base2, sz2, cap2, q1, ⟨cc, el2, q2, q3⟩, q4, q5, q6, q7, q8⟩ := hS.rel.tok t' _ htok
            obtain ⟨rfl, rfl, rfl, rfl⟩ : b2' = b ∧ base2 = base ∧ sz2 = sz' ∧ cap2 = cap := by
              have := Option.some.inj (q1.symm.trans hk.1)
              simpa using this
            by_cases hroom : xs.length + ys.length ≤ cap2
            · have hxne : xs ≠ [] := by rintro rfl; simp at hk
              obtain rfl : sz2 = sz := hd_sz b2 hs' hxne
              have hone := scal_one hsrc.enc (row_scal b4)
              have hnl : nl.size = ys.length * sz2 := hsrc.size
              have hoff : base2 + xs.length * sz2 + nl.size ≤ cc.size := by
                rw [hnl, Nat.add_assoc, ← Nat.add_mul]
                exact Nat.le_trans (Nat.add_le_add_left (Nat.mul_le_mul_right _ hroom) _) q3
              have hst := run_storeCells_at F.X.P b2' (base2 + xs.length * sz2) el2 nl.toList 0 cc w q2 (by simpa using hoff) hone
              have hput : (cc.toList.take (base2 + xs.length * sz2 + 0) ++ nl.toList ++ cc.toList.drop (base2 + xs.length * sz2 + 0 + nl.toList.length)).toArray = putA cc (base2 + xs.length * sz2) nl := by simp [putA]
              rw [hput] at hst
              obtain ⟨s1, s2, s3⟩ := setRow_at q2 (putA cc (base2 + xs.length * sz2) nl)
              have hrun := run_app_room (ty := o.type) h0 h1 hu hx hsize hsrc (w := w) rfl (base := some ⟨b2', base2, none⟩) (n := xs.length) (cap := cap2) hroom (w' := w.setRow b2' (putA cc (base2 + xs.length * sz2) nl)) (by
                intro a ha
                cases ha
                rw [Addr.add_lit]
                exact hst) (by intro h; cases h)
              obtain ⟨l, hl⟩ := hS.fresh
              have hS2 := hS.tokWrite (c' := putA cc (base2 + xs.length * sz2) nl) htok q1 q2 (putA_size hoff) (fun j hj => by rw [putA_get hoff, if_neg (by omega)]) s2 s1 s3 hl (n' := (xs ++ ys).length) (by rw [hlap]; omega) (by rw [hlap]; exact hroom)
              refine ⟨_, _, .inl (run (by rw [hv]; exact hrun)), by exact ⟨rfl, rfl⟩, _, _, g.withTok l b2' base2 sz2 cap2 (base2 + xs.length * sz2) (base2 + (xs ++ ys).length * sz2), mine, hK l hl.1, ?_⟩
              rw [hod, ← hlap]
              refine hS2.setVal hp hd ?_ hat
              have hlegh := Gh.le_withTok (g := g) (t := l) (b := b2') (base := base2) (sz := sz2) (cap := cap2) (lo := base2 + xs.length * sz2) (hi := base2 + (xs ++ ys).length * sz2) hl.2.2
              have hstay : Stays g w.heap (w.setRow b2' (putA cc (base2 + xs.length * sz2) nl)).heap := by
                intro b' j hz
                by_cases e1 : b' = b2'
                · subst e1
                  have hj : j < base2 + xs.length * sz2 := by
                    rcases Nat.lt_or_ge j (base2 + xs.length * sz2) with h | h
                    · exact h
                    · exact absurd hz (q5 j h)
                  simp only [cellH, s1, q2]
                  rw [putA_get hoff, if_neg (by omega)]
                · exact cellH_congr (s3 b' e1)
              have hxl := flat_len hs1
              have hcell : ∀ (j : Nat) y, ((xs ++ ys).flatMap V.cells)[j]? = some y → ∃ v, cellH (w.setRow b2' (putA cc (base2 + xs.length * sz2) nl)).heap b2' (base2 + j) = some v ∧ Enc F.X.nm g w.heap y v := by
                intro j y hy
                rw [flat_append_get, hxl] at hy
                simp only [cellH, s1]
                rw [putA_get hoff]
                split at hy
                · rename_i hj
                  rw [if_neg (by omega)]
                  have h1 := hc' j (List.getElem?_eq_some_iff.1 hy).1
                  simp only [cellH, q2] at h1
                  exact ⟨_, h1, he' j y hy⟩
                · rename_i hj
                  obtain ⟨v, g1, g2⟩ := hsrc.enc.get hy
                  have hj2 := (Array.getElem?_eq_some_iff.1 g1).1
                  rw [if_pos (by omega)]
                  refine ⟨v, ?_, g2⟩
                  rw [← g1]
                  congr 1
                  omega
              refine .lst (base := base2) (sz := sz2) hs12 (vs := fun j => (cellH (w.setRow b2' (putA cc (base2 + xs.length * sz2) nl)).heap b2' (base2 + j)).getD Go.undef) ?_ ?_ ?_ ⟨Gh.withTok_τ, by rw [hlap]; omega⟩ (by rw [hlap]; exact hroom)
              · intro j hj
                obtain ⟨v, g1, _⟩ := hcell j _ (List.getElem?_eq_getElem hj)
                simp [g1]
              · intro j hj
                rw [Gh.withTok_Z]
                rw [hl12] at hj
                by_cases hj' : j < xs.length * sz2
                · exact .inl (hZ' j (by rw [hxl]; exact hj'))
                · exact .inr ⟨rfl, by omega, by omega⟩
              · intro j y hy
                obtain ⟨v, g1, g2⟩ := hcell j y hy
                rw [g1]
                exact (g2.mono (.refl g) hstay).mono hlegh (.refl _ _)
            · obtain ⟨k1, k2⟩ := hS.rel.kill htok
              have hS1 := hS.heap k1 k2 fun _ _ => rfl
              refine newlst hv (by omega) _ hS1 fun l hl => ?_
              refine hK l ?_
              by_cases e1 : l = t'
              · subst e1; rw [set_same] at hl; cases hl
              · rwa [set_other e1] at hl
          · exact hw.elim
        · exact hw.elim
    · exact hw.elim
  · rename_i l off n cap hsl
    rw [hsl] at hV1
    obtain ⟨b, hv, hβ⟩ := hV1.of_sli
    obtain ⟨_, hw⟩ := hw
    split at hw
    · rename_i news m cs hsrc' hl
      obtain ⟨hmax, hle, hw⟩ := hw
      obtain ⟨nl, hsrc, hnsc⟩ := src_of hS hV2 hsrc'
      obtain ⟨ol, hosrc, hosc⟩ := src_sli (sz := sz) hS hV1 hl hle
      obtain ⟨b', hβ', ⟨⟨cc, el2, q2, q3⟩, qs⟩, hk1, hm1⟩ := hS.rel.obj l _ hl rfl
      obtain rfl := Option.some.inj (hβ'.symm.trans hβ)
      split at hw
      · rename_i hroom
        split at hw
        · rename_i cs' hput
          have hone := scal_one hsrc.enc hnsc
          obtain ⟨l1, l2⟩ := putAt_len hput
          have hoff : off + n * sz + nl.size ≤ cc.size := by rw [← q3.1, ← hsrc.enc.1]; exact l2
          have hst := run_storeCells_at F.X.P b' (off + n * sz) el2 nl.toList 0 cc w q2 (by simpa using hoff) hone
          have hputA : (cc.toList.take (off + n * sz + 0) ++ nl.toList ++ cc.toList.drop (off + n * sz + 0 + nl.toList.length)).toArray = putA cc (off + n * sz) nl := by simp [putA]
          rw [hputA] at hst
          obtain ⟨s1, s2, s3⟩ := setRow_at q2 (putA cc (off + n * sz) nl)
          have hrun := run_app_room (ty := o.type) h0 h1 hu hx hsize hsrc (w := w) rfl (base := some ⟨b', off, none⟩) (n := n) (cap := cap) hroom (w' := w.setRow b' (putA cc (off + n * sz) nl)) (by
            intro a ha
            cases ha
            rw [Addr.add_lit]
            exact hst) (by intro h; cases h)
          obtain ⟨r1, r2⟩ := hS.rel.setObj (o' := .cells cs') hl rfl hβ' s2 s3 rfl (by simp) (fun hk hst => ⟨⟨_, el2, s1, (q3.put hsrc.enc hput).mono (.refl g) hst⟩, by
            intro y hy
            obtain ⟨j, hj, rfl⟩ := List.getElem_of_mem hy
            have hg := putAt_get hput j
            rw [List.getElem?_eq_getElem hj] at hg
            split at hg
            · exact hnsc _ (List.mem_of_getElem? hg.symm)
            · exact qs _ (List.mem_of_getElem? hg.symm)⟩)
          have hS2 := hS.heap r1 r2 fun b hb => s3 b fun h => hm1 (h ▸ hb)
          refine ⟨_, _, .inl (run (by rw [hv]; exact hrun)), by exact ⟨rfl, rfl⟩, _, _, g, mine, hw, ?_⟩
          rw [hod]
          exact hS2.setVal hp hd (.sli hβ') hat
        · exact hw.elim
      · rename_i hroom
        obtain ⟨c', w', row, ⟨r1, ros⟩, r2, r3, r4⟩ := grow hv hosrc hsrc (by omega) hmax
        obtain ⟨hS2, hfree⟩ := hS.push (.cells row el)
        obtain ⟨l', hl'⟩ := hS2.fresh
        have hst : Stays g w.heap (w.heap.push (.cells row el)) := stays_push hS.rel _
        have hle := Gh.le_withObj (g := g) (l := l') (b := w.heap.size) (K := fun _ => False) hl'.2.1
        have hS3 := hS2.newObj (o := .cells ((cs.drop off).take (n * sz) ++ news ++ zeros z (c' - (n + m)))) hl' hfree (by simp) rfl ⟨⟨row, el, push_new _ _, (r4.mono (.refl g) hst).mono hle (.refl _ _)⟩, fun y hy => by
          rcases List.mem_append.1 hy with hy | hy
          · rcases List.mem_append.1 hy with hy | hy
            · exact hosc y hy
            · exact hnsc y hy
          · simp only [zeros, List.mem_flatten, List.mem_replicate] at hy
            obtain ⟨l', ⟨_, rfl⟩, hy⟩ := hy
            exact fits_scal hzf y hy⟩ (by simp)
        refine ⟨_, w', .inl r3, ros, _, _, g.withObj l' w.heap.size (fun _ => False), mine, hw l' c' hl'.1 r1, ?_⟩
        rw [hod, r2]
        exact hS3.setVal hp hd (.sli (by simp [Gh.withObj])) hat
    · exact hw.elim
  · exact hw.elim

/-- A slice's cells are written. -/
theorem Sim.sliWrite {l b off : Nat} {cs cs' news : List V} {c nl : Array Value} {el : TypeId} (hS : Sim F g w.heap s mine e tmps at_) (hl : s l = some (.cells cs)) (hβ : g.β l = some b) (q2 : w.heap[b]? = some (.cells c el (0, 0))) (q3 : EncL F.X.nm g w.heap cs c) (qs : ∀ x ∈ cs, x.scal = true)
    (hnE : EncL F.X.nm g w.heap news nl) (hnsc : ∀ x ∈ news, x.scal = true) (hput : putAt cs off news = some cs') : Sim F g (w.setRow b (putA c off nl)).heap (s.set l (.cells cs')) mine e tmps at_ := by
  obtain ⟨b', hβ', _, hk1, hm1⟩ := hS.rel.obj l _ hl rfl
  obtain rfl := Option.some.inj (hβ'.symm.trans hβ)
  obtain ⟨s1, s2, s3⟩ := setRow_at q2 (putA c off nl)
  obtain ⟨r1, r2⟩ := hS.rel.setObj (o' := .cells cs') hl rfl hβ' s2 s3 rfl (by simp) (fun hk hst => ⟨⟨_, el, s1, (q3.put hnE hput).mono (.refl g) hst⟩, by
    intro y hy
    obtain ⟨j, hj, rfl⟩ := List.getElem_of_mem hy
    have hg := putAt_get hput j
    rw [List.getElem?_eq_getElem hj] at hg
    split at hg
    · exact hnsc _ (List.mem_of_getElem? hg.symm)
    · exact qs _ (List.mem_of_getElem? hg.symm)⟩)
  exact hS.heap r1 r2 fun b hb => s3 b fun h => hm1 (h ▸ hb)
theorem run_sliWrite {P : Program} {b off : Nat} {c nl : Array Value} {el : TypeId} (q2 : w.heap[b]? = some (.cells c el (0, 0))) (hoff : off + nl.size ≤ c.size) (hone : ∀ u ∈ nl.toList, u.oneCell' = true) :
    (storeCells ⟨b, off, none⟩ nl.toList).run P w = .ok () (w.setRow b (putA c off nl)) := by
  have hst := run_storeCells_at P b off el nl.toList 0 c w q2 (by simpa using hoff) hone
  have hputA : (c.toList.take (off + 0) ++ nl.toList ++ c.toList.drop (off + 0 + nl.toList.length)).toArray = putA c off nl := by simp [putA]
  rw [hputA] at hst
  exact hst
theorem zeros_scal {z : V} {sh : Sh} {n : Nat} (h : z.fits sh = true) : ∀ y ∈ zeros z n, y.scal = true := by
  intro y hy
  simp only [zeros, List.mem_flatten, List.mem_replicate] at hy
  obtain ⟨l', ⟨_, rfl⟩, hy⟩ := hy
  exact fits_scal h y hy
theorem zeros_len {z : V} {n : Nat} : (zeros z n).length = n * z.cells.length := by simp [zeros]

theorem sim_copy {c : Go.Call} (hS : Sim F g w.heap s mine e tmps at_) (ho : o.op = .call c) {t : TypeId} {el : TypeId} {d : Nat} {sh : Sh} {x y : Opd} (hcal : c.callee = .builtin .copy) (h0 : c.argTypes[0]? = some t)
    (hu : F.X.P.underlying t = some (.slice el)) (hsh : F.X.sh el = some sh) (hargs : F.X.opds F.h c.args = some [x, y]) 
    (hod : o.dst = some d) (hp : F.h.prom.contains d = false) (hd : d < F.nt) (hw : wpO C (.copy d (shN sh) x y) e s K) :
    Done F o K w tmps (AT.step at_ ⟨.copy d (shN sh) x y, gd⟩) := by
  obtain ⟨a1, a2, hav, hA1, hA2⟩ := opds_two hargs
  have hV1 := hS.opd hA1
  have hV2 := hS.opd hA2
  obtain ⟨_, _, hsize, hpos, _⟩ := sh_parts hsh
  simp only [wpO] at hw
  split at hw
  · rename_i l off n cap news m hx hsrc'
    rw [hx] at hV1
    obtain ⟨b, hv, hβ⟩ := hV1.of_sli
    split at hw
    · rename_i cs hl
      split at hw
      · rename_i cs' hput
        obtain ⟨nl, hsrc, hnsc⟩ := src_of hS hV2 hsrc'
        obtain ⟨b', hβ', ⟨⟨cc, el2, q2, q3⟩, qs⟩, hk1, hm1⟩ := hS.rel.obj l _ hl rfl
        obtain rfl := Option.some.inj (hβ'.symm.trans hβ)
        have hcell := hsrc.cells w rfl (min m n) (Nat.min_le_left _ _)
        have hE : EncL F.X.nm g w.heap (news.take (min m n * shN sh)) (nl.toList.take (min m n * shN sh)).toArray := by
          refine ⟨by have := hsrc.enc.1; simp; omega, fun j z hz => ?_⟩
          rw [List.getElem?_take] at hz
          split at hz
          · rename_i hj
            obtain ⟨v, g1, g2⟩ := hsrc.enc.get hz
            rw [Array.getD_eq_getD_getElem?, List.getElem?_toArray, List.getElem?_take, if_pos hj, Array.getElem?_toList, g1]
            exact g2
          · cases hz
        have hsc' : ∀ z ∈ news.take (min m n * shN sh), z.scal = true := fun z hz => hnsc z (List.mem_of_mem_take hz)
        have hle := (putAt_len hput).2
        have hwr := run_sliWrite (P := F.X.P) (w := w) q2 (off := off) (nl := (nl.toList.take (min m n * shN sh)).toArray) (by rw [← hE.1, ← q3.1]; exact hle) (scal_one hE hsc')
        have hS2 := hS.sliWrite hl hβ' q2 q3 qs hE hsc' hput
        have hos : (w.setRow b' (putA cc off (nl.toList.take (min m n * shN sh)).toArray)).os = w.os ∧ (w.setRow b' (putA cc off (nl.toList.take (min m n * shN sh)).toArray)).output = w.output := ⟨rfl, rfl⟩
        generalize w.setRow b' (putA cc off (nl.toList.take (min m n * shN sh)).toArray) = W at hS2 hwr hos
        refine ⟨.int .i64 (min m n : Nat), W, .inl ?_, hos, _, _, g, mine, hw, ?_⟩
        rotate_left
        · rw [hod]
          exact hS2.setVal hp hd (.int _) (hat_of rfl rfl)
        · simp only [execOp, ho, resolve, hcal, hav, List.map_toArray, List.map_cons, List.map_nil, Sem.run_bind, Sem.run_pure, Result.andThen_ok, invoke, builtin, Builtin.copy_, h0]
          simp only [List.getElem?_toArray, List.getElem?_cons_zero, List.getElem?_cons_succ, hv, Sem.run_bind, run_underlying hu, Result.andThen_ok, hsrc.len, run_size hsize]
          have hmn : Nat.min m n = min m n := rfl
          simp only [hmn, hcell, Result.andThen_ok, Sem.run_bind, hwr, Sem.run_pure, goInt]
      · exact hw.elim
    · exact hw.elim
  · exact hw.elim

theorem sim_clear {c : Go.Call} (hS : Sim F g w.heap s mine e tmps at_) (ho : o.op = .call c) {t : TypeId} {el : TypeId} {sh : Sh} {x : Opd} {z : V} (hcal : c.callee = .builtin .clear) (h0 : c.argTypes[0]? = some t)
    (hu : F.X.P.underlying t = some (.slice el)) (hz : F.X.zero el = some z) (hsh : F.X.sh el = some sh) (hzf : z.fits sh = true) (hargs : F.X.opds F.h c.args = some [x]) 
    (hod : o.dst = none) (hw : wpO C (.clear (shN sh) z x) e s K) :
    Done F o K w tmps (AT.step at_ ⟨.clear (shN sh) z x, gd⟩) := by
  obtain ⟨a1, hav, hA1⟩ := opds_one hargs
  have hV1 := hS.opd hA1
  obtain ⟨_, _, hsize, hpos, _⟩ := sh_parts hsh
  obtain ⟨zv, hzr, hzc⟩ := run_zero hz w
  obtain ⟨hz1, hz2, hz3⟩ := enc_fits (cV_enc (nm := F.X.nm) (g := g) (H := w.heap) zv z hzc) hzf
  simp only [wpO] at hw
  obtain ⟨hzl, hw⟩ := hw
  split at hw
  · rename_i l off n cap hx
    rw [hx] at hV1
    obtain ⟨b, hv, hβ⟩ := hV1.of_sli
    split at hw
    · rename_i cs hl
      split at hw
      · rename_i cs' hput
        obtain ⟨b', hβ', ⟨⟨cc, el2, q2, q3⟩, qs⟩, hk1, hm1⟩ := hS.rel.obj l _ hl rfl
        obtain rfl := Option.some.inj (hβ'.symm.trans hβ)
        have hE := zero_row hz1 n
        have hle := (putAt_len hput).2
        have hwr := run_sliWrite (P := F.X.P) (w := w) q2 (off := off) (nl := (Array.range (n * zv.cells.size)).map (zv.cells[· % zv.cells.size]!)) (by rw [← hE.1, ← q3.1]; exact hle) (scal_one hE (zeros_scal hzf))
        have hS2 := hS.sliWrite hl hβ' q2 q3 qs hE (zeros_scal hzf) hput
        by_cases hn : n = 0
        · subst hn
          refine ⟨.tuple #[], w, .inl ?_, by exact ⟨rfl, rfl⟩, _, _, g, mine, hw, ?_⟩
          rotate_left
          · rw [hod]
            have : (w.setRow b' (putA cc off ((Array.range (0 * zv.cells.size)).map (zv.cells[· % zv.cells.size]!)))) = w := by
              have e1 : (Array.range (0 * zv.cells.size)).map (zv.cells[· % zv.cells.size]!) = #[] := by simp
              rw [e1]
              have e2 : putA cc off #[] = cc := by apply Array.ext'; simp [putA]
              rw [e2]
              exact setRow_self w b' cc el2 (0, 0) q2
            rw [this] at hS2
            exact hS2.forget (hat_sub rfl)
          · simp [execOp, ho, resolve, hcal, hav, invoke, builtin, Builtin.clear_, h0, hv, run_underlying hu]
        · have hos : (w.setRow b' (putA cc off ((Array.range (n * zv.cells.size)).map (zv.cells[· % zv.cells.size]!)))).os = w.os ∧ (w.setRow b' (putA cc off ((Array.range (n * zv.cells.size)).map (zv.cells[· % zv.cells.size]!)))).output = w.output := ⟨rfl, rfl⟩
          generalize w.setRow b' (putA cc off ((Array.range (n * zv.cells.size)).map (zv.cells[· % zv.cells.size]!))) = W at hS2 hwr hos
          refine ⟨.tuple #[], W, .inl ?_, hos, _, _, g, mine, hw, ?_⟩
          rotate_left
          · rw [hod]
            exact hS2.forget (hat_sub rfl)
          · simp only [execOp, ho, resolve, hcal, hav, List.map_toArray, List.map_cons, List.map_nil, Sem.run_bind, Sem.run_pure, Result.andThen_ok, invoke, builtin, Builtin.clear_, h0]
            obtain ⟨n, rfl⟩ : ∃ k, n = k + 1 := ⟨n - 1, by omega⟩
            simp only [List.getElem?_toArray, List.getElem?_cons_zero, hv, Sem.run_bind, run_underlying hu, Result.andThen_ok, hzr, Builtin.zeroCells, hwr, Sem.run_pure]
      · exact hw.elim
    · exact hw.elim
  · exact hw.elim

theorem sim_appendZ {c : Go.Call} (hS : Sim F g w.heap s mine e tmps at_) (ho : o.op = .call c) {t tx : TypeId} {el : TypeId} {d : Nat} {z : V} {sh : Sh} {sl x : Opd} (hcal : c.callee = .builtin .append) (h0 : c.argTypes[0]? = some t) (h1 : c.argTypes[1]? = some tx)
    (hu : F.X.P.underlying t = some (.slice el)) (hx : F.X.P.underlying tx = some (.int .i64)) (hz : F.X.zero el = some z) (hsh : F.X.sh el = some sh) (hzf : z.fits sh = true) (hby : ∃ i, F.X.P.info? el = some i ∧ i.bytes ≤ 4096) (hargs : F.X.opds F.h c.args = some [sl, x])
    (hod : o.dst = some d) (hp : F.h.prom.contains d = false) (hd : d < F.nt) (hw : wpO C (.appendZ d (shN sh) z sl x) e s K) :
    Done F o K w tmps (AT.step at_ ⟨.appendZ d (shN sh) z sl x, gd⟩) := by
  obtain ⟨a1, a2, hav, hA1, hA2⟩ := opds_two hargs
  have hV1 := hS.opd hA1
  have hV2 := hS.opd hA2
  obtain ⟨_, _, hsize, hpos, _⟩ := sh_parts hsh
  obtain ⟨zv, hzr, hzc⟩ := run_zero hz w
  obtain ⟨hz1, hz2, hz3⟩ := enc_fits (cV_enc (nm := F.X.nm) (g := g) (H := w.heap) zv z hzc) hzf
  obtain ⟨i, hi, hib⟩ := hby
  have hizero : i.zero = some zv := by
    have h := hzr
    simp only [zeroValue, typeInfo, Sem.run_bind, run_program, Result.andThen_ok, hi, Sem.run_pure] at h
    cases hq : i.zero with
    | none => rw [hq] at h; simp at h
    | some q => rw [hq] at h; simp at h; rw [h]
  have hat : ∀ y ∈ AT.step at_ ⟨.appendZ d (shN sh) z sl x, gd⟩, y ∈ at_ ∧ y.1 ≠ d := hat_of rfl rfl
  have hm : maxLst = 1073741824 := rfl
  simp only [wpO] at hw
  obtain ⟨hzl, hw⟩ := hw
  split at hw
  · rename_i l off n cap k hsl hk
    rw [hsl] at hV1
    rw [hk] at hV2
    obtain ⟨b, hv, hβ⟩ := hV1.of_sli
    have hkv := hV2.of_int
    obtain ⟨hk0, hw⟩ := hw
    split at hw
    · rename_i cs hl
      obtain ⟨hmax, hle, hw⟩ := hw
      obtain ⟨b', hβ', ⟨⟨cc, el2, q2, q3⟩, qs⟩, hk1, hm1⟩ := hS.rel.obj l _ hl rfl
      obtain rfl := Option.some.inj (hβ'.symm.trans hβ)
      have hE := zero_row hz1 k.toNat
      have wk : IntKind.i64.wrap k = k := by rw [w64_eq]; unfold w64; omega
      have c1 : ¬ (k < 0) := by omega
      have c2 : ¬ (k * (i.bytes : Int) > 2 ^ 48) := by
        have : k * (i.bytes : Int) ≤ 1073741824 * 4096 := Int.mul_le_mul (by omega) (by omega) (by omega) (by omega)
        omega
      have appd : ∀ w' : World, w'.heap = w.heap → (if k.toNat * shN sh = 0 then pure #[] else do pure (Builtin.zeroCells (← zeroValue el).cells k.toNat) : Sem (Array Value)).run F.X.P w' = .ok ((Array.range (k.toNat * zv.cells.size)).map (zv.cells[· % zv.cells.size]!)) w' := by
        intro w' hw'
        have hzr' : (zeroValue el).run F.X.P w' = .ok zv w' := by simp [zeroValue, typeInfo, hi, hizero]
        split
        · rename_i h; rw [hz2, h]; simp
        · simp [hzr', Builtin.zeroCells]
      have hz : (match (TypeDesc.int .i64) with | .int _ => true | _ => false) = true := rfl
      split at hw
      · rename_i hroom
        split at hw
        · rename_i cs' hput
          have hle2 := (putAt_len hput).2
          have hwr := run_sliWrite (P := F.X.P) (w := w) q2 (off := off + n * shN sh) (nl := (Array.range (k.toNat * zv.cells.size)).map (zv.cells[· % zv.cells.size]!)) (by rw [← hE.1, ← q3.1]; exact hle2) (scal_one hE (zeros_scal hzf))
          have hS2 := hS.sliWrite hl hβ' q2 q3 qs hE (zeros_scal hzf) hput
          have hos : (w.setRow b' (putA cc (off + n * shN sh) ((Array.range (k.toNat * zv.cells.size)).map (zv.cells[· % zv.cells.size]!)))).os = w.os ∧ (w.setRow b' (putA cc (off + n * shN sh) ((Array.range (k.toNat * zv.cells.size)).map (zv.cells[· % zv.cells.size]!)))).output = w.output := ⟨rfl, rfl⟩
          generalize w.setRow b' (putA cc (off + n * shN sh) ((Array.range (k.toNat * zv.cells.size)).map (zv.cells[· % zv.cells.size]!))) = W at hS2 hwr hos
          refine ⟨.slice (some ⟨b', off, none⟩) (n + k.toNat) cap, W, .inl ?_, hos, _, _, g, mine, hw, ?_⟩
          rotate_left
          · rw [hod]
            exact hS2.setVal hp hd (.sli hβ') hat
          · simp only [execOp, ho, resolve, hcal, hav, List.map_toArray, List.map_cons, List.map_nil, Sem.run_bind, Sem.run_pure, Result.andThen_ok, invoke, builtin, Builtin.append_, h0, h1]
            simp only [List.getElem?_toArray, List.getElem?_cons_zero, List.getElem?_cons_succ, hv, hkv, Sem.run_bind, run_underlying hu, run_underlying hx, Result.andThen_ok, Sem.run_pure, run_size hsize, if_true, asInt, asIntOf, wk, Sem.run_ite, c1, if_false, typeInfo, run_program, hi, c2, hroom, Bool.not_true, Bool.false_eq_true, Addr.add_lit]
            have := appd w rfl
            simp only [Sem.run_ite, Sem.run_pure, Sem.run_bind] at this
            rw [this]
            simp only [Result.andThen_ok, hwr]
        · exact hw.elim
      · rename_i hroom
        obtain ⟨ol, hosrc, hosc⟩ := src_sli (sz := shN sh) hS hV1 hl hle
        rw [hv] at hosrc
        have hns : Builtin.nextslicecap (n + k.toNat) cap ≤ 4 * (n + k.toNat) + 4096 := by
          unfold Builtin.nextslicecap
          split
          · omega
          · split
            · omega
            · rw [growBy_four]; repeat (first | split | omega)
        have hfit : ¬ (Builtin.nextslicecap (n + k.toNat) cap * i.bytes > 2 ^ 48) := by
          have : Builtin.nextslicecap (n + k.toNat) cap * i.bytes ≤ (4 * 1073741824 + 4096) * 4096 := Nat.mul_le_mul (by omega) hib
          omega
        have h63 : ¬ (((n + k.toNat : Nat) : Int) > IntKind.i64.max ∧ (True ∨ i.bytes = 0)) := by rintro ⟨h, _⟩; rw [IntKind.max_i64] at h; omega
        have ho' := hosrc.cells w.drew rfl n (Nat.le_refl _)
        have hallo : (ol.toList.take (n * shN sh)).toArray = ol := by rw [← hosrc.size, ← Array.length_toList, List.take_length]
        rw [hallo] at ho'
        have happ := appd w.drew rfl
        have hzr' : (zeroValue el).run F.X.P w.drew = .ok zv w.drew := by simp [zeroValue, typeInfo, hi, hizero]
        obtain ⟨c', hc'⟩ : ∃ c', c' = (Question.appendCap (n + k.toNat) cap el).cut (w.tape w.drawn (.appendCap (n + k.toNat) cap el)) := ⟨_, rfl⟩
        have hge : n + k.toNat ≤ c' := by rw [hc']; simp [Question.cut]
        have hrest := zero_row hz1 (c' - (n + k.toNat))
        obtain ⟨row, hrow⟩ : ∃ row, row = (ol ++ (Array.range (k.toNat * zv.cells.size)).map (zv.cells[· % zv.cells.size]!)) ++ Builtin.zeroCells zv.cells (c' - (n + k.toNat)) := ⟨_, rfl⟩
        have app : ∀ {a b : List V} {c d : Array Value}, EncL F.X.nm g w.heap a c → EncL F.X.nm g w.heap b d → EncL F.X.nm g w.heap (a ++ b) (c ++ d) := by
          intro a b c d h h'
          refine ⟨by simp [h.1, h'.1], fun j x hx => ?_⟩
          rw [List.getElem?_append] at hx
          rw [Array.getD_eq_getD_getElem?, Array.getElem?_append, ← h.1]
          split at hx
          · rename_i hj
            rw [if_pos hj]
            obtain ⟨v, q1, q2⟩ := h.get hx
            rw [q1]; exact q2
          · rename_i hj
            rw [if_neg hj]
            obtain ⟨v, q1, q2⟩ := h'.get hx
            rw [q1]; exact q2
        have hrowE : EncL F.X.nm g w.heap ((cs.drop off).take (n * shN sh) ++ zeros z k.toNat ++ zeros z (c' - (n + k.toNat))) row := by
          rw [hrow]; exact app (app hosrc.enc hE) hrest
        have hrun : (execOp (valOf tmps) o).run F.X.P w = .ok (.value (.slice (some ⟨w.heap.size, 0, none⟩) (n + k.toNat) c')) (w.drew.alloc (.cells row el)) := by
          have hf : Question.forced (.appendCap (n + k.toNat) cap el) = false := rfl
          simp only [execOp, ho, resolve, hcal, hav, List.map_toArray, List.map_cons, List.map_nil, Sem.run_bind, Sem.run_pure, Result.andThen_ok, invoke, builtin, Builtin.append_, h0, h1]
          simp only [List.getElem?_toArray, List.getElem?_cons_zero, List.getElem?_cons_succ, hv, hkv, Sem.run_bind, run_underlying hu, run_underlying hx, Result.andThen_ok, Sem.run_pure, run_size hsize, if_true, asInt, asIntOf, wk, Sem.run_ite, c1, if_false, typeInfo, run_program, hi, c2, hroom, Bool.not_true, Bool.false_eq_true]
          simp only [Sem.run_ite, Sem.run_pure, Sem.run_bind] at happ
          rw [if_neg h63]
          try simp only [Sem.run_pure, Result.andThen_ok, Sem.run_bind, typeInfo, run_program, hi]
          rw [if_neg hfit]
          simp only [Sem.run_pure, Result.andThen_ok, Sem.run_bind, run_choose, hf, Bool.false_eq_true, if_false, typeInfo, run_program, hi, run_askRoom, ← hc']
          have hWd : ({ w with drawn := w.drawn + 1 } : World) = w.drew := rfl
          rw [hWd, ho']
          simp only [Result.andThen_ok]
          rw [happ]
          simp only [Result.andThen_ok, hzr', newRow, Sem.run_bind, run_newObj, Sem.run_pure, hrow]
          rfl
        obtain ⟨hS2, hfree⟩ := hS.push (.cells row el)
        obtain ⟨l', hl'⟩ := hS2.fresh
        have hst : Stays g w.heap (w.heap.push (.cells row el)) := stays_push hS.rel _
        have hle := Gh.le_withObj (g := g) (l := l') (b := w.heap.size) (K := fun _ => False) hl'.2.1
        have hS3 := hS2.newObj (o := .cells ((cs.drop off).take (n * shN sh) ++ zeros z k.toNat ++ zeros z (c' - (n + k.toNat)))) hl' hfree (by simp) rfl ⟨⟨row, el, push_new _ _, (hrowE.mono (.refl g) hst).mono hle (.refl _ _)⟩, fun y hy => by
          rcases List.mem_append.1 hy with hy | hy
          · rcases List.mem_append.1 hy with hy | hy
            · exact hosc y hy
            · exact zeros_scal hzf y hy
          · exact zeros_scal hzf y hy⟩ (by simp)
        refine ⟨_, _, .inl hrun, by exact ⟨rfl, rfl⟩, _, _, g.withObj l' w.heap.size (fun _ => False), mine, hw l' c' hl'.1 hge, ?_⟩
        rw [hod]
        exact hS3.setVal hp hd (.sli (by simp [Gh.withObj])) hat
    · exact hw.elim
  · exact hw.elim
end
end Go.Hu

set_option linter.unusedSimpArgs false
set_option linter.unusedVariables false
namespace Go.Hu
section
variable {F : Fix} {g : Gh} {w : World} {s : St} {mine : Nat → Prop} {e : Env} {tmps : Array Value} {at_ at' : AT} {o : Oper} {K : Env → St → Prop} {ops : Array Oper} {tab tab' : Tab} {po : Op} {C : CP} {gd : Option (Nat × Bool)}

theorem run_getObj_map {P : Program} {b : Nat} {es : Array MapEntry} {k : Nat} (h : w.heap[b]? = some (.map es k)) : (getObj b).run P w = .ok (.map es k) w := by
  simp [getObj, Sem.run, h]
theorem run_getObj_iter {P : Program} {b : Nat} {m : Option Nat} {a : Nat} {c : Array Nat} {d : Nat} (h : w.heap[b]? = some (.mapIter m a c d)) : (getObj b).run P w = .ok (.mapIter m a c d) w := by
  simp [getObj, Sem.run, h]
theorem run_setObj_of {P : Program} {b : Nat} {ob ob' : Obj} (h : w.heap[b]? = some ob) (hn : ∀ c el f, ob ≠ .cells c el f) : (setObj b ob').run P w = .ok () { w with heap := w.heap.setIfInBounds b ob' } := by
  simp only [setObj, Sem.run, h]
theorem setObj_at {b : Nat} {ob ob' : Obj} (h : w.heap[b]? = some ob) : (w.heap.setIfInBounds b ob')[b]? = some ob' ∧ (w.heap.setIfInBounds b ob').size = w.heap.size ∧ ∀ b', b' ≠ b → (w.heap.setIfInBounds b ob')[b']? = w.heap[b']? := by
  have hlt : b < w.heap.size := (Array.getElem?_eq_some_iff.1 h).1
  refine ⟨by simp [hlt], by simp, fun b' hb => by rw [Array.getElem?_setIfInBounds_ne (fun e => hb e.symm)]⟩

theorem checkKey_all {X : Ctx} {kt : TypeId} {ks : Kd} {x : V} {v : Value} (hks : X.kinds 8 kt = some ks) (hK : Enc X.nm g w.heap x v) (hkey : kindOk ks x = true) (em : Bool) : (Instr.checkKey em 10000 kt v).run X.P w = .ok () w := by
  have := checkKey_run 8 kt ks hks (10000 - 8) em g w _ _ hK hkey
  rw [Nat.sub_add_cancel (by decide)] at this
  exact this
/-- A map's block. -/
theorem Sim.mapAt (hS : Sim F g w.heap s mine e tmps at_) {l b : Nat} {es : List (V × V)} (hl : s l = some (.map es)) (hβ : g.β l = some b) : ∃ ents : Array MapEntry, w.heap[b]? = some (.map ents es.length) ∧ ents.size = es.length ∧
    (∀ (i : Nat) x, es[i]? = some x → ∃ en, ents[i]? = some en ∧ en.born = i ∧ Enc F.X.nm g w.heap x.1 en.key ∧ Enc F.X.nm g w.heap x.2 en.val ∧ (eqV x.1 x.1).isSome = true) ∧ ¬ F.kept b ∧ ¬ mine b := by
  obtain ⟨b', hβ', ⟨ents, h1, h2, h3⟩, h4, h5⟩ := hS.rel.obj l _ hl rfl
  obtain rfl := Option.some.inj (hβ'.symm.trans hβ)
  exact ⟨ents, h1, h2, h3, h4, h5⟩

theorem sim_lookup {t : TypeId} {m k : Operand} {ok : Bool} (hS : Sim F g w.heap s mine e tmps at_) (ho : o.op = .lookup t m k ok) (hc : compileOp F.X F.h ops tab o = some (po, tab')) (hlt : ∀ d ∈ po.wr, d < F.nt) (hw : wpO C po e s K) :
    Done F o K w tmps (AT.step at_ ⟨po, gd⟩) := by
  unfold compileOp at hc
  rw [ho] at hc
  simp only [Option.bind_eq_bind, Option.bind_eq_some_iff] at hc
  obtain ⟨desc, hu, hc⟩ := hc
  split at hc
  · rename_i kt el
    simp only [Option.bind_eq_some_iff, Option.some.injEq] at hc
    obtain ⟨d, hd, z, hz, ks, hks, mo, hmo, ko, hko, hc⟩ := hc
    cases hc
    obtain ⟨h1, h2, _⟩ := cdst_inv hd
    obtain ⟨zv, hzr, hzc⟩ := run_zero hz w
    have hzE : Enc F.X.nm g w.heap z zv := cV_enc zv z hzc
    have hM := hS.opd hmo
    have hK := hS.opd hko
    simp only [wpO] at hw
    obtain ⟨hkey, hw⟩ := hw
    have hck : ∀ em, (Instr.checkKey em 10000 kt (valOf tmps k)).run F.X.P w = .ok () w := fun em => checkKey_all hks hK hkey em
    have run : ∀ (ents : Array MapEntry) (r : Value) (q : Option (Nat × Value)), (valOf tmps m = .map none ∧ ents = #[]) ∨ (∃ b cl, valOf tmps m = .map (some b) ∧ w.heap[b]? = some (.map ents cl)) → (Instr.findKey kt (valOf tmps k) ents.toList).run F.X.P w = .ok q w →
        r = (if ok then .tuple #[(q.map (·.2)).getD zv, .bool q.isSome] else (q.map (·.2)).getD zv) → (execOp (valOf tmps) o).run F.X.P w = .ok (.value r) w := by
      intro ents r q hm hf hr
      subst hr
      rcases hm with ⟨hm, rfl⟩ | ⟨b, cl, hm, hb⟩
      · simp only [execOp, ho, Instr.lookup, Sem.run_bind, run_underlying hu, Result.andThen_ok, hm, Sem.run_pure, hck, hf]
        cases q <;> cases ok <;> simp [hzr]
      · simp only [execOp, ho, Instr.lookup, Sem.run_bind, run_underlying hu, Result.andThen_ok, hm, Sem.run_pure, run_getObj_map hb, hck, hf]
        cases q <;> cases ok <;> simp [hzr]
    have tup : ∀ {x : V} {v : Value} (b : Bool), Enc F.X.nm g w.heap x v → Enc F.X.nm g w.heap (if ok then .tup [x, .bool b] else x) (if ok then .tuple #[v, .bool b] else v) := by
      intro x v b hx
      cases ok
      · exact hx
      · refine .tup rfl fun j y hy => ?_
        rcases j with _ | _ | j
        · simp at hy; subst hy; exact hx
        · simp at hy; subst hy; exact .bool _
        · simp at hy
    have hat : ∀ y ∈ AT.step at_ ⟨.lookup d z ok ks mo ko, gd⟩, y ∈ at_ ∧ y.1 ≠ d := hat_of rfl rfl
    split at hw
    · rename_i hmn
      rw [hmn] at hM
      have hf : (Instr.findKey kt (valOf tmps k) (#[] : Array MapEntry).toList).run F.X.P w = .ok none w := by
        obtain ⟨q, hq, hfd⟩ := findKey_run (d := 8) (by omega) hks hK hkey [] [] none rfl (by simp) rfl
        cases q <;> simp [Found] at hfd
        exact hq
      exact done_val hS h1 h2 (hlt d (by simp [Op.wr])) hat hw ⟨_, run #[] _ none (.inl ⟨hM.of_nilmap, rfl⟩) hf rfl, tup false hzE⟩
    · rename_i r hmr
      rw [hmr] at hM
      obtain ⟨b, hmv, hβ⟩ := hM.of_map
      split at hw
      · rename_i es hl
        obtain ⟨ents, q1, q2, q3, _, _⟩ := hS.mapAt hl hβ
        have hents : ∀ (j : Nat) y en, es[j]? = some y → ents.toList[j]? = some en → Enc F.X.nm g w.heap y.1 en.key := by
          intro j y en g1 g2
          obtain ⟨en', e1, _, e3, _⟩ := q3 j y g1
          rw [Array.getElem?_toList] at g2
          obtain rfl := Option.some.inj (g2.symm.trans e1)
          exact e3
        split at hw
        · rename_i i hfk
          split at hw
          · rename_i x hx
            obtain ⟨q, hq, hfd⟩ := findKey_run (d := 8) (by omega) hks hK hkey es ents.toList _ (by simpa using q2) hents hfk
            cases q with
            | none => simp [Found] at hfd
            | some q =>
              obtain ⟨i', v⟩ := q
              simp only [Found] at hfd
              obtain ⟨en, e1, e2, e3, e4, e5⟩ := q3 i x hx
              have hv : v = en.val := by
                have := hfd.2
                rw [Array.getElem?_toList, e1] at this
                simpa using this.symm
              exact done_val hS h1 h2 (hlt d (by simp [Op.wr])) hat hw ⟨_, run ents _ _ (.inr ⟨b, _, hmv, q1⟩) hq rfl, by subst hv; exact tup true e4⟩
          · exact hw.elim
        · rename_i hfk
          obtain ⟨q, hq, hfd⟩ := findKey_run (d := 8) (by omega) hks hK hkey es ents.toList _ (by simpa using q2) hents hfk
          cases q <;> simp [Found] at hfd
          exact done_val hS h1 h2 (hlt d (by simp [Op.wr])) hat hw ⟨_, run ents _ none (.inr ⟨b, _, hmv, q1⟩) hq rfl, tup false hzE⟩
        · exact hw.elim
      · exact hw.elim
    · exact hw.elim
  · cases hc

/-- The key that stays: the same. -/
theorem sameBits_run {n : Nat} {x y : V} {vx vy : Value} {H : Heap} {nm : FuncId → Option Nat} (hx : Enc nm g H x vx) (hy : Enc nm g H y vy) (h : eqV x y = some true) : Instr.sameBits (n + 1) vx vy = true := by
  have cell : ∀ {x y : V} {vx vy : Value} {q : Bool} (m : Nat), Enc nm g H x vx → Enc nm g H y vy → cellEq x y = some q → q = true → Instr.sameBits m vx vy = true := by
    intro x y vx vy q m hx hy h hq
    subst hq
    cases x <;> first | (simp [cellEq] at h; done) | skip
    all_goals (cases y <;> first | (simp [cellEq] at h; done) | skip)
    · rw [hx.of_bool, hy.of_bool]
      simp only [cellEq, Option.some.injEq, beq_iff_eq] at h
      subst h
      cases m <;> simp [Instr.sameBits]
    · rw [hx.of_int, hy.of_int]
      simp only [cellEq, Option.some.injEq, beq_iff_eq] at h
      subst h
      cases m <;> simp [Instr.sameBits]
  have row : ∀ (xs ys : List V) (cs ds : List Value), xs.length = cs.length → ys.length = ds.length → (∀ (j : Nat) x v, xs[j]? = some x → cs[j]? = some v → Enc nm g H x v) → (∀ (j : Nat) x v, ys[j]? = some x → ds[j]? = some v → Enc nm g H x v) → eqCells xs ys = some true →
      cs.length = ds.length ∧ (cs.zip ds).all (fun (x, y) => Instr.sameBits n x y) = true := by
    intro xs
    induction xs with
    | nil =>
      intro ys cs ds h1 h2 _ _ h
      have := eqCells_len h
      cases cs with
      | nil => cases ds with
        | nil => exact ⟨rfl, rfl⟩
        | cons => simp at this h2; omega
      | cons => simp at h1
    | cons x xs ih =>
      intro ys cs ds h1 h2 h3 h4 h
      rcases ys with _ | ⟨y, ys⟩
      · simp [eqCells_cons_nil] at h
      rcases cs with _ | ⟨c, cs⟩
      · simp at h1
      rcases ds with _ | ⟨d, ds⟩
      · simp at h2
      rw [eqCells_cons] at h
      simp only [Option.bind_eq_some_iff, Option.map_eq_some_iff] at h
      obtain ⟨q, hq, r, hr, hqr⟩ := h
      simp only [Bool.and_eq_true] at hqr
      obtain ⟨rfl, rfl⟩ := hqr
      obtain ⟨i1, i2⟩ := ih ys cs ds (by simpa using h1) (by simpa using h2) (fun j x v a b => h3 (j + 1) x v (by simpa using a) (by simpa using b)) (fun j x v a b => h4 (j + 1) x v (by simpa using a) (by simpa using b)) hr
      refine ⟨by simp [i1], ?_⟩
      simp only [List.zip_cons_cons, List.all_cons, Bool.and_eq_true]
      exact ⟨cell n (h3 0 x c (by simp) (by simp)) (h4 0 y d (by simp) (by simp)) hq rfl, i2⟩
  cases x <;> first | (simp [eqV] at h; done) | skip
  all_goals (cases y <;> first | (simp [eqV] at h; done) | skip)
  · exact cell _ hx hy (by simpa [eqV, cellEq] using h) rfl
  · exact cell _ hx hy (by simpa [eqV, cellEq] using h) rfl
  · obtain ⟨c, rfl, hc⟩ := hx.of_agg
    obtain ⟨d, rfl, hd⟩ := hy.of_agg
    simp only [eqV] at h
    obtain ⟨r1, r2⟩ := row _ _ c.toList d.toList (by simpa using hc.1) (by simpa using hd.1) hc.vals hd.vals h
    simp only [Instr.sameBits, Bool.and_eq_true, beq_iff_eq]
    exact ⟨by simpa using r1, r2⟩

theorem sim_mapset {t : TypeId} {m k x : Operand} (hS : Sim F g w.heap s mine e tmps at_) (ho : o.op = .mapUpdate t m k x ∨ o.op = .insert t m k x) (hc : compileOp F.X F.h ops tab o = some (po, tab')) (hdst : po.dst = o.dst) (hlt : ∀ d ∈ po.wr, d < F.nt) (hw : wpO C po e s K) :
    Done F o K w tmps (AT.step at_ ⟨po, gd⟩) := by
  have hc' : (do
      match ← F.X.P.underlying t with
      | .map kt e => some (Op.mapset (← F.X.kinds 8 kt) (← F.X.opd F.h m) (← F.X.opd F.h k) (← F.X.opd F.h x) (← F.X.sh e), tab)
      | _ => none) = some (po, tab') := by
    unfold compileOp at hc
    rcases ho with ho | ho <;> rw [ho] at hc <;> exact hc
  simp only [Option.bind_eq_bind, Option.bind_eq_some_iff] at hc'
  obtain ⟨desc, hu, hc'⟩ := hc'
  split at hc'
  · rename_i kt el
    simp only [Option.bind_eq_some_iff, Option.some.injEq] at hc'
    obtain ⟨ks, hks, mo, hmo, ko, hko, xo, hxo, sh, hsh, hc'⟩ := hc'
    cases hc'
    have hod : o.dst = none := by rw [← hdst]; rfl
    have hM := hS.opd hmo
    have hK := hS.opd hko
    have hX := hS.opd hxo
    simp only [wpO] at hw
    obtain ⟨hkey, hfit, hw⟩ := hw
    split at hw
    · rename_i r hmr
      rw [hmr] at hM
      obtain ⟨b, hmv, hβ⟩ := hM.of_map
      split at hw
      · rename_i es hl
        obtain ⟨ents, q1, q2, q3, hk1, hm1⟩ := hS.mapAt hl hβ
        have hents : ∀ (j : Nat) y en, es[j]? = some y → ents.toList[j]? = some en → Enc F.X.nm g w.heap y.1 en.key := by
          intro j y en g1 g2
          obtain ⟨en', e1, _, e3, _⟩ := q3 j y g1
          rw [Array.getElem?_toList] at g2
          obtain rfl := Option.some.inj (g2.symm.trans e1)
          exact e3
        have hck : ∀ em, (Instr.checkKey em 10000 kt (valOf tmps k)).run F.X.P w = .ok () w := fun em => checkKey_all hks hK hkey em
        have heqk : (eqV (ev e ko) (ev e ko)).isSome = true := by
          have cells : ∀ (ks : List Bool) (cs : List V), kindsOk ks cs = true → (eqCells cs cs).isSome = true := by
            intro ks
            induction ks with
            | nil => intro cs h; cases cs <;> simp [kindsOk] at h; rfl
            | cons k ks ih =>
              intro cs h
              rcases cs with _ | ⟨c, cs⟩
              · cases k <;> simp [kindsOk] at h
              · cases k <;> cases c <;> simp [kindsOk] at h <;> (have := ih cs h; rw [eqCells_cons]; obtain ⟨r, hr⟩ := Option.isSome_iff_exists.1 this; simp [cellEq, hr])
          revert hkey
          generalize ev e ko = kk
          intro hkey
          cases ks <;> cases kk <;> simp [keyOk, kindOk] at hkey <;> first | rfl | exact cells _ _ hkey
        -- the write
        have write : ∀ (ents' : Array MapEntry) (es' : List (V × V)), ents'.size = es'.length → (∀ (i : Nat) x, es'[i]? = some x → ∃ en, ents'[i]? = some en ∧ en.born = i ∧ Enc F.X.nm g w.heap x.1 en.key ∧ Enc F.X.nm g w.heap x.2 en.val ∧ (eqV x.1 x.1).isSome = true) →
            (execOp (valOf tmps) o).run F.X.P w = .ok .skip { w with heap := w.heap.setIfInBounds b (.map ents' es'.length) } → K e (s.set r (.map es')) → Done F o K w tmps (AT.step at_ ⟨.mapset ks mo ko xo sh, gd⟩) := by
          intro ents' es' hsz hen hrun hKK
          obtain ⟨s1, s2, s3⟩ := setObj_at (ob' := .map ents' es'.length) q1
          obtain ⟨r1, r2⟩ := hS.rel.setObj (o' := .map es') hl rfl hβ s2 s3 rfl (by simp) (fun hk hst => ⟨ents', s1, hsz, fun i x hx => by
            obtain ⟨en, e1, e2, e3, e4, e5⟩ := hen i x hx
            exact ⟨en, e1, e2, e3.mono (.refl g) hst, e4.mono (.refl g) hst, e5⟩⟩)
          refine ⟨undef, _, .inr ⟨hrun, rfl⟩, by exact ⟨rfl, rfl⟩, _, _, g, mine, hKK, ?_⟩
          rw [hod]
          exact (hS.heap r1 r2 fun b' hb' => s3 b' fun h => hm1 (h ▸ hb')).forget (hat_sub rfl)
        have hexec : (execOp (valOf tmps) o) = (do Instr.mapUpdate t (valOf tmps m) (valOf tmps k) (valOf tmps x); pure .skip : Sem Next) := by
          rcases ho with ho | ho <;> simp [execOp, ho]
        split at hw
        · rename_i i hfk
          obtain ⟨q, hq, hfd⟩ := findKey_run (d := 8) (by omega) hks hK hkey es ents.toList _ (by simpa using q2) hents hfk
          cases q with
          | none => simp [Found] at hfd
          | some q =>
            obtain ⟨i', v⟩ := q
            simp only [Found] at hfd
            obtain ⟨hi', hv⟩ := hfd
            have hii : i' = i := by omega
            subst hii
            -- the place is there
            have hfound : ∀ (es : List (V × V)) (i : Nat), findK (ev e ko) es = some (some i) → ∃ y, es[i]? = some y ∧ eqV (ev e ko) y.1 = some true := by
              intro es
              induction es with
              | nil => intro i h; simp [findK] at h
              | cons y es ih =>
                intro i h
                obtain ⟨y1, y2⟩ := y
                simp only [findK] at h
                split at h
                · rename_i hb; cases h; exact ⟨_, rfl, hb⟩
                · obtain ⟨r, hr, hrr⟩ := Option.map_eq_some_iff.1 h
                  obtain ⟨j, hj, rfl⟩ := Option.map_eq_some_iff.1 hrr
                  subst hj
                  obtain ⟨y, g1, g2⟩ := ih j hr
                  exact ⟨y, by simpa using g1, g2⟩
                · cases h
            obtain ⟨y, hy1, hy2⟩ := hfound es i' hfk
            obtain ⟨en, e1, e2, e3, e4, e5⟩ := q3 i' y hy1
            have hsb : Instr.sameBits 10000 en.key (valOf tmps k) = true := by
              have hsym : eqV y.1 (ev e ko) = some true := by
                have cs : ∀ (a b : List V), eqCells a b = some true → eqCells b a = some true := by
                  intro a
                  induction a with
                  | nil => intro b h; have := eqCells_len h; cases b <;> simp at this; rfl
                  | cons a as ih =>
                    intro b h
                    rcases b with _ | ⟨b, bs⟩
                    · simp [eqCells_cons_nil] at h
                    rw [eqCells_cons] at h ⊢
                    simp only [Option.bind_eq_some_iff, Option.map_eq_some_iff] at h
                    obtain ⟨q, hq, r, hr, hqr⟩ := h
                    simp only [Bool.and_eq_true] at hqr
                    obtain ⟨rfl, rfl⟩ := hqr
                    have hba : cellEq b a = some true := by
                      cases a <;> first | (simp [cellEq] at hq; done) | skip
                      all_goals (cases b <;> first | (simp [cellEq] at hq; done) | skip)
                      · simp [cellEq] at hq ⊢; exact hq.symm
                      · simp [cellEq] at hq ⊢; exact hq.symm
                    rw [hba, ih bs hr]
                    rfl
                revert hy2
                generalize ev e ko = kk
                generalize y.1 = yy
                intro hy2
                cases kk <;> first | (simp [eqV] at hy2; done) | skip
                all_goals (cases yy <;> first | (simp [eqV] at hy2; done) | skip)
                · simp [eqV] at hy2 ⊢; exact hy2.symm
                · simp [eqV] at hy2 ⊢; exact hy2.symm
                · exact cs _ _ hy2
              exact sameBits_run e3 hK hsym
            have hold : ((ents[i']?).map (·.key)).getD (valOf tmps k) = en.key := by simp [e1]
            refine write (ents.modify i' fun e => { e with key := valOf tmps k, val := valOf tmps x }) _ (by simp [q2]) ?_ ?_ hw
            · intro j z hz
              rw [List.getElem?_set] at hz
              have hjlt : i' < ents.size := (Array.getElem?_eq_some_iff.1 e1).1
              by_cases hj : i' = j
              · subst hj
                rw [if_pos rfl] at hz
                split at hz
                · cases hz
                  refine ⟨{ en with key := valOf tmps k, val := valOf tmps x }, ?_, e2, hK, hX, heqk⟩
                  simp [Array.getElem?_modify, e1]
                · cases hz
              · rw [if_neg hj] at hz
                obtain ⟨en', f1, f2, f3, f4, f5⟩ := q3 j z hz
                exact ⟨en', by simp [Array.getElem?_modify, hj, f1], f2, f3, f4, f5⟩
            · rw [hexec]
              simp only [Instr.mapUpdate, Sem.run_bind, run_underlying hu, Result.andThen_ok, hmv, run_getObj_map q1, hck, hq, hold, Instr.keyThatStays, hsb, if_true, Sem.run_pure, run_setObj_of q1 (by simp)]
              simp
        · rename_i hfk
          obtain ⟨q, hq, hfd⟩ := findKey_run (d := 8) (by omega) hks hK hkey es ents.toList _ (by simpa using q2) hents hfk
          cases q <;> simp [Found] at hfd
          refine write (ents.push { key := valOf tmps k, val := valOf tmps x, born := es.length }) _ (by simp [q2]) ?_ ?_ hw
          · intro j z hz
            rw [List.getElem?_append] at hz
            split at hz
            · rename_i hj
              obtain ⟨en', f1, f2, f3, f4, f5⟩ := q3 j z hz
              exact ⟨en', by rw [Array.getElem?_push_lt (by omega)]; rw [Array.getElem?_eq_getElem (by omega)] at f1; exact f1, f2, f3, f4, f5⟩
            · rename_i hj
              have hj0 : j - es.length = 0 := by
                have := (List.getElem?_eq_some_iff.1 hz).1
                simp at this
                exact this
              rw [hj0] at hz
              simp at hz
              subst hz
              have hje : j = ents.size := by omega
              subst hje
              exact ⟨_, Array.getElem?_push_size, q2.symm, hK, hX, heqk⟩
          · rw [hexec]
            simp only [Instr.mapUpdate, Sem.run_bind, run_underlying hu, Result.andThen_ok, hmv, run_getObj_map q1, hck, hq, run_setObj_of q1 (by simp), Sem.run_pure]
            simp
        · exact hw.elim
      · exact hw.elim
    · exact hw.elim
  · cases hc'

def iterOk (g : Gh) : Option Nat → Option Nat → Prop
  | none, none => True
  | some r, some br => g.β r = some br
  | _, _ => False
theorem iterAt (hS : Sim F g w.heap s mine e tmps at_) {l b n : Nat} {m : Option Nat} {seen : List Nat} (hl : s l = some (.iter m n seen)) (hβ : g.β l = some b) : ∃ m', w.heap[b]? = some (.mapIter m' n seen.toArray n) ∧ iterOk g m m' ∧ ¬ F.kept b ∧ ¬ mine b := by
  obtain ⟨b', hβ', ⟨m', h1, h2⟩, h4, h5⟩ := hS.rel.obj l _ hl rfl
  obtain rfl := Option.some.inj (hβ'.symm.trans hβ)
  refine ⟨m', h1, ?_, h4, h5⟩
  cases m <;> cases m' <;> exact h2
theorem Enc.of_iter {nm : FuncId → Option Nat} {H : Heap} {l : Nat} {v : Value} (h : Enc nm g H (.iter l) v) : ∃ b, v = .pointer (some ⟨b, 0, none⟩) ∧ g.β l = some b := by
  cases h with
  | iter h => exact ⟨_, rfl, h⟩

theorem sim_range {t : TypeId} {x : Operand} (hS : Sim F g w.heap s mine e tmps at_) (ho : o.op = .range t x) (hc : compileOp F.X F.h ops tab o = some (po, tab')) (hlt : ∀ d ∈ po.wr, d < F.nt) (hw : wpO C po e s K) :
    Done F o K w tmps (AT.step at_ ⟨po, gd⟩) := by
  unfold compileOp at hc
  rw [ho] at hc
  simp only [Option.bind_eq_bind, Option.bind_eq_some_iff] at hc
  obtain ⟨desc, hu, hc⟩ := hc
  split at hc
  · simp only [Option.bind_eq_some_iff, Option.some.injEq] at hc
    obtain ⟨d, hd, xo, hxo, hc⟩ := hc
    cases hc
    obtain ⟨h1, h2, _⟩ := cdst_inv hd
    have hX := hS.opd hxo
    have go : ∀ (m : Option Nat) (m' : Option Nat) (n : Nat), iterOk g m m' → (execOp (valOf tmps) o).run F.X.P w = .ok (.value (.pointer (some ⟨w.heap.size, 0, none⟩))) { w with heap := w.heap.push (.mapIter m' n #[] n) } →
        (∀ l, s l = none → K (e.set d (.iter l)) (s.set l (.iter m n []))) → Done F o K w tmps (AT.step at_ ⟨.range d xo, gd⟩) := by
      intro m m' n hm hrun hK
      obtain ⟨hS1, hfree⟩ := hS.push (.mapIter m' n #[] n)
      obtain ⟨l, hl⟩ := hS1.fresh
      have hS2 := hS1.newObj (o := .iter m n []) hl hfree (by simp) rfl ⟨m', push_new _ _, by
        cases m <;> cases m' <;> simp only [iterOk] at hm ⊢
        rename_i r br
        have hne : r ≠ l := by rintro rfl; rw [hl.2.1] at hm; cases hm
        simp [Gh.withObj, hne, hm]⟩ (by simp)
      refine ⟨_, _, .inl hrun, by exact ⟨rfl, rfl⟩, _, _, g.withObj l w.heap.size (fun _ => False), mine, hK l hl.1, ?_⟩
      rw [h1]
      exact hS2.setVal h2 (hlt d (by simp [Op.wr])) (.iter (by simp [Gh.withObj])) (hat_of rfl rfl)
    simp only [wpO] at hw
    split at hw
    · rename_i hm
      rw [hm] at hX
      have hv := hX.of_nilmap
      exact go none none 0 trivial (by simp only [execOp, ho, Instr.range, Sem.run_bind, run_underlying hu, Result.andThen_ok, hv, Sem.run_pure, run_newObj]) hw
    · rename_i r hm
      rw [hm] at hX
      obtain ⟨b, hv, hβ⟩ := hX.of_map
      split at hw
      · rename_i es hl
        obtain ⟨ents, q1, q2, q3, _, _⟩ := hS.mapAt hl hβ
        exact go (some r) (some b) es.length hβ (by simp only [execOp, ho, Instr.range, Sem.run_bind, run_underlying hu, Result.andThen_ok, hv, run_getObj_map q1, Sem.run_pure, run_newObj]) hw
      · exact hw.elim
    · exact hw.elim
  · cases hc

/-- 'next' over a map that the loop does not write: nothing is left, or one that is left comes out. -/
theorem run_next {P : Program} {ty : TypeId} {b bm n : Nat} {seen : Array Nat} {es : Array MapEntry} (hit : w.heap[b]? = some (.mapIter (some bm) n seen n)) (hb : w.heap[bm]? = some (.map es n)) (hold : ∀ x ∈ es.toList, x.born < n) :
    ((leftOf es seen).size = 0 ∧ (Instr.next (.pointer (some ⟨b, 0, none⟩)) false ty).run P w = .ok (.tuple #[.bool false]) w) ∨
    ∃ en ∈ (leftOf es seen).toList, ∃ w1 : World, (w1.heap = w.heap.setIfInBounds b (.mapIter (some bm) n (seen.push en.born) n) ∧ (w1.os = w.os ∧ w1.output = w.output)) ∧ (Instr.next (.pointer (some ⟨b, 0, none⟩)) false ty).run P w = .ok (.tuple #[.bool true, en.key, en.val]) w1 := by
  simp only [Instr.next, Sem.run_bind, run_getObj_iter hit, Result.andThen_ok, run_getObj_map hb, next_test_false seen es n n hold (Nat.le_refl _), Bool.false_eq_true, if_false]
  unfold leftOf
  have hmem : ∀ x ∈ (Array.filter (fun e => !seen.contains e.born) es).toList, x.born < n := fun x hx => hold x (by simp at hx ⊢; exact hx.1)
  generalize Array.filter (fun e => !seen.contains e.born) es = L at hmem ⊢
  have e1 : L.filter (fun x => decide (x.born < n)) = L := Array.filter_eq_self.2 (fun x hx => by simpa using hmem x (by simpa using hx))
  have e2 : L.filter (fun x => decide (x.born ≥ n)) = #[] := by
    rw [Array.filter_eq_empty_iff]
    intro x hx
    have := hmem x (by simpa using hx)
    simp
    omega
  simp only [e1, e2, Array.append_empty]
  by_cases h0 : L.size = 0
  · left
    have : L = #[] := Array.eq_empty_of_size_eq_zero h0
    subst this
    refine ⟨rfl, ?_⟩
    simp [choose, Sem.run, Question.forced]
  · right
    have hne : L.isEmpty = false := by simp [Array.isEmpty, h0]
    simp only [hne, Bool.false_eq_true, if_false, Array.empty_append, Array.size_map]
    have hch : ∃ (j : Nat) (w1 : World), j < L.size ∧ (w1.heap = w.heap ∧ (w1.os = w.os ∧ w1.output = w.output)) ∧ (choose (Question.mapNext L.size)).run P w = .ok j w1 := by
      by_cases hf : L.size ≤ 1
      · exact ⟨0, w, by omega, ⟨rfl, rfl, rfl⟩, by simp [choose, Sem.run, Question.forced, hf]⟩
      · exact ⟨_, w.drew, Nat.mod_lt _ (by omega), ⟨rfl, rfl, rfl⟩, by
          simp only [choose, Sem.run, Question.forced, decide_eq_true_eq, hf, if_false, Question.cut]
          rfl⟩
    obtain ⟨j, w1, hj, ⟨hw1, hos1⟩, hrun⟩ := hch
    have hit1 : w1.heap[b]? = some (.mapIter (some bm) n seen n) := by rw [hw1]; exact hit
    refine ⟨L[j], by simp, { w1 with heap := w1.heap.setIfInBounds b (.mapIter (some bm) n (seen.push L[j].born) n) }, ⟨?_, hos1⟩, ?_⟩
    rotate_left
    · simp only [hrun, Result.andThen_ok, Array.getElem?_map, Array.getElem?_eq_getElem hj, Option.map_some, Sem.run_bind, run_setObj_of (w := w1) hit1 (by simp), Sem.run_pure]
    · simp [hw1]

theorem born_all {ents : Array MapEntry} {es : List (V × V)} {H : Heap} (h : ents.size = es.length) (q3 : ∀ (i : Nat) x, es[i]? = some x → ∃ en, ents[i]? = some en ∧ en.born = i ∧ Enc F.X.nm g H x.1 en.key ∧ Enc F.X.nm g H x.2 en.val ∧ (eqV x.1 x.1).isSome = true) :
    ∀ en ∈ ents.toList, ∃ i x, es[i]? = some x ∧ ents[i]? = some en ∧ en.born = i ∧ Enc F.X.nm g H x.1 en.key ∧ Enc F.X.nm g H x.2 en.val := by
  intro en hen
  obtain ⟨i, hi, rfl⟩ := List.getElem_of_mem hen
  have hi' : i < es.length := by rw [← h]; simpa using hi
  obtain ⟨en', e1, e2, e3, e4, _⟩ := q3 i es[i] (by simp [hi'])
  have : en' = ents[i]'(by simpa using hi) := by
    rw [Array.getElem?_eq_getElem (by simpa using hi)] at e1
    exact (Option.some.inj e1).symm
  subst this
  exact ⟨i, es[i], by simp [hi'], e1, by simpa using e2, by simpa using e3, by simpa using e4⟩

theorem tup3 {nm : FuncId → Option Nat} {H : Heap} {a b c : V} {x y z : Value} (h1 : Enc nm g H a x) (h2 : Enc nm g H b y) (h3 : Enc nm g H c z) : Enc nm g H (.tup [a, b, c]) (.tuple #[x, y, z]) := by
  refine .tup rfl fun j v hv => ?_
  rcases j with _ | _ | _ | j
  · simp at hv; subst hv; exact h1
  · simp at hv; subst hv; exact h2
  · simp at hv; subst hv; exact h3
  · simp at hv
theorem tup2 {nm : FuncId → Option Nat} {H : Heap} {a b : V} {x y : Value} (h1 : Enc nm g H a x) (h2 : Enc nm g H b y) : Enc nm g H (.tup [a, b]) (.tuple #[x, y]) := by
  refine .tup rfl fun j v hv => ?_
  rcases j with _ | _ | j
  · simp at hv; subst hv; exact h1
  · simp at hv; subst hv; exact h2
  · simp at hv
theorem tup1 {nm : FuncId → Option Nat} {H : Heap} {a : V} {x : Value} (h1 : Enc nm g H a x) : Enc nm g H (.tup [a]) (.tuple #[x]) := by
  refine .tup rfl fun j v hv => ?_
  rcases j with _ | j
  · simp at hv; subst hv; exact h1
  · simp at hv

theorem sim_next {it : Operand} {q : Bool} (hS : Sim F g w.heap s mine e tmps at_) (ho : o.op = .next it q) (hc : compileOp F.X F.h ops tab o = some (po, tab')) (hlt : ∀ d ∈ po.wr, d < F.nt) (hw : wpO C po e s K) :
    Done F o K w tmps (AT.step at_ ⟨po, gd⟩) := by
  unfold compileOp at hc
  rw [ho] at hc
  cases q with
  | true => cases hc
  | false =>
    simp only [Option.bind_eq_bind, Option.bind_eq_some_iff, Option.some.injEq] at hc
    obtain ⟨d, hd, xo, hxo, hc⟩ := hc
    cases hc
    obtain ⟨h1, h2, _⟩ := cdst_inv hd
    have hX := hS.opd hxo
    have hat : ∀ y ∈ AT.step at_ ⟨.next d xo, gd⟩, y ∈ at_ ∧ y.1 ≠ d := hat_of rfl rfl
    simp only [wpO] at hw
    split at hw
    · rename_i l hit
      rw [hit] at hX
      obtain ⟨b, hv, hβ⟩ := hX.of_iter
      split at hw
      · rename_i n seen hl
        obtain ⟨m', q1, q2, _, _⟩ := iterAt hS hl hβ
        cases m' with
        | some m' => exact q2.elim
        | none => exact done_val hS h1 h2 (hlt d (by simp [Op.wr])) hat hw ⟨_, by simp [execOp, ho, hv, Instr.next, run_getObj_iter q1], tup1 (.bool _)⟩
      · rename_i r n seen hl
        obtain ⟨m', q1, q2, hk1, hm1⟩ := iterAt hS hl hβ
        cases m' with
        | none => exact q2.elim
        | some br =>
          split at hw
          · rename_i es hm
            obtain ⟨hn, hw1, hw2⟩ := hw
            subst hn
            obtain ⟨ents, p1, p2, p3, _, _⟩ := hS.mapAt hm q2
            have hborn := born_all p2 p3
            have hold : ∀ x ∈ ents.toList, x.born < es.length := by
              intro x hx
              obtain ⟨i, y, g1, g2, g3, _⟩ := hborn x hx
              rw [g3]; exact (List.getElem?_eq_some_iff.1 g1).1
            rcases run_next (P := F.X.P) (ty := o.type) q1 p1 hold with ⟨hz, hrun⟩ | ⟨en, hen, w1, ⟨hw1', hos1⟩, hrun⟩
            · refine done_val hS h1 h2 (hlt d (by simp [Op.wr])) hat (hw1 ?_) ⟨_, by simp [execOp, ho, hv, hrun], tup1 (.bool _)⟩
              intro i hi
              obtain ⟨en, g1, g2, _⟩ := p3 i es[i] (by simp [hi])
              by_cases hs : i ∈ seen
              · exact hs
              · exfalso
                have : en ∈ leftOf ents seen.toArray := by
                  unfold leftOf
                  rw [Array.mem_filter]
                  refine ⟨Array.mem_of_getElem? g1, ?_⟩
                  simp [g2, hs]
                have h0 := Array.eq_empty_of_size_eq_zero hz
                rw [h0] at this
                simp at this
            · have hen' : en ∈ ents.toList ∧ en.born ∉ seen := by
                unfold leftOf at hen
                simp only [Array.toList_filter, List.mem_filter] at hen
                exact ⟨hen.1, by simpa using hen.2⟩
              obtain ⟨i, y, g1, g2, g3, g4, g5⟩ := hborn en hen'.1
              obtain ⟨s1, s2, s3⟩ := setObj_at (ob' := .mapIter (some br) es.length (seen.toArray.push en.born) es.length) q1
              rw [← hw1'] at s1 s2 s3
              obtain ⟨r1, r2⟩ := hS.rel.setObj (o' := .iter (some r) es.length (seen ++ [i])) hl rfl hβ s2 s3 rfl (by simp) (fun hk hst => ⟨some br, by rw [s1, g3]; simp, q2⟩)
              have hS2 := hS.heap r1 r2 fun b' hb' => s3 b' fun h => hm1 (h ▸ hb')
              have hst := r2.stays
              refine ⟨.tuple #[.bool true, en.key, en.val], w1, .inl (by simp [execOp, ho, hv, hrun]), hos1, _, _, g, mine, hw2 i y g1 (by rw [← g3]; exact hen'.2), ?_⟩
              rw [h1]
              exact hS2.setVal h2 (hlt d (by simp [Op.wr])) (tup3 (.bool true) (g4.mono (.refl g) hst) (g5.mono (.refl g) hst)) hat
          · exact hw.elim
      · exact hw.elim
    · exact hw.elim

theorem sim_entry {it : Operand} (hS : Sim F g w.heap s mine e tmps at_) (ho : o.op = .entry it) (hc : compileOp F.X F.h ops tab o = some (po, tab')) (hlt : ∀ d ∈ po.wr, d < F.nt) (hw : wpO C po e s K) :
    Done F o K w tmps (AT.step at_ ⟨po, gd⟩) := by
  unfold compileOp at hc
  rw [ho] at hc
  simp only [Option.bind_eq_bind, Option.bind_eq_some_iff, Option.some.injEq] at hc
  obtain ⟨d, hd, xo, hxo, hc⟩ := hc
  cases hc
  obtain ⟨h1, h2, _⟩ := cdst_inv hd
  have hX := hS.opd hxo
  simp only [wpO] at hw
  split at hw
  · rename_i l hit
    rw [hit] at hX
    obtain ⟨b, hv, hβ⟩ := hX.of_iter
    split at hw
    · rename_i r n seen hl
      obtain ⟨m', q1, q2, hk1, hm1⟩ := iterAt hS hl hβ
      cases m' with
      | none => exact q2.elim
      | some br =>
        split at hw
        · rename_i es hm
          obtain ⟨hn, hw⟩ := hw
          subst hn
          obtain ⟨ents, p1, p2, p3, _, _⟩ := hS.mapAt hm q2
          split at hw
          · rename_i i hi
            split at hw
            · rename_i y hy
              obtain ⟨en, g1, g2, g3, g4, _⟩ := p3 i y hy
              have hback : seen.toArray.back? = some i := by simp [hi]
              have hnd : (ents.toList.map (·.born)).Nodup := by
                have : ents.toList.map (·.born) = List.range es.length := by
                  apply List.ext_getElem?
                  intro j
                  by_cases hj : j < es.length
                  · obtain ⟨en', e1, e2, _⟩ := p3 j es[j] (by simp [hj])
                    rw [List.getElem?_map, Array.getElem?_toList, e1, List.getElem?_range hj]
                    simp [e2]
                  · rw [List.getElem?_eq_none (by simp; omega), List.getElem?_eq_none (by simp; omega)]
                rw [this]
                exact List.nodup_range
              have hfind : ents.find? (·.born == i) = some en := by
                rw [← g2, ← Array.find?_toList]
                exact find_born en ents.toList hnd (by rw [Array.mem_toList_iff]; exact Array.mem_of_getElem? g1)
              refine done_val hS h1 h2 (hlt d (by simp [Op.wr])) (hat_of rfl rfl) hw ⟨.tuple #[en.key, en.val], ?_, tup2 g3 g4⟩
              simp only [execOp, ho, hv, Instr.entry, Sem.run_bind, run_getObj_iter q1, Result.andThen_ok, hback, run_getObj_map p1, bne_self_eq_false, Bool.false_eq_true, if_false, hfind, Sem.run_pure]
            · exact hw.elim
          · exact hw.elim
        · exact hw.elim
    · exact hw.elim
  · exact hw.elim

/-! ## Builtins on values -/
theorem run_builtin {c : Go.Call} {b : Builtin} (ho : o.op = .call c) (hcal : c.callee = .builtin b) : (execOp (valOf tmps) o) = builtin b c.argTypes o.type (c.args.map fun | .const _ => true | _ => false) (c.args.map (valOf tmps)) := by
  simp [execOp, ho, resolve, hcal, invoke]
  rfl

theorem sim_len {c : Go.Call} {t el : TypeId} (hS : Sim F g w.heap s mine e tmps at_) (ho : o.op = .call c) (hcal : c.callee = .builtin .len) (h0 : c.argTypes[0]? = some t) (hu : F.X.P.underlying t = some (.slice el)) (hc : cval F.h tab o .len (F.X.opds F.h c.args) = some (po, tab')) (hlt : ∀ d ∈ po.wr, d < F.nt) (hw : wpO C po e s K) :
    Done F o K w tmps (AT.step at_ ⟨po, gd⟩) := by
  refine sim_p hS hc hlt hw fun ys v h1 h2 => ?_
  rcases ys with _ | ⟨y, _ | ⟨y', ys⟩⟩
  · simp [pv] at h2
  · obtain ⟨a, ha, hy⟩ := opds_one h1
    obtain ⟨r, hr, he⟩ := ok_len (ty := o.type) hu (hS.opd hy) h2 c.argTypes h0
    exact ⟨r, by rw [run_builtin ho hcal, ha]; simp [builtin, hr], he⟩
  · simp [pv] at h2
theorem sim_cap {c : Go.Call} {t el : TypeId} (hS : Sim F g w.heap s mine e tmps at_) (ho : o.op = .call c) (hcal : c.callee = .builtin .cap) (h0 : c.argTypes[0]? = some t) (hu : F.X.P.underlying t = some (.slice el)) (hc : cval F.h tab o .cap (F.X.opds F.h c.args) = some (po, tab')) (hlt : ∀ d ∈ po.wr, d < F.nt) (hw : wpO C po e s K) :
    Done F o K w tmps (AT.step at_ ⟨po, gd⟩) := by
  refine sim_p hS hc hlt hw fun ys v h1 h2 => ?_
  rcases ys with _ | ⟨y, _ | ⟨y', ys⟩⟩
  · simp [pv] at h2
  · obtain ⟨a, ha, hy⟩ := opds_one h1
    obtain ⟨r, hr, he⟩ := ok_cap (ty := o.type) hu (hS.opd hy) h2 c.argTypes h0
    exact ⟨r, by rw [run_builtin ho hcal, ha]; simp [builtin, hr], he⟩
  · simp [pv] at h2
theorem sim_max {c : Go.Call} (hS : Sim F g w.heap s mine e tmps at_) (ho : o.op = .call c) (hcal : c.callee = .builtin .max) (hc : cval F.h tab o .max (F.X.opds F.h c.args) = some (po, tab')) (hlt : ∀ d ∈ po.wr, d < F.nt) (hw : wpO C po e s K) :
    Done F o K w tmps (AT.step at_ ⟨po, gd⟩) := by
  refine sim_p hS hc hlt hw fun ys v h1 h2 => ?_
  obtain ⟨r, hr, he⟩ := ok_max (ts := c.argTypes) (ty := o.type) (hS.opds h1) h2
  exact ⟨r, by rw [run_builtin ho hcal]; simp [builtin, hr], he⟩
theorem sim_min {c : Go.Call} (hS : Sim F g w.heap s mine e tmps at_) (ho : o.op = .call c) (hcal : c.callee = .builtin .min) (hc : cval F.h tab o .min (F.X.opds F.h c.args) = some (po, tab')) (hlt : ∀ d ∈ po.wr, d < F.nt) (hw : wpO C po e s K) :
    Done F o K w tmps (AT.step at_ ⟨po, gd⟩) := by
  refine sim_p hS hc hlt hw fun ys v h1 h2 => ?_
  obtain ⟨r, hr, he⟩ := ok_min (ts := c.argTypes) (ty := o.type) (hS.opds h1) h2
  exact ⟨r, by rw [run_builtin ho hcal]; simp [builtin, hr], he⟩
theorem sim_mlen {c : Go.Call} {t kt el : TypeId} {d : Nat} {m : Opd} (hS : Sim F g w.heap s mine e tmps at_) (ho : o.op = .call c) (hcal : c.callee = .builtin .len) (h0 : c.argTypes[0]? = some t) (hu : F.X.P.underlying t = some (.map kt el)) (hargs : F.X.opds F.h c.args = some [m])
    (hod : o.dst = some d) (hp : F.h.prom.contains d = false) (hd : d < F.nt) (hw : wpO C (.mlen d m) e s K) :
    Done F o K w tmps (AT.step at_ ⟨.mlen d m, gd⟩) := by
  obtain ⟨a, ha, hy⟩ := opds_one hargs
  have hX := hS.opd hy
  have hat : ∀ y ∈ AT.step at_ ⟨.mlen d m, gd⟩, y ∈ at_ ∧ y.1 ≠ d := hat_of rfl rfl
  simp only [wpO] at hw
  split at hw
  · rename_i hm
    rw [hm] at hX
    have hv := hX.of_nilmap
    exact done_val hS hod hp hd hat hw ⟨.int .i64 0, by rw [run_builtin ho hcal, ha]; simp [builtin, Builtin.len_, h0, run_underlying hu, hv, goInt], .int _⟩
  · rename_i r hm
    rw [hm] at hX
    obtain ⟨b, hv, hβ⟩ := hX.of_map
    split at hw
    · rename_i es hl
      obtain ⟨ents, q1, q2, q3, _, _⟩ := hS.mapAt hl hβ
      exact done_val hS hod hp hd hat hw ⟨.int .i64 es.length, by rw [run_builtin ho hcal, ha]; simp [builtin, Builtin.len_, h0, run_underlying hu, hv, goInt, run_getObj_map q1, q2], .int _⟩
    · exact hw.elim
  · exact hw.elim

/-! ## Do two slices share memory? -/
set_option maxRecDepth 1000000 in
theorem find_overlaps {fn : Func} (h1 : fn.name = "slices.overlaps[huer/api.SeineNote]") (h2 : fn.origin = "slices.overlaps") : Extern.findNext fn = none ∧ Extern.find fn = some (Extern.SlicesOverlaps.overlaps fn.params fn.resultTypes) := by
  unfold Extern.findNext Extern.find
  simp only [h1, h2]
  have e1 : Extern.allNextRows.lookup "slices.overlaps[huer/api.SeineNote]" = none := by rfl
  have e2 : Extern.allNextRows.lookup "slices.overlaps" = none := by rfl
  have e3 : Extern.allGenericRows.lookup "slices.overlaps[huer/api.SeineNote]" = none := by rfl
  have e4 : Extern.allGenericRows.lookup "slices.overlaps" = none := by rfl
  have e5 : Extern.allTypedRows.lookup "slices.overlaps[huer/api.SeineNote]" = none := by rfl
  have e6 : Extern.allTypedRows.lookup "slices.overlaps" = some Extern.SlicesOverlaps.overlaps := by rfl
  have e7 : Extern.allRows.lookup "slices.overlaps[huer/api.SeineNote]" = none := by rfl
  rw [e1, e2, e3, e4, e5, e6, e7]
  exact ⟨rfl, rfl⟩

theorem run_callFunc_extern {P : Program} {f : FuncId} {fn : Func} {ext : Array Value → Sem Value} {args : Array Value} (hf : P.funcs[f]? = some fn) (hn : (fn.name == "runtime.NumGoroutine") = false) (hb : fn.body.isNone = true) (h1 : Extern.findNext fn = none) (h2 : Extern.find fn = some ext) :
    (callFunc f args).run P w = ((ext args).run P w).andThen fun v w' => .ok (.value v) w' := by
  simp only [callFunc, Sem.run_bind, run_program, Result.andThen_ok, hf, hn, Bool.false_eq_true, if_false, hb, if_true, run_mark, h1, h2, Sem.run_pure]

theorem valOf_func {f : FuncId} : valOf tmps (.func f) = .func (.func f) #[] #[] := rfl
theorem two_slices {motive : Array Value → Sort _} (a b : Option Addr) (la ca lb cb : Nat) (h1 : (a : Option Addr) → (la cap : Nat) → (b : Option Addr) → (lb cap_1 : Nat) → motive #[Value.slice a la cap, Value.slice b lb cap_1]) (h2 : (x : Array Value) → motive x) :
    Extern.SlicesOverlaps.overlaps.match_4 motive #[.slice a la ca, .slice b lb cb] h1 h2 = h1 a la ca b lb cb := rfl
theorem sim_ovl {c : Go.Call} {f : FuncId} {d : Nat} {x y : Opd} (hS : Sim F g w.heap s mine e tmps at_) (ho : o.op = .call c) (hcal : c.callee = .value (.func f)) (hov : isOverlaps F.X f = true) (hargs : F.X.opds F.h c.args = some [x, y])
    (hod : o.dst = some d) (hp : F.h.prom.contains d = false) (hd : d < F.nt) (hw : wpO C (.ovl d x y) e s K) :
    Done F o K w tmps (AT.step at_ ⟨.ovl d x y, gd⟩) := by
  obtain ⟨a1, a2, hav, hA1, hA2⟩ := opds_two hargs
  have hV1 := hS.opd hA1
  have hV2 := hS.opd hA2
  unfold isOverlaps at hov
  obtain ⟨fn, hfn, hov⟩ := (Option.any_eq_true _ _).1 hov
  simp only [Bool.and_eq_true, beq_iff_eq] at hov
  obtain ⟨⟨⟨n1, n2⟩, n3⟩, n4⟩ := hov
  obtain ⟨t, ht, n4⟩ := (Option.any_eq_true _ _).1 n4
  split at n4
  · rename_i el hu
    obtain ⟨sz, hsz, hpos⟩ := (Option.any_eq_true _ _).1 n4
    simp only [decide_eq_true_eq] at hpos
    obtain ⟨e1, e2⟩ := find_overlaps n1 n2
    simp only [wpO] at hw
    split at hw
    · rename_i xs cx l off n cap hx hy
      obtain ⟨hne, hw⟩ := hw
      rw [hx] at hV1
      rw [hy] at hV2
      split at hw
      · rename_i cs hl
        obtain ⟨b2, hv2, hβ⟩ := hV2.of_sli
        obtain ⟨b', hβ', ⟨⟨cc, el2, q2, q3⟩, qs⟩, hk1, hm1⟩ := hS.rel.obj l _ hl rfl
        obtain rfl := Option.some.inj (hβ'.symm.trans hβ)
        have hrun : (Extern.SlicesOverlaps.overlaps fn.params fn.resultTypes #[valOf tmps a1, valOf tmps a2]).run F.X.P w = .ok (.bool false) w := by
          rcases hV1.of_lst with ⟨_, hv, _⟩ | ⟨b, base, sz', capx, vs, hv, hs, hc, hZ, he, _, hle⟩
          · rw [hv, hv2]
            unfold Extern.SlicesOverlaps.overlaps
            rw [two_slices]
            simp [ht, run_underlying hu, run_size hsz]
          · rw [hv, hv2]
            unfold Extern.SlicesOverlaps.overlaps
            rw [two_slices]
            by_cases h0 : xs.length = 0 ∨ n = 0 ∨ sz = 0
            · simp only [ht, Sem.run_bind, run_underlying hu, Result.andThen_ok, run_size hsz, Sem.run_ite]
              rw [if_pos h0]
              rfl
            · have hxn : 0 < xs.length := by omega
              obtain ⟨x0, xr, hx0⟩ : ∃ x0 xr, xs = x0 :: xr := by
                rcases xs with _ | ⟨x0, xr⟩
                · simp at hxn
                · exact ⟨x0, xr, rfl⟩
              have hpos0 : 0 < (xs.flatMap V.cells).length := by
                subst hx0
                simp only [List.all_cons, Bool.and_eq_true, Bool.not_eq_true'] at hne
                have := hne.1
                simp only [List.flatMap_cons, List.length_append]
                cases hcx : x0.cells with
                | nil => rw [hcx] at this; simp at this
                | cons => simp only [List.length_cons]; omega
              have hz0 := hZ 0 hpos0
              have hc0 := hc 0 hpos0
              have hbne : b ≠ b' := fun h => hS.rel.zobj b (base + 0) l _ hz0 hl rfl (h ▸ hβ')
              obtain ⟨ca, ela, fa, hca, hca0⟩ : ∃ ca ela fa, w.heap[b]? = some (.cells ca ela fa) ∧ 0 < ca.size := by
                unfold cellH at hc0
                split at hc0
                · rename_i c el f hh
                  exact ⟨c, el, f, hh, by have := (Array.getElem?_eq_some_iff.1 hc0).1; omega⟩
                · cases hc0
              have fz : ∀ o, w.frozen? ⟨b', o, none⟩ = false := fun o => by simp [World.frozen?, q2]
              have sh1 : w.shape? b = some (ela, ca.size) := by simp [World.shape?, hca]
              have sh2 : w.shape? b' = some (el2, cc.size) := by simp [World.shape?, q2]
              have hbb : (b != b') = true := by simpa using hbne
              have hbb' : (b == b') = false := by simpa using hbne
              have nv1 : (noView ⟨b, base, none⟩).run F.X.P w = .ok () w := by simp [noView, viewAt, sh1]
              have nv2 : (noView ⟨b', off, none⟩).run F.X.P w = .ok () w := by simp [noView, viewAt, sh2]
              have s2 : (stringish ⟨b', off, none⟩).run F.X.P w = .ok false w := by simp [stringish, fz, sh2]
              have s1 : ∃ q, (stringish ⟨b, base, none⟩).run F.X.P w = .ok q w := by
                by_cases hq : w.frozen? ⟨b, base, none⟩ = true
                · exact ⟨true, by simp [stringish, hq]⟩
                · exact ⟨_, by simp [stringish, hq, sh1]; rfl⟩
              obtain ⟨q, s1⟩ := s1
              have mb : (mayBeOne ⟨b, base, none⟩ ⟨b', off, none⟩).run F.X.P w = .ok false w := by
                have hne0 : ca.size ≠ 0 := by omega
                cases q
                · simp [mayBeOne, s1, s2]
                · simp only [mayBeOne, Sem.run_bind, s1, s2, Result.andThen_ok, run_shape, sh1, Sem.run_pure]
                  obtain ⟨k, hk⟩ : ∃ k, ca.size = k + 1 := ⟨ca.size - 1, by omega⟩
                  rw [hk]
                  simp
              simp only [ht, Sem.run_bind, run_underlying hu, Result.andThen_ok, run_size hsz, Sem.run_ite]
              rw [if_neg h0]
              simp only [hbb, run_frozen, fz, Sem.run_bind, Result.andThen_ok, if_true, nv1, nv2, mb, Sem.run_pure, hbb', Bool.false_and]
              simp
        refine done_val hS hod hp hd (hat_of rfl rfl) hw ⟨.bool false, ?_, .bool _⟩
        have hnm : (fn.name == "runtime.NumGoroutine") = false := by rw [n1]; decide
        simp only [execOp, ho, resolve, hcal, hav, List.map_toArray, List.map_cons, List.map_nil, valOf_func, Deferred.ofValue, Sem.run_bind, Sem.run_pure, Result.andThen_ok, invoke]
        have hcf := run_callFunc_extern (w := w) (args := #[valOf tmps a1, valOf tmps a2]) hfn hnm n3 e1 e2
        rw [hrun] at hcf
        have e0 : (#[] : Array Value) ++ [valOf tmps a1, valOf tmps a2].toArray ++ #[] = #[valOf tmps a1, valOf tmps a2] := by simp
        rw [e0]
        exact hcf
      · exact hw.elim
    · exact hw.elim
  · cases n4
end
end Go.Hu

set_option linter.unusedSimpArgs false
set_option linter.unusedVariables false
namespace Go.Hu
section
variable {F : Fix} {g : Gh} {w : World} {s : St} {mine : Nat → Prop} {e : Env} {tmps : Array Value} {at_ at' : AT} {K : Env → St → Prop} {C : CP} {H : Heap}

theorem scal_cells {x : V} (h : x.scal = true) : x.cells = [x] := by cases x <;> first | rfl | (simp [V.scal] at h)
theorem chunk_spec {sh : Sh} : ∀ (n : Nat) (cs : List V), n * shN sh ≤ cs.length → 0 < shN sh → (∀ y ∈ cs, y.scal = true) → (chunk sh cs n).length = n ∧ (chunk sh cs n).flatMap V.cells = cs.take (n * shN sh) ∧ ∀ x ∈ chunk sh cs n, x.cells.length = shN sh
  | 0, cs, _, _, _ => by simp [chunk]
  | n + 1, cs, h, hp, hs => by
    have h1 : n * shN sh ≤ (cs.drop (shN sh)).length := by rw [Nat.succ_mul] at h; simp; omega
    obtain ⟨i1, i2, i3⟩ := chunk_spec n (cs.drop (shN sh)) h1 hp (fun y hy => hs y (List.mem_of_mem_drop hy))
    rw [Nat.succ_mul] at h ⊢
    have hlen : shN sh ≤ cs.length := by omega
    have split2 : cs.take (n * shN sh + shN sh) = cs.take (shN sh) ++ (cs.drop (shN sh)).take (n * shN sh) := by
      rw [Nat.add_comm, List.take_add]
    cases sh with
    | none =>
      rcases cs with _ | ⟨c, cs⟩
      · simp [shN] at hlen
      have hc := scal_cells (hs c (by simp))
      simp only [shN] at i1 i2 i3 split2 ⊢
      refine ⟨by simp only [chunk, List.length_cons, shN]; rw [i1], ?_, ?_⟩
      · simp only [chunk, List.flatMap_cons, List.headD_cons, shN, hc, i2, split2]
        simp
      · intro x hx
        simp only [chunk, List.headD_cons, shN, List.mem_cons] at hx
        rcases hx with rfl | hx
        · rw [hc]; rfl
        · exact i3 x hx
    | some m =>
      simp only [shN] at i1 i2 i3 split2 hlen ⊢
      refine ⟨by simp only [chunk, List.length_cons, shN]; rw [i1], ?_, ?_⟩
      · simp only [chunk, List.flatMap_cons, shN, V.cells, i2, split2]
      · intro x hx
        simp only [chunk, shN, List.mem_cons] at hx
        rcases hx with rfl | hx
        · simp [V.cells]; omega
        · exact i3 x hx

/-- A slice's object is given up: its cells stay from now on, and its elements are a list. -/
theorem Sim.freeze (hS : Sim F g H s mine e tmps at_) {l off n c : Nat} {cs : List V} {sh : Sh} {v : Value} (hx : Enc F.X.nm g H (.sli l off n c) v) (hl : s l = some (.cells cs)) (hb : off + n * shN sh ≤ cs.length) (hp : 0 < shN sh) (hnc : n ≤ c) :
    ∃ g', Sim F g' H (s.set l .dead) mine e tmps at_ ∧ Enc F.X.nm g' H (.lst (chunk sh (cs.drop off) n) .any) v ∧ g.Le g' := by
  obtain ⟨b, rfl, hβ⟩ := hx.of_sli
  obtain ⟨b', hβ', ⟨⟨cc, el, q2, q3⟩, qs⟩, hk1, hm1⟩ := hS.rel.obj l _ hl rfl
  obtain rfl := Option.some.inj (hβ'.symm.trans hβ)
  obtain ⟨k1, k2⟩ := hS.rel.kill hl
  have hfree := hS.rel.free_of_kill hl rfl hβ'
  have hS1 := hS.heap k1 k2 fun _ _ => rfl
  have hcell : ∀ j, cellH H b' j = cc[j]? := fun j => by simp [cellH, q2]
  have hS2 := hS1.newZ (n := cc.size) hfree (fun j hj => by rw [hcell]; exact ⟨cc[j], by simp [hj]⟩)
  have hscal : ∀ y ∈ cs.drop off, y.scal = true := fun y hy => qs y (List.mem_of_mem_drop hy)
  obtain ⟨c1, c2, c3⟩ := chunk_spec (sh := sh) n (cs.drop off) (by simp; omega) hp hscal
  have hle := Gh.le_withZ (g := g) (b0 := b') (lo := 0) (hi := cc.size)
  refine ⟨_, hS2, ?_, hle⟩
  have hfl : ((chunk sh (cs.drop off) n).flatMap V.cells).length = n * shN sh := by rw [c2]; simp; omega
  have hlst : Enc F.X.nm (g.withZ b' 0 cc.size) H (.lst (chunk sh (cs.drop off) n) .any) (.slice (some ⟨b', off, none⟩) (chunk sh (cs.drop off) n).length c) := by
    refine .lst (base := off) (sz := shN sh) c3 (vs := fun j => cc.getD (off + j) Go.undef) ?_ ?_ ?_ trivial (by rw [c1]; exact hnc)
    · intro j hj
      have : off + j < cc.size := by rw [← q3.1]; omega
      rw [hcell]
      simp [Array.getD, this]
    · intro j hj
      exact .inr ⟨rfl, by omega, by rw [← q3.1]; omega⟩
    · intro j y hy
      rw [c2, List.getElem?_take] at hy
      split at hy
      · rw [List.getElem?_drop] at hy
        exact (q3.2 _ y hy).mono hle (.refl _ _)
      · cases hy
  rw [c1] at hlst
  exact hlst

/-- A slot's, or a promoted variable's, value is told anew: its cells as they are. -/
theorem Sim.retell (hS : Sim F g H s mine e tmps at_) {d : Nat} {x : V} (hp : F.h.prom.contains d = false) (hx : Enc F.X.nm g H x (tmps.getD d Go.undef)) (hat : ∀ y ∈ at', y ∈ at_ ∧ y.1 ≠ d) : Sim F g H s mine (e.set d x) tmps at' := by
  have hpd : ∀ p, F.h.prom.contains p = true → p ≠ d := by rintro p h rfl; rw [hp] at h; cases h
  have own : ∀ t, Own F.h F.wr (e.set d x) at' t → t ≠ d ∧ Own F.h F.wr e at_ t := by
    rintro t (⟨h1, h2, h3⟩ | ⟨h1, h2⟩)
    · have := hpd t h1
      rw [Env.set_other this] at h3
      exact ⟨this, .inl ⟨h1, h2, h3⟩⟩
    · have := (hat _ h1).2
      simp only at this
      rw [Env.set_other this] at h2
      exact ⟨this, .inr ⟨(hat _ h1).1, h2⟩⟩
  refine { rel := hS.rel, evo := hS.evo, slots := ?_, inj := fun t t' b h1 h2 => hS.inj t t' b (own t h1).2 (own t' h2).2, adr := ?_, pnd := ?_, size := hS.size, dfs := hS.dfs }
  · intro t
    by_cases e1 : t = d
    · subst e1
      rw [SlotOk.val hp, Env.set_same]
      exact hx
    · exact (hS.slots t).congr (Env.set_other e1) rfl
  · intro q p off h1 h2
    have n1 := (hat _ h1).2
    simp only at n1
    rw [Env.set_other n1] at h2
    obtain ⟨a1, a2, a3, b, a4, a5⟩ := hS.adr q p off (hat _ h1).1 h2
    exact ⟨a1, a2, by rw [Env.set_other (hpd p a1)]; exact a3, b, a4, a5⟩
  · intro p n h1 h2
    have n1 := (hat _ h1).2
    simp only at n1
    rw [Env.set_other n1] at h2
    exact hS.pnd p n (hat _ h1).1 h2
theorem Sim.retellP (hS : Sim F g H s mine e tmps at_) {p : Nat} {x : V} (hp : F.h.prom.contains p = true) (hu : e p ≠ .undef) (hx : ∀ b c el, blk tmps p = some b → H[b]? = some (.cells c el (0, 0)) → EncL F.X.nm g H (e p).cells c → EncL F.X.nm g H x.cells c) (hf : ∃ sh, x.fits sh = true) : Sim F g H s mine (e.set p x) tmps [] := by
  have hun : x ≠ .undef := by
    rintro rfl
    obtain ⟨sh, hsh⟩ := hf
    cases sh <;> simp [V.fits, V.scal] at hsh
  have own : ∀ t, Own F.h F.wr (e.set p x) [] t → Own F.h F.wr e at_ t := by
    rintro t (⟨h1, h2, h3⟩ | ⟨h1, n, h2⟩)
    · by_cases e1 : t = p
      · subst e1; exact .inl ⟨h1, h2, hu⟩
      · rw [Env.set_other e1] at h3; exact .inl ⟨h1, h2, h3⟩
    · cases h1
  refine { rel := hS.rel, evo := hS.evo, slots := ?_, inj := fun t t' b h1 h2 => hS.inj t t' b (own t h1) (own t' h2), adr := (by intro q p off h1; cases h1), pnd := (by intro p n h1; cases h1), size := hS.size, dfs := hS.dfs }
  intro t
  by_cases e1 : t = p
  · subst e1
    have h0 := (SlotOk.prom hp).1 (hS.slots t)
    rw [SlotOk.prom hp, Env.set_same]
    rcases h0 with h0 | ⟨b, c, el, q1, q2, q3, q4, q5⟩
    · exact absurd h0 hu
    · exact .inr ⟨b, c, el, q1, q2, hx b c el q1 q2 q3, hf, q5⟩
  · exact (hS.slots t).congr (Env.set_other e1) rfl

theorem sim_frz {d sz : Nat} {sh : Sh} (hS : Sim F g H s mine e tmps []) (hp : F.h.prom.contains d = false) (hpos : 0 < shN sh) (hw : wpO C (.frz d sz sh) e s K) : ∃ e' s' g', K e' s' ∧ Sim F g' H s' mine e' tmps [] := by
  have hx := (SlotOk.val hp).1 (hS.slots d)
  simp only [wpO] at hw
  split at hw
  · rename_i xs c hd
    refine ⟨_, s, g, hw, hS.retell hp (by rw [← hd]; exact hx) (by simp)⟩
  · rename_i l off n c hd
    obtain ⟨rfl, hnc, hw⟩ := hw
    split at hw
    · rename_i cs hl
      obtain ⟨hb, hK⟩ := hw
      rw [hd] at hx
      obtain ⟨g', h1, h2, _⟩ := hS.freeze hx hl hb hpos hnc
      exact ⟨_, _, g', hK, h1.retell hp h2 (by simp)⟩
    · exact hw.elim
  · exact hw.elim
theorem sim_lfrz {p off sz : Nat} {sh : Sh} (hS : Sim F g H s mine e tmps []) (hp : F.h.prom.contains p = true) (hpos : 0 < shN sh) (hw : wpO C (.lfrz p off sz sh) e s K) : ∃ e' s' g', K e' s' ∧ Sim F g' H s' mine e' tmps [] := by
  simp only [wpO] at hw
  split at hw
  · rename_i ps hps
    split at hw
    · exact ⟨_, _, _, hw, hS⟩
    · rename_i l o n c hoff
      obtain ⟨rfl, hnc, hw⟩ := hw
      split at hw
      · rename_i cs hl
        obtain ⟨hb, hK⟩ := hw
        have hu : e p ≠ .undef := by rw [hps]; simp
        rcases (SlotOk.prom hp).1 (hS.slots p) with h0 | ⟨b, cc, el, q1, q2, q3, q4, q5⟩
        · exact absurd h0 hu
        · rw [hps] at q3 q4
          obtain ⟨v, v1, v2⟩ := q3.get hoff
          obtain ⟨g', h1, h2, h3⟩ := hS.freeze v2 hl hb hpos hnc
          refine ⟨_, _, g', hK, h1.retellP hp hu (fun b' c el' p1 p2 hc => ?_) ?_⟩
          · rw [hps] at hc
            obtain rfl := Option.some.inj (q1.symm.trans p1)
            obtain ⟨rfl, rfl⟩ : cc = c ∧ el = el' := by simpa using q2.symm.trans p2
            have hcc : ∀ j x, (ps.set off (.lst (chunk sh (cs.drop o) n) .any))[j]? = some x → Enc F.X.nm g' H x (cc.getD j Go.undef) := by
              intro j x hx
              rw [List.getElem?_set] at hx
              by_cases hj : off = j
              · subst hj
                rw [if_pos rfl] at hx
                split at hx
                · cases hx
                  have : cc.getD off Go.undef = v := by rw [Array.getD_eq_getD_getElem?, v1]; rfl
                  rw [this]
                  exact h2
                · cases hx
              · rw [if_neg hj] at hx
                exact hc.2 j x hx
            exact ⟨by have := hc.1; simp [V.cells] at this ⊢; exact this, hcc⟩
          · obtain ⟨sh', q4⟩ := q4
            cases sh' with
            | none => simp [V.fits, V.scal] at q4
            | some m =>
              refine ⟨some m, ?_⟩
              simp only [V.fits, Bool.and_eq_true, beq_iff_eq, List.all_eq_true] at q4 ⊢
              refine ⟨by simpa using q4.1, fun y hy => ?_⟩
              rcases List.mem_or_eq_of_mem_set hy with h | h
              · exact q4.2 y h
              · subst h; rfl
      · exact hw.elim
    · exact hw.elim
  · exact hw.elim
end
end Go.Hu

set_option linter.unusedSimpArgs false
set_option linter.unusedVariables false
namespace Go.Hu
section
variable {F : Fix} {g : Gh} {w : World} {s : St} {mine : Nat → Prop} {e : Env} {tmps : Array Value} {at_ at' : AT} {o : Oper} {K : Env → St → Prop} {ops : Array Oper} {tab tab' : Tab} {po : Op} {C : CP} {gd : Option (Nat × Bool)}


theorem any_bytes {X : Ctx} {el : TypeId} (h : ((X.P.info? el).map (·.bytes)).any (· ≤ 4096) = true) : ∃ i, X.P.info? el = some i ∧ i.bytes ≤ 4096 := by
  obtain ⟨n, h1, h2⟩ := (Option.any_eq_true _ _).1 h
  obtain ⟨i, hi, rfl⟩ := Option.map_eq_some_iff.1 h1
  exact ⟨i, hi, by simpa using h2⟩

theorem sim_builtin {c : Go.Call} {b : Builtin} (hS : Sim F g w.heap s mine e tmps at_) (ho : o.op = .call c) (hcal : c.callee = .builtin b) (hc : compileOp F.X F.h ops tab o = some (po, tab')) (hdst : po.dst = o.dst) (hlt : ∀ d ∈ po.wr, d < F.nt) (hw : wpO C po e s K) :
    Done F o K w tmps (AT.step at_ ⟨po, gd⟩) := by
  obtain ⟨callee, args, argTypes⟩ := c
  simp only at hcal
  subst hcal
  unfold compileOp at hc
  rw [ho] at hc
  simp only [Option.bind_eq_bind, Option.bind_eq_some_iff] at hc
  obtain ⟨t, ht, desc, hu, hc⟩ := hc
  split at hc
  · exact sim_len hS ho rfl ht hu hc hlt hw
  · rename_i kt el
    simp only [Option.bind_eq_some_iff] at hc
    obtain ⟨xs, hxs, hc⟩ := hc
    split at hc
    · simp only [Option.bind_eq_some_iff, Option.some.injEq] at hc
      obtain ⟨d, hd, hc⟩ := hc
      cases hc
      obtain ⟨h1, h2, _⟩ := cdst_inv hd
      exact sim_mlen hS ho rfl ht hu hxs h1 h2 (hlt d (by simp [Op.wr])) hw
    · cases hc
  · exact sim_cap hS ho rfl ht hu hc hlt hw
  · exact sim_max hS ho rfl hc hlt hw
  · exact sim_min hS ho rfl hc hlt hw
  · rename_i el
    simp only [Option.bind_eq_some_iff] at hc
    obtain ⟨z, hz, sh, hsh, hc⟩ := hc
    split at hc
    · cases hc
    · rename_i hchk
      simp only [Bool.or_eq_true, Bool.not_eq_true', not_or, Bool.not_eq_false] at hchk
      simp only [Option.bind_eq_some_iff] at hc
      obtain ⟨xs, hxs, hc⟩ := hc
      split at hc
      · rename_i hx e'
        obtain ⟨tx, htx, hux⟩ := Option.bind_eq_some_iff.1 e'
        split at hc
        · simp only [Option.bind_eq_some_iff, Option.some.injEq] at hc
          obtain ⟨d, hd, hc⟩ := hc
          cases hc
          obtain ⟨h1, h2, _⟩ := cdst_inv hd
          exact sim_append hS ho rfl ht htx hu hux hz hsh hchk.1 (any_bytes hchk.2) hxs rfl h1 h2 (hlt d (by simp [Op.wr])) hw
        · cases hc
      · rename_i hx
        obtain ⟨tx, htx, hux⟩ := Option.bind_eq_some_iff.1 hx
        simp only [Option.bind_eq_some_iff, Option.some.injEq] at hc
        obtain ⟨d, hd, hc⟩ := hc
        cases hc
        obtain ⟨h1, h2, _⟩ := cdst_inv hd
        exact sim_appendZ hS ho rfl ht htx hu hux hz hsh hchk.1 (any_bytes hchk.2) hxs h1 h2 (hlt d (by simp [Op.wr])) hw
      · cases hc
  · rename_i el
    simp only [Option.bind_eq_some_iff] at hc
    obtain ⟨xs, hxs, hc⟩ := hc
    split at hc
    · split at hc
      · simp only [Option.bind_eq_some_iff, Option.some.injEq] at hc
        obtain ⟨d, hd, sh, hsh, hc⟩ := hc
        cases hc
        obtain ⟨h1, h2, _⟩ := cdst_inv hd
        exact sim_copy hS ho rfl ht hu hsh hxs h1 h2 (hlt d (by simp [Op.wr])) hw
      · cases hc
    · cases hc
  · rename_i el
    simp only [Option.bind_eq_some_iff] at hc
    obtain ⟨z, hz, sh, hsh, hc⟩ := hc
    split at hc
    · cases hc
    · rename_i hchk
      simp only [Option.bind_eq_some_iff] at hc
      obtain ⟨xs, hxs, hc⟩ := hc
      split at hc
      · rename_i hod
        cases hc
        exact sim_clear hS ho rfl ht hu hz hsh (by simpa using hchk) hxs hod hw
      · cases hc
  · cases hc

theorem sim_op (hS : Sim F g w.heap s mine e tmps at_) (hc : compileOp F.X F.h ops tab o = some (po, tab')) (hdst : po.dst = o.dst) (hlt : ∀ d ∈ po.wr, d < F.nt) (hn : AT.needs at_ po = true) (hwr : ∀ p ∈ po.pw, F.wr p = true) (hw : wpO C po e s K) (hcall : po.isCall = false) :
    Done F o K w tmps (AT.step at_ ⟨po, gd⟩) := by
  have none : ∀ {r : Option (Op × Tab)}, compileOp F.X F.h ops tab o = r → r = .none → False := by
    intro r h1 h2
    rw [h1, h2] at hc
    cases hc
  cases ho : o.op with
  | move x => exact sim_move hS (.inl ho) hc hlt hw
  | assign x => exact sim_move hS (.inr ho) hc hlt hw
  | pick c a b => exact sim_pick hS ho hc hlt hw
  | alloc t => exact sim_alloc hS ho hc hlt hwr hw
  | box t x => exact sim_box hS ho hc hlt hwr hw
  | build t ps => exact sim_build hS ho hc hlt hw
  | buildSlice t n ps => exact sim_buildSlice hS ho hc hlt hw
  | insert t m k x => exact sim_mapset hS (.inr ho) hc hdst hlt hw
  | mapUpdate t m k x => exact sim_mapset hS (.inl ho) hc hdst hlt hw
  | load t a => exact sim_load hS ho hc hlt hn hw
  | store t a x => exact sim_store hS ho hc hdst hlt hn hwr hw
  | binOp op t x y ty => exact sim_binOp hS ho hc hlt hw
  | unOp u t x => exact sim_unOp hS ho hc hlt hw
  | makeInterface t x => exact sim_makeInterface hS ho hc hlt hw
  | makeFunc f a b => exact sim_makeFunc hS ho hc hlt hw
  | makeMap t r => exact sim_makeMap hS ho hc hlt hw
  | makeSlice t a b => exact sim_makeSlice hS ho hc hlt hw
  | slice t x a b c => exact sim_slice hS ho hc hlt hw
  | fieldAddr t x f => exact sim_fieldAddr hS ho hc hlt hn hw
  | field t x f => exact sim_field hS ho hc hlt hw
  | indexAddr t x i => exact sim_indexAddr hS ho hc hlt hn hw
  | index t x i => exact sim_index hS ho hc hlt hw
  | lookup t m k ok => exact sim_lookup hS ho hc hlt hw
  | range t x => exact sim_range hS ho hc hlt hw
  | next it q => exact sim_next hS ho hc hlt hw
  | entry it => exact sim_entry hS ho hc hlt hw
  | extract x i => exact sim_extract hS ho hc hlt hw
  | panic x =>
    unfold compileOp at hc
    rw [ho] at hc
    cases hc
    exact hw.elim
  | call c =>
    cases hcal : c.callee with
    | builtin b => exact sim_builtin hS ho hcal hc hdst hlt hw
    | invoke r m =>
      obtain ⟨callee, args, argTypes⟩ := c
      simp only at hcal
      subst hcal
      unfold compileOp at hc
      rw [ho] at hc
      cases hc
    | value f =>
      obtain ⟨callee, args, argTypes⟩ := c
      simp only at hcal
      subst hcal
      unfold compileOp at hc
      rw [ho] at hc
      simp only at hc
      by_cases hov : ovlF F.X f = true
      · rw [if_pos hov] at hc
        cases f <;> first | (simp [ovlF] at hov; done) | skip
        simp only [Option.bind_eq_bind, Option.bind_eq_some_iff] at hc
        obtain ⟨xs, hxs, hc⟩ := hc
        split at hc
        · simp only [Option.bind_eq_some_iff, Option.some.injEq] at hc
          obtain ⟨d, hd, hc⟩ := hc
          cases hc
          obtain ⟨h1, h2, _⟩ := cdst_inv hd
          exact sim_ovl hS ho rfl hov hxs h1 h2 (hlt d (by simp [Op.wr])) hw
        · cases hc
      · rw [if_neg hov] at hc
        split at hc
        · simp only [Option.bind_eq_bind, Option.bind_eq_some_iff, Option.some.injEq] at hc
          obtain ⟨_, _, _, _, _, _, hc⟩ := hc
          cases hc
          simp [Op.isCall] at hcall
        · simp only [Option.bind_eq_bind, Option.bind_eq_some_iff, Option.some.injEq] at hc
          obtain ⟨_, _, _, _, hc⟩ := hc
          cases hc
          simp [Op.isCall] at hcall
  | _ =>
    exfalso
    unfold compileOp at hc
    rw [ho] at hc
    cases hc
end
end Go.Hu

set_option linter.unusedSimpArgs false
set_option linter.unusedVariables false
namespace Go.Hu

/-- Only so many places are taken. -/
def Few (s : St) : Prop := ∃ N, ∀ l, N ≤ l → s l = none
theorem Few.set {s : St} {l : Nat} {o : PObj} (h : Few s) : Few (s.set l o) := by
  obtain ⟨N, hN⟩ := h
  refine ⟨max N (l + 1), fun l' hl => ?_⟩
  have : l' ≠ l := by omega
  simp only [St.set, this, if_false]
  exact hN l' (by omega)

/-- What is asked of what calls come to. -/
structure Good (C : CP) : Prop where
  mono : C.Mono
  few : ∀ f a s Q, Few s → C f a s Q → C f a s (fun v s' => Few s' ∧ Q v s')
  strict : ∀ f a s, Few s → ¬ C f a s (fun _ _ => False)

section
variable {C : CP} {e : Env} {s : St} {K : Env → St → Prop} {d : Nat} {v : V}

theorem ev_set {x : Opd} (h : d ∉ x.reads) : ev (e.set d v) x = ev e x := by
  cases x with
  | t n => simp only [Opd.reads, List.mem_singleton] at h; simp only [ev, Env.set]; rw [if_neg (fun h' => h h'.symm)]
  | c v => rfl
theorem get_set {p : Nat} (h : d ≠ p) : (e.set d v) p = e p := by simp only [Env.set]; rw [if_neg (fun h' => h h'.symm)]
theorem set_set {q : Nat} {y : V} (h : d ≠ q) : (e.set d v).set q y = (e.set q y).set d v := by
  funext t
  simp only [Env.set]
  by_cases h1 : t = q
  · subst h1; rw [if_pos rfl, if_neg (fun h' => h h'.symm), if_pos rfl]
  · simp [h1]
theorem map_set {xs : List Opd} (h : d ∉ xs.flatMap Opd.reads) : xs.map (ev (e.set d v)) = xs.map (ev e) := by
  apply List.map_congr_left
  intro x hx
  exact ev_set fun h' => h (List.mem_flatMap.2 ⟨x, hx, h'⟩)
theorem mapE_set {xs : List Opd} {th : Bool} (h : d ∉ xs.flatMap Opd.reads) : xs.map (fun a => pass th (ev (e.set d v) a)) = xs.map (fun a => pass th (ev e a)) := by
  apply List.map_congr_left
  intro x hx
  rw [ev_set fun h' => h (List.mem_flatMap.2 ⟨x, hx, h'⟩)]
theorem off_set {q : Option Nat} (h : d ∉ q.toList) : offAt (e.set d v) q = offAt e q := by
  cases q with
  | none => rfl
  | some q => simp only [Option.toList, List.mem_singleton] at h; simp only [offAt, get_set h]

theorem wpO_frame {o : Op} (hr : d ∉ o.reads) (hw : d ∉ o.wr) : wpO C o (e.set d v) s K ↔ wpO C o e s (fun e' s' => K (e'.set d v) s') := by
  cases o <;> simp only [Op.reads, Op.wr, List.mem_append, List.mem_cons, List.mem_singleton, List.not_mem_nil, not_or, not_false_eq_true, or_false, and_true, ← ne_eq] at hr hw
  case p d' o xs => simp only [wpO, map_set hr, set_set hw]
  case la d' p q off => simp only [wpO, get_set hr.1, off_set hr.2, set_set hw]
  case lia d' p q len sz i => simp only [wpO, get_set hr.1, off_set hr.2.1, ev_set hr.2.2, set_set hw]
  case lput p sh x => simp only [wpO, ev_set hr, set_set hw]
  case lset p sh x => simp only [wpO, get_set hr.1, ev_set hr.2, set_set hw]
  case lwhole d' p sh => simp only [wpO, get_set hr, set_set hw]
  case lload d' p q sh => simp only [wpO, get_set hr.1, get_set hr.2, set_set hw]
  case lstore p q sh x => simp only [wpO, get_set hr.1, get_set hr.2.1, ev_set hr.2.2, set_set hw]
  case pend p sh => simp only [wpO, set_set hw]
  case rbox p sh x => simp only [wpO, ev_set hr, set_set hw]
  case rinit p sh x => simp only [wpO, get_set hr.1, ev_set hr.2, set_set hw]
  case hbox p sh x => simp only [wpO, ev_set hr, set_set hw]
  case hinit p sh x => simp only [wpO, get_set hr.1, ev_set hr.2, set_set hw]
  case load d' sh x => simp only [wpO, ev_set hr, set_set hw]
  case store sh x v' => simp only [wpO, ev_set hr.1, ev_set hr.2]
  case mkmap d' => simp only [wpO, set_set hw]
  case mkslice d' z sz n c => simp only [wpO, ev_set hr.1, ev_set hr.2, set_set hw]
  case lookup d' z ok ks m k => simp only [wpO, ev_set hr.1, ev_set hr.2, set_set hw]
  case mapset ks m k x sh => simp only [wpO, ev_set hr.1.1, ev_set hr.1.2, ev_set hr.2]
  case range d' m => simp only [wpO, ev_set hr, set_set hw]
  case next d' it => simp only [wpO, ev_set hr, set_set hw]
  case entry d' it => simp only [wpO, ev_set hr, set_set hw]
  case mlen d' m => simp only [wpO, ev_set hr, set_set hw]
  case isnil d' n x => simp only [wpO, ev_set hr, set_set hw]
  case litM d' z len is sh xs => simp only [wpO, map_set hr, set_set hw]
  case append d' sz z mt a b => simp only [wpO, ev_set hr.1, ev_set hr.2, set_set hw]
  case appendZ d' sz z a b => simp only [wpO, ev_set hr.1, ev_set hr.2, set_set hw]
  case copy d' sz a b => simp only [wpO, ev_set hr.1, ev_set hr.2, set_set hw]
  case clear sz z a => simp only [wpO, ev_set hr]
  case ovl d' a b => simp only [wpO, ev_set hr.1, ev_set hr.2, set_set hw]
  case frz d' sz sh => simp only [wpO, get_set hr, set_set hw]
  case lfrz p off sz sh => simp only [wpO, get_set hr, set_set hw]
  case call d' q f args =>
    have hO : ∀ y, (e.set d v).setO d' y = (e.setO d' y).set d v := fun y => by
      cases d' with
      | none => rfl
      | some d' => exact set_set (by simpa using hw)
    simp only [wpO, ev_set hr.1, mapE_set hr.2, hO]
  case fail => simp only [wpO]
theorem wpO_few (hg : Good C) {o : Op} (hf : Few s) (h : wpO C o e s K) : wpO C o e s (fun e' s' => (Few s' ∧ Agree o.wr e e') ∧ K e' s') := by
  have hK : ∀ e' s', K e' s' → Agree o.wr e e' → Few s' → (Few s' ∧ Agree o.wr e e') ∧ K e' s' := fun e' s' h ha h' => ⟨⟨h', ha⟩, h⟩
  cases o with
  | p d o xs => simp only [wpO] at h ⊢; split at h <;> first | exact hK _ _ h (Agree.set _ _ _) (by first | exact hf | exact hf.set | exact hf.set.set) | exact h.elim
  | la d q r off =>
    simp only [wpO] at h ⊢
    split at h
    · exact hK _ _ h (Agree.set _ _ _) (by first | exact hf | exact hf.set | exact hf.set.set)
    · exact h.elim
  | lia d q r len sz i =>
    simp only [wpO] at h ⊢
    split at h
    · exact ⟨h.1, h.2.1, hK _ _ h.2.2 (Agree.set _ _ _) (by first | exact hf | exact hf.set | exact hf.set.set)⟩
    · exact h.elim
  | lput p sh x => exact ⟨h.1, hK _ _ h.2 (Agree.set _ _ _) (by first | exact hf | exact hf.set | exact hf.set.set)⟩
  | lset p sh x => exact ⟨h.1, h.2.1, hK _ _ h.2.2 (Agree.set _ _ _) (by first | exact hf | exact hf.set | exact hf.set.set)⟩
  | lwhole d p sh => exact ⟨h.1, hK _ _ h.2 (Agree.set _ _ _) (by first | exact hf | exact hf.set | exact hf.set.set)⟩
  | lload d p q sh =>
    simp only [wpO] at h ⊢
    split at h
    · split at h
      · exact hK _ _ h (Agree.set _ _ _) (by first | exact hf | exact hf.set | exact hf.set.set)
      · exact h.elim
    · exact h.elim
  | lstore p q sh x =>
    simp only [wpO] at h ⊢
    split at h
    · refine ⟨h.1, ?_⟩
      have h := h.2
      split at h
      · split at h
        · exact hK _ _ h (Agree.set _ _ _) (by first | exact hf | exact hf.set | exact hf.set.set)
        · exact h.elim
      · exact h.elim
    · exact h.elim
  | pend p sh => exact hK _ _ h (Agree.set _ _ _) (by first | exact hf | exact hf.set | exact hf.set.set)
  | rbox p sh x => exact ⟨h.1, hK _ _ h.2 (Agree.set _ _ _) (by first | exact hf | exact hf.set | exact hf.set.set)⟩
  | rinit p sh x => exact ⟨h.1, h.2.1, hK _ _ h.2.2 (Agree.set _ _ _) (by first | exact hf | exact hf.set | exact hf.set.set)⟩
  | hbox p sh x => exact ⟨h.1, fun l hl => hK _ _ (h.2 l hl) (Agree.set _ _ _) (by first | exact hf | exact hf.set | exact hf.set.set)⟩
  | hinit p sh x => exact ⟨h.1, h.2.1, fun l hl => hK _ _ (h.2.2 l hl) (Agree.set _ _ _) (by first | exact hf | exact hf.set | exact hf.set.set)⟩
  | load d sh x =>
    simp only [wpO] at h ⊢
    split at h
    · split at h
      · exact hK _ _ h (Agree.set _ _ _) (by first | exact hf | exact hf.set | exact hf.set.set)
      · exact h.elim
    · split at h
      · split at h
        · exact hK _ _ h (Agree.set _ _ _) (by first | exact hf | exact hf.set | exact hf.set.set)
        · exact h.elim
      · exact h.elim
    · exact h.elim
  | store sh x v =>
    simp only [wpO] at h ⊢
    split at h
    · split at h
      · refine ⟨h.1, ?_⟩
        have h := h.2
        split at h
        · exact hK _ _ h (Agree.refl _ _) (by first | exact hf | exact hf.set | exact hf.set.set)
        · exact h.elim
      · exact h.elim
    · exact h.elim
  | mkmap d => exact fun l hl => hK _ _ (h l hl) (Agree.set _ _ _) (by first | exact hf | exact hf.set | exact hf.set.set)
  | mkslice d zero sz n c =>
    simp only [wpO] at h ⊢
    split at h
    · exact ⟨h.1, h.2.1, h.2.2.1, h.2.2.2.1, fun l hl => hK _ _ (h.2.2.2.2 l hl) (Agree.set _ _ _) (by first | exact hf | exact hf.set | exact hf.set.set)⟩
    · exact h.elim
  | lookup d zero ok n m k =>
    simp only [wpO] at h ⊢
    refine ⟨h.1, ?_⟩
    have h := h.2
    split at h
    · exact hK _ _ h (Agree.set _ _ _) (by first | exact hf | exact hf.set | exact hf.set.set)
    · split at h
      · split at h
        · split at h
          · exact hK _ _ h (Agree.set _ _ _) (by first | exact hf | exact hf.set | exact hf.set.set)
          · exact h.elim
        · exact hK _ _ h (Agree.set _ _ _) (by first | exact hf | exact hf.set | exact hf.set.set)
        · exact h.elim
      · exact h.elim
    · exact h.elim
  | mapset n m k v sh =>
    simp only [wpO] at h ⊢
    refine ⟨h.1, h.2.1, ?_⟩
    have h := h.2.2
    split at h
    · split at h
      · split at h
        · exact hK _ _ h (Agree.refl _ _) (by first | exact hf | exact hf.set | exact hf.set.set)
        · exact hK _ _ h (Agree.refl _ _) (by first | exact hf | exact hf.set | exact hf.set.set)
        · exact h.elim
      · exact h.elim
    · exact h.elim
  | range d m =>
    simp only [wpO] at h ⊢
    split at h
    · exact fun l hl => hK _ _ (h l hl) (Agree.set _ _ _) (by first | exact hf | exact hf.set | exact hf.set.set)
    · split at h
      · exact fun l hl => hK _ _ (h l hl) (Agree.set _ _ _) (by first | exact hf | exact hf.set | exact hf.set.set)
      · exact h.elim
    · exact h.elim
  | next d it =>
    simp only [wpO] at h ⊢
    split at h
    · split at h
      · exact hK _ _ h (Agree.set _ _ _) (by first | exact hf | exact hf.set | exact hf.set.set)
      · split at h
        · exact ⟨h.1, fun ha => hK _ _ (h.2.1 ha) (Agree.set _ _ _) (by first | exact hf | exact hf.set | exact hf.set.set), fun i x hx hi => hK _ _ (h.2.2 i x hx hi) (Agree.set _ _ _) (by first | exact hf | exact hf.set | exact hf.set.set)⟩
        · exact h.elim
      · exact h.elim
    · exact h.elim
  | entry d it =>
    simp only [wpO] at h ⊢
    split at h
    · split at h
      · split at h
        · refine ⟨h.1, ?_⟩
          have h := h.2
          split at h
          · split at h
            · exact hK _ _ h (Agree.set _ _ _) (by first | exact hf | exact hf.set | exact hf.set.set)
            · exact h.elim
          · exact h.elim
        · exact h.elim
      · exact h.elim
    · exact h.elim
  | mlen d m =>
    simp only [wpO] at h ⊢
    split at h
    · exact hK _ _ h (Agree.set _ _ _) (by first | exact hf | exact hf.set | exact hf.set.set)
    · split at h
      · exact hK _ _ h (Agree.set _ _ _) (by first | exact hf | exact hf.set | exact hf.set.set)
      · exact h.elim
    · exact h.elim
  | isnil d neg x =>
    simp only [wpO] at h ⊢
    split at h
    · exact fun b => hK _ _ (h b) (Agree.set _ _ _) (by first | exact hf | exact hf.set | exact hf.set.set)
    · exact hK _ _ h (Agree.set _ _ _) (by first | exact hf | exact hf.set | exact hf.set.set)
    · exact h.elim
  | litM d zero len is sh xs =>
    simp only [wpO] at h ⊢
    split at h
    · exact ⟨h.1, fun l hl => hK _ _ (h.2 l hl) (Agree.set _ _ _) (by first | exact hf | exact hf.set | exact hf.set.set)⟩
    · exact h.elim
  | append d sz zero mt sl x =>
    simp only [wpO] at h ⊢
    refine ⟨h.1, ?_⟩
    have h := h.2
    split at h
    · split at h
      · refine ⟨h.1, h.2.1, h.2.2.1, h.2.2.2.1, ?_⟩
        have h := h.2.2.2.2
        split at h
        · rename_i hy; rw [if_pos hy]; exact hK _ _ h (Agree.set _ _ _) (by first | exact hf | exact hf.set | exact hf.set.set)
        · rename_i hy
          rw [if_neg hy]
          split at h
          · split at h
            · rename_i hm; rw [if_pos hm]; exact ⟨h.1, fun l c' hl hc => hK _ _ (h.2 l c' hl hc) (Agree.set _ _ _) (by first | exact hf | exact hf.set | exact hf.set.set)⟩
            · rename_i hm; rw [if_neg hm]; exact fun l hl => hK _ _ (h l hl) (Agree.set _ _ _) (by first | exact hf | exact hf.set | exact hf.set.set)
          · split at h
            · exact ⟨h.1, fun l hl => hK _ _ (h.2 l hl) (Agree.set _ _ _) (by first | exact hf | exact hf.set | exact hf.set.set)⟩
            · exact h.elim
          · exact h.elim
      · exact h.elim
    · refine ⟨h.1, ?_⟩
      have h := h.2
      split at h
      · refine ⟨h.1, h.2.1, ?_⟩
        have h := h.2.2
        split at h
        · rename_i hn
          rw [if_pos hn]
          split at h
          · exact hK _ _ h (Agree.set _ _ _) (by first | exact hf | exact hf.set | exact hf.set.set)
          · exact h.elim
        · rename_i hn
          rw [if_neg hn]
          exact fun l' c' hl hc => hK _ _ (h l' c' hl hc) (Agree.set _ _ _) (by first | exact hf | exact hf.set | exact hf.set.set)
      · exact h.elim
    · exact h.elim
  | appendZ d sz zero sl x =>
    simp only [wpO] at h ⊢
    refine ⟨h.1, ?_⟩
    have h := h.2
    split at h
    · refine ⟨h.1, ?_⟩
      have h := h.2
      split at h
      · refine ⟨h.1, h.2.1, ?_⟩
        have h := h.2.2
        split at h
        · rename_i hn
          rw [if_pos hn]
          split at h
          · exact hK _ _ h (Agree.set _ _ _) (by first | exact hf | exact hf.set | exact hf.set.set)
          · exact h.elim
        · rename_i hn
          rw [if_neg hn]
          exact fun l' c' hl hc => hK _ _ (h l' c' hl hc) (Agree.set _ _ _) (by first | exact hf | exact hf.set | exact hf.set.set)
      · exact h.elim
    · exact h.elim
  | copy d sz x y =>
    simp only [wpO] at h ⊢
    split at h
    · split at h
      · split at h
        · exact hK _ _ h (Agree.set _ _ _) (by first | exact hf | exact hf.set | exact hf.set.set)
        · exact h.elim
      · exact h.elim
    · exact h.elim
  | clear sz zero x =>
    simp only [wpO] at h ⊢
    refine ⟨h.1, ?_⟩
    have h := h.2
    split at h
    · split at h
      · split at h
        · exact hK _ _ h (Agree.refl _ _) (by first | exact hf | exact hf.set | exact hf.set.set)
        · exact h.elim
      · exact h.elim
    · exact h.elim
  | ovl d x y =>
    simp only [wpO] at h ⊢
    split at h
    · refine ⟨h.1, ?_⟩
      have h := h.2
      split at h
      · exact hK _ _ h (Agree.set _ _ _) (by first | exact hf | exact hf.set | exact hf.set.set)
      · exact h.elim
    · exact h.elim
  | frz d sz sh =>
    simp only [wpO] at h ⊢
    split at h
    · exact hK _ _ h (Agree.set _ _ _) (by first | exact hf | exact hf.set | exact hf.set.set)
    · refine ⟨h.1, h.2.1, ?_⟩
      have h := h.2.2
      split at h
      · exact ⟨h.1, hK _ _ h.2 (Agree.set _ _ _) (by first | exact hf | exact hf.set | exact hf.set.set)⟩
      · exact h.elim
    · exact h.elim
  | lfrz q off sz sh =>
    simp only [wpO] at h ⊢
    split at h
    · split at h
      · exact hK _ _ h (Agree.refl _ _) (by first | exact hf | exact hf.set | exact hf.set.set)
      · refine ⟨h.1, h.2.1, ?_⟩
        have h := h.2.2
        split at h
        · exact ⟨h.1, hK _ _ h.2 (Agree.set _ _ _) (by first | exact hf | exact hf.set | exact hf.set.set)⟩
        · exact h.elim
      · exact h.elim
    · exact h.elim
  | call d q f args =>
    have ha : ∀ v, Agree (Op.call d q f args).wr e (e.setO d v) := fun v => by cases d with | none => exact Agree.refl _ _ | some d => exact Agree.set _ _ _
    cases q with
    | true => obtain ⟨th, h⟩ := h; exact ⟨th, hg.mono _ _ _ _ _ (hg.few _ _ _ _ hf h) fun v s h => ⟨h.2.1, hK _ _ h.2.2 (ha v) h.1⟩⟩
    | false => obtain ⟨th, h⟩ := h; exact ⟨th, hg.mono _ _ _ _ _ (hg.few _ _ _ _ hf h) fun v s h => hK _ _ h.2 (ha v) h.1⟩
  | fail => exact h.elim


theorem wpO_strict (hg : Good C) {o : Op} (hf : Few s) : ¬ wpO C o e s (fun _ _ => False) := by
  intro h
  obtain ⟨N, hN⟩ := id hf
  have hl := hN N (Nat.le_refl _)
  cases o <;> simp only [wpO, and_false] at h
  case hbox => exact h.2 N hl
  case hinit => exact h.2.2 N hl
  case mkmap => exact h N hl
  case mkslice =>
    split at h
    · exact h.2.2.2.2 N hl
    · exact h
  case range =>
    split at h
    · exact h N hl
    · split at h
      · exact h N hl
      · exact h
    · exact h
  case next =>
    split at h
    · split at h
      · exact h
      · split at h
        · obtain ⟨h1, h2, h3⟩ := h
          refine h2 fun i hi => Classical.byContradiction fun hs => ?_
          rename_i es _
          rcases hx : es[i]? with _ | x
          · have := List.getElem?_eq_none_iff.1 hx; omega
          · exact h3 i x hx hs
        · exact h
      · exact h
    · exact h
  case isnil =>
    split at h
    · exact h true
    · exact h
    · exact h
  case litM =>
    split at h
    · exact h.2 N hl
    · exact h
  case append d sz zero mt sl x =>
    obtain ⟨_, h⟩ := h
    split at h
    · split at h
      · obtain ⟨_, _, _, _, h⟩ := h
        split at h
        · exact h
        · split at h
          · split at h
            · exact h.2 N _ hl (Nat.le_refl _)
            · exact h N hl
          · split at h
            · exact h.2 N hl
            · exact h
          · exact h
      · exact h
    · obtain ⟨_, h⟩ := h
      split at h
      · obtain ⟨_, _, h⟩ := h
        split at h
        · split at h
          · exact h
          · exact h
        · exact h N _ hl (Nat.le_refl _)
      · exact h
    · exact h
  case appendZ d sz zero sl x =>
    obtain ⟨_, h⟩ := h
    split at h
    · obtain ⟨_, h⟩ := h
      split at h
      · obtain ⟨_, _, h⟩ := h
        split at h
        · split at h
          · exact h
          · exact h
        · exact h N _ hl (Nat.le_refl _)
      · exact h
    · exact h
  case call d q f args =>
    cases q with
    | true => obtain ⟨th, h⟩ := h; exact hg.strict _ _ _ hf h
    | false => obtain ⟨th, h⟩ := h; exact hg.strict _ _ _ hf h
  all_goals ((repeat' split at h) <;> first | exact h | exact h.2 | exact h.2.2 | exact h.2.2.2 | skip)

/-! ## Instructions that write one slot and leave the state as it is -/
def _root_.Go.Hu.Cls.rd : Cls → Bool
  | .none | .readC | .readM => true
  | _ => false
def rdO : Op → Env → St → Option V
  | .p _ q xs, e, _ => pv q (xs.map (ev e))
  | .la _ p q off, e, _ => match e p, offAt e q with
    | .agg _, some n => some (.off (n + off))
    | _, _ => none
  | .lia _ p q len sz i, e, _ => match e p, offAt e q, ev e i with
    | .agg _, some n, .int i => if 0 ≤ i ∧ i < (len : Int) then some (.off (n + i.toNat * sz)) else none
    | _, _, _ => none
  | .lput _ sh x, e, _ => if (ev e x).fits sh = true then some (ev e x) else none
  | .lset p sh x, e, _ => if (e p).fits sh = true ∧ (ev e x).fits sh = true then some (ev e x) else none
  | .lwhole _ p sh, e, _ => if (e p).fits sh = true then some (e p) else none
  | .lload _ p q sh, e, _ => match e q with
    | .off o => takeAt sh (e p).cells o
    | _ => none
  | .lstore p q sh x, e, _ => match e q with
    | .off o => if (ev e x).fits sh = true then match e p with
        | .agg cs => (putAt cs o (ev e x).cells).map .agg
        | _ => none
      else none
    | _ => none
  | .pend _ sh, _, _ => some (.pend (shN sh))
  | .rbox _ sh x, e, _ => if (ev e x).fits sh = true then some (.rptr (ev e x).cells 0) else none
  | .rinit p sh x, e, _ => match e p with
    | .pend n => if n = shN sh ∧ (ev e x).fits sh = true then some (.rptr (ev e x).cells 0) else none
    | _ => none
  | .load _ sh x, e, s => match ev e x with
    | .rptr cs o => takeAt sh cs o
    | .ptr l o => match s l with
      | some (.cells cs) => takeAt sh cs o
      | _ => none
    | _ => none
  | .lookup _ zero ok ks m k, e, s => if keyOk ks (ev e k) = true then match ev e m with
      | .map none => some (if ok then .tup [zero, .bool false] else zero)
      | .map (some r) => match s r with
        | some (.map es) => match findK (ev e k) es with
          | some (some i) => (es[i]?).map fun x => if ok then .tup [x.2, .bool true] else x.2
          | some none => some (if ok then .tup [zero, .bool false] else zero)
          | none => none
        | _ => none
      | _ => none
    else none
  | .mlen _ m, e, s => match ev e m with
    | .map none => some (.int 0)
    | .map (some r) => match s r with
      | some (.map es) => some (.int es.length)
      | _ => none
    | _ => none
  | _, _, _ => none
/-- The slot that such an operation writes. -/
def at1 (o : Op) : Nat := o.wr.headD 0

theorem ex_some {α : Type} {x : Option α} {P : α → Prop} : (∃ v, x = some v ∧ P v) ↔ match x with | some v => P v | none => False := by
  cases x <;> simp
theorem rdO_spec {o : Op} (hc : o.cls.rd = true) : wpO C o e s K ↔ ∃ v, rdO o e s = some v ∧ K (e.set (at1 o) v) s := by
  cases o <;> first | (simp [Op.cls, Cls.rd] at hc; done) | skip
  case p d o xs =>
    simp only [wpO, rdO, at1, Op.wr, List.headD_cons]
    cases pv o (xs.map (ev e)) <;> simp
  case la d p q off =>
    simp only [wpO, rdO, at1, Op.wr, List.headD_cons]
    generalize e p = y
    generalize offAt e q = z
    cases y <;> cases z <;> simp
  case lia d p q len sz i =>
    simp only [wpO, rdO, at1, Op.wr, List.headD_cons]
    generalize e p = y
    generalize offAt e q = z
    generalize ev e i = u
    cases y <;> cases z <;> first | (simp; done) | skip
    rename_i cs n
    cases u <;> first | (simp; done) | skip
    rename_i j
    by_cases h : 0 ≤ j ∧ j < (len : Int)
    · simp [h]
    · simp only [h, if_false, reduceCtorEq, false_and, exists_false, iff_false]
      rintro ⟨h1, h2, _⟩
      exact h ⟨h1, h2⟩
  case lput p sh x =>
    simp only [wpO, rdO, at1, Op.wr, List.headD_cons]
    by_cases h : (ev e x).fits sh = true <;> simp [h]
  case lset p sh x =>
    simp only [wpO, rdO, at1, Op.wr, List.headD_cons]
    by_cases h : (e p).fits sh = true <;> by_cases h' : (ev e x).fits sh = true <;> simp [h, h']
  case lwhole d p sh =>
    simp only [wpO, rdO, at1, Op.wr, List.headD_cons]
    by_cases h : (e p).fits sh = true <;> simp [h]
  case lload d p q sh =>
    simp only [wpO, rdO, at1, Op.wr, List.headD_cons]
    generalize e q = y
    cases y <;> first | (simp; done) | skip
    simp only
    generalize takeAt sh (e p).cells _ = z
    cases z <;> simp
  case lstore p q sh x =>
    simp only [wpO, rdO, at1, Op.wr, List.headD_cons]
    generalize e q = y
    cases y <;> first | (simp; done) | skip
    rename_i o
    by_cases h : (ev e x).fits sh = true
    · simp only [h, if_true, true_and]
      generalize e p = z
      cases z <;> first | (simp; done) | skip
      rename_i cs
      cases hp : putAt cs o (ev e x).cells <;> simp [hp]
    · simp [h]
  case pend p sh => simp [wpO, rdO, at1, Op.wr]
  case rbox p sh x =>
    simp only [wpO, rdO, at1, Op.wr, List.headD_cons]
    by_cases h : (ev e x).fits sh = true <;> simp [h]
  case rinit p sh x =>
    simp only [wpO, rdO, at1, Op.wr, List.headD_cons]
    generalize e p = z
    cases z <;> first | (simp; done) | skip
    rename_i n
    by_cases h : n = shN sh <;> by_cases h' : (ev e x).fits sh = true <;> simp [h, h']
  case load d sh x =>
    simp only [wpO, rdO, at1, Op.wr, List.headD_cons]
    generalize ev e x = y
    cases y <;> first | (simp; done) | skip
    · rename_i l o
      simp only
      cases hs : s l with
      | none => simp
      | some ob =>
        cases ob <;> first | (simp; done) | skip
        simp only
        generalize takeAt sh _ _ = z
        cases z <;> simp
    · simp only
      generalize takeAt sh _ _ = z
      cases z <;> simp
  case lookup d zero ok ks m k =>
    simp only [wpO, rdO, at1, Op.wr, List.headD_cons]
    by_cases h : keyOk ks (ev e k) = true
    · simp only [h, if_true, true_and]
      generalize ev e m = y
      cases y <;> first | (simp; done) | skip
      rename_i r
      cases r with
      | none => simp
      | some r =>
        simp only
        cases hs : s r with
        | none => simp
        | some ob =>
          cases ob <;> first | (simp; done) | skip
          rename_i es
          simp only
          cases hf : findK (ev e k) es with
          | none => simp
          | some q => cases q with
            | none => simp
            | some i => simp only; cases hi : es[i]? <;> simp
    · simp [h]
  case mlen d m =>
    simp only [wpO, rdO, at1, Op.wr, List.headD_cons]
    generalize ev e m = y
    cases y <;> first | (simp; done) | skip
    rename_i r
    cases r with
    | none => simp
    | some r =>
      simp only
      cases hs : s r with
      | none => simp
      | some ob => cases ob <;> simp
  case append d sz z mt a b => cases mt <;> simp [Op.cls, Cls.rd] at hc

theorem wpO_mono1 (hg : Good C) {o : Op} {K' : Env → St → Prop} (h : wpO C o e s K) (hk : ∀ e' s', K e' s' → K' e' s') : wpO C o e s K' :=
  wpO_mono hg.mono (fun _ _ _ _ h => h) (fun e' s' _ h => hk e' s' h) h
theorem wpI_mono1 (hg : Good C) {i : Ins} {K' : Env → St → Prop} (h : wpI C i e s K) (hk : ∀ e' s', K e' s' → K' e' s') : wpI C i e s K' :=
  wpI_mono hg.mono (fun _ _ _ _ h => h) (fun e' s' _ h => hk e' s' h) h

/-- What is left as it was, by an operation's class. -/
def Keeps : Cls → St → St → Prop
  | .none, s, s' | .readC, s, s' | .readM, s, s' => s' = s
  | .call true, s, s' => s ≤ s'
  | .make, s, s' => ∀ l o, o.live = true → s l = some o → s' l = some o
  | .append, s, s' => ∀ l o, o.live = true → (s l = some o ↔ s' l = some o)
  | .wmap, s, s' => ∀ l cs, s l = some (.cells cs) ↔ s' l = some (.cells cs)
  | _, _, _ => True
theorem set_live {l : Nat} {ob : PObj} (hl : s l = none) : ∀ l' o', o'.live = true → s l' = some o' → (s.set l ob) l' = some o' := by
  intro l' o' _ h
  by_cases e1 : l' = l
  · subst e1; rw [hl] at h; cases h
  · simp only [St.set, e1, if_false]; exact h
theorem set_tok {l n : Nat} (hl : s l = none) : ∀ l' o', o'.live = true → (s l' = some o' ↔ (s.set l (.tok n)) l' = some o') := by
  intro l' o' hlive
  refine ⟨fun h => set_live hl l' o' hlive h, fun h => ?_⟩
  by_cases e1 : l' = l
  · subst e1
    simp only [St.set, if_true, Option.some.injEq] at h
    subst h
    simp [PObj.live] at hlive
  · simpa only [St.set, e1, if_false] using h
theorem set_kill {t m : Nat} (ht : s t = some (.tok m)) : ∀ l' o', o'.live = true → (s l' = some o' ↔ (s.set t .dead) l' = some o') := by
  intro l' o' hlive
  by_cases e1 : l' = t
  · subst e1
    simp only [St.set, if_true, Option.some.injEq, ht]
    constructor
    · rintro rfl; simp [PObj.live] at hlive
    · rintro rfl; simp [PObj.live] at hlive
  · simp only [St.set, e1, if_false]

theorem tok_step {t m l n : Nat} (ht : s t = some (.tok m)) (hl : s l = none) : ∀ l' o', o'.live = true → (s l' = some o' ↔ ((s.set t .dead).set l (.tok n)) l' = some o') := by
  intro l' o' hlive
  have hne : (s.set t .dead) l = none := by
    have : l ≠ t := by rintro rfl; rw [hl] at ht; cases ht
    simp only [St.set, this, if_false]; exact hl
  exact (set_kill ht l' o' hlive).trans (set_tok hne l' o' hlive)
theorem wpO_keep (hg : Good C) {o : Op} (h : wpO C o e s K) : wpO C o e s (fun e' s' => Keeps o.cls s s' ∧ K e' s') := by
  by_cases hc : o.cls.rd = true
  · obtain ⟨v, h1, h2⟩ := (rdO_spec hc).1 h
    refine (rdO_spec hc).2 ⟨v, h1, ?_, h2⟩
    cases hcl : o.cls <;> simp [hcl, Cls.rd] at hc <;> rfl
  · cases o <;> simp only [Op.cls, Cls.rd, not_true_eq_false, reduceCtorEq, Bool.false_eq_true, not_false_eq_true] at hc
    case mkmap d => exact fun l hl => ⟨set_live hl, h l hl⟩
    case hbox p sh x => exact ⟨h.1, fun l hl => ⟨set_live hl, h.2 l hl⟩⟩
    case litM d z len is sh xs =>
      simp only [wpO] at h ⊢
      split at h
      · exact ⟨h.1, fun l hl => ⟨set_live hl, h.2 l hl⟩⟩
      · exact h.elim
    case mapset ks m k v sh =>
      simp only [wpO] at h ⊢
      refine ⟨h.1, h.2.1, ?_⟩
      have h := h.2.2
      have key : ∀ {r : Nat} {es es' : List (V × V)}, s r = some (.map es) → ∀ l cs, s l = some (.cells cs) ↔ (s.set r (.map es')) l = some (.cells cs) := by
        intro r es es' hr l cs
        by_cases e1 : l = r
        · subst e1; simp [St.set, hr]
        · simp only [St.set, e1, if_false]
      split at h
      · split at h
        · rename_i hr
          split at h
          · exact ⟨key hr, h⟩
          · exact ⟨key hr, h⟩
          · exact h.elim
        · exact h.elim
      · exact h.elim
    case append d sz z mt a b =>
      cases mt with
      | true => exact wpO_mono1 hg h fun e' s' hk => ⟨trivial, hk⟩
      | false =>
        simp only [wpO] at h ⊢
        refine ⟨h.1, ?_⟩
        have h := h.2
        split at h
        · split at h
          · refine ⟨h.1, h.2.1, h.2.2.1, h.2.2.2.1, ?_⟩
            have h := h.2.2.2.2
            split at h
            · rename_i hy; rw [if_pos hy]; exact ⟨fun _ _ _ => Iff.rfl, h⟩
            · rename_i hy
              rw [if_neg hy]
              split at h
              · rw [if_neg (by simp)]; exact fun l hl => ⟨set_tok hl, h l hl⟩
              · split at h
                · rename_i ht
                  exact ⟨h.1, fun l hl => ⟨tok_step ht hl, h.2 l hl⟩⟩
                · exact h.elim
              · exact h.elim
          · exact h.elim
        · simp at h
        · exact h.elim
    case call d q f args =>
      cases q with
      | true => obtain ⟨th, h⟩ := h; exact ⟨th, hg.mono _ _ _ _ _ h fun v s' h => ⟨h.1, h.1, h.2⟩⟩
      | false => obtain ⟨th, h⟩ := h; exact ⟨th, hg.mono _ _ _ _ _ h fun v s' h => ⟨trivial, h⟩⟩
    all_goals exact wpO_mono1 hg h fun e' s' hk => ⟨trivial, hk⟩

/-! ## Instructions with guards -/
theorem at1_wr {o : Op} (hc : o.cls.rd = true) : o.wr = [at1 o] := by
  cases o <;> first | (simp [Op.cls, Cls.rd] at hc; done) | rfl
theorem dst_wr {o : Op} {q : Nat} (h : o.dst = some q) : q ∈ o.wr := by
  cases o <;> simp only [Op.dst, Option.some.injEq, reduceCtorEq] at h <;> simp [Op.wr, h]
theorem dst_at1 {o : Op} (hc : o.cls.rd = true) {q : Nat} (h : o.dst = some q) : q = at1 o := by
  have := dst_wr h
  rw [at1_wr hc] at this
  simpa using this
theorem at1_reads {o : Op} (hc : o.cls.rd = true) (h : o.dst = none) : at1 o ∈ o.reads := by
  cases o <;> first | (simp [Op.cls, Cls.rd] at hc; done) | (simp [Op.dst] at h; done) | skip
  case lset => simp [at1, Op.wr, Op.reads]
  case lstore => simp [at1, Op.wr, Op.reads]
  case rinit => simp [at1, Op.wr, Op.reads]

def rdI (i : Ins) (e : Env) (s : St) : Option V := match i.g with
  | none => rdO i.op e s
  | some (t, want) => match e t with
    | .bool b => if b = want then rdO i.op e s else some (match i.op.dst with | some _ => i.op.skipV | none => e (at1 i.op))
    | .tup [] => some (match i.op.dst with | some _ => i.op.skipV | none => e (at1 i.op))
    | _ => none
theorem rdI_spec {i : Ins} (hc : i.op.cls.rd = true) : wpI C i e s K ↔ ∃ v, rdI i e s = some v ∧ K (e.set (at1 i.op) v) s := by
  unfold wpI rdI
  cases hg : i.g with
  | none => exact rdO_spec hc
  | some g =>
    obtain ⟨t, want⟩ := g
    simp only
    generalize e t = y
    have skp : K (e.setO i.op.dst i.op.skipV) s ↔ ∃ v, some (match i.op.dst with | some _ => i.op.skipV | none => e (at1 i.op)) = some v ∧ K (e.set (at1 i.op) v) s := by
      simp only [Option.some.injEq, exists_eq_left']
      cases hd : i.op.dst with
      | some q => rw [dst_at1 hc hd]; rfl
      | none =>
        have : e.set (at1 i.op) (e (at1 i.op)) = e := by funext t'; simp only [Env.set]; split <;> simp_all
        simp only [this]
        rfl
    cases y <;> first | (simp; done) | skip
    · rename_i b
      by_cases h : b = want
      · simp only [h, if_true]; exact rdO_spec hc
      · simp only [h, if_false]
        exact skp
    · rename_i xs
      cases xs with
      | nil => exact skp
      | cons x xs => simp

theorem ev_congr {e' : Env} {x : Opd} (h : ∀ t ∈ x.reads, e' t = e t) : ev e' x = ev e x := by
  cases x with
  | t n => exact h n (by simp [Opd.reads])
  | c v => rfl
theorem rdO_congr {o : Op} {e' : Env} (h : ∀ t ∈ o.reads, e' t = e t) : rdO o e' s = rdO o e s := by
  have hm : ∀ xs : List Opd, (∀ t ∈ xs.flatMap Opd.reads, e' t = e t) → xs.map (ev e') = xs.map (ev e) := fun xs hx =>
    List.map_congr_left fun x hxm => ev_congr fun t ht => hx t (List.mem_flatMap.2 ⟨x, hxm, ht⟩)
  have ho : ∀ q : Option Nat, (∀ t ∈ q.toList, e' t = e t) → offAt e' q = offAt e q := fun q hq => by
    cases q with
    | none => rfl
    | some q => simp only [offAt, hq q (by simp)]
  cases o <;> first | rfl | skip
  case p d q xs => simp only [rdO, hm xs h]
  case la d p q off => simp only [rdO, h p (by simp [Op.reads]), ho q fun t ht => h t (by simp [Op.reads, ht])]
  case lia d p q len sz i => simp only [rdO, h p (by simp [Op.reads]), ho q fun t ht => h t (by simp [Op.reads]; exact .inr (.inl (by simpa using ht))), ev_congr (x := i) fun t ht => h t (by simp [Op.reads, ht])]
  case lput p sh x => simp only [rdO, ev_congr (x := x) fun t ht => h t (by simp [Op.reads, ht])]
  case lset p sh x => simp only [rdO, h p (by simp [Op.reads]), ev_congr (x := x) fun t ht => h t (by simp [Op.reads, ht])]
  case lwhole d p sh => simp only [rdO, h p (by simp [Op.reads])]
  case lload d p q sh => simp only [rdO, h p (by simp [Op.reads]), h q (by simp [Op.reads])]
  case lstore p q sh x => simp only [rdO, h p (by simp [Op.reads]), h q (by simp [Op.reads]), ev_congr (x := x) fun t ht => h t (by simp [Op.reads, ht])]
  case rbox p sh x => simp only [rdO, ev_congr (x := x) fun t ht => h t (by simp [Op.reads, ht])]
  case rinit p sh x => simp only [rdO, h p (by simp [Op.reads]), ev_congr (x := x) fun t ht => h t (by simp [Op.reads, ht])]
  case load d sh x => simp only [rdO, ev_congr (x := x) fun t ht => h t (by simp [Op.reads, ht])]
  case lookup d z ok ks m k => simp only [rdO, ev_congr (x := m) fun t ht => h t (by simp [Op.reads, ht]), ev_congr (x := k) fun t ht => h t (by simp [Op.reads, ht])]
  case mlen d m => simp only [rdO, ev_congr (x := m) fun t ht => h t (by simp [Op.reads, ht])]
theorem rdI_congr {i : Ins} {e' : Env} (hc : i.op.cls.rd = true) (h : ∀ t ∈ i.reads, e' t = e t) : rdI i e' s = rdI i e s := by
  have h1 : ∀ t ∈ i.op.reads, e' t = e t := fun t ht => h t (by simp [Ins.reads, ht])
  unfold rdI
  cases hg : i.g with
  | none => exact rdO_congr h1
  | some g =>
    obtain ⟨t, want⟩ := g
    simp only [h t (by simp [Ins.reads, hg]), rdO_congr (s := s) h1]
    cases hd : i.op.dst with
    | some q => rfl
    | none => simp only [h1 _ (at1_reads hc hd)]

theorem wpI_frame {i : Ins} (hr : d ∉ i.reads) (hw : d ∉ i.op.wr) : wpI C i (e.set d v) s K ↔ wpI C i e s (fun e' s' => K (e'.set d v) s') := by
  have hr1 : d ∉ i.op.reads := fun h => hr (by simp [Ins.reads, h])
  unfold wpI
  cases hg : i.g with
  | none => exact wpO_frame hr1 hw
  | some g =>
    obtain ⟨t, want⟩ := g
    have ht : d ≠ t := fun h => hr (by simp [Ins.reads, hg, h])
    simp only [get_set ht]
    have hO : (e.set d v).setO i.op.dst i.op.skipV = (e.setO i.op.dst i.op.skipV).set d v := by
      cases hd : i.op.dst with
      | none => rfl
      | some q => exact set_set fun h => hw (h ▸ dst_wr hd)
    cases e t <;> first | exact Iff.rfl | skip
    · rename_i b
      by_cases h : b = want
      · simp only [h, if_true]; exact wpO_frame hr1 hw
      · simp only [h, if_false, hO]
    · rename_i xs
      cases xs with
      | nil => simp only [hO]
      | cons x xs => exact Iff.rfl
theorem setO_agree {o : Op} {y : V} : Agree o.wr e (e.setO o.dst y) := by
  cases hd : o.dst with
  | none => exact Agree.refl _ _
  | some q => exact (Agree.set _ _ _).mono (by intro t ht; simp at ht; subst ht; exact dst_wr hd)
theorem wpI_few (hg : Good C) {i : Ins} (hf : Few s) (h : wpI C i e s K) : wpI C i e s (fun e' s' => (Few s' ∧ Agree i.op.wr e e') ∧ K e' s') := by
  unfold wpI at h ⊢
  cases hgd : i.g with
  | none => rw [hgd] at h; exact wpO_few hg hf h
  | some g =>
    obtain ⟨t, want⟩ := g
    rw [hgd] at h
    simp only at h ⊢
    revert h
    cases e t <;> intro h <;> first | exact h.elim | skip
    · rename_i b
      by_cases hb : b = want
      · simp only [hb, if_true] at h ⊢; exact wpO_few hg hf h
      · simp only [hb, if_false] at h ⊢; exact ⟨⟨hf, setO_agree⟩, h⟩
    · rename_i xs
      cases xs with
      | nil => exact ⟨⟨hf, setO_agree⟩, h⟩
      | cons x xs => exact h.elim
theorem Keeps.same {c : Cls} : Keeps c s s := by
  cases c <;> first | rfl | trivial | (intro l o _; exact id) | (intro l o _; exact Iff.rfl) | (intro l cs; exact Iff.rfl) | skip
  rename_i q
  cases q
  · trivial
  · exact fun _ _ h => h
theorem wpI_keep (hg : Good C) {i : Ins} (h : wpI C i e s K) : wpI C i e s (fun e' s' => Keeps i.op.cls s s' ∧ K e' s') := by
  unfold wpI at h ⊢
  cases hgd : i.g with
  | none => rw [hgd] at h; exact wpO_keep hg h
  | some g =>
    obtain ⟨t, want⟩ := g
    rw [hgd] at h
    simp only at h ⊢
    revert h
    cases e t <;> intro h <;> first | exact h.elim | skip
    · rename_i b
      by_cases hb : b = want
      · simp only [hb, if_true] at h ⊢; exact wpO_keep hg h
      · simp only [hb, if_false] at h ⊢; exact ⟨Keeps.same, h⟩
    · rename_i xs
      cases xs with
      | nil => exact ⟨Keeps.same, h⟩
      | cons x xs => exact h.elim
theorem wpI_strict (hg : Good C) {i : Ins} (hf : Few s) : ¬ wpI C i e s (fun _ _ => False) := by
  intro h
  unfold wpI at h
  cases hgd : i.g with
  | none => rw [hgd] at h; exact wpO_strict hg hf h
  | some g =>
    obtain ⟨t, want⟩ := g
    rw [hgd] at h
    simp only at h
    revert h
    cases e t <;> intro h <;> first | exact h | skip
    · rename_i b
      by_cases hb : b = want
      · simp only [hb, if_true] at h; exact wpO_strict hg hf h
      · simp only [hb, if_false] at h
    · rename_i xs
      cases xs <;> exact h

/-! ## What is read, before and behind -/
theorem rdO_none {o : Op} {s' : St} (hc : o.cls = .none) : rdO o e s' = rdO o e s := by
  cases o <;> first | rfl | (simp [Op.cls] at hc; done)
theorem rdO_cells {o : Op} {s' : St} (hc : o.cls = .readC) (hs : ∀ l cs, s l = some (.cells cs) → s' l = some (.cells cs)) {y : V} (h : rdO o e s = some y) : rdO o e s' = some y := by
  cases o <;> first | (simp [Op.cls] at hc; done) | skip
  case load d sh x =>
    simp only [rdO] at h ⊢
    revert h
    cases ev e x <;> intro h <;> first | exact h | skip
    rename_i l o
    simp only at h ⊢
    cases hl : s l with
    | none => rw [hl] at h; cases h
    | some ob =>
      rw [hl] at h
      cases ob <;> first | (simp at h; done) | skip
      rename_i cs
      rw [hs l cs hl]
      exact h
  case append d sz z mt a b => cases mt <;> simp [Op.cls] at hc
theorem rdO_maps {o : Op} {s' : St} (hc : o.cls = .readM) (hs : ∀ l es, s l = some (.map es) → s' l = some (.map es)) {y : V} (h : rdO o e s = some y) : rdO o e s' = some y := by
  cases o <;> first | (simp [Op.cls] at hc; done) | skip
  case lookup d z ok ks m k =>
    simp only [rdO] at h ⊢
    split at h
    · rename_i hk
      rw [if_pos hk]
      revert h
      cases ev e m <;> intro h <;> first | exact h | skip
      rename_i r
      cases r with
      | none => exact h
      | some r =>
        simp only at h ⊢
        cases hl : s r with
        | none => rw [hl] at h; cases h
        | some ob =>
          rw [hl] at h
          cases ob <;> first | (simp at h; done) | skip
          rename_i es
          rw [hs r es hl]
          exact h
    · cases h
  case mlen d m =>
    simp only [rdO] at h ⊢
    revert h
    cases ev e m <;> intro h <;> first | exact h | skip
    rename_i r
    cases r with
    | none => exact h
    | some r =>
      simp only at h ⊢
      cases hl : s r with
      | none => rw [hl] at h; cases h
      | some ob =>
        rw [hl] at h
        cases ob <;> first | (simp at h; done) | skip
        rename_i es
        rw [hs r es hl]
        exact h
  case append d sz z mt a b => cases mt <;> simp [Op.cls] at hc

theorem rdI_lift {i : Ins} {s' : St} (h : ∀ y, rdO i.op e s = some y → rdO i.op e s' = some y) {y : V} (hy : rdI i e s = some y) : rdI i e s' = some y := by
  unfold rdI at hy ⊢
  cases hg : i.g with
  | none => rw [hg] at hy; exact h y hy
  | some g =>
    obtain ⟨t, want⟩ := g
    rw [hg] at hy
    simp only at hy ⊢
    revert hy
    cases e t <;> intro hy <;> first | exact hy | skip
    · rename_i b
      by_cases hb : b = want
      · simp only [hb, if_true] at hy ⊢; exact h y hy
      · simp only [hb, if_false] at hy ⊢; exact hy
    · rename_i xs
      cases xs <;> exact hy

/-- A reader, and something that may stand on its other side: it reads the same. -/
theorem rd_fore {o : Op} {c : Cls} {s' : St} (ho : o.cls.rd = true) (hf : o.cls.free c = true) (hk : Keeps c s s') : ∀ y, rdO o e s = some y → rdO o e s' = some y := by
  intro y hy
  cases hcl : o.cls <;> simp only [hcl, Cls.rd, Bool.false_eq_true] at ho
  · rwa [rdO_none hcl (s := s)]
  · rw [hcl] at hf
    refine rdO_cells hcl ?_ hy
    cases c <;> first | (simp [Cls.free] at hf; done) | skip
    all_goals first
      | (simp only [Keeps] at hk; subst hk; exact fun _ _ h => h)
      | exact fun l cs h => hk l _ rfl h
      | exact fun l cs h => (hk l _ rfl).1 h
      | exact fun l cs h => (hk l cs).1 h
      | skip
    rename_i q
    cases q
    · simp [Cls.free] at hf
    · exact fun l cs h => hk l _ h
  · rw [hcl] at hf
    refine rdO_maps hcl ?_ hy
    cases c <;> first | (simp [Cls.free] at hf; done) | skip
    all_goals first
      | (simp only [Keeps] at hk; subst hk; exact fun _ _ h => h)
      | exact fun l cs h => hk l _ rfl h
      | exact fun l cs h => (hk l _ rfl).1 h
      | skip
    rename_i q
    cases q
    · simp [Cls.free] at hf
    · exact fun l cs h => hk l _ h
theorem rd_behind {o : Op} {c : Cls} {s' : St} (ho : o.cls.rd = true) (hf : c.free o.cls = true) (hk : Keeps c s s') : ∀ y, rdO o e s = some y ↔ rdO o e s' = some y := by
  intro y
  cases hcl : o.cls <;> simp only [hcl, Cls.rd, Bool.false_eq_true] at ho
  · rw [rdO_none hcl (s := s) (s' := s')]
  · rw [hcl] at hf
    have key : ∀ l cs, s l = some (.cells cs) ↔ s' l = some (.cells cs) := by
      cases c <;> first | (simp [Cls.free] at hf; done) | skip
      all_goals first
        | (simp only [Keeps] at hk; subst hk; exact fun _ _ => Iff.rfl)
        | exact fun l cs => hk l _ rfl
        | exact fun l cs => hk l cs
        | skip
    exact ⟨rdO_cells hcl fun l cs => (key l cs).1, rdO_cells hcl fun l cs => (key l cs).2⟩
  · rw [hcl] at hf
    have key : ∀ l es, s l = some (.map es) ↔ s' l = some (.map es) := by
      cases c <;> first | (simp [Cls.free] at hf; done) | skip
      all_goals first
        | (simp only [Keeps] at hk; subst hk; exact fun _ _ => Iff.rfl)
        | exact fun l cs => hk l _ rfl
        | skip
    exact ⟨rdO_maps hcl fun l cs => (key l cs).1, rdO_maps hcl fun l cs => (key l cs).2⟩

theorem free_rd {a b : Cls} (h : a.free b = true) : a.rd = true ∨ b.rd = true := by
  cases a <;> cases b <;> first | exact .inl rfl | exact .inr rfl | (simp [Cls.free] at h; done) | skip
  all_goals (rename_i q; cases q <;> simp [Cls.free] at h)
theorem disj_not {xs ys : List Nat} (h : disj xs ys = true) {x : Nat} (hx : x ∈ xs) : x ∉ ys := by
  unfold disj at h
  simpa using List.all_eq_true.1 h x hx

/-- Two that nothing orders change places. -/
theorem wpI_swap (hg : Good C) {a i : Ins} (hf : Few s) (hfree : a.free i = true) (h : wpI C a e s (fun e s => wpI C i e s K)) : wpI C i e s (fun e s => wpI C a e s K) := by
  unfold Ins.free at hfree
  simp only [Bool.and_eq_true] at hfree
  obtain ⟨⟨⟨d1, d2⟩, d3⟩, d4⟩ := hfree
  by_cases hi : i.op.cls.rd = true
  · have hwi := at1_wr hi
    have hia : at1 i.op ∉ a.reads := fun hm => disj_not d3 hm (by unfold Ins.writes; rw [hwi]; simp)
    have hia' : at1 i.op ∉ a.op.wr := fun hm => disj_not d2 (x := at1 i.op) (by unfold Ins.writes; exact hm) (by unfold Ins.writes; rw [hwi]; simp)
    have h2 := wpI_keep hg (wpI_few hg hf h)
    have back : ∀ e' s', (Keeps a.op.cls s s' ∧ (Few s' ∧ Agree a.op.wr e e') ∧ wpI C i e' s' K) → ∃ v, rdI i e s = some v ∧ K (e'.set (at1 i.op) v) s' := by
      rintro e' s' ⟨hk, ⟨_, ha⟩, hw⟩
      obtain ⟨v, hv, hK⟩ := (rdI_spec hi).1 hw
      rw [rdI_congr hi fun t ht => ha t fun hm => disj_not d1 (by unfold Ins.writes; exact hm) ht] at hv
      exact ⟨v, rdI_lift (fun y => (rd_behind hi d4 hk y).2) hv, hK⟩
    cases hrd : rdI i e s with
    | none => exact absurd (wpI_mono1 hg h2 fun e' s' hh => by obtain ⟨v, hv, _⟩ := back e' s' hh; rw [hrd] at hv; cases hv) (wpI_strict hg hf)
    | some v =>
      refine (rdI_spec hi).2 ⟨v, hrd, (wpI_frame hia hia').2 (wpI_mono1 hg h2 fun e' s' hh => ?_)⟩
      obtain ⟨v', hv, hK⟩ := back e' s' hh
      rw [hrd] at hv
      cases hv
      exact hK
  · have ha : a.op.cls.rd = true := (free_rd d4).resolve_right hi
    have hwa := at1_wr ha
    obtain ⟨v, hv, hw⟩ := (rdI_spec ha).1 h
    have hai : at1 a.op ∉ i.reads := disj_not d1 (by unfold Ins.writes; rw [hwa]; simp)
    have hai' : at1 a.op ∉ i.op.wr := disj_not d2 (by unfold Ins.writes; rw [hwa]; simp)
    have hw2 := wpI_keep hg (wpI_few hg hf ((wpI_frame hai hai').1 hw))
    refine wpI_mono1 hg hw2 ?_
    rintro e' s' ⟨hk, ⟨_, hag⟩, hK⟩
    refine (rdI_spec ha).2 ⟨v, ?_, hK⟩
    rw [rdI_congr ha fun t ht => hag t fun hm => disj_not d3 ht (by unfold Ins.writes; exact hm)]
    exact rdI_lift (rd_fore ha d4 hk) hv

/-- One that all before it may stand behind is carried out first. -/
theorem wpIs_front (hg : Good C) {i : Ins} {bs : List Ins} : ∀ {as : List Ins} {e : Env} {s : St}, Few s → (∀ a ∈ as, a.free i = true) → wpIs C (as ++ i :: bs) e s K → wpI C i e s (fun e s => wpIs C (as ++ bs) e s K)
  | [], _, _, _, _, h => h
  | a :: as, e, s, hf, hfree, h => by
    have h1 : wpI C a e s (fun e s => wpI C i e s fun e s => wpIs C (as ++ bs) e s K) :=
      wpI_mono1 hg (wpI_few hg hf h) fun e' s' hh => wpIs_front hg hh.1.1 (fun a ha => hfree a (by simp [ha])) hh.2
    exact wpI_swap hg hf (hfree a (by simp)) h1
end
end Go.Hu

set_option linter.unusedSimpArgs false
set_option linter.unusedVariables false
namespace Go.Hu

/-- Some run of the machine comes to a state that is aimed at. -/
def Reach (P : Program) (G : Machine → Prop) (m : Machine) : Prop := ∃ m', (Steps P m m' ∧ (m'.world.os = m.world.os ∧ m'.world.output = m.world.output)) ∧ G m'
theorem Reach.step {P : Program} {G : Machine → Prop} {m m1 : Machine} (h : step P m = .next m1) (hr : Reach P G m1) (hs : m1.world.os = m.world.os ∧ m1.world.output = m.world.output := by exact ⟨rfl, rfl⟩) : Reach P G m := by
  obtain ⟨m', ⟨h1, h3⟩, h2⟩ := hr
  exact ⟨m', ⟨.head h h1, h3.1.trans hs.1, h3.2.trans hs.2⟩, h2⟩
theorem Reach.here {P : Program} {G : Machine → Prop} {m : Machine} (h : G m) : Reach P G m := ⟨m, ⟨.refl P m, rfl, rfl⟩, h⟩

/-- A frame that runs. -/
def mkF (b : Frame) (tmps : Array Value) (df : List Deferred) (todo : List Item) : Frame := { fn := b.fn, tmps, todo, defers := df, mode := .run, kind := b.kind, roundOf := b.roundOf }

section
variable {P : Program} {b : Frame} {tmps : Array Value} {df : List Deferred} {k : List Item} {cs : List Frame} {w : World} {G : Machine → Prop}

theorem m_skip : step P (lone (mkF b tmps df (.code .skip :: k)) cs w) = .next (lone (mkF b tmps df k) cs w) :=
  step_lone_go (by simp [stepG, stepG.exec, mkF])
theorem m_label {l : Nat} : step P (lone (mkF b tmps df (.code (.label l) :: k)) cs w) = .next (lone (mkF b tmps df k) cs w) :=
  step_lone_go (by simp [stepG, stepG.exec, mkF])
theorem m_inBlock {id : Nat} : step P (lone (mkF b tmps df (.inBlock id :: k)) cs w) = .next (lone (mkF b tmps df k) cs w) :=
  step_lone_go (by simp [stepG, stepG.exec, mkF])
theorem m_scope {c : Code} : step P (lone (mkF b tmps df (.code (.scope c) :: k)) cs w) = .next (lone (mkF b tmps df (.code c :: .inScope c :: k)) cs w) :=
  step_lone_go (by simp [stepG, stepG.exec, mkF])
theorem m_inScope {c : Code} : step P (lone (mkF b tmps df (.inScope c :: k)) cs w) = .next (lone (mkF b tmps df k) cs w) :=
  step_lone_go (by simp [stepG, stepG.exec, mkF])
theorem m_seq {x y : Code} : step P (lone (mkF b tmps df (.code (.seq x y) :: k)) cs w) = .next (lone (mkF b tmps df (.code x :: .code y :: k)) cs w) :=
  step_lone_go (by simp [stepG, stepG.exec, mkF])
theorem eval_mkF {todo : List Item} : (mkF b tmps df todo).eval = valOf tmps := by
  funext x
  cases x <;> rfl
theorem m_cond {c : Operand} {x y : Code} {t : Bool} (h : valOf tmps c = .bool t) : step P (lone (mkF b tmps df (.code (.cond c x y) :: k)) cs w) = .next (lone (mkF b tmps df (.code (if t then x else y) :: k)) cs w) :=
  step_lone_go (by
    have := congrFun (eval_mkF (b := b) (tmps := tmps) (df := df) (todo := .code (.cond c x y) :: k)) c
    simp only [mkF] at this
    simp [stepG, stepG.exec, mkF, this, h])
theorem m_block {id : Nat} {c : Code} : step P (lone (mkF b tmps df (.code (.block id c) :: k)) cs w) = .next (lone (mkF b tmps df (.code c :: .inBlock id :: k)) cs w) :=
  step_lone_go (by simp [stepG, stepG.exec, mkF])
theorem m_loop {c : Code} : step P (lone (mkF b tmps df (.code (.loop c) :: k)) cs w) = .next (lone (mkF b tmps df (.code c :: .inLoop c :: k)) cs w) :=
  step_lone_go (by simp [stepG, stepG.exec, mkF])
theorem m_inLoop {c : Code} : step P (lone (mkF b tmps df (.inLoop c :: k)) cs w) = .next (lone (mkF b tmps df (.code c :: .inLoop c :: k)) cs w) :=
  step_lone_go (by simp [stepG, stepG.exec, mkF])
theorem m_exit {id : Nat} {k' : List Item} (h : exitTo id k = some k') : step P (lone (mkF b tmps df (.code (.exit id) :: k)) cs w) = .next (lone (mkF b tmps df k') cs w) :=
  step_lone_go (by simp [stepG, stepG.exec, mkF, h])
theorem m_region {id : Nat} {ops : Array Oper} : step P (lone (mkF b tmps df (.code (.region id ops false) :: k)) cs w) = .next (lone (mkF b tmps df (.inRegion ops (List.range ops.size) :: k)) cs w) :=
  step_lone_go (by simp [stepG, stepG.exec, mkF])
theorem m_region_draw {id : Nat} {ops : Array Oper} : step P (lone (mkF b tmps df (.code (.region id ops true) :: k)) cs w) =
    .next (lone (mkF b tmps df (.inRegion ops (Region.schedule (P.follows .mixedOrders) ops (w.tape w.drawn (.order b.fn id))) :: k)) cs { w with drawn := w.drawn + 1 }) :=
  step_lone_go (by simp [stepG, stepG.exec, mkF, choose, Sem.run, Question.forced, Question.cut])
theorem m_region_end {ops : Array Oper} : step P (lone (mkF b tmps df (.inRegion ops [] :: k)) cs w) = .next (lone (mkF b tmps df k) cs w) :=
  step_lone_go (by simp [stepG, stepG.exec, mkF])
theorem finish_mkF {ops : Array Oper} {i : Nat} {rest : List Nat} {v : Value} : (mkF b tmps df (.inRegion ops (i :: rest) :: k)).finish v = mkF b (put tmps ((ops[i]?).bind (·.dst)) v) df (.inRegion ops rest :: k) := by
  cases h : (ops[i]?).bind (·.dst) <;> simp [Frame.finish, mkF, put, h]
theorem m_op_skip {ops : Array Oper} {i : Nat} {rest : List Nat} (h : ((ops[i]?).map (Region.wanted · (yielded ops tmps))).getD false = false) :
    step P (lone (mkF b tmps df (.inRegion ops (i :: rest) :: k)) cs w) = .next (lone (mkF b (put tmps ((ops[i]?).bind (·.dst)) undef) df (.inRegion ops rest :: k)) cs w) := by
  rw [← finish_mkF]
  exact step_lone_go (by
    have h' := h
    simp only [mkF] at *
    simp [stepG, stepG.exec, h'])
theorem stepG_oper {ops : Array Oper} {i : Nat} {rest : List Nat} {o : Oper} (ho : ops[i]? = some o) (hw : Region.wanted o (yielded ops tmps) = true) (hd : ∀ c, o.op ≠ .defer c) :
    stepG P true { frame := mkF b tmps df (.inRegion ops (i :: rest) :: k), callers := cs, status := .running, dying := none } w =
      stepG.apply P true (mkF b tmps df (.inRegion ops (i :: rest) :: k)) cs none (execOp (valOf tmps) o) w := by
  have he := eval_mkF (b := b) (tmps := tmps) (df := df) (todo := .inRegion ops (i :: rest) :: k)
  simp only [mkF] at he
  simp only [stepG, mkF, stepG.exec, ho, Option.map_some, Option.getD_some, hw, if_true, stepG.oper, Frame.oper?, he]
  cases hr : b.roundOf with
  | none => rfl
  | some l =>
    cases hop : o.op <;> first | rfl | exact absurd hop (hd _)
theorem m_op_value {ops : Array Oper} {i : Nat} {rest : List Nat} {o : Oper} {v : Value} {w' : World} (ho : ops[i]? = some o) (hw : Region.wanted o (yielded ops tmps) = true) (hd : ∀ c, o.op ≠ .defer c)
    (hr : (execOp (valOf tmps) o).run P w = .ok (.value v) w') : step P (lone (mkF b tmps df (.inRegion ops (i :: rest) :: k)) cs w) = .next (lone (mkF b (put tmps o.dst v) df (.inRegion ops rest :: k)) cs w') := by
  have hf := finish_mkF (b := b) (tmps := tmps) (df := df) (k := k) (ops := ops) (i := i) (rest := rest) (v := v)
  rw [ho] at hf
  refine step_lone_go ?_
  rw [stepG_oper ho hw hd]
  simp only [Option.bind_some] at hf
  rw [← hf]
  simp [stepG.apply, hr]
theorem m_op_none {ops : Array Oper} {i : Nat} {rest : List Nat} {o : Oper} {w' : World} (ho : ops[i]? = some o) (hw : Region.wanted o (yielded ops tmps) = true) (hd : ∀ c, o.op ≠ .defer c)
    (hr : (execOp (valOf tmps) o).run P w = .ok .skip w') : step P (lone (mkF b tmps df (.inRegion ops (i :: rest) :: k)) cs w) = .next (lone (mkF b (put tmps o.dst undef) df (.inRegion ops rest :: k)) cs w') := by
  have hf := finish_mkF (b := b) (tmps := tmps) (df := df) (k := k) (ops := ops) (i := i) (rest := rest) (v := undef)
  rw [ho] at hf
  refine step_lone_go ?_
  rw [stepG_oper ho hw hd]
  simp only [Option.bind_some] at hf
  rw [← hf]
  simp [stepG.apply, hr]
theorem m_op_enter {ops : Array Oper} {i : Nat} {rest : List Nat} {o : Oper} {f : FuncId} {as : Array Value} {w' : World} (ho : ops[i]? = some o) (hw : Region.wanted o (yielded ops tmps) = true) (hd : ∀ c, o.op ≠ .defer c)
    (hr : (execOp (valOf tmps) o).run P w = .ok (.enter f as) w') : step P (lone (mkF b tmps df (.inRegion ops (i :: rest) :: k)) cs w) = .next (lone (Frame.enter P f as .normal) (mkF b tmps df (.inRegion ops (i :: rest) :: k) :: cs) w') := by
  refine step_lone_go ?_
  rw [stepG_oper ho hw hd]
  simp [stepG.apply, hr, mkF]
theorem m_op_round {ops : Array Oper} {i : Nat} {rest : List Nat} {o : Oper} {l : Nat} {f : FuncId} {ts : Array Value} {x y : Code} {w' : World} (ho : ops[i]? = some o) (hw : Region.wanted o (yielded ops tmps) = true) (hd : ∀ c, o.op ≠ .defer c)
    (hr : (execOp (valOf tmps) o).run P w = .ok (.round l f ts x y) w') : step P (lone (mkF b tmps df (.inRegion ops (i :: rest) :: k)) cs w) = .next (lone (Frame.round l f ts x y .normal) (mkF b tmps df (.inRegion ops (i :: rest) :: k) :: cs) w') := by
  refine step_lone_go ?_
  rw [stepG_oper ho hw hd]
  simp [stepG.apply, hr, mkF]

/-! ## An instruction and its operation -/
structure InsOf (X : Ctx) (h : Hint) (ops : Array Oper) (o : Oper) (i : Ins) : Prop where
  op : ∃ tab tab' po, compileOp X h ops tab o = some (po, tab') ∧ po.dst = o.dst ∧ promOk h po = true ∧ (po.isCall = true → valueCall o.op = true) ∧ (i.op = po ∨ ∃ d f args, po = .call d false f args ∧ i.op = .call d true f args)
  guard : (o.guard = none ∧ i.g = none) ∨ ∃ j want d, o.guard = some (j, want) ∧ (ops[j]?).bind (·.dst) = some d ∧ h.prom.contains d = false ∧ i.g = some (d, want)

theorem compileOps_of {X : Ctx} {h : Hint} {ops : Array Oper} : ∀ {os : List Oper} {tab : Tab} {is : List Ins}, compileOps X h ops os tab = some is → is.length = os.length ∧ ∀ (j : Nat) o i, os[j]? = some o → is[j]? = some i → InsOf X h ops o i
  | [], tab, is, hc => by simp only [compileOps, Option.some.injEq] at hc; subst hc; simp
  | o :: os, tab, is, hc => by
    simp only [compileOps, Option.bind_eq_some_iff] at hc
    obtain ⟨⟨po, tab'⟩, h1, hc⟩ := hc
    split at hc
    · cases hc
    · rename_i hd
      simp only [Bool.or_eq_true, bne_iff_ne, ne_eq, Bool.not_eq_true', not_or, Decidable.not_not, Bool.not_eq_false, Bool.and_eq_true, not_and] at hd
      simp only [Option.bind_eq_some_iff, Option.map_eq_some_iff] at hc
      obtain ⟨gd, hg, rest, hr, rfl⟩ := hc
      obtain ⟨i1, i2⟩ := compileOps_of hr
      refine ⟨by simp [i1], fun j o' i ho hi => ?_⟩
      cases j with
      | zero =>
        simp at ho hi
        subst ho hi
        refine ⟨⟨tab, tab', po, h1, hd.1.1, hd.1.2, hd.2, .inl rfl⟩, ?_⟩
        cases hgu : o.guard with
        | none => rw [hgu] at hg; simp only [guardOf, Option.some.injEq] at hg; exact .inl ⟨rfl, hg.symm⟩
        | some jb =>
          obtain ⟨j, want⟩ := jb
          rw [hgu] at hg
          simp only [guardOf, Option.bind_eq_some_iff] at hg
          obtain ⟨d, hd2, hg⟩ := hg
          split at hg
          · cases hg
          · rename_i hp
            cases hg
            exact .inr ⟨j, want, d, rfl, by simpa [Option.bind_eq_some_iff] using hd2, by simpa using hp, rfl⟩
      | succ j => exact i2 j o' i (by simpa using ho) (by simpa using hi)

theorem InsOf.dst {X : Ctx} {h : Hint} {ops : Array Oper} {o : Oper} {i : Ins} (hI : InsOf X h ops o i) : i.op.dst = o.dst := by
  obtain ⟨_, _, po, _, h2, _, _, h4 | ⟨d, f, args, rfl, h4⟩⟩ := hI.op
  · rw [h4]; exact h2
  · rw [h4]; exact h2
theorem InsOf.prom {X : Ctx} {h : Hint} {ops : Array Oper} {o : Oper} {i : Ins} (hI : InsOf X h ops o i) {d : Nat} (hd : i.op.dst = some d) (hp : h.prom.contains d = true) : ∃ sh x, i.op = .lput d sh x := by
  obtain ⟨_, _, po, _, h2, h3, _, h4 | ⟨d', f, args, rfl, h4⟩⟩ := hI.op
  · rw [h4] at hd ⊢
    unfold promOk at h3
    split at h3
    · simp only [Op.dst, Option.some.injEq] at hd; subst hd; exact ⟨_, _, rfl⟩
    · rw [hd] at h3; simp only [Option.all_some, Bool.not_eq_true'] at h3; rw [hp] at h3; cases h3
  · rw [h4] at hd
    simp only [Op.dst] at hd
    subst hd
    simp only [promOk, Op.dst, Option.all_some, Bool.not_eq_true'] at h3
    rw [hp] at h3
    cases h3
theorem InsOf.noDefer {X : Ctx} {h : Hint} {ops : Array Oper} {o : Oper} {i : Ins} (hI : InsOf X h ops o i) : ∀ c, o.op ≠ .defer c := by
  intro c hc
  obtain ⟨tab, tab', po, h1, _⟩ := hI.op
  unfold compileOp at h1
  rw [hc] at h1
  cases h1

theorem skipV_cases (o : Op) : o.skipV = .undef ∨ o.skipV = .tup [] := by
  cases o <;> first | exact .inl rfl | exact .inr rfl
/-- An instruction that is passed over. -/
theorem Sim.skip {F : Fix} {g : Gh} {H : Heap} {s : St} {mine : Nat → Prop} {e : Env} {at_ : AT} (hS : Sim F g H s mine e tmps at_) {i : Ins} (hp : ∀ d, i.op.dst = some d → F.h.prom.contains d = true → ∃ sh x, i.op = .lput d sh x) :
    Sim F g H s mine (e.setO i.op.dst i.op.skipV) (put tmps i.op.dst undef) (AT.step at_ i) := by
  cases hd : i.op.dst with
  | none =>
    refine hS.forget fun y hy => ?_
    rcases step_mem hy with h | h
    · exfalso
      obtain ⟨op, gd⟩ := i
      cases op <;> simp [AT.adds] at h <;> simp [Op.dst] at hd
    · exact h.1
  | some d =>
    have hmem : ∀ y ∈ AT.step at_ i, y.1 = d ∨ (y ∈ at_ ∧ y.1 ≠ d ∧ ((∃ sh x, i.op = .lput d sh x) → y.2 ≠ some d)) := by
      intro y hy
      rcases step_mem hy with h | h
      · left
        obtain ⟨op, gd⟩ := i
        cases op <;> simp [AT.adds] at h <;> simp [Op.dst] at hd <;> (subst h; exact hd)
      · right
        obtain ⟨h1, h2⟩ := h
        unfold AT.kills at h2
        simp only [Bool.or_eq_false_iff] at h2
        refine ⟨h1, ?_, ?_⟩
        · rintro rfl
          have := dst_wr hd
          simp at h2
          exact h2.1 this
        · rintro ⟨sh, x, hop⟩
          rw [hop] at h2
          simpa using h2.2
    have own : ∀ t, Own F.h F.wr (e.set d i.op.skipV) (AT.step at_ i) t → t ≠ d ∧ Own F.h F.wr e at_ t := by
      rintro t (⟨h1, h2, h3⟩ | ⟨h1, n, h2⟩)
      · have : t ≠ d := by
          rintro rfl
          obtain ⟨sh, x, hop⟩ := hp t hd h1
          rw [hop, Env.set_same] at h3
          exact h3 rfl
        rw [Env.set_other this] at h3
        exact ⟨this, .inl ⟨h1, h2, h3⟩⟩
      · have : t ≠ d := by rintro rfl; rw [Env.set_same] at h2; rcases skipV_cases i.op with h | h <;> rw [h] at h2 <;> cases h2
        rw [Env.set_other this] at h2
        refine ⟨this, .inr ⟨?_, n, h2⟩⟩
        rcases hmem _ h1 with h | h
        · exact absurd h this
        · exact h.1
    refine { rel := hS.rel, evo := hS.evo, slots := ?_, inj := ?_, adr := ?_, pnd := ?_, size := by simpa [put] using hS.size, dfs := hS.dfs }
    · intro t
      by_cases e1 : t = d
      · subst e1
        unfold SlotOk
        split
        · rename_i hprom
          obtain ⟨sh, x, hop⟩ := hp t hd hprom
          rw [hop]
          exact .inl Env.set_same
        · simp only [Env.setO, Env.set_same]
          have hu : (tmps.setIfInBounds t undef).getD t undef = undef := by
            by_cases h : t < tmps.size
            · exact getD_set_same h
            · simp [Array.getD, h]
          simp only [put]
          rw [hu]
          rcases skipV_cases i.op with h | h <;> rw [h]
          · exact .undef _
          · exact .tup rfl (by simp)
      · exact (hS.slots t).congr (Env.set_other e1) (getD_set_other e1)
    · intro t t' b h1 h2 h3 h4
      obtain ⟨n1, o1⟩ := own t h1
      obtain ⟨n2, o2⟩ := own t' h2
      simp only [put] at h3 h4
      rw [blk_set_other n1] at h3
      rw [blk_set_other n2] at h4
      exact hS.inj t t' b o1 o2 h3 h4
    · intro q p off h1 h2
      simp only [Env.setO, put] at h2 ⊢
      have n1 : q ≠ d := by rintro rfl; rw [Env.set_same] at h2; rcases skipV_cases i.op with h | h <;> rw [h] at h2 <;> cases h2
      rw [Env.set_other n1] at h2
      obtain ⟨m1, _, m3⟩ := (hmem _ h1).resolve_left n1
      obtain ⟨a1, a2, a3, b, a4, a5⟩ := hS.adr q p off m1 h2
      have n2 : p ≠ d := by
        rintro rfl
        exact m3 (hp p hd a1) rfl
      exact ⟨a1, a2, by rw [Env.set_other n2]; exact a3, b, by rw [blk_set_other n2]; exact a4, by rw [getD_set_other n1]; exact a5⟩
    · intro p n h1 h2
      simp only [Env.setO, put] at h2 ⊢
      have n1 : p ≠ d := by rintro rfl; rw [Env.set_same] at h2; rcases skipV_cases i.op with h | h <;> rw [h] at h2 <;> cases h2
      rw [Env.set_other n1] at h2
      obtain ⟨m1, _, _⟩ := (hmem _ h1).resolve_left n1
      obtain ⟨a1, b, c, el, a2, a3⟩ := hS.pnd p n m1 h2
      exact ⟨a1, b, c, el, by rw [blk_set_other n1]; exact a2, a3⟩
end
end Go.Hu

set_option linter.unusedSimpArgs false
set_option linter.unusedVariables false
namespace Go.Hu

/-- The frame that a call of a function value opens. -/
def Entering (P : Program) (fv : Value) (args : Array Value) (w : World) (Fr : Frame) : Prop :=
  (∃ f as, (do let d ← Deferred.ofValue fv args; invoke d.target d.args : Sem Next).run P w = .ok (.enter f as) w ∧ Fr = Frame.enter P f as .normal) ∨
  (∃ l f ts a b, (do let d ← Deferred.ofValue fv args; invoke d.target d.args : Sem Next).run P w = .ok (.round l f ts a b) w ∧ Fr = Frame.round l f ts a b .normal)

/-- What a call comes to, in the model. -/
def RC (X : Ctx) : CP := fun fv args s Q => ∀ (g : Gh) (w : World) (kept : Nat → Prop) (vf : Value) (vargs : Array Value), Rel X g w.heap s kept (fun _ => False) → Enc X.nm g w.heap fv vf → EncL X.nm g w.heap args vargs →
  ∃ Fr, Entering X.P vf vargs w Fr ∧ ∀ (c : Frame) (cs : List Frame) (G : Machine → Prop),
    (∀ v s' g' w' vv, Q v s' → Rel X g' w'.heap s' kept (fun _ => False) → Evo g w.heap s kept g' w'.heap s' → Enc X.nm g' w'.heap v vv → Reach X.P G (lone (c.finish vv) cs w')) → Reach X.P G (lone Fr (c :: cs) w)
def RCx (X : Ctx) : CP := fun fv args s Q => RC X fv args s Q ∧ (Few s → ∃ v s', Few s' ∧ Q v s')

theorem Rel.few {X : Ctx} {g : Gh} {H : Heap} {s : St} {kept mine : Nat → Prop} (hr : Rel X g H s kept mine) : Few s := by
  obtain ⟨N, hN⟩ := hr.fin
  exact ⟨N, fun l hl => (hN l hl).1⟩
theorem RC.mono {X : Ctx} : (RC X).Mono := by
  intro f args s Q Q' h hq g w kept vf vargs h1 h2 h3
  obtain ⟨Fr, h4, h5⟩ := h g w kept vf vargs h1 h2 h3
  exact ⟨Fr, h4, fun c cs G hk => h5 c cs G fun v s' g' w' vv hQ => hk v s' g' w' vv (hq v s' hQ)⟩
theorem RCx.good {X : Ctx} : Good (RCx X) := by
  refine ⟨?_, ?_, ?_⟩
  · intro f args s Q Q' h hq
    exact ⟨RC.mono _ _ _ _ _ h.1 hq, fun hf => by obtain ⟨v, s', h1, h2⟩ := h.2 hf; exact ⟨v, s', h1, hq _ _ h2⟩⟩
  · intro f a s Q hf h
    refine ⟨?_, fun hf => by obtain ⟨v, s', h1, h2⟩ := h.2 hf; exact ⟨v, s', h1, h1, h2⟩⟩
    intro g w kept vf vargs h1 h2 h3
    obtain ⟨Fr, h4, h5⟩ := h.1 g w kept vf vargs h1 h2 h3
    exact ⟨Fr, h4, fun c cs G hk => h5 c cs G fun v s' g' w' vv hQ hr => hk v s' g' w' vv ⟨hr.few, hQ⟩ hr⟩
  · intro f a s hf h
    obtain ⟨_, _, _, h⟩ := h.2 hf
    exact h

/-- What a callee made, and nothing tells, is forgotten. -/
theorem Rel.forget {X : Ctx} {g : Gh} {H : Heap} {s s' : St} {kept mine : Nat → Prop} (hr : Rel X g H s' kept mine) (hle : s ≤ s') : Rel X g H s kept mine := by
  have up : ∀ {l o}, s l = some o → s' l = some o := fun h => hle _ _ h
  refine { obj := fun l o h => hr.obj l o (up h), inj := fun l l' o o' b h1 h2 => hr.inj l l' o o' b (up h1) (up h2), zc := hr.zc, zmine := hr.zmine, zobj := fun b j l o hz h => hr.zobj b j l o hz (up h), tok := ?_, tokinj := fun t t' n n' x x' h1 h2 => hr.tokinj t t' n n' x x' (up h1) (up h2), fin := ?_, bmine := hr.bmine, bkept := hr.bkept, bobj := hr.bobj, btok := hr.btok, loops := fun l L b h => hr.loops l L b (up h), glob := hr.glob }
  · intro t n ht
    obtain ⟨b, base, sz, cap, h1, h2, h3, h4, h5, h6, h7⟩ := hr.tok t n (up ht)
    exact ⟨b, base, sz, cap, h1, h2, h3, h4, h5, h6, fun l o h => h7 l o (up h)⟩
  · obtain ⟨N, hN⟩ := hr.fin
    refine ⟨N, fun l hl => ⟨?_, (hN l hl).2⟩⟩
    cases h : s l with
    | none => rfl
    | some o => have h1 := (hN l hl).1; rw [up h] at h1; cases h1
theorem Evo.forget {g g' : Gh} {H H' : Heap} {s s' : St} {kept : Nat → Prop} (h : Evo g H s kept g' H' s') (hle : s ≤ s') : Evo g H s kept g' H' s := by
  refine ⟨h.le, h.stays, h.keep, h.size, h.znew, ?_, h.κ, fun _ h => h⟩
  intro l L hl
  obtain ⟨L', h1, h2⟩ := h.loops l L (hle _ _ hl)
  exact ⟨L', h1, h2⟩

section
variable {F : Fix} {g : Gh} {w : World} {s : St} {mine : Nat → Prop} {e : Env} {tmps : Array Value} {at_ : AT} {K : Env → St → Prop} {ops : Array Oper} {b : Frame} {df : List Deferred} {k : List Item} {cs : List Frame} {G : Machine → Prop} {rest : List Nat}

/-- A frame's blocks while it calls. -/
theorem Sim.called (hS : Sim F g w.heap s mine e tmps at_) {g' : Gh} {H' : Heap} {s' : St} (hr : Rel F.X g' H' s' (fun b => F.kept b ∨ mine b) (fun _ => False)) (he : Evo g w.heap s (fun b => F.kept b ∨ mine b) g' H' s') : Sim F g' H' s' mine e tmps at_ :=
  hS.heap (hS.rel.leave hr he) (he.weaken fun _ h => .inl h) fun b hb => he.keep b (.inr hb)

theorem getD_erase {th : Bool} {as : List Opd} {vs : Array Value} {nm : FuncId → Option Nat} {H : Heap} (h : EncL nm g H (as.map (ev e)) vs) : EncL nm g H (as.map fun a => pass th (ev e a)) vs := by
  refine ⟨by have := h.1; simp at this ⊢; exact this, fun j x hx => ?_⟩
  simp only [List.getElem?_map, Option.map_eq_some_iff] at hx
  obtain ⟨a, ha, rfl⟩ := hx
  exact (h.2 j (ev e a) (by simp [ha])).pass

theorem sim_call {o : Oper} {i : Nat} {c : Go.Call} {f : Operand} {d : Option Nat} {q : Bool} {fo : Opd} {xs : List Opd} (ho : ops[i]? = some o) (hwant : Region.wanted o (yielded ops tmps) = true) (hop : o.op = .call c) (hcal : c.callee = .value f)
    (hS : Sim F g w.heap s mine e tmps at_) (hod : o.dst = d) (hp : ∀ d', d = some d' → F.h.prom.contains d' = false ∧ d' < F.nt) (hf : F.X.opd F.h f = some fo) (hxs : F.X.opds F.h c.args = some xs)
    (hw : wpO (RCx F.X) (.call d q fo xs) e s K) {gd : Option (Nat × Bool)}
    (hk : ∀ e' s' g' w' tmps', K e' s' → Sim F g' w'.heap s' mine e' tmps' (AT.step at_ ⟨.call d q fo xs, gd⟩) → Reach F.X.P G (lone (mkF b tmps' df (.inRegion ops rest :: k)) cs w')) :
    Reach F.X.P G (lone (mkF b tmps df (.inRegion ops (i :: rest) :: k)) cs w) := by
  have hfE := hS.opd hf
  obtain ⟨th, hw⟩ := hw
  have haE := getD_erase (th := th) (hS.opds hxs)
  obtain ⟨Fr, hent, hgo⟩ := hw.1 g w (fun b => F.kept b ∨ mine b) _ _ hS.rel.enter hfE haE
  have hnd : ∀ c', o.op ≠ .defer c' := by rw [hop]; simp
  have hexec : execOp (valOf tmps) o = (do let d ← Deferred.ofValue (valOf tmps f) (c.args.map (valOf tmps)); invoke d.target d.args : Sem Next) := by
    simp only [execOp, hop, resolve, hcal]
  have hstep : step F.X.P (lone (mkF b tmps df (.inRegion ops (i :: rest) :: k)) cs w) = .next (lone Fr (mkF b tmps df (.inRegion ops (i :: rest) :: k) :: cs) w) := by
    rcases hent with ⟨f', as, hr, rfl⟩ | ⟨l, f', ts, x, y, hr, rfl⟩
    · exact m_op_enter ho hwant hnd (by rw [hexec]; exact hr)
    · exact m_op_round ho hwant hnd (by rw [hexec]; exact hr)
  refine Reach.step hstep (hgo _ _ _ fun v s' g' w' vv hQ hr he hv => ?_)
  rw [finish_mkF, ho]
  have hatm : ∀ y ∈ AT.step at_ ⟨.call d q fo xs, gd⟩, y ∈ at_ ∧ ∀ d', d = some d' → y.1 ≠ d' := by
    intro y hy
    rcases step_mem hy with h | h
    · simp [AT.adds] at h
    · refine ⟨h.1, ?_⟩
      rintro d' rfl rfl
      have := h.2
      simp [AT.kills, Op.wr] at this
  have fin : ∀ {g2 : Gh} {H2 : Heap} {s2 : St}, Sim F g2 H2 s2 mine e tmps at_ → Enc F.X.nm g2 H2 v vv → Sim F g2 H2 s2 mine (e.setO d v) (put tmps d vv) (AT.step at_ ⟨.call d q fo xs, gd⟩) := by
    intro g2 H2 s2 hS2 hv2
    cases d with
    | none => exact hS2.forget fun y hy => (hatm y hy).1
    | some d' => exact hS2.setVal (hp d' rfl).1 (hp d' rfl).2 hv2 fun y hy => ⟨(hatm y hy).1, (hatm y hy).2 d' rfl⟩
  simp only [Option.bind_some, hod]
  cases q with
  | true =>
    exact hk _ _ g' w' _ hQ.2 (fin (hS.called hr he) hv)
  | false => exact hk _ _ g' w' _ hQ (fin (hS.called hr he) hv)

theorem compile_call {X : Ctx} {h : Hint} {tab tab' : Tab} {o : Oper} {d : Option Nat} {q : Bool} {f : Opd} {args : List Opd} (hv : valueCall o.op = true) (hc : compileOp X h ops tab o = some (.call d q f args, tab')) :
    q = false ∧ ∃ c fv, o.op = .call c ∧ c.callee = .value fv ∧ X.opd h fv = some f ∧ X.opds h c.args = some args ∧ ∀ d', d = some d' → h.prom.contains d' = false := by
  cases hop : o.op with
  | call c =>
    obtain ⟨callee, as, ts⟩ := c
    cases callee with
    | value fv =>
      unfold compileOp at hc
      rw [hop] at hc
      simp only at hc
      split at hc
      · simp only [Option.bind_eq_bind, Option.bind_eq_some_iff] at hc
        obtain ⟨xs, hxs, hc⟩ := hc
        split at hc
        · simp only [Option.bind_eq_some_iff, Option.some.injEq] at hc
          obtain ⟨_, _, hc⟩ := hc
          cases hc
        · cases hc
      · split at hc
        · simp only [Option.bind_eq_bind, Option.bind_eq_some_iff, Option.some.injEq] at hc
          obtain ⟨d', hd, y, hy, xs, hxs, hc⟩ := hc
          cases hc
          obtain ⟨_, h2, _⟩ := cdst_inv hd
          exact ⟨rfl, _, _, rfl, rfl, hy, hxs, fun d'' h => by cases h; exact h2⟩
        · simp only [Option.bind_eq_bind, Option.bind_eq_some_iff, Option.some.injEq] at hc
          obtain ⟨y, hy, xs, hxs, hc⟩ := hc
          cases hc
          exact ⟨rfl, _, _, rfl, rfl, hy, hxs, by simp⟩
    | invoke r m => unfold compileOp at hc; rw [hop] at hc; cases hc
    | builtin b => rw [hop] at hv; simp [valueCall] at hv
  | _ => rw [hop] at hv; simp [valueCall] at hv
theorem yielded_of {j d : Nat} {b' : Bool} (hd : (ops[j]?).bind (·.dst) = some d) (hv : tmps.getD d Go.undef = .bool b') : yielded ops tmps j = some b' := by
  have h1 : tmps[d]? = some (.bool b') := by
    rw [Array.getD_eq_getD_getElem?] at hv
    cases h : tmps[d]? with
    | none => rw [h] at hv; cases hv
    | some v => rw [h] at hv; simp at hv; rw [hv]
  simp [yielded, hd, h1]

/-- One operation of a region, beside its instruction. -/
theorem simI {o : Oper} {i : Nat} {ins : Ins} (hI : InsOf F.X F.h ops o ins) (ho : ops[i]? = some o) (hS : Sim F g w.heap s mine e tmps at_) (hlt : ∀ d ∈ ins.op.wr, d < F.nt) (hn : AT.needs at_ ins.op = true) (hwr : ∀ p ∈ ins.op.pw, F.wr p = true)
    (hw : wpI (RCx F.X) ins e s K)
    (hk : ∀ e' s' g' w' mine' tmps', K e' s' → Sim F g' w'.heap s' mine' e' tmps' (AT.step at_ ins) → Reach F.X.P G (lone (mkF b tmps' df (.inRegion ops rest :: k)) cs w')) :
    Reach F.X.P G (lone (mkF b tmps df (.inRegion ops (i :: rest) :: k)) cs w) := by
  -- carried out
  have run : Region.wanted o (yielded ops tmps) = true → wpO (RCx F.X) ins.op e s K → Reach F.X.P G (lone (mkF b tmps df (.inRegion ops (i :: rest) :: k)) cs w) := by
    intro hwant hw
    have hnd := hI.noDefer
    obtain ⟨tab, tab', po, c1, c2, c3, c5, c4⟩ := hI.op
    by_cases hcall : po.isCall = true
    · -- a call
      have hop : ∃ c f d fo xs, o.op = .call c ∧ c.callee = .value f ∧ F.X.opd F.h f = some fo ∧ F.X.opds F.h c.args = some xs ∧ po = .call d false fo xs ∧ (∀ d', d = some d' → F.h.prom.contains d' = false) := by
        cases po <;> simp only [Op.isCall, Bool.false_eq_true] at hcall
        have c5 := c5 rfl
        obtain ⟨rfl, c, fv, q1, q2, q3, q4, q5⟩ := compile_call c5 c1
        exact ⟨c, fv, _, _, _, q1, q2, q3, q4, rfl, q5⟩
      obtain ⟨c, f, d, fo, xs, h1, h2, h3, h4, rfl, h6⟩ := hop
      have hq : ∃ q, ins.op = .call d q fo xs := by
        rcases c4 with c4 | ⟨d', f', args', c5, c4⟩
        · exact ⟨false, c4⟩
        · cases c5; exact ⟨true, c4⟩
      obtain ⟨q, hq⟩ := hq
      obtain ⟨op, gd⟩ := ins
      simp only at hq
      subst hq
      exact sim_call ho hwant h1 h2 hS c2.symm (fun d' hd' => ⟨h6 d' hd', hlt d' (by subst hd'; simp [Op.wr])⟩) h3 h4 hw fun e' s' g' w' tmps' hK hS' => hk e' s' g' w' mine tmps' hK hS'
    · have hcall : po.isCall = false := by simpa using hcall
      have hpo : ins.op = po := by
        rcases c4 with c4 | ⟨d', f', args', rfl, c4⟩
        · exact c4
        · simp [Op.isCall] at hcall
      obtain ⟨op, gd⟩ := ins
      simp only at hpo
      subst hpo
      obtain ⟨v, w', hr, hos, e', s', g', mine', hK, hS'⟩ := sim_op (gd := gd) hS c1 c2 hlt hn hwr hw hcall
      refine Reach.step ?_ (hk e' s' g' w' mine' _ hK hS') hos
      rcases hr with hr | ⟨hr, rfl⟩
      · exact m_op_value ho hwant hnd hr
      · exact m_op_none ho hwant hnd hr
  rcases hI.guard with ⟨g1, g2⟩ | ⟨j, want, d, g1, g2, g3, g4⟩
  · unfold wpI at hw
    rw [g2] at hw
    exact run (by simp [Region.wanted, g1]) hw
  · unfold wpI at hw
    rw [g4] at hw
    simp only at hw
    split at hw
    · rename_i b' hb
      have hE := (SlotOk.val g3).1 (hS.slots d)
      rw [hb] at hE
      have hy := yielded_of g2 hE.of_bool
      split at hw
      · rename_i hbw
        exact run (by simp [Region.wanted, g1, hy, hbw]) hw
      · rename_i hbw
        refine Reach.step (m_op_skip (by simp [ho, Region.wanted, g1, hy, hbw])) ?_
        rw [ho]
        simp only [Option.bind_some]
        rw [← hI.dst]
        exact hk _ _ _ _ _ _ hw (hS.skip fun d hd hp => hI.prom hd hp)
    · rename_i hb
      have hE := (SlotOk.val g3).1 (hS.slots d)
      rw [hb] at hE
      have hy : yielded ops tmps j = none := by
        have hv : tmps.getD d Go.undef = .tuple #[] := hE.of_tup0
        have h1 : tmps[d]? = none ∨ tmps[d]? = some (.tuple #[]) := by
          cases h : tmps[d]? with
          | none => exact .inl rfl
          | some v => rw [Array.getD_eq_getD_getElem?, h] at hv; exact .inr (congrArg some hv)
        rcases h1 with h1 | h1 <;> simp [yielded, g2, h1]
      refine Reach.step (m_op_skip (by simp [ho, Region.wanted, g1, hy])) ?_
      rw [ho]
      simp only [Option.bind_some]
      rw [← hI.dst]
      exact hk _ _ _ _ _ _ hw (hS.skip fun d hd hp => hI.prom hd hp)
    · exact hw.elim
end
end Go.Hu

set_option linter.unusedSimpArgs false
set_option linter.unusedVariables false
namespace Go.Hu

theorem mem_step {t : AT} {i : Ins} {y : Nat × Option Nat} : y ∈ AT.step t i ↔ AT.adds i = some y ∨ (y ∈ t ∧ AT.kills i y = false) := by
  unfold AT.step
  rw [List.mem_append]
  simp
theorem adds_wr {i : Ins} {y : Nat × Option Nat} (h : AT.adds i = some y) : y.1 ∈ i.op.wr ∧ ∀ p, y.2 = some p → p ∈ i.op.reads := by
  obtain ⟨op, gd⟩ := i
  cases op <;> simp only [AT.adds, reduceCtorEq, Option.some.injEq] at h <;> subst h <;> simp [Op.wr, Op.reads]
theorem wants_reads {o : Op} {y : Nat × Option Nat} (h : AT.wants o = some y) : y.1 ∈ o.reads ∧ ∀ p, y.2 = some p → p ∈ o.reads := by
  cases o <;> simp only [AT.wants, reduceCtorEq] at h
  case la d p q off => cases q <;> simp at h; subst h; simp [Op.reads]
  case lia d p q len sz i => cases q <;> simp at h; subst h; simp [Op.reads]
  case lload d p q sh => simp at h; subst h; simp [Op.reads]
  case lstore p q sh x => simp at h; subst h; simp [Op.reads]
  case rinit p sh x => simp at h; subst h; simp [Op.reads]
  case hinit p sh x => simp at h; subst h; simp [Op.reads]
/-- What an instruction kills, it writes. -/
theorem kills_wr {i : Ins} {y : Nat × Option Nat} (h : AT.kills i y = true) : y.1 ∈ i.op.wr ∨ ∃ p, y.2 = some p ∧ p ∈ i.op.wr := by
  unfold AT.kills at h
  simp only [Bool.or_eq_true] at h
  rcases h with h | h
  · exact .inl (by simpa using h)
  · obtain ⟨op, gd⟩ := i
    cases op <;> simp at h
    exact .inr ⟨_, h, by simp [Op.wr]⟩
theorem needs_iff {t : AT} {o : Op} : AT.needs t o = true ↔ ∀ y, AT.wants o = some y → y ∈ t := by
  unfold AT.needs
  cases AT.wants o <;> simp
theorem scan_congr : ∀ {is : List Ins} {t t' : AT}, (∀ y, y ∈ t ↔ y ∈ t') → scanOk t is = true → scanOk t' is = true
  | [], _, _, _, _ => rfl
  | i :: is, t, t', h, hs => by
    simp only [scanOk, Bool.and_eq_true] at hs ⊢
    refine ⟨needs_iff.2 fun y hy => (h y).1 (needs_iff.1 hs.1 y hy), scan_congr (fun y => ?_) hs.2⟩
    rw [mem_step, mem_step, h y]
/-- An instruction that all before it may stand behind: first. -/
theorem scan_front {i : Ins} {bs : List Ins} : ∀ {as : List Ins} {t : AT}, (∀ a ∈ as, a.free i = true) → scanOk t (as ++ i :: bs) = true → AT.needs t i.op = true ∧ scanOk (AT.step t i) (as ++ bs) = true
  | [], t, _, h => by simpa [scanOk] using h
  | a :: as, t, hf, h => by
    simp only [List.cons_append, scanOk, Bool.and_eq_true] at h
    obtain ⟨h1, h2⟩ := scan_front (as := as) (t := AT.step t a) (fun a' ha => hf a' (by simp [ha])) h.2
    have hfree := hf a (by simp)
    unfold Ins.free at hfree
    simp only [Bool.and_eq_true, Ins.writes] at hfree
    obtain ⟨⟨⟨d1, d2⟩, d3⟩, d4⟩ := hfree
    have rd : ∀ {j : Ins} {x : Nat}, x ∈ j.op.reads → x ∈ j.reads := fun h => by simp [Ins.reads, h]
    have e1 : AT.needs t i.op = true := by
      refine needs_iff.2 fun y hy => ?_
      rcases mem_step.1 (needs_iff.1 h1 y hy) with hh | hh
      · exact absurd (rd (wants_reads hy).1) (disj_not d1 (adds_wr hh).1)
      · exact hh.1
    refine ⟨e1, ?_⟩
    simp only [List.cons_append, scanOk, Bool.and_eq_true]
    refine ⟨needs_iff.2 fun y hy => mem_step.2 (.inr ⟨needs_iff.1 h.1 y hy, ?_⟩), scan_congr (fun y => ?_) h2⟩
    · cases hk : AT.kills i y with
      | false => rfl
      | true =>
        exfalso
        rcases kills_wr hk with hw | ⟨p, hp, hw⟩
        · exact disj_not d3 (rd (wants_reads hy).1) hw
        · exact disj_not d3 (rd ((wants_reads hy).2 p hp)) hw
    · have ka : AT.adds i = some y → AT.kills a y = false := fun hh => by
        cases hk : AT.kills a y with
        | false => rfl
        | true =>
          exfalso
          rcases kills_wr hk with hw | ⟨p, hp, hw⟩
          · exact disj_not d2 hw (adds_wr hh).1
          · exact disj_not d1 hw (rd ((adds_wr hh).2 p hp))
      have ki : AT.adds a = some y → AT.kills i y = false := fun hh => by
        cases hk : AT.kills i y with
        | false => rfl
        | true =>
          exfalso
          rcases kills_wr hk with hw | ⟨p, hp, hw⟩
          · exact disj_not d2 (adds_wr hh).1 hw
          · exact disj_not d3 (rd ((adds_wr hh).2 p hp)) hw
      rw [mem_step, mem_step, mem_step, mem_step]
      constructor
      · rintro (hh | ⟨hh | ⟨hh, k1⟩, k2⟩)
        · exact .inr ⟨.inl hh, ka hh⟩
        · exact .inl hh
        · exact .inr ⟨.inr ⟨hh, k2⟩, k1⟩
      · rintro (hh | ⟨hh | ⟨hh, k1⟩, k2⟩)
        · exact .inr ⟨.inl hh, ki hh⟩
        · exact .inl hh
        · exact .inr ⟨.inr ⟨hh, k2⟩, k1⟩

/-- An order in which instructions are carried out: each may stand ahead of those that are left before it. -/
def OrdOk : List Nat → List (Nat × Ins) → Prop
  | [], L => L = []
  | i :: l, L => ∃ A x B, L = A ++ (i, x) :: B ∧ (∀ a ∈ A, a.2.free x = true) ∧ OrdOk l (A ++ B)
theorem OrdOk.text : ∀ (L : List (Nat × Ins)), OrdOk (L.map (·.1)) L
  | [] => rfl
  | (i, x) :: L => ⟨[], x, L, rfl, by simp, OrdOk.text L⟩

section
variable {F : Fix} {b : Frame} {df : List Deferred} {k : List Item} {cs : List Frame} {G : Machine → Prop} {ops : Array Oper} {K : Env → St → Prop}

theorem simL : ∀ (l : List Nat) (L : List (Nat × Ins)) (e : Env) (s : St) (g : Gh) (w : World) (mine : Nat → Prop) (tmps : Array Value) (at_ : AT), OrdOk l L →
    (∀ p ∈ L, ∃ o, ops[p.1]? = some o ∧ InsOf F.X F.h ops o p.2 ∧ (∀ d ∈ p.2.op.wr, d < F.nt) ∧ ∀ q ∈ p.2.op.pw, F.wr q = true) →
    scanOk at_ (L.map (·.2)) = true → wpIs (RCx F.X) (L.map (·.2)) e s K → Sim F g w.heap s mine e tmps at_ →
    (∀ e' s' g' w' mine' tmps' at', K e' s' → Sim F g' w'.heap s' mine' e' tmps' at' → Reach F.X.P G (lone (mkF b tmps' df (.inRegion ops [] :: k)) cs w')) →
    Reach F.X.P G (lone (mkF b tmps df (.inRegion ops l :: k)) cs w)
  | [], L, e, s, g, w, mine, tmps, at_, ho, _, _, hw, hS, hk => by
    simp only [OrdOk] at ho
    subst ho
    exact hk e s g w mine tmps at_ hw hS
  | i :: l, L, e, s, g, w, mine, tmps, at_, ho, hL, hsc, hw, hS, hk => by
    obtain ⟨A, x, B, rfl, hfree, hrest⟩ := ho
    obtain ⟨o, h1, h2, h3, h4⟩ := hL (i, x) (by simp)
    have hfree' : ∀ a ∈ A.map (·.2), a.free x = true := fun a ha => by
      obtain ⟨p, hp, rfl⟩ := List.mem_map.1 ha
      exact hfree p hp
    simp only [List.map_append, List.map_cons] at hsc hw
    obtain ⟨s1, s2⟩ := scan_front hfree' hsc
    have hw1 := wpIs_front RCx.good hS.rel.few hfree' hw
    refine simI h2 h1 hS h3 s1 h4 hw1 fun e' s' g' w' mine' tmps' hK hS' => ?_
    refine simL l (A ++ B) e' s' g' w' mine' tmps' _ hrest (fun p hp => hL p ?_) (by rw [List.map_append]; exact s2) (by rw [List.map_append]; exact hK) hS' hk
    rcases List.mem_append.1 hp with h | h
    · simp [h]
    · simp [h]
end

/-! ## Drawn orders -/
def bstep (acc : List Nat) (o : Oper) : Nat := o.after.toList.foldl (fun s ed => if Region.binds .any ed then s ||| 2 ^ ed.on ||| acc.getD ed.on 0 else s) 0
theorem bstep_bit {acc : List Nat} {o : Oper} {j : Nat} (h : (bstep acc o).testBit j = true) : ∃ ed ∈ o.after.toList, Region.binds .any ed = true ∧ (ed.on = j ∨ (acc.getD ed.on 0).testBit j = true) := by
  unfold bstep at h
  have key : ∀ (l : List Edge) (s : Nat), (l.foldl (fun s ed => if Region.binds .any ed then s ||| 2 ^ ed.on ||| acc.getD ed.on 0 else s) s).testBit j = true → s.testBit j = true ∨ ∃ ed ∈ l, Region.binds .any ed = true ∧ (ed.on = j ∨ (acc.getD ed.on 0).testBit j = true) := by
    intro l
    induction l with
    | nil => intro s h; exact .inl h
    | cons ed l ih =>
      intro s h
      simp only [List.foldl_cons] at h
      rcases ih _ h with h | ⟨ed', h1, h2⟩
      · by_cases hb : Region.binds .any ed = true
        · rw [if_pos hb] at h
          simp only [Nat.testBit_or, Bool.or_eq_true, Nat.testBit_two_pow, decide_eq_true_eq] at h
          rcases h with (h | h) | h
          · exact .inl h
          · exact .inr ⟨ed, by simp, hb, .inl h⟩
          · exact .inr ⟨ed, by simp, hb, .inr h⟩
        · rw [if_neg hb] at h; exact .inl h
      · exact .inr ⟨ed', by simp [h1], h2⟩
  rcases key _ _ h with h | h
  · simp at h
  · exact h
theorem befores_eq (ops : Array Oper) : befores ops = ops.toList.foldl (fun acc o => acc ++ [bstep acc o]) [] := rfl
theorem fold_len : ∀ (os : List Oper) (acc : List Nat), (os.foldl (fun acc o => acc ++ [bstep acc o]) acc).length = acc.length + os.length
  | [], acc => by simp
  | o :: os, acc => by simp only [List.foldl_cons, fold_len os, List.length_append, List.length_cons, List.length_nil]; omega
theorem fold_old : ∀ (os : List Oper) (acc : List Nat) (j : Nat), j < acc.length → (os.foldl (fun acc o => acc ++ [bstep acc o]) acc).getD j 0 = acc.getD j 0
  | [], acc, j, _ => rfl
  | o :: os, acc, j, h => by
    simp only [List.foldl_cons]
    rw [fold_old os _ j (by simp; omega)]
    simp only [List.getD_eq_getElem?_getD]
    rw [List.getElem?_append_left h]
theorem fold_at : ∀ (os : List Oper) (acc : List Nat) (i : Nat) (o : Oper), os[i]? = some o →
    (os.foldl (fun acc o => acc ++ [bstep acc o]) acc).getD (acc.length + i) 0 = bstep ((os.take i).foldl (fun acc o => acc ++ [bstep acc o]) acc) o
  | [], _, _, _, h => by simp at h
  | x :: os, acc, 0, o, h => by
    simp at h
    subst h
    simp only [List.foldl_cons, List.take_zero, List.foldl_nil, Nat.add_zero]
    rw [fold_old os _ acc.length (by simp)]
    simp
  | x :: os, acc, i + 1, o, h => by
    have := fold_at os (acc ++ [bstep acc x]) i o (by simpa using h)
    simp only [List.length_append, List.length_cons, List.length_nil] at this
    simp only [List.foldl_cons, List.take_succ_cons]
    rw [← this]
    congr 1
    omega
/-- What comes before an operation: an edge's end, or what comes before it. -/
theorem befores_bit {ops : Array Oper} {i j : Nat} {o : Oper} (ho : ops[i]? = some o) (hed : ∀ ed ∈ o.after.toList, Region.binds .any ed = true → ed.on < i) (h : ((befores ops).getD i 0).testBit j = true) :
    ∃ ed ∈ o.after.toList, Region.binds .any ed = true ∧ (ed.on = j ∨ ((befores ops).getD ed.on 0).testBit j = true) := by
  rw [befores_eq] at h ⊢
  have h1 := fold_at ops.toList [] i o (by simpa using ho)
  simp only [List.length_nil, Nat.zero_add] at h1
  rw [h1] at h
  obtain ⟨ed, h2, h3, h4⟩ := bstep_bit h
  refine ⟨ed, h2, h3, h4.imp id fun h4 => ?_⟩
  have hlt := hed ed h2 h3
  have hi : i < ops.toList.length := by
    have := (Array.getElem?_eq_some_iff.1 ho).1
    simpa using this
  have e2 : ops.toList.foldl (fun acc o => acc ++ [bstep acc o]) [] = (ops.toList.drop i).foldl (fun acc o => acc ++ [bstep acc o]) ((ops.toList.take i).foldl (fun acc o => acc ++ [bstep acc o]) []) := by
    rw [← List.foldl_append, List.take_append_drop]
  rw [e2, fold_old _ _ ed.on (by rw [fold_len]; simp; simp at hi; omega)]
  exact h4

/-- Instructions with their places. -/
def textFrom : Nat → List Ins → List (Nat × Ins)
  | _, [] => []
  | k, x :: xs => (k, x) :: textFrom (k + 1) xs
theorem textFrom_snd : ∀ (k : Nat) (is : List Ins), (textFrom k is).map (·.2) = is
  | _, [] => rfl
  | k, x :: xs => by simp [textFrom, textFrom_snd (k + 1) xs]
theorem textFrom_fst : ∀ (k : Nat) (is : List Ins), (textFrom k is).map (·.1) = List.range' k is.length
  | _, [] => rfl
  | k, x :: xs => by simp [textFrom, textFrom_fst (k + 1) xs, List.range'_succ]
theorem textFrom_mem : ∀ {k : Nat} {is : List Ins} {i : Nat} {x : Ins}, (i, x) ∈ textFrom k is ↔ k ≤ i ∧ is[i - k]? = some x
  | k, [], i, x => by simp [textFrom]
  | k, y :: ys, i, x => by
    simp only [textFrom, List.mem_cons, Prod.mk.injEq, textFrom_mem (k := k + 1) (is := ys)]
    constructor
    · rintro (⟨rfl, rfl⟩ | ⟨h1, h2⟩)
      · exact ⟨Nat.le_refl _, by simp⟩
      · refine ⟨by omega, ?_⟩
        obtain ⟨m, hm⟩ : ∃ m, i - k = m + 1 := ⟨i - k - 1, by omega⟩
        rw [hm]
        have : i - (k + 1) = m := by omega
        rw [this] at h2
        simpa using h2
    · rintro ⟨h1, h2⟩
      by_cases e1 : i = k
      · subst e1; simp at h2; exact .inl ⟨rfl, h2.symm⟩
      · right
        refine ⟨by omega, ?_⟩
        obtain ⟨m, hm⟩ : ∃ m, i - k = m + 1 := ⟨i - k - 1, by omega⟩
        rw [hm] at h2
        have : i - (k + 1) = m := by omega
        rw [this]
        simpa using h2
theorem textFrom_sorted : ∀ (k : Nat) (is : List Ins), (textFrom k is).Pairwise (fun p q => p.1 < q.1)
  | _, [] => .nil
  | k, x :: xs => by
    refine .cons (fun q hq => ?_) (textFrom_sorted (k + 1) xs)
    obtain ⟨i, y⟩ := q
    have := (textFrom_mem.1 hq).1
    simp only
    omega

def rem (is : List Ins) (listed : Array Bool) : List (Nat × Ins) := (textFrom 0 is).filter fun p => !listed.getD p.1 true
theorem rem_mem {is : List Ins} {listed : Array Bool} {i : Nat} {x : Ins} : (i, x) ∈ rem is listed ↔ is[i]? = some x ∧ listed.getD i true = false := by
  unfold rem
  rw [List.mem_filter, textFrom_mem]
  simp

theorem go_acc (ops : Array Oper) : ∀ (fuel t : Nat) (listed : Array Bool) (acc : List Nat), Region.linearise.go .any ops fuel t listed acc = acc.reverse ++ Region.linearise.go .any ops fuel t listed [] := linearise_go_acc .any ops

theorem ord_go {ops : Array Oper} {is : List Ins} (hlen : is.length = ops.size) (hp : pairsOk (befores ops) is = true) (hed : ∀ i o, ops[i]? = some o → ∀ ed ∈ o.after.toList, Region.binds .any ed = true → ed.on < i) :
    ∀ (fuel t : Nat) (listed : Array Bool), listed.size = ops.size → (∀ j, j < ops.size → listed.getD j true = true → ∀ i, ((befores ops).getD j 0).testBit i = true → listed.getD i true = true) → (rem is listed).length ≤ fuel →
      OrdOk (Region.linearise.go .any ops fuel t listed []) (rem is listed)
  | 0, t, listed, _, _, hf => by
    have : rem is listed = [] := List.eq_nil_of_length_eq_zero (by omega)
    rw [this]
    rfl
  | fuel + 1, t, listed, hsz, hcl, hf => by
    have hready : ∀ i, i ∈ Region.ready .any ops listed ↔ i < ops.size ∧ listed.getD i true = false ∧ ∀ o, ops[i]? = some o → ∀ ed ∈ o.after.toList, Region.binds .any ed = true → listed.getD ed.on false = true := by
      intro i
      unfold Region.ready
      rw [List.mem_filter, List.mem_range]
      constructor
      · rintro ⟨h1, h2⟩
        simp only [Bool.and_eq_true, Bool.not_eq_true'] at h2
        refine ⟨h1, h2.1, fun o ho ed hed' hb => ?_⟩
        have h3 := h2.2
        rw [ho] at h3
        simp only [Option.map_some, Option.getD_some] at h3
        have := Array.all_eq_true_iff_forall_mem.1 h3 ed (by simpa using hed')
        simpa [hb] using this
      · rintro ⟨h1, h2, h3⟩
        refine ⟨h1, ?_⟩
        have ho : ops[i]? = some ops[i] := by simp [h1]
        simp only [h2, ho, Option.map_some, Option.getD_some, Bool.not_false, Bool.true_and]
        rw [Array.all_eq_true_iff_forall_mem]
        intro ed hm
        cases hb : Region.binds .any ed with
        | false => rfl
        | true => simpa using h3 _ ho ed (by simpa using hm) hb
    simp only [Region.linearise.go]
    change OrdOk (match (Region.ready .any ops listed)[t % (Region.ready .any ops listed).length]? with
      | some i => Region.linearise.go .any ops fuel (t / (Region.ready .any ops listed).length) (listed.setIfInBounds i true) [i]
      | none => [].reverse) (rem is listed)
    cases hi : (Region.ready .any ops listed)[t % (Region.ready .any ops listed).length]? with
    | none =>
      have hnil : Region.ready .any ops listed = [] := by
        cases hr : Region.ready .any ops listed with
        | nil => rfl
        | cons x xs =>
          rw [hr] at hi
          have hlt : t % (x :: xs).length < (x :: xs).length := Nat.mod_lt _ (by simp)
          rw [List.getElem?_eq_none_iff] at hi
          omega
      -- none is left
      have hrem : rem is listed = [] := by
        cases hr : rem is listed with
        | nil => rfl
        | cons p ps =>
          exfalso
          -- the first that is left is ready
          have hsorted : (rem is listed).Pairwise (fun p q => p.1 < q.1) := (textFrom_sorted 0 is).filter _
          obtain ⟨i0, x0⟩ := p
          have hm : (i0, x0) ∈ rem is listed := by rw [hr]; simp
          obtain ⟨m1, m2⟩ := rem_mem.1 hm
          have hlt : i0 < ops.size := by rw [← hlen]; exact (List.getElem?_eq_some_iff.1 m1).1
          have : i0 ∈ Region.ready .any ops listed := by
            refine (hready i0).2 ⟨hlt, m2, fun o ho ed he hb => ?_⟩
            have h1 := hed i0 o ho ed he hb
            cases h2 : listed.getD ed.on false with
            | true => rfl
            | false =>
              exfalso
              have h3 : listed.getD ed.on true = false := by
                have hlt2 : ed.on < listed.size := by omega
                simp only [Array.getD, hlt2, dif_pos] at h2 ⊢
                exact h2
              have hx : ∃ x, is[ed.on]? = some x := ⟨is[ed.on]'(by omega), by simp⟩
              obtain ⟨x, hx⟩ := hx
              have hm2 : (ed.on, x) ∈ rem is listed := rem_mem.2 ⟨hx, h3⟩
              rw [hr] at hm2 hsorted
              rcases List.mem_cons.1 hm2 with e1 | e1
              · cases e1; omega
              · have := (List.pairwise_cons.1 hsorted).1 _ e1
                simp only at this
                omega
          rw [hnil] at this
          cases this
      rw [hrem]
      rfl
    | some i =>
      have him := List.mem_of_getElem? hi
      obtain ⟨h1, h2, h3⟩ := (hready i).1 him
      obtain ⟨x, hx⟩ : ∃ x, is[i]? = some x := ⟨is[i]'(by omega), by simp⟩
      have hm : (i, x) ∈ rem is listed := rem_mem.2 ⟨hx, h2⟩
      have hsorted : (rem is listed).Pairwise (fun p q => p.1 < q.1) := (textFrom_sorted 0 is).filter _
      obtain ⟨A, B, hAB⟩ := List.append_of_mem hm
      rw [hAB] at hsorted
      obtain ⟨s1, s2, s3⟩ := List.pairwise_append.1 hsorted
      have hA : ∀ a ∈ A, a.1 < i := fun a ha => s3 a ha (i, x) (by simp)
      have hB : ∀ q ∈ B, i < q.1 := fun q hq => (List.pairwise_cons.1 s2).1 q hq
      simp only
      rw [go_acc]
      simp only [List.reverse_singleton, List.singleton_append]
      refine ⟨A, x, B, hAB, ?_, ?_⟩
      · intro a ha
        obtain ⟨j, y⟩ := a
        have hja := hA _ ha
        simp only at hja
        have hma : (j, y) ∈ rem is listed := by rw [hAB]; simp [ha]
        obtain ⟨n1, n2⟩ := rem_mem.1 hma
        unfold pairsOk at hp
        rw [List.all_eq_true] at hp
        have hp1 := hp (y, j) (by rw [List.mem_zipIdx_iff_getElem?]; exact n1)
        simp only [List.all_eq_true] at hp1
        have hp2 := hp1 (x, i) (by rw [List.mem_zipIdx_iff_getElem?]; exact hx)
        simp only [hja, decide_true, Bool.not_true, Bool.false_or, Bool.or_eq_true] at hp2
        rcases hp2 with hb | hb
        · exfalso
          have ho : ops[i]? = some ops[i] := by simp [h1]
          obtain ⟨ed, e1, e2, e3⟩ := befores_bit ho (hed i _ ho) hb
          have hl := h3 _ ho ed e1 e2
          have hlt := hed i _ ho ed e1 e2
          have hl' : listed.getD ed.on true = true := by
            have hlt2 : ed.on < listed.size := by omega
            simp only [Array.getD, hlt2, dif_pos] at hl ⊢
            exact hl
          rcases e3 with e3 | e3
          · rw [e3] at hl'; rw [hl'] at n2; cases n2
          · have := hcl ed.on (by omega) hl' j e3
            rw [this] at n2; cases n2
        · exact hb
      · have hrem : rem is (listed.setIfInBounds i true) = A ++ B := by
          have hisz : i < listed.size := by omega
          have e1 : rem is (listed.setIfInBounds i true) = (rem is listed).filter fun p => p.1 != i := by
            unfold rem
            rw [List.filter_filter]
            apply List.filter_congr
            intro p _
            by_cases hpi : p.1 = i
            · rw [hpi]
              simp [Array.getD, hisz]
            · rw [Array.getD_eq_getD_getElem?, Array.getElem?_setIfInBounds_ne (fun h => hpi h.symm), ← Array.getD_eq_getD_getElem?]
              simp [hpi]
          rw [e1, hAB, List.filter_append, List.filter_cons]
          have f1 : A.filter (fun p => p.1 != i) = A := List.filter_eq_self.2 fun a ha => by have := hA a ha; simp; omega
          have f2 : B.filter (fun p => p.1 != i) = B := List.filter_eq_self.2 fun a ha => by have := hB a ha; simp; omega
          simp [f1, f2]
        rw [← hrem]
        refine ord_go hlen hp hed fuel _ _ (by simpa using hsz) ?_ ?_
        · intro j hj hl i' hb
          by_cases e1 : j = i
          · subst e1
            have ho : ops[j]? = some ops[j] := by simp [h1]
            obtain ⟨ed, q1, q2, q3⟩ := befores_bit ho (hed j _ ho) hb
            have hl2 := h3 _ ho ed q1 q2
            have hlt := hed j _ ho ed q1 q2
            have hl' : listed.getD ed.on true = true := by
              have hlt2 : ed.on < listed.size := by omega
              simp only [Array.getD, hlt2, dif_pos] at hl2 ⊢
              exact hl2
            have up : ∀ m, listed.getD m true = true → (listed.setIfInBounds j true).getD m true = true := by
              intro m hm
              by_cases e2 : j = m
              · subst e2
                have hisz : j < listed.size := by omega
                simp [Array.getD, hisz]
              · rw [Array.getD_eq_getD_getElem?, Array.getElem?_setIfInBounds_ne e2, ← Array.getD_eq_getD_getElem?]; exact hm
            rcases q3 with q3 | q3
            · rw [← q3]; exact up _ hl'
            · exact up _ (hcl ed.on (by omega) hl' i' q3)
          · have hl0 : listed.getD j true = true := by
              rw [Array.getD_eq_getD_getElem?, Array.getElem?_setIfInBounds_ne (fun h => e1 h.symm), ← Array.getD_eq_getD_getElem?] at hl
              exact hl
            have h0 := hcl j hj hl0 i' hb
            by_cases e2 : i = i'
            · subst e2
              have hisz : i < listed.size := by omega
              simp [Array.getD, hisz]
            · rw [Array.getD_eq_getD_getElem?, Array.getElem?_setIfInBounds_ne e2, ← Array.getD_eq_getD_getElem?]; exact h0
        · rw [hrem]
          rw [hAB] at hf
          simp at hf ⊢
          omega
theorem ord_drawn {ops : Array Oper} {is : List Ins} (hlen : is.length = ops.size) (hp : pairsOk (befores ops) is = true) (hed : ∀ i o, ops[i]? = some o → ∀ ed ∈ o.after.toList, Region.binds .any ed = true → ed.on < i) (t : Nat) :
    OrdOk (Region.linearise .any ops t) (textFrom 0 is) := by
  have hrem : rem is (Array.replicate ops.size false) = textFrom 0 is := by
    unfold rem
    rw [List.filter_eq_self]
    rintro ⟨i, x⟩ hm
    have h1 := (List.getElem?_eq_some_iff.1 (textFrom_mem.1 hm).2).1
    have : i < ops.size := by omega
    simp [Array.getD, this]
  rw [← hrem]
  unfold Region.linearise
  refine ord_go hlen hp hed ops.size t _ (by simp) ?_ ?_
  · intro j hj hl
    simp [Array.getD, hj] at hl
  · rw [hrem]
    have := congrArg List.length (textFrom_snd 0 is)
    simp at this
    omega
end Go.Hu

set_option linter.unusedSimpArgs false
set_option linter.unusedVariables false
namespace Go.Hu

/-! ## Regions -/
theorem quieted_step {t : AT} {i : Ins} : AT.step t (quieted i) = AT.step t i := by
  unfold quieted
  split
  · rename_i d q f args h
    obtain ⟨op, gd⟩ := i
    simp only at h
    subst h
    rfl
  · rfl
theorem quieted_needs {t : AT} {i : Ins} : AT.needs t (quieted i).op = AT.needs t i.op := by
  unfold quieted
  split
  · rename_i d q f args h
    obtain ⟨op, gd⟩ := i
    simp only at h
    subst h
    rfl
  · rfl
theorem quieted_wr {i : Ins} : (quieted i).op.wr = i.op.wr := by
  unfold quieted
  split
  · rename_i d q f args h
    obtain ⟨op, gd⟩ := i
    simp only at h
    subst h
    rfl
  · rfl
theorem scan_quiet (f : Ins × Nat → Ins) (hf : ∀ p, f p = p.1 ∨ f p = quieted p.1) : ∀ (l : List (Ins × Nat)) (t : AT), scanOk t (l.map f) = scanOk t (l.map (·.1))
  | [], _ => rfl
  | p :: l, t => by
    simp only [List.map_cons, scanOk]
    rw [scan_quiet f hf l]
    rcases hf p with h | h <;> rw [h]
    rw [quieted_step, quieted_needs]
def markF (bs : List Nat) (is : List Ins) : Ins × Nat → Ins := fun (x, i) =>
  if (x.op.cls matches .call _) && (is.zipIdx.any fun (y, j) => (y.op.cls == .readC || y.op.cls == .readM) && !(if i < j then (bs.getD j 0).testBit i else (bs.getD i 0).testBit j)) then quieted x else x
theorem mark_eq (bs : List Nat) (is : List Ins) : markQuiet bs is = is.zipIdx.map (markF bs is) := rfl
theorem markF_or (bs : List Nat) (is : List Ins) (p : Ins × Nat) : markF bs is p = p.1 ∨ markF bs is p = quieted p.1 := by
  obtain ⟨x, i⟩ := p
  have key : ∀ (c : Prop) [Decidable c] (x y : Ins), (if c then x else y) = y ∨ (if c then x else y) = x := fun c _ x y => by by_cases h : c <;> simp [h]
  exact key _ _ _
theorem InsOf.quieted {X : Ctx} {h : Hint} {ops : Array Oper} {o : Oper} {i : Ins} (hI : InsOf X h ops o i) : InsOf X h ops o (quieted i) := by
  obtain ⟨⟨tab, tab', po, c1, c2, c3, c5, c4⟩, hg⟩ := hI
  obtain ⟨op, gd⟩ := i
  unfold Hu.quieted
  split
  · rename_i d q f args h
    simp only at h
    subst h
    refine ⟨⟨tab, tab', po, c1, c2, c3, c5, ?_⟩, hg⟩
    rcases c4 with rfl | ⟨d', f', args', rfl, h⟩
    · obtain ⟨rfl, _⟩ := compile_call (c5 rfl) c1
      exact .inr ⟨_, _, _, rfl, rfl⟩
    · cases h
      exact .inr ⟨_, _, _, rfl, rfl⟩
  · exact ⟨⟨tab, tab', po, c1, c2, c3, c5, c4⟩, hg⟩

theorem compileReg_inv {X : Ctx} {h : Hint} {ops : Array Oper} {draw : Bool} {is : List Ins} (hc : compileReg X h ops draw = some is) :
    is.length = ops.size ∧ (∀ (j : Nat) o i, ops[j]? = some o → is[j]? = some i → InsOf X h ops o i) ∧ scanOk [] is = true ∧
    (draw = true → pairsOk (befores ops) is = true ∧ ∀ (i : Nat) o, ops[i]? = some o → ∀ ed ∈ o.after.toList, Region.binds .any ed = true → ed.on < i) := by
  unfold compileReg at hc
  simp only [Option.bind_eq_bind, Option.bind_eq_some_iff] at hc
  obtain ⟨is0, h1, hc⟩ := hc
  obtain ⟨l1, l2⟩ := compileOps_of h1
  split at hc
  · cases hc
  rename_i hs
  simp only [Bool.not_eq_true', Bool.not_eq_false] at hs
  split at hc
  · rename_i hd
    split at hc
    · rename_i hp
      cases hc
      simp only [Bool.and_eq_true, List.all_eq_true] at hp
      refine ⟨by simp [markQuiet, l1], ?_, ?_, fun _ => ⟨hp.1, ?_⟩⟩
      · intro j o i ho hi
        rw [mark_eq] at hi
        simp only [List.getElem?_map, List.getElem?_zipIdx, Option.map_map, Option.map_eq_some_iff] at hi
        obtain ⟨i0, hi0, rfl⟩ := hi
        have hI := l2 j o i0 (by simpa using ho) hi0
        rcases markF_or (befores ops) is0 (i0, 0 + j) with h | h <;> simp only [Function.comp, h]
        · exact hI
        · exact hI.quieted
      · rw [mark_eq, scan_quiet _ (markF_or _ _)]
        simpa using hs
      · intro i o ho ed hed hb
        have := hp.2 (o, i) (by
          rw [List.mk_mem_zipIdx_iff_getElem?]
          simpa using ho)
        simp only [Array.all_eq_true_iff_forall_mem] at this
        have := this ed (by simpa using hed)
        simpa [hb] using this
    · cases hc
  · rename_i hd
    cases hc
    refine ⟨by simpa using l1, fun j o i ho => l2 j o i (by simpa using ho), hs, fun h => absurd h hd⟩

section
variable {F : Fix} {b : Frame} {df : List Deferred} {k : List Item} {cs : List Frame} {G : Machine → Prop} {g : Gh} {w : World} {s : St} {mine : Nat → Prop} {e : Env} {tmps : Array Value} {K : Env → St → Prop}

theorem sim_reg {id : Nat} {ops : Array Oper} {draw : Bool} {is : List Ins} (hP : F.X.P.follows .mixedOrders = true) (hc : compileReg F.X F.h ops draw = some is)
    (hlt : ∀ i ∈ is, ∀ d ∈ i.op.wr, d < F.nt) (hwr : ∀ i ∈ is, ∀ q ∈ i.op.pw, F.wr q = true) (hw : wpIs (RCx F.X) is e s K) (hS : Sim F g w.heap s mine e tmps [])
    (hk : ∀ e' s' g' w' mine' tmps', K e' s' → Sim F g' w'.heap s' mine' e' tmps' [] → Reach F.X.P G (lone (mkF b tmps' df k) cs w')) :
    Reach F.X.P G (lone (mkF b tmps df (.code (.region id ops draw) :: k)) cs w) := by
  obtain ⟨h1, h2, h3, h4⟩ := compileReg_inv hc
  have hL : ∀ p ∈ textFrom 0 is, ∃ o, ops[p.1]? = some o ∧ InsOf F.X F.h ops o p.2 ∧ (∀ d ∈ p.2.op.wr, d < F.nt) ∧ ∀ q ∈ p.2.op.pw, F.wr q = true := by
    rintro ⟨i, x⟩ hp
    have hx := (textFrom_mem.1 hp).2
    simp only [Nat.sub_zero] at hx
    have hi : i < ops.size := h1 ▸ (List.getElem?_eq_some_iff.1 hx).1
    have hm : x ∈ is := List.mem_of_getElem? hx
    exact ⟨ops[i], by simp [hi], h2 i _ x (by simp [hi]) hx, hlt x hm, hwr x hm⟩
  have fin : ∀ (l : List Nat) (w : World), OrdOk l (textFrom 0 is) → Sim F g w.heap s mine e tmps [] → Reach F.X.P G (lone (mkF b tmps df (.inRegion ops l :: k)) cs w) := by
    intro l w hl hS
    refine simL (K := K) l _ e s g w mine tmps [] hl hL (by rw [textFrom_snd]; exact h3) (by rw [textFrom_snd]; exact hw) hS fun e' s' g' w' mine' tmps' at' hK hS' => ?_
    exact Reach.step m_region_end (hk e' s' g' w' mine' tmps' hK (hS'.forget (by simp)))
  cases draw with
  | false =>
    refine Reach.step m_region (fin _ _ ?_ hS)
    have := OrdOk.text (textFrom 0 is)
    rw [textFrom_fst, h1, ← List.range_eq_range'] at this
    exact this
  | true =>
    refine Reach.step m_region_draw (fin _ _ ?_ hS)
    obtain ⟨h5, h6⟩ := h4 rfl
    unfold Region.schedule
    rw [hP]
    exact ord_drawn h1 h5 h6 _

/-- Ghosts. -/
def GhI (h : Hint) (i : Ins) : Prop := i.g = none ∧ ((∃ d sz sh, i.op = .frz d sz sh ∧ h.prom.contains d = false ∧ 0 < shN sh) ∨ ∃ p off sz sh, i.op = .lfrz p off sz sh ∧ h.prom.contains p = true ∧ 0 < shN sh)
theorem ghosts_ok {h : Hint} {id : Nat} {bf : Bool} (hf : frOk h = true) : ∀ i ∈ ghosts h id bf, GhI h i := by
  intro i hi
  unfold ghosts at hi
  rw [List.mem_filterMap] at hi
  obtain ⟨x, hx, hi⟩ := hi
  unfold frOk at hf
  have hx' := List.all_eq_true.1 hf x hx
  simp only [Bool.and_eq_true, decide_eq_true_eq, beq_iff_eq] at hx'
  split at hi
  · cases hi
    refine ⟨rfl, ?_⟩
    cases hsh : x.2.2.2.1 with
    | none => rw [hsh] at hx'; exact .inl ⟨_, _, _, rfl, by simpa using hx'.1.symm, hx'.2⟩
    | some o => rw [hsh] at hx'; exact .inr ⟨_, _, _, _, rfl, by simpa using hx'.1.symm, hx'.2⟩
  · cases hi
theorem sim_ghosts : ∀ (is : List Ins) {g : Gh} {H : Heap} {s : St} {e : Env}, (∀ i ∈ is, GhI F.h i) → wpIs (RCx F.X) is e s K → Sim F g H s mine e tmps [] → ∃ e' s' g', K e' s' ∧ Sim F g' H s' mine e' tmps []
  | [], g, H, s, e, _, hw, hS => ⟨e, s, g, hw, hS⟩
  | i :: is, g, H, s, e, hi, hw, hS => by
    obtain ⟨hg, hop⟩ := hi i (by simp)
    have hw' : wpO (RCx F.X) i.op e s (fun e s => wpIs (RCx F.X) is e s K) := by
      simp only [wpIs, wpI, hg] at hw
      exact hw
    have : ∃ e' s' g', wpIs (RCx F.X) is e' s' K ∧ Sim F g' H s' mine e' tmps [] := by
      rcases hop with ⟨d, sz, sh, h1, h2, h3⟩ | ⟨p, off, sz, sh, h1, h2, h3⟩
      · rw [h1] at hw'; exact sim_frz hS h2 h3 hw'
      · rw [h1] at hw'; exact sim_lfrz hS h2 h3 hw'
    obtain ⟨e', s', g', h1, h2⟩ := this
    exact sim_ghosts is (fun i hi' => hi i (by simp [hi'])) h1 h2
end
end Go.Hu

set_option linter.unusedSimpArgs false
set_option linter.unusedVariables false
namespace Go.Hu

/-- The record of a range over a function, as the machine lays it. -/
def loopObj (b : Frame) (tmps : Array Value) (ps : Array Tmp) (assign body : Code) (r : Nat) : Loop := { state := .ready, pending := none, fn := b.fn, tmps, params := ps, assign, body, defers := r }
def mark (r : Nat) : Deferred := { target := .collected r, args := #[] }
/-- The world behind a range's laying. -/
def laidW (b : Frame) (tmps : Array Value) (ps : Array Tmp) (assign body : Code) (w : World) : World :=
  { w with heap := (w.heap.push (.deferred (some []))).push (.loop (loopObj b tmps ps assign body w.heap.size)) }

section
variable {P : Program} {b : Frame} {tmps : Array Value} {df : List Deferred} {k : List Item} {cs : List Frame} {w : World} {G : Machine → Prop}

theorem m_rangeFunc {f : Operand} {ps : Array Tmp} {assign body : Code} {Fr : Frame} (hr : b.roundOf = none)
    (h : Entering P (valOf tmps f) #[.func (.yield (w.heap.size + 1)) #[] #[]] (laidW b tmps ps assign body w) Fr) :
    step P (lone (mkF b tmps df (.code (.rangeFunc f ps assign body) :: k)) cs w) =
      .next (lone Fr (mkF b tmps (mark w.heap.size :: df) (.inRangeFunc (w.heap.size + 1) :: k) :: cs) (laidW b tmps ps assign body w)) := by
  have he := eval_mkF (b := b) (tmps := tmps) (df := mark w.heap.size :: df) (todo := .inRangeFunc (w.heap.size + 1) :: k)
  have hl : (Instr.enterLoop b.fn tmps ps assign body none).run P w = .ok (w.heap.size + 1, [mark w.heap.size]) (laidW b tmps ps assign body w) := by
    simp [Instr.enterLoop, Sem.run, newObj, bind, Sem.bind, pure, laidW, loopObj, mark]
  refine step_lone_go ?_
  have he' : ∀ x, ({ fn := b.fn, tmps := tmps, todo := .inRangeFunc (w.heap.size + 1) :: k, defers := mark w.heap.size :: df, mode := .run, kind := b.kind, roundOf := none } : Frame).eval x = valOf tmps x := fun x => by
    have := congrFun he x
    simp only [mkF, hr] at this
    exact this
  simp only [mkF] at *
  rcases h with ⟨f', as, h, rfl⟩ | ⟨l, f', ts, x, y, h, rfl⟩
  all_goals
    simp only [stepG, stepG.exec, hr, Sem.runT_eq, hl, stepG.apply, resolve, GStep.bare_after, List.cons_append, List.nil_append, List.map_toArray]
    simp [he', valOf] at h ⊢
    simp [h]
theorem m_rangeFunc_back {l : Nat} {v : Value} : (mkF b tmps df (.inRangeFunc l :: k)).finish v = mkF b tmps df (.endRangeFunc l :: k) := rfl
theorem run_getLoop {l : Nat} {r : Loop} (h : w.heap[l]? = some (.loop r)) : (Instr.getLoop l).run P w = .ok r w := by
  simp [Instr.getLoop, getObj, Sem.run, h]
/-- A world with another loop's record. -/
def setW (w : World) (l : Nat) (r : Loop) : World := { w with heap := w.heap.setIfInBounds l (.loop r) }
theorem run_setLoop {l : Nat} {r r' : Loop} (h : w.heap[l]? = some (.loop r)) : (setObj l (.loop r')).run P w = .ok () (setW w l r') := by
  simp [setObj, Sem.run, h, setW]
theorem m_endLoop {l : Nat} {r : Loop} (h : w.heap[l]? = some (.loop r)) (hs : r.state ≠ .busy) :
    step P (lone (mkF b tmps df (.endRangeFunc l :: k)) cs w) = .next (lone (mkF b tmps df ((r.pending.map Item.code).toList ++ k)) cs (setW w l { r with state := .exhausted })) := by
  have hrun : (Instr.endLoop l).run P w = .ok r.pending (setW w l { r with state := .exhausted }) := by
    simp [Instr.endLoop, Sem.run_bind, run_getLoop h, hs, run_setLoop h]
  refine step_lone_go ?_
  simp [stepG, stepG.exec, mkF, hrun]
theorem m_beginRound {l : Nat} {r : Loop} (hb : b.roundOf = some l) (h : w.heap[l]? = some (.loop r)) (hs : r.state = .ready) :
    step P (lone (mkF b tmps df (.beginRound :: k)) cs w) = .next (lone (mkF b tmps df k) cs (setW w l { r with state := .busy })) := by
  have hrun : (Instr.beginRound l).run P w = .ok () (setW w l { r with state := .busy }) := by
    simp [Instr.beginRound, Sem.run_bind, run_getLoop h, hs, run_setLoop h]
  refine step_lone_go ?_
  simp [stepG, stepG.exec, mkF, hb, stepG.apply, hrun, Frame.finish]
/-- A round's end. -/
theorem m_round_end {l : Nat} {r : Loop} {j : Option Code} {todo : List Item} {c : Frame} (hb : b.roundOf = some l) (hk : b.kind = .normal) (h : w.heap[l]? = some (.loop r))
    (ht : (todo = [] ∧ j = none) ∨ (∃ k', todo = .code .ret :: k' ∧ j = some .ret) ∨ ∃ id k', todo = .code (.exit id) :: k' ∧ exitTo id k' = none ∧ j = some (.exit id)) :
    step P (lone (mkF b tmps df todo) (c :: cs) w) = .next (lone (c.finish (.bool j.isNone)) cs (setW w l { r with state := if j.isNone then .ready else .done, pending := j })) := by
  have hrun : (Instr.endRound l j).run P w = .ok (.bool j.isNone) (setW w l { r with state := if j.isNone then .ready else .done, pending := j }) := by
    simp [Instr.endRound, Sem.run_bind, run_getLoop h, run_setLoop h]
  refine step_lone_go ?_
  rcases ht with ⟨rfl, rfl⟩ | ⟨k', rfl, rfl⟩ | ⟨id, k', rfl, he, rfl⟩
  · simp at hrun; simp [stepG, stepG.exec, mkF, hb, hrun, doReturn, hk]
  · simp at hrun; simp [stepG, stepG.exec, mkF, hb, hrun, doReturn, hk]
  · simp at hrun; simp [stepG, stepG.exec, mkF, hb, hrun, doReturn, hk, he]
/-- A frame that leaves. -/
def retF (b : Frame) (tmps : Array Value) (df : List Deferred) (todo : List Item) : Frame := { fn := b.fn, tmps, todo, defers := df, mode := .returning, kind := b.kind, roundOf := b.roundOf }
theorem m_leave {todo : List Item} (hb : b.roundOf = none) (ht : todo = [] ∨ ∃ k', todo = .code .ret :: k') :
    step P (lone (mkF b tmps df todo) cs w) = .next (lone (retF b tmps df todo) cs w) := by
  refine step_lone_go ?_
  rcases ht with rfl | ⟨k', rfl⟩ <;> simp [stepG, stepG.exec, mkF, hb, retF]
theorem m_take {todo : List Item} {r : Nat} (h : w.heap[r]? = some (.deferred (some []))) :
    step P (lone (retF b tmps (mark r :: df) todo) cs w) = .next (lone (retF b tmps df todo) cs { w with heap := w.heap.setIfInBounds r (.deferred none) }) := by
  have hrun : (Instr.takeDeferred r).run P w = .ok [] { w with heap := w.heap.setIfInBounds r (.deferred none) } := by
    simp [Instr.takeDeferred, getObj, setObj, Sem.run, h]
  refine step_lone_go ?_
  simp [stepG, unwind, retF, mark, hrun]
theorem m_results {todo : List Item} {v : Value} {fn : Func} {c : Frame} (hk : b.kind = .normal) (hf : P.funcs[b.fn]? = some fn) (h : (results fn tmps).run P w = .ok v w) :
    step P (lone (retF b tmps [] todo) (c :: cs) w) = .next (lone (c.finish v) cs w) := by
  refine step_lone_go ?_
  simp [stepG, unwind, retF, doReturn, hk, hf, h]

/-- All marks are taken. -/
theorem m_takes {X : Ctx} {g : Gh} {s : St} {kept mine : Nat → Prop} {todo : List Item} : ∀ (rs : List Nat) (w : World), (∀ r ∈ rs, mine r ∧ w.heap[r]? = some (.deferred (some []))) → rs.Nodup → Rel X g w.heap s kept mine →
    (∀ w', (∀ b, b ∉ rs → w'.heap[b]? = w.heap[b]?) → w'.heap.size = w.heap.size → Rel X g w'.heap s kept mine → Evo g w.heap s kept g w'.heap s → Reach P G (lone (retF b tmps [] todo) cs w')) →
    Reach P G (lone (retF b tmps (rs.map mark) todo) cs w)
  | [], w, _, _, hr, hk => hk w (fun _ _ => rfl) rfl hr .refl
  | r :: rs, w, hm, hn, hr, hk => by
    obtain ⟨h1, h2⟩ := hm r (by simp)
    have hn' := List.nodup_cons.1 hn
    obtain ⟨s1, s2, s3⟩ := setObj_at (ob' := .deferred none) h2
    have hst : Stays g w.heap (w.heap.setIfInBounds r (.deferred none)) := fun b j hz => cellH_congr (s3 b fun e => hr.zmine b j hz (e ▸ h1))
    have hfree := hr.freeOf h1
    have hr' : Rel X g (w.heap.setIfInBounds r (.deferred none)) s kept mine := hr.touch' (b0 := r) (by rw [s2]; exact Nat.le_refl _) (fun b _ hb => s3 b hb) hst fun _ => ⟨hfree.kept, hfree.obj, hfree.tok⟩
    have hev : Evo g w.heap s kept g (w.heap.setIfInBounds r (.deferred none)) s := ⟨.refl g, hst, fun b hb => s3 b fun e => hfree.kept (e ▸ hb), by rw [s2]; exact Nat.le_refl _, fun _ _ h => .inl h, fun _ L h => ⟨L, h, fun _ h => h⟩, fun _ _ _ _ h => h, fun _ h => h⟩
    refine Reach.step (m_take h2) (m_takes rs _ (fun r' hrr => ?_) hn'.2 hr' fun w' q1 q2 q3 q4 => hk w' ?_ (q2.trans s2) q3 (hev.trans q4))
    · obtain ⟨h3, h4⟩ := hm r' (by simp [hrr])
      exact ⟨h3, (s3 r' (by rintro rfl; exact hn'.1 hrr)).trans h4⟩
    · intro b' hb'
      simp only [List.mem_cons, not_or] at hb'
      exact (q1 b' hb'.2).trans (s3 b' hb'.1)
end
end Go.Hu

set_option linter.unusedSimpArgs false
set_option linter.unusedVariables false
namespace Go.Hu

abbrev Fix.at (F : Fix) (df : List Deferred) : Fix := { F with df := df }

/-- Where code that ends so goes on. -/
def Kx (k : List Item) : Ex → List Item → Prop
  | .normal, t => t = k
  | .exit id, t => ∃ k2, t = .code (.exit id) :: k2 ∧ exitTo id k2 = exitTo id k
  | .ret, t => ∃ k2, t = .code .ret :: k2

theorem Kx.weak {k k' : List Item} (h : ∀ id, exitTo id k' = exitTo id k) {x : Ex} {t : List Item} (hx : x ≠ .normal) (hk : Kx k' x t) : Kx k x t := by
  cases x with
  | normal => exact absurd rfl hx
  | ret => exact hk
  | exit id => obtain ⟨k2, h1, h2⟩ := hk; exact ⟨k2, h1, h2.trans (h id)⟩

section
variable {F : Fix} {b : Frame} {cs : List Frame} {G : Machine → Prop}

/-- Code's continuation. -/
def OkS (F : Fix) (b : Frame) (cs : List Frame) (G : Machine → Prop) (k : List Item) (Q : Post) : Prop :=
  ∀ x e' s' g' w' mine' tmps' df' t, Q x e' s' → Sim (F.at df') g' w'.heap s' mine' e' tmps' [] → Kx k x t → Reach F.X.P G (lone (mkF b tmps' df' t) cs w')
def RunS (F : Fix) (b : Frame) (cs : List Frame) (G : Machine → Prop) (c : Code) (S : Stm) : Prop :=
  ∀ (k : List Item) (Q : Post) e s g w mine tmps df, Sim (F.at df) g w.heap s mine e tmps [] → wpS (RCx F.X) S Q e s → OkS F b cs G k Q → Reach F.X.P G (lone (mkF b tmps df (.code c :: k)) cs w)

/-- A range over a function. -/
theorem sim_rfunc (hfn : ∃ fn, F.X.P.funcs[b.fn]? = some fn ∧ fn.ntmps = F.nt) {f : Operand} {ps : Array Tmp} {assign body : Code} {fo : Opd} {a' b' : Stm}
    (ha : compileS F.X F.h assign = some a') (hb : compileS F.X F.h body = some b') (hf : F.X.opd F.h f = some fo) (hr : b.roundOf = none)
    (hnr : a'.noRf = true ∧ b'.noRf = true) (hwr : (wroteIn a' ++ wroteIn b').all (laidIn a' ++ laidIn b').contains = true) (hps : ∀ q ∈ ps.toList, F.h.prom.contains q = false)
    (hlt : ∀ i ∈ a'.inss ++ b'.inss, ∀ d ∈ i.op.wr, d < F.nt) (hpl : ∀ q ∈ ps.toList, q < F.nt) : RunS F b cs G (.rangeFunc f ps assign body) (.rfunc fo ps.toList (laidIn a' ++ laidIn b') a' b') := by
  intro k Q e s g w mine tmps df hS hw hk
  obtain ⟨fn, hfn1, hfn2⟩ := hfn
  obtain ⟨l, hl1, hl2, hl3⟩ := hS.fresh
  -- the block of deferred calls
  obtain ⟨hS1, hfr1⟩ := hS.push (.deferred (some []))
  have hS1' := hS1.own hfr1 (by simp)
  have hS1d : Sim (F.at (mark w.heap.size :: df)) g (w.heap.push (.deferred (some []))) s (fun b => mine b ∨ b = w.heap.size) e tmps [] := by
    refine { rel := hS1'.rel, evo := hS1'.evo, slots := hS1'.slots, inj := hS1'.inj, adr := hS1'.adr, pnd := hS1'.pnd, size := hS1'.size, dfs := ?_ }
    obtain ⟨rs, h1, h2, h3⟩ := hS1'.dfs
    obtain ⟨rs0, h1', h2', h3'⟩ := hS.dfs
    refine ⟨w.heap.size :: rs0, ?_, ?_, ?_⟩
    · simp only [List.map_cons, ← h1']; rfl
    · refine List.nodup_cons.2 ⟨fun hm => ?_, h2'⟩
      exact Nat.lt_irrefl _ (hS.mine_lt (h3' _ hm).1)
    · intro r hr
      rcases List.mem_cons.1 hr with rfl | hr
      · exact ⟨.inr rfl, by simp⟩
      · exact ⟨.inl (h3' r hr).1, (push_old w.heap _ (hS.mine_lt (h3' r hr).1)).trans (h3' r hr).2⟩
  -- the loop's block
  obtain ⟨hS2, hfr2⟩ := hS1d.push (.loop (loopObj b tmps ps assign body w.heap.size))
  generalize hH2 : (w.heap.push (.deferred (some []))).push (.loop (loopObj b tmps ps assign body w.heap.size)) = H2 at hS2
  have hl'lt : w.heap.size + 1 < H2.size := by rw [← hH2]; simp
  have hl'at : H2[w.heap.size + 1]? = some (.loop (loopObj b tmps ps assign body w.heap.size)) := by
    rw [← hH2]
    have := push_new (w.heap.push (.deferred (some []))) (.loop (loopObj b tmps ps assign body w.heap.size))
    rw [Array.size_push] at this
    exact this
  have hfr2 : Free g s F.kept (fun b => mine b ∨ b = w.heap.size) (w.heap.size + 1) := by simpa using hfr2
  generalize hm1 : (fun b => mine b ∨ b = w.heap.size) = mine1 at *
  have hfr3 : Free g s (fun b => F.kept b ∨ mine1 b) (fun _ => False) (w.heap.size + 1) := ⟨fun h => h.elim hfr2.kept hfr2.mine, id, hfr2.z, hfr2.obj, hfr2.tok⟩
  let L : LoopRec := ⟨.ready, none, e, ps.toList, laidIn a' ++ laidIn b', a', b'⟩
  let gl := g.withObj l (w.heap.size + 1) (fun b => F.kept b ∨ mine1 b)
  have hle : g.Le gl := Gh.le_withObj hl2
  have hβ : gl.β l = some (w.heap.size + 1) := by simp [gl, Gh.withObj]
  have hrel : Rel F.X gl H2 (s.set l (.loop L)) (fun b => F.kept b ∨ mine1 b) (fun _ => False) := by
    refine hS2.rel.enter.newLoop hl1 hl2 hfr3 hl'lt (fun _ h => h) ⟨_, hl'at, ?_⟩
    refine ⟨rfl, rfl, by simp [L], rfl, F.h, fn, hfn1, ?_, ha, hb, rfl, hwr, hps, ?_, ?_, hnr, ?_⟩
    · exact hS.size.trans hfn2.symm
    · intro i hi d hd; rw [hfn2]; exact hlt i hi d hd
    · intro q hq; rw [hfn2]; exact hpl q hq
    · intro t
      refine (hS2.slots t).mono hle (.refl g H2) fun b hb => ⟨?_, rfl⟩
      have : F.kept b ∨ mine1 b := by
        unfold Acc at hb
        split at hb
        · exact .inr hb
        · exact .inl hb
      simpa [Gh.withObj] using this
  have hwl := hw l hl1
  have hfE : Enc F.X.nm gl H2 (ev e fo) (valOf tmps f) := (hS2.opd (w := { w with heap := H2 }) hf).mono hle (.refl g H2)
  have hyE : EncL F.X.nm gl H2 [.yield l] #[.func (.yield (w.heap.size + 1)) #[] #[]] := by
    refine ⟨rfl, fun j x hx => ?_⟩
    cases j with
    | zero => simp at hx; subst hx; exact .yield hβ
    | succ j => simp at hx
  have hwh : (laidW b tmps ps assign body w).heap = H2 := hH2
  obtain ⟨Fr, hent, hgo⟩ := hwl.1 gl (laidW b tmps ps assign body w) (fun b => F.kept b ∨ mine1 b) (valOf tmps f) #[.func (.yield (w.heap.size + 1)) #[] #[]] (by rw [hwh]; exact hrel) (by rw [hwh]; exact hfE) (by rw [hwh]; exact hyE)
  refine Reach.step (m_rangeFunc hr hent) (hgo _ _ _ fun v s' g' w' vv hQ hr' he' hv' => ?_)
  rw [m_rangeFunc_back]
  rw [hwh] at he'
  -- back
  simp only at hQ
  cases hsl : s' l with
  | none => rw [hsl] at hQ; exact hQ.elim
  | some ob =>
  rw [hsl] at hQ
  cases ob with
  | loop L' =>
    simp only at hQ
    obtain ⟨hst, hQ⟩ := hQ
    obtain ⟨bl, hbl, ⟨r, hr1, hr2⟩, _, _⟩ := hr'.obj l _ hsl rfl
    obtain rfl : w.heap.size + 1 = bl := Option.some.inj ((he'.le.β _ _ hβ).symm.trans hbl)
    have hrs : r.state ≠ .busy := by
      rw [hr2.state]
      intro h
      apply hst
      cases hh : L'.state <;> rw [hh] at h <;> simp [LState.real] at h
    refine Reach.step (m_endLoop hr1 hrs) ?_
    obtain ⟨s1, s2, s3⟩ := setObj_at (ob' := .loop { r with state := .exhausted }) hr1
    obtain ⟨k1, k2⟩ := hr'.kill hsl
    have hfk := hr'.free_of_kill hsl rfl hbl
    have hrel3 : Rel F.X g' (setW w' (w.heap.size + 1) { r with state := .exhausted }).heap (s'.set l .dead) (fun b => F.kept b ∨ mine1 b) (fun _ => False) :=
      k1.touch (b0 := w.heap.size + 1) (by simp only [setW]; rw [s2]; exact Nat.le_refl _) (fun b _ hb => s3 b hb) fun _ => ⟨hfk.kept, hfk.z, hfk.obj, hfk.tok⟩
    have hevo : Evo g H2 s (fun b => F.kept b ∨ mine1 b) g' (setW w' (w.heap.size + 1) { r with state := .exhausted }).heap (s'.set l .dead) := by
      refine ⟨hle.trans he'.le, ?_, ?_, ?_, ?_, ?_, ?_, ?_⟩
      · intro b j hz
        have hne : b ≠ w.heap.size + 1 := fun e => hfk.z j (e ▸ he'.le.Z _ _ (hle.Z _ _ hz))
        exact (cellH_congr (s3 b hne)).trans (he'.stays b j (hle.Z _ _ hz))
      · intro b hb
        exact (s3 b fun e => hfk.kept (e ▸ hb)).trans (he'.keep b hb)
      · simp only [setW]; rw [s2]; exact he'.size
      · exact fun b j hz => he'.znew b j hz
      · intro l1 L1 h1
        have hne : l1 ≠ l := by rintro rfl; rw [set_same] at h1; cases h1
        rw [set_other hne] at h1
        obtain ⟨L0, q1, q2⟩ := he'.loops l1 L1 h1
        rw [set_other hne] at q1
        exact ⟨L0, q1, fun b hb => by simpa [gl, Gh.withObj, hne] using q2 b hb⟩
      · intro l1 o h1 b hb
        have hne : l1 ≠ l := by rintro rfl; rw [hl1] at h1; cases h1
        exact he'.κ l1 o (by rw [set_other hne]; exact h1) b (by simpa [gl, Gh.withObj, hne] using hb)
      · intro l1 h1
        by_cases hne : l1 = l
        · subst hne; rw [set_same]; simp
        · rw [set_other hne]; exact he'.used l1 (by rw [set_other hne]; exact h1)
    have hS3 := hS2.called (w := { w with heap := H2 }) hrel3 hevo
    have hpd := hr2.jump
    cases hj : L'.jump with
    | none =>
      rw [hj] at hQ hpd
      simp only [Option.bind_none] at hpd
      have hp : (r.pending.map Item.code).toList ++ k = k := by rw [hpd]; rfl
      rw [hp]
      exact hk .normal e (s'.set l .dead) g' (setW w' (w.heap.size + 1) { r with state := .exhausted }) mine1 tmps (mark w.heap.size :: df) _ hQ hS3 rfl
    | some x =>
      rw [hj] at hQ hpd
      cases x with
      | normal => exact absurd hj hr2.nn
      | exit id =>
        simp only [Option.bind_some, Ex.code] at hpd
        have hp : (r.pending.map Item.code).toList ++ k = .code (.exit id) :: k := by rw [hpd]; rfl
        rw [hp]
        exact hk (.exit id) e (s'.set l .dead) g' (setW w' (w.heap.size + 1) { r with state := .exhausted }) mine1 tmps (mark w.heap.size :: df) _ hQ hS3 ⟨k, rfl, rfl⟩
      | ret =>
        simp only [Option.bind_some, Ex.code] at hpd
        have hp : (r.pending.map Item.code).toList ++ k = .code .ret :: k := by rw [hpd]; rfl
        rw [hp]
        exact hk .ret e (s'.set l .dead) g' (setW w' (w.heap.size + 1) { r with state := .exhausted }) mine1 tmps (mark w.heap.size :: df) _ hQ hS3 ⟨k, rfl⟩
  | _ => exact hQ.elim

theorem compileReg_code {X : Ctx} {h : Hint} {id : Nat} {ops : Array Oper} {draw : Bool} {S : Stm} (hc : compileS X h (.region id ops draw) = some S) :
    ∃ r, compileReg X h ops draw = some r ∧ frOk h = true ∧ (S = .reg r ∨ S = .seq (.reg (ghosts h id true)) (.seq (.reg r) (.reg (ghosts h id false)))) := by
  simp only [compileS, Option.bind_eq_some_iff] at hc
  obtain ⟨r, h1, hc⟩ := hc
  split at hc
  · rename_i hf
    refine ⟨r, h1, hf, ?_⟩
    split at hc
    · cases hc; exact .inl rfl
    · cases hc; exact .inr rfl
  · cases hc

/-- Code, beside its twin. -/
theorem simS (hP : F.X.P.follows .mixedOrders = true) (hfn : ∃ fn, F.X.P.funcs[b.fn]? = some fn ∧ fn.ntmps = F.nt) : ∀ (c : Code) (S : Stm), compileS F.X F.h c = some S →
    (∀ i ∈ S.inss, ∀ d ∈ i.op.wr, d < F.nt) → (∀ q ∈ S.pss, q < F.nt) → (∀ i ∈ S.inss, ∀ q ∈ i.op.pw, F.wr q = true) → (S.noRf = true ∨ b.roundOf = none) → RunS F b cs G c S := by
  intro c
  induction c with
  | skip =>
    intro S hc _ _ _ _ k Q e s g w mine tmps df hS hw hk
    simp only [compileS, Option.some.injEq] at hc
    subst hc
    exact Reach.step m_skip (hk .normal _ _ _ _ _ _ _ _ hw hS rfl)
  | label l =>
    intro S hc _ _ _ _ k Q e s g w mine tmps df hS hw hk
    simp only [compileS, Option.some.injEq] at hc
    subst hc
    exact Reach.step m_label (hk .normal _ _ _ _ _ _ _ _ hw hS rfl)
  | region id ops draw =>
    intro S hc hlt _ hwr _ k Q e s g w mine tmps df hS hw hk
    obtain ⟨r, h1, h2, h3⟩ := compileReg_code hc
    rcases h3 with rfl | rfl
    · exact sim_reg (F := F.at df) hP h1 hlt hwr hw hS fun e' s' g' w' mine' tmps' hK hS' => hk .normal _ _ _ _ _ _ _ _ hK hS' rfl
    · simp only [Stm.inss, List.mem_append] at hlt hwr
      simp only [wpS] at hw
      obtain ⟨e1, s1, g1, hw1, hS1⟩ := sim_ghosts (F := F.at df) _ (ghosts_ok h2) hw hS
      refine sim_reg (F := F.at df) hP h1 (fun i hi => hlt i (.inr (.inl hi))) (fun i hi => hwr i (.inr (.inl hi))) hw1 hS1 fun e' s' g' w' mine' tmps' hK hS' => ?_
      obtain ⟨e2, s2, g2, hw2, hS2⟩ := sim_ghosts (F := F.at df) _ (ghosts_ok h2) hK hS'
      exact hk .normal _ _ _ _ _ _ _ _ hw2 hS2 rfl
  | seq x y ihx ihy =>
    intro S hc hlt hpl hwr hnr k Q e s g w mine tmps df hS hw hk
    simp only [compileS, Option.bind_eq_some_iff, Option.map_eq_some_iff] at hc
    obtain ⟨a, ha, c', hc', rfl⟩ := hc
    simp only [Stm.inss, Stm.pss, List.mem_append] at hlt hpl hwr
    have hna : (a.noRf = true ∨ b.roundOf = none) ∧ (c'.noRf = true ∨ b.roundOf = none) := by
      simp only [Stm.noRf, Bool.and_eq_true] at hnr
      rcases hnr with h | h
      · exact ⟨.inl h.1, .inl h.2⟩
      · exact ⟨.inr h, .inr h⟩
    refine Reach.step m_seq (ihx a ha (fun i hi => hlt i (.inl hi)) (fun q hq => hpl q (.inl hq)) (fun i hi => hwr i (.inl hi)) hna.1 (.code y :: k) _ e s g w mine tmps df hS hw ?_)
    intro x' e' s' g' w' mine' tmps' df' t hQ hS' ht
    cases x' with
    | normal =>
      obtain rfl := ht
      exact ihy c' hc' (fun i hi => hlt i (.inr hi)) (fun q hq => hpl q (.inr hq)) (fun i hi => hwr i (.inr hi)) hna.2 k Q e' s' g' w' mine' tmps' df' hS' hQ hk
    | exit id => exact hk _ _ _ _ _ _ _ _ _ hQ hS' (Kx.weak (k' := .code y :: k) (fun _ => by simp [exitTo]) (by simp) ht)
    | ret => exact hk _ _ _ _ _ _ _ _ _ hQ hS' (Kx.weak (k' := .code y :: k) (fun _ => by simp [exitTo]) (by simp) ht)
  | cond c x y ihx ihy =>
    intro S hc hlt hpl hwr hnr k Q e s g w mine tmps df hS hw hk
    simp only [compileS, Option.bind_eq_some_iff, Option.map_eq_some_iff] at hc
    obtain ⟨co, hco, a, ha, c', hc', rfl⟩ := hc
    simp only [Stm.inss, Stm.pss, List.mem_append] at hlt hpl hwr
    have hna : (a.noRf = true ∨ b.roundOf = none) ∧ (c'.noRf = true ∨ b.roundOf = none) := by
      simp only [Stm.noRf, Bool.and_eq_true] at hnr
      rcases hnr with h | h
      · exact ⟨.inl h.1, .inl h.2⟩
      · exact ⟨.inr h, .inr h⟩
    have hE := hS.opd hco
    simp only [wpS] at hw
    split at hw
    · rename_i hev
      rw [hev] at hE
      refine Reach.step (m_cond hE.of_bool) ?_
      exact ihx a ha (fun i hi => hlt i (.inl hi)) (fun q hq => hpl q (.inl hq)) (fun i hi => hwr i (.inl hi)) hna.1 k Q e s g w mine tmps df hS hw hk
    · rename_i hev
      rw [hev] at hE
      refine Reach.step (m_cond hE.of_bool) ?_
      exact ihy c' hc' (fun i hi => hlt i (.inr hi)) (fun q hq => hpl q (.inr hq)) (fun i hi => hwr i (.inr hi)) hna.2 k Q e s g w mine tmps df hS hw hk
    · exact hw.elim
  | block id c ih =>
    intro S hc hlt hpl hwr hnr k Q e s g w mine tmps df hS hw hk
    simp only [compileS, Option.map_eq_some_iff] at hc
    obtain ⟨a, ha, rfl⟩ := hc
    refine Reach.step m_block (ih a ha hlt hpl hwr hnr (.inBlock id :: k) _ e s g w mine tmps df hS hw ?_)
    intro x' e' s' g' w' mine' tmps' df' t hQ hS' ht
    cases x' with
    | normal =>
      obtain rfl := ht
      exact Reach.step m_inBlock (hk .normal _ _ _ _ _ _ _ _ hQ hS' rfl)
    | ret => exact hk _ _ _ _ _ _ _ _ _ hQ hS' ht
    | exit j =>
      obtain ⟨k2, rfl, hk2⟩ := ht
      simp only at hQ
      by_cases hj : j = id
      · rw [if_pos hj] at hQ
        refine Reach.step (m_exit (k' := k) ?_) (hk .normal _ _ _ _ _ _ _ _ hQ hS' rfl)
        rw [hk2, hj]
        simp [exitTo]
      · rw [if_neg hj] at hQ
        refine hk (.exit j) _ _ _ _ _ _ _ _ hQ hS' ⟨k2, rfl, ?_⟩
        rw [hk2]
        simp only [exitTo, beq_iff_eq]
        rw [if_neg fun h => hj h.symm]
  | loop c ih =>
    intro S hc hlt hpl hwr hnr k Q e s g w mine tmps df hS hw hk
    simp only [compileS, Option.map_eq_some_iff] at hc
    obtain ⟨a, ha, rfl⟩ := hc
    refine Reach.step m_loop (hw (fun e s => ∀ g w mine tmps df, Sim (F.at df) g w.heap s mine e tmps [] → Reach F.X.P G (lone (mkF b tmps df (.code c :: .inLoop c :: k)) cs w)) ?_ g w mine tmps df hS)
    intro e s hw g w mine tmps df hS
    refine ih a ha hlt hpl hwr hnr (.inLoop c :: k) _ e s g w mine tmps df hS hw ?_
    intro x' e' s' g' w' mine' tmps' df' t hQ hS' ht
    cases x' with
    | normal =>
      obtain rfl := ht
      exact Reach.step m_inLoop (hQ g' w' mine' tmps' df' hS')
    | exit id => exact hk _ _ _ _ _ _ _ _ _ hQ hS' (Kx.weak (k' := .inLoop c :: k) (fun _ => by simp [exitTo]) (by simp) ht)
    | ret => exact hk _ _ _ _ _ _ _ _ _ hQ hS' (Kx.weak (k' := .inLoop c :: k) (fun _ => by simp [exitTo]) (by simp) ht)
  | scope c ih =>
    intro S hc hlt hpl hwr hnr k Q e s g w mine tmps df hS hw hk
    simp only [compileS] at hc
    refine Reach.step m_scope (ih S hc hlt hpl hwr hnr (.inScope c :: k) Q e s g w mine tmps df hS hw ?_)
    intro x' e' s' g' w' mine' tmps' df' t hQ hS' ht
    cases x' with
    | normal =>
      obtain rfl := ht
      exact Reach.step m_inScope (hk .normal _ _ _ _ _ _ _ _ hQ hS' rfl)
    | exit id => exact hk _ _ _ _ _ _ _ _ _ hQ hS' (Kx.weak (k' := .inScope c :: k) (fun _ => by simp [exitTo]) (by simp) ht)
    | ret => exact hk _ _ _ _ _ _ _ _ _ hQ hS' (Kx.weak (k' := .inScope c :: k) (fun _ => by simp [exitTo]) (by simp) ht)
  | rangeFunc f ps assign body iha ihb =>
    intro S hc hlt hpl hwr hnr
    simp only [compileS, Option.bind_eq_some_iff] at hc
    obtain ⟨a, ha, c', hc', hc⟩ := hc
    split at hc
    · rename_i hcond
      simp only [Bool.and_eq_true] at hcond
      obtain ⟨⟨⟨n1, n2⟩, n3⟩, n4⟩ := hcond
      simp only [Option.map_eq_some_iff] at hc
      obtain ⟨fo, hfo, rfl⟩ := hc
      have hr : b.roundOf = none := by
        rcases hnr with h | h
        · simp [Stm.noRf] at h
        · exact h
      simp only [Stm.pss, List.mem_append] at hpl
      refine sim_rfunc hfn ha hc' hfo hr ⟨n1, n2⟩ n3 (fun q hq => ?_) hlt (fun q hq => hpl q (.inl hq))
      have := List.all_eq_true.1 n4 q hq
      simp only [Bool.and_eq_true, Bool.not_eq_true'] at this
      exact this.1
    · cases hc
  | exit id =>
    intro S hc _ _ _ _ k Q e s g w mine tmps df hS hw hk
    simp only [compileS, Option.some.injEq] at hc
    subst hc
    exact hk (.exit id) _ _ _ _ _ _ _ _ hw hS ⟨k, rfl, rfl⟩
  | ret =>
    intro S hc _ _ _ _ k Q e s g w mine tmps df hS hw hk
    simp only [compileS, Option.some.injEq] at hc
    subst hc
    exact hk .ret _ _ _ _ _ _ _ _ hw hS ⟨k, rfl⟩
  | refuse why =>
    intro S hc _ _ _ _ k Q e s g w mine tmps df hS hw hk
    simp only [compileS, Option.some.injEq] at hc
    subst hc
    exact hw.elim
  | goto l =>
    intro S hc
    simp [compileS] at hc
end
end Go.Hu

set_option linter.unusedSimpArgs false
set_option linter.unusedVariables false
namespace Go.Hu
section
variable {C : CP}

theorem wpIs_few (hg : Good C) : ∀ {is : List Ins} {e : Env} {s : St} {K : Env → St → Prop}, Few s → wpIs C is e s K → wpIs C is e s (fun e' s' => Few s' ∧ K e' s')
  | [], _, _, _, hf, h => ⟨hf, h⟩
  | i :: is, e, s, K, hf, h => wpI_mono1 hg (wpI_few hg hf h) fun _ _ h => wpIs_few hg h.1.1 h.2
theorem wpIs_strict (hg : Good C) : ∀ {is : List Ins} {e : Env} {s : St}, Few s → ¬ wpIs C is e s (fun _ _ => False)
  | [], _, _, _, h => h
  | i :: is, e, s, hf, h => wpI_strict hg hf (wpI_mono1 hg (wpI_few hg hf h) fun _ _ h => wpIs_strict hg h.1.1 h.2)
theorem Few.new {s : St} (h : Few s) : ∃ l, s l = none := by
  obtain ⟨N, hN⟩ := h
  exact ⟨N, hN N (Nat.le_refl _)⟩
theorem wpS_mono1 (hg : Good C) {c : Stm} {Q Q' : Post} {e : Env} {s : St} (h : wpS C c Q e s) (hq : ∀ x e s, Q x e s → Q' x e s) : wpS C c Q' e s :=
  wpS_mono hg.mono (fun _ _ _ _ h => h) (fun x e s _ => hq x e s) h

theorem wpS_few (hg : Good C) : ∀ {c : Stm} {Q : Post} {e : Env} {s : St}, Few s → wpS C c Q e s → wpS C c (fun x e' s' => Few s' ∧ Q x e' s') e s
  | .skip, _, _, _, hf, h => ⟨hf, h⟩
  | .reg is, _, _, _, hf, h => wpIs_few hg hf h
  | .seq a b, Q, e, _, hf, h => by
    simp only [wpS] at h ⊢
    refine wpS_mono1 hg (wpS_few hg (c := a) hf h) ?_
    rintro x e1 s1 ⟨hf1, h⟩
    cases x with
    | normal => exact wpS_few hg (c := b) hf1 h
    | exit id => exact ⟨hf1, h⟩
    | ret => exact ⟨hf1, h⟩
  | .cond x a b, _, _, _, hf, h => by
    simp only [wpS] at h ⊢
    split at h
    · exact wpS_few hg (c := a) hf h
    · exact wpS_few hg (c := b) hf h
    · exact h.elim
  | .block id c, Q, _, _, hf, h => by
    simp only [wpS] at h ⊢
    refine wpS_mono1 hg (wpS_few hg (c := c) hf h) ?_
    rintro x e1 s1 ⟨hf1, h⟩
    cases x with
    | normal => exact ⟨hf1, h⟩
    | exit j =>
      simp only at h ⊢
      split at h
      · rename_i hj; rw [if_pos hj]; exact ⟨hf1, h⟩
      · rename_i hj; rw [if_neg hj]; exact ⟨hf1, h⟩
    | ret => exact ⟨hf1, h⟩
  | .loop c, Q, e0, s0, hf, h => by
    intro I hI
    refine h (fun e s => Few s → I e s) (fun e s h hf => hI e s ?_) hf
    refine wpS_mono1 hg (wpS_few hg (c := c) hf h) ?_
    rintro x e1 s1 ⟨hf1, h⟩
    cases x with
    | normal => exact h hf1
    | exit id => exact ⟨hf1, h⟩
    | ret => exact ⟨hf1, h⟩
  | .rfunc f ps own a b, Q, _, _, hf, h => by
    intro l hl
    refine hg.mono _ _ _ _ _ (hg.few _ _ _ _ hf.set (h l hl)) ?_
    rintro v s1 ⟨hf1, h⟩
    split at h
    · rename_i L hL
      simp only [hL]
      refine ⟨h.1, ?_⟩
      have h := h.2
      cases hj : L.jump with
      | none => rw [hj] at h; exact ⟨hf1.set, h⟩
      | some x => rw [hj] at h; exact ⟨hf1.set, h⟩
    · exact h.elim
  | .exit id, _, _, _, hf, h => ⟨hf, h⟩
  | .ret, _, _, _, hf, h => ⟨hf, h⟩
  | .refuse, _, _, _, _, h => h.elim

theorem wpS_strict (hg : Good C) : ∀ {c : Stm} {e : Env} {s : St}, Few s → ¬ wpS C c (fun _ _ _ => False) e s
  | .skip, _, _, _, h => h
  | .reg is, _, _, hf, h => wpIs_strict hg hf h
  | .seq a b, e, _, hf, h => by
    simp only [wpS] at h
    refine wpS_strict hg (c := a) hf (wpS_mono1 hg (wpS_few hg (c := a) hf h) ?_)
    rintro x e1 s1 ⟨hf1, h⟩
    cases x with
    | normal => exact wpS_strict hg (c := b) hf1 h
    | exit id => exact h
    | ret => exact h
  | .cond x a b, _, _, hf, h => by
    simp only [wpS] at h
    split at h
    · exact wpS_strict hg (c := a) hf h
    · exact wpS_strict hg (c := b) hf h
    · exact h.elim
  | .block id c, _, _, hf, h => by
    simp only [wpS] at h
    refine wpS_strict hg (c := c) hf (wpS_mono1 hg h ?_)
    rintro x e1 s1 h
    cases x with
    | normal => exact h
    | exit j => simp only at h; split at h <;> exact h
    | ret => exact h
  | .loop c, e0, s0, hf, h => by
    refine h (fun e s => Few s → False) (fun e s h hf => ?_) hf
    refine wpS_strict hg (c := c) hf (wpS_mono1 hg (wpS_few hg (c := c) hf h) ?_)
    rintro x e1 s1 ⟨hf1, h⟩
    cases x with
    | normal => exact h hf1
    | exit id => exact h
    | ret => exact h
  | .rfunc f ps own a b, _, _, hf, h => by
    obtain ⟨l, hl⟩ := hf.new
    refine hg.strict _ _ _ hf.set (hg.mono _ _ _ _ _ (h l hl) ?_)
    intro v s1 h
    simp only at h
    split at h
    · have h := h.2
      split at h <;> exact h
    · exact h
  | .exit id, _, _, _, h => h
  | .ret, _, _, _, h => h
  | .refuse, _, _, _, h => h

theorem bodyC_ex {P : PProg} (hg : Good C) {f : V} {args : List V} {s : St} {Q : V → St → Prop} (h : bodyC P C f args s Q) (hf : Few s) : ∃ v s', Few s' ∧ Q v s' := by
  refine Classical.byContradiction fun hn => ?_
  have hn' : ∀ v s', Few s' → Q v s' → False := fun v s' h1 h2 => hn ⟨v, s', h1, h2⟩
  unfold bodyC at h
  split at h
  · split at h
    · refine wpS_strict hg hf (wpS_mono1 hg (wpS_few hg hf h.2) ?_)
      rintro x e s ⟨hf, h1, h2⟩
      split at h2
      · obtain ⟨th, h2⟩ := h2
        exact hn' _ _ hf h2
      · exact h2
    · exact h
  · split at h
    · refine wpS_strict hg hf (wpS_mono1 hg (wpS_few hg hf h.2.2) ?_)
      rintro x e s ⟨hf, h1, h2⟩
      split at h2
      · refine wpS_strict hg hf.set (wpS_mono1 hg (wpS_few hg hf.set h2.2) ?_)
        rintro x e s ⟨hf, h⟩
        split at h
        · split at h
          · exact hn' _ _ hf.set h
          · exact hn' _ _ hf.set h
        · exact h
      · exact h2
    · exact h
  · exact h
end
end Go.Hu
