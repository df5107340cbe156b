/-
  A pure machine for programs, and its soundness against the model: the lemmas hold as they stand.
-/
import Derived.Test.YtdpjoppdlhfidaaDoorMb
import Derived.ReadAgain
import Derived.ProofKit
import Derived.LaidMore
import Derived.ChangeArms
import Derived.OpenShut
import Derived.LaidSub
set_option linter.unusedSimpArgs false
set_option linter.unusedVariables false
namespace Go.Hu

/-- The program's functions that are told. -/
def Laid (X : Ctx) (prog : PProg) : Prop := ∀ f k F, X.nm f = some k → prog k = some F → ∃ fn h, X.P.funcs[f]? = some fn ∧ (fn.name == "runtime.NumGoroutine") = false ∧ compileF X h fn = some F

theorem run_mapM_nil {P : Program} {α β : Type} {f : α → Sem β} {w : World} : (([] : List α).mapM f).run P w = .ok [] w := by simp
theorem run_mapM_cons {P : Program} {α β : Type} {f : α → Sem β} {a : α} {l : List α} {w : World} {v : β} {vs : List β} (h : (f a).run P w = .ok v w) (hl : (l.mapM f).run P w = .ok vs w) : ((a :: l).mapM f).run P w = .ok (v :: vs) w := by
  simp [List.mapM_cons, Sem.run_bind, h, hl]

def resOf (X : Ctx) (h : Hint) : ResultVar → Option Res
  | .tmp t => if h.prom.contains t then none else some (Res.tmp t)
  | .cell a t => do
    let sh ← X.sh t
    some (if h.prom.contains a then .loc a sh else .heap a sh)
def readRes (tmps : Array Value) : ResultVar → Sem Value
  | .tmp t => pure (tmps.getD t undef)
  | .cell a t => do loadVar t (← asAddr (tmps.getD a undef))

section
variable {F : Fix} {g : Gh} {w : World} {H : Heap} {s : St} {mine : Nat → Prop} {e : Env} {tmps : Array Value}

/-- A result, read. -/
theorem res_one (hS : Sim F g H s mine e tmps []) (hst : Stays g H w.heap) (hsame : ∀ (b : Nat) c el f, H[b]? = some (Obj.cells c el f) → w.heap[b]? = H[b]?) {r : ResultVar} {rr : Res} {x : V} (hr : resOf F.X F.h r = some rr) (hv : resV e s rr = some x) :
    ∃ v, (readRes tmps r).run F.X.P w = .ok v w ∧ Enc F.X.nm g w.heap x v := by
  cases r with
  | tmp t =>
    simp only [resOf] at hr
    split at hr
    · cases hr
    · rename_i hp
      cases hr
      simp only [resV, Option.some.injEq] at hv
      subst hv
      exact ⟨_, by simp [readRes], ((SlotOk.val (by simpa using hp)).1 (hS.slots t)).mono (.refl g) hst⟩
  | cell a t =>
    simp only [resOf, Option.bind_eq_bind, Option.bind_eq_some_iff, Option.some.injEq] at hr
    obtain ⟨sh, hsh, rfl⟩ := hr
    by_cases hp : F.h.prom.contains a = true
    · rw [if_pos hp] at hv
      simp only [resV] at hv
      split at hv
      · rename_i hf
        cases hv
        obtain ⟨b, c, el, q1, _, q2, q3, _, _⟩ := hS.block (w := { w with heap := H }) hp (fits_undef hf)
        obtain ⟨v, hv, he⟩ := load_any (w := w) hsh (b := b) (base := 0) (o := 0) (cells_at ((hsame _ _ _ _ q2).trans q2) (q3.mono (.refl g) hst)) (takeAt_whole hf)
        exact ⟨v, by simp [readRes, q1, asAddr]; simpa using hv, he⟩
      · cases hv
    · have hp' : F.h.prom.contains a = false := by simpa using hp
      rw [if_neg hp] at hv
      have hx := (SlotOk.val hp').1 (hS.slots a)
      simp only [resV] at hv
      split at hv
      · rename_i l o hx'
        rw [hx'] at hx
        obtain ⟨b, hb, hβ⟩ := hx.of_ptr
        split at hv
        · rename_i cs hl
          obtain ⟨b', h1, ⟨⟨c, el, q2, q3⟩, _⟩, _, _⟩ := hS.rel.obj l _ hl rfl
          obtain rfl := Option.some.inj (h1.symm.trans hβ)
          obtain ⟨v, hv, he⟩ := load_any (w := w) hsh (b := b') (base := 0) (o := o) (cells_at ((hsame _ _ _ _ q2).trans q2) (q3.mono (.refl g) hst)) hv
          exact ⟨v, by simp [readRes, hb, asAddr]; simpa using hv, he⟩
        · cases hv
      · rename_i cs o hx'
        rw [hx'] at hx
        obtain ⟨b, base, vs, hb, h1, h2, h3⟩ := (hx.mono (.refl g) hst).of_rptr
        obtain ⟨v, hv, he⟩ := load_any (w := w) hsh (b := b) (base := base) (o := o) (fun j x hj => ⟨vs j, h1 j (List.getElem?_eq_some_iff.1 hj).1, h3 j x hj⟩) hv
        exact ⟨v, by simp [readRes, hb, asAddr]; simpa using hv, he⟩
      · cases hv

theorem res_all (hS : Sim F g H s mine e tmps []) (hst : Stays g H w.heap) (hsame : ∀ (b : Nat) c el f, H[b]? = some (Obj.cells c el f) → w.heap[b]? = H[b]?) : ∀ {rs : List ResultVar} {rrs : List Res} {xs : List V},
    rs.mapM (resOf F.X F.h) = some rrs → resVs e s rrs = some xs → ∃ vs, (rs.mapM (readRes tmps)).run F.X.P w = .ok vs w ∧ xs.length = vs.length ∧ ∀ (j : Nat) x, xs[j]? = some x → Enc F.X.nm g w.heap x (vs.getD j undef)
  | [], rrs, xs, h, hv => by
    simp at h
    subst h
    simp [resVs] at hv
    subst hv
    exact ⟨[], run_mapM_nil, rfl, by simp⟩
  | r :: rs, rrs, xs, h, hv => by
    simp only [List.mapM_cons, Option.bind_eq_bind, Option.bind_eq_some_iff, Option.pure_def, Option.some.injEq] at h
    obtain ⟨rr, h1, rrs', h2, rfl⟩ := h
    simp only [resVs] at hv
    split at hv
    · rename_i x xs' hx hxs
      cases hv
      obtain ⟨v, hv, he⟩ := res_one hS hst hsame h1 hx
      obtain ⟨vs, hvs, hl, hes⟩ := res_all hS hst hsame h2 hxs
      refine ⟨v :: vs, run_mapM_cons hv hvs, by simp [hl], fun j y hy => ?_⟩
      cases j with
      | zero => simp at hy; subst hy; simpa using he
      | succ j => simp at hy; simpa using hes j y hy
    · cases hv

def oneVal : List Value → Value
  | [v] => v
  | vs => .tuple vs.toArray
theorem run_results {P : Program} {fn : Func} {vs : List Value} (h : (fn.results.toList.mapM (readRes tmps)).run P w = .ok vs w) : (results fn tmps).run P w = .ok (oneVal vs) w := by
  have e1 : ∀ r, (match r with | .tmp t => pure (tmps.getD t undef) | .cell a t => do loadVar t (← asAddr (tmps.getD a undef)) : Sem Value) = readRes tmps r := fun r => by cases r <;> rfl
  unfold results
  have e2 : (fn.results.mapM (readRes tmps)).run P w = .ok vs.toArray w := by
    rw [Array.mapM_eq_mapM_toList]
    simp [h]
  have e3 : (fun r : ResultVar => (match r with | .tmp t => pure (tmps.getD t undef) | .cell a t => do loadVar t (← asAddr (tmps.getD a undef)) : Sem Value)) = readRes tmps := funext e1
  simp only [Sem.run_bind]
  erw [e3, e2]
  simp only [Result.andThen_ok, Sem.run_pure]
  match vs with
  | [] => simp [oneVal]
  | [v] => simp [oneVal]
  | v :: u :: vs => simp [oneVal]
end

theorem compileF_inv {X : Ctx} {h : Hint} {fn : Func} {PF : PFunc} (hc : compileF X h fn = some PF) : ∃ body, fn.body = some body ∧ compileS X h body = some PF.body ∧ PF.nargs = fn.params.size + fn.nfree ∧ fn.results.toList.mapM (resOf X h) = some PF.res ∧
    PF.nargs ≤ fn.ntmps ∧ (∀ p, h.prom.contains p = true → PF.nargs ≤ p) ∧ (∀ i ∈ PF.body.inss, ∀ d ∈ i.op.wr, d < fn.ntmps) ∧ ∀ q ∈ PF.body.pss, q < fn.ntmps := by
  unfold compileF at hc
  simp only [Option.bind_eq_bind, Option.bind_eq_some_iff] at hc
  obtain ⟨body, h1, S, h2, res, h3, hc⟩ := hc
  split at hc
  · rename_i hcond
    cases hc
    simp only [Bool.and_eq_true, decide_eq_true_eq, List.all_eq_true] at hcond
    obtain ⟨⟨⟨c1, c2⟩, c3⟩, c4⟩ := hcond
    refine ⟨body, h1, h2, rfl, ?_, c1, fun p hp => c2 p (by simpa using hp), c3, c4⟩
    rw [← h3]
    congr 1
  · cases hc

section
variable {X : Ctx} {prog : PProg}

theorem enc_args {nm : FuncId → Option Nat} {g : Gh} {H : Heap} {xs : List V} {vs : Array Value} (h : EncL nm g H xs vs) (n : Nat) (t : Nat) : Enc nm g H (enter xs t) ((vs ++ Array.replicate n undef).getD t undef) := by
  unfold enter
  cases hx : xs[t]? with
  | none => exact .undef _
  | some x =>
    have h1 := h.2 t x hx
    have hlt : t < vs.size := by rw [← h.1]; exact (List.getElem?_eq_some_iff.1 hx).1
    have : (vs ++ Array.replicate n undef).getD t undef = vs.getD t undef := by
      rw [Array.getD_eq_getD_getElem?, Array.getD_eq_getD_getElem?, Array.getElem?_append_left hlt]
    rw [this]
    exact h1
theorem EncL.append {nm : FuncId → Option Nat} {g : Gh} {H : Heap} {xs ys : List V} {vs us : Array Value} (h : EncL nm g H xs vs) (h' : EncL nm g H ys us) : EncL nm g H (xs ++ ys) (vs ++ us) := by
  refine ⟨by simp [h.1, h'.1], fun j x hx => ?_⟩
  by_cases hj : j < xs.length
  · rw [List.getElem?_append_left hj] at hx
    have : (vs ++ us).getD j undef = vs.getD j undef := by
      rw [Array.getD_eq_getD_getElem?, Array.getD_eq_getD_getElem?, Array.getElem?_append_left (by rw [← h.1]; exact hj)]
    rw [this]
    exact h.2 j x hx
  · rw [List.getElem?_append_right (by omega)] at hx
    have : (vs ++ us).getD j undef = us.getD (j - xs.length) undef := by
      rw [Array.getD_eq_getD_getElem?, Array.getD_eq_getD_getElem?, Array.getElem?_append_right (by rw [← h.1]; omega), h.1]
    rw [this]
    exact h'.2 _ x hx

theorem enc_oneV {th : Bool} {nm : FuncId → Option Nat} {g : Gh} {H : Heap} {xs : List V} {vs : List Value} (hl : xs.length = vs.length) (he : ∀ (j : Nat) x, xs[j]? = some x → Enc nm g H x (vs.getD j undef)) :
    Enc nm g H (pass th (oneV xs)) (oneVal vs) := by
  refine Enc.pass (x := oneV xs) ?_
  have key : ∀ (xs : List V) (vs : List Value), xs.length = vs.length → (∀ (j : Nat) x, xs[j]? = some x → Enc nm g H x (vs.getD j undef)) → Enc nm g H (.tup xs) (.tuple vs.toArray) := fun xs vs hl he =>
    .tup (by simpa using hl) fun j x hx => by
      have := he j x hx
      rw [Array.getD_eq_getD_getElem?]
      simpa [List.getD_eq_getElem?_getD] using this
  match xs, vs with
  | [], [] => exact key _ _ hl he
  | [x], [v] => exact he 0 x rfl
  | x :: y :: xs, v :: u :: vs => exact key _ _ hl he
  | [], _ :: _ => simp at hl
  | _ :: _, [] => simp at hl
  | [_], _ :: _ :: _ => simp at hl
  | _ :: _ :: _, [_] => simp at hl

/-- A function, up to where its frame leaves. -/
theorem rc_fn' (hP : X.P.follows .mixedOrders = true) (hL : Laid X prog) {k : Nat} {first caps args : List V} {s : St} {Q : V → St → Prop} (h : bodyC prog (RCx X) (.fn k first caps) args s Q)
    (g : Gh) (w : World) (kept : Nat → Prop) (vf : Value) (vargs : Array Value) (hrel : Rel X g w.heap s kept (fun _ => False)) (hfE : Enc X.nm g w.heap (.fn k first caps) vf) (haE : EncL X.nm g w.heap args vargs) :
    ∃ f fv cv, vf = .func (.func f) fv cv ∧ (do let d ← Deferred.ofValue vf vargs; invoke d.target d.args : Sem Next).run X.P w = .ok (.enter f (fv ++ vargs ++ cv)) w ∧ ∀ (cs : List Frame) (G : Machine → Prop),
      (∀ v s' g' w' vv fr, Q v s' → Rel X g' w'.heap s' kept (fun _ => False) → Evo g w.heap s kept g' w'.heap s' → Enc X.nm g' w'.heap v vv → fr.fn = f → fr.leaving X.P w' (.returned vv) → Reach X.P G (lone fr cs w')) →
        Reach X.P G (lone (Frame.enter X.P f (fv ++ vargs ++ cv) .normal) cs w) := by
  simp only [bodyC] at h
  split at h
  · rename_i PF hPF
    obtain ⟨hn, hw⟩ := h
    cases hfE with
    | @fn _ f _ _ fv cv hnm l1 l2 e1 e2 =>
    obtain ⟨fn, hi, hfn, hname, hcF⟩ := hL f k PF hnm hPF
    obtain ⟨body, c1, c2, c3, c4, c5, c6, c7, c8⟩ := compileF_inv hcF
    have hall : EncL X.nm g w.heap (first ++ args ++ caps) (fv ++ vargs ++ cv) := (EncL.append (EncL.append ⟨l1, e1⟩ haE) ⟨l2, e2⟩)
    have hsz : (fv ++ vargs ++ cv).size = PF.nargs := by rw [hn]; exact hall.1.symm
    refine ⟨f, fv, cv, rfl, ?_, fun cs G hk => ?_⟩
    · simp [Deferred.ofValue, invoke, callFunc, program, Sem.run, hfn, hname, c1]
      simpa using hname
    · have hF : Frame.enter X.P f (fv ++ vargs ++ cv) .normal = mkF { (default : Frame) with fn := f, kind := .normal, roundOf := none } ((fv ++ vargs ++ cv) ++ Array.replicate (fn.ntmps - (fv ++ vargs ++ cv).size) undef) [] [.code body] := by
        simp [Frame.enter, mkF, hfn, c1]
      rw [hF]
      let F : Fix := ⟨X, hi, ⟨g, w.heap, s⟩, kept, fun _ => true, fn.ntmps, []⟩
      generalize hb : ({ (default : Frame) with fn := f, kind := .normal, roundOf := none } : Frame) = b
      have hbk : b.kind = .normal := by rw [← hb]
      have hbf : b.fn = f := by rw [← hb]
      have hbr : b.roundOf = none := by rw [← hb]
      have hout : ∀ t, hi.prom.contains t = true → enter (first ++ args ++ caps) t = .undef := fun t ht => by
        have h1 := c6 t ht
        unfold enter
        rw [List.getElem?_eq_none (by omega)]
        rfl
      have hS : Sim F g w.heap s (fun _ => False) (enter (first ++ args ++ caps)) ((fv ++ vargs ++ cv) ++ Array.replicate (fn.ntmps - (fv ++ vargs ++ cv).size) undef) [] := by
        refine { rel := hrel, evo := .refl, slots := fun t => ?_, inj := ?_, adr := by simp, pnd := by simp, size := ?_, dfs := ⟨[], rfl, .nil, by simp⟩ }
        · by_cases hp : hi.prom.contains t = true
          · exact (SlotOk.prom hp).2 (.inl (hout t hp))
          · exact (SlotOk.val (by simpa using hp)).2 (enc_args hall _ t)
        · rintro t t' b (⟨h1, _, h2⟩ | ⟨h1, _⟩)
          · exact absurd (hout t h1) h2
          · simp at h1
        · simp only [Array.size_append, Array.size_replicate] at hsz ⊢
          simp only [F]
          omega
      refine simS (F := F) hP ⟨fn, by rw [hbf]; exact hfn, rfl⟩ body PF.body c2 c7 c8 (fun _ _ _ _ => rfl) (.inr hbr) [] _ _ s g w _ _ [] hS hw ?_
      rintro x e' s' g' w' mine' tmps' df' t ⟨hx, hQ⟩ hS' ht
      have htd : t = [] ∨ ∃ k', t = .code .ret :: k' := by
        cases x with
        | normal => exact .inl ht
        | ret => exact .inr ht
        | exit id => exact hx.elim
      refine Reach.step (m_leave hbr htd) ?_
      obtain ⟨rs, d1, d2, d3⟩ := hS'.dfs
      have d1 : df' = rs.map mark := d1
      rw [d1]
      refine m_takes rs w' d3 d2 hS'.rel fun w'' q1 q2 q3 q4 => ?_
      have hsame : ∀ (b : Nat) c el f, w'.heap[b]? = some (Obj.cells c el f) → w''.heap[b]? = w'.heap[b]? := by
        intro b' cc el ff hb'
        refine q1 b' fun hm => ?_
        have := (d3 b' hm).2
        rw [hb'] at this
        cases this
      split at hQ
      · rename_i xs hxs
        obtain ⟨th, hQ⟩ := hQ
        obtain ⟨vs, r1, r2, r3⟩ := res_all (w := w'') hS' q4.stays hsame c4 hxs
        exact hk _ s' g' w'' _ (retF b tmps' [] t) hQ (q3.disown (by simp)) (hS'.evo.trans q4) (enc_oneV r2 r3) hbf ⟨rfl, rfl, hbk, fn, by rw [show (retF b tmps' [] t).fn = b.fn from rfl, hbf]; exact hfn, run_results r1⟩
      · exact hQ.elim
  · exact h.elim
/-- A function. -/
theorem rc_fn (hP : X.P.follows .mixedOrders = true) (hL : Laid X prog) {k : Nat} {first caps args : List V} {s : St} {Q : V → St → Prop} (h : bodyC prog (RCx X) (.fn k first caps) args s Q) : RC X (.fn k first caps) args s Q := by
  intro g w kept vf vargs hrel hfE haE
  obtain ⟨f, fv, cv, h1, h2, h3⟩ := rc_fn' hP hL h g w kept vf vargs hrel hfE haE
  refine ⟨_, .inl ⟨f, _, h2, rfl⟩, fun c cs G hk => h3 (c :: cs) G fun v s' g' w' vv fr q1 q2 q3 q4 q5 q6 => ?_⟩
  exact Reach.step (step_leave_returned q6) (hk v s' g' w' vv q1 q2 q3 q4)

theorem noRf_pss : ∀ {c : Stm}, c.noRf = true → c.pss = []
  | .skip, _ | .reg _, _ | .exit _, _ | .ret, _ | .refuse, _ => rfl
  | .seq a b, h | .cond _ a b, h => by
    simp only [Stm.noRf, Bool.and_eq_true] at h
    simp [Stm.pss, noRf_pss h.1, noRf_pss h.2]
  | .block _ c, h | .loop c, h => by
    simp only [Stm.noRf] at h
    simp [Stm.pss, noRf_pss h]
  | .rfunc _ _ _ _ _, h => by simp [Stm.noRf] at h
theorem pw_own {c : Stm} {own : List Nat} (h1 : ∀ q ∈ laidIn c, q ∈ own) (h2 : ∀ q ∈ wroteIn c, q ∈ own) : ∀ i ∈ c.inss, ∀ q ∈ i.op.pw, own.contains q = true := by
  intro i hi q hq
  simp only [List.contains_eq_mem, decide_eq_true_eq]
  have m1 : ∀ r, (match i.op with | .lput r _ _ => some r | _ => none) = some r → r ∈ laidIn c := fun r h => List.mem_filterMap.2 ⟨i, hi, h⟩
  have m2 : ∀ r, (match i.op with | .lset r _ _ | .lstore r _ _ _ => some r | _ => none) = some r → r ∈ wroteIn c := fun r h => List.mem_filterMap.2 ⟨i, hi, h⟩
  cases hop : i.op <;> rw [hop] at hq <;> simp only [Op.pw, List.mem_cons, List.not_mem_nil, or_false] at hq
  · subst hq; exact h1 _ (m1 _ (by rw [hop]))
  · subst hq; exact h2 _ (m2 _ (by rw [hop]))
  · subst hq; exact h2 _ (m2 _ (by rw [hop]))

/-- Slots with bound parameters. -/
theorem bind_slots {h : Hint} {g : Gh} {H : Heap} {A : Nat → Nat → Prop} : ∀ (ps : List Nat) (xs : List V) (vs : List Value) (e : Env) (ts : Array Value), (∀ q ∈ ps, h.prom.contains q = false ∧ q < ts.size) → ps.length = xs.length → xs.length = vs.length →
    (∀ (j : Nat) x, xs[j]? = some x → Enc X.nm g H x (vs.getD j undef)) → (∀ t, SlotOk X h g H A e ts t) →
    (∀ t, SlotOk X h g H A (e.bind ps xs) ((ps.zip vs).foldl (fun ts q => ts.setIfInBounds q.1 q.2) ts) t) ∧ ((ps.zip vs).foldl (fun ts q => ts.setIfInBounds q.1 q.2) ts).size = ts.size ∧ ∀ t, h.prom.contains t = true → e.bind ps xs t = e t
  | [], [], [], e, ts, _, _, _, _, hs => ⟨hs, rfl, fun _ _ => rfl⟩
  | p :: ps, x :: xs, v :: vs, e, ts, hp, h1, h2, h3, hs => by
    obtain ⟨p1, p2⟩ := hp p (by simp)
    have := bind_slots ps xs vs (e.set p x) (ts.setIfInBounds p v) (fun q hq => by have := hp q (by simp [hq]); exact ⟨this.1, by simpa using this.2⟩) (by simpa using h1) (by simpa using h2) (fun j y hy => by have := h3 (j + 1) y (by simpa using hy); simpa using this) (fun t => by
      by_cases e1 : t = p
      · subst e1
        rw [SlotOk.val p1, Env.set_same, getD_set_same p2]
        exact h3 0 x rfl
      · exact (hs t).congr (Env.set_other e1) (getD_set_other e1))
    obtain ⟨a1, a2, a3⟩ := this
    refine ⟨a1, by simpa using a2, fun t ht => ?_⟩
    have hne : t ≠ p := by rintro rfl; rw [p1] at ht; cases ht
    exact (a3 t ht).trans (Env.set_other hne)
  | [], _ :: _, _, _, _, _, h, _, _, _ => by simp at h
  | _ :: _, [], _, _, _, _, h, _, _, _ => by simp at h
  | [], [], _ :: _, _, _, _, _, h, _, _ => by simp at h
  | _ :: _, _ :: _, [], _, _, _, _, h, _, _ => by simp at h

theorem LState.real_ready {x : LState} (h : x = .ready) : x.real = .ready := by subst h; rfl

/-- A round. -/
theorem rc_yield (hP : X.P.follows .mixedOrders = true) {l : Nat} {args : List V} {s : St} {Q : V → St → Prop} (h : bodyC prog (RCx X) (.yield l) args s Q) : RC X (.yield l) args s Q := by
  intro g w kept vf vargs hrel hfE haE
  simp only [bodyC] at h
  split at h
  · rename_i L hl
    obtain ⟨hst, hlen, hw⟩ := h
    cases hfE with
    | @yield _ b hβ =>
    obtain ⟨b', hβ', ⟨r, hr, hrO⟩, hk1, hm1⟩ := hrel.obj l _ hl rfl
    obtain rfl := Option.some.inj (hβ'.symm.trans hβ)
    have hrO0 := hrO
    obtain ⟨o1, o2, o3, o4, hi, fn, hfn, hts, hca, hcb, hown, hwrote, hps, hlt, hpl, ⟨hn1, hn2⟩, hsl⟩ := hrO
    have hsz : vargs.size = r.params.size := by
      have h1 : r.params.toList.length = args.length := by rw [o4]; exact hlen
      have h2 := haE.1
      simp at h1
      omega
    have htmps : (r.params.zip vargs).foldl (fun ts q => ts.setIfInBounds q.1 q.2) r.tmps = (L.ps.zip vargs.toList).foldl (fun ts q => ts.setIfInBounds q.1 q.2) r.tmps := by
      rw [← o4, ← Array.foldl_toList, Array.toList_zip]
    refine ⟨Frame.round b' r.fn ((r.params.zip vargs).foldl (fun ts q => ts.setIfInBounds q.1 q.2) r.tmps) r.assign r.body .normal, .inr ⟨b', r.fn, (r.params.zip vargs).foldl (fun ts q => ts.setIfInBounds q.1 q.2) r.tmps, r.assign, r.body, ?_, rfl⟩, fun c cs G hk => ?_⟩
    · simp [Deferred.ofValue, invoke, Instr.yield, Sem.run_bind, run_getLoop hr, hsz]
    · rw [htmps]
      generalize hb : ({ (default : Frame) with fn := r.fn, kind := .normal, roundOf := some b' } : Frame) = bf
      have hF : Frame.round b' r.fn ((L.ps.zip vargs.toList).foldl (fun ts q => ts.setIfInBounds q.1 q.2) r.tmps) r.assign r.body .normal = mkF bf ((L.ps.zip vargs.toList).foldl (fun ts q => ts.setIfInBounds q.1 q.2) r.tmps) [] [.code r.assign, .beginRound, .code r.body] := by
        rw [← hb]
        rfl
      rw [hF]
      have hbk : bf.kind = .normal := by rw [← hb]
      have hbf : bf.fn = r.fn := by rw [← hb]
      have hbr : bf.roundOf = some b' := by rw [← hb]
      let F : Fix := ⟨X, hi, ⟨g, w.heap, s⟩, kept, fun t => L.own.contains t, fn.ntmps, []⟩
      have hslots : ∀ t, SlotOk X hi g w.heap (Acc (fun t => L.own.contains t) kept (fun _ => False)) (L.env.clear L.own) r.tmps t := by
        intro t
        by_cases ho : L.own.contains t = true
        · by_cases hp : hi.prom.contains t = true
          · exact (SlotOk.prom hp).2 (.inl (by simp only [Env.clear]; rw [if_pos ho]))
          · refine (SlotOk.val (by simpa using hp)).2 ?_
            simp only [Env.clear]
            rw [if_pos ho]
            exact .undef _
        · refine SlotOk.congr (e := L.env) (by simp only [Env.clear]; rw [if_neg ho]) rfl ((hsl t).mono (.refl g) (.refl g w.heap) fun b hb => ⟨?_, rfl⟩)
          unfold Acc
          rw [if_neg ho]
          exact hrel.loops l L b hl hb
      obtain ⟨b1, b2, b3⟩ := bind_slots (X := X) (g := g) L.ps args vargs.toList _ r.tmps (fun q hq => ⟨hps q hq, by rw [hts]; exact hpl q hq⟩) hlen (by simpa using haE.1) (fun j x hx => by
        have := haE.2 j x hx
        rw [Array.getD_eq_getD_getElem?] at this
        simpa [List.getD_eq_getElem?_getD] using this) hslots
      have hS : Sim F g w.heap s (fun _ => False) ((L.env.clear L.own).bind L.ps args) ((L.ps.zip vargs.toList).foldl (fun ts q => ts.setIfInBounds q.1 q.2) r.tmps) [] := by
        refine { rel := hrel, evo := .refl, slots := b1, inj := ?_, adr := by simp, pnd := by simp, size := b2.trans hts, dfs := ⟨[], rfl, .nil, by simp⟩ }
        rintro t t' b (⟨h1, h2, h3⟩ | ⟨h1, _⟩)
        · refine absurd ?_ h3
          rw [b3 t h1]
          simp only [Env.clear]
          have h2 : L.own.contains t = true := h2
          rw [if_pos h2]
        · simp at h1
      have sub1 : ∀ q ∈ laidIn L.assign, q ∈ L.own := fun q hq => by rw [hown]; simp [hq]
      have sub2 : ∀ q ∈ laidIn L.body, q ∈ L.own := fun q hq => by rw [hown]; simp [hq]
      have sub3 : ∀ q ∈ wroteIn L.assign ++ wroteIn L.body, q ∈ L.own := fun q hq => by
        have := List.all_eq_true.1 hwrote q hq
        simpa using this
      have hfn' : ∃ fn', F.X.P.funcs[bf.fn]? = some fn' ∧ fn'.ntmps = F.nt := ⟨fn, by rw [hbf]; exact hfn, rfl⟩
      refine simS (F := F) hP hfn' r.assign L.assign hca (fun i hi => hlt i (by simp [hi])) (by rw [noRf_pss hn1]; simp) (pw_own sub1 fun q hq => sub3 q (by simp [hq])) (.inl hn1) [.beginRound, .code r.body] _ _ s g w _ _ [] hS hw ?_
      rintro x e1 s1 g1 w1 mine1 tmps1 df1 t ⟨rfl, hQ⟩ hS1 ht
      obtain rfl : t = _ := ht
      split at hQ
      · rename_i L1 hl1
        obtain ⟨hst1, hQ⟩ := hQ
        obtain ⟨bb, hβ1, ⟨r1, hr1, hr1O⟩, _, hm1'⟩ := hS1.rel.obj l _ hl1 rfl
        have hbb : bb = b' := by
          have := hS1.evo.le.β l b' hβ
          exact Option.some.inj (hβ1.symm.trans this)
        subst hbb
        refine Reach.step (m_beginRound hbr hr1 (by rw [hr1O.state, hst1]; rfl)) ?_
        obtain ⟨u1, u2, u3⟩ := setObj_at (ob' := .loop { r1 with state := .busy }) hr1
        obtain ⟨v1, v2⟩ := hS1.rel.setObj (o' := .loop { L1 with state := .busy }) hl1 rfl hβ1 u2 u3 rfl (fun L' h => ⟨L1, rfl⟩) (fun hk' hst' => ⟨_, u1, by
          have := hr1O.mono (g' := g1) (.refl g1) hst' (fun b hb => ⟨hb, hk' b (hS1.rel.loops l L1 b hl1 hb)⟩)
          obtain ⟨a1, a2, a3, a4, a5⟩ := this
          exact ⟨rfl, a2, a3, a4, a5⟩⟩)
        have hS2 : Sim (F.at df1) g1 (setW w1 bb { r1 with state := .busy }).heap (s1.set l (.loop { L1 with state := .busy })) mine1 e1 tmps1 [] :=
          hS1.heap v1 v2 fun b hb => u3 b fun e => hm1' (e ▸ hb)
        refine simS (F := F) hP hfn' r.body L.body hcb (fun i hi => hlt i (by simp [hi])) (by rw [noRf_pss hn2]; simp) (pw_own sub2 fun q hq => sub3 q (by simp [hq])) (.inl hn2) [] _ _ _ g1 (setW w1 bb { r1 with state := .busy }) _ _ df1 hS2 hQ ?_
        intro x e2 s2 g2 w2 mine2 tmps2 df2 t hQ hS3 ht
        split at hQ
        · rename_i L2 hl2
          obtain ⟨bc, hβ2, ⟨r2, hr2, hr2O⟩, _, hm2⟩ := hS3.rel.obj l _ hl2 rfl
          have hbc : bc = bb := by
            have := hS3.evo.le.β l bb hβ
            exact Option.some.inj (hβ2.symm.trans this)
          subst hbc
          have fin : ∀ (j : Option Ex) (st : LState), j ≠ some .normal → st.real = (if (j.bind Ex.code).isNone then .ready else .done) → (j.isNone = (j.bind Ex.code).isNone) →
              ((t = [] ∧ (j.bind Ex.code) = none) ∨ (∃ k', t = .code .ret :: k' ∧ (j.bind Ex.code) = some .ret) ∨ ∃ id k', t = .code (.exit id) :: k' ∧ exitTo id k' = none ∧ (j.bind Ex.code) = some (.exit id)) →
              Q (.bool j.isNone) (s2.set l (.loop { L2 with state := st, jump := j })) → Reach X.P G (lone (mkF bf tmps2 df2 t) (c :: cs) w2) := by
            intro j st hjn hj1 hj2 hj3 hQ'
            obtain ⟨x1, x2, x3⟩ := setObj_at (ob' := .loop { r2 with state := if (j.bind Ex.code).isNone then .ready else .done, pending := j.bind Ex.code }) hr2
            obtain ⟨y1, y2⟩ := hS3.rel.setObj (o' := .loop { L2 with state := st, jump := j }) hl2 rfl hβ2 x2 x3 rfl (fun L' h => ⟨L2, rfl⟩) (fun hk' hst' => ⟨_, x1, by
              have := hr2O.mono (g' := g2) (.refl g2) hst' (fun b hb => ⟨hb, hk' b (hS3.rel.loops l L2 b hl2 hb)⟩)
              obtain ⟨a1, a2, a3, a4, a5⟩ := this
              exact ⟨hj1.symm, rfl, hjn, a4, a5⟩⟩)
            refine Reach.step (m_round_end hbr hbk hr2 hj3) (hk _ _ g2 (setW w2 bc _) _ hQ' (y1.disown (by simp)) (hS3.evo.trans y2) ?_)
            rw [hj2]
            exact .bool _
          cases x with
          | normal => exact fin none .ready (by simp) rfl rfl (.inl ⟨ht, rfl⟩) hQ
          | ret =>
            obtain ⟨k', hk'⟩ := ht
            exact fin (some .ret) .done (by simp) rfl rfl (.inr (.inl ⟨k', hk', rfl⟩)) hQ
          | exit id =>
            obtain ⟨k', hk', hex⟩ := ht
            exact fin (some (.exit id)) .done (by simp) rfl rfl (.inr (.inr ⟨id, k', hk', by rw [hex]; rfl, rfl⟩)) hQ
        · exact hQ.elim
      · exact hQ.elim
  · exact h.elim

/-- What calls come to in the model is closed under bodies. -/
theorem RCx.closed (hP : X.P.follows .mixedOrders = true) (hL : Laid X prog) (f : V) (args : List V) (s : St) (Q : V → St → Prop) (h : bodyC prog (RCx X) f args s Q) : RCx X f args s Q := by
  refine ⟨?_, bodyC_ex RCx.good h⟩
  cases f with
  | fn k first caps => exact rc_fn hP hL h
  | yield l => exact rc_yield hP h
  | _ => exact h.elim
/-- THE LAW: what the pure machine says of a call, the model's does. -/
theorem Call.sound (hP : X.P.follows .mixedOrders = true) (hL : Laid X prog) {f : V} {args : List V} {s : St} {Q : V → St → Prop} (h : Call prog f args s Q) : RCx X f args s Q :=
  h (RCx X) RCx.good.mono (RCx.closed hP hL)

theorem Call.out {f : V} {args : List V} {s : St} {Q : V → St → Prop} (h : Call prog f args s Q) : bodyC prog (Call prog) f args s Q :=
  h (fun f args s Q => bodyC prog (Call prog) f args s Q) (fun f a s Q Q' h hq => bodyC_mono Call.mono (fun _ _ _ _ h => h) hq h)
    fun f a s Q h => bodyC_mono Call.mono (fun _ _ _ _ h => Call.intro h) (fun _ _ h => h) h

/-- What the pure machine says of a call of a function, the kit's 'Calls' says. -/
theorem Calls.of_call (hP : X.P.follows .mixedOrders = true) (hL : Laid X prog) {f : FuncId} {k : Nat} (hn : X.nm f = some k) {args : List V} {vargs : Array Value} {s : St} {g : Gh} {W : World} {kept : Nat → Prop} {Q : V → St → Prop}
    (hrel : Rel X g W.heap s kept (fun _ => False)) (ha : EncL X.nm g W.heap args vargs) (h : Call prog (.fn k [] []) args s Q) :
    Calls X.P f vargs W fun e W' => ∃ v s' g' vv, e = .returned vv ∧ (W'.os = W.os ∧ W'.output = W.output) ∧ Q v s' ∧ Rel X g' W'.heap s' kept (fun _ => False) ∧ Evo g W.heap s kept g' W'.heap s' ∧ Enc X.nm g' W'.heap v vv := by
  intro cs
  have hb : bodyC prog (RCx X) (.fn k [] []) args s Q := bodyC_mono RCx.good.mono (fun _ _ _ _ h => Call.sound hP hL h) (fun _ _ h => h) (Call.out h)
  obtain ⟨f', fv, cv, h1, h2, h3⟩ := rc_fn' hP hL hb g W kept (.func (.func f) #[] #[]) vargs hrel (.fn hn rfl rfl (by simp) (by simp)) ha
  cases h1
  have e1 : (#[] ++ vargs ++ #[] : Array Value) = vargs := by simp
  rw [e1] at h3
  obtain ⟨m', ⟨hst, hos⟩, w', fr, rfl, v, s', g', vv, q1, q2, q3, q4, q5, q6⟩ := h3 cs (fun m => ∃ w' fr, m = lone fr cs w' ∧ ∃ v s' g' vv, Q v s' ∧ Rel X g' w'.heap s' kept (fun _ => False) ∧ Evo g W.heap s kept g' w'.heap s' ∧ Enc X.nm g' w'.heap v vv ∧ fr.fn = f ∧ fr.leaving X.P w' (.returned vv))
    fun v s' g' w' vv fr q1 q2 q3 q4 q5 q6 => Reach.here ⟨w', fr, rfl, v, s', g', vv, q1, q2, q3, q4, q5, q6⟩
  exact ⟨.returned vv, w', fr, ⟨v, s', g', vv, rfl, hos, q1, q2, q3, q4⟩, hst, q5, q6⟩
end
end Go.Hu

set_option linter.unusedSimpArgs false
set_option linter.unusedVariables false
namespace Go.Hu
open Go.ChangeShapes Go.WideShapes Go.ChangeAt Go.RowKit

/-- The statement's end: true; nothing that was there is changed. -/
theorem post_true {H : Type} {enc : TypeId × Value → H} {P : Program} (hK : Kids P (· < P.types.size)) (hz : ∀ t e, t < P.types.size → P.underlying t = some (.slice e) → 0 < P.cellsOf e) {fn : Func} (hpt : ∀ t ∈ fn.params.toList, t < P.types.size)
    {s : ChangeSpec} (hvars : s.vars = []) {W W' : World} {args : Array Value} {ds gs : List (DataW H)} {before : List MemPlace} (hW : DataW.Whole enc P fn.params.toList s.vars false W args.toList ds gs before)
    {t : TypeId} (hres : fn.resultTypes = #[t]) (ht : P.underlying t = some .bool) (hspec : s.fn H ds = { results := [.lit (.bool true)], args := ds })
    (hos : W'.os = W.os ∧ W'.output = W.output) (hkeep : ∀ b, b < W.heap.size → W'.heap[b]? = W.heap[b]?) : s.post enc P fn false true false false W args (.bool true) W' := by
  have hlt := hW.lt
  obtain ⟨p, q, hA, hV, rfl, hfz, _⟩ := id hW
  rw [hvars] at hV
  have hgs : gs = [] ∧ q = [] := by
    cases gs with
    | nil => exact ⟨rfl, hV⟩
    | cons d ds => exact hV.elim
  obtain ⟨rfl, rfl⟩ := hgs
  have hsame : ∀ m ∈ p ++ [], W.sameAt W' m := by
    intro m hm
    have hb := hlt m hm
    cases m with
    | cell b off => simp only [World.sameAt, World.cell?]; simp only [MemPlace.block] at hb; rw [hkeep b hb]
    | map b => exact hkeep b hb
  have hargs : DataW.TrodAll enc P W' 0 (fun b => decide (b < W.heap.size)) true fn.params.toList args.toList ds p := by
    have h1 := hA.respare hK hz hpt (spare' := fun b => decide (b < W.heap.size)) (fun m hm => by simpa using hlt m (by simp [hm]))
    have carry : ∀ {ts : List TypeId} {vs : List Value} {ds : List (DataW H)} {ps : List MemPlace}, DataW.TrodAll enc P W 0 (fun b => decide (b < W.heap.size)) true ts vs ds ps → (∀ m ∈ ps, W.sameAt W' m) → DataW.TrodAll enc P W' 0 (fun b => decide (b < W.heap.size)) true ts vs ds ps := by
      intro ts
      induction ts with
      | nil => intro vs ds ps h _; cases vs <;> cases ds <;> simp only [DataW.TrodAll] at h ⊢ <;> exact h
      | cons t ts ih =>
        intro vs ds ps h hs
        cases vs with
        | nil => exact h.elim
        | cons v vs =>
          cases ds with
          | nil => exact h.elim
          | cons d ds =>
            obtain ⟨a, b, ⟨n, hn⟩, h2, rfl⟩ := h
            exact ⟨a, b, ⟨n, DataW.trod_carry n _ _ _ hn fun m hm => hs m (by simp [hm])⟩, ih h2 fun m hm => hs m (by simp [hm]), rfl⟩
    exact carry h1 fun m hm => hsame m (by simp [hm])
  refine ⟨ds, [], p ++ [], [], p, [], hW, ?_, ?_, ?_, ⟨hos.1, hos.2, fun i hi => ?_⟩, by simp⟩
  · simp only [List.append_nil, hspec, hres]
    exact trodAll_mk1 (shut_bool ht _)
  · simp only [List.append_nil, hspec]
    exact hargs
  · simp only [List.append_nil, hspec, hvars]
    exact rfl
  · rw [hkeep i hi]
    split
    · rename_i h1 h2
      have := h1.symm.trans h2
      simp only [Option.some.injEq, Obj.cells.injEq] at this
      obtain ⟨rfl, rfl, rfl⟩ := this
      exact ⟨rfl, rfl, rfl, fun _ _ => rfl⟩
    · rename_i h1 h2
      have := h1.symm.trans h2
      simp only [Option.some.injEq, Obj.map.injEq] at this
      obtain ⟨rfl, rfl⟩ := this
      exact .inr ⟨rfl, rfl⟩
    · rfl

/-- At first nothing is told; all cells stay. -/
def g0 (H : Heap) : Gh := { β := fun _ => none, τ := fun _ => none, Z := fun b j => ∃ v, cellH H b j = some v, κ := fun _ _ => False }
theorem rel0 {X : Ctx} {H : Heap} (hgl : ∀ n cs, X.gl n = some cs → ∀ (j : Nat) x, cs[j]? = some x → ∃ v, cellH H n j = some v ∧ Enc X.nm (g0 H) H x v) : Rel X (g0 H) H (fun _ => none) (· < H.size) (fun _ => False) := by
  refine { obj := ?_, inj := ?_, zc := fun b j h => h, zmine := fun _ _ _ h => h, zobj := ?_, tok := ?_, tokinj := ?_, fin := ⟨0, fun l _ => ⟨rfl, rfl, rfl⟩⟩, bmine := fun _ h => h.elim, bkept := fun _ h => h, bobj := ?_, btok := ?_, loops := ?_, glob := ?_ }
  · intro l o h; cases h
  · intro l l' o o' b h; cases h
  · intro b j l o _ h; cases h
  · intro t n h; cases h
  · intro t t' n n' x x' h; cases h
  · intro l b h; cases h
  · intro t x h; cases h
  · intro l L b h; cases h
  · intro n cs hn j x hx
    obtain ⟨v, h1, h2⟩ := hgl n cs hn j x hx
    exact ⟨v, h1, ⟨v, h1⟩, h2⟩

/-! ## Readable arguments -/
/-- What a type's cells are: numbers, truth values, lists of flat elements (numbers: true), which are rows (true) or single. -/
inductive Ck where
  | int | bool | sl (row : Bool) (es : List Bool)
  deriving DecidableEq
def cksF (P : Program) (K : TypeId → Option (List Ck)) : Nat → List Field → Option (List Ck)
  | _, [] => some []
  | o, f :: fs => if f.offset = o then (K f.type).bind fun l => if P.cellsOf f.type = l.length then (cksF P K (o + l.length) fs).map (l ++ ·) else none else none
def flat : List Ck → Option (List Bool)
  | [] => some []
  | .int :: l => (flat l).map (true :: ·)
  | .bool :: l => (flat l).map (false :: ·)
  | .sl _ _ :: _ => none
def cks (P : Program) : Nat → TypeId → Option (List Ck)
  | 0, _ => none
  | k + 1, t => match P.underlying t with
    | some (.int .i64) => some [.int]
    | some .bool => some [.bool]
    | some (.struct fs) => (cksF P (cks P k) 0 fs.toList).bind fun l => if P.cellsOf t = l.length then some l else none
    | some (.array n e) => (cks P k e).bind fun l => if P.cellsOf e = l.length ∧ P.cellsOf t = n * l.length then some (List.replicate n l).flatten else none
    | some (.slice e) => (cks P k e).bind fun l => (flat l).bind fun es => if P.cellsOf e = es.length then (P.underlying e).bind fun d => if d.row || decide (es.length = 1) then some [.sl d.row es] else none else none
    | _ => none

def Has1 : Bool → V → Prop
  | true, v => ∃ n : Int, (-9223372036854775808 ≤ n ∧ n < 9223372036854775808) ∧ v = .int n
  | false, v => ∃ b : Bool, v = .bool b
def HasF : List Bool → List V → Prop
  | [], vs => vs = []
  | k :: ks, vs => ∃ v vs', vs = v :: vs' ∧ Has1 k v ∧ HasF ks vs'
def wrap (row : Bool) (cs : List V) : V := if row then .agg cs else cs.headD .undef
def HasC : Ck → V → Prop
  | .int, v => Has1 true v
  | .bool, v => Has1 false v
  | .sl row es, v => ∃ xs : List V, v = .lst xs .any ∧ xs.length < 9223372036854775808 ∧ ∀ x ∈ xs, ∃ cs, HasF es cs ∧ x = wrap row cs
def Has : List Ck → List V → Prop
  | [], vs => vs = []
  | k :: ks, vs => ∃ v vs', vs = v :: vs' ∧ HasC k v ∧ Has ks vs'
theorem Has.append : ∀ {a b : List Ck} {xs ys : List V}, Has a xs → Has b ys → Has (a ++ b) (xs ++ ys)
  | [], b, xs, ys, h, h' => by simp only [Has] at h; subst h; exact h'
  | k :: a, b, xs, ys, h, h' => by
    obtain ⟨v, vs, rfl, h1, h2⟩ := h
    exact ⟨v, vs ++ ys, rfl, h1, Has.append h2 h'⟩
theorem Has.length : ∀ {a : List Ck} {xs : List V}, Has a xs → xs.length = a.length
  | [], xs, h => by simp only [Has] at h; subst h; rfl
  | k :: a, xs, h => by
    obtain ⟨v, vs, rfl, h1, h2⟩ := h
    simp [Has.length h2]
theorem Has.flat : ∀ {a : List Ck} {es : List Bool} {xs : List V}, flat a = some es → Has a xs → HasF es xs ∧ es.length = a.length
  | [], es, xs, h, h' => by
    simp only [Hu.flat, Option.some.injEq] at h
    subst h
    exact ⟨h', rfl⟩
  | .int :: a, es, xs, h, h' => by
    simp only [Hu.flat, Option.map_eq_some_iff] at h
    obtain ⟨es', h1, rfl⟩ := h
    obtain ⟨v, vs, rfl, h2, h3⟩ := h'
    obtain ⟨h4, h5⟩ := Has.flat h1 h3
    exact ⟨⟨v, vs, rfl, h2, h4⟩, by simp [h5]⟩
  | .bool :: a, es, xs, h, h' => by
    simp only [Hu.flat, Option.map_eq_some_iff] at h
    obtain ⟨es', h1, rfl⟩ := h
    obtain ⟨v, vs, rfl, h2, h3⟩ := h'
    obtain ⟨h4, h5⟩ := Has.flat h1 h3
    exact ⟨⟨v, vs, rfl, h2, h4⟩, by simp [h5]⟩
  | .sl _ _ :: a, es, xs, h, h' => by simp [Hu.flat] at h

/-- Cells tell pure cells. -/
def EncC (nm : FuncId → Option Nat) (W : World) (ys : List V) (cs : List Value) : Prop := ys.length = cs.length ∧ ∀ (j : Nat) y, ys[j]? = some y → Enc nm (g0 W.heap) W.heap y (cs.getD j undef)
theorem EncC.append {nm : FuncId → Option Nat} {W : World} {xs ys : List V} {cs ds : List Value} (h : EncC nm W xs cs) (h' : EncC nm W ys ds) : EncC nm W (xs ++ ys) (cs ++ ds) := by
  refine ⟨by simp [h.1, h'.1], fun j y hy => ?_⟩
  by_cases hj : j < xs.length
  · rw [List.getElem?_append_left hj] at hy
    have := h.2 j y hy
    rw [List.getD_eq_getElem?_getD, List.getElem?_append_left (by rw [← h.1]; exact hj), ← List.getD_eq_getElem?_getD]
    exact this
  · rw [List.getElem?_append_right (by omega)] at hy
    have := h'.2 _ y hy
    rw [List.getD_eq_getElem?_getD, List.getElem?_append_right (by rw [← h.1]; omega), ← h.1, ← List.getD_eq_getElem?_getD]
    exact this
def Straight (cs : List Value) : Prop := ∀ a n c, Value.slice (some a) n c ∈ cs → a.spot = none

theorem Straight.sub {cs ds : List Value} (h : Straight cs) (hs : ∀ v ∈ ds, v ∈ cs) : Straight ds := fun a n c hm => h a n c (hs _ hm)
theorem cells_get {w : World} {base : Nat} {a : Addr} {n : Nat} {cs : List Value} (h : w.cells? base a n = some cs) : cs.length = n ∧ ∀ i, i < n → w.cell? (a.add i) = cs[i]? := by
  have hb : base ≤ a.block := by
    unfold World.cells? at h
    split at h
    · assumption
    · cases h
  unfold World.cells? at h
  rw [if_pos hb] at h
  have key : ∀ (l : List Nat) (cs : List Value), l.mapM (fun i => w.cell? (a.add i)) = some cs → cs.length = l.length ∧ ∀ (i j : Nat), l[i]? = some j → w.cell? (a.add j) = cs[i]? := by
    intro l
    induction l with
    | nil => intro cs h; simp at h; subst h; simp
    | cons x l ih =>
      intro cs h
      simp only [List.mapM_cons, Option.bind_eq_bind, Option.bind_eq_some_iff, Option.pure_def, Option.some.injEq] at h
      obtain ⟨v, h1, vs, h2, rfl⟩ := h
      obtain ⟨h3, h4⟩ := ih vs h2
      refine ⟨by simp [h3], fun i j hij => ?_⟩
      cases i with
      | zero => simp at hij; subst hij; simp [h1]
      | succ i => simp at hij ⊢; exact h4 i j hij
  obtain ⟨h1, h2⟩ := key _ _ h
  refine ⟨by simpa using h1, fun i hi => h2 i i (by simp [hi])⟩
theorem flatMap_wrap {row : Bool} {es : List Bool} (hr : row = true ∨ es.length = 1) {cs : List V} (h : HasF es cs) : (wrap row cs).cells = cs := by
  unfold wrap
  split
  · rfl
  · rename_i hrow
    have h1 : es.length = 1 := hr.resolve_left hrow
    match es, h1 with
    | [k], _ =>
      obtain ⟨v, vs, rfl, h2, rfl⟩ := h
      cases k
      · obtain ⟨b, rfl⟩ := h2; rfl
      · obtain ⟨n, _, rfl⟩ := h2; rfl
theorem HasF.length : ∀ {a : List Bool} {xs : List V}, HasF a xs → xs.length = a.length
  | [], xs, h => by simp only [HasF] at h; subst h; rfl
  | k :: a, xs, h => by
    obtain ⟨v, vs, rfl, h1, h2⟩ := h
    simp [HasF.length h2]

section
variable {H : Type} {enc : TypeId × Value → H} {P : Program} {W : World} {base : Nat} {spare : Nat → Bool} {held : Bool} {nm : FuncId → Option Nat}

theorem add_add {a : Addr} (hs : a.spot = none) {p q j : Nat} (h : p + q = j) : (a.add p).add q = ⟨a.block, a.off + j, none⟩ := by
  subst h
  unfold Addr.add
  cases a with
  | mk blk off spot =>
    simp only at hs
    subst hs
    by_cases hz1 : p = 0
    · by_cases hz2 : q = 0
      · simp [hz1, hz2]
      · simp [hz1, hz2]
    · by_cases hz2 : q = 0
      · simp [hz1, hz2]
      · simp [hz1, hz2, Nat.add_assoc]
theorem flat_app : ∀ {a b : List Ck}, (flat (a ++ b)).isSome = true → (flat a).isSome = true ∧ (flat b).isSome = true
  | [], b, h => ⟨rfl, h⟩
  | .int :: a, b, h => by
    simp only [List.cons_append, flat, Option.isSome_map] at h ⊢
    exact flat_app h
  | .bool :: a, b, h => by
    simp only [List.cons_append, flat, Option.isSome_map] at h ⊢
    exact flat_app h
  | .sl _ _ :: a, b, h => by simp [flat] at h
theorem flat_rep {l : List Ck} : ∀ {n : Nat}, 0 < n → (flat (List.replicate n l).flatten).isSome = true → (flat l).isSome = true
  | 0, h, _ => by omega
  | n + 1, _, h => by
    rw [List.replicate_succ, List.flatten_cons] at h
    exact (flat_app h).1
theorem fields_has {k n : Nat} {cs : List Value} (ih : ∀ {t : TypeId} {l : List Ck} {cs : List Value} {x : DataW H × List MemPlace}, cks P k t = some l → DataW.trod enc P W base spare held n t cs = some x → ((flat l).isSome = true ∨ Straight cs) → ∃ ys, Has l ys ∧ EncC nm W ys cs) :
    ∀ (fs : List Field) (o : Nat) (l : List Ck), cksF P (cks P k) o fs = some l → ((flat l).isSome = true ∨ Straight cs) → (∀ f ∈ fs, ∃ x, DataW.trod enc P W base spare held n f.type ((cs.drop f.offset).take (P.cellsOf f.type)) = some x) → ∃ ys, Has l ys ∧ EncC nm W ys ((cs.drop o).take l.length)
  | [], o, l, h, _, _ => by
    simp only [cksF, Option.some.injEq] at h
    subst h
    exact ⟨[], rfl, by simp [EncC]⟩
  | f :: fs, o, l, h, hst, hx => by
    simp only [cksF] at h
    split at h
    · rename_i ho
      simp only [Option.bind_eq_some_iff] at h
      obtain ⟨l1, h1, h⟩ := h
      split at h
      · rename_i hc
        simp only [Option.map_eq_some_iff] at h
        obtain ⟨l2, h2, rfl⟩ := h
        obtain ⟨x, hx1⟩ := hx f (by simp)
        obtain ⟨ys, g1, g2⟩ := ih h1 hx1 (hst.imp (fun h => (flat_app h).1) fun h => h.sub fun v hv => List.mem_of_mem_drop (List.mem_of_mem_take hv))
        obtain ⟨zs, g3, g4⟩ := fields_has ih fs (o + l1.length) l2 h2 (hst.imp (fun h => (flat_app h).2) id) fun f' hf' => hx f' (by simp [hf'])
        refine ⟨ys ++ zs, g1.append g3, ?_⟩
        rw [List.length_append, List.take_add, List.drop_drop]
        rw [ho, hc] at g2
        exact g2.append g4
      · cases h
    · cases h

theorem trod_has : ∀ (k : Nat) {t : TypeId} {l : List Ck} {fuel : Nat} {cs : List Value} {x : DataW H × List MemPlace}, cks P k t = some l → DataW.trod enc P W base spare held fuel t cs = some x → ((flat l).isSome = true ∨ Straight cs) → ∃ ys, Has l ys ∧ EncC nm W ys cs
  | 0, _, _, _, _, _, h, _, _ => by simp [cks] at h
  | k + 1, t, l, fuel, cs, x, h, hx, hst => by
    unfold cks at h
    split at h
    · rename_i hu
      cases h
      obtain ⟨n, rfl, _, hwf⟩ := DataW.trod_int hu hx
      simp only [Lit.wf, Bool.and_eq_true, decide_eq_true_eq] at hwf
      refine ⟨[.int n], ⟨_, _, rfl, ⟨n, ?_, rfl⟩, rfl⟩, rfl, fun j y hy => ?_⟩
      · have h1 : IntKind.i64.min = -9223372036854775808 := rfl
        have h2 : IntKind.i64.max = 9223372036854775807 := rfl
        omega
      · cases j with
        | zero => simp at hy; subst hy; exact .int n
        | succ j => simp at hy
    · rename_i hu
      cases h
      obtain ⟨b, rfl, _⟩ := DataW.trod_bool hu hx
      refine ⟨[.bool b], ⟨_, _, rfl, ⟨b, rfl⟩, rfl⟩, rfl, fun j y hy => ?_⟩
      cases j with
      | zero => simp at hy; subst hy; exact .bool b
      | succ j => simp at hy
    · rename_i fs hu
      simp only [Option.bind_eq_some_iff] at h
      obtain ⟨l', h1, h⟩ := h
      split at h
      · rename_i hc
        cases h
        obtain ⟨xs, n, rfl, _, hl, hxs, hf⟩ := DataW.trod_struct hu hx
        obtain ⟨ys, g1, g2⟩ := fields_has (k := k) (n := n) (fun h1 h2 h3 => trod_has k h1 h2 h3) fs.toList 0 l h1 hst fun f hf' => by
          obtain ⟨i, hi⟩ := List.mem_iff_getElem?.1 hf'
          have h2 := hf i f (by simpa using hi)
          have hlt : i < xs.length := by
            rw [hxs]
            have := (List.getElem?_eq_some_iff.1 hi).1
            simpa using this
          exact ⟨xs[i], by rw [h2]; simp [hlt]⟩
        refine ⟨ys, g1, ?_⟩
        rw [List.drop_zero, ← hc, ← hl, List.take_length] at g2
        exact g2
      · cases h
    · rename_i n e hu
      simp only [Option.bind_eq_some_iff] at h
      obtain ⟨l', h1, h⟩ := h
      split at h
      · rename_i hc
        cases h
        obtain ⟨xs, m, rfl, _, hl, hxs, hf⟩ := DataW.trod_array hu hx
        have key : ∀ (j i : Nat), i + j = n → ∃ ys, Has (List.replicate j l').flatten ys ∧ EncC nm W ys ((cs.drop (i * l'.length)).take (j * l'.length)) := by
          intro j
          induction j with
          | zero => intro i _; exact ⟨[], rfl, by simp [EncC]⟩
          | succ j ih =>
            intro i hi
            have h2 := hf i (by omega)
            have hx1 : ∃ x, DataW.trod enc P W base spare held m e ((cs.drop (i * P.cellsOf e)).take (P.cellsOf e)) = some x := ⟨xs[i]'(by omega), by rw [h2]; simp [show i < xs.length by omega]⟩
            obtain ⟨x1, hx1⟩ := hx1
            obtain ⟨ys, g1, g2⟩ := trod_has k h1 hx1 (hst.imp (fun h => flat_rep (by omega) h) fun h => h.sub fun v hv => List.mem_of_mem_drop (List.mem_of_mem_take hv))
            obtain ⟨zs, g3, g4⟩ := ih (i + 1) (by omega)
            refine ⟨ys ++ zs, by rw [List.replicate_succ, List.flatten_cons]; exact g1.append g3, ?_⟩
            have e1 : (j + 1) * l'.length = l'.length + j * l'.length := by rw [Nat.add_mul]; omega
            have e2 : (i + 1) * l'.length = i * l'.length + l'.length := by rw [Nat.add_mul]; omega
            rw [e1, List.take_add, List.drop_drop, ← e2]
            rw [hc.1] at g2
            exact g2.append g4
        obtain ⟨ys, g1, g2⟩ := key n 0 (by omega)
        refine ⟨ys, g1, ?_⟩
        rw [Nat.zero_mul, List.drop_zero, ← hc.2, ← hl, List.take_length] at g2
        exact g2
      · cases h
    · rename_i e hu
      simp only [Option.bind_eq_some_iff] at h
      obtain ⟨l', h1, es, h2, h⟩ := h
      split at h
      · rename_i hc
        simp only [Option.bind_eq_some_iff] at h
        obtain ⟨d, hd, h⟩ := h
        split at h
        · rename_i hrow
          cases h
          have hrow' : d.row = true ∨ es.length = 1 := by simpa using hrow
          rcases DataW.trod_slice hu hx with ⟨rfl, _⟩ | ⟨a, len, cap, elems, rest, n, rfl, rfl, _, hba, hlc, hcm, hlen, hel, _⟩
          · refine ⟨[.lst [] .any], ⟨_, _, rfl, ⟨[], rfl, by simp, by simp⟩, rfl⟩, rfl, fun j y hy => ?_⟩
            cases j with
            | zero => simp at hy; subst hy; exact .nillst (by simp)
            | succ j => simp at hy
          · have hsp := (hst.resolve_left (by simp [flat])) a len cap (by simp)
            have hlen63 : len < 9223372036854775808 := by
              have : maxLen = 9223372036854775807 := rfl
              omega
            -- the elements
            have elem : ∀ i, i < len → ∃ (ds : List Value) (ys : List V), W.cells? base (a.add (i * P.cellsOf e)) (P.cellsOf e) = some ds ∧ HasF es ys ∧ EncC nm W ys ds := by
              intro i hi
              have h3 := hel i hi
              have hlt : i < elems.length := by omega
              rw [List.getElem?_eq_getElem hlt, Option.bind_eq_some_iff] at h3
              obtain ⟨ds, h4, h5⟩ := h3
              obtain ⟨ys, g1, g2⟩ := trod_has k h1 h5 (.inl (by rw [h2]; rfl))
              exact ⟨ds, ys, h4, (g1.flat h2).1, g2⟩
            have build : ∀ m, m ≤ len → ∃ xs : List V, xs.length = m ∧ (∀ x ∈ xs, ∃ cs, HasF es cs ∧ x = wrap d.row cs) ∧ (xs.flatMap V.cells).length = m * es.length ∧
                ∀ (j : Nat) y, (xs.flatMap V.cells)[j]? = some y → ∃ v, cellH W.heap a.block (a.off + j) = some v ∧ Enc nm (g0 W.heap) W.heap y v := by
              intro m
              induction m with
              | zero => intro _; exact ⟨[], rfl, by simp, by simp, by simp⟩
              | succ m ih =>
                intro hm
                obtain ⟨xs, b1, b2, b3, b4⟩ := ih (by omega)
                obtain ⟨ds, ys, e1, e2, e3⟩ := elem m (by omega)
                obtain ⟨c1, c2⟩ := cells_get e1
                have hw := flatMap_wrap hrow' e2
                refine ⟨xs ++ [wrap d.row ys], by simp [b1], ?_, ?_, ?_⟩
                · intro x hx
                  rcases List.mem_append.1 hx with hx | hx
                  · exact b2 x hx
                  · simp at hx; exact ⟨ys, e2, hx⟩
                · rw [List.flatMap_append, List.length_append, b3]
                  simp [hw, e2.length, Nat.add_mul]
                · intro j y hy
                  rw [List.flatMap_append] at hy
                  by_cases hj : j < (xs.flatMap V.cells).length
                  · rw [List.getElem?_append_left hj] at hy
                    exact b4 j y hy
                  · rw [List.getElem?_append_right (by omega)] at hy
                    simp only [List.flatMap_cons, List.flatMap_nil, List.append_nil, hw] at hy
                    have hjl : j - (xs.flatMap V.cells).length < ds.length := by rw [← e3.1]; exact (List.getElem?_eq_some_iff.1 hy).1
                    have h6 := c2 (j - (xs.flatMap V.cells).length) (by omega)
                    rw [List.getElem?_eq_getElem hjl] at h6
                    refine ⟨ds[j - (xs.flatMap V.cells).length], ?_, ?_⟩
                    · rw [← cell?_eq, ← h6, add_add hsp (j := j) (by rw [hc, ← b3]; omega)]
                    · have h7 := e3.2 _ y hy
                      rw [List.getD_eq_getElem?_getD, List.getElem?_eq_getElem hjl] at h7
                      exact h7
            obtain ⟨xs, b1, b2, b3, b4⟩ := build len (Nat.le_refl _)
            refine ⟨[.lst xs .any], ⟨_, _, rfl, ⟨xs, rfl, by omega, b2⟩, rfl⟩, rfl, fun j y hy => ?_⟩
            cases j with
            | succ j => simp at hy
            | zero =>
              simp at hy
              subst hy
              cases a with
              | mk blk off spot =>
                simp only at hsp b4
                subst hsp
                have : Enc nm (g0 W.heap) W.heap (.lst xs .any) (.slice (some ⟨blk, off, none⟩) xs.length cap) := by
                  refine .lst (sz := es.length) (vs := fun j => (cellH W.heap blk (off + j)).getD undef) ?_ ?_ ?_ ?_ trivial (by omega)
                  · intro x hx
                    obtain ⟨cs, h6, rfl⟩ := b2 x hx
                    rw [flatMap_wrap hrow' h6, h6.length]
                  · intro j hj
                    obtain ⟨v, h6, _⟩ := b4 j (xs.flatMap V.cells)[j] (by simp [hj])
                    rw [h6]; rfl
                  · intro j hj
                    obtain ⟨v, h6, _⟩ := b4 j (xs.flatMap V.cells)[j] (by simp [hj])
                    exact ⟨v, h6⟩
                  · intro j y hy
                    obtain ⟨v, h6, h7⟩ := b4 j y hy
                    rw [h6]; exact h7
                rw [b1] at this
                exact this
        · cases h
      · cases h
    · cases h

theorem cell_straight {r : Go.Reach} {t : TypeId} {a : Addr} {n c : Nat} (h : Cell.okWide P W r base t (.slice (some a) n c)) : a.spot = none := by
  unfold Cell.okWide at h
  split at h
  all_goals first | (rename_i heq; cases heq; done) | (rename_i heq _; cases heq; done) | skip
  unfold Cell.ok at h
  split at h
  all_goals first | (rename_i heq; cases heq; done) | exact h.elim | skip
  rename_i heq
  cases heq
  exact h.2.2.2.1

/-- An argument, read. -/
theorem arg_has {t : TypeId} {v : Value} {d : DataW H} {ps : List MemPlace} {l : List Ck} {D : TypeDesc} {r : Go.Reach} {base2 : Nat} (hu : P.underlying t = some D) (hr : D.row = true ∨ l.length = 1) {k : Nat} (hc : cks P k t = some l)
    (hx : DataW.Trod enc P W base spare held t v d ps) (hok : Value.okWide P W r base2 t v) : ∃ ys, Has l ys ∧ Enc nm (g0 W.heap) W.heap (wrap D.row ys) v := by
  obtain ⟨fuel, hx⟩ := hx
  cases hrow : D.row with
  | true =>
    have h1 : ∃ cs, v = .agg cs ∧ Row.okWide P W r base2 t cs := by
      unfold Value.okWide at hok
      rw [hu] at hok
      cases D <;> simp only [TypeDesc.row, Bool.false_eq_true] at hrow <;> (obtain ⟨cs, h1, _, h2⟩ := hok; exact ⟨cs, h1, h2⟩)
    obtain ⟨cs, rfl, ts, _, _, hcell⟩ := h1
    have hst : Straight cs.toList := by
      intro a n c hm
      obtain ⟨i, hi⟩ := List.mem_iff_getElem?.1 hm
      obtain ⟨u, _, h2⟩ := hcell i _ (by simpa using hi)
      exact cell_straight h2
    obtain ⟨ys, h1, h2⟩ := trod_has (nm := nm) k hc hx (.inr hst)
    have e1 : (Value.agg cs).cells = cs := rfl
    rw [e1] at h2
    refine ⟨ys, h1, .agg (by simpa using h2.1) fun j y hy => ?_⟩
    have := h2.2 j y hy
    rw [Array.getD_eq_getD_getElem?]
    simpa [List.getD_eq_getElem?_getD] using this
  | false =>
    rw [hrow] at hr
    have hl : l.length = 1 := hr.resolve_left (by simp)
    have h1 : Cell.okWide P W r base2 t v := by
      unfold Value.okWide at hok
      rw [hu] at hok
      cases D <;> first | exact hok | simp [TypeDesc.row] at hrow
    have hn : ∀ cs, v ≠ .agg cs := by
      rintro cs rfl
      unfold Cell.okWide at h1
      rw [hu] at h1
      cases D <;> simp [Cell.ok, hu, TypeDesc.row] at h1 hrow
    have hcells : v.cells.toList = [v] := by
      cases v <;> first | rfl | exact absurd rfl (hn _)
    rw [hcells] at hx
    have hst : Straight [v] := by
      intro a n c hm
      simp at hm
      subst hm
      exact cell_straight h1
    obtain ⟨ys, h2, h3⟩ := trod_has (nm := nm) k hc hx (.inr hst)
    refine ⟨ys, h2, ?_⟩
    have hys := h3.1
    match ys, hys with
    | [y], _ =>
      have := h3.2 0 y rfl
      simpa [wrap] using this
end
end Go.Hu

set_option linter.unusedSimpArgs false
set_option linter.unusedVariables false
namespace Go.Hu
open Go.ChangeShapes Go.WideShapes Go.ChangeAt Go.RowKit

section
variable {H : Type} {enc : TypeId × Value → H} {P : Program} {w : World} {base : Nat} {sp : Nat → Bool} {held : Bool}

/-- A table of single cells: each with its reading. -/
theorem arr_cells {t e : TypeId} {n fuel : Nat} {cs : List Value} {ds : List (DataW H)} {p : List MemPlace} (hu : P.underlying t = some (.array n e)) (hc : P.cellsOf e = 1) (h : DataW.trod enc P w base sp held fuel t cs = some (.agg ds, p)) :
    ∀ (i : Nat) d, ds[i]? = some d → ∃ v m q, cs[i]? = some v ∧ DataW.trod enc P w base sp held m e [v] = some (d, q) := by
  obtain ⟨xs, m, rfl, hx, hl, hn, hel⟩ := DataW.trod_array hu h
  simp only [Prod.mk.injEq, DataW.agg.injEq] at hx
  obtain ⟨rfl, _⟩ := hx
  intro i d hd
  rw [List.getElem?_map, Option.map_eq_some_iff] at hd
  obtain ⟨y, hy, rfl⟩ := hd
  have hi : i < n := by rw [← hn]; exact (List.getElem?_eq_some_iff.1 hy).1
  have h1 := hel i hi
  rw [hc, Nat.mul_one, hy] at h1
  cases hv : cs[i]? with
  | none =>
    exfalso
    have : cs.drop i = [] := List.drop_eq_nil_of_le (List.getElem?_eq_none_iff.1 hv)
    rw [this] at h1
    cases m with
    | zero => simp [DataW.trod] at h1
    | succ m =>
      unfold DataW.trod at h1
      split at h1 <;> first | (simp at h1; done) | skip
      all_goals (try (rename_i heq; simp at heq; done))
      · simp only [List.take_nil, List.length_nil, hc] at h1
        simp at h1
      · simp only [List.take_nil, List.length_nil, hc] at h1
        simp at h1
  | some v =>
    have hlt := (List.getElem?_eq_some_iff.1 hv).1
    have e1 : (cs.drop i).take 1 = [v] := by
      rw [List.drop_eq_getElem_cons hlt, (List.getElem?_eq_some_iff.1 hv).2, List.take_succ_cons, List.take_zero]
    rw [e1] at h1
    exact ⟨v, m, y.2, rfl, h1⟩
end

/-- A global row tells pure cells. -/
def GlobOk (nm : FuncId → Option Nat) (W : World) (n : Nat) (cs : List V) : Prop := ∀ (j : Nat) x, cs[j]? = some x → ∃ v, cellH W.heap n j = some v ∧ ∀ g H, Enc nm g H x v

theorem glob_ints {H : Type} {enc : TypeId × Value → H} {P : Program} {w : World} {base : Nat} {sp : Nat → Bool} {held : Bool} {nm : FuncId → Option Nat} {t e : TypeId} {n fuel g : Nat} {name : String} {cs : Array Value} {p : List MemPlace} (hg : P.globalNamed name = some g) (hv : w.var? P name = some cs)
    (hu : P.underlying t = some (.array n e)) (he : P.underlying e = some (.int .i64)) (hc : P.cellsOf e = 1) (ns : List Int) {ds : List (DataW H)} (hds : ds = ns.map fun k => .lit (.int .i64 k)) (h : DataW.trod enc P w base sp held fuel t cs.toList = some (.agg ds, p)) : GlobOk nm w g (ns.map V.int) := by
  subst hds
  intro j x hx
  rw [List.getElem?_map, Option.map_eq_some_iff] at hx
  obtain ⟨k, hk, rfl⟩ := hx
  obtain ⟨v, m, q, h1, h2⟩ := arr_cells hu hc h j (.lit (.int .i64 k)) (by simp [hk])
  obtain ⟨n', hn', hd, _⟩ := DataW.trod_int he h2
  simp only [List.cons.injEq, and_true] at hn'
  subst hn'
  simp only [Prod.mk.injEq, DataW.lit.injEq, Lit.int.injEq, true_and] at hd
  obtain ⟨rfl, _⟩ := hd
  refine ⟨_, ?_, fun _ _ => .int _⟩
  rw [← cell?_eq, World.var?_cell hg hv j]
  simpa using h1

theorem glob_fns {P : Program} {w : World} {base : Nat} {sp : Nat → Bool} {nm : FuncId → Option Nat} {t e : TypeId} {n fuel g : Nat} {name : String} {cs : Array Value} {p : List MemPlace} {ps rs : Array TypeId} {va : Bool} (hg : P.globalNamed name = some g) (hv : w.var? P name = some cs)
    (hu : P.underlying t = some (.array n e)) (he : P.underlying e = some (.func ps rs va)) (hc : P.cellsOf e = 1) (fs : List (FuncId × List UInt8 × Nat))
    (hfs : ∀ x ∈ fs, nm x.1 = some x.2.2 ∧ x.2.1 ≠ [] ∧ ((List.range P.funcs.size).filter fun f => (P.funcs[f]?).any (·.name.toUTF8.data.toList == x.2.1)) = [x.1])
    {ds : List (DataW (List UInt8))} (hds : ds = fs.map fun x => .held x.2.1) (h : DataW.trod (funcToken P) P w base sp true fuel t cs.toList = some (.agg ds, p)) : GlobOk nm w g (fs.map fun x => V.fn x.2.2 [] []) := by
  subst hds
  intro j x hx
  rw [List.getElem?_map, Option.map_eq_some_iff] at hx
  obtain ⟨k, hk, rfl⟩ := hx
  obtain ⟨v, m, q, h1, h2⟩ := arr_cells hu hc h j (.held k.2.1) (by simp [hk])
  obtain ⟨q1, q2, q3⟩ := hfs k (List.mem_of_getElem? hk)
  obtain ⟨f, bs, k'⟩ := k
  cases bs with
  | nil => exact absurd rfl q2
  | cons b r =>
    obtain rfl := func_of_trod he q3 h2
    refine ⟨.func (.func f) #[] #[], ?_, fun _ _ => .fn q1 rfl rfl (by simp) (by simp)⟩
    rw [← cell?_eq, World.var?_cell hg hv j]
    simpa using h1

/-- A listed table of numbers; one of functions. -/
theorem laid_ints {P : Program} {W : World} {laid : List (String × DataW Unit)} (h : laidMetH P laid W) {name : String} {d : DataW Unit} (hm : (name, d) ∈ laid) (hn : d.handleName? = none) :
    ∃ g t cs fuel p, P.globalNamed name = some g ∧ (P.globals[g]?).map (·.type) = some t ∧ W.var? P name = some cs ∧ DataW.trod (fun _ => ()) P W 0 (fun _ => true) false fuel t cs.toList = some (d, p) := by
  have hp : ∃ ps, DataW.LaidVars P W (laid.filter fun x => x.2.handleName?.isNone) ps := by
    unfold laidMetH at h
    split at h
    · rename_i hf
      obtain ⟨ps, h1, _⟩ := h
      have : (laid.filter fun x => x.2.handleName?.isNone) = laid := by
        rw [List.filter_eq_self]
        intro x hx
        have := (List.filter_eq_nil_iff.1 hf) x hx
        cases hh : x.2.handleName? with
        | none => rfl
        | some s => rw [hh] at this; exact absurd rfl this
      rw [this]
      exact ⟨ps, h1⟩
    · obtain ⟨⟨ps, h1, _⟩, _⟩ := h
      exact ⟨ps, h1⟩
  obtain ⟨ps, hp⟩ := hp
  have hmem : (name, d) ∈ (laid.filter fun x => x.2.handleName?.isNone) := List.mem_filter.2 ⟨hm, by simp [hn]⟩
  revert hp hmem
  generalize (laid.filter fun x => x.2.handleName?.isNone) = L
  intro hp hmem
  induction L generalizing ps with
  | nil => simp at hmem
  | cons x L ih =>
    obtain ⟨n, d'⟩ := x
    obtain ⟨g, t, cs, fuel, p, q, h1, h2, h3, h4, h5, _⟩ := hp
    rcases List.mem_cons.1 hmem with he | he
    · cases he
      exact ⟨g, t, cs, fuel, p, h1, h2, h3, h4⟩
    · exact ih q h5 he

/-- From a pure call to the kit's. -/
theorem Calls.true_of {X : Ctx} {prog : PProg} (hP : X.P.follows .mixedOrders = true) (hL : Laid X prog) {f : FuncId} {k : Nat} (hn : X.nm f = some k) {xs : List V} {vargs : Array Value} {W : World} (hgl : ∀ n cs, X.gl n = some cs → GlobOk X.nm W n cs)
    (ha : EncL X.nm (g0 W.heap) W.heap xs vargs) (h : Call prog (.fn k [] []) xs (fun _ => none) fun v _ => v = .bool true) :
    Calls X.P f vargs W fun e W' => e = .returned (.bool true) ∧ (W'.os = W.os ∧ W'.output = W.output) ∧ ∀ b, b < W.heap.size → W'.heap[b]? = W.heap[b]? := by
  have hrel := rel0 (X := X) (H := W.heap) fun n cs hn j x hx => by
    obtain ⟨v, h1, h2⟩ := hgl n cs hn j x hx
    exact ⟨v, h1, h2 _ _⟩
  refine Calls.mono (Calls.of_call hP hL hn hrel ha h) ?_
  rintro e W' ⟨v, s', g', vv, rfl, hos, rfl, h2, h3, h4⟩
  rw [h4.of_bool]
  exact ⟨rfl, hos, fun b hb => h3.keep b hb⟩
end Go.Hu
