/-
  A pure machine for programs, and its soundness against the model: the lemmas hold as they stand.
-/
import Derived.Test.YtdpjoppdlhfidaaDoorVa
import Derived.Attr
namespace Go.Hu

/-- Two frames agree but for some slots. -/
def Agree (W : List Nat) (e e' : Env) : Prop := ∀ t, t ∉ W → e' t = e t
theorem Agree.refl (W : List Nat) (e : Env) : Agree W e e := fun _ _ => rfl
theorem Agree.trans {W : List Nat} {e e1 e2 : Env} (h : Agree W e e1) (h' : Agree W e1 e2) : Agree W e e2 := fun t ht => (h' t ht).trans (h t ht)
theorem Agree.mono {W W' : List Nat} {e e1 : Env} (h : Agree W e e1) (hs : ∀ t, t ∈ W → t ∈ W') : Agree W' e e1 := fun t ht => h t fun hw => ht (hs t hw)
theorem Agree.set (e : Env) (d : Nat) (v : V) : Agree [d] e (e.set d v) := fun t ht => by simp at ht; simp [Env.set, ht]

theorem wpO_mono {C C' : CP} (hm : C'.Mono) (hC : ∀ f a s Q, C f a s Q → C' f a s Q) {o : Op} {e : Env} {s : St} {K K' : Env → St → Prop}
    (hK' : ∀ e' s, Agree o.wr e e' → K e' s → K' e' s) (h : wpO C o e s K) : wpO C' o e s K' := by
  have hK : ∀ e' s, K e' s → Agree o.wr e e' → K' e' s := fun e' s h ha => hK' e' s ha h
  cases o with
  | p d o xs => simp only [wpO] at h ⊢; split at h <;> first | exact hK _ _ h (Agree.set _ _ _) | exact h.elim
  | la d q r off =>
    simp only [wpO] at h ⊢
    split at h
    · exact hK _ _ h (Agree.set _ _ _)
    · exact h.elim
  | lia d q r len sz i =>
    simp only [wpO] at h ⊢
    split at h
    · exact ⟨h.1, h.2.1, hK _ _ h.2.2 (Agree.set _ _ _)⟩
    · exact h.elim
  | lput p sh x => exact ⟨h.1, hK _ _ h.2 (Agree.set _ _ _)⟩
  | lset p sh x => exact ⟨h.1, h.2.1, hK _ _ h.2.2 (Agree.set _ _ _)⟩
  | lwhole d p sh => exact ⟨h.1, hK _ _ h.2 (Agree.set _ _ _)⟩
  | lload d p q sh =>
    simp only [wpO] at h ⊢
    split at h
    · split at h
      · exact hK _ _ h (Agree.set _ _ _)
      · exact h.elim
    · exact h.elim
  | lstore p q sh x =>
    simp only [wpO] at h ⊢
    split at h
    · refine ⟨h.1, ?_⟩
      have h := h.2
      split at h
      · split at h
        · exact hK _ _ h (Agree.set _ _ _)
        · exact h.elim
      · exact h.elim
    · exact h.elim
  | pend p sh => exact hK _ _ h (Agree.set _ _ _)
  | rbox p sh x => exact ⟨h.1, hK _ _ h.2 (Agree.set _ _ _)⟩
  | rinit p sh x => exact ⟨h.1, h.2.1, hK _ _ h.2.2 (Agree.set _ _ _)⟩
  | hbox p sh x => exact ⟨h.1, fun l hl => hK _ _ (h.2 l hl) (Agree.set _ _ _)⟩
  | hinit p sh x => exact ⟨h.1, h.2.1, fun l hl => hK _ _ (h.2.2 l hl) (Agree.set _ _ _)⟩
  | load d sh x =>
    simp only [wpO] at h ⊢
    split at h
    · split at h
      · exact hK _ _ h (Agree.set _ _ _)
      · exact h.elim
    · split at h
      · split at h
        · exact hK _ _ h (Agree.set _ _ _)
        · exact h.elim
      · exact h.elim
    · exact h.elim
  | store sh x v =>
    simp only [wpO] at h ⊢
    split at h
    · split at h
      · refine ⟨h.1, ?_⟩
        have h := h.2
        split at h
        · exact hK _ _ h (Agree.refl _ _)
        · exact h.elim
      · exact h.elim
    · exact h.elim
  | mkmap d => exact fun l hl => hK _ _ (h l hl) (Agree.set _ _ _)
  | mkslice d zero sz n c =>
    simp only [wpO] at h ⊢
    split at h
    · exact ⟨h.1, h.2.1, h.2.2.1, h.2.2.2.1, fun l hl => hK _ _ (h.2.2.2.2 l hl) (Agree.set _ _ _)⟩
    · exact h.elim
  | lookup d zero ok n m k =>
    simp only [wpO] at h ⊢
    refine ⟨h.1, ?_⟩
    have h := h.2
    split at h
    · exact hK _ _ h (Agree.set _ _ _)
    · split at h
      · split at h
        · split at h
          · exact hK _ _ h (Agree.set _ _ _)
          · exact h.elim
        · exact hK _ _ h (Agree.set _ _ _)
        · exact h.elim
      · exact h.elim
    · exact h.elim
  | mapset n m k v sh =>
    simp only [wpO] at h ⊢
    refine ⟨h.1, h.2.1, ?_⟩
    have h := h.2.2
    split at h
    · split at h
      · split at h
        · exact hK _ _ h (Agree.refl _ _)
        · exact hK _ _ h (Agree.refl _ _)
        · exact h.elim
      · exact h.elim
    · exact h.elim
  | range d m =>
    simp only [wpO] at h ⊢
    split at h
    · exact fun l hl => hK _ _ (h l hl) (Agree.set _ _ _)
    · split at h
      · exact fun l hl => hK _ _ (h l hl) (Agree.set _ _ _)
      · exact h.elim
    · exact h.elim
  | next d it =>
    simp only [wpO] at h ⊢
    split at h
    · split at h
      · exact hK _ _ h (Agree.set _ _ _)
      · split at h
        · exact ⟨h.1, fun ha => hK _ _ (h.2.1 ha) (Agree.set _ _ _), fun i x hx hi => hK _ _ (h.2.2 i x hx hi) (Agree.set _ _ _)⟩
        · exact h.elim
      · exact h.elim
    · exact h.elim
  | entry d it =>
    simp only [wpO] at h ⊢
    split at h
    · split at h
      · split at h
        · refine ⟨h.1, ?_⟩
          have h := h.2
          split at h
          · split at h
            · exact hK _ _ h (Agree.set _ _ _)
            · exact h.elim
          · exact h.elim
        · exact h.elim
      · exact h.elim
    · exact h.elim
  | mlen d m =>
    simp only [wpO] at h ⊢
    split at h
    · exact hK _ _ h (Agree.set _ _ _)
    · split at h
      · exact hK _ _ h (Agree.set _ _ _)
      · exact h.elim
    · exact h.elim
  | isnil d neg x =>
    simp only [wpO] at h ⊢
    split at h
    · exact fun b => hK _ _ (h b) (Agree.set _ _ _)
    · exact hK _ _ h (Agree.set _ _ _)
    · exact h.elim
  | litM d zero len is sh xs =>
    simp only [wpO] at h ⊢
    split at h
    · exact ⟨h.1, fun l hl => hK _ _ (h.2 l hl) (Agree.set _ _ _)⟩
    · exact h.elim
  | append d sz zero mt sl x =>
    simp only [wpO] at h ⊢
    refine ⟨h.1, ?_⟩
    have h := h.2
    split at h
    · split at h
      · refine ⟨h.1, h.2.1, h.2.2.1, h.2.2.2.1, ?_⟩
        have h := h.2.2.2.2
        split at h
        · rename_i hy; rw [if_pos hy]; exact hK _ _ h (Agree.set _ _ _)
        · rename_i hy
          rw [if_neg hy]
          split at h
          · split at h
            · rename_i hm; rw [if_pos hm]; exact ⟨h.1, fun l c' hl hc => hK _ _ (h.2 l c' hl hc) (Agree.set _ _ _)⟩
            · rename_i hm; rw [if_neg hm]; exact fun l hl => hK _ _ (h l hl) (Agree.set _ _ _)
          · split at h
            · exact ⟨h.1, fun l hl => hK _ _ (h.2 l hl) (Agree.set _ _ _)⟩
            · exact h.elim
          · exact h.elim
      · exact h.elim
    · refine ⟨h.1, ?_⟩
      have h := h.2
      split at h
      · refine ⟨h.1, h.2.1, ?_⟩
        have h := h.2.2
        split at h
        · rename_i hn
          rw [if_pos hn]
          split at h
          · exact hK _ _ h (Agree.set _ _ _)
          · exact h.elim
        · rename_i hn
          rw [if_neg hn]
          exact fun l' c' hl hc => hK _ _ (h l' c' hl hc) (Agree.set _ _ _)
      · exact h.elim
    · exact h.elim
  | appendZ d sz zero sl x =>
    simp only [wpO] at h ⊢
    refine ⟨h.1, ?_⟩
    have h := h.2
    split at h
    · refine ⟨h.1, ?_⟩
      have h := h.2
      split at h
      · refine ⟨h.1, h.2.1, ?_⟩
        have h := h.2.2
        split at h
        · rename_i hn
          rw [if_pos hn]
          split at h
          · exact hK _ _ h (Agree.set _ _ _)
          · exact h.elim
        · rename_i hn
          rw [if_neg hn]
          exact fun l' c' hl hc => hK _ _ (h l' c' hl hc) (Agree.set _ _ _)
      · exact h.elim
    · exact h.elim
  | copy d sz x y =>
    simp only [wpO] at h ⊢
    split at h
    · split at h
      · split at h
        · exact hK _ _ h (Agree.set _ _ _)
        · exact h.elim
      · exact h.elim
    · exact h.elim
  | clear sz zero x =>
    simp only [wpO] at h ⊢
    refine ⟨h.1, ?_⟩
    have h := h.2
    split at h
    · split at h
      · split at h
        · exact hK _ _ h (Agree.refl _ _)
        · exact h.elim
      · exact h.elim
    · exact h.elim
  | ovl d x y =>
    simp only [wpO] at h ⊢
    split at h
    · refine ⟨h.1, ?_⟩
      have h := h.2
      split at h
      · exact hK _ _ h (Agree.set _ _ _)
      · exact h.elim
    · exact h.elim
  | frz d sz sh =>
    simp only [wpO] at h ⊢
    split at h
    · exact hK _ _ h (Agree.set _ _ _)
    · refine ⟨h.1, h.2.1, ?_⟩
      have h := h.2.2
      split at h
      · exact ⟨h.1, hK _ _ h.2 (Agree.set _ _ _)⟩
      · exact h.elim
    · exact h.elim
  | lfrz q off sz sh =>
    simp only [wpO] at h ⊢
    split at h
    · split at h
      · exact hK _ _ h (Agree.refl _ _)
      · refine ⟨h.1, h.2.1, ?_⟩
        have h := h.2.2
        split at h
        · exact ⟨h.1, hK _ _ h.2 (Agree.set _ _ _)⟩
        · exact h.elim
      · exact h.elim
    · exact h.elim
  | call d q f args =>
    have ha : ∀ v, Agree (Op.call d q f args).wr e (e.setO d v) := fun v => by cases d with | none => exact Agree.refl _ _ | some d => exact Agree.set _ _ _
    cases q with
    | true => obtain ⟨th, h⟩ := h; exact ⟨th, hm _ _ _ _ _ (hC _ _ _ _ h) fun v s h => ⟨h.1, hK _ _ h.2 (ha v)⟩⟩
    | false => obtain ⟨th, h⟩ := h; exact ⟨th, hm _ _ _ _ _ (hC _ _ _ _ h) fun v s h => hK _ _ h (ha v)⟩
  | fail => exact h.elim

theorem wpI_mono {C C' : CP} (hm : C'.Mono) (hC : ∀ f a s Q, C f a s Q → C' f a s Q) {i : Ins} {e : Env} {s : St} {K K' : Env → St → Prop}
    (hK : ∀ e' s, Agree i.op.wr e e' → K e' s → K' e' s) (h : wpI C i e s K) : wpI C' i e s K' := by
  unfold wpI at h ⊢
  split at h
  · exact wpO_mono hm hC hK h
  · split at h
    · split at h
      · rename_i hb; rw [if_pos hb]; exact wpO_mono hm hC hK h
      · rename_i hb
        rw [if_neg hb]
        refine hK _ _ ?_ h
        obtain ⟨o, g⟩ := i
        cases o <;> first | exact Agree.refl _ _ | exact Agree.set _ _ _ | skip
        rename_i d _ _ _ _
        cases d <;> first | exact Agree.refl _ _ | exact Agree.set _ _ _
    · refine hK _ _ ?_ h
      obtain ⟨o, g⟩ := i
      cases o <;> first | exact Agree.refl _ _ | exact Agree.set _ _ _ | skip
      rename_i d _ _ _ _
      cases d <;> first | exact Agree.refl _ _ | exact Agree.set _ _ _
    · exact h.elim

theorem wpIs_mono {C C' : CP} (hm : C'.Mono) (hC : ∀ f a s Q, C f a s Q → C' f a s Q) : ∀ {is : List Ins} {e : Env} {s : St} {K K' : Env → St → Prop},
    (∀ e' s, Agree (is.flatMap fun i => i.op.wr) e e' → K e' s → K' e' s) → wpIs C is e s K → wpIs C' is e s K'
  | [], _, _, _, _, hK, h => hK _ _ (Agree.refl _ _) h
  | i :: is, e, _, _, _, hK, h => wpI_mono hm hC (fun e1 _ ha h => wpIs_mono hm hC (is := is) (fun e' s ha' h => hK e' s
      ((ha.mono (by simp; intro t ht; exact .inl ht)).trans (ha'.mono (by simp; intro t x hx ht; exact .inr ⟨x, hx, ht⟩))) h) h) h

theorem wpS_mono {C C' : CP} (hm : C'.Mono) (hC : ∀ f a s Q, C f a s Q → C' f a s Q) : ∀ {c : Stm} {Q Q' : Post} {e : Env} {s : St},
    (∀ x e' s, Agree c.wr e e' → Q x e' s → Q' x e' s) → wpS C c Q e s → wpS C' c Q' e s
  | .skip, _, _, _, _, hQ, h => hQ _ _ _ (Agree.refl _ _) h
  | .reg is, _, _, _, _, hQ, h => wpIs_mono hm hC (fun _ _ ha h => hQ _ _ _ ha h) h
  | .seq a b, Q, Q', e, _, hQ, h => by
    refine wpS_mono hm hC (c := a) ?_ h
    intro x e1 s ha h
    have ha' : Agree (Stm.seq a b).wr e e1 := ha.mono (by simp only [Stm.wr]; intro t ht; exact List.mem_append_left _ ht)
    cases x with
    | normal => exact wpS_mono hm hC (c := b) (fun x e2 s hb h => hQ x e2 s (ha'.trans (hb.mono (by simp only [Stm.wr]; intro t ht; exact List.mem_append_right _ ht))) h) h
    | exit id => exact hQ _ _ _ ha' h
    | ret => exact hQ _ _ _ ha' h
  | .cond x a b, _, _, _, _, hQ, h => by
    simp only [wpS] at h ⊢
    split at h
    · exact wpS_mono hm hC (c := a) (fun x e1 s ha h => hQ x e1 s (ha.mono (by simp only [Stm.wr]; intro t ht; exact List.mem_append_left _ ht)) h) h
    · exact wpS_mono hm hC (c := b) (fun x e1 s ha h => hQ x e1 s (ha.mono (by simp only [Stm.wr]; intro t ht; exact List.mem_append_right _ ht)) h) h
    · exact h.elim
  | .block id c, Q, Q', _, _, hQ, h => by
    refine wpS_mono hm hC (c := c) ?_ h
    intro x e s ha h
    cases x with
    | normal => exact hQ _ _ _ ha h
    | exit j =>
      simp only at h ⊢
      split at h
      · rename_i hj; rw [if_pos hj]; exact hQ _ _ _ ha h
      · rename_i hj; rw [if_neg hj]; exact hQ _ _ _ ha h
    | ret => exact hQ _ _ _ ha h
  | .loop c, Q, Q', e0, s0, hQ, h => by
    intro I hI
    refine h (fun e s => Agree c.wr e0 e → I e s) (fun e s h ha0 => hI e s ?_) (Agree.refl _ _)
    refine wpS_mono hm hC (c := c) ?_ h
    intro x e' s ha h
    cases x with
    | normal => exact h (ha0.trans ha)
    | exit id => exact hQ _ _ _ (ha0.trans ha) h
    | ret => exact hQ _ _ _ (ha0.trans ha) h
  | .rfunc f ps own a b, Q, Q', _, _, hQ, h => by
    intro l hl
    refine hm _ _ _ _ _ (hC _ _ _ _ (h l hl)) ?_
    intro v s h
    split at h
    · refine ⟨h.1, ?_⟩
      have h := h.2
      split at h
      · exact hQ _ _ _ (Agree.refl _ _) h
      · exact hQ _ _ _ (Agree.refl _ _) h
    · exact h.elim
  | .exit id, _, _, _, _, hQ, h => hQ _ _ _ (Agree.refl _ _) h
  | .ret, _, _, _, _, hQ, h => hQ _ _ _ (Agree.refl _ _) h
  | .refuse, _, _, _, _, _, h => h.elim

theorem bodyC_mono {P : PProg} {C C' : CP} (hm : C'.Mono) (hC : ∀ f a s Q, C f a s Q → C' f a s Q) {f : V} {args : List V} {s : St} {Q Q' : V → St → Prop}
    (hQ : ∀ v s, Q v s → Q' v s) (h : bodyC P C f args s Q) : bodyC P C' f args s Q' := by
  unfold bodyC at h ⊢
  split at h
  · split at h
    · refine ⟨h.1, wpS_mono hm hC ?_ h.2⟩
      rintro x e s _ ⟨h1, h2⟩
      refine ⟨h1, ?_⟩
      split at h2
      · exact h2.imp fun _ h2 => hQ _ _ h2
      · exact h2.elim
    · exact h.elim
  · split at h
    · refine ⟨h.1, h.2.1, wpS_mono hm hC ?_ h.2.2⟩
      rintro x e s _ ⟨h1, h2⟩
      refine ⟨h1, ?_⟩
      split at h2
      · refine ⟨h2.1, wpS_mono hm hC ?_ h2.2⟩
        intro x e s _ h
        split at h
        · split at h
          · exact hQ _ _ h
          · exact hQ _ _ h
        · exact h.elim
      · exact h2.elim
    · exact h.elim
  · exact h.elim

theorem Call.mono {P : PProg} : (Call P).Mono := fun f a s Q Q' h hq C hm hc => hm f a s Q Q' (h C hm hc) hq
theorem Call.intro {P : PProg} {f : V} {args : List V} {s : St} {Q : V → St → Prop} (h : bodyC P (Call P) f args s Q) : Call P f args s Q :=
  fun C hm hc => hc _ _ _ _ (bodyC_mono hm (fun _ _ _ _ h => h C hm hc) (fun _ _ h => h) h)
theorem Call.imp {P : PProg} {f : V} {args : List V} {s : St} {Q Q' : V → St → Prop} (h : Call P f args s Q) (hq : ∀ v s, Q v s → Q' v s) : Call P f args s Q' :=
  Call.mono _ _ _ _ _ h hq

/-- The loop's rule: a relation, a measure that every round lowers. -/
theorem LoopW.of {F : Post → Env → St → Prop} (hF : ∀ Q Q' e s, (∀ x e s, Q x e s → Q' x e s) → F Q e s → F Q' e s) {Q : Post}
    (R : Env → St → Prop) (μ : Env → St → Nat) (hr : ∀ e s, R e s → F (fun x e' s' => match x with | .normal => R e' s' ∧ μ e' s' < μ e s | x => Q x e' s') e s)
    {e : Env} {s : St} (h : R e s) : LoopW F Q e s := by
  intro I hI
  have key : ∀ n e s, μ e s = n → R e s → I e s := by
    intro n
    induction n using Nat.strongRecOn with
    | _ n ih =>
      intro e s hn h
      refine hI e s (hF _ _ e s ?_ (hr e s h))
      intro x e' s' hx
      cases x with
      | normal => exact ih _ (hn ▸ hx.2) e' s' rfl hx.1
      | exit id => exact hx
      | ret => exact hx
  exact key _ e s rfl h

theorem wpS_loop {P : PProg} {c : Stm} {Q : Post} (R : Env → St → Prop) (μ : Env → St → Nat)
    (hr : ∀ e s, R e s → wpS (Call P) c (fun x e' s' => match x with | .normal => R e' s' ∧ μ e' s' < μ e s | x => Q x e' s') e s)
    {e : Env} {s : St} (h : R e s) : wpS (Call P) (.loop c) Q e s :=
  LoopW.of (F := wpS (Call P) c) (fun _ _ _ _ hq h => wpS_mono Call.mono (fun _ _ _ _ h => h) (fun x e s _ h => hq x e s h) h) R μ hr h

theorem wpS_imp {P : PProg} {c : Stm} {Q Q' : Post} {e : Env} {s : St} (h : wpS (Call P) c Q e s) (hq : ∀ x e s, Q x e s → Q' x e s) : wpS (Call P) c Q' e s :=
  wpS_mono Call.mono (fun _ _ _ _ h => h) (fun x e s _ h => hq x e s h) h
theorem wpIs_imp {P : PProg} {is : List Ins} {K K' : Env → St → Prop} {e : Env} {s : St} (h : wpIs (Call P) is e s K) (hq : ∀ e s, K e s → K' e s) : wpIs (Call P) is e s K' :=
  wpIs_mono Call.mono (fun _ _ _ _ h => h) (fun e s _ h => hq e s h) h

/-! ## The walk -/
def offOf : V → Option Nat
  | .off o => some o
  | _ => none
def aggOf : V → Option (List V)
  | .agg cs => some cs
  | _ => none
def okP (b : Bool) (e : Env) : Option Env := if b then some e else none

def lidx (e : Env) (d n len sz : Nat) : V → Option Env
  | .int i => if 0 ≤ i ∧ i < (len : Int) then some (e.set d (.off (n + i.toNat * sz))) else none
  | _ => none
/-- One operation that does not look at the heap. -/
def runO : Op → Env → Option Env
  | .p d o xs, e => (pv o (xs.map (ev e))).map (e.set d)
  | .la d p q off, e => (aggOf (e p)).bind fun _ => (offAt e q).map fun n => e.set d (.off (n + off))
  | .lia d p q len sz i, e => (aggOf (e p)).bind fun _ => (offAt e q).bind fun n => lidx e d n len sz (ev e i)
  | .lput q sh x, e => okP ((ev e x).fits sh) (e.set q (ev e x))
  | .lset q sh x, e => okP ((e q).fits sh && (ev e x).fits sh) (e.set q (ev e x))
  | .lwhole d q sh, e => okP ((e q).fits sh) (e.set d (e q))
  | .lload d q r sh, e => ((offOf (e r)).bind fun o => takeAt sh (e q).cells o).map (e.set d)
  | .lstore q r sh x, e => (if (ev e x).fits sh then (offOf (e r)).bind fun o => (aggOf (e q)).bind fun cs => putAt cs o (ev e x).cells else none).map fun cs => e.set q (.agg cs)
  | .pend q sh, e => some (e.set q (.pend (shN sh)))
  | .rbox q sh x, e => okP ((ev e x).fits sh) (e.set q (.rptr (ev e x).cells 0))
  | .rinit q sh x, e => match e q with
    | .pend n => if n = shN sh then okP ((ev e x).fits sh) (e.set q (.rptr (ev e x).cells 0)) else none
    | _ => none
  | _, _ => none
/-- Is an instruction carried out: by its guard's value. -/
def gate (v : V) (want : Bool) : Option Bool := match v with
  | .bool b => some (b == want)
  | .tup [] => some false
  | _ => none
def pick3 (b : Bool) (x y : Option Env) : Option Env := if b then x else y
def runI : Ins → Env → Option Env
  | ⟨o, none⟩, e => runO o e
  | ⟨o, some (t, w)⟩, e => (gate (e t) w).bind fun b => pick3 b (runO o e) (some (e.setO o.dst o.skipV))
/-- Runs what does not look at the heap; stops at the first that does. -/
def runs : List Ins → Env → Env × List Ins
  | [], e => (e, [])
  | i :: is, e => match runI i e with
    | some e' => runs is e'
    | none => (e, i :: is)
def wpR (C : CP) (r : Env × List Ins) (s : St) (K : Env → St → Prop) : Prop := wpIs C r.2 r.1 s K

section
variable {C : CP} {e : Env} {s : St} {Q : Post} {K : Env → St → Prop}
theorem runO_sound {o : Op} {e' : Env} (h : runO o e = some e') (hk : K e' s) : wpO C o e s K := by
  cases o <;> simp only [runO, reduceCtorEq] at h
  case p d o xs =>
    simp only [wpO]
    cases hp : pv o (xs.map (ev e)) with
    | none => simp [hp] at h
    | some v => simp only [hp, Option.map_some, Option.some.injEq] at h; subst h; exact hk
  case la d q r off =>
    simp only [wpO]
    cases hq : e q <;> simp only [hq, aggOf, Option.bind_none, reduceCtorEq, Option.bind_some] at h
    cases hr : offAt e r <;> simp only [hr, Option.map_none, reduceCtorEq, Option.map_some, Option.some.injEq] at h
    subst h
    exact hk
  case lia d q r len sz i =>
    simp only [wpO]
    cases hq : e q <;> simp only [hq, aggOf, Option.bind_none, reduceCtorEq, Option.bind_some] at h
    cases hr : offAt e r <;> simp only [hr, Option.bind_none, reduceCtorEq, Option.bind_some] at h
    cases hi : ev e i <;> simp only [hi, lidx, reduceCtorEq] at h
    split at h
    · rename_i hb
      simp only [Option.some.injEq] at h
      subst h
      exact ⟨hb.1, hb.2, hk⟩
    · simp at h
  case lput q sh x =>
    simp only [okP, Option.ite_none_right_eq_some, Option.some.injEq] at h
    obtain ⟨h1, rfl⟩ := h
    exact ⟨h1, hk⟩
  case lset q sh x =>
    simp only [okP, Option.ite_none_right_eq_some, Option.some.injEq, Bool.and_eq_true] at h
    obtain ⟨h1, rfl⟩ := h
    exact ⟨h1.1, h1.2, hk⟩
  case lwhole d q sh =>
    simp only [okP, Option.ite_none_right_eq_some, Option.some.injEq] at h
    obtain ⟨h1, rfl⟩ := h
    exact ⟨h1, hk⟩
  case lload d q r sh =>
    simp only [wpO]
    cases hr : e r <;> simp only [hr, offOf, Option.bind_none, Option.map_none, reduceCtorEq, Option.bind_some, Option.map_eq_some_iff] at h
    obtain ⟨v, hv, rfl⟩ := h
    simp only [hv]
    exact hk
  case lstore q r sh x =>
    simp only [wpO]
    split at h
    · rename_i hf
      cases hr : e r <;> simp only [hr, offOf, Option.bind_none, Option.map_none, reduceCtorEq, Option.bind_some, Option.map_eq_some_iff] at h
      obtain ⟨v, hv, rfl⟩ := h
      refine ⟨hf, ?_⟩
      cases hq : e q <;> simp only [hq, aggOf, Option.bind_none, reduceCtorEq, Option.bind_some] at hv
      simp only [hv]
      exact hk
    · simp at h
  case pend q sh => simp only [Option.some.injEq] at h; subst h; exact hk
  case rbox q sh x =>
    simp only [okP, Option.ite_none_right_eq_some, Option.some.injEq] at h
    obtain ⟨h1, rfl⟩ := h
    exact ⟨h1, hk⟩
  case rinit q sh x =>
    split at h
    · rename_i n hq
      split at h
      · rename_i hn
        simp only [okP, Option.ite_none_right_eq_some, Option.some.injEq] at h
        obtain ⟨h1, rfl⟩ := h
        subst hn
        exact ⟨hq, h1, hk⟩
      · simp at h
    · simp at h
theorem runI_sound {i : Ins} {e' : Env} (h : runI i e = some e') (hk : K e' s) : wpI C i e s K := by
  obtain ⟨o, g⟩ := i
  cases g with
  | none => exact runO_sound h hk
  | some g =>
    obtain ⟨t, w⟩ := g
    simp only [runI] at h
    simp only [wpI]
    generalize e t = y at h ⊢
    have hg : (∃ b, y = .bool b) ∨ y = .tup [] ∨ gate y w = none := by
      cases y <;> first | exact .inl ⟨_, rfl⟩ | exact .inr (.inr rfl) | skip
      rename_i xs
      cases xs <;> first | exact .inr (.inl rfl) | exact .inr (.inr rfl)
    rcases hg with ⟨b, rfl⟩ | rfl | ht
    rotate_left
    · simp only [gate, pick3, Option.bind_some, Bool.false_eq_true, if_false, Option.some.injEq] at h
      subst h
      exact hk
    · rw [ht] at h; simp at h
    simp only [gate, Option.bind_some] at h ⊢
    by_cases hb : b = w
    · rw [if_pos hb]
      subst hb
      simp only [pick3, beq_self_eq_true, if_true] at h
      exact runO_sound h hk
    · rw [if_neg hb]
      have : (b == w) = false := by simpa using hb
      simp only [pick3, this, Bool.false_eq_true, if_false, Option.some.injEq] at h
      subst h
      exact hk
theorem runs_sound : ∀ {is : List Ins} {e : Env} {s : St} {K : Env → St → Prop}, wpR C (runs is e) s K → wpIs C is e s K
  | [], _, _, _, h => h
  | i :: is, e, s, K, h => by
    simp only [runs] at h
    cases hi : runI i e with
    | none => rw [hi] at h; exact h
    | some e' => rw [hi] at h; exact runI_sound hi (runs_sound h)

/-- What follows a statement. -/
def thenQ (C : CP) (b : Stm) (Q : Post) : Post := fun x e s => match x with | .normal => wpS C b Q e s | x => Q x e s
def blockQ (id : Nat) (Q : Post) : Post := fun x e s => match x with | .exit j => if j = id then Q .normal e s else Q (.exit j) e s | x => Q x e s
def roundQ (R : Env → St → Prop) (Q : Post) : Post := fun x e s => match x with | .normal => R e s | x => Q x e s
def wpB (C : CP) (v : V) (a b : Stm) (Q : Post) (e : Env) (s : St) : Prop := match v with | .bool true => wpS C a Q e s | .bool false => wpS C b Q e s | _ => False

theorem w_skip (h : Q .normal e s) : wpS C .skip Q e s := h
theorem w_reg {is} (h : wpR C (runs is e) s (Q .normal)) : wpS C (.reg is) Q e s := runs_sound h
theorem w_seq {a b} (h : wpS C a (thenQ C b Q) e s) : wpS C (.seq a b) Q e s := h
theorem w_then {b} (h : wpS C b Q e s) : thenQ C b Q .normal e s := h
theorem w_then_ret {b} (h : Q .ret e s) : thenQ C b Q .ret e s := h
theorem w_then_exit {b i} (h : Q (.exit i) e s) : thenQ C b Q (.exit i) e s := h
theorem w_block {id c} (h : wpS C c (blockQ id Q) e s) : wpS C (.block id c) Q e s := h
theorem w_blk (id : Nat) (h : Q .normal e s) : blockQ id Q .normal e s := h
theorem w_blk_ret {id} (h : Q .ret e s) : blockQ id Q .ret e s := h
theorem w_blk_this {id} (h : Q .normal e s) : blockQ id Q (.exit id) e s := by simpa [blockQ] using h
theorem w_blk_other {id j} (hj : j ≠ id) (h : Q (.exit j) e s) : blockQ id Q (.exit j) e s := by simpa [blockQ, hj] using h
theorem w_round {R} (h : R e s) : roundQ R Q .normal e s := h
theorem w_round_ret {R} (h : Q .ret e s) : roundQ R Q .ret e s := h
theorem w_round_exit {R i} (h : Q (.exit i) e s) : roundQ R Q (.exit i) e s := h
theorem w_exit {id} (h : Q (.exit id) e s) : wpS C (.exit id) Q e s := h
theorem w_ret (h : Q .ret e s) : wpS C .ret Q e s := h
theorem w_cond {x a b} (h : wpB C (ev e x) a b Q e s) : wpS C (.cond x a b) Q e s := by
  unfold wpB at h
  simp only [wpS]
  split at h
  · rename_i hx; rw [hx]; exact h
  · rename_i hx; rw [hx]; exact h
  · exact h.elim
theorem w_true {a b} (h : wpS C a Q e s) : wpB C (.bool true) a b Q e s := h
theorem w_false {a b} (h : wpS C b Q e s) : wpB C (.bool false) a b Q e s := h
theorem w_bool {c a b} (h1 : c = true → wpS C a Q e s) (h2 : c = false → wpS C b Q e s) : wpB C (.bool c) a b Q e s := by cases c; exact h2 rfl; exact h1 rfl
theorem w_dec {p : Prop} [Decidable p] {a b} (h1 : p → wpS C a Q e s) (h2 : ¬ p → wpS C b Q e s) : wpB C (.bool (decide p)) a b Q e s :=
  w_bool (fun h => h1 (of_decide_eq_true h)) (fun h => h2 (of_decide_eq_false h))
theorem w_nil (h : K e s) : wpR C (e, []) s K := h
theorem w_run {is} (h : wpR C (runs is e) s K) : wpIs C is e s K := runs_sound h

/-- An instruction that looks at the heap, its operands told. -/
def opR (C : CP) (o : Op) (e : Env) (is : List Ins) (s : St) (K : Env → St → Prop) : Prop := wpO C o e s fun e s => wpIs C is e s K
theorem w_callT {d f args is} {fv : V} {as : List V} (th : Bool) (hf : ev e f = fv) (ha : (args.map fun a => pass th (ev e a)) = as)
    (h : C fv as s fun v s' => wpIs C is (e.set d v) s' K) : wpR C (e, ⟨.call (some d) false f args, none⟩ :: is) s K := by
  subst hf ha
  show wpIs C (⟨.call (some d) false f args, none⟩ :: is) e s K
  exact ⟨th, h⟩
theorem w_call {d f args is} {fv : V} {as : List V} (hf : ev e f = fv) (ha : (args.map fun a => (ev e a).erase) = as)
    (h : C fv as s fun v s' => wpIs C is (e.set d v) s' K) : wpR C (e, ⟨.call (some d) false f args, none⟩ :: is) s K :=
  w_callT false hf (by simpa only [pass] using ha) h
theorem w_callq {d f args is} {fv : V} {as : List V} (hf : ev e f = fv) (ha : (args.map fun a => (ev e a).erase) = as)
    (h : C fv as s fun v s' => s ≤ s' ∧ wpIs C is (e.set d v) s' K) : wpR C (e, ⟨.call (some d) true f args, none⟩ :: is) s K := by
  subst hf ha
  show wpIs C (⟨.call (some d) true f args, none⟩ :: is) e s K
  exact ⟨false, by simpa only [pass, Env.setO] using h⟩
theorem w_call0 {f args is} {fv : V} {as : List V} (hf : ev e f = fv) (ha : (args.map fun a => (ev e a).erase) = as)
    (h : C fv as s fun _ s' => wpIs C is e s' K) : wpR C (e, ⟨.call none false f args, none⟩ :: is) s K := by
  subst hf ha
  show wpIs C (⟨.call none false f args, none⟩ :: is) e s K
  exact ⟨false, by simpa only [pass, Env.setO] using h⟩
theorem w_guard {o t w is} (hg : gate (e t) w = some true) (h : wpR C (e, ⟨o, none⟩ :: is) s K) : wpR C (e, ⟨o, some (t, w)⟩ :: is) s K := by
  cases ht : e t <;> rw [ht] at hg <;> first | (simp [gate] at hg; done) | skip
  · simp [gate] at hg
    subst hg
    simpa [wpR, wpIs, wpI, ht] using h
  · rename_i xs
    cases xs <;> simp [gate] at hg
theorem w_guard_not {o t w is} (hg : gate (e t) w = some false) (h : wpR C (runs is (e.setO o.dst o.skipV)) s K) : wpR C (e, ⟨o, some (t, w)⟩ :: is) s K := by
  cases ht : e t <;> rw [ht] at hg <;> first | (simp [gate] at hg; done) | skip
  · simp [gate] at hg
    simpa [wpR, wpIs, wpI, ht, hg] using runs_sound h
  · rename_i xs
    cases xs with
    | nil => simpa [wpR, wpIs, wpI, ht, hg] using runs_sound h
    | cons x xs => simp [gate] at hg

/-! ### Loops -/
/-- The slots of W out of one frame, the others out of another. -/
def Env.over (W : List Nat) (e e0 : Env) : Env := fun t => if W.contains t then e t else e0 t
theorem over_apply {W : List Nat} {e e0 : Env} {t : Nat} : (Env.over W e e0) t = if W.contains t then e t else e0 t := rfl
theorem over_of_agree {W : List Nat} {e e0 : Env} (h : Agree W e0 e) : Env.over W e e0 = e := by
  funext t
  simp only [Env.over]
  split
  · rfl
  · rename_i ht; exact (h t (by simpa using ht)).symm
end
section
variable {P : PProg} {Q : Post}
/-- A loop: the relation speaks of the slots that the round writes (W); the others are as they were. -/
theorem w_loop {c : Stm} {e0 : Env} {s0 : St} (W : List Nat) (hW : c.wr = W) (R : Env → St → Prop) (μ : Env → St → Nat) (h0 : R e0 s0)
    (hr : ∀ e s, R (Env.over W e e0) s → wpS (Call P) c (roundQ (fun e' s' => R e' s' ∧ μ e' s' < μ (Env.over W e e0) s) Q) (Env.over W e e0) s) : wpS (Call P) (.loop c) Q e0 s0 := by
  subst hW
  refine wpS_loop (fun e s => R e s ∧ Agree c.wr e0 e) μ ?_ ⟨h0, Agree.refl _ _⟩
  rintro e s ⟨hR, ha⟩
  have ho := over_of_agree ha
  have := hr e s (by rw [ho]; exact hR)
  rw [ho] at this
  refine wpS_mono Call.mono (fun _ _ _ _ h => h) ?_ this
  intro x e' s' ha' h
  cases x with
  | normal => exact ⟨⟨h.1, ha.trans ha'⟩, h.2⟩
  | exit id => exact h
  | ret => exact h
end

/-! ### A call of a function with a body -/
def retQ (rs : List Res) (Q : V → St → Prop) : Post := fun x e s => (match x with | .exit _ => False | _ => True) ∧ match resVs e s rs with
  | some vs => ∃ th, Q (pass th (oneV vs)) s
  | none => False
def resR (r : Option (List V)) (s : St) (Q : V → St → Prop) : Prop := match r with | some vs => ∃ th, Q (pass th (oneV vs)) s | none => False
theorem w_retQ {rs : List Res} {Q : V → St → Prop} {e : Env} {s : St} (h : resR (resVs e s rs) s Q) : retQ rs Q .ret e s := ⟨trivial, h⟩
theorem w_endQ {rs : List Res} {Q : V → St → Prop} {e : Env} {s : St} (h : resR (resVs e s rs) s Q) : retQ rs Q .normal e s := ⟨trivial, h⟩
theorem w_res {vs : List V} {s : St} {Q : V → St → Prop} {v : V} (hv : (oneV vs).erase = v) (h : Q v s) : resR (some vs) s Q := by subst hv; exact ⟨false, by simpa only [pass] using h⟩
theorem w_resT {vs : List V} {s : St} {Q : V → St → Prop} {v : V} (hv : pass true (oneV vs) = v) (h : Q v s) : resR (some vs) s Q := by subst hv; exact ⟨true, h⟩
theorem Call.fn {P : PProg} {k : Nat} {first caps args : List V} {s : St} {Q : V → St → Prop} (F : PFunc) (h : P k = some F) (hn : F.nargs = (first ++ args ++ caps).length)
    (hb : wpS (Call P) F.body (retQ F.res Q) (enter (first ++ args ++ caps)) s) : Call P (.fn k first caps) args s Q := by
  refine Call.intro ?_
  simp only [bodyC, h]
  exact ⟨hn, hb⟩

attribute [irreducible] wpR thenQ blockQ roundQ retQ wpB resR
theorem w64_id {n : Int} (h : -9223372036854775808 ≤ n ∧ n < 9223372036854775808) : w64 n = n := by unfold w64; omega
theorem ev_t {e : Env} {n} : ev e (.t n) = e n := rfl
theorem ev_c {e : Env} {v} : ev e (.c v) = v := rfl
theorem set_apply {e : Env} {d t : Nat} {v : V} : (e.set d v) t = if t = d then v else e t := rfl
theorem setO_some {e : Env} {d : Nat} {v : V} : e.setO (some d) v = e.set d v := rfl
theorem setO_none {e : Env} {v : V} : e.setO none v = e := rfl

theorem pv_mov {x} : pv .mov [x] = some x := rfl
theorem pv_pick {c a b} : pv .pick [.bool c, a, b] = some (if c then a else b) := rfl
theorem pv_bin {op a b} : pv (.bin op) [.int a, .int b] = binV op (.int a) (.int b) := rfl
theorem binV_add {a b} : binV .add (.int a) (.int b) = some (.int (w64 (a + b))) := rfl
theorem binV_sub {a b} : binV .sub (.int a) (.int b) = some (.int (w64 (a - b))) := rfl
theorem binV_mul {a b} : binV .mul (.int a) (.int b) = some (.int (w64 (a * b))) := rfl
theorem binV_quo {a b} : binV .quo (.int a) (.int b) = (if b = 0 then none else some (.int (w64 (a.tdiv b)))) := rfl
theorem binV_rem {a b} : binV .rem (.int a) (.int b) = (if b = 0 then none else some (.int (a.tmod b))) := rfl
theorem binV_lss {a b} : binV .lss (.int a) (.int b) = some (.bool (decide (a < b))) := rfl
theorem binV_leq {a b} : binV .leq (.int a) (.int b) = some (.bool (decide (a ≤ b))) := rfl
theorem binV_gtr {a b} : binV .gtr (.int a) (.int b) = some (.bool (decide (a > b))) := rfl
theorem binV_geq {a b} : binV .geq (.int a) (.int b) = some (.bool (decide (a ≥ b))) := rfl
theorem binV_shr {a b} : binV .shr (.int a) (.int b) = (if 0 ≤ b ∧ b < 64 then some (.int (a.fdiv (2 ^ b.toNat))) else none) := rfl
theorem binV_shl {a b} : binV .shl (.int a) (.int b) = (if 0 ≤ b ∧ b < 64 then some (.int (w64 (a * 2 ^ b.toNat))) else none) := rfl
theorem pv_eq {neg n x y} : pv (.eq neg n) [x, y] = (eqN n x y).map fun b => .bool (b != neg) := rfl
theorem eqN_int {a b} : eqN .num (.int a) (.int b) = some (a == b) := rfl
theorem eqN_bool {a b} : eqN .tru (.bool a) (.bool b) = some (a == b) := rfl
theorem eqN_agg {ks a b} : eqN (.row ks) (.agg a) (.agg b) = if kindsOk ks a then eqCells a b else none := rfl
theorem kindsOk_nil : kindsOk [] [] = true := rfl
theorem kindsOk_int {ks n vs} : kindsOk (true :: ks) (.int n :: vs) = kindsOk ks vs := rfl
theorem kindsOk_bool {ks n vs} : kindsOk (false :: ks) (.bool n :: vs) = kindsOk ks vs := rfl
theorem solid_agg {cs} : V.solid (.agg cs) = true := rfl
theorem solid_int {n} : V.solid (.int n) = true := rfl
theorem solid_bool {n} : V.solid (.bool n) = true := rfl
theorem solid_map {n} : V.solid (.map n) = true := rfl
theorem solid_lst {n c} : V.solid (.lst n c) = true := rfl
theorem solid_ptr {l o} : V.solid (.ptr l o) = true := rfl
theorem solid_rptr {l o} : V.solid (.rptr l o) = true := rfl
theorem solid_sli {l o n c} : V.solid (.sli l o n c) = true := rfl
theorem solid_fn {k f c} : V.solid (.fn k f c) = true := rfl
theorem solid_yield {l} : V.solid (.yield l) = true := rfl
theorem solid_nilfn : V.solid .nilfn = true := rfl
theorem eqV_int {a b} : eqV (.int a) (.int b) = some (a == b) := rfl
theorem eqV_bool {a b} : eqV (.bool a) (.bool b) = some (a == b) := rfl
theorem eqV_agg {a b} : eqV (.agg a) (.agg b) = eqCells a b := rfl
theorem eqCells_nil : eqCells [] [] = some true := rfl
theorem eqCells_int {a b xs ys} : eqCells (.int a :: xs) (.int b :: ys) = (eqCells xs ys).map (a == b && ·) := rfl
theorem eqCells_bool {a b xs ys} : eqCells (.bool a :: xs) (.bool b :: ys) = (eqCells xs ys).map (a == b && ·) := rfl
theorem pv_not {b} : pv .not [.bool b] = some (.bool !b) := rfl
theorem pv_neg {n} : pv .neg [.int n] = some (.int (w64 (0 - n))) := rfl
theorem pv_build {z ps vs} : pv (.build z ps) vs = (fillV z ps vs).map .agg := by cases vs <;> rfl
theorem fillV_nil {cs} : fillV cs [] [] = some cs := rfl
theorem fillV_cons {cs o n ps v vs} : fillV cs ((o, n) :: ps) (v :: vs) = (if v.solid = true ∧ v.cells.length = n then (putAt cs o v.cells).bind fun cs => fillV cs ps vs else none) := rfl
theorem pv_lit {z n is sh vs} : pv (.lit z n is sh) vs = (fillL (List.replicate n z) is vs sh).map fun xs => .lst xs .exact := by cases vs <;> rfl
theorem fillL_nil {xs sh} : fillL xs [] [] sh = some xs := rfl
theorem fillL_cons {xs i is v vs sh} : fillL xs (i :: is) (v :: vs) sh = (if i < xs.length && v.fits sh then fillL (xs.set i v) is vs sh else none) := rfl
theorem pv_fld {o sh cs} : pv (.fld o sh) [.agg cs] = takeAt sh cs o := rfl
theorem pv_idx {n z sh cs i} : pv (.idx n z sh) [.agg cs, .int i] = (if 0 ≤ i ∧ i < (n : Int) then takeAt sh cs (i.toNat * z) else none) := rfl
theorem pv_mkfn {k n vs} : pv (.mkfn k n) vs = (if n ≤ vs.length then some (.fn k (vs.take n) (vs.drop n)) else none) := by cases vs <;> rfl
theorem pv_ext {i vs} : pv (.ext i) [.tup vs] = vs[i]? := rfl
theorem pv_len {xs c} : pv .len [.lst xs c] = some (.int xs.length) := rfl
theorem pv_len2 {l o n c} : pv .len [.sli l o n c] = some (.int n) := rfl
theorem pv_cap {l o n c} : pv .cap [.sli l o n c] = some (.int c) := rfl
theorem pv_max {a b} : pv .max [.int a, .int b] = some (.int (if b > a then b else a)) := rfl
theorem pv_min {a b} : pv .min [.int a, .int b] = some (.int (if b < a then b else a)) := rfl
theorem pv_fa {o l p} : pv (.fa o) [.ptr l p] = some (.ptr l (p + o)) := rfl
theorem pv_fa2 {o cs p} : pv (.fa o) [.rptr cs p] = some (.rptr cs (p + o)) := rfl
theorem pv_ia {n z l p i} : pv (.ia n z) [.ptr l p, .int i] = (if 0 ≤ i ∧ i < (n : Int) then some (.ptr l (p + i.toNat * z)) else none) := rfl
theorem pv_ia2 {n z cs p i} : pv (.ia n z) [.rptr cs p, .int i] = (if 0 ≤ i ∧ i < (n : Int) then some (.rptr cs (p + i.toNat * z)) else none) := rfl
theorem pv_ea {z xs c i} : pv (.ea z) [.lst xs c, .int i] = (if 0 ≤ i then (xs[i.toNat]?).bind fun x => if x.cells.length = z then some (.rptr x.cells 0) else none else none) := rfl
theorem pv_ea2 {z l o n c i} : pv (.ea z) [.sli l o n c, .int i] = (if 0 ≤ i ∧ i < (n : Int) then some (.ptr l (o + i.toNat * z)) else none) := rfl
theorem pv_eload {sh cs o} : pv (.eload sh) [.rptr cs o] = takeAt sh cs o := rfl
theorem pv_slcfff {z xs c} : pv (.slc z false false false) [.lst xs c] = slcV z xs c 0 xs.length none := rfl
theorem pv_slctff {z xs c p} : pv (.slc z true false false) [.lst xs c, .int p] = slcV z xs c p xs.length none := rfl
theorem pv_slcftf {z xs c p} : pv (.slc z false true false) [.lst xs c, .int p] = slcV z xs c 0 p none := rfl
theorem pv_slcttf {z xs c p q} : pv (.slc z true true false) [.lst xs c, .int p, .int q] = slcV z xs c p q none := rfl
theorem pv_slcftt {z xs c p q} : pv (.slc z false true true) [.lst xs c, .int p, .int q] = slcV z xs c 0 p (some q) := rfl
theorem pv_slcttt {z xs c p q r} : pv (.slc z true true true) [.lst xs c, .int p, .int q, .int r] = slcV z xs c p q (some r) := rfl
theorem pv_slmtff {z l o n c p} : pv (.slc z true false false) [.sli l o n c, .int p] = slcM z l o c p n none := rfl
theorem pv_slmftf {z l o n c p} : pv (.slc z false true false) [.sli l o n c, .int p] = slcM z l o c 0 p none := rfl
theorem pv_slmttf {z l o n c p q} : pv (.slc z true true false) [.sli l o n c, .int p, .int q] = slcM z l o c p q none := rfl
theorem pv_slmttt {z l o n c p q r} : pv (.slc z true true true) [.sli l o n c, .int p, .int q, .int r] = slcM z l o c p q (some r) := rfl
theorem slcV_none {z xs c p q} : slcV z xs c p q none = (if 0 ≤ p ∧ p ≤ q ∧ q ≤ xs.length ∧ hd xs z = true then some (.lst ((xs.take q.toNat).drop p.toNat) (if p = 0 ∧ q = xs.length then c else .any)) else none) := rfl
theorem slcV_some {z xs c p q m} : slcV z xs c p q (some m) = (if 0 ≤ p ∧ p ≤ q ∧ q ≤ xs.length ∧ hd xs z = true then (if m = q then some (.lst ((xs.take q.toNat).drop p.toNat) .exact) else none) else none) := rfl
theorem scal_bool {b} : V.scal (.bool b) = true := rfl
theorem scal_int {n} : V.scal (.int n) = true := rfl
theorem scal_map {l} : V.scal (.map l) = true := rfl
theorem scal_nilfn : V.scal .nilfn = true := rfl
theorem scal_yield {l} : V.scal (.yield l) = true := rfl
theorem scal_ptr {l o} : V.scal (.ptr l o) = true := rfl
theorem scal_rptr {l o} : V.scal (.rptr l o) = true := rfl
theorem scal_lst {l o} : V.scal (.lst l o) = true := rfl
theorem scal_fn {k f c} : V.scal (.fn k f c) = true := rfl
theorem scal_sli {k f c d} : V.scal (.sli k f c d) = true := rfl
theorem fits_none {v} : V.fits none v = v.scal := rfl
theorem fits_agg {n cs} : V.fits (some n) (.agg cs) = (cs.length == n && cs.all V.scal) := rfl
theorem cells_agg {cs} : V.cells (.agg cs) = cs := rfl
theorem cells_bool {b} : V.cells (.bool b) = [.bool b] := rfl
theorem cells_int {n} : V.cells (.int n) = [.int n] := rfl
theorem cells_map {l} : V.cells (.map l) = [.map l] := rfl
theorem cells_nilfn : V.cells .nilfn = [.nilfn] := rfl
theorem cells_yield {l} : V.cells (.yield l) = [.yield l] := rfl
theorem cells_ptr {l o} : V.cells (.ptr l o) = [.ptr l o] := rfl
theorem cells_rptr {l o} : V.cells (.rptr l o) = [.rptr l o] := rfl
theorem cells_lst {l o} : V.cells (.lst l o) = [.lst l o] := rfl
theorem cells_fn {k f c} : V.cells (.fn k f c) = [.fn k f c] := rfl
theorem cells_sli {k f c d} : V.cells (.sli k f c d) = [.sli k f c d] := rfl
theorem takeAt_none {cs o} : takeAt none cs o = cs[o]? := rfl
theorem takeAt_some {n cs o} : takeAt (some n) cs o = (if o + n ≤ cs.length then some (.agg ((cs.drop o).take n)) else none) := rfl
theorem putAt_eq {cs o vs} : putAt cs o vs = (if o + vs.length ≤ cs.length then some (cs.take o ++ vs ++ cs.drop (o + vs.length)) else none) := rfl
theorem offOf_off {o} : offOf (.off o) = some o := rfl
theorem aggOf_agg {cs} : aggOf (.agg cs) = some cs := rfl
theorem gate_tup {w} : gate (.tup []) w = some false := rfl
theorem gate_bool {b w} : gate (.bool b) w = some (b == w) := rfl
theorem pick3_true {x y} : pick3 true x y = x := rfl
theorem pick3_false {x y} : pick3 false x y = y := rfl
theorem okP_true {e} : okP true e = some e := rfl
theorem oneV_one {v} : oneV [v] = v := rfl
theorem oneV_two {v u} : oneV [v, u] = V.tup [v, u] := rfl
theorem oneV_nil : oneV [] = V.tup [] := rfl
theorem oneV_three {v u w} : oneV [v, u, w] = V.tup [v, u, w] := rfl
theorem erase_lst {xs c} : V.erase (.lst xs c) = .lst (eraseL xs) .any := by simp only [V.erase]
theorem erase_agg {cs} : V.erase (.agg cs) = .agg (eraseL cs) := by simp only [V.erase]
theorem erase_tup {cs} : V.erase (.tup cs) = .tup (eraseL cs) := by simp only [V.erase]
theorem erase_fn {k f c} : V.erase (.fn k f c) = .fn k (eraseL f) (eraseL c) := by simp only [V.erase]
theorem erase_rptr {cs o} : V.erase (.rptr cs o) = .rptr (eraseL cs) o := by simp only [V.erase]
theorem erase_undef : V.erase .undef = .undef := by simp only [V.erase]
theorem erase_bool {b} : V.erase (.bool b) = .bool b := by simp only [V.erase]
theorem erase_int {n} : V.erase (.int n) = .int n := by simp only [V.erase]
theorem erase_map {l} : V.erase (.map l) = .map l := by simp only [V.erase]
theorem erase_ptr {l o} : V.erase (.ptr l o) = .ptr l o := by simp only [V.erase]
theorem erase_sli {l o n c} : V.erase (.sli l o n c) = .sli l o n c := by simp only [V.erase]
theorem erase_yield {l} : V.erase (.yield l) = .yield l := by simp only [V.erase]
theorem erase_nilfn : V.erase .nilfn = .nilfn := by simp only [V.erase]
theorem eraseL_nil : eraseL [] = [] := by simp only [eraseL]
theorem eraseL_cons {v vs} : eraseL (v :: vs) = v.erase :: eraseL vs := by simp only [eraseL]
theorem resVs_nil {e s} : resVs e s [] = some [] := rfl
theorem runO_p {d o xs e} : runO (.p d o xs) e = (pv o (xs.map (ev e))).map (Env.set e d) := rfl
theorem offAt_none {e : Env} : offAt e none = some 0 := rfl
theorem offAt_some {e : Env} {q} : offAt e (some q) = offOf (e q) := by simp only [offAt, offOf]; cases e q <;> rfl
theorem lidx_int {e d n len sz i} : lidx e d n len sz (.int i) = if 0 ≤ i ∧ i < (len : Int) then some (e.set d (.off (n + i.toNat * sz))) else none := rfl
theorem runO_la {d r q off e} : runO (.la d r q off) e = (aggOf (e r)).bind fun _ => (offAt e q).map fun n => e.set d (.off (n + off)) := rfl
theorem runO_lia {d r q len sz i e} : runO (.lia d r q len sz i) e = (aggOf (e r)).bind fun _ => (offAt e q).bind fun n => lidx e d n len sz (ev e i) := rfl
theorem runO_lput {q sh x e} : runO (.lput q sh x) e = okP ((ev e x).fits sh) (e.set q (ev e x)) := rfl
theorem runO_lset {q sh x e} : runO (.lset q sh x) e = okP ((e q).fits sh && (ev e x).fits sh) (e.set q (ev e x)) := rfl
theorem runO_lwhole {d q sh e} : runO (.lwhole d q sh) e = okP ((e q).fits sh) (e.set d (e q)) := rfl
theorem runO_lload {d q r sh e} : runO (.lload d q r sh) e = ((offOf (e r)).bind fun o => takeAt sh (e q).cells o).map (Env.set e d) := rfl
theorem runO_lstore {q r sh x e} : runO (.lstore q r sh x) e = (if (ev e x).fits sh then (offOf (e r)).bind fun o => (aggOf (e q)).bind fun cs => putAt cs o (ev e x).cells else none).map fun cs => e.set q (.agg cs) := rfl
theorem runO_pend {q sh e} : runO (.pend q sh) e = some (e.set q (.pend (shN sh))) := rfl
theorem runO_rbox {q sh x e} : runO (.rbox q sh x) e = okP ((ev e x).fits sh) (e.set q (.rptr (ev e x).cells 0)) := rfl
def pendB (n : Nat) : V → Bool
  | .pend m => m == n
  | _ => false
theorem pendB_pend {n m} : pendB n (.pend m) = (m == n) := rfl
theorem runO_rinit {q sh x e} : runO (.rinit q sh x) e = okP (pendB (shN sh) (e q) && (ev e x).fits sh) (e.set q (.rptr (ev e x).cells 0)) := by
  simp only [runO, okP, pendB]
  cases e q <;> simp
  split <;> simp_all
theorem shN_none : shN none = 1 := rfl
theorem shN_some {n} : shN (some n) = n := rfl
theorem runI_none {o e} : runI ⟨o, none⟩ e = runO o e := rfl
theorem runI_some {o t w e} : runI ⟨o, some (t, w)⟩ e = (gate (e t) w).bind fun b => pick3 b (runO o e) (some (e.setO o.dst o.skipV)) := rfl
theorem runO_call {d q f args e} : runO (.call d q f args) e = none := rfl
theorem runO_hbox {q sh x e} : runO (.hbox q sh x) e = none := rfl
theorem runO_hinit {q sh x e} : runO (.hinit q sh x) e = none := rfl
theorem runO_load {d sh x e} : runO (.load d sh x) e = none := rfl
theorem runO_store {sh x v e} : runO (.store sh x v) e = none := rfl
theorem runO_mkmap {d e} : runO (.mkmap d) e = none := rfl
theorem runO_mkslice {d z sz n c e} : runO (.mkslice d z sz n c) e = none := rfl
theorem runO_lookup {d z ok n m k e} : runO (.lookup d z ok n m k) e = none := rfl
theorem runO_mapset {n m k v sh e} : runO (.mapset n m k v sh) e = none := rfl
theorem runO_range {d m e} : runO (.range d m) e = none := rfl
theorem runO_next {d i e} : runO (.next d i) e = none := rfl
theorem runO_entry {d i e} : runO (.entry d i) e = none := rfl
theorem runO_mlen {d m e} : runO (.mlen d m) e = none := rfl
theorem runO_append {d z y m x w e} : runO (.append d z y m x w) e = none := rfl
theorem runO_isnil {d n x e} : runO (.isnil d n x) e = none := rfl
theorem runO_litM {d z n is sh xs e} : runO (.litM d z n is sh xs) e = none := rfl
theorem runO_appendZ {d z y x w e} : runO (.appendZ d z y x w) e = none := rfl
theorem runO_copy {d z x w e} : runO (.copy d z x w) e = none := rfl
theorem runO_clear {z y x e} : runO (.clear z y x) e = none := rfl
theorem runO_ovl {d x w e} : runO (.ovl d x w) e = none := rfl
theorem runO_frz {d z sh e} : runO (.frz d z sh) e = none := rfl
theorem runO_lfrz {d z y sh e} : runO (.lfrz d z y sh) e = none := rfl
def runK (x : Option Env) (e : Env) (i : Ins) (is : List Ins) : Env × List Ins := match x with
  | some e' => runs is e'
  | none => (e, i :: is)
theorem runK_some {e' e i is} : runK (some e') e i is = runs is e' := rfl
theorem runK_none {e i is} : runK none e i is = (e, i :: is) := rfl
theorem runs_nil {e} : runs [] e = (e, []) := rfl
theorem runs_cons {i is e} : runs (i :: is) e = runK (runI i e) e i is := by
  simp only [runs, runK]
theorem skipV_p {d o xs} : Op.skipV (.p d o xs) = .tup [] := rfl
theorem skipV_la {d r q off} : Op.skipV (.la d r q off) = .tup [] := rfl
theorem skipV_lia {d r q n z i} : Op.skipV (.lia d r q n z i) = .tup [] := rfl
theorem skipV_lwhole {d r sh} : Op.skipV (.lwhole d r sh) = .tup [] := rfl
theorem skipV_lload {d r t sh} : Op.skipV (.lload d r t sh) = .tup [] := rfl
theorem skipV_load {d sh x} : Op.skipV (.load d sh x) = .tup [] := rfl
theorem skipV_mkmap {d} : Op.skipV (.mkmap d) = .tup [] := rfl
theorem skipV_mkslice {d z sz n c} : Op.skipV (.mkslice d z sz n c) = .tup [] := rfl
theorem skipV_lookup {d z ok n m k} : Op.skipV (.lookup d z ok n m k) = .tup [] := rfl
theorem skipV_range {d m} : Op.skipV (.range d m) = .tup [] := rfl
theorem skipV_next {d i} : Op.skipV (.next d i) = .tup [] := rfl
theorem skipV_entry {d i} : Op.skipV (.entry d i) = .tup [] := rfl
theorem skipV_mlen {d m} : Op.skipV (.mlen d m) = .tup [] := rfl
theorem skipV_append {d z y m x w} : Op.skipV (.append d z y m x w) = .tup [] := rfl
theorem skipV_isnil {d n x} : Op.skipV (.isnil d n x) = .tup [] := rfl
theorem skipV_call {d q f args} : Op.skipV (.call d q f args) = .tup [] := rfl
theorem skipV_lput {r sh x} : Op.skipV (.lput r sh x) = .undef := rfl
theorem skipV_pend {r sh} : Op.skipV (.pend r sh) = .tup [] := rfl
theorem skipV_rbox {r sh x} : Op.skipV (.rbox r sh x) = .tup [] := rfl
theorem skipV_hbox {r sh x} : Op.skipV (.hbox r sh x) = .tup [] := rfl
theorem skipV_lset {r sh x} : Op.skipV (.lset r sh x) = .tup [] := rfl
theorem skipV_lstore {r t sh x} : Op.skipV (.lstore r t sh x) = .tup [] := rfl
theorem skipV_rinit {r sh x} : Op.skipV (.rinit r sh x) = .tup [] := rfl
theorem skipV_hinit {r sh x} : Op.skipV (.hinit r sh x) = .tup [] := rfl
theorem skipV_store {sh x v} : Op.skipV (.store sh x v) = .tup [] := rfl
theorem skipV_mapset {n m k v sh} : Op.skipV (.mapset n m k v sh) = .tup [] := rfl
theorem dst_p {d o xs} : Op.dst (.p d o xs) = some d := rfl
theorem dst_la {d r q off} : Op.dst (.la d r q off) = some d := rfl
theorem dst_lia {d r q n z i} : Op.dst (.lia d r q n z i) = some d := rfl
theorem dst_lwhole {d r sh} : Op.dst (.lwhole d r sh) = some d := rfl
theorem dst_lload {d r t sh} : Op.dst (.lload d r t sh) = some d := rfl
theorem dst_load {d sh x} : Op.dst (.load d sh x) = some d := rfl
theorem dst_mkmap {d} : Op.dst (.mkmap d) = some d := rfl
theorem dst_mkslice {d z sz n c} : Op.dst (.mkslice d z sz n c) = some d := rfl
theorem dst_lookup {d z ok n m k} : Op.dst (.lookup d z ok n m k) = some d := rfl
theorem dst_range {d m} : Op.dst (.range d m) = some d := rfl
theorem dst_next {d i} : Op.dst (.next d i) = some d := rfl
theorem dst_entry {d i} : Op.dst (.entry d i) = some d := rfl
theorem dst_mlen {d m} : Op.dst (.mlen d m) = some d := rfl
theorem dst_append {d z y m x w} : Op.dst (.append d z y m x w) = some d := rfl
theorem dst_isnil {d n x} : Op.dst (.isnil d n x) = some d := rfl
theorem dst_call {d q f args} : Op.dst (.call d q f args) = d := rfl
theorem dst_lput {r sh x} : Op.dst (.lput r sh x) = some r := rfl
theorem dst_pend {r sh} : Op.dst (.pend r sh) = some r := rfl
theorem dst_rbox {r sh x} : Op.dst (.rbox r sh x) = some r := rfl
theorem dst_hbox {r sh x} : Op.dst (.hbox r sh x) = some r := rfl
theorem dst_lset {r sh x} : Op.dst (.lset r sh x) = none := rfl
theorem dst_lstore {r t sh x} : Op.dst (.lstore r t sh x) = none := rfl
theorem dst_rinit {r sh x} : Op.dst (.rinit r sh x) = none := rfl
theorem dst_hinit {r sh x} : Op.dst (.hinit r sh x) = none := rfl
theorem dst_store {sh x v} : Op.dst (.store sh x v) = none := rfl
theorem dst_mapset {n m k v sh} : Op.dst (.mapset n m k v sh) = none := rfl
def resT (v : V) (x : Option (List V)) : Option (List V) := x.map (v :: ·)
theorem resT_some {v vs} : resT v (some vs) = some (v :: vs) := rfl
theorem resVs_tmp {e s t rs} : resVs e s (.tmp t :: rs) = resT (e t) (resVs e s rs) := by
  simp only [resVs, resV, resT]
  cases resVs e s rs <;> rfl
def resO (b : Bool) (x : Option (List V)) : Option (List V) := if b then x else none
theorem resO_true {x} : resO true x = x := rfl
theorem resVs_loc {e s q sh rs} : resVs e s (.loc q sh :: rs) = resO ((e q).fits sh) (resT (e q) (resVs e s rs)) := by
  simp only [resVs, resV, resT, resO]
  split
  · rename_i h1 h2; split at h1 <;> simp_all
  · rename_i h1; split
    · cases h : resVs e s rs <;> simp_all
    · rfl

attribute [go_sem ↓] set_apply over_apply
attribute [go_sem] enter ev_t ev_c setO_some setO_none
  pv_mov pv_pick pv_bin binV_add binV_sub binV_mul binV_quo binV_rem binV_lss binV_leq binV_gtr binV_geq binV_shr binV_shl pv_eq eqN_int eqN_bool eqN_agg kindsOk_nil kindsOk_int kindsOk_bool solid_agg solid_int solid_bool solid_map solid_lst solid_ptr solid_rptr solid_sli solid_fn solid_yield solid_nilfn eqV_int eqV_bool eqV_agg eqCells_nil eqCells_int eqCells_bool pv_not pv_neg pv_build fillV_nil fillV_cons pv_lit fillL_nil fillL_cons pv_fld pv_idx pv_mkfn pv_ext pv_len pv_len2 pv_cap pv_max pv_min pv_fa pv_fa2 pv_ia pv_ia2 pv_ea pv_ea2 pv_eload pv_slcfff pv_slctff pv_slcftf pv_slcttf pv_slcftt pv_slcttt pv_slmtff pv_slmftf pv_slmttf pv_slmttt slcV_none slcV_some scal_bool scal_int scal_map scal_nilfn scal_yield scal_ptr scal_rptr scal_lst scal_fn scal_sli fits_none fits_agg cells_agg cells_bool cells_int cells_map cells_nilfn cells_yield cells_ptr cells_rptr cells_lst cells_fn cells_sli takeAt_none takeAt_some putAt_eq offOf_off aggOf_agg gate_bool gate_tup pick3_true pick3_false okP_true oneV_one oneV_two oneV_nil oneV_three erase_lst erase_agg erase_tup erase_fn erase_rptr erase_undef erase_bool erase_int erase_map erase_ptr erase_sli erase_yield erase_nilfn eraseL_nil eraseL_cons resVs_nil runO_p offAt_none offAt_some lidx_int runO_la runO_lia runO_lput runO_lset runO_lwhole runO_lload runO_lstore runO_pend runO_rbox runO_rinit pendB_pend shN_none shN_some runI_none runI_some runO_call runO_hbox runO_hinit runO_load runO_store runO_mkmap runO_mkslice runO_lookup runO_mapset runO_range runO_next runO_entry runO_mlen runO_append runO_isnil runO_litM runO_appendZ runO_copy runO_clear runO_ovl runO_frz runO_lfrz skipV_p skipV_la skipV_lia skipV_lwhole skipV_lload skipV_load skipV_mkmap skipV_mkslice skipV_lookup skipV_range skipV_next skipV_entry skipV_mlen skipV_append skipV_isnil skipV_call skipV_lput skipV_pend skipV_rbox skipV_hbox skipV_lset skipV_lstore skipV_rinit skipV_hinit skipV_store skipV_mapset dst_p dst_la dst_lia dst_lwhole dst_lload dst_load dst_mkmap dst_mkslice dst_lookup dst_range dst_next dst_entry dst_mlen dst_append dst_isnil dst_call dst_lput dst_pend dst_rbox dst_hbox dst_lset dst_lstore dst_rinit dst_hinit dst_store dst_mapset runK_some runK_none runs_nil runs_cons resT_some resVs_tmp resO_true resVs_loc
  List.map_cons List.map_nil List.getElem?_cons_zero List.getElem?_cons_succ List.length_cons List.length_nil List.drop_succ_cons List.drop_zero List.take_succ_cons List.take_zero List.drop_nil List.take_nil
  List.cons_append List.nil_append List.append_nil List.all_cons List.all_nil Bool.and_true Bool.true_and Bool.and_self List.contains_cons List.contains_nil Bool.or_false Bool.false_or Bool.or_true Bool.true_or
  Option.map_some Option.map_none Option.bind_some Option.getD_some
  List.set_cons_zero List.set_cons_succ List.replicate_succ List.replicate_zero
  Nat.reduceAdd Nat.reduceLeDiff Nat.reduceEqDiff Nat.reduceSub Nat.reduceMul Nat.reduceBEq Nat.reduceLT BEq.rfl if_true if_false decide_true decide_false reduceIte Int.reduceNeg
  Bool.false_eq_true Nat.zero_add Nat.add_zero Nat.zero_le Nat.le_refl Int.reduceToNat beq_self_eq_true Bool.not_true Bool.not_false Bool.and_false Bool.false_and true_and and_true
  beq_true beq_false reduceBEq
end Go.Hu

namespace Go.Hu
section
variable {C : CP} {e : Env} {s : St} {Q : Post} {K : Env → St → Prop}

theorem w_pick_t {p : Prop} [Decidable p] {x y i is} (h1 : p → wpR C (runK x e i is) s K) (h2 : ¬ p → wpR C (runK y e i is) s K) : wpR C (runK (pick3 (decide p == true) x y) e i is) s K := by
  by_cases h : p
  · simpa [pick3, h] using h1 h
  · simpa [pick3, h] using h2 h
theorem w_pick_f {p : Prop} [Decidable p] {x y i is} (h1 : p → wpR C (runK y e i is) s K) (h2 : ¬ p → wpR C (runK x e i is) s K) : wpR C (runK (pick3 (decide p == false) x y) e i is) s K := by
  by_cases h : p
  · simpa [pick3, h] using h1 h
  · simpa [pick3, h] using h2 h
theorem w_pick_bt {b : Bool} {x y i is} (h1 : b = true → wpR C (runK x e i is) s K) (h2 : b = false → wpR C (runK y e i is) s K) : wpR C (runK (pick3 (b == true) x y) e i is) s K := by
  cases b
  · exact h2 rfl
  · exact h1 rfl
theorem w_pick_bf {b : Bool} {x y i is} (h1 : b = true → wpR C (runK y e i is) s K) (h2 : b = false → wpR C (runK x e i is) s K) : wpR C (runK (pick3 (b == false) x y) e i is) s K := by
  cases b
  · exact h2 rfl
  · exact h1 rfl
theorem bne_false2 {b : Bool} : (b != false) = b := by cases b <;> rfl
theorem bne_true2 {b : Bool} : (b != true) = !b := by cases b <;> rfl
attribute [go_sem] bne_false2 bne_true2 Bool.not_true Bool.not_false
theorem w_op {o is} (h : wpO C o e s fun e s => wpIs C is e s K) : wpR C (e, ⟨o, none⟩ :: is) s K := by
  unfold wpR
  exact h
theorem w_then_any {b x} (hx : x ≠ .normal) (h : Q x e s) : thenQ C b Q x e s := by
  unfold thenQ
  cases x with
  | normal => exact absurd rfl hx
  | exit id => exact h
  | ret => exact h
/-! ### Short names of the rules (a walk's text is long) -/
theorem Wa (h : Q .normal e s) : wpS C .skip Q e s := w_skip h
theorem Wb {a b} (h : wpS C a (thenQ C b Q) e s) : wpS C (.seq a b) Q e s := w_seq h
theorem Wc {b} (h : wpS C b Q e s) : thenQ C b Q .normal e s := w_then h
theorem Wd {b} (h : Q .ret e s) : thenQ C b Q .ret e s := w_then_ret h
theorem We {b i} (h : Q (.exit i) e s) : thenQ C b Q (.exit i) e s := w_then_exit h
theorem Wf {id c} (h : wpS C c (blockQ id Q) e s) : wpS C (.block id c) Q e s := w_block h
theorem Wg {id} (h : Q .normal e s) : blockQ id Q .normal e s := w_blk _ h
theorem Wh {id} (h : Q .ret e s) : blockQ id Q .ret e s := w_blk_ret h
theorem Wi {id} (h : Q .normal e s) : blockQ id Q (.exit id) e s := w_blk_this h
theorem Wj {id j} (hj : j ≠ id) (h : Q (.exit j) e s) : blockQ id Q (.exit j) e s := w_blk_other hj h
theorem Wk {R} (h : R e s) : roundQ R Q .normal e s := w_round h
theorem Wl {R} (h : Q .ret e s) : roundQ R Q .ret e s := w_round_ret h
theorem Wm {R i} (h : Q (.exit i) e s) : roundQ R Q (.exit i) e s := w_round_exit h
theorem Wn {id} (h : Q (.exit id) e s) : wpS C (.exit id) Q e s := w_exit h
theorem Wo (h : Q .ret e s) : wpS C .ret Q e s := w_ret h
theorem Wp {a b} (h : wpS C a Q e s) : wpB C (.bool true) a b Q e s := w_true h
theorem Wq {a b} (h : wpS C b Q e s) : wpB C (.bool false) a b Q e s := w_false h
theorem Wr (h : K e s) : wpR C (e, []) s K := w_nil h
theorem Ws {is} (h : wpR C (runs is e) s (Q .normal)) : wpS C (.reg is) Q e s := w_reg h
theorem Wt {is} (h : wpR C (runs is e) s K) : wpIs C is e s K := w_run h
theorem Wu {x a b} (h : wpB C (ev e x) a b Q e s) : wpS C (.cond x a b) Q e s := w_cond h
theorem Wv {o t w is} (hg : gate (e t) w = some false) (h : wpR C (runs is (e.setO o.dst o.skipV)) s K) : wpR C (e, ⟨o, some (t, w)⟩ :: is) s K := w_guard_not hg h
theorem Ww {o t w is} (hg : gate (e t) w = some true) (h : wpR C (e, ⟨o, none⟩ :: is) s K) : wpR C (e, ⟨o, some (t, w)⟩ :: is) s K := w_guard hg h
theorem Wx {d f args is} {fv : V} {as : List V} (hf : ev e f = fv) (ha : (args.map fun a => (ev e a).erase) = as)
    (h : C fv as s fun v s' => wpIs C is (e.set d v) s' K) : wpR C (e, ⟨.call (some d) false f args, none⟩ :: is) s K := w_call hf ha h
theorem St.le_refl (s : St) : s ≤ s := fun _ _ h => h
theorem St.le_trans {s s1 s2 : St} (h : s ≤ s1) (h' : s1 ≤ s2) : s ≤ s2 := fun l o hl => h' l o (h l o hl)
theorem St.le_new {s : St} {l : Nat} {o : PObj} (h : s l = none) : s ≤ s.set l o := fun l' o' hl => by
  have : l' ≠ l := by rintro rfl; rw [h] at hl; cases hl
  simpa [St.set, this] using hl
theorem St.set_get {s : St} {l : Nat} {o : PObj} : (s.set l o) l = some o := by simp [St.set]
theorem St.get_other {s : St} {l l' : Nat} {o : PObj} (h : l' ≠ l) : (s.set l o) l' = s l' := by simp [St.set, h]
theorem St.set_get' {s : St} {l l' : Nat} {o : PObj} (h : l' ≠ l) : (s.set l o) l' = s l' := by simp [St.set, h]
/-- A loop: what holds before a round, by a number that each round lowers. -/
theorem w_iter {P : PProg} {c : Stm} {Q : Post} {e : Env} {s : St} (R : Nat → Env → St → Prop) (n0 : Nat) (h0 : R n0 e s) (hr : ∀ n e s, R n e s → wpS (Call P) c (roundQ (fun e' s' => ∃ m, m < n ∧ R m e' s') Q) e s) : wpS (Call P) (.loop c) Q e s := by
  intro I hI
  have key : ∀ n e s, R n e s → I e s := by
    intro n
    induction n using Nat.strongRecOn with
    | _ n ih =>
      intro e s h
      refine hI e s (wpS_imp (hr n e s h) ?_)
      intro x e' s' hx
      unfold roundQ at hx
      cases x with
      | normal => obtain ⟨m, h1, h2⟩ := hx; exact ih m h1 e' s' h2
      | exit id => exact hx
      | ret => exact hx
  exact key n0 e s h0
/-- A table's function. -/
def look : List (Nat × PFunc) → PProg
  | [], _ => none
  | (n, F) :: r, k => bif Nat.beq n k then some F else look r k
theorem look_mem : ∀ {l : List (Nat × PFunc)} {k : Nat} {F : PFunc}, look l k = some F → (k, F) ∈ l
  | [], k, F, h => by simp [look] at h
  | (n, F') :: l, k, F, h => by
    simp only [look] at h
    cases hb : Nat.beq n k with
    | true =>
      rw [hb] at h
      simp only [cond_true, Option.some.injEq] at h
      subst h
      rw [Nat.eq_of_beq_eq_true hb]
      simp
    | false =>
      rw [hb] at h
      exact List.mem_cons_of_mem _ (look_mem h)
/-- All but one object is as it was. -/
theorem St.le_set {s s1 : St} {l : Nat} {o : PObj} (h : s ≤ s1) (hn : s l = none) : s ≤ s1.set l o := fun l' o' hl => by
  have : l' ≠ l := by rintro rfl; rw [hn] at hl; cases hl
  simpa [St.set, this] using h l' o' hl
theorem St.ne_of {s : St} {l l' : Nat} {o : PObj} (h : s l = some o) (h' : s l' = none) : l ≠ l' := by rintro rfl; rw [h] at h'; cases h'
end
end Go.Hu

namespace Go.Hu
attribute [local irreducible] wpIs wpI

section
variable {C : CP} {e : Env} {s : St} {K : Env → St → Prop} {α : Type}

/-- How elements are told as keys: injective, comparable. -/
structure KeyEnc (ks : Kd) (kv : α → V) : Prop where
  ok : ∀ y, keyOk ks (kv y) = true
  eq : ∀ y z, ∃ b, eqV (kv y) (kv z) = some b ∧ (b = true ↔ y = z)

/-- A map that is a set: all its entries are true. -/
structure Keys (kv : α → V) (es : List (V × V)) (S : α → Prop) : Prop where
  all : ∀ p ∈ es, ∃ y, p = (kv y, V.bool true)
  mem : ∀ y, S y ↔ (kv y, V.bool true) ∈ es
  nd : es.Nodup
theorem Keys.nil {kv : α → V} : Keys kv [] (fun _ => False) := ⟨by simp, by simp, by simp⟩
theorem Keys.congr {kv : α → V} {es : List (V × V)} {S T : α → Prop} (h : Keys kv es S) (hs : ∀ y, S y ↔ T y) : Keys kv es T := ⟨h.1, fun y => (hs y).symm.trans (h.2 y), h.3⟩
theorem KeyEnc.inj {ks : Kd} {kv : α → V} (hk : KeyEnc ks kv) {y z : α} (h : kv y = kv z) : y = z := by
  obtain ⟨b, h1, h2⟩ := hk.eq y y
  obtain ⟨c, h3, h4⟩ := hk.eq y z
  rw [← h, h1] at h3
  obtain rfl := Option.some.inj h3
  exact h4.1 (h2.2 rfl)
theorem Keys.find {ks : Kd} {kv : α → V} (hk : KeyEnc ks kv) : ∀ {es : List (V × V)}, (∀ p ∈ es, ∃ y, p = (kv y, V.bool true)) → ∀ y,
    (∃ i, findK (kv y) es = some (some i) ∧ es[i]? = some (kv y, .bool true)) ∨ (findK (kv y) es = some none ∧ (kv y, V.bool true) ∉ es)
  | [], _, y => .inr ⟨rfl, by simp⟩
  | p :: es, h, y => by
    obtain ⟨z, rfl⟩ := h p (by simp)
    obtain ⟨b, h1, h2⟩ := hk.eq y z
    cases b with
    | true =>
      obtain rfl := h2.1 rfl
      exact .inl ⟨0, by simp [findK, h1], rfl⟩
    | false =>
      have hne : y ≠ z := fun h => by simpa using h2.2 h
      rcases Keys.find hk (es := es) (fun p hp => h p (List.mem_cons_of_mem _ hp)) y with ⟨i, h3, h4⟩ | ⟨h3, h4⟩
      · exact .inl ⟨i + 1, by simp [findK, h1, h3], by simpa using h4⟩
      · refine .inr ⟨by simp [findK, h1, h3], ?_⟩
        simp only [List.mem_cons, Prod.mk.injEq, and_true, not_or]
        exact ⟨fun h => hne (hk.inj h), h4⟩

/-- One element more. -/
theorem w_setadd {ks : Kd} {kv : α → V} (hk : KeyEnc ks kv) {m k v : Opd} {is : List Ins} {r : Nat} {y : α} {es : List (V × V)} {S : α → Prop} (hm : ev e m = .map (some r)) (hy : ev e k = kv y) (hv : ev e v = .bool true) (hs : s r = some (.map es)) (hS : Keys kv es S)
    (h : ∀ es', Keys kv es' (fun z => S z ∨ z = y) → wpIs C is e (s.set r (.map es')) K) : wpR C (e, ⟨.mapset ks m k v none, none⟩ :: is) s K := by
  refine w_op ?_
  simp only [wpO, hm, hy, hv, hs, hk.ok, true_and]
  refine ⟨rfl, ?_⟩
  rcases Keys.find hk hS.1 y with ⟨i, h1, h2⟩ | ⟨h1, h2⟩
  · simp only [h1]
    have : es.set i (kv y, .bool true) = es := by
      obtain ⟨hi, he⟩ := List.getElem?_eq_some_iff.1 h2
      rw [← he, List.set_getElem_self]
    rw [this]
    refine h es (hS.congr fun z => ⟨.inl, ?_⟩)
    rintro (hz | rfl)
    · exact hz
    · exact (hS.2 z).2 (List.mem_of_getElem? h2)
  · simp only [h1]
    refine h _ ⟨?_, fun z => ?_, ?_⟩
    rotate_left 2
    · rw [List.nodup_append]
      refine ⟨hS.3, by simp, fun a ha b hb => ?_⟩
      simp at hb
      subst hb
      rintro rfl
      exact h2 ha
    · intro p hp
      rcases List.mem_append.1 hp with hp | hp
      · exact hS.1 p hp
      · simp at hp; exact ⟨y, hp⟩
    · rw [List.mem_append, ← hS.2 z]
      simp only [List.mem_cons, Prod.mk.injEq, and_true, List.not_mem_nil, or_false]
      exact ⟨fun h => h.imp id fun h => by rw [h], fun h => h.imp id fun h => hk.inj h⟩

/-- Is one in it? -/
theorem w_setask {ks : Kd} {kv : α → V} (hk : KeyEnc ks kv) {d : Nat} {m k : Opd} {is : List Ins} {r : Nat} {y : α} {es : List (V × V)} {S : α → Prop} (hm : ev e m = .map (some r)) (hy : ev e k = kv y) (hs : s r = some (.map es)) (hS : Keys kv es S)
    (h1 : S y → wpIs C is (e.set d (.bool true)) s K) (h2 : ¬ S y → wpIs C is (e.set d (.bool false)) s K) : wpR C (e, ⟨.lookup d (.bool false) false ks m k, none⟩ :: is) s K := by
  refine w_op ?_
  simp only [wpO, hm, hy, hs, hk.ok, true_and]
  rcases Keys.find hk hS.1 y with ⟨i, g1, g2⟩ | ⟨g1, g2⟩
  · simp only [g1, g2]
    exact h1 ((hS.2 y).2 (List.mem_of_getElem? g2))
  · simp only [g1]
    exact h2 fun h => g2 ((hS.2 y).1 h)

/-- How many there are: is there one? -/
theorem w_setlen {kv : α → V} {d : Nat} {m : Opd} {is : List Ins} {r : Nat} {es : List (V × V)} {S : α → Prop} (hm : ev e m = .map (some r)) (hs : s r = some (.map es)) (hS : Keys kv es S)
    (h : ∀ n : Nat, (0 < n ↔ ∃ y, S y) → wpIs C is (e.set d (.int n)) s K) : wpR C (e, ⟨.mlen d m, none⟩ :: is) s K := by
  refine w_op ?_
  simp only [wpO, hm, hs]
  refine h es.length ?_
  constructor
  · intro hl
    match es, hl with
    | p :: es, _ =>
      obtain ⟨y, hy⟩ := hS.1 p (by simp)
      exact ⟨y, (hS.2 y).2 (by simp [hy])⟩
  · rintro ⟨y, hy⟩
    exact List.length_pos_of_mem ((hS.2 y).1 hy)

/-- A new set. -/
theorem w_setnew {d : Nat} {is : List Ins} (h : ∀ l, s l = none → wpIs C is (e.set d (.map (some l))) (s.set l (.map [])) K) : wpR C (e, ⟨.mkmap d, none⟩ :: is) s K := by
  refine w_op ?_
  simp only [wpO]
  exact h

/-- Ranging begins. -/
theorem w_setrange {d : Nat} {m : Opd} {is : List Ins} {r : Nat} {es : List (V × V)} (hm : ev e m = .map (some r)) (hs : s r = some (.map es))
    (h : ∀ l, s l = none → wpIs C is (e.set d (.iter l)) (s.set l (.iter (some r) es.length [])) K) : wpR C (e, ⟨.range d m, none⟩ :: is) s K := by
  refine w_op ?_
  simp only [wpO, hm, hs]
  exact h
theorem w_setnext {d : Nat} {it : Opd} {is : List Ins} {l r : Nat} {es : List (V × V)} {seen : List Nat} (hit : ev e it = .iter l) (hl : s l = some (.iter (some r) es.length seen)) (hr : s r = some (.map es))
    (h1 : (∀ i, i < es.length → i ∈ seen) → wpIs C is (e.set d (.tup [.bool false])) s K)
    (h2 : ∀ i x, es[i]? = some x → i ∉ seen → wpIs C is (e.set d (.tup [.bool true, x.1, x.2])) (s.set l (.iter (some r) es.length (seen ++ [i]))) K) : wpR C (e, ⟨.next d it, none⟩ :: is) s K := by
  refine w_op ?_
  simp only [wpO, hit, hl, hr, true_and]
  exact ⟨h1, h2⟩
theorem w_setentry {d : Nat} {it : Opd} {is : List Ins} {l r i : Nat} {es : List (V × V)} {seen : List Nat} {x : V × V} (hit : ev e it = .iter l) (hl : s l = some (.iter (some r) es.length (seen ++ [i]))) (hr : s r = some (.map es)) (hx : es[i]? = some x)
    (h : wpIs C is (e.set d (.tup [x.1, x.2])) s K) : wpR C (e, ⟨.entry d it, none⟩ :: is) s K := by
  refine w_op ?_
  simp only [wpO, hit, hl, hr, true_and, List.getLast?_concat, hx]
  exact h

/-- How many are left. -/
def lft (n : Nat) (seen : List Nat) : Nat := ((List.range n).filter fun j => !(seen.contains j)).length
theorem left_lt {n i : Nat} {seen : List Nat} (hi : i < n) (hn : i ∉ seen) : lft n (seen ++ [i]) < lft n seen := by
  unfold lft
  have hsub : ((List.range n).filter fun j => !((seen ++ [i]).contains j)) = (((List.range n).filter fun j => !(seen.contains j)).filter fun j => j != i) := by
    rw [List.filter_filter]
    congr 1
    funext j
    simp [List.contains_eq_mem, Bool.and_comm]
    by_cases h1 : j ∈ seen <;> by_cases h2 : j = i <;> simp [h1, h2]
  rw [hsub]
  refine List.length_filter_lt_length_iff_exists.2 ⟨i, ?_, by simp⟩
  simp [hi, hn]
end
end Go.Hu

set_option linter.unusedVariables false
namespace Go.Hu
section
variable {P : PProg} {e : Env} {s : St} {Q : Post}

def rfQ (l : Nat) (e : Env) (Q : Post) (s' : St) : Prop := match s' l with
  | some (.loop L) => L.state ≠ .busy ∧ match L.jump with
    | none => Q .normal e (s'.set l .dead)
    | some x => Q x e (s'.set l .dead)
  | _ => False
theorem w_rfunc {f : Opd} {ps own : List Nat} {a b : Stm} {fv : V} (hf : ev e f = fv) (h : ∀ l, s l = none → Call P fv [.yield l] (s.set l (.loop ⟨.ready, none, e, ps, own, a, b⟩)) fun _ s' => rfQ l e Q s') : wpS (Call P) (.rfunc f ps own a b) Q e s := by
  subst hf
  exact h
theorem w_rfN {l : Nat} {s' : St} {L : LoopRec} (hl : s' l = some (.loop L)) (hs : L.state ≠ .busy) (hj : L.jump = none) (h : Q .normal e (s'.set l .dead)) : rfQ l e Q s' := by
  unfold rfQ
  simp only [hl, hj]
  exact ⟨hs, h⟩
theorem w_rfX {l : Nat} {s' : St} {L : LoopRec} {x : Ex} (hl : s' l = some (.loop L)) (hs : L.state ≠ .busy) (hj : L.jump = some x) (h : Q x e (s'.set l .dead)) : rfQ l e Q s' := by
  unfold rfQ
  simp only [hl, hj]
  exact ⟨hs, h⟩

def yieldQ (l : Nat) (Q : V → St → Prop) : Post := fun x _ s => match s l with
  | some (.loop L2) => match x with
    | .normal => Q (.bool true) (s.set l (.loop { L2 with state := .ready, jump := none }))
    | x => Q (.bool false) (s.set l (.loop { L2 with state := .done, jump := some x }))
  | _ => False
def assignQ (P : PProg) (l : Nat) (body : Stm) (Q : V → St → Prop) : Post := fun x e s => x = .normal ∧ match s l with
  | some (.loop L1) => L1.state = .ready ∧ wpS (Call P) body (yieldQ l Q) e (s.set l (.loop { L1 with state := .busy }))
  | _ => False
theorem Call.yields {l : Nat} {args : List V} {s : St} {Q : V → St → Prop} {L : LoopRec} (hl : s l = some (.loop L)) (hst : L.state = .ready) (hlen : L.ps.length = args.length)
    (h : wpS (Call P) L.assign (assignQ P l L.body Q) ((L.env.clear L.own).bind L.ps args) s) : Call P (.yield l) args s Q := by
  refine Call.intro ?_
  simp only [bodyC, hl]
  exact ⟨hst, hlen, h⟩
theorem w_assign {l : Nat} {body : Stm} {Q : V → St → Prop} {L1 : LoopRec} (hl : s l = some (.loop L1)) (hs : L1.state = .ready) (h : wpS (Call P) body (yieldQ l Q) e (s.set l (.loop { L1 with state := .busy }))) : assignQ P l body Q .normal e s := by
  unfold assignQ
  simp only [hl]
  exact ⟨trivial, hs, h⟩
theorem w_yieldN {l : Nat} {Q : V → St → Prop} {L2 : LoopRec} (hl : s l = some (.loop L2)) (h : Q (.bool true) (s.set l (.loop { L2 with state := .ready, jump := none }))) : yieldQ l Q .normal e s := by
  unfold yieldQ
  simp only [hl]
  exact h
theorem w_yieldX {l : Nat} {Q : V → St → Prop} {L2 : LoopRec} {x : Ex} (hx : x ≠ .normal) (hl : s l = some (.loop L2)) (h : Q (.bool false) (s.set l (.loop { L2 with state := .done, jump := some x }))) : yieldQ l Q x e s := by
  unfold yieldQ
  simp only [hl]
  cases x with
  | normal => exact absurd rfl hx
  | exit id => exact h
  | ret => exact h
theorem Call.out' {f : V} {args : List V} {s : St} {Q : V → St → Prop} (h : Call P f args s Q) : bodyC P (Call P) f args s Q :=
  h (fun f args s Q => bodyC P (Call P) f args s Q) (fun f a s Q Q' h hq => bodyC_mono Call.mono (fun _ _ _ _ h => h) hq h)
    fun f a s Q h => bodyC_mono Call.mono (fun _ _ _ _ h => Call.intro h) (fun _ _ h => h) h
theorem Call.first {k : Nat} {fs caps args : List V} {s : St} {Q : V → St → Prop} (h : Call P (.fn k [] caps) (fs ++ args) s Q) : Call P (.fn k fs caps) args s Q := by
  have := Call.out' h
  refine Call.intro ?_
  simpa [bodyC] using this
theorem same_of_le {s0 s : St} (h : s0 ≤ s) : ∀ l, s0 l ≠ none → s l = s0 l := fun l hl => by
  cases ho : s0 l with
  | none => exact absurd ho hl
  | some o => exact h l o ho
theorem loop_reset {L : LoopRec} (h1 : L.state = .ready) (h2 : L.jump = none) : { ({ L with state := .busy } : LoopRec) with state := .ready, jump := none } = L := by
  cases L
  simp only at h1 h2
  subst h1 h2
  rfl
theorem resVs_heap {e : Env} {s : St} {t : Nat} {sh : Sh} {rs : List Res} {l o : Nat} {cs : List V} {v : V} (he : e t = .ptr l o) (hs : s l = some (.cells cs)) (hv : takeAt sh cs o = some v) : resVs e s (.heap t sh :: rs) = resT v (resVs e s rs) := by
  simp only [resVs, resV, he, hs, hv, resT]
  cases resVs e s rs <;> rfl
/-- What a sequence's receiver promises: it goes on, or it ends. -/
def Takes (P : PProg) (y : V) (v : V) (J J' E : St → Prop) : Prop := ∀ s, J s → Call P y [v] s fun r s' => (r = .bool true ∧ J' s') ∨ (r = .bool false ∧ E s')
theorem clear_apply {e : Env} {own : List Nat} {t : Nat} : (e.clear own) t = if own.contains t then .undef else e t := rfl
theorem bind_one {e : Env} {p : Nat} {v : V} : e.bind [p] [v] = e.set p v := rfl
theorem bind_nil {e : Env} {vs : List V} : e.bind [] vs = e := by cases vs <;> rfl
end
attribute [go_sem] clear_apply bind_one
attribute [irreducible] rfQ yieldQ assignQ
end Go.Hu

namespace Go.Hu

def intsV (l : List Int) : List V := l.map V.int
theorem intsV_length (l : List Int) : (intsV l).length = l.length := by simp [intsV]
theorem intsV_at {a b : List Int} {x : Int} : (intsV (a ++ x :: b))[((a.length : Int)).toNat]? = some (.int x) := by simp [intsV]
theorem eraseL_ints : ∀ l : List Int, eraseL (intsV l) = intsV l
  | [] => by simp [intsV, eraseL]
  | n :: l => by
    have := eraseL_ints l
    simp only [intsV, List.map_cons, eraseL_cons, erase_int] at this ⊢
    rw [this]
theorem hd_ints (l : List Int) : hd (intsV l) 1 = true := by cases l <;> rfl
theorem row_ints (l : List Int) : (intsV l).all V.row = true := by
  rw [List.all_eq_true]
  intro x hx
  obtain ⟨n, _, rfl⟩ := List.mem_map.1 hx
  rfl
theorem intsV_append (a b : List Int) : intsV (a ++ b) = intsV a ++ intsV b := by simp [intsV]
theorem intsV_drop (a : List Int) (k : Nat) : (intsV a).drop k = intsV (a.drop k) := by simp [intsV, List.map_drop]
theorem intsV_take (a : List Int) (k : Nat) : (intsV a).take k = intsV (a.take k) := by simp [intsV, List.map_take]
attribute [go_sem] eraseL_ints hd_ints row_ints
/-- Both ends of some numbers. -/
def EndsL (l : List Int) (lo hi : Int) : Prop := (lo ∈ l ∧ hi ∈ l) ∧ ∀ n ∈ l, lo ≤ n ∧ n ≤ hi
def minL (a : Int) (l : List Int) : Int := l.foldl (fun m n => if n < m then n else m) a
def maxL (a : Int) (l : List Int) : Int := l.foldl (fun m n => if n > m then n else m) a
theorem minL_snoc {a x : Int} {l : List Int} : minL a (l ++ [x]) = if x < minL a l then x else minL a l := by unfold minL; rw [List.foldl_append]; rfl
theorem maxL_snoc {a x : Int} {l : List Int} : maxL a (l ++ [x]) = if x > maxL a l then x else maxL a l := by unfold maxL; rw [List.foldl_append]; rfl
theorem minL_ok : ∀ (l : List Int) (a : Int), minL a l ∈ a :: l ∧ ∀ n ∈ a :: l, minL a l ≤ n
  | [], a => by simp [minL]
  | x :: l, a => by
    obtain ⟨h1, h2⟩ := minL_ok l (if x < a then x else a)
    have e : minL a (x :: l) = minL (if x < a then x else a) l := rfl
    rw [e]
    constructor
    · rcases List.mem_cons.1 h1 with h | h
      · rw [h]; split <;> simp
      · simp [h]
    · intro n hn
      have h3 := h2 _ (List.mem_cons_self ..)
      generalize minL (if x < a then x else a) l = m at *
      rcases List.mem_cons.1 hn with rfl | hn
      · split at h3 <;> omega
      · rcases List.mem_cons.1 hn with rfl | hn
        · split at h3 <;> omega
        · exact h2 n (by simp [hn])
theorem maxL_ok : ∀ (l : List Int) (a : Int), maxL a l ∈ a :: l ∧ ∀ n ∈ a :: l, n ≤ maxL a l
  | [], a => by simp [maxL]
  | x :: l, a => by
    obtain ⟨h1, h2⟩ := maxL_ok l (if x > a then x else a)
    have e : maxL a (x :: l) = maxL (if x > a then x else a) l := rfl
    rw [e]
    constructor
    · rcases List.mem_cons.1 h1 with h | h
      · rw [h]; split <;> simp
      · simp [h]
    · intro n hn
      have h3 := h2 _ (List.mem_cons_self ..)
      generalize maxL (if x > a then x else a) l = m at *
      rcases List.mem_cons.1 hn with rfl | hn
      · split at h3 <;> omega
      · rcases List.mem_cons.1 hn with rfl | hn
        · split at h3 <;> omega
        · exact h2 n (by simp [hn])
theorem ends_minmax (a : Int) (l : List Int) : EndsL (a :: l) (minL a l) (maxL a l) := ⟨⟨(minL_ok l a).1, (maxL_ok l a).1⟩, fun n hn => ⟨(minL_ok l a).2 n hn, (maxL_ok l a).2 n hn⟩⟩
end Go.Hu

set_option linter.unusedVariables false
namespace Go.Hu
section
variable {C : CP} {e : Env} {s : St} {K : Env → St → Prop}

/-- A right to extend a list of such a length. -/
def Room (s : St) (c : Cap) (n : Nat) : Prop := c = .exact ∨ ∃ t, c = .tok t ∧ s t = some (.tok n)
/-- What a list's growth leaves as it was. -/
structure Grown (s s' : St) (c c' : Cap) (n : Nat) : Prop where
  room : ∃ t, c' = .tok t ∧ s t = none ∧ s' t = some (.tok n)
  keep : ∀ l o, s l = some o → (∀ t, c = .tok t → l ≠ t) → s' l = some o
  dom : ∀ l, s l ≠ none → s' l ≠ none
theorem Grown.live {s s' : St} {c c' : Cap} {n m : Nat} (h : Grown s s' c c' n) (hr : Room s c m) {l : Nat} {o : PObj} (hl : s l = some o) (ho : ∀ n, o ≠ .tok n) : s' l = some o := by
  refine h.keep l o hl fun t hc => ?_
  rintro rfl
  rcases hr with hr | ⟨t', hr, ht⟩
  · rw [hr] at hc; cases hc
  · rw [hr] at hc
    cases hc
    rw [hl] at ht
    exact ho _ (Option.some.inj ht)
theorem w_append1 {d sz : Nat} {zero : V} {a x : Opd} {is : List Ins} {xs : List V} {y : V} {c c2 : Cap} (hz : zero.cells.length = sz) (hs : ev e a = .lst xs c) (hx : ev e x = .lst [y] c2) (hlen : xs.length + 1 ≤ maxLst) (hh : hd xs sz = true)
    (hy : y.cells.length = sz) (hr : y.row = true) (hc : Room s c xs.length) (h : ∀ c' s', Grown s s' c c' (xs.length + 1) → wpIs C is (e.set d (.lst (xs ++ [y]) c')) s' K) : wpR C (e, ⟨.append d sz zero false a x, none⟩ :: is) s K := by
  refine w_op ?_
  have h1 : hd [y] sz = true := by simp [hd, hy]
  have h2 : [y].all V.row = true := by simp [hr]
  have e1 : ([y] : List V).length = 1 := rfl
  have e2 : (xs ++ [y]).length = xs.length + 1 := by simp
  simp only [wpO, hs, hx, e1]
  refine ⟨hz, hlen, hh, h1, h2, ?_⟩
  rw [if_neg (by simp)]
  rcases hc with rfl | ⟨t, rfl, ht⟩
  · simp only [Bool.false_eq_true, if_false]
    intro l hl
    rw [e2]
    refine h (.tok l) _ ⟨⟨l, rfl, hl, St.set_get⟩, fun l' o ho _ => ?_, fun l' hl' => ?_⟩
    · rw [St.get_other (by rintro rfl; rw [hl] at ho; cases ho)]; exact ho
    · rw [St.get_other (by rintro rfl; exact hl' hl)]; exact hl'
  · simp only [ht]
    refine ⟨trivial, fun l hl => ?_⟩
    rw [e2]
    have hlt : t ≠ l := by rintro rfl; rw [hl] at ht; cases ht
    refine h (.tok l) _ ⟨⟨l, rfl, hl, St.set_get⟩, fun l' o ho hn => ?_, fun l' hl' => ?_⟩
    · rw [St.get_other (by rintro rfl; rw [hl] at ho; cases ho), St.get_other (hn t rfl)]; exact ho
    · rw [St.get_other (by rintro rfl; exact hl' hl)]
      by_cases e3 : l' = t
      · subst e3; rw [St.set_get]; simp
      · rw [St.get_other e3]; exact hl'
end
/-- Different elements of a list are no more than it has. -/
theorem nodup_le {α : Type} [DecidableEq α] : ∀ {l m : List α}, l.Nodup → (∀ x ∈ l, x ∈ m) → l.length ≤ m.length
  | [], m, _, _ => by simp
  | x :: l, m, hn, hs => by
    have hn' := List.nodup_cons.1 hn
    have h1 := nodup_le (l := l) (m := m.erase x) hn'.2 fun y hy => by
      have hne : y ≠ x := by rintro rfl; exact hn'.1 hy
      exact (List.mem_erase_of_ne hne).2 (hs y (by simp [hy]))
    have h2 := List.length_erase_of_mem (hs x (by simp))
    have h3 : 0 < m.length := List.length_pos_of_mem (hs x (by simp))
    simp only [List.length_cons]
    omega
end Go.Hu

set_option linter.unusedVariables false
namespace Go.Hu
section
variable {C : CP} {e : Env} {s : St} {K : Env → St → Prop}
theorem putAt_ok {cs vs : List V} {o : Nat} (h : o + vs.length ≤ cs.length) : putAt cs o vs = some (cs.take o ++ vs ++ cs.drop (o + vs.length)) := by
  unfold putAt
  rw [if_pos h]
/-- Elements of a list are copied over others. -/
theorem w_copyL {d sz : Nat} {x y : Opd} {is : List Ins} {l o n c : Nat} {ys : List V} {cy : Cap} {cs news : List V} (hx : ev e x = .sli l o n c) (hy : ev e y = .lst ys cy) (hl : s l = some (.cells cs)) (hh : (hd ys sz && ys.all V.row) = true)
    (hn : (ys.flatMap V.cells).take (min ys.length n * sz) = news) (hb : o + news.length ≤ cs.length) (h : wpIs C is (e.set d (.int (min ys.length n : Nat))) (s.set l (.cells (cs.take o ++ news ++ cs.drop (o + news.length)))) K) : wpR C (e, ⟨.copy d sz x y, none⟩ :: is) s K := by
  refine w_op ?_
  simp only [wpO, hx, hy, srcOf, hh, if_true, hl, hn, putAt_ok hb]
  exact h
/-- Elements of a slice that may be written are copied over others. -/
theorem w_copyM {d sz : Nat} {x y : Opd} {is : List Ins} {l o n c l2 o2 n2 c2 : Nat} {cs cs2 news : List V} (hx : ev e x = .sli l o n c) (hy : ev e y = .sli l2 o2 n2 c2) (hl : s l = some (.cells cs)) (hl2 : s l2 = some (.cells cs2)) (hle : o2 + n2 * sz ≤ cs2.length)
    (hn : ((cs2.drop o2).take (n2 * sz)).take (min n2 n * sz) = news) (hb : o + news.length ≤ cs.length) (h : wpIs C is (e.set d (.int (min n2 n : Nat))) (s.set l (.cells (cs.take o ++ news ++ cs.drop (o + news.length)))) K) : wpR C (e, ⟨.copy d sz x y, none⟩ :: is) s K := by
  refine w_op ?_
  simp only [wpO, hx, hy, srcOf, hl2, hle, if_true, hl, hn, putAt_ok hb]
  exact h
/-- Zeros are appended where there is no room. -/
theorem w_appendZnew {d sz : Nat} {zero : V} {a x : Opd} {is : List Ins} {l o n c k : Nat} {cs : List V} (hz : zero.cells.length = sz) (ha : ev e a = .sli l o n c) (hx : ev e x = .int (k : Nat)) (hl : s l = some (.cells cs)) (hm : n + k ≤ maxLst) (hb : o + n * sz ≤ cs.length) (hc : c < n + k)
    (h : ∀ l' c', s l' = none → n + k ≤ c' → wpIs C is (e.set d (.sli l' 0 (n + k) c')) (s.set l' (.cells ((cs.drop o).take (n * sz) ++ zeros zero k ++ zeros zero (c' - (n + k))))) K) : wpR C (e, ⟨.appendZ d sz zero a x, none⟩ :: is) s K := by
  refine w_op ?_
  simp only [wpO, ha, hx, hl, Int.toNat_natCast]
  refine ⟨hz, by omega, hm, hb, ?_⟩
  rw [if_neg (by omega)]
  exact h
/-- A new slice that may be written. -/
theorem w_mkslice {d sz : Nat} {zero : V} {a b : Opd} {is : List Ins} {n : Nat} (ha : ev e a = .int (n : Nat)) (hb : ev e b = .int (n : Nat)) (hm : n ≤ maxLst) (hz : zero.cells.length = sz) (h : ∀ l, s l = none → wpIs C is (e.set d (.sli l 0 n n)) (s.set l (.cells (zeros zero n))) K) : wpR C (e, ⟨.mkslice d zero sz a b, none⟩ :: is) s K := by
  refine w_op ?_
  simp only [wpO, ha, hb, Int.toNat_natCast]
  exact ⟨by omega, by omega, by omega, hz, h⟩
theorem w_loadr {d : Nat} {sh : Sh} {x : Opd} {is : List Ins} {cs : List V} {o : Nat} {v : V} (hx : ev e x = .rptr cs o) (hv : takeAt sh cs o = some v) (h : wpIs C is (e.set d v) s K) : wpR C (e, ⟨.load d sh x, none⟩ :: is) s K := by
  refine w_op ?_
  simp only [wpO, hx, hv]
  exact h
theorem w_loadp {d : Nat} {x : Opd} {is : List Ins} {l o : Nat} {cs : List V} {v : V} (hx : ev e x = .ptr l o) (hl : s l = some (.cells cs)) (hv : cs[o]? = some v) (h : wpIs C is (e.set d v) s K) : wpR C (e, ⟨.load d none x, none⟩ :: is) s K := by
  refine w_op ?_
  have : takeAt none cs o = some v := hv
  simp only [wpO, hx, hl, this]
  exact h
theorem w_storep {x y : Opd} {is : List Ins} {l o : Nat} {cs : List V} {v : V} (hx : ev e x = .ptr l o) (hy : ev e y = v) (hv : v.fits none = true) (hc : v.cells = [v]) (hl : s l = some (.cells cs)) (ho : o < cs.length) (h : wpIs C is e (s.set l (.cells (cs.set o v))) K) : wpR C (e, ⟨.store none x y, none⟩ :: is) s K := by
  refine w_op ?_
  have : putAt cs o [v] = some (cs.set o v) := by
    rw [putAt_ok (by simp only [List.length_singleton]; omega)]
    congr 1
    rw [List.set_eq_take_append_cons_drop, if_pos ho]
    simp
  simp only [wpO, hx, hy, hl, hc, this]
  exact ⟨hv, h⟩
end
end Go.Hu
