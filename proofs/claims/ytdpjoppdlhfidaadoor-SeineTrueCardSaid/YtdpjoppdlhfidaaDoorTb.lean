/-
  What the functions compute, by walks through their pure code, and plain laws of it.
-/
import Derived.Test.YtdpjoppdlhfidaaDoorTa
import Derived.Test.YtdpjoppdlhfidaaDoorWa
set_option linter.unusedSimpArgs false
set_option linter.unusedVariables false
namespace Go.Hu.Sn
attribute [local irreducible] wpS wpIs wpI
attribute [local go_sem] Nat.mul_one Nat.one_mul Nat.zero_add Nat.add_zero Nat.zero_mul and_self and_true true_and decide_true decide_false Bool.false_eq_true if_true if_false Int.cast_ofNat_Int Int.zero_le_ofNat Int.le_refl Int.reduceLT Int.reduceLE Int.reduceToNat

variable {s : St} {Q : V → St → Prop}

def zeroS : V := .agg [.int 0, .int 0, .lst [] .exact, .int 0, .int 0, .int 0, .int 0, .int 0]
def zeroS' : V := .agg [.int 0, .int 0, .lst [] .any, .int 0, .int 0, .int 0, .int 0, .int 0]
open Classical in
/-- The error of a question. -/
noncomputable def askE (b : Book) (is : Prop) : Int := if ¬ ok b then 30 else if ¬ is then 31 else if ¬ can b then 32 else 0
theorem ok.len {b : Book} (h : ok b) : b.notes.length ≤ 100 := by have := h.2.1; omega
theorem ok.kinds {b : Book} (h : ok b) : ∀ n ∈ b.notes, 0 ≤ n.kind ∧ n.kind ≤ 4 := fun n hn => (okNotes_kind h.2.2 n hn).1

open Classical in
theorem c116 (b : Book) (is : Bool) (hlen : (b.notes.length : Int) < 9223372036854775808) (hq : ∀ v s', (v = zeroS' ∨ v = openV b) → (askE b (is = true) = 0 → v = openV b) → s ≤ s' → Q (.tup [v, .int (askE b (is = true))]) s') : Call prog (.fn 116 [] []) [bookV b, .bool is] s Q := by
  refine Call.fn F116 p116 rfl ?_
  simp only [F116, bookV]
  by_cases h1 : ok b
  · cases is with
    | false =>
      have he : askE b (false = true) = 31 := by simp [askE, h1]
      rw [he] at hq
      repeat first|refine Wr ?_|refine Wb ?_|refine Wc ?_|refine Wd ?_|refine We ?_|refine Wf ?_|refine Wg ?_|refine Wh ?_|refine Wi ?_|refine Wj (by decide) ?_|refine Wa ?_|refine Wk ?_|refine Wl ?_|refine Wm ?_|refine Wn ?_|refine Wo ?_|refine Wp ?_|refine Wq ?_|refine Ww (by simp only[go_sem,h1];done) ?_|((first|refine Ws ?_|refine Wt ?_|refine Wu ?_|refine Wv (by simp only[go_sem,h1];done) ?_);conv=>arg 2;simp only[go_sem,h1])|(refine Wx (by simp only[go_sem,h1];rfl) (by simp only[go_sem,h1];rfl) ?_;refine c29 b hlen ?_)
      first|refine w_retQ ?_|refine w_endQ ?_
      conv=>arg 1;simp only[go_sem]
      exact w_res (by simp only [go_sem, zeroS']) (hq zeroS' s (.inl rfl) (by simp) (St.le_refl s))
    | true =>
      by_cases h2 : can b
      · have he : askE b (true = true) = 0 := by simp [askE, h1, h2]
        rw [he] at hq
        repeat first|refine Wr ?_|refine Wb ?_|refine Wc ?_|refine Wd ?_|refine We ?_|refine Wf ?_|refine Wg ?_|refine Wh ?_|refine Wi ?_|refine Wj (by decide) ?_|refine Wa ?_|refine Wk ?_|refine Wl ?_|refine Wm ?_|refine Wn ?_|refine Wo ?_|refine Wp ?_|refine Wq ?_|refine Ww (by simp only[go_sem,h1,h2];done) ?_|((first|refine Ws ?_|refine Wt ?_|refine Wu ?_|refine Wv (by simp only[go_sem,h1,h2];done) ?_);conv=>arg 2;simp only[go_sem,h1,h2])|(refine Wx (by simp only[go_sem,h1,h2];rfl) (by simp only[go_sem,h1,h2];rfl) ?_;first|refine c29 b hlen ?_|refine c110 b h1.len h1.kinds ?_|refine c111 b h1.ok' fun s1 g1 => ?_)
        first|refine w_retQ ?_|refine w_endQ ?_
        conv=>arg 1;simp only[go_sem]
        exact w_res (by simp only [go_sem]) (hq (openV b) s1 (.inr rfl) (fun _ => rfl) g1)
      · have he : askE b (true = true) = 32 := by simp [askE, h1, h2]
        rw [he] at hq
        repeat first|refine Wr ?_|refine Wb ?_|refine Wc ?_|refine Wd ?_|refine We ?_|refine Wf ?_|refine Wg ?_|refine Wh ?_|refine Wi ?_|refine Wj (by decide) ?_|refine Wa ?_|refine Wk ?_|refine Wl ?_|refine Wm ?_|refine Wn ?_|refine Wo ?_|refine Wp ?_|refine Wq ?_|refine Ww (by simp only[go_sem,h1,h2];done) ?_|((first|refine Ws ?_|refine Wt ?_|refine Wu ?_|refine Wv (by simp only[go_sem,h1,h2];done) ?_);conv=>arg 2;simp only[go_sem,h1,h2])|(refine Wx (by simp only[go_sem,h1,h2];rfl) (by simp only[go_sem,h1,h2];rfl) ?_;first|refine c29 b hlen ?_|refine c110 b h1.len h1.kinds ?_|refine c111 b h1.ok' fun s1 g1 => ?_)
        first|refine w_retQ ?_|refine w_endQ ?_
        conv=>arg 1;simp only[go_sem]
        exact w_res (by simp only [go_sem]) (hq (openV b) s1 (.inr rfl) (fun _ => rfl) g1)
  · have he : askE b (is = true) = 30 := by simp [askE, h1]
    rw [he] at hq
    repeat first|refine Wr ?_|refine Wb ?_|refine Wc ?_|refine Wd ?_|refine We ?_|refine Wf ?_|refine Wg ?_|refine Wh ?_|refine Wi ?_|refine Wj (by decide) ?_|refine Wa ?_|refine Wk ?_|refine Wl ?_|refine Wm ?_|refine Wn ?_|refine Wo ?_|refine Wp ?_|refine Wq ?_|refine Ww (by simp only[go_sem,h1];done) ?_|((first|refine Ws ?_|refine Wt ?_|refine Wu ?_|refine Wv (by simp only[go_sem,h1];done) ?_);conv=>arg 2;simp only[go_sem,h1])|(refine Wx (by simp only[go_sem,h1];rfl) (by simp only[go_sem,h1];rfl) ?_;refine c29 b hlen ?_)
    first|refine w_retQ ?_|refine w_endQ ?_
    conv=>arg 1;simp only[go_sem]
    exact w_res (by simp only [go_sem, zeroS']) (hq zeroS' s (.inl rfl) (by simp) (St.le_refl s))

open Classical in
theorem c27 (b : Book) (hlen : (b.notes.length : Int) < 9223372036854775808) (hq : ∀ s', s ≤ s' → Q (.tup [.bool (decide (ok b ∧ can b)), .int (if ok b then 0 else 30)]) s') : Call prog (.fn 27 [] []) [bookV b] s Q := by
  refine Call.fn F27 p27 rfl ?_
  simp only [F27, bookV]
  by_cases h1 : ok b
  · repeat first|refine Wr ?_|refine Wb ?_|refine Wc ?_|refine Wd ?_|refine We ?_|refine Wf ?_|refine Wg ?_|refine Wh ?_|refine Wi ?_|refine Wj (by decide) ?_|refine Wa ?_|refine Wk ?_|refine Wl ?_|refine Wm ?_|refine Wn ?_|refine Wo ?_|refine Wp ?_|refine Wq ?_|refine Ww (by simp only[go_sem,h1];done) ?_|((first|refine Ws ?_|refine Wt ?_|refine Wu ?_|refine Wv (by simp only[go_sem,h1];done) ?_);conv=>arg 2;simp only[go_sem,h1])|(refine Wx (by simp only[go_sem,h1];rfl) (by simp only[go_sem,h1];rfl) ?_;first|refine c29 b hlen ?_|refine c110 b h1.len h1.kinds ?_|refine c111 b h1.ok' fun s1 g1 => ?_)
    first|refine w_retQ ?_|refine w_endQ ?_
    conv=>arg 1;simp only[go_sem]
    exact w_res (by simp only [go_sem, h1, true_and, if_true]) (hq s1 g1)
  · repeat first|refine Wr ?_|refine Wb ?_|refine Wc ?_|refine Wd ?_|refine We ?_|refine Wf ?_|refine Wg ?_|refine Wh ?_|refine Wi ?_|refine Wj (by decide) ?_|refine Wa ?_|refine Wk ?_|refine Wl ?_|refine Wm ?_|refine Wn ?_|refine Wo ?_|refine Wp ?_|refine Wq ?_|refine Ww (by simp only[go_sem,h1];done) ?_|((first|refine Ws ?_|refine Wt ?_|refine Wu ?_|refine Wv (by simp only[go_sem,h1];done) ?_);conv=>arg 2;simp only[go_sem,h1])|(refine Wx (by simp only[go_sem,h1];rfl) (by simp only[go_sem,h1];rfl) ?_;refine c29 b hlen ?_)
    first|refine w_retQ ?_|refine w_endQ ?_
    conv=>arg 1;simp only[go_sem]
    exact w_res (by simp only [go_sem, h1, false_and, decide_false, if_false]) (hq s (St.le_refl s))

/-- A span that answers a question: both ends, or nothing where there is an error. -/
def Answer (e : Int) (S : Int → Prop) (lo hi : Int) : Prop := if e = 0 then Ends S lo hi else lo = 0 ∧ hi = 0
theorem askE_zero {b : Book} {is : Prop} : askE b is = 0 ↔ ok b ∧ is ∧ can b := by
  unfold askE
  by_cases h1 : ok b <;> by_cases h2 : is <;> by_cases h3 : can b <;> simp [h1, h2, h3]
/-- Every truth passes each hour. -/
theorem atH_ne {b : Book} (hb : ok' b) (hc : can b) {h : Int} (hh : 0 ≤ h) : ∃ x, atH b h x := by
  obtain ⟨z, hz⟩ := hc
  obtain ⟨x, hx, hz⟩ := (run_split (h := h)).1 hz
  have hbl := before_later h b.notes
  have hok : okNotes 0 (before h b.notes) := by
    have := hb.2.2
    rw [← hbl] at this
    exact (okNotes_append.1 this).1
  have hbd := run_bd (begun_bd hb.1) (Int.le_refl 0) hok x hx
  refine ⟨pass x (h - hourOf 0 (before h b.notes)), ⟨x, hx, rfl⟩, ?_⟩
  by_cases hl : later h b.notes = []
  · rw [hl]; exact ⟨_, rfl⟩
  · exact ⟨z, (run_shift hbd.2.1 (hourOf_before hh before_all) (fun n r e => Int.le_of_lt (later_first e)) hl z).2 hz⟩

open Classical in
theorem c33 (b : Book) (h : Int) (hlen : (b.notes.length : Int) < 9223372036854775808) (hq : ∀ lo hi s', Answer (askE b (0 ≤ h ∧ h ≤ 60)) (fun n => ∃ x, atH b h x ∧ x.1 = n) lo hi → s ≤ s' → Q (.tup [.agg [.int lo, .int hi], .int (askE b (0 ≤ h ∧ h ≤ 60))]) s') : Call prog (.fn 33 [] []) [bookV b, .int h] s Q := by
  refine Call.fn F33 p33 rfl ?_
  simp only [F33]
  have hdec : askE b (decide (0 ≤ h ∧ h ≤ 60) = true) = askE b (0 ≤ h ∧ h ≤ 60) := by simp only [decide_eq_true_eq]
  simp only [bookV]
  by_cases he : askE b (0 ≤ h ∧ h ≤ 60) = 0
  · obtain ⟨k1, k2, k3⟩ := askE_zero.1 he
    repeat first|refine Wr ?_|refine Wb ?_|refine Wc ?_|refine Wd ?_|refine We ?_|refine Wf ?_|refine Wg ?_|refine Wh ?_|refine Wi ?_|refine Wj (by decide) ?_|refine Wa ?_|refine Wk ?_|refine Wl ?_|refine Wm ?_|refine Wn ?_|refine Wo ?_|refine Wp ?_|refine Wq ?_|refine Ww (by simp only[go_sem];done) ?_|((first|refine Ws ?_|refine Wt ?_|refine Wu ?_|refine Wv (by simp only[go_sem];done) ?_);conv=>arg 2;simp only[go_sem])|(refine Wx (by simp only[go_sem];rfl) (by simp only[go_sem];rfl) ?_;refine c117 h ?_)
    refine w_call (by simp only [go_sem]; rfl) (by simp only [go_sem]; rfl) ?_
    refine c116 b _ hlen fun v s1 g1 g2 g3 => ?_
    rw [hdec] at g2 ⊢
    obtain rfl := g2 he
    rw [he] at hq ⊢
    repeat first|refine Wr ?_|refine Wb ?_|refine Wc ?_|refine Wd ?_|refine We ?_|refine Wf ?_|refine Wg ?_|refine Wh ?_|refine Wi ?_|refine Wj (by decide) ?_|refine Wa ?_|refine Wk ?_|refine Wl ?_|refine Wm ?_|refine Wn ?_|refine Wo ?_|refine Wp ?_|refine Wq ?_|refine Ww (by simp only[go_sem];done) ?_|((first|refine Ws ?_|refine Wt ?_|refine Wu ?_|refine Wv (by simp only[go_sem];done) ?_);conv=>arg 2;simp only[go_sem])|(refine Wx (by simp only[go_sem];rfl) (by simp only[go_sem];rfl) ?_;first|refine c123 ?_|refine c122 b k1 h k2 Prod.fst 205 (fun x hx => c205 x hx) (atH_ne k1.ok' k3 k2.1) fun lo hi s2 g4 g5 => ?_)
    first|refine w_retQ ?_|refine w_endQ ?_
    conv=>arg 1;simp only[go_sem]
    exact w_res (by simp only [go_sem]) (hq lo hi s2 (by simpa [Answer] using g4) (St.le_trans g3 g5))
  · repeat first|refine Wr ?_|refine Wb ?_|refine Wc ?_|refine Wd ?_|refine We ?_|refine Wf ?_|refine Wg ?_|refine Wh ?_|refine Wi ?_|refine Wj (by decide) ?_|refine Wa ?_|refine Wk ?_|refine Wl ?_|refine Wm ?_|refine Wn ?_|refine Wo ?_|refine Wp ?_|refine Wq ?_|refine Ww (by simp only[go_sem];done) ?_|((first|refine Ws ?_|refine Wt ?_|refine Wu ?_|refine Wv (by simp only[go_sem];done) ?_);conv=>arg 2;simp only[go_sem])|(refine Wx (by simp only[go_sem];rfl) (by simp only[go_sem];rfl) ?_;refine c117 h ?_)
    refine w_call (by simp only [go_sem]; rfl) (by simp only [go_sem]; rfl) ?_
    refine c116 b _ hlen fun v s1 g1 g2 g3 => ?_
    rw [hdec]
    have he' : (askE b (0 ≤ h ∧ h ≤ 60) == 0) = false := by simpa using he
    rcases g1 with rfl | rfl
    · simp only [zeroS']
      repeat first|refine Wr ?_|refine Wb ?_|refine Wc ?_|refine Wd ?_|refine We ?_|refine Wf ?_|refine Wg ?_|refine Wh ?_|refine Wi ?_|refine Wj (by decide) ?_|refine Wa ?_|refine Wk ?_|refine Wl ?_|refine Wm ?_|refine Wn ?_|refine Wo ?_|refine Wp ?_|refine Wq ?_|refine Ww (by simp only[go_sem,he'];done) ?_|((first|refine Ws ?_|refine Wt ?_|refine Wu ?_|refine Wv (by simp only[go_sem,he'];done) ?_);conv=>arg 2;simp only[go_sem,he'])
      first|refine w_retQ ?_|refine w_endQ ?_
      conv=>arg 1;simp only[go_sem]
      exact w_res (by simp only [go_sem]) (hq 0 0 s1 (by simp [Answer, he]) g3)
    · repeat first|refine Wr ?_|refine Wb ?_|refine Wc ?_|refine Wd ?_|refine We ?_|refine Wf ?_|refine Wg ?_|refine Wh ?_|refine Wi ?_|refine Wj (by decide) ?_|refine Wa ?_|refine Wk ?_|refine Wl ?_|refine Wm ?_|refine Wn ?_|refine Wo ?_|refine Wp ?_|refine Wq ?_|refine Ww (by simp only[go_sem,he'];done) ?_|((first|refine Ws ?_|refine Wt ?_|refine Wu ?_|refine Wv (by simp only[go_sem,he'];done) ?_);conv=>arg 2;simp only[go_sem,he'])
      first|refine w_retQ ?_|refine w_endQ ?_
      conv=>arg 1;simp only[go_sem]
      exact w_res (by simp only [go_sem]) (hq 0 0 s1 (by simp [Answer, he]) g3)
open Classical in
theorem c35 (b : Book) (h : Int) (hlen : (b.notes.length : Int) < 9223372036854775808) (hq : ∀ lo hi s', Answer (askE b (0 ≤ h ∧ h ≤ 60)) (fun n => ∃ x, atH b h x ∧ x.2 = n) lo hi → s ≤ s' → Q (.tup [.agg [.int lo, .int hi], .int (askE b (0 ≤ h ∧ h ≤ 60))]) s') : Call prog (.fn 35 [] []) [bookV b, .int h] s Q := by
  refine Call.fn F35 p35 rfl ?_
  simp only [F35]
  have hdec : askE b (decide (0 ≤ h ∧ h ≤ 60) = true) = askE b (0 ≤ h ∧ h ≤ 60) := by simp only [decide_eq_true_eq]
  simp only [bookV]
  by_cases he : askE b (0 ≤ h ∧ h ≤ 60) = 0
  · obtain ⟨k1, k2, k3⟩ := askE_zero.1 he
    repeat first|refine Wr ?_|refine Wb ?_|refine Wc ?_|refine Wd ?_|refine We ?_|refine Wf ?_|refine Wg ?_|refine Wh ?_|refine Wi ?_|refine Wj (by decide) ?_|refine Wa ?_|refine Wk ?_|refine Wl ?_|refine Wm ?_|refine Wn ?_|refine Wo ?_|refine Wp ?_|refine Wq ?_|refine Ww (by simp only[go_sem];done) ?_|((first|refine Ws ?_|refine Wt ?_|refine Wu ?_|refine Wv (by simp only[go_sem];done) ?_);conv=>arg 2;simp only[go_sem])|(refine Wx (by simp only[go_sem];rfl) (by simp only[go_sem];rfl) ?_;refine c117 h ?_)
    refine w_call (by simp only [go_sem]; rfl) (by simp only [go_sem]; rfl) ?_
    refine c116 b _ hlen fun v s1 g1 g2 g3 => ?_
    rw [hdec] at g2 ⊢
    obtain rfl := g2 he
    rw [he] at hq ⊢
    repeat first|refine Wr ?_|refine Wb ?_|refine Wc ?_|refine Wd ?_|refine We ?_|refine Wf ?_|refine Wg ?_|refine Wh ?_|refine Wi ?_|refine Wj (by decide) ?_|refine Wa ?_|refine Wk ?_|refine Wl ?_|refine Wm ?_|refine Wn ?_|refine Wo ?_|refine Wp ?_|refine Wq ?_|refine Ww (by simp only[go_sem];done) ?_|((first|refine Ws ?_|refine Wt ?_|refine Wu ?_|refine Wv (by simp only[go_sem];done) ?_);conv=>arg 2;simp only[go_sem])|(refine Wx (by simp only[go_sem];rfl) (by simp only[go_sem];rfl) ?_;first|refine c126 ?_|refine c122 b k1 h k2 Prod.snd 206 (fun x hx => c206 x hx) (atH_ne k1.ok' k3 k2.1) fun lo hi s2 g4 g5 => ?_)
    first|refine w_retQ ?_|refine w_endQ ?_
    conv=>arg 1;simp only[go_sem]
    exact w_res (by simp only [go_sem]) (hq lo hi s2 (by simpa [Answer] using g4) (St.le_trans g3 g5))
  · repeat first|refine Wr ?_|refine Wb ?_|refine Wc ?_|refine Wd ?_|refine We ?_|refine Wf ?_|refine Wg ?_|refine Wh ?_|refine Wi ?_|refine Wj (by decide) ?_|refine Wa ?_|refine Wk ?_|refine Wl ?_|refine Wm ?_|refine Wn ?_|refine Wo ?_|refine Wp ?_|refine Wq ?_|refine Ww (by simp only[go_sem];done) ?_|((first|refine Ws ?_|refine Wt ?_|refine Wu ?_|refine Wv (by simp only[go_sem];done) ?_);conv=>arg 2;simp only[go_sem])|(refine Wx (by simp only[go_sem];rfl) (by simp only[go_sem];rfl) ?_;refine c117 h ?_)
    refine w_call (by simp only [go_sem]; rfl) (by simp only [go_sem]; rfl) ?_
    refine c116 b _ hlen fun v s1 g1 g2 g3 => ?_
    rw [hdec]
    have he' : (askE b (0 ≤ h ∧ h ≤ 60) == 0) = false := by simpa using he
    rcases g1 with rfl | rfl
    · simp only [zeroS']
      repeat first|refine Wr ?_|refine Wb ?_|refine Wc ?_|refine Wd ?_|refine We ?_|refine Wf ?_|refine Wg ?_|refine Wh ?_|refine Wi ?_|refine Wj (by decide) ?_|refine Wa ?_|refine Wk ?_|refine Wl ?_|refine Wm ?_|refine Wn ?_|refine Wo ?_|refine Wp ?_|refine Wq ?_|refine Ww (by simp only[go_sem,he'];done) ?_|((first|refine Ws ?_|refine Wt ?_|refine Wu ?_|refine Wv (by simp only[go_sem,he'];done) ?_);conv=>arg 2;simp only[go_sem,he'])
      first|refine w_retQ ?_|refine w_endQ ?_
      conv=>arg 1;simp only[go_sem]
      exact w_res (by simp only [go_sem]) (hq 0 0 s1 (by simp [Answer, he]) g3)
    · repeat first|refine Wr ?_|refine Wb ?_|refine Wc ?_|refine Wd ?_|refine We ?_|refine Wf ?_|refine Wg ?_|refine Wh ?_|refine Wi ?_|refine Wj (by decide) ?_|refine Wa ?_|refine Wk ?_|refine Wl ?_|refine Wm ?_|refine Wn ?_|refine Wo ?_|refine Wp ?_|refine Wq ?_|refine Ww (by simp only[go_sem,he'];done) ?_|((first|refine Ws ?_|refine Wt ?_|refine Wu ?_|refine Wv (by simp only[go_sem,he'];done) ?_);conv=>arg 2;simp only[go_sem,he'])
      first|refine w_retQ ?_|refine w_endQ ?_
      conv=>arg 1;simp only[go_sem]
      exact w_res (by simp only [go_sem]) (hq 0 0 s1 (by simp [Answer, he]) g3)

/-- What the loop of 'Can' keeps. -/
def CanJ (s0 : St) (b6 b7 l : Nat) (L : LoopRec) (A : XS) (many : Int) (T : XS) (s : St) : Prop :=
  (∀ x, T x → A x ∧ x.1 ≠ many) ∧ s b6 = some (.cells [.bool false]) ∧ s b7 = some (.cells [.int 0]) ∧ s l = some (.loop L) ∧ s0 ≤ s
theorem set_set {s : St} {l : Nat} {o o' : PObj} : (s.set l o).set l o' = s.set l o' := by funext l'; simp only [St.set]; split <;> rfl

theorem dom_set {s : St} {l l' : Nat} {o : PObj} (h : s l' ≠ none) : (s.set l o) l' ≠ none := by
  simp only [St.set]
  split
  · simp
  · exact h

open Classical in
set_option maxHeartbeats 1000000 in
theorem c31 (b : Book) (h many : Int) (hlen : (b.notes.length : Int) < 9223372036854775808) (hq : ∀ s', s ≤ s' → Q (.tup [.bool (decide (askE b ((0 ≤ h ∧ h ≤ 60) ∧ 0 ≤ many ∧ many ≤ 400) = 0 ∧ ∃ x, atH b h x ∧ x.1 = many)), .int (askE b ((0 ≤ h ∧ h ≤ 60) ∧ 0 ≤ many ∧ many ≤ 400))]) s') :
    Call prog (.fn 31 [] []) [bookV b, .int h, .int many] s Q := by
  refine Call.fn F31 p31 rfl ?_
  simp only [F31, bookV]
  repeat first|refine Wr ?_|refine Wb ?_|refine Wc ?_|refine Wd ?_|refine We ?_|refine Wf ?_|refine Wg ?_|refine Wh ?_|refine Wi ?_|refine Wj (by decide) ?_|refine Wa ?_|refine Wk ?_|refine Wl ?_|refine Wm ?_|refine Wn ?_|refine Wo ?_|refine Wp ?_|refine Wq ?_|refine Ww (by simp only[go_sem];done) ?_|((first|refine Ws ?_|refine Wt ?_|refine Wu ?_|refine Wv (by simp only[go_sem];done) ?_);conv=>arg 2;simp only[go_sem])
  refine w_op ?_
  simp only [wpO, go_sem, true_and]
  intro b6 hb6
  repeat first|refine Wr ?_|refine Wb ?_|refine Wc ?_|refine Wd ?_|refine We ?_|refine Wf ?_|refine Wg ?_|refine Wh ?_|refine Wi ?_|refine Wj (by decide) ?_|refine Wa ?_|refine Wk ?_|refine Wl ?_|refine Wm ?_|refine Wn ?_|refine Wo ?_|refine Wp ?_|refine Wq ?_|refine Ww (by simp only[go_sem];done) ?_|((first|refine Ws ?_|refine Wt ?_|refine Wu ?_|refine Wv (by simp only[go_sem];done) ?_);conv=>arg 2;simp only[go_sem])
  refine w_op ?_
  simp only [wpO, go_sem, true_and]
  intro b7 hb7
  have hne : b6 ≠ b7 := by rintro rfl; rw [St.set_get] at hb7; cases hb7
  have hb70 : s b7 = none := by rw [St.get_other hne.symm] at hb7; exact hb7
  generalize hs1 : (s.set b6 (.cells [.bool false])).set b7 (.cells [.int 0]) = s1
  have a6 : s1 b6 = some (.cells [.bool false]) := by rw [← hs1, St.get_other hne]; exact St.set_get
  have a7 : s1 b7 = some (.cells [.int 0]) := by rw [← hs1]; exact St.set_get
  have a0 : s ≤ s1 := by rw [← hs1]; exact St.le_set (St.le_new hb6) hb70
  have hb60 : s b6 = none := hb6
  have fin : ∀ (e : Env) (s2 : St) (r : Bool) (v : Int), e 6 = .ptr b6 0 → e 7 = .ptr b7 0 → s2 b6 = some (.cells [.bool r]) → s2 b7 = some (.cells [.int v]) → s ≤ s2 → r = decide (askE b ((0 ≤ h ∧ h ≤ 60) ∧ 0 ≤ many ∧ many ≤ 400) = 0 ∧ ∃ x, atH b h x ∧ x.1 = many) → v = askE b ((0 ≤ h ∧ h ≤ 60) ∧ 0 ≤ many ∧ many ≤ 400) →
      retQ [.heap 6 none, .heap 7 none] Q .ret e s2 := by
    intro e s2 r v h6 h7 g6 g7 g0 hr hv
    subst hr hv
    refine w_retQ ?_
    rw [resVs_heap h6 g6 rfl, resVs_heap h7 g7 rfl]
    simp only [go_sem]
    exact w_res (by simp only [go_sem]) (hq s2 g0)
  -- the question
  have hask : ∀ is : Bool, (is = true ↔ (0 ≤ h ∧ h ≤ 60) ∧ 0 ≤ many ∧ many ≤ 400) → askE b (is = true) = askE b ((0 ≤ h ∧ h ≤ 60) ∧ 0 ≤ many ∧ many ≤ 400) := fun is hi => by simp only [hi]
  by_cases hh : 0 ≤ h ∧ h ≤ 60 <;> by_cases hm : 0 ≤ many ∧ many ≤ 400
  all_goals
    repeat first|refine Wr ?_|refine Wb ?_|refine Wc ?_|refine Wd ?_|refine We ?_|refine Wf ?_|refine Wg ?_|refine Wh ?_|refine Wi ?_|refine Wj (by decide) ?_|refine Wa ?_|refine Wk ?_|refine Wl ?_|refine Wm ?_|refine Wn ?_|refine Wo ?_|refine Wp ?_|refine Wq ?_|refine Ww (by simp only[go_sem,hh,hm];done) ?_|((first|refine Ws ?_|refine Wt ?_|refine Wu ?_|refine Wv (by simp only[go_sem,hh,hm];done) ?_);conv=>arg 2;simp only[go_sem,hh,hm])|(refine Wx (by simp only[go_sem,hh,hm];rfl) (by simp only[go_sem,hh,hm];rfl) ?_;first|refine c117 h ?_|refine c118 many 0 400 ?_)
    refine w_call (by simp only [go_sem]; rfl) (by simp only [go_sem]; rfl) ?_
    refine c116 b _ hlen fun v s2 g1 g2 g3 => ?_
    rw [hask _ (by simp [hh, hm])] at g2 ⊢
    have m6 := g3 _ _ a6
    have m7 := g3 _ _ a7
    have m0 := St.le_trans a0 g3
    by_cases he : askE b ((0 ≤ h ∧ h ≤ 60) ∧ 0 ≤ many ∧ many ≤ 400) = 0
    case neg =>
      have he' : (askE b ((0 ≤ h ∧ h ≤ 60) ∧ 0 ≤ many ∧ many ≤ 400) == 0) = false := by simpa using he
      have hend : ∀ (e : Env), e 6 = .ptr b6 0 → e 7 = .ptr b7 0 → retQ [.heap 6 none, .heap 7 none] Q .ret e ((s2.set b6 (.cells [.bool false])).set b7 (.cells [.int (askE b ((0 ≤ h ∧ h ≤ 60) ∧ 0 ≤ many ∧ many ≤ 400))])) := fun e h6 h7 => by
        refine fin e _ false _ h6 h7 (by rw [St.get_other hne]; exact St.set_get) St.set_get ?_ (by simp [he]) rfl
        exact St.le_set (St.le_set m0 hb60) hb70
      rcases g1 with rfl | rfl
      all_goals
        try simp only [zeroS']
        repeat first|refine Wr ?_|refine Wb ?_|refine Wc ?_|refine Wd ?_|refine We ?_|refine Wf ?_|refine Wg ?_|refine Wh ?_|refine Wi ?_|refine Wj (by decide) ?_|refine Wa ?_|refine Wk ?_|refine Wl ?_|refine Wm ?_|refine Wn ?_|refine Wo ?_|refine Wp ?_|refine Wq ?_|refine Ww (by simp only[go_sem,he'];done) ?_|((first|refine Ws ?_|refine Wt ?_|refine Wu ?_|refine Wv (by simp only[go_sem,he'];done) ?_);conv=>arg 2;simp only[go_sem,he'])
        refine w_op ?_
        simp only [wpO, go_sem, m6, Nat.le_refl, Nat.zero_add, if_true]
        repeat first|refine Wr ?_|refine Wb ?_|refine Wc ?_|refine Wd ?_|refine We ?_|refine Wf ?_|refine Wg ?_|refine Wh ?_|refine Wi ?_|refine Wj (by decide) ?_|refine Wa ?_|refine Wk ?_|refine Wl ?_|refine Wm ?_|refine Wn ?_|refine Wo ?_|refine Wp ?_|refine Wq ?_|refine Ww (by simp only[go_sem,he'];done) ?_|((first|refine Ws ?_|refine Wt ?_|refine Wu ?_|refine Wv (by simp only[go_sem,he'];done) ?_);conv=>arg 2;simp only[go_sem,he'])
        refine w_op ?_
        simp only [wpO, go_sem, m7, St.get_other hne.symm, Nat.le_refl, Nat.zero_add, if_true]
        repeat first|refine Wr ?_|refine Wb ?_|refine Wc ?_|refine Wd ?_|refine We ?_|refine Wf ?_|refine Wg ?_|refine Wh ?_|refine Wi ?_|refine Wj (by decide) ?_|refine Wa ?_|refine Wk ?_|refine Wl ?_|refine Wm ?_|refine Wn ?_|refine Wo ?_|refine Wp ?_|refine Wq ?_|refine Ww (by simp only[go_sem,he'];done) ?_|((first|refine Ws ?_|refine Wt ?_|refine Wu ?_|refine Wv (by simp only[go_sem,he'];done) ?_);conv=>arg 2;simp only[go_sem,he'])
        exact hend _ (by simp only [go_sem]) (by simp only [go_sem])
    case pos =>
      obtain ⟨k1, k2, k3⟩ := askE_zero.1 he
      obtain rfl := g2 he
      simp only [openV, seineV]
      simp only [he] at fin hq ⊢
      repeat first|refine Wr ?_|refine Wb ?_|refine Wc ?_|refine Wd ?_|refine We ?_|refine Wf ?_|refine Wg ?_|refine Wh ?_|refine Wi ?_|refine Wj (by decide) ?_|refine Wa ?_|refine Wk ?_|refine Wl ?_|refine Wm ?_|refine Wn ?_|refine Wo ?_|refine Wp ?_|refine Wq ?_|refine Ww (by simp only[go_sem,he];done) ?_|((first|refine Ws ?_|refine Wt ?_|refine Wu ?_|refine Wv (by simp only[go_sem,he];done) ?_);conv=>arg 2;simp only[go_sem,he])|(refine Wx (by simp only[go_sem,he];rfl) (by simp only[go_sem,he];rfl) ?_;refine c119 b h ?_)
      refine w_rfunc (by simp only [go_sem]; rfl) fun l hl => ?_
      have n6 : b6 ≠ l := by rintro rfl; rw [m6] at hl; cases hl
      have n7 : b7 ≠ l := by rintro rfl; rw [m7] at hl; cases hl
      have hl0 : s l = none := by
        cases ho : s l with
        | none => rfl
        | some o => rw [m0 _ _ ho] at hl; cases hl
      generalize hL : (LoopRec.mk _ _ _ _ _ _ _) = L
      generalize hs3 : s2.set l (.loop L) = s3
      have d1 : s3 l = some (.loop L) := by rw [← hs3]; exact St.set_get
      have d6 : s3 b6 = some (.cells [.bool false]) := by rw [← hs3, St.get_other n6]; exact m6
      have d7 : s3 b7 = some (.cells [.int 0]) := by rw [← hs3, St.get_other n7]; exact m7
      have d0 : s ≤ s3 := by rw [← hs3]; exact St.le_set m0 hl0
      refine c203 b k1 h k2.1 _ (by simp only [go_sem]) (CanJ s b6 b7 l L (atH b h) many) (fun s4 => s4 b6 = some (.cells [.bool true]) ∧ s4 b7 = some (.cells [.int 0]) ∧ s4 l = some (.loop { L with state := .done, jump := some .ret }) ∧ s ≤ s4 ∧ ∃ x, atH b h x ∧ x.1 = many) ⟨?_, ?_, ?_⟩ ?_ ?_
      · rintro T s4 s5 ⟨q1, q2, q3, q4, q5⟩ h2
        refine ⟨q1, by rw [h2.1 _ (by rw [d6]; simp)]; exact q2, by rw [h2.1 _ (by rw [d7]; simp)]; exact q3, by rw [h2.1 _ (by rw [d1]; simp)]; exact q4, fun l' o ho => ?_⟩
        rw [h2.1 _ (by rw [d0 _ _ ho]; simp)]
        exact q5 _ _ ho
      · rintro T T' s4 ⟨q1, q2⟩ h2
        exact ⟨fun x hx => q1 x ((h2 x).2 hx), q2⟩
      · rintro T s4 x ⟨q1, q2, q3, q4, q5⟩ hdom hA hT
        refine Call.yields q4 (by rw [← hL]) (by rw [← hL]; rfl) ?_
        rw [← hL]
        dsimp only
        simp only [xV]
        repeat first|refine Wr ?_|refine Wb ?_|refine Wc ?_|refine Wd ?_|refine We ?_|refine Wf ?_|refine Wg ?_|refine Wh ?_|refine Wi ?_|refine Wj (by decide) ?_|refine Wa ?_|refine Wk ?_|refine Wl ?_|refine Wm ?_|refine Wn ?_|refine Wo ?_|refine Wp ?_|refine Wq ?_|refine Ww (by simp only[go_sem,bind_one,clear_apply];done) ?_|((first|refine Ws ?_|refine Wt ?_|refine Wu ?_|refine Wv (by simp only[go_sem,bind_one,clear_apply];done) ?_);conv=>arg 2;simp only[go_sem,bind_one,clear_apply])
        refine w_assign q4 (by rw [← hL]) ?_
        by_cases hx : x.1 = many
        · repeat first|refine Wr ?_|refine Wb ?_|refine Wc ?_|refine Wd ?_|refine We ?_|refine Wf ?_|refine Wg ?_|refine Wh ?_|refine Wi ?_|refine Wj (by decide) ?_|refine Wa ?_|refine Wk ?_|refine Wl ?_|refine Wm ?_|refine Wn ?_|refine Wo ?_|refine Wp ?_|refine Wq ?_|refine Ww (by simp only[go_sem,bind_one,clear_apply,hx];done) ?_|((first|refine Ws ?_|refine Wt ?_|refine Wu ?_|refine Wv (by simp only[go_sem,bind_one,clear_apply,hx];done) ?_);conv=>arg 2;simp only[go_sem,bind_one,clear_apply,hx])
          refine w_op ?_
          simp only [wpO, go_sem, St.get_other n6, q2, Nat.le_refl, Nat.zero_add, if_true]
          repeat first|refine Wr ?_|refine Wb ?_|refine Wc ?_|refine Wd ?_|refine We ?_|refine Wf ?_|refine Wg ?_|refine Wh ?_|refine Wi ?_|refine Wj (by decide) ?_|refine Wa ?_|refine Wk ?_|refine Wl ?_|refine Wm ?_|refine Wn ?_|refine Wo ?_|refine Wp ?_|refine Wq ?_|refine Ww (by simp only[go_sem,bind_one,clear_apply,hx];done) ?_|((first|refine Ws ?_|refine Wt ?_|refine Wu ?_|refine Wv (by simp only[go_sem,bind_one,clear_apply,hx];done) ?_);conv=>arg 2;simp only[go_sem,bind_one,clear_apply,hx])
          refine w_op ?_
          simp only [wpO, go_sem, St.get_other n7, St.get_other hne.symm, q3, Nat.le_refl, Nat.zero_add, if_true]
          repeat first|refine Wr ?_|refine Wb ?_|refine Wc ?_|refine Wd ?_|refine We ?_|refine Wf ?_|refine Wg ?_|refine Wh ?_|refine Wi ?_|refine Wj (by decide) ?_|refine Wa ?_|refine Wk ?_|refine Wl ?_|refine Wm ?_|refine Wn ?_|refine Wo ?_|refine Wp ?_|refine Wq ?_|refine Ww (by simp only[go_sem,bind_one,clear_apply,hx];done) ?_|((first|refine Ws ?_|refine Wt ?_|refine Wu ?_|refine Wv (by simp only[go_sem,bind_one,clear_apply,hx];done) ?_);conv=>arg 2;simp only[go_sem,bind_one,clear_apply,hx])
          refine w_yieldX (L2 := { L with state := .busy }) (by simp) (by rw [St.get_other n7.symm, St.get_other n6.symm, St.set_get]) ?_
          refine ⟨⟨fun l' o h0 h1 ho => ?_, fun l' h1 => ?_⟩, .inr ⟨rfl, ?_, ?_, ?_, ?_, x, hA, hx⟩⟩
          · have z1 : l' ≠ l := by rintro rfl; rw [d1] at h0; cases h0
            have z6 : l' ≠ b6 := by rintro rfl; rw [d6] at h0; cases h0
            have z7 : l' ≠ b7 := by rintro rfl; rw [d7] at h0; cases h0
            rw [St.get_other z1, St.get_other z7, St.get_other z6, St.get_other z1]
            exact h1
          · exact dom_set (dom_set (dom_set (dom_set h1)))
          · rw [St.get_other n6, St.get_other hne, St.set_get]
          · rw [St.get_other n7, St.set_get]
          · rw [St.set_get, ← hL]
          · exact St.le_set (St.le_set (St.le_set (St.le_set q5 hl0) hb60) hb70) hl0
        · have hxf : (x.1 == many) = false := by simpa using hx
          repeat first|refine Wr ?_|refine Wb ?_|refine Wc ?_|refine Wd ?_|refine We ?_|refine Wf ?_|refine Wg ?_|refine Wh ?_|refine Wi ?_|refine Wj (by decide) ?_|refine Wa ?_|refine Wk ?_|refine Wl ?_|refine Wm ?_|refine Wn ?_|refine Wo ?_|refine Wp ?_|refine Wq ?_|refine Ww (by simp only[go_sem,bind_one,clear_apply,hxf];done) ?_|((first|refine Ws ?_|refine Wt ?_|refine Wu ?_|refine Wv (by simp only[go_sem,bind_one,clear_apply,hxf];done) ?_);conv=>arg 2;simp only[go_sem,bind_one,clear_apply,hxf])
          refine w_yieldN (L2 := { L with state := .busy }) (by rw [St.set_get]) ?_
          refine ⟨⟨fun l' o h0 h1 ho => ?_, fun l' h1 => ?_⟩, .inl ⟨rfl, ?_, ?_, ?_, ?_, ?_⟩⟩
          · have z1 : l' ≠ l := by rintro rfl; rw [d1] at h0; cases h0
            rw [St.get_other z1, St.get_other z1]
            exact h1
          · exact dom_set (dom_set h1)
          · rintro z (hz | rfl)
            · exact q1 z hz
            · exact ⟨hA, hx⟩
          · rw [St.get_other n6, St.get_other n6]; exact q2
          · rw [St.get_other n7, St.get_other n7]; exact q3
          · rw [St.set_get, ← hL]
          · exact St.le_set (St.le_set q5 hl0) hl0
      · exact ⟨by simp, d6, d7, d1, d0⟩
      · rintro v s4 (⟨T, q1, q2, q3, q4, q5, q6⟩ | ⟨q1, q2, q3, q4, q5⟩)
        · refine w_rfN q5 (by rw [← hL]; simp) (by rw [← hL]) ?_
          repeat first|refine Wr ?_|refine Wb ?_|refine Wc ?_|refine Wd ?_|refine We ?_|refine Wf ?_|refine Wg ?_|refine Wh ?_|refine Wi ?_|refine Wj (by decide) ?_|refine Wa ?_|refine Wk ?_|refine Wl ?_|refine Wm ?_|refine Wn ?_|refine Wo ?_|refine Wp ?_|refine Wq ?_|refine Ww (by simp only[go_sem];done) ?_|((first|refine Ws ?_|refine Wt ?_|refine Wu ?_|refine Wv (by simp only[go_sem];done) ?_);conv=>arg 2;simp only[go_sem])
          refine w_op ?_
          simp only [wpO, go_sem, St.get_other n6, q3, Nat.le_refl, Nat.zero_add, if_true]
          repeat first|refine Wr ?_|refine Wb ?_|refine Wc ?_|refine Wd ?_|refine We ?_|refine Wf ?_|refine Wg ?_|refine Wh ?_|refine Wi ?_|refine Wj (by decide) ?_|refine Wa ?_|refine Wk ?_|refine Wl ?_|refine Wm ?_|refine Wn ?_|refine Wo ?_|refine Wp ?_|refine Wq ?_|refine Ww (by simp only[go_sem];done) ?_|((first|refine Ws ?_|refine Wt ?_|refine Wu ?_|refine Wv (by simp only[go_sem];done) ?_);conv=>arg 2;simp only[go_sem])
          refine w_op ?_
          simp only [wpO, go_sem, St.get_other n7, St.get_other hne.symm, q4, Nat.le_refl, Nat.zero_add, if_true]
          repeat first|refine Wr ?_|refine Wb ?_|refine Wc ?_|refine Wd ?_|refine We ?_|refine Wf ?_|refine Wg ?_|refine Wh ?_|refine Wi ?_|refine Wj (by decide) ?_|refine Wa ?_|refine Wk ?_|refine Wl ?_|refine Wm ?_|refine Wn ?_|refine Wo ?_|refine Wp ?_|refine Wq ?_|refine Ww (by simp only[go_sem];done) ?_|((first|refine Ws ?_|refine Wt ?_|refine Wu ?_|refine Wv (by simp only[go_sem];done) ?_);conv=>arg 2;simp only[go_sem])
          refine fin _ _ false 0 (by simp only [go_sem]) (by simp only [go_sem]) (by rw [St.get_other hne]; exact St.set_get) St.set_get ?_ ?_ rfl
          · exact St.le_set (St.le_set (St.le_set q6 hl0) hb60) hb70
          · symm
            simp only [true_and, decide_eq_false_iff_not]
            rintro ⟨x, hx, hxm⟩
            exact (q2 x ((q1 x).2 hx)).2 hxm
        · refine w_rfX q3 (by simp) rfl ?_
          repeat first|refine Wr ?_|refine Wb ?_|refine Wc ?_|refine Wd ?_|refine We ?_|refine Wf ?_|refine Wg ?_|refine Wh ?_|refine Wi ?_|refine Wj (by decide) ?_|refine Wa ?_|refine Wk ?_|refine Wl ?_|refine Wm ?_|refine Wn ?_|refine Wo ?_|refine Wp ?_|refine Wq ?_|refine Ww (by simp only[go_sem];done) ?_|((first|refine Ws ?_|refine Wt ?_|refine Wu ?_|refine Wv (by simp only[go_sem];done) ?_);conv=>arg 2;simp only[go_sem])
          refine fin _ _ true 0 (by simp only [go_sem]) (by simp only [go_sem]) (by rw [St.get_other n6]; exact q1) (by rw [St.get_other n7]; exact q2) ?_ ?_ rfl
          · exact St.le_set q4 hl0
          · symm
            simp only [true_and, decide_eq_true_eq]
            exact q5
end Go.Hu.Sn

set_option linter.unusedSimpArgs false
set_option linter.unusedVariables false
namespace Go.Hu.Sn
attribute [local irreducible] wpS wpIs wpI
attribute [local go_sem] Nat.mul_one Nat.one_mul Nat.zero_add Nat.add_zero Nat.zero_mul and_self and_true true_and decide_true decide_false Bool.false_eq_true if_true if_false Int.cast_ofNat_Int Int.zero_le_ofNat Int.le_refl Int.reduceLT Int.reduceLE Int.reduceToNat

variable {s : St} {Q : V → St → Prop}

/-- At an hour a seine surely holds nothing. -/
def gone (b : Book) (h : Int) : Prop := ∀ x, atH b h x → x.1 = 0
theorem gone_ends {b : Book} (hb : ok' b) {h lo hi : Int} (hh : 0 ≤ h) (he : Ends (fun n => ∃ x, atH b h x ∧ x.1 = n) lo hi) : gone b h ↔ hi = 0 := by
  obtain ⟨⟨_, x, hx, h1⟩, h2⟩ := he
  constructor
  · intro hg
    rw [← h1]
    exact hg x hx
  · rintro h0 y hy
    have h3 := (h2 y.1 ⟨y, hy, rfl⟩).2
    have h4 := (atH_small hb hh hy).1.1
    omega
/-- What 'Empty' answers. -/
def EmptyIs (b : Book) (n e : Int) : Prop :=
  (askE b True ≠ 0 ∧ n = 0 ∧ e = askE b True) ∨ (askE b True = 0 ∧ (0 ≤ n ∧ n ≤ 60) ∧ e = 0 ∧ gone b n ∧ ∀ h, 0 ≤ h → h < n → ¬ gone b h) ∨ (askE b True = 0 ∧ n = 0 ∧ e = 4 ∧ ∀ h, 0 ≤ h → h ≤ 60 → ¬ gone b h)
theorem EmptyIs.unique {b : Book} {n e m f : Int} (h : EmptyIs b n e) (h' : EmptyIs b m f) : n = m ∧ e = f := by
  rcases h with ⟨a0, a1, a2⟩ | ⟨a0, a1, a2, a3, a4⟩ | ⟨a0, a1, a2, a3⟩ <;> rcases h' with ⟨b0, b1, b2⟩ | ⟨b0, b1, b2, b3, b4⟩ | ⟨b0, b1, b2, b3⟩
  · exact ⟨by omega, by omega⟩
  · exact absurd b0 a0
  · exact absurd b0 a0
  · exact absurd a0 b0
  · refine ⟨?_, by omega⟩
    by_cases h1 : n < m
    · exact absurd a3 (b4 n a1.1 h1)
    · by_cases h2 : m < n
      · exact absurd b3 (a4 m b1.1 h2)
      · omega
  · exact absurd a3 (b3 n a1.1 a1.2)
  · exact absurd a0 b0
  · exact absurd b3 (a3 m b1.1 b1.2)
  · exact ⟨by omega, by omega⟩

open Classical in
set_option maxHeartbeats 1000000 in
theorem c38 (b : Book) (hlen : (b.notes.length : Int) < 9223372036854775808) (hq : ∀ n e s', EmptyIs b n e → s ≤ s' → Q (.tup [.int n, .int e]) s') : Call prog (.fn 38 [] []) [bookV b] s Q := by
  refine Call.fn F38 p38 rfl ?_
  simp only [F38]
  have hdec : askE b ((true : Bool) = true) = askE b True := by simp
  simp only [bookV]
  repeat first|refine Wr ?_|refine Wb ?_|refine Wc ?_|refine Wd ?_|refine We ?_|refine Wf ?_|refine Wg ?_|refine Wh ?_|refine Wi ?_|refine Wj (by decide) ?_|refine Wa ?_|refine Wk ?_|refine Wl ?_|refine Wm ?_|refine Wn ?_|refine Wo ?_|refine Wp ?_|refine Wq ?_|refine Ww (by simp only[go_sem];done) ?_|((first|refine Ws ?_|refine Wt ?_|refine Wu ?_|refine Wv (by simp only[go_sem];done) ?_);conv=>arg 2;simp only[go_sem])
  refine w_call (by simp only [go_sem]; rfl) (by simp only [go_sem]; rfl) ?_
  refine c116 b _ hlen fun v s1 g1 g2 g3 => ?_
  rw [hdec] at g2 ⊢
  by_cases he : askE b True = 0
  · obtain ⟨k1, k2, k3⟩ := askE_zero.1 he
    obtain rfl := g2 he
    repeat first|refine Wr ?_|refine Wb ?_|refine Wc ?_|refine Wd ?_|refine We ?_|refine Wf ?_|refine Wg ?_|refine Wh ?_|refine Wi ?_|refine Wj (by decide) ?_|refine Wa ?_|refine Wk ?_|refine Wl ?_|refine Wm ?_|refine Wn ?_|refine Wo ?_|refine Wp ?_|refine Wq ?_|refine Ww (by simp only[go_sem,he];done) ?_|((first|refine Ws ?_|refine Wt ?_|refine Wu ?_|refine Wv (by simp only[go_sem,he];done) ?_);conv=>arg 2;simp only[go_sem,he])
    refine w_iter (fun n e s' => ∃ i : Int, n = (61 - i).toNat ∧ (0 ≤ i ∧ i ≤ 61) ∧ e 15 = .int i ∧ e 4 = openV b ∧ s ≤ s' ∧ ∀ h, 0 ≤ h → h < i → ¬ gone b h) 61 ?_ ?_
    · refine ⟨0, rfl, by omega, ?_, ?_, g3, fun h h1 h2 => by omega⟩
      any_goals (simp only [go_sem]; done)
    · rintro n e s' ⟨i, hn, hi, e15, e4, hs, hg⟩
      by_cases hlt : i < 61
      · simp only [openV, seineV] at e4
        repeat first|refine Wr ?_|refine Wb ?_|refine Wc ?_|refine Wd ?_|refine We ?_|refine Wf ?_|refine Wg ?_|refine Wh ?_|refine Wi ?_|refine Wj (by decide) ?_|refine Wa ?_|refine Wk ?_|refine Wl ?_|refine Wm ?_|refine Wn ?_|refine Wo ?_|refine Wp ?_|refine Wq ?_|refine Ww (by simp only[go_sem,e15,e4,hlt];done) ?_|((first|refine Ws ?_|refine Wt ?_|refine Wu ?_|refine Wv (by simp only[go_sem,e15,e4,hlt];done) ?_);conv=>arg 2;simp only[go_sem,e15,e4,hlt])|(refine Wx (by simp only[go_sem,e15,e4,hlt];rfl) (by simp only[go_sem,e15,e4,hlt];rfl) ?_;first|refine c123 ?_|refine c122 b k1 i ⟨by omega, by omega⟩ Prod.fst 205 (fun x hx => c205 x hx) (atH_ne k1.ok' k3 (by omega)) fun lo hi s2 g4 g5 => ?_)
        have hge := gone_ends (h := i) k1.ok' (by omega) g4
        have hw : w64 (i + 1) = i + 1 := w64_id (by omega)
        by_cases hz : hi = 0
        · have hzt : (hi == 0) = true := by simp [hz]
          rw [hzt]
          repeat first|refine Wr ?_|refine Wb ?_|refine Wc ?_|refine Wd ?_|refine We ?_|refine Wf ?_|refine Wg ?_|refine Wh ?_|refine Wi ?_|refine Wj (by decide) ?_|refine Wa ?_|refine Wk ?_|refine Wl ?_|refine Wm ?_|refine Wn ?_|refine Wo ?_|refine Wp ?_|refine Wq ?_|refine Ww (by simp only[go_sem,e15,e4,hlt];done) ?_|((first|refine Ws ?_|refine Wt ?_|refine Wu ?_|refine Wv (by simp only[go_sem,e15,e4,hlt];done) ?_);conv=>arg 2;simp only[go_sem,e15,e4,hlt])
          first|refine w_retQ ?_|refine w_endQ ?_
          conv=>arg 1;simp only[go_sem]
          exact w_res (by simp only [go_sem]) (hq i 0 s2 (.inr (.inl ⟨he, by omega, rfl, hge.2 hz, hg⟩)) (St.le_trans hs g5))
        · have hzf : (hi == 0) = false := by simpa using hz
          rw [hzf]
          repeat first|refine Wr ?_|refine Wb ?_|refine Wc ?_|refine Wd ?_|refine We ?_|refine Wf ?_|refine Wg ?_|refine Wh ?_|refine Wi ?_|refine Wj (by decide) ?_|refine Wa ?_|refine Wk ?_|refine Wl ?_|refine Wm ?_|refine Wn ?_|refine Wo ?_|refine Wp ?_|refine Wq ?_|refine Ww (by simp only[go_sem,e15,e4,hlt,hzf,hw];done) ?_|((first|refine Ws ?_|refine Wt ?_|refine Wu ?_|refine Wv (by simp only[go_sem,e15,e4,hlt,hzf,hw];done) ?_);conv=>arg 2;simp only[go_sem,e15,e4,hlt,hzf,hw])
          refine ⟨_, ?_, i + 1, rfl, by omega, ?_, ?_, St.le_trans hs g5, fun h h1 h2 => ?_⟩
          · omega
          · simp only [go_sem, e15, hw]
          · simp only [go_sem, e4, openV, seineV]
          · by_cases hih : h = i
            · rw [hih]; exact fun hgo => hz (hge.1 hgo)
            · exact hg h h1 (by omega)
      · repeat first|refine Wr ?_|refine Wb ?_|refine Wc ?_|refine Wd ?_|refine We ?_|refine Wf ?_|refine Wg ?_|refine Wh ?_|refine Wi ?_|refine Wj (by decide) ?_|refine Wa ?_|refine Wk ?_|refine Wl ?_|refine Wm ?_|refine Wn ?_|refine Wo ?_|refine Wp ?_|refine Wq ?_|refine Ww (by simp only[go_sem,e15,e4,hlt];done) ?_|((first|refine Ws ?_|refine Wt ?_|refine Wu ?_|refine Wv (by simp only[go_sem,e15,e4,hlt];done) ?_);conv=>arg 2;simp only[go_sem,e15,e4,hlt])
        first|refine w_retQ ?_|refine w_endQ ?_
        conv=>arg 1;simp only[go_sem]
        exact w_res (by simp only [go_sem]) (hq 0 4 s' (.inr (.inr ⟨he, rfl, rfl, fun h h1 h2 => hg h h1 (by omega)⟩)) hs)
  · have he' : (askE b True == 0) = false := by simpa using he
    rcases g1 with rfl | rfl
    · simp only [zeroS']
      repeat first|refine Wr ?_|refine Wb ?_|refine Wc ?_|refine Wd ?_|refine We ?_|refine Wf ?_|refine Wg ?_|refine Wh ?_|refine Wi ?_|refine Wj (by decide) ?_|refine Wa ?_|refine Wk ?_|refine Wl ?_|refine Wm ?_|refine Wn ?_|refine Wo ?_|refine Wp ?_|refine Wq ?_|refine Ww (by simp only[go_sem,he'];done) ?_|((first|refine Ws ?_|refine Wt ?_|refine Wu ?_|refine Wv (by simp only[go_sem,he'];done) ?_);conv=>arg 2;simp only[go_sem,he'])
      first|refine w_retQ ?_|refine w_endQ ?_
      conv=>arg 1;simp only[go_sem]
      exact w_res (by simp only [go_sem]) (hq 0 _ s1 (.inl ⟨he, rfl, rfl⟩) g3)
    · repeat first|refine Wr ?_|refine Wb ?_|refine Wc ?_|refine Wd ?_|refine We ?_|refine Wf ?_|refine Wg ?_|refine Wh ?_|refine Wi ?_|refine Wj (by decide) ?_|refine Wa ?_|refine Wk ?_|refine Wl ?_|refine Wm ?_|refine Wn ?_|refine Wo ?_|refine Wp ?_|refine Wq ?_|refine Ww (by simp only[go_sem,he'];done) ?_|((first|refine Ws ?_|refine Wt ?_|refine Wu ?_|refine Wv (by simp only[go_sem,he'];done) ?_);conv=>arg 2;simp only[go_sem,he'])
      first|refine w_retQ ?_|refine w_endQ ?_
      conv=>arg 1;simp only[go_sem]
      exact w_res (by simp only [go_sem]) (hq 0 _ s1 (.inl ⟨he, rfl, rfl⟩) g3)

/-- What mending saves, of a state behind the last note. -/
def save (b : Book) (x : X) : Int := x.1 - (pass x (60 - hourOf 0 b.notes)).1
open Classical in
set_option maxHeartbeats 1000000 in
theorem c40 (b : Book) (hlen : (b.notes.length : Int) < 9223372036854775808) (hq : ∀ lo hi s', Answer (askE b True) (fun n => ∃ x, run (begun b) 0 b.notes x ∧ save b x = n) lo hi → s ≤ s' → Q (.tup [.agg [.int lo, .int hi], .int (askE b True)]) s') : Call prog (.fn 40 [] []) [bookV b] s Q := by
  refine Call.fn F40 p40 rfl ?_
  simp only [F40]
  have hdec : askE b ((true : Bool) = true) = askE b True := by simp
  simp only [bookV]
  repeat first|refine Wr ?_|refine Wb ?_|refine Wc ?_|refine Wd ?_|refine We ?_|refine Wf ?_|refine Wg ?_|refine Wh ?_|refine Wi ?_|refine Wj (by decide) ?_|refine Wa ?_|refine Wk ?_|refine Wl ?_|refine Wm ?_|refine Wn ?_|refine Wo ?_|refine Wp ?_|refine Wq ?_|refine Ww (by simp only[go_sem];done) ?_|((first|refine Ws ?_|refine Wt ?_|refine Wu ?_|refine Wv (by simp only[go_sem];done) ?_);conv=>arg 2;simp only[go_sem])
  refine w_call (by simp only [go_sem]; rfl) (by simp only [go_sem]; rfl) ?_
  refine c116 b _ hlen fun v s1 g1 g2 g3 => ?_
  rw [hdec] at g2 ⊢
  by_cases he : askE b True = 0
  · obtain ⟨k1, k2, k3⟩ := askE_zero.1 he
    obtain rfl := g2 he
    rw [he] at hq
    have hbd := run_bd (begun_bd k1.1) (Int.le_refl 0) k1.ok'.2.2
    have hsm := hbd.sm (by have := k1.2.1; omega)
    have hho := hourOf_le k1.ok'.2.2
    have hk8 : (0 : Int) ≤ 0 ∧ (0 : Int) + b.notes.length ≤ 100 := ⟨by omega, by have := k1.2.1; omega⟩
    repeat first|refine Wr ?_|refine Wb ?_|refine Wc ?_|refine Wd ?_|refine We ?_|refine Wf ?_|refine Wg ?_|refine Wh ?_|refine Wi ?_|refine Wj (by decide) ?_|refine Wa ?_|refine Wk ?_|refine Wl ?_|refine Wm ?_|refine Wn ?_|refine Wo ?_|refine Wp ?_|refine Wq ?_|refine Ww (by simp only[go_sem,he];done) ?_|((first|refine Ws ?_|refine Wt ?_|refine Wu ?_|refine Wv (by simp only[go_sem,he];done) ?_);conv=>arg 2;simp only[go_sem,he])|(refine Wx (by simp only[go_sem,he];rfl) (by simp only[go_sem,he];rfl) ?_;first|refine c129 b _ _ _ _ _ k1.1 fun r es s2 f1 f2 f3 f4 => ?_|refine c128 0 b.notes f1 f3 (begun_bd k1.1) hk8 k1.ok'.2.2 (by omega) fun r' es' s3 f5 f6 f7 f8 => ?_)
    have hes : es'.length ≤ 32882 := by
      have h1 : es'.length ≤ (box.map fun x => (xV x, V.bool true)).length := by
        refine nodup_le f7.3 fun p hp => ?_
        obtain ⟨x, rfl⟩ := f7.1 p hp
        have hx := hbd x ((f7.2 x).2 hp)
        exact List.mem_map.2 ⟨x, mem_box (by have := k1.2.1; omega), rfl⟩
      rw [List.length_map, box_length] at h1
      exact h1
    refine w_setrange (by simp only [go_sem]) f5 fun it hit => ?_
    generalize hs4 : s3.set it (.iter (some r') es'.length []) = s4
    have d1 : s4 it = some (.iter (some r') es'.length []) := by rw [← hs4]; exact St.set_get
    have hri : r' ≠ it := by rintro rfl; rw [f5] at hit; cases hit
    have d2 : s4 r' = some (.map es') := by rw [← hs4, St.get_other hri]; exact f5
    have d3 : s ≤ s4 := by rw [← hs4]; exact St.le_trans (St.le_trans (St.le_trans g3 f4) f8) (St.le_new hit)
    repeat first|refine Wr ?_|refine Wb ?_|refine Wc ?_|refine Wd ?_|refine We ?_|refine Wf ?_|refine Wg ?_|refine Wh ?_|refine Wi ?_|refine Wj (by decide) ?_|refine Wa ?_|refine Wk ?_|refine Wl ?_|refine Wm ?_|refine Wn ?_|refine Wo ?_|refine Wp ?_|refine Wq ?_|refine Ww (by simp only[go_sem];done) ?_|((first|refine Ws ?_|refine Wt ?_|refine Wu ?_|refine Wv (by simp only[go_sem];done) ?_);conv=>arg 2;simp only[go_sem])
    refine w_iter (fun n e s' => ∃ (l1 : List X) (c : Cap) (seen : List Nat), n = es'.length - seen.length ∧ e 2 = .agg [.int 0, .int 0] ∧ e 28 = .iter it ∧ e 7 = .int (hourOf 0 b.notes) ∧ e 8 = .lst (intsV (l1.map (save b))) c ∧ s' it = some (.iter (some r') es'.length seen) ∧ s' r' = some (.map es') ∧ Room s' c l1.length ∧ s ≤ s' ∧ (∀ t, c = .tok t → s t = none ∧ t ≠ it ∧ t ≠ r') ∧
      l1.length = seen.length ∧ seen.Nodup ∧ (∀ i ∈ seen, i < es'.length) ∧ (∀ x ∈ l1, run (begun b) 0 b.notes x) ∧ (∀ i ∈ seen, ∃ x v, es'[i]? = some (xV x, v) ∧ x ∈ l1)) es'.length ?_ ?_
    · refine ⟨[], .exact, [], by simp, ?_, ?_, ?_, ?_, d1, d2, .inl rfl, d3, by simp, rfl, by simp, by simp, by simp, by simp⟩
      any_goals (simp only [go_sem, List.map_nil, intsV]; done)
    · rintro n e s' ⟨l1, c, seen, hn, e2, e28, e7, e8, q1, q2, q3, q4, q5, q6, q7, q8, q9, q10⟩
      repeat first|refine Wr ?_|refine Wb ?_|refine Wc ?_|refine Wd ?_|refine We ?_|refine Wf ?_|refine Wg ?_|refine Wh ?_|refine Wi ?_|refine Wj (by decide) ?_|refine Wa ?_|refine Wk ?_|refine Wl ?_|refine Wm ?_|refine Wn ?_|refine Wo ?_|refine Wp ?_|refine Wq ?_|refine Ww (by simp only[go_sem,e2,e28,e7,e8];done) ?_|((first|refine Ws ?_|refine Wt ?_|refine Wu ?_|refine Wv (by simp only[go_sem,e2,e28,e7,e8];done) ?_);conv=>arg 2;simp only[go_sem,e2,e28,e7,e8])
      refine w_setnext (by simp only [go_sem, e28]) q1 q2 (fun hall => ?_) (fun i xv hi his => ?_)
      · have hmem : ∀ n, n ∈ l1.map (save b) ↔ ∃ x, run (begun b) 0 b.notes x ∧ save b x = n := fun n => by
          rw [List.mem_map]
          constructor
          · rintro ⟨x, hx, rfl⟩
            exact ⟨x, q9 x hx, rfl⟩
          · rintro ⟨x, hx, rfl⟩
            obtain ⟨i, hi⟩ := List.getElem?_of_mem ((f7.2 x).1 hx)
            obtain ⟨x', v, h1, h2⟩ := q10 i (hall i (List.getElem?_eq_some_iff.1 hi).1)
            rw [hi] at h1
            have h3 : x = x' := xKey.inj (congrArg Prod.fst (Option.some.inj h1))
            exact ⟨x, by rw [h3]; exact h2, rfl⟩
        have hne : l1.map (save b) ≠ [] := by
          obtain ⟨z, hz⟩ := k3
          intro h0
          have := (hmem _).2 ⟨z, hz, rfl⟩
          rw [h0] at this
          simp at this
        have hl1 : ((l1.map (save b)).length : Int) < 9223372036854775800 := by
          have := nodup_le (l := seen) (m := List.range es'.length) q7 fun i hi => List.mem_range.2 (q8 i hi)
          simp only [List.length_map, List.length_range] at this ⊢
          omega
        repeat first|refine Wr ?_|refine Wb ?_|refine Wc ?_|refine Wd ?_|refine We ?_|refine Wf ?_|refine Wg ?_|refine Wh ?_|refine Wi ?_|refine Wj (by decide) ?_|refine Wa ?_|refine Wk ?_|refine Wl ?_|refine Wm ?_|refine Wn ?_|refine Wo ?_|refine Wp ?_|refine Wq ?_|refine Ww (by simp only[go_sem,e2,e28,e7,e8];done) ?_|((first|refine Ws ?_|refine Wt ?_|refine Wu ?_|refine Wv (by simp only[go_sem,e2,e28,e7,e8];done) ?_);conv=>arg 2;simp only[go_sem,e2,e28,e7,e8])|(refine Wx (by simp only[go_sem,e2,e28,e7,e8];rfl) (by simp only[go_sem,e2,e28,e7,e8];rfl) ?_;refine c131 _ hne hl1 fun lo hi hE => ?_)
        first|refine w_retQ ?_|refine w_endQ ?_
        conv=>arg 1;simp only[go_sem]
        refine w_res (by simp only [go_sem]) (hq lo hi _ ?_ q4)
        simp only [Answer, if_true, Ends]
        simp only [EndsL, hmem] at hE
        exact hE
      · obtain ⟨x, hx⟩ := f7.1 xv (List.mem_of_getElem? hi)
        subst hx
        have hrx : run (begun b) 0 b.notes x := (f7.2 x).2 (List.mem_of_getElem? hi)
        have hil : i < es'.length := (List.getElem?_eq_some_iff.1 hi).1
        have hseen : (seen ++ [i]).Nodup := by
          rw [List.nodup_append]
          exact ⟨q7, by simp, fun a ha b hb => by simp at hb; subst hb; rintro rfl; exact his ha⟩
        have hsl : (seen ++ [i]).length ≤ es'.length := by
          have := nodup_le (l := seen ++ [i]) (m := List.range es'.length) hseen fun j hj => by
            rcases List.mem_append.1 hj with hj | hj
            · exact List.mem_range.2 (q8 j hj)
            · simp at hj; subst hj; exact List.mem_range.2 hil
          simpa using this
        generalize hs5 : s'.set it (.iter (some r') es'.length (seen ++ [i])) = s5
        have m1 : s5 it = some (.iter (some r') es'.length (seen ++ [i])) := by rw [← hs5]; exact St.set_get
        have m2 : s5 r' = some (.map es') := by rw [← hs5, St.get_other hri]; exact q2
        have m3 : Room s5 c l1.length := by
          rcases q3 with q3 | ⟨t, q3, ht⟩
          · exact .inl q3
          · exact .inr ⟨t, q3, by rw [← hs5, St.get_other (q5 t q3).2.1]; exact ht⟩
        have hit0 : s it = none := by
          cases ho : s it with
          | none => rfl
          | some o => rw [St.le_trans (St.le_trans g3 f4) f8 _ _ ho] at hit; cases hit
        have m4 : s ≤ s5 := by rw [← hs5]; exact St.le_set q4 hit0
        simp only [xV]
        repeat first|refine Wr ?_|refine Wb ?_|refine Wc ?_|refine Wd ?_|refine We ?_|refine Wf ?_|refine Wg ?_|refine Wh ?_|refine Wi ?_|refine Wj (by decide) ?_|refine Wa ?_|refine Wk ?_|refine Wl ?_|refine Wm ?_|refine Wn ?_|refine Wo ?_|refine Wp ?_|refine Wq ?_|refine Ww (by simp only[go_sem,e2,e28,e7,e8];done) ?_|((first|refine Ws ?_|refine Wt ?_|refine Wu ?_|refine Wv (by simp only[go_sem,e2,e28,e7,e8];done) ?_);conv=>arg 2;simp only[go_sem,e2,e28,e7,e8])
        refine w_setentry (i := i) (seen := seen) (by simp only [go_sem, e28]) m1 m2 hi ?_
        simp only [xV]
        have hw : w64 (60 - hourOf 0 b.notes) = 60 - hourOf 0 b.notes := w64_id (by omega)
        have hbx := pass_bd (h := 60 - hourOf 0 b.notes) (hbd x hrx) (by omega)
        have hbx0 := hbd x hrx
        have hw2 : w64 (x.1 - (pass x (60 - hourOf 0 b.notes)).1) = save b x := w64_id (by omega)
        have hhr : 0 ≤ 60 - hourOf 0 b.notes ∧ 60 - hourOf 0 b.notes ≤ 60 := by omega
        repeat first|refine Wr ?_|refine Wb ?_|refine Wc ?_|refine Wd ?_|refine We ?_|refine Wf ?_|refine Wg ?_|refine Wh ?_|refine Wi ?_|refine Wj (by decide) ?_|refine Wa ?_|refine Wk ?_|refine Wl ?_|refine Wm ?_|refine Wn ?_|refine Wo ?_|refine Wp ?_|refine Wq ?_|refine Ww (by simp only[go_sem,e2,e28,e7,e8,hw];done) ?_|((first|refine Ws ?_|refine Wt ?_|refine Wu ?_|refine Wv (by simp only[go_sem,e2,e28,e7,e8,hw];done) ?_);conv=>arg 2;simp only[go_sem,e2,e28,e7,e8,hw])|(refine Wx (by simp only[go_sem,e2,e28,e7,e8,hw];rfl) (by simp only[go_sem,e2,e28,e7,e8,hw];rfl) ?_;refine c130 x _ (hsm x hrx) hhr ?_)
        simp only [xV]
        repeat first|refine Wr ?_|refine Wb ?_|refine Wc ?_|refine Wd ?_|refine We ?_|refine Wf ?_|refine Wg ?_|refine Wh ?_|refine Wi ?_|refine Wj (by decide) ?_|refine Wa ?_|refine Wk ?_|refine Wl ?_|refine Wm ?_|refine Wn ?_|refine Wo ?_|refine Wp ?_|refine Wq ?_|refine Ww (by simp only[go_sem,e2,e28,e7,e8,hw,hw2];done) ?_|((first|refine Ws ?_|refine Wt ?_|refine Wu ?_|refine Wv (by simp only[go_sem,e2,e28,e7,e8,hw,hw2];done) ?_);conv=>arg 2;simp only[go_sem,e2,e28,e7,e8,hw,hw2])
        try rw [hw2]
        have hmax : (intsV (l1.map (save b))).length + 1 ≤ maxLst := by
          simp [intsV, maxLst]
          simp at hsl
          omega
        refine w_append1 (xs := intsV (l1.map (save b))) (y := .int (save b x)) (c := c) rfl (by simp only [go_sem, e8]) (by simp only [go_sem, hw2]; rfl) hmax (hd_ints _) rfl rfl (by simpa [intsV_length] using m3) fun c' s6 hg => ?_
        have hm3 : Room s5 c (intsV (l1.map (save b))).length := by simpa [intsV_length] using m3
        repeat first|refine Wr ?_|refine Wb ?_|refine Wc ?_|refine Wd ?_|refine We ?_|refine Wf ?_|refine Wg ?_|refine Wh ?_|refine Wi ?_|refine Wj (by decide) ?_|refine Wa ?_|refine Wk ?_|refine Wl ?_|refine Wm ?_|refine Wn ?_|refine Wo ?_|refine Wp ?_|refine Wq ?_|refine Ww (by simp only[go_sem,e2,e28,e7,e8,hw];done) ?_|((first|refine Ws ?_|refine Wt ?_|refine Wu ?_|refine Wv (by simp only[go_sem,e2,e28,e7,e8,hw];done) ?_);conv=>arg 2;simp only[go_sem,e2,e28,e7,e8,hw])
        refine ⟨_, ?_, l1 ++ [x], c', seen ++ [i], rfl, ?_, ?_, ?_, ?_, hg.live hm3 m1 (by simp), hg.live hm3 m2 (by simp), ?_, fun l o ho => ?_, ?_, by simp [q6], hseen, ?_, ?_, ?_⟩
        any_goals (simp only [go_sem, e2, e28, e7, e8]; done)
        · simp at hsl ⊢
          omega
        · simp only [go_sem, intsV, List.map_append, List.map_cons, List.map_nil]
        · obtain ⟨t, h1, h2, h3⟩ := hg.room
          exact .inr ⟨t, h1, by simpa [intsV_length] using h3⟩
        · exact hg.keep l o (m4 _ _ ho) fun t hc hlt => by
            rw [hlt, (q5 t hc).1] at ho
            cases ho
        · intro t hc
          obtain ⟨t', h1, h2, h3⟩ := hg.room
          rw [hc] at h1
          cases h1
          refine ⟨?_, ?_, ?_⟩
          · cases ho : s t with
            | none => rfl
            | some o => rw [m4 _ _ ho] at h2; cases h2
          · rintro rfl; rw [m1] at h2; cases h2
          · rintro rfl; rw [m2] at h2; cases h2
        · intro j hj
          rcases List.mem_append.1 hj with hj | hj
          · exact q8 j hj
          · simp at hj; subst hj; exact hil
        · intro z hz
          rcases List.mem_append.1 hz with hz | hz
          · exact q9 z hz
          · simp at hz; subst hz; exact hrx
        · intro j hj
          rcases List.mem_append.1 hj with hj | hj
          · obtain ⟨x', v, h1, h2⟩ := q10 j hj
            exact ⟨x', v, h1, by simp [h2]⟩
          · simp at hj; subst hj; exact ⟨x, _, hi, by simp⟩
  · have he' : (askE b True == 0) = false := by simpa using he
    rcases g1 with rfl | rfl
    · simp only [zeroS']
      repeat first|refine Wr ?_|refine Wb ?_|refine Wc ?_|refine Wd ?_|refine We ?_|refine Wf ?_|refine Wg ?_|refine Wh ?_|refine Wi ?_|refine Wj (by decide) ?_|refine Wa ?_|refine Wk ?_|refine Wl ?_|refine Wm ?_|refine Wn ?_|refine Wo ?_|refine Wp ?_|refine Wq ?_|refine Ww (by simp only[go_sem,he'];done) ?_|((first|refine Ws ?_|refine Wt ?_|refine Wu ?_|refine Wv (by simp only[go_sem,he'];done) ?_);conv=>arg 2;simp only[go_sem,he'])
      first|refine w_retQ ?_|refine w_endQ ?_
      conv=>arg 1;simp only[go_sem]
      exact w_res (by simp only [go_sem]) (hq 0 0 s1 (by simp [Answer, he]) g3)
    · repeat first|refine Wr ?_|refine Wb ?_|refine Wc ?_|refine Wd ?_|refine We ?_|refine Wf ?_|refine Wg ?_|refine Wh ?_|refine Wi ?_|refine Wj (by decide) ?_|refine Wa ?_|refine Wk ?_|refine Wl ?_|refine Wm ?_|refine Wn ?_|refine Wo ?_|refine Wp ?_|refine Wq ?_|refine Ww (by simp only[go_sem,he'];done) ?_|((first|refine Ws ?_|refine Wt ?_|refine Wu ?_|refine Wv (by simp only[go_sem,he'];done) ?_);conv=>arg 2;simp only[go_sem,he'])
      first|refine w_retQ ?_|refine w_endQ ?_
      conv=>arg 1;simp only[go_sem]
      exact w_res (by simp only [go_sem]) (hq 0 0 s1 (by simp [Answer, he]) g3)
end Go.Hu.Sn

set_option linter.unusedSimpArgs false
set_option linter.unusedVariables false
namespace Go.Hu.Sn
attribute [local irreducible] wpS wpIs wpI
attribute [local go_sem] Nat.mul_one Nat.one_mul Nat.zero_add Nat.add_zero Nat.zero_mul and_self and_true true_and decide_true decide_false Bool.false_eq_true if_true if_false Int.cast_ofNat_Int Int.zero_le_ofNat Int.le_refl Int.reduceLT Int.reduceLE Int.reduceToNat

variable {s : St} {Q : V → St → Prop}

def noteC (x : Note) : List V := [.int x.kind, .int x.hour, .int x.lo, .int x.hi]
def notesC (ns : List Note) : List V := ns.flatMap noteC
theorem notesC_append (a b : List Note) : notesC (a ++ b) = notesC a ++ notesC b := by simp [notesC]
theorem notesC_cons (x : Note) (b : List Note) : notesC (x :: b) = noteC x ++ notesC b := by simp [notesC]
theorem notesC_length : ∀ ns : List Note, (notesC ns).length = ns.length * 4
  | [] => rfl
  | n :: ns => by rw [notesC_cons, List.length_append, notesC_length ns]; simp [noteC]; omega
theorem cells_notesV : ∀ ns : List Note, (notesV ns).flatMap V.cells = notesC ns
  | [] => rfl
  | n :: ns => by
    have := cells_notesV ns
    simp only [notesV, List.map_cons, List.flatMap_cons, notesC_cons] at this ⊢
    rw [this]
    rfl
theorem row_notesV : ∀ ns : List Note, (notesV ns).all V.row = true
  | [] => rfl
  | n :: ns => by
    have := row_notesV ns
    simp only [notesV, List.map_cons, List.all_cons, Bool.and_eq_true] at this ⊢
    exact ⟨rfl, this⟩
theorem chunk_notes : ∀ (ns : List Note) (r : List V), chunk (some 4) (notesC ns ++ r) ns.length = notesV ns
  | [], _ => rfl
  | n :: ns, r => by
    rw [notesC_cons, List.append_assoc, List.length_cons]
    simp only [chunk, notesV, List.map_cons, shN]
    have h1 : (noteC n ++ (notesC ns ++ r)).take 4 = noteC n := rfl
    have h2 : (noteC n ++ (notesC ns ++ r)).drop 4 = notesC ns ++ r := rfl
    rw [h1, h2, chunk_notes ns r]
    rfl
abbrev zn : V := .agg [.int 0, .int 0, .int 0, .int 0]
theorem zeros_length (n : Nat) : (zeros zn n).length = n * 4 := by
  simp [zeros, V.cells]
theorem putAt_eq' {cs vs : List V} {o : Nat} (h : o + vs.length ≤ cs.length) : putAt cs o vs = some (cs.take o ++ vs ++ cs.drop (o + vs.length)) := by
  unfold putAt
  rw [if_pos h]

/-- A list of notes that may be written: somewhere, with some room. -/
def Held' (s : St) (v : V) (ns : List Note) : Prop := (ns = [] ∧ v = .lst [] .exact) ∨ ∃ l c r, v = .sli l 0 ns.length c ∧ ns.length ≤ c ∧ s l = some (.cells (notesC ns ++ r)) ∧ r.length = (c - ns.length) * 4

theorem c136 (ns : List Note) (hn : ns.length ≤ 100) (hq : ∀ v s', Held' s' v ns → s ≤ s' → (∀ l o n c, v = .sli l o n c → s l = none) → Q v s') : Call prog (.fn 136 [] []) [.lst (notesV ns) .any] s Q := by
  refine Call.fn F136 p136 rfl ?_
  simp only [F136]
  repeat first|refine Wr ?_|refine Wb ?_|refine Wc ?_|refine Wd ?_|refine We ?_|refine Wf ?_|refine Wg ?_|refine Wh ?_|refine Wi ?_|refine Wj (by decide) ?_|refine Wa ?_|refine Wk ?_|refine Wl ?_|refine Wm ?_|refine Wn ?_|refine Wo ?_|refine Wp ?_|refine Wq ?_|refine Ww (by simp only[go_sem];done) ?_|((first|refine Ws ?_|refine Wt ?_|refine Wu ?_|refine Wv (by simp only[go_sem];done) ?_);conv=>arg 2;simp only[go_sem])
  refine w_op ?_
  cases ns with
  | nil =>
    simp only [wpO, go_sem, notesV, List.map_nil]
    intro t
    have fin : ∀ e : Env, e 2 = .lst [] .exact → retQ [.tmp 2] Q .ret e s := fun e h2 => by
      first|refine w_retQ ?_|refine w_endQ ?_
      conv=>arg 1;simp only[go_sem]
      refine w_resT (v := .lst [] .exact) (by simp only [h2]; rfl) (hq _ _ (.inl ⟨rfl, rfl⟩) (St.le_refl s) (by simp))
    cases t with
    | true =>
      repeat first|refine Wr ?_|refine Wb ?_|refine Wc ?_|refine Wd ?_|refine We ?_|refine Wf ?_|refine Wg ?_|refine Wh ?_|refine Wi ?_|refine Wj (by decide) ?_|refine Wa ?_|refine Wk ?_|refine Wl ?_|refine Wm ?_|refine Wn ?_|refine Wo ?_|refine Wp ?_|refine Wq ?_|refine Ww (by simp only[go_sem];done) ?_|((first|refine Ws ?_|refine Wt ?_|refine Wu ?_|refine Wv (by simp only[go_sem];done) ?_);conv=>arg 2;simp only[go_sem])
      exact fin _ (by first | rfl | simp only [go_sem])
    | false =>
      repeat first|refine Wr ?_|refine Wb ?_|refine Wc ?_|refine Wd ?_|refine We ?_|refine Wf ?_|refine Wg ?_|refine Wh ?_|refine Wi ?_|refine Wj (by decide) ?_|refine Wa ?_|refine Wk ?_|refine Wl ?_|refine Wm ?_|refine Wn ?_|refine Wo ?_|refine Wp ?_|refine Wq ?_|refine Ww (by simp only[go_sem];done) ?_|((first|refine Ws ?_|refine Wt ?_|refine Wu ?_|refine Wv (by simp only[go_sem];done) ?_);conv=>arg 2;simp only[go_sem])
      refine w_op ?_
      simp only [wpO, go_sem]
      refine ⟨rfl, rfl, ?_⟩
      repeat first|refine Wr ?_|refine Wb ?_|refine Wc ?_|refine Wd ?_|refine We ?_|refine Wf ?_|refine Wg ?_|refine Wh ?_|refine Wi ?_|refine Wj (by decide) ?_|refine Wa ?_|refine Wk ?_|refine Wl ?_|refine Wm ?_|refine Wn ?_|refine Wo ?_|refine Wp ?_|refine Wq ?_|refine Ww (by simp only[go_sem];done) ?_|((first|refine Ws ?_|refine Wt ?_|refine Wu ?_|refine Wv (by simp only[go_sem];done) ?_);conv=>arg 2;simp only[go_sem])
      exact fin _ (by simp only [go_sem])
  | cons n ns =>
    have hcell := cells_notesV (n :: ns)
    have hrow := row_notesV (n :: ns)
    have hhd := hd_notes (n :: ns)
    simp only [wpO, go_sem, notesV, List.map_cons] at hcell hrow hhd ⊢
    repeat first|refine Wr ?_|refine Wb ?_|refine Wc ?_|refine Wd ?_|refine We ?_|refine Wf ?_|refine Wg ?_|refine Wh ?_|refine Wi ?_|refine Wj (by decide) ?_|refine Wa ?_|refine Wk ?_|refine Wl ?_|refine Wm ?_|refine Wn ?_|refine Wo ?_|refine Wp ?_|refine Wq ?_|refine Ww (by simp only[go_sem];done) ?_|((first|refine Ws ?_|refine Wt ?_|refine Wu ?_|refine Wv (by simp only[go_sem];done) ?_);conv=>arg 2;simp only[go_sem])
    refine w_op ?_
    simp only [wpO, go_sem]
    refine ⟨?_, rfl, by exact hhd, by exact hrow, ?_⟩
    rotate_left
    rw [if_neg (by simp)]
    rotate_right
    · simp at hn ⊢
      simp [maxLst]
      omega
    intro l c' hl hc'
    repeat first|refine Wr ?_|refine Wb ?_|refine Wc ?_|refine Wd ?_|refine We ?_|refine Wf ?_|refine Wg ?_|refine Wh ?_|refine Wi ?_|refine Wj (by decide) ?_|refine Wa ?_|refine Wk ?_|refine Wl ?_|refine Wm ?_|refine Wn ?_|refine Wo ?_|refine Wp ?_|refine Wq ?_|refine Ww (by simp only[go_sem];done) ?_|((first|refine Ws ?_|refine Wt ?_|refine Wu ?_|refine Wv (by simp only[go_sem];done) ?_);conv=>arg 2;simp only[go_sem])
    first|refine w_retQ ?_|refine w_endQ ?_
    conv=>arg 1;simp only[go_sem]
    refine w_res (v := .sli l 0 ((List.map noteV ns).length + 1) c') (by simp only [go_sem]) (hq _ _ (.inr ⟨l, c', zeros zn (c' - (n :: ns).length), ?_, ?_, ?_, ?_⟩) (St.le_new hl) ?_)
    · simp
    · simpa using hc'
    · rw [St.set_get, hcell]
      simp
    · rw [zeros_length]
    · intro l' o n' c h
      cases h
      exact hl

theorem slcM_at {l o c a n : Nat} {sz : Nat} (h1 : a ≤ n) (h2 : n ≤ c) (h3 : a < c) : slcM sz l o c (a : Int) (n : Int) none = some (.sli l (o + a * sz) (n - a) (c - a)) := by
  unfold slcM
  have e1 : ¬ (c : Int) = (a : Int) := by omega
  have e2 : ((n : Int) - (a : Int)).toNat = n - a := by omega
  have e3 : ((c : Int) - (a : Int)).toNat = c - a := by omega
  simp only [Option.getD_none, e1, e2, e3, if_false, Int.toNat_natCast]
  rw [if_pos (by omega)]
theorem slcM_some {l o c a n : Nat} {sz : Nat} (h1 : a ≤ n) (h2 : n ≤ c) : ∃ v, slcM sz l o c (a : Int) (n : Int) none = some v := by
  unfold slcM
  rw [if_pos (by simp only [Option.getD_none]; omega)]
  exact ⟨_, rfl⟩
theorem slcM_to {l o c n : Nat} {sz : Nat} (h2 : n ≤ c) : slcM sz l o c 0 (n : Int) none = some (.sli l o n c) := by
  unfold slcM
  simp only [Option.getD_none, Int.sub_zero, Int.toNat_natCast, Int.toNat_zero, Nat.zero_mul, Nat.add_zero, ite_self]
  rw [if_pos (by omega)]

theorem w64_succ {k n : Nat} (h : k ≤ 1000) (hn : n = k + 1) : w64 ((k : Int) + 1) = (n : Int) := by
  rw [w64_id (by omega)]
  omega
theorem w64_diff {k m n : Nat} (h : k ≤ 1000) (hn : k = m + n) : w64 ((k : Int) - (m : Int)) = (n : Int) := by
  rw [w64_id (by omega)]
  omega
/-- What an insertion leaves as it was. -/
def Kept (s s' : St) (v v' : V) : Prop := (∀ l o, s l = some o → (∀ l0 o n c, v = .sli l0 o n c → l ≠ l0) → s' l = some o) ∧ ∃ l n c, v' = .sli l 0 n c ∧ (s l = none ∨ ∃ n' c', v = .sli l 0 n' c')
theorem Kept.same {s : St} {l n c n' c' : Nat} {v v' : V} {o : PObj} (h : v = .sli l 0 n c) (h' : v' = .sli l 0 n' c' := by rfl) : Kept s (s.set l o) v v' := by
  subst h h'
  exact ⟨fun l' o' ho hne => by rw [St.get_other (hne l _ _ _ rfl)]; exact ho, l, n', c', rfl, .inr ⟨_, _, rfl⟩⟩
theorem Kept.fresh {s : St} {l n c : Nat} {v v' : V} {o : PObj} (hl : s l = none) (h' : v' = .sli l 0 n c) : Kept s (s.set l o) v v' := by
  subst h'
  exact ⟨fun l' o' ho hne => by rw [St.get_other (by rintro rfl; rw [hl] at ho; cases ho)]; exact ho, l, n, c, rfl, .inl hl⟩
theorem Kept.set {s s' : St} {l n c : Nat} {v v' : V} {o : PObj} (hk : Kept s s' v v') (hv : v' = .sli l 0 n c) : Kept s (s'.set l o) v v' := by
  subst hv
  obtain ⟨h1, l', n', c', h2, h3⟩ := hk
  cases h2
  refine ⟨fun l0 o0 ho hne => ?_, _, _, _, rfl, h3⟩
  rw [St.get_other]
  · exact h1 l0 o0 ho hne
  · rintro rfl
    rcases h3 with h3 | ⟨n1, c1, h3⟩
    · rw [h3] at ho; cases ho
    · exact hne _ _ _ _ h3 rfl
set_option maxRecDepth 4000 in
set_option maxHeartbeats 2000000 in
theorem c135 (A B : List Note) (x : Note) (v : V) (hn : A.length + B.length ≤ 100) (hv : Held' s v (A ++ B)) (hq : ∀ v' s', Held' s' v' (A ++ x :: B) → Kept s s' v v' → Q v' s') : Call prog (.fn 135 [] []) [v, .int A.length, .lst [noteV x] .exact] s Q := by
  refine Call.fn F135 p135 rfl ?_
  simp only [F135]
  rcases hv with ⟨h1, rfl⟩ | ⟨l, c, r, rfl, hc, hl, hr⟩
  · obtain ⟨rfl, rfl⟩ := List.append_eq_nil_iff.1 h1
    repeat first|refine Wr ?_|refine Wb ?_|refine Wc ?_|refine Wd ?_|refine We ?_|refine Wf ?_|refine Wg ?_|refine Wh ?_|refine Wi ?_|refine Wj (by decide) ?_|refine Wa ?_|refine Wk ?_|refine Wl ?_|refine Wm ?_|refine Wn ?_|refine Wo ?_|refine Wp ?_|refine Wq ?_|refine Ww (by simp only[go_sem,List.length_nil,Int.natCast_zero];done) ?_|((first|refine Ws ?_|refine Wt ?_|refine Wu ?_|refine Wv (by simp only[go_sem,List.length_nil,Int.natCast_zero];done) ?_);conv=>arg 2;simp only[go_sem,List.length_nil,Int.natCast_zero])
    refine w_op ?_
    simp only [wpO, go_sem]
    refine ⟨by simp [maxLst], rfl, rfl, rfl, ?_⟩
    rw [if_neg (by simp)]
    intro l c' hl hc'
    repeat first|refine Wr ?_|refine Wb ?_|refine Wc ?_|refine Wd ?_|refine We ?_|refine Wf ?_|refine Wg ?_|refine Wh ?_|refine Wi ?_|refine Wj (by decide) ?_|refine Wa ?_|refine Wk ?_|refine Wl ?_|refine Wm ?_|refine Wn ?_|refine Wo ?_|refine Wp ?_|refine Wq ?_|refine Ww (by simp only[go_sem];done) ?_|((first|refine Ws ?_|refine Wt ?_|refine Wu ?_|refine Wv (by simp only[go_sem];done) ?_);conv=>arg 2;simp only[go_sem])
    first|refine w_retQ ?_|refine w_endQ ?_
    conv=>arg 1;simp only[go_sem]
    refine w_res (v := .sli l 0 1 c') (by simp only [go_sem]) (hq _ _ (.inr ⟨l, c', zeros zn (c' - 1), rfl, hc', ?_, by rw [zeros_length]; rfl⟩) (Kept.fresh hl rfl))
    rw [St.set_get]
    rfl
  · generalize hk : A.length = k at hn hq ⊢
    generalize hm : B.length = m at hn
    have hN : (A ++ B).length = k + m := by simp [hk, hm]
    rw [hN] at hc hr ⊢
    obtain ⟨v1, hv1⟩ := slcM_some (l := l) (o := 0) (sz := 4) (show k ≤ k + m by omega) hc
    have hmz : ((k : Int) == ((k + m : Nat) : Int)) = decide (m = 0) := by rw [Bool.eq_iff_iff]; simp; omega
    generalize hcs : notesC (A ++ B) ++ r = cs at hl
    have hcl : cs.length = c * 4 := by rw [← hcs, List.length_append, notesC_length, hN, hr]; omega
    have hsrc : ∀ s : St, srcOf s 4 (.lst [noteV x] .exact) = some (noteC x, 1) := fun s => rfl
    have htA : cs.take (k * 4) = notesC A := by
      rw [← hcs, notesC_append, List.append_assoc, ← hk, ← notesC_length, List.take_left]
    have hdA : cs.drop (k * 4) = notesC B ++ r := by
      rw [← hcs, notesC_append, List.append_assoc, ← hk, ← notesC_length, List.drop_left]
    by_cases hm0 : m = 0
    · subst hm0
      have hB : B = [] := List.length_eq_zero_iff.1 hm
      subst hB
      simp only [Nat.add_zero, List.append_nil, List.nil_append] at hv1 hc hr hcs hN hdA hmz ⊢
      repeat first|refine Wr ?_|refine Wb ?_|refine Wc ?_|refine Wd ?_|refine We ?_|refine Wf ?_|refine Wg ?_|refine Wh ?_|refine Wi ?_|refine Wj (by decide) ?_|refine Wa ?_|refine Wk ?_|refine Wl ?_|refine Wm ?_|refine Wn ?_|refine Wo ?_|refine Wp ?_|refine Wq ?_|refine Ww (by simp only[go_sem,hv1];done) ?_|((first|refine Ws ?_|refine Wt ?_|refine Wu ?_|refine Wv (by simp only[go_sem,hv1];done) ?_);conv=>arg 2;simp only[go_sem,hv1])
      refine w_op ?_
      simp only [wpO, go_sem, hsrc, hl]
      refine ⟨by simp [maxLst]; omega, by omega, ?_⟩
      by_cases hin : k + 1 ≤ c
      · rw [if_pos hin, if_pos (by simp [noteC]; omega)]
        simp only
        repeat first|refine Wr ?_|refine Wb ?_|refine Wc ?_|refine Wd ?_|refine We ?_|refine Wf ?_|refine Wg ?_|refine Wh ?_|refine Wi ?_|refine Wj (by decide) ?_|refine Wa ?_|refine Wk ?_|refine Wl ?_|refine Wm ?_|refine Wn ?_|refine Wo ?_|refine Wp ?_|refine Wq ?_|refine Ww (by simp only[go_sem];done) ?_|((first|refine Ws ?_|refine Wt ?_|refine Wu ?_|refine Wv (by simp only[go_sem];done) ?_);conv=>arg 2;simp only[go_sem])
        first|refine w_retQ ?_|refine w_endQ ?_
        conv=>arg 1;simp only[go_sem]
        refine w_res (v := .sli l 0 (k + 1) c) (by simp only [go_sem]) (hq _ _ (.inr ⟨l, c, cs.drop (k * 4 + 4), ?_, ?_, ?_, ?_⟩) (Kept.same rfl))
        · simp [hk]
        · simp [hk]; omega
        · rw [St.set_get, htA, notesC_append]
          have h1 : notesC [x] = noteC x := by simp [notesC]
          rw [h1]
          rfl
        · simp [hk, hcl]; omega
      · rw [if_neg hin]
        intro l' c' hl' hc'
        repeat first|refine Wr ?_|refine Wb ?_|refine Wc ?_|refine Wd ?_|refine We ?_|refine Wf ?_|refine Wg ?_|refine Wh ?_|refine Wi ?_|refine Wj (by decide) ?_|refine Wa ?_|refine Wk ?_|refine Wl ?_|refine Wm ?_|refine Wn ?_|refine Wo ?_|refine Wp ?_|refine Wq ?_|refine Ww (by simp only[go_sem];done) ?_|((first|refine Ws ?_|refine Wt ?_|refine Wu ?_|refine Wv (by simp only[go_sem];done) ?_);conv=>arg 2;simp only[go_sem])
        first|refine w_retQ ?_|refine w_endQ ?_
        conv=>arg 1;simp only[go_sem]
        refine w_res (v := .sli l' 0 (k + 1) c') (by simp only [go_sem]) (hq _ _ (.inr ⟨l', c', zeros zn (c' - (k + 1)), ?_, ?_, ?_, ?_⟩) (Kept.fresh hl' rfl))
        · simp [hk]
        · simp [hk]; omega
        · rw [St.set_get, htA, notesC_append]
          have h1 : notesC [x] = noteC x := by simp [notesC]
          rw [h1]
        · simp [hk, zeros_length]
    · generalize hN0 : k + m = N at hv1 ⊢
      obtain ⟨N1, hN1⟩ : ∃ N1, N1 = k + m + 1 := ⟨_, rfl⟩
      obtain ⟨k1, hk1⟩ : ∃ k1, k1 = k + 1 := ⟨_, rfl⟩
      obtain ⟨m1, hm1⟩ : ∃ m1, m1 = m + 1 := ⟨_, rfl⟩
      obtain ⟨k4, hk4⟩ : ∃ k4, k4 = k * 4 := ⟨_, rfl⟩
      obtain ⟨k14, hk14⟩ : ∃ k14, k14 = (k + 1) * 4 := ⟨_, rfl⟩
      have hk100 : k ≤ 100 := Nat.le_trans (Nat.le_add_right k m) hn
      have hmf : ((k : Int) == (N : Int)) = false := by simp; omega
      have hN1000 : N ≤ 1000 := by omega
      have hN1' : N1 = N + 1 := by omega
      have hN11000 : N1 ≤ 1000 := by omega
      have hNk : N1 = k + m1 := by omega
      have hk1000 : k ≤ 1000 := by omega
      have hmax : k + m1 ≤ maxLst := by simp [maxLst]; omega
      have hb0 : 0 + k * 4 ≤ cs.length := by omega
      have hnews1 : ((cs.drop k4).take (m1 * 4)).take (min m1 m * 4) = notesC B := by
        rw [hk4, hdA, List.take_take, show min (min m1 m * 4) (m1 * 4) = (notesC B).length by rw [notesC_length]; omega, List.take_left]
      have hnews2 : ((cs.drop k4).take (m * 4)).take (min m m * 4) = notesC B := by
        rw [hk4, hdA, List.take_take, show min (min m m * 4) (m * 4) = (notesC B).length by rw [notesC_length]; omega, List.take_left]
      have hnewsx : (([noteV x]).flatMap V.cells).take (min 1 m1 * 4) = noteC x := by
        rw [show min 1 m1 * 4 = 4 by omega]
        rfl
      have hxl : (noteC x).length = 4 := rfl
      have hBl : (notesC B).length = m * 4 := by rw [notesC_length, hm]
      have hAl : (notesC A).length = k * 4 := by rw [notesC_length, hk]
      have hABx : notesC (A ++ x :: B) = notesC A ++ noteC x ++ notesC B := by rw [notesC_append, notesC_cons, List.append_assoc]
      have hABl : (A ++ x :: B).length = N1 := by simp; omega
      rw [hN] at hq
      rw [hN0] at hq
      by_cases hgr : c < N1
      · have hgt : (N1 : Int) > (c : Int) := by omega
        have hgr' : c < k + m1 := by omega
        have hv2 := slcM_to (l := l) (o := 0) (sz := 4) (show k ≤ c by omega)
        have hwN : w64 ((N : Int) + 1) = (N1 : Int) := w64_succ hN1000 hN1'
        have hwm : w64 ((N1 : Int) - (k : Int)) = (m1 : Int) := w64_diff hN11000 hNk
        repeat first|refine Wr ?_|refine Wb ?_|refine Wc ?_|refine Wd ?_|refine We ?_|refine Wf ?_|refine Wg ?_|refine Wh ?_|refine Wi ?_|refine Wj (by decide) ?_|refine Wa ?_|refine Wk ?_|refine Wl ?_|refine Wm ?_|refine Wn ?_|refine Wo ?_|refine Wp ?_|refine Wq ?_|refine Ww (by simp only[go_sem,hv1,hmf,hwN,hgt,hv2,hwm];done) ?_|((first|refine Ws ?_|refine Wt ?_|refine Wu ?_|refine Wv (by simp only[go_sem,hv1,hmf,hwN,hgt,hv2,hwm];done) ?_);conv=>arg 2;simp only[go_sem,hv1,hmf,hwN,hgt,hv2,hwm])
        refine w_appendZnew (cs := cs) rfl (by simp only [go_sem] <;> rfl) (by simp only [go_sem] <;> rfl) hl hmax hb0 hgr' fun l' c' hl' hc' => ?_
        clear hwN hwm
        rw [← hNk] at hc' ⊢
        have hll : l ≠ l' := by rintro rfl; rw [hl] at hl'; cases hl'
        rw [List.drop_zero, htA]
        have hl1 : s.set l' (.cells (notesC A ++ zeros zn m1 ++ zeros zn (c' - N1))) l' = some (.cells (notesC A ++ zeros zn m1 ++ zeros zn (c' - N1))) := St.set_get
        have hcz : (notesC A ++ zeros zn m1 ++ zeros zn (c' - N1)).length = c' * 4 := by simp only [List.length_append, zeros_length, hAl]; omega
        have htz : (notesC A ++ zeros zn m1 ++ zeros zn (c' - N1)).take k4 = notesC A := by rw [List.append_assoc, hk4, ← hAl, List.take_left]
        generalize notesC A ++ zeros zn m1 ++ zeros zn (c' - N1) = cz at hl1 hcz htz ⊢
        obtain ⟨c3, hv3⟩ : ∃ c3, slcM 4 l' 0 c' (k : Int) (N1 : Int) none = some (.sli l' k4 m1 c3) := by
          have := slcM_at (l := l') (o := 0) (sz := 4) (show k ≤ N1 by omega) (show N1 ≤ c' by omega) (show k < c' by omega)
          rw [show N1 - k = m1 by omega, show 0 + k * 4 = k4 by omega] at this
          exact ⟨_, this⟩
        obtain ⟨c4, hv4⟩ : ∃ c4, slcM 4 l' 0 c' (k1 : Int) (N1 : Int) none = some (.sli l' k14 m c4) := by
          have := slcM_at (l := l') (o := 0) (sz := 4) (show k1 ≤ N1 by omega) (show N1 ≤ c' by omega) (show k1 < c' by omega)
          rw [show N1 - k1 = m by omega, show 0 + k1 * 4 = k14 by omega] at this
          exact ⟨_, this⟩
        obtain ⟨c5, hv5⟩ : ∃ c5, slcM 4 l 0 c (k : Int) (N : Int) none = some (.sli l k4 m c5) := by
          have := slcM_at (l := l) (o := 0) (sz := 4) (show k ≤ N by omega) (show N ≤ c by omega) (show k < c by omega)
          rw [show N - k = m by omega, show 0 + k * 4 = k4 by omega] at this
          exact ⟨_, this⟩
        have hbx : k4 + (noteC x).length ≤ cz.length := by omega
        have hbl : k4 + m * 4 ≤ cs.length := by omega
        generalize hc1 : cz.take k4 ++ noteC x ++ cz.drop (k4 + (noteC x).length) = cs1
        have hcs1 : cs1.length = c' * 4 := by rw [← hc1]; simp only [List.length_append, List.length_take, List.length_drop, hxl]; omega
        have htk1 : cs1.take k14 = notesC A ++ noteC x := by
          rw [← hc1, htz, show k14 = (notesC A ++ noteC x).length by simp only [List.length_append, hxl, hAl]; omega, List.take_left]
        have hb1 : k14 + (notesC B).length ≤ cs1.length := by omega
        have hlen : ((cs1.drop (k14 + (notesC B).length)).length) = (c' - N1) * 4 := by rw [List.length_drop]; omega
        have hwk : w64 ((k : Int) + 1) = (k1 : Int) := w64_succ hk1000 hk1
        repeat first|refine Wr ?_|refine Wb ?_|refine Wc ?_|refine Wd ?_|refine We ?_|refine Wf ?_|refine Wg ?_|refine Wh ?_|refine Wi ?_|refine Wj (by decide) ?_|refine Wa ?_|refine Wk ?_|refine Wl ?_|refine Wm ?_|refine Wn ?_|refine Wo ?_|refine Wp ?_|refine Wq ?_|refine Ww (by simp only[go_sem,hv3];done) ?_|((first|refine Ws ?_|refine Wt ?_|refine Wu ?_|refine Wv (by simp only[go_sem,hv3];done) ?_);conv=>arg 2;simp only[go_sem,hv3])
        refine w_copyL (cs := cz) (by simp only [go_sem] <;> rfl) (by simp only [go_sem] <;> rfl) hl1 rfl hnewsx hbx ?_
        rw [hc1]
        repeat first|refine Wr ?_|refine Wb ?_|refine Wc ?_|refine Wd ?_|refine We ?_|refine Wf ?_|refine Wg ?_|refine Wh ?_|refine Wi ?_|refine Wj (by decide) ?_|refine Wa ?_|refine Wk ?_|refine Wl ?_|refine Wm ?_|refine Wn ?_|refine Wo ?_|refine Wp ?_|refine Wq ?_|refine Ww (by simp only[go_sem,hwk,hv4,hv5];done) ?_|((first|refine Ws ?_|refine Wt ?_|refine Wu ?_|refine Wv (by simp only[go_sem,hwk,hv4,hv5];done) ?_);conv=>arg 2;simp only[go_sem,hwk,hv4,hv5])
        refine w_copyM (cs := cs1) (cs2 := cs) (by simp only [go_sem] <;> rfl) (by simp only [go_sem] <;> rfl) St.set_get (by rw [St.get_other hll, St.get_other hll]; exact hl) hbl hnews2 hb1 ?_
        repeat first|refine Wr ?_|refine Wb ?_|refine Wc ?_|refine Wd ?_|refine We ?_|refine Wf ?_|refine Wg ?_|refine Wh ?_|refine Wi ?_|refine Wj (by decide) ?_|refine Wa ?_|refine Wk ?_|refine Wl ?_|refine Wm ?_|refine Wn ?_|refine Wo ?_|refine Wp ?_|refine Wq ?_|refine Ww (by simp only[go_sem];done) ?_|((first|refine Ws ?_|refine Wt ?_|refine Wu ?_|refine Wv (by simp only[go_sem];done) ?_);conv=>arg 2;simp only[go_sem])
        first|refine w_retQ ?_|refine w_endQ ?_
        conv=>arg 1;simp only[go_sem]
        refine w_res (v := .sli l' 0 N1 c') (by simp only [go_sem]) (hq _ _ (.inr ⟨l', c', cs1.drop (k14 + (notesC B).length), by rw [hABl], ?_, ?_, ?_⟩) (((Kept.fresh hl' rfl).set rfl).set rfl))
        · rw [hABl]; exact hc'
        · rw [St.set_get, htk1, hABx]
        · rw [hABl]; exact hlen
      · have hgt : decide ((N1 : Int) > (c : Int)) = false := by simp; omega
        have hv2 := slcM_to (l := l) (o := 0) (sz := 4) (show N1 ≤ c by omega)
        obtain ⟨c1, hv3⟩ : ∃ c1, slcM 4 l 0 c (k1 : Int) (N1 : Int) none = some (.sli l k14 m c1) := by
          have := slcM_at (l := l) (o := 0) (sz := 4) (show k1 ≤ N1 by omega) (show N1 ≤ c by omega) (show k1 < c by omega)
          rw [show N1 - k1 = m by omega, show 0 + k1 * 4 = k14 by omega] at this
          exact ⟨_, this⟩
        obtain ⟨c2, hv4⟩ : ∃ c2, slcM 4 l 0 c (k : Int) (N1 : Int) none = some (.sli l k4 m1 c2) := by
          have := slcM_at (l := l) (o := 0) (sz := 4) (show k ≤ N1 by omega) (show N1 ≤ c by omega) (show k < c by omega)
          rw [show N1 - k = m1 by omega, show 0 + k * 4 = k4 by omega] at this
          exact ⟨_, this⟩
        have hbl : k4 + m1 * 4 ≤ cs.length := by omega
        have hb1 : k14 + (notesC B).length ≤ cs.length := by omega
        generalize hc1 : cs.take k14 ++ notesC B ++ cs.drop (k14 + (notesC B).length) = cs1
        have hcs1 : cs1.length = c * 4 := by rw [← hc1]; simp only [List.length_append, List.length_take, List.length_drop]; omega
        have htk1 : cs1.take k4 = notesC A := by
          rw [← hc1, List.append_assoc, List.take_append_of_le_length (by rw [List.length_take]; omega), List.take_take, show min k4 k14 = k * 4 by omega, htA]
        have hdk1 : cs1.drop (k4 + (noteC x).length) = notesC B ++ cs.drop (k14 + (notesC B).length) := by
          rw [← hc1, List.append_assoc, show k4 + (noteC x).length = (cs.take k14).length by rw [List.length_take, hxl]; omega, List.drop_left]
        have hbx : k4 + (noteC x).length ≤ cs1.length := by omega
        have hlen : ((cs.drop (k14 + (notesC B).length)).length) = (c - N1) * 4 := by rw [List.length_drop]; omega
        have hNc : N1 ≤ c := by omega
        have hwN : w64 ((N : Int) + 1) = (N1 : Int) := w64_succ hN1000 hN1'
        have hwk : w64 ((k : Int) + 1) = (k1 : Int) := w64_succ hk1000 hk1
        repeat first|refine Wr ?_|refine Wb ?_|refine Wc ?_|refine Wd ?_|refine We ?_|refine Wf ?_|refine Wg ?_|refine Wh ?_|refine Wi ?_|refine Wj (by decide) ?_|refine Wa ?_|refine Wk ?_|refine Wl ?_|refine Wm ?_|refine Wn ?_|refine Wo ?_|refine Wp ?_|refine Wq ?_|refine Ww (by simp only[go_sem,hv1,hmf,hwN,hwk,hgt,hv2,hv3,hv4];done) ?_|((first|refine Ws ?_|refine Wt ?_|refine Wu ?_|refine Wv (by simp only[go_sem,hv1,hmf,hwN,hwk,hgt,hv2,hv3,hv4];done) ?_);conv=>arg 2;simp only[go_sem,hv1,hmf,hwN,hwk,hgt,hv2,hv3,hv4])
        refine w_op ?_
        simp only [wpO, go_sem, hl]
        refine ⟨rfl, ?_⟩
        repeat first|refine Wr ?_|refine Wb ?_|refine Wc ?_|refine Wd ?_|refine We ?_|refine Wf ?_|refine Wg ?_|refine Wh ?_|refine Wi ?_|refine Wj (by decide) ?_|refine Wa ?_|refine Wk ?_|refine Wl ?_|refine Wm ?_|refine Wn ?_|refine Wo ?_|refine Wp ?_|refine Wq ?_|refine Ww (by simp only[go_sem,hv1,hmf,hwN,hwk,hgt,hv2,hv3,hv4];done) ?_|((first|refine Ws ?_|refine Wt ?_|refine Wu ?_|refine Wv (by simp only[go_sem,hv1,hmf,hwN,hwk,hgt,hv2,hv3,hv4];done) ?_);conv=>arg 2;simp only[go_sem,hv1,hmf,hwN,hwk,hgt,hv2,hv3,hv4])
        refine w_copyM (cs := cs) (cs2 := cs) (by simp only [go_sem] <;> rfl) (by simp only [go_sem] <;> rfl) hl hl hbl hnews1 hb1 ?_
        rw [hc1]
        repeat first|refine Wr ?_|refine Wb ?_|refine Wc ?_|refine Wd ?_|refine We ?_|refine Wf ?_|refine Wg ?_|refine Wh ?_|refine Wi ?_|refine Wj (by decide) ?_|refine Wa ?_|refine Wk ?_|refine Wl ?_|refine Wm ?_|refine Wn ?_|refine Wo ?_|refine Wp ?_|refine Wq ?_|refine Ww (by simp only[go_sem,hv4];done) ?_|((first|refine Ws ?_|refine Wt ?_|refine Wu ?_|refine Wv (by simp only[go_sem,hv4];done) ?_);conv=>arg 2;simp only[go_sem,hv4])
        refine w_copyL (cs := cs1) (by simp only [go_sem] <;> rfl) (by simp only [go_sem] <;> rfl) St.set_get rfl hnewsx hbx ?_
        repeat first|refine Wr ?_|refine Wb ?_|refine Wc ?_|refine Wd ?_|refine We ?_|refine Wf ?_|refine Wg ?_|refine Wh ?_|refine Wi ?_|refine Wj (by decide) ?_|refine Wa ?_|refine Wk ?_|refine Wl ?_|refine Wm ?_|refine Wn ?_|refine Wo ?_|refine Wp ?_|refine Wq ?_|refine Ww (by simp only[go_sem];done) ?_|((first|refine Ws ?_|refine Wt ?_|refine Wu ?_|refine Wv (by simp only[go_sem];done) ?_);conv=>arg 2;simp only[go_sem])
        first|refine w_retQ ?_|refine w_endQ ?_
        conv=>arg 1;simp only[go_sem]
        refine w_res (v := .sli l 0 N1 c) (by simp only [go_sem]) (hq _ _ (.inr ⟨l, c, cs.drop (k14 + (notesC B).length), by rw [hABl], ?_, ?_, ?_⟩) ((Kept.same rfl rfl).set rfl))
        · rw [hABl]; exact hNc
        · rw [St.set_get, htk1, hdk1, hABx]
          simp only [List.append_assoc]
        · rw [hABl]; exact hlen

/-- A book with a note more, behind all notes that are not later. -/
def withN (b : Book) (x : Note) : Book := ⟨b.lo, b.hi, before x.hour b.notes ++ x :: later x.hour b.notes⟩
theorem withN_ok {b : Book} {x : Note} (h1 : ok b) (h2 : okNote x) : ok' (withN b x) := by
  refine ⟨h1.1, ?_, ?_⟩
  · have h3 := congrArg List.length (before_later x.hour b.notes)
    have h4 := h1.2.1
    simp [withN] at h3 ⊢
    omega
  · have h3 := h1.2.2
    rw [← before_later x.hour b.notes, okNotes_append] at h3
    show okNotes 0 (before x.hour b.notes ++ x :: later x.hour b.notes)
    rw [okNotes_append]
    refine ⟨h3.1, ⟨h2, hourOf_before h2.2.1.1 before_all⟩, okNotes_later h3.2 fun y r e => Int.le_of_lt (later_first e)⟩
theorem notes_cond {b : Book} {h : Int} {k : Nat} (hk : k ≤ (before h b.notes).length) :
    (k < (before h b.notes).length ∧ (k : Int) < (b.notes.length : Int) ∧ ∃ x : Note, (notesV b.notes)[((k : Int)).toNat]? = some (.agg [.int x.kind, .int x.hour, .int x.lo, .int x.hi]) ∧ x.hour ≤ h) ∨
    (k = (before h b.notes).length ∧ ((¬ (k : Int) < (b.notes.length : Int)) ∨ ((k : Int) < (b.notes.length : Int) ∧ ∃ x : Note, (notesV b.notes)[((k : Int)).toNat]? = some (.agg [.int x.kind, .int x.hour, .int x.lo, .int x.hi]) ∧ ¬ x.hour ≤ h))) := by
  have hbl := before_later h b.notes
  have hll : (before h b.notes).length + (later h b.notes).length = b.notes.length := by rw [← List.length_append, hbl]
  by_cases hk2 : k < (before h b.notes).length
  · left
    obtain ⟨a, x, r, hab, hal, hdr⟩ := drop_at (ns := b.notes) (k := k) (by omega)
    refine ⟨hk2, by omega, x, by rw [← hal, hab]; exact notesV_at, ?_⟩
    refine before_all (ns := b.notes) x ?_
    have h1 : b.notes[k]? = some x := by rw [hab, ← hal]; simp
    rw [← hbl, List.getElem?_append_left hk2] at h1
    exact List.mem_of_getElem? h1
  · have hke : k = (before h b.notes).length := by omega
    refine .inr ⟨hke, ?_⟩
    cases hl : later h b.notes with
    | nil =>
      left
      rw [hl] at hll
      simp at hll
      omega
    | cons x r =>
      right
      have h1 := later_first hl
      rw [hl] at hbl hll
      refine ⟨by simp at hll; omega, x, ?_, by omega⟩
      rw [← hbl, hke]
      exact notesV_at

open Classical in
set_option maxHeartbeats 1000000 in
theorem c42 (b : Book) (x : Note) (hlen : (b.notes.length : Int) < 9223372036854775808) (hq : ∀ s', s ≤ s' → Q (.tup [.bool (decide (ok b ∧ okNote x ∧ can (withN b x))), .int (if ok b then (if okNote x then 0 else 31) else 30)]) s') : Call prog (.fn 42 [] []) [bookV b, noteV x] s Q := by
  refine Call.fn F42 p42 rfl ?_
  simp only [F42, bookV, noteV]
  by_cases h1 : ok b
  · by_cases h2 : okNote x
    · have hl8 : (b.notes.length : Int) ≤ 8 := by have := h1.2.1; omega
      have hl100 : b.notes.length ≤ 100 := h1.len
      repeat first|refine Wr ?_|refine Wb ?_|refine Wc ?_|refine Wd ?_|refine We ?_|refine Wf ?_|refine Wg ?_|refine Wh ?_|refine Wi ?_|refine Wj (by decide) ?_|refine Wa ?_|refine Wk ?_|refine Wl ?_|refine Wm ?_|refine Wn ?_|refine Wo ?_|refine Wp ?_|refine Wq ?_|refine Ww (by simp only[go_sem,h1,h2];done) ?_|((first|refine Ws ?_|refine Wt ?_|refine Wu ?_|refine Wv (by simp only[go_sem,h1,h2];done) ?_);conv=>arg 2;simp only[go_sem,h1,h2])|(refine Wx (by simp only[go_sem,h1,h2];rfl) (by simp only[go_sem,h1,h2];rfl) ?_;first|refine c29 b hlen ?_|refine c114 x ?_)
      refine w_iter (fun n e s' => ∃ k : Nat, n = b.notes.length - k ∧ k ≤ (before x.hour b.notes).length ∧ e 2 = .agg [.int b.lo, .int b.hi, .lst (notesV b.notes) .any] ∧ e 3 = .agg [.int x.kind, .int x.hour, .int x.lo, .int x.hi] ∧ e 7 = .int k ∧ s' = s) b.notes.length ?_ ?_
      · refine ⟨0, by simp, by omega, ?_, ?_, ?_, rfl⟩
        any_goals (simp only [go_sem, Int.natCast_zero]; done)
      · rintro n e s' ⟨k, hn, hk, e2, e3, e7, rfl⟩
        have hbl := before_later x.hour b.notes
        have hll : (before x.hour b.notes).length + (later x.hour b.notes).length = b.notes.length := by rw [← List.length_append, hbl]
        have hp : 0 ≤ (k : Int) := by omega
        rcases notes_cond hk with ⟨g1, g2, y, g3, g4⟩ | ⟨g1, g2⟩
        · have hw : w64 ((k : Int) + 1) = ((k + 1 : Nat) : Int) := w64_succ (by omega) rfl
          repeat first|refine Wr ?_|refine Wb ?_|refine Wc ?_|refine Wd ?_|refine We ?_|refine Wf ?_|refine Wg ?_|refine Wh ?_|refine Wi ?_|refine Wj (by decide) ?_|refine Wa ?_|refine Wk ?_|refine Wl ?_|refine Wm ?_|refine Wn ?_|refine Wo ?_|refine Wp ?_|refine Wq ?_|refine Ww (by simp only[go_sem,e2,e3,e7,notesV_length,g2,g3,g4,hp,hw];done) ?_|((first|refine Ws ?_|refine Wt ?_|refine Wu ?_|refine Wv (by simp only[go_sem,e2,e3,e7,notesV_length,g2,g3,g4,hp,hw];done) ?_);conv=>arg 2;simp only[go_sem,e2,e3,e7,notesV_length,g2,g3,g4,hp,hw])
          refine ⟨_, ?_, k + 1, rfl, by omega, ?_, ?_, ?_, rfl⟩
          any_goals (simp only [go_sem, e2, e3, e7, hw]; done)
          omega
        · rcases g2 with g2 | ⟨g2, y, g3, g4⟩
          · repeat first|refine Wr ?_|refine Wb ?_|refine Wc ?_|refine Wd ?_|refine We ?_|refine Wf ?_|refine Wg ?_|refine Wh ?_|refine Wi ?_|refine Wj (by decide) ?_|refine Wa ?_|refine Wk ?_|refine Wl ?_|refine Wm ?_|refine Wn ?_|refine Wo ?_|refine Wp ?_|refine Wq ?_|refine Ww (by simp only[go_sem,e2,e3,e7,notesV_length,g2];done) ?_|((first|refine Ws ?_|refine Wt ?_|refine Wu ?_|refine Wv (by simp only[go_sem,e2,e3,e7,notesV_length,g2];done) ?_);conv=>arg 2;simp only[go_sem,e2,e3,e7,notesV_length,g2])|(refine Wx (by simp only[go_sem,e2,e3,e7,notesV_length,g2];rfl) (by simp only[go_sem,e2,e3,e7,notesV_length,g2];rfl) ?_;refine c136 b.notes hl100 fun v s1 q1 q2 q3 => ?_)
            have hpv : Hu.pass true v = v := by rcases q1 with ⟨_, rfl⟩ | ⟨l, c, r, rfl, _⟩ <;> rfl
            refine w_callT (as := [v, .int ((before x.hour b.notes).length : Nat), .lst [noteV x] .exact]) true (by simp only [go_sem]; rfl) ?_ ?_
            · simp only [go_sem, List.map_cons, List.map_nil, hpv, ← g1]
              try rfl
            refine c135 (before x.hour b.notes) (later x.hour b.notes) x v (by omega) (by rw [hbl]; exact q1) fun v' s2 f1 f2 => ?_
            rcases f1 with ⟨f1, _⟩ | ⟨l, c, r, rfl, f3, f4, f5⟩
            · simp at f1
            have hle : s' ≤ s2 := fun l0 o ho => f2.1 l0 o (q2 _ _ ho) fun l1 o1 n1 c1 hv1 => by rintro rfl; rw [q3 _ _ _ _ hv1] at ho; cases ho
            have hl0 : s' l = none := by
              obtain ⟨l', n', c', h3, h4⟩ := f2.2
              cases h3
              rcases h4 with h4 | ⟨n', c', h4⟩
              · cases ho : s' l with
                | none => rfl
                | some o => rw [q2 _ _ ho] at h4; cases h4
              · exact q3 _ _ _ _ h4
            have hnl : before x.hour b.notes ++ x :: later x.hour b.notes = (withN b x).notes := rfl
            rw [hnl] at f3 f4 f5
            have hcl : (withN b x).notes.length * 4 ≤ (notesC (withN b x).notes ++ r).length := by
              rw [List.length_append, notesC_length]; omega
            rw [hnl]
            repeat first|refine Wr ?_|refine Wb ?_|refine Wc ?_|refine Wd ?_|refine We ?_|refine Wf ?_|refine Wg ?_|refine Wh ?_|refine Wi ?_|refine Wj (by decide) ?_|refine Wa ?_|refine Wk ?_|refine Wl ?_|refine Wm ?_|refine Wn ?_|refine Wo ?_|refine Wp ?_|refine Wq ?_|refine Ww (by simp only[go_sem];done) ?_|((first|refine Ws ?_|refine Wt ?_|refine Wu ?_|refine Wv (by simp only[go_sem];done) ?_);conv=>arg 2;simp only[go_sem])
            refine w_op ?_
            simp only [wpO, go_sem, f4]
            refine ⟨f3, hcl, ?_⟩
            rw [chunk_notes]
            have hok := withN_ok h1 h2
            have hkk : ∀ n ∈ (withN b x).notes, 0 ≤ n.kind ∧ n.kind ≤ 4 := fun n hn => (okNotes_kind hok.2.2 n hn).1
            have hl100' : (withN b x).notes.length ≤ 100 := by have := hok.2.1; omega
            have hbk : V.agg [.int b.lo, .int b.hi, .lst (notesV (withN b x).notes) .any] = bookV (withN b x) := rfl
            repeat first|refine Wr ?_|refine Wb ?_|refine Wc ?_|refine Wd ?_|refine We ?_|refine Wf ?_|refine Wg ?_|refine Wh ?_|refine Wi ?_|refine Wj (by decide) ?_|refine Wa ?_|refine Wk ?_|refine Wl ?_|refine Wm ?_|refine Wn ?_|refine Wo ?_|refine Wp ?_|refine Wq ?_|refine Ww (by simp only[go_sem,hbk];done) ?_|((first|refine Ws ?_|refine Wt ?_|refine Wu ?_|refine Wv (by simp only[go_sem,hbk];done) ?_);conv=>arg 2;simp only[go_sem,hbk])|(refine Wx (by simp only[go_sem,hbk];rfl) (by simp only[go_sem,hbk];rfl) ?_;first|refine c110 (withN b x) hl100' hkk ?_|refine c111 (withN b x) hok fun s3 f6 => ?_)
            first|refine w_retQ ?_|refine w_endQ ?_
            conv=>arg 1;simp only[go_sem]
            refine w_res (by simp only [go_sem, h1, h2, true_and, if_true]) (hq s3 (St.le_trans (St.le_set hle hl0) f6))
          · repeat first|refine Wr ?_|refine Wb ?_|refine Wc ?_|refine Wd ?_|refine We ?_|refine Wf ?_|refine Wg ?_|refine Wh ?_|refine Wi ?_|refine Wj (by decide) ?_|refine Wa ?_|refine Wk ?_|refine Wl ?_|refine Wm ?_|refine Wn ?_|refine Wo ?_|refine Wp ?_|refine Wq ?_|refine Ww (by simp only[go_sem,e2,e3,e7,notesV_length,g2,g3,g4,hp];done) ?_|((first|refine Ws ?_|refine Wt ?_|refine Wu ?_|refine Wv (by simp only[go_sem,e2,e3,e7,notesV_length,g2,g3,g4,hp];done) ?_);conv=>arg 2;simp only[go_sem,e2,e3,e7,notesV_length,g2,g3,g4,hp])|(refine Wx (by simp only[go_sem,e2,e3,e7,notesV_length,g2,g3,g4,hp];rfl) (by simp only[go_sem,e2,e3,e7,notesV_length,g2,g3,g4,hp];rfl) ?_;refine c136 b.notes hl100 fun v s1 q1 q2 q3 => ?_)
            have hpv : Hu.pass true v = v := by rcases q1 with ⟨_, rfl⟩ | ⟨l, c, r, rfl, _⟩ <;> rfl
            refine w_callT (as := [v, .int ((before x.hour b.notes).length : Nat), .lst [noteV x] .exact]) true (by simp only [go_sem]; rfl) ?_ ?_
            · simp only [go_sem, List.map_cons, List.map_nil, hpv, ← g1]
              try rfl
            refine c135 (before x.hour b.notes) (later x.hour b.notes) x v (by omega) (by rw [hbl]; exact q1) fun v' s2 f1 f2 => ?_
            rcases f1 with ⟨f1, _⟩ | ⟨l, c, r, rfl, f3, f4, f5⟩
            · simp at f1
            have hle : s' ≤ s2 := fun l0 o ho => f2.1 l0 o (q2 _ _ ho) fun l1 o1 n1 c1 hv1 => by rintro rfl; rw [q3 _ _ _ _ hv1] at ho; cases ho
            have hl0 : s' l = none := by
              obtain ⟨l', n', c', h3, h4⟩ := f2.2
              cases h3
              rcases h4 with h4 | ⟨n', c', h4⟩
              · cases ho : s' l with
                | none => rfl
                | some o => rw [q2 _ _ ho] at h4; cases h4
              · exact q3 _ _ _ _ h4
            have hnl : before x.hour b.notes ++ x :: later x.hour b.notes = (withN b x).notes := rfl
            rw [hnl] at f3 f4 f5
            have hcl : (withN b x).notes.length * 4 ≤ (notesC (withN b x).notes ++ r).length := by
              rw [List.length_append, notesC_length]; omega
            rw [hnl]
            repeat first|refine Wr ?_|refine Wb ?_|refine Wc ?_|refine Wd ?_|refine We ?_|refine Wf ?_|refine Wg ?_|refine Wh ?_|refine Wi ?_|refine Wj (by decide) ?_|refine Wa ?_|refine Wk ?_|refine Wl ?_|refine Wm ?_|refine Wn ?_|refine Wo ?_|refine Wp ?_|refine Wq ?_|refine Ww (by simp only[go_sem];done) ?_|((first|refine Ws ?_|refine Wt ?_|refine Wu ?_|refine Wv (by simp only[go_sem];done) ?_);conv=>arg 2;simp only[go_sem])
            refine w_op ?_
            simp only [wpO, go_sem, f4]
            refine ⟨f3, hcl, ?_⟩
            rw [chunk_notes]
            have hok := withN_ok h1 h2
            have hkk : ∀ n ∈ (withN b x).notes, 0 ≤ n.kind ∧ n.kind ≤ 4 := fun n hn => (okNotes_kind hok.2.2 n hn).1
            have hl100' : (withN b x).notes.length ≤ 100 := by have := hok.2.1; omega
            have hbk : V.agg [.int b.lo, .int b.hi, .lst (notesV (withN b x).notes) .any] = bookV (withN b x) := rfl
            repeat first|refine Wr ?_|refine Wb ?_|refine Wc ?_|refine Wd ?_|refine We ?_|refine Wf ?_|refine Wg ?_|refine Wh ?_|refine Wi ?_|refine Wj (by decide) ?_|refine Wa ?_|refine Wk ?_|refine Wl ?_|refine Wm ?_|refine Wn ?_|refine Wo ?_|refine Wp ?_|refine Wq ?_|refine Ww (by simp only[go_sem,hbk];done) ?_|((first|refine Ws ?_|refine Wt ?_|refine Wu ?_|refine Wv (by simp only[go_sem,hbk];done) ?_);conv=>arg 2;simp only[go_sem,hbk])|(refine Wx (by simp only[go_sem,hbk];rfl) (by simp only[go_sem,hbk];rfl) ?_;first|refine c110 (withN b x) hl100' hkk ?_|refine c111 (withN b x) hok fun s3 f6 => ?_)
            first|refine w_retQ ?_|refine w_endQ ?_
            conv=>arg 1;simp only[go_sem]
            refine w_res (by simp only [go_sem, h1, h2, true_and, if_true]) (hq s3 (St.le_trans (St.le_set hle hl0) f6))
    · repeat first|refine Wr ?_|refine Wb ?_|refine Wc ?_|refine Wd ?_|refine We ?_|refine Wf ?_|refine Wg ?_|refine Wh ?_|refine Wi ?_|refine Wj (by decide) ?_|refine Wa ?_|refine Wk ?_|refine Wl ?_|refine Wm ?_|refine Wn ?_|refine Wo ?_|refine Wp ?_|refine Wq ?_|refine Ww (by simp only[go_sem,h1,h2];done) ?_|((first|refine Ws ?_|refine Wt ?_|refine Wu ?_|refine Wv (by simp only[go_sem,h1,h2];done) ?_);conv=>arg 2;simp only[go_sem,h1,h2])|(refine Wx (by simp only[go_sem,h1,h2];rfl) (by simp only[go_sem,h1,h2];rfl) ?_;first|refine c29 b hlen ?_|refine c114 x ?_)
      first|refine w_retQ ?_|refine w_endQ ?_
      conv=>arg 1;simp only[go_sem]
      exact w_res (by simp only [go_sem, h1, h2, false_and, and_false, decide_false, if_false, if_true]) (hq s (St.le_refl s))
  · repeat first|refine Wr ?_|refine Wb ?_|refine Wc ?_|refine Wd ?_|refine We ?_|refine Wf ?_|refine Wg ?_|refine Wh ?_|refine Wi ?_|refine Wj (by decide) ?_|refine Wa ?_|refine Wk ?_|refine Wl ?_|refine Wm ?_|refine Wn ?_|refine Wo ?_|refine Wp ?_|refine Wq ?_|refine Ww (by simp only[go_sem,h1];done) ?_|((first|refine Ws ?_|refine Wt ?_|refine Wu ?_|refine Wv (by simp only[go_sem,h1];done) ?_);conv=>arg 2;simp only[go_sem,h1])|(refine Wx (by simp only[go_sem,h1];rfl) (by simp only[go_sem,h1];rfl) ?_;refine c29 b hlen ?_)
    first|refine w_retQ ?_|refine w_endQ ?_
    conv=>arg 1;simp only[go_sem]
    exact w_res (by simp only [go_sem, h1, false_and, decide_false, if_false]) (hq s (St.le_refl s))
end Go.Hu.Sn

set_option linter.unusedSimpArgs false
set_option linter.unusedVariables false
namespace Go.Hu.Sn
attribute [local irreducible] wpS wpIs wpI
attribute [local go_sem] Nat.mul_one Nat.one_mul Nat.zero_add Nat.add_zero Nat.zero_mul and_self and_true true_and decide_true decide_false Bool.false_eq_true if_true if_false Int.cast_ofNat_Int Int.zero_le_ofNat Int.le_refl Int.reduceLT Int.reduceLE Int.reduceToNat

variable {s : St} {Q : V → St → Prop}

theorem c214 (l : List Int) (x : Int) (hl : (l.length : Int) < 9223372036854775808) (hq : ∀ r : Int, (0 ≤ r ↔ x ∈ l) → Q (.int r) s) : Call prog (.fn 214 [] []) [.lst (intsV l) .any, .int x] s Q := by
  refine Call.fn F214 p214 rfl ?_
  simp only [F214]
  repeat first|refine Wr ?_|refine Wb ?_|refine Wc ?_|refine Wd ?_|refine We ?_|refine Wf ?_|refine Wg ?_|refine Wh ?_|refine Wi ?_|refine Wj (by decide) ?_|refine Wa ?_|refine Wk ?_|refine Wl ?_|refine Wm ?_|refine Wn ?_|refine Wo ?_|refine Wp ?_|refine Wq ?_|refine Ww (by simp only[go_sem,intsV_length];done) ?_|((first|refine Ws ?_|refine Wt ?_|refine Wu ?_|refine Wv (by simp only[go_sem,intsV_length];done) ?_);conv=>arg 2;simp only[go_sem,intsV_length])
  refine w_iter (fun n e s' => ∃ (c r : List Int), l = c ++ r ∧ r.length = n ∧ x ∉ c ∧ e 0 = .lst (intsV l) .any ∧ e 1 = .int x ∧ e 7 = .int l.length ∧ e 8 = .int c.length ∧ s' = s) l.length ?_ ?_
  · refine ⟨[], l, rfl, rfl, by simp, ?_, ?_, ?_, ?_, rfl⟩
    any_goals (simp only [go_sem, intsV_length, List.length_nil, Int.natCast_zero]; done)
  · rintro n e s' ⟨c, r, hcr, hrn, hxc, e0, e1, e7, e8, rfl⟩
    cases r with
    | nil =>
      have hlt : ¬ ((c.length : Int) < (l.length : Int)) := by rw [hcr]; simp
      repeat first|refine Wr ?_|refine Wb ?_|refine Wc ?_|refine Wd ?_|refine We ?_|refine Wf ?_|refine Wg ?_|refine Wh ?_|refine Wi ?_|refine Wj (by decide) ?_|refine Wa ?_|refine Wk ?_|refine Wl ?_|refine Wm ?_|refine Wn ?_|refine Wo ?_|refine Wp ?_|refine Wq ?_|refine Ww (by simp only[go_sem,e0,e1,e7,e8,hlt];done) ?_|((first|refine Ws ?_|refine Wt ?_|refine Wu ?_|refine Wv (by simp only[go_sem,e0,e1,e7,e8,hlt];done) ?_);conv=>arg 2;simp only[go_sem,e0,e1,e7,e8,hlt])
      first|refine w_retQ ?_|refine w_endQ ?_
      conv=>arg 1;simp only[go_sem]
      have : l = c := by simpa using hcr
      exact w_res (v := .int (-1)) (by simp only [go_sem]) (hq _ (by rw [this]; simp [hxc]))
    | cons y r =>
      have hlt : ((c.length : Int) < (l.length : Int)) := by rw [hcr]; simp; omega
      have hx : (intsV l)[((c.length : Int)).toNat]? = some (.int y) := by rw [hcr]; exact intsV_at
      have hp : 0 ≤ (c.length : Int) := by omega
      have hw : w64 ((c.length : Int) + 1) = (c ++ [y]).length := by rw [w64_id (by omega)]; simp
      by_cases hxy : x = y
      · have hbe : (x == y) = true := by simp [hxy]
        repeat first|refine Wr ?_|refine Wb ?_|refine Wc ?_|refine Wd ?_|refine We ?_|refine Wf ?_|refine Wg ?_|refine Wh ?_|refine Wi ?_|refine Wj (by decide) ?_|refine Wa ?_|refine Wk ?_|refine Wl ?_|refine Wm ?_|refine Wn ?_|refine Wo ?_|refine Wp ?_|refine Wq ?_|refine Ww (by simp only[go_sem,e0,e1,e7,e8,hlt,hx,hp,hw,hbe];done) ?_|((first|refine Ws ?_|refine Wt ?_|refine Wu ?_|refine Wv (by simp only[go_sem,e0,e1,e7,e8,hlt,hx,hp,hw,hbe];done) ?_);conv=>arg 2;simp only[go_sem,e0,e1,e7,e8,hlt,hx,hp,hw,hbe])
        first|refine w_retQ ?_|refine w_endQ ?_
        conv=>arg 1;simp only[go_sem]
        exact w_res (v := .int c.length) (by simp only [go_sem]) (hq _ (by rw [hcr]; simp [hxy]))
      · have hbe : (x == y) = false := by simp [hxy]
        repeat first|refine Wr ?_|refine Wb ?_|refine Wc ?_|refine Wd ?_|refine We ?_|refine Wf ?_|refine Wg ?_|refine Wh ?_|refine Wi ?_|refine Wj (by decide) ?_|refine Wa ?_|refine Wk ?_|refine Wl ?_|refine Wm ?_|refine Wn ?_|refine Wo ?_|refine Wp ?_|refine Wq ?_|refine Ww (by simp only[go_sem,e0,e1,e7,e8,hlt,hx,hp,hw,hbe];done) ?_|((first|refine Ws ?_|refine Wt ?_|refine Wu ?_|refine Wv (by simp only[go_sem,e0,e1,e7,e8,hlt,hx,hp,hw,hbe];done) ?_);conv=>arg 2;simp only[go_sem,e0,e1,e7,e8,hlt,hx,hp,hw,hbe])
        refine ⟨r.length, by simp at hrn; omega, c ++ [y], r, by simp [hcr], rfl, by simp [hxc, hxy], ?_, ?_, ?_, ?_, rfl⟩
        any_goals (simp only [go_sem, e0, e1, e7, e8, hw]; done)
theorem c139 (l : List Int) (x : Int) (hl : (l.length : Int) < 9223372036854775808) (hq : Q (.bool (decide (x ∈ l))) s) : Call prog (.fn 139 [] []) [.lst (intsV l) .any, .int x] s Q := by
  refine Call.fn F139 p139 rfl ?_
  simp only [F139]
  repeat first|refine Wr ?_|refine Wb ?_|refine Wc ?_|refine Wd ?_|refine We ?_|refine Wf ?_|refine Wg ?_|refine Wh ?_|refine Wi ?_|refine Wj (by decide) ?_|refine Wa ?_|refine Wk ?_|refine Wl ?_|refine Wm ?_|refine Wn ?_|refine Wo ?_|refine Wp ?_|refine Wq ?_|refine Ww (by simp only[go_sem];done) ?_|((first|refine Ws ?_|refine Wt ?_|refine Wu ?_|refine Wv (by simp only[go_sem];done) ?_);conv=>arg 2;simp only[go_sem])|(refine Wx (by simp only[go_sem];rfl) (by simp only[go_sem];rfl) ?_;refine c214 l x hl fun r hr => ?_)
  first|refine w_retQ ?_|refine w_endQ ?_
  conv=>arg 1;simp only[go_sem]
  have : decide (r ≥ 0) = decide (x ∈ l) := by simp only [ge_iff_le, hr]
  exact w_res (by simp only [go_sem, this]) hq

/-- Notes without some (by their places). -/
def wo (l : List Int) : Int → List Note → List Note
  | _, [] => []
  | i, n :: ns => if i ∈ l then wo l (i + 1) ns else n :: wo l (i + 1) ns
theorem wo_append (l : List Int) : ∀ (a : List Note) (i : Int) (b : List Note), wo l i (a ++ b) = wo l i a ++ wo l (i + a.length) b
  | [], i, b => by simp [wo]
  | n :: a, i, b => by
    have h := wo_append l a (i + 1) b
    have e : i + 1 + (a.length : Int) = i + ((n :: a).length : Int) := by simp; omega
    rw [e] at h
    simp only [List.cons_append, wo, h]
    split <;> simp
theorem wo_len (l : List Int) : ∀ (a : List Note) (i : Int), (wo l i a).length ≤ a.length
  | [], i => by simp [wo]
  | n :: a, i => by
    have h := wo_len l a (i + 1)
    simp only [wo]
    split <;> simp <;> omega
theorem wo_ok (l : List Int) : ∀ (a : List Note) (i h : Int), okNotes h a → okNotes h (wo l i a)
  | [], i, h, _ => trivial
  | n :: a, i, h, hn => by
    have h1 := wo_ok l a (i + 1) n.hour hn.2
    simp only [wo]
    split
    · exact okNotes_mono hn.1.2 h1
    · exact ⟨hn.1, h1⟩
where okNotes_mono {h h' : Int} : ∀ {ns : List Note}, h ≤ h' → okNotes h' ns → okNotes h ns
  | [], _, _ => trivial
  | x :: r, hh, hn => ⟨⟨hn.1.1, Int.le_trans hh hn.1.2⟩, hn.2⟩
def withoutN (b : Book) (l : List Int) : Book := ⟨b.lo, b.hi, wo l 0 b.notes⟩
theorem withoutN_ok {b : Book} (hb : ok b) (l : List Int) : ok (withoutN b l) := ⟨hb.1, Nat.le_trans (wo_len l b.notes 0) hb.2.1, wo_ok l b.notes 0 0 hb.2.2⟩

/-- All rising lists of so many numbers from one on, below another one, in order. -/
def subs (n : Nat) : Nat → Nat → List (List Int)
  | 0, _ => [[]]
  | m + 1, from' => (List.range' from' (n - from')).flatMap fun k => (subs n m (k + 1)).map fun l => ((k : Nat) : Int) :: l
def nextOf (l : List Int) : Nat := match l.getLast? with | some x => x.toNat + 1 | none => 0
theorem nextOf_snoc (l : List Int) (k : Nat) : nextOf (l ++ [(k : Int)]) = k + 1 := by simp [nextOf]

open Classical in
/-- The first choice that goes on with some numbers, so many more, behind which the book can be true. -/
noncomputable def pickL (b : Book) (m : Nat) (l : List Int) : Option (List Int) := ((subs b.notes.length m (nextOf l)).map (l ++ ·)).find? fun l => decide (can (withoutN b l))
theorem pickL_zero (b : Book) (l : List Int) [Decidable (can (withoutN b l))] : pickL b 0 l = if can (withoutN b l) then some l else none := by
  unfold pickL
  simp only [subs, List.map_cons, List.map_nil, List.append_nil, List.find?_cons, List.find?_nil]
  by_cases h : can (withoutN b l) <;> simp [h]
theorem pickL_succ (b : Book) (m : Nat) (l : List Int) : pickL b (m + 1) l = (List.range' (nextOf l) (b.notes.length - nextOf l)).findSome? fun (k : Nat) => pickL b m (l ++ [(k : Int)]) := by
  unfold pickL
  simp only [subs, List.map_flatMap, List.find?_flatMap, nextOf_snoc, List.map_map]
  congr 1
  funext k
  congr 1
  apply List.map_congr_left
  intro x _
  simp
theorem range_split {a n k : Nat} (h1 : a ≤ k) (h2 : k < n) : List.range' a (n - a) = List.range' a (k - a) ++ k :: List.range' (k + 1) (n - (k + 1)) := by
  have h : n - a = (k - a) + (1 + (n - (k + 1))) := by omega
  rw [h, ← List.range'_append_1, show a + (k - a) = k by omega, Nat.add_comm 1, List.range'_succ]
/-- What 'choose' returns. -/
def IsChosen (r : Option (List Int)) (v : V) : Prop := match r with
  | some l => v = .tup [.lst (intsV l) .any, .bool true]
  | none => ∃ xs, v = .tup [.lst (intsV xs) .any, .bool false]
theorem bookC (b : Book) : bookV b = .agg [.int b.lo, .int b.hi, .lst (notesV b.notes) .any] := rfl

open Classical in
set_option maxHeartbeats 2000000 in
theorem c138 (b : Book) (hb : ok b) (lg : Nat) : ∀ (m : Nat) (l : List Int) (s : St) (Q : V → St → Prop), s lg = some (.cells [.fn 138 [] [.rptr [.int b.lo, .int b.hi, .lst (notesV b.notes) .any] 0, .ptr lg 0]]) →
    l.length ≤ 8 → l.length + m ≤ 8 → (∀ x ∈ l, 0 ≤ x ∧ x ≤ 8) → (∀ v s', IsChosen (pickL b m l) v → s ≤ s' → Q v s') →
    Call prog (.fn 138 [] [.rptr [.int b.lo, .int b.hi, .lst (notesV b.notes) .any] 0, .ptr lg 0]) [.lst (intsV l) .any, .int ((l.length + m : Nat) : Int)] s Q
  | 0, l, s, Q, hs, hl, hm, hx, hq => by
    refine Call.fn F138 p138 rfl ?_
    simp only [F138, Nat.add_zero]
    have hl8 : (b.notes.length : Int) ≤ 8 := by have := hb.2.1; omega
    repeat first|refine Wr ?_|refine Wb ?_|refine Wc ?_|refine Wd ?_|refine We ?_|refine Wf ?_|refine Wg ?_|refine Wh ?_|refine Wi ?_|refine Wj (by decide) ?_|refine Wa ?_|refine Wk ?_|refine Wl ?_|refine Wm ?_|refine Wn ?_|refine Wo ?_|refine Wp ?_|refine Wq ?_|refine Ww (by simp only[go_sem,intsV_length,notesV_length];done) ?_|((first|refine Ws ?_|refine Wt ?_|refine Wu ?_|refine Wv (by simp only[go_sem,intsV_length,notesV_length];done) ?_);conv=>arg 2;simp only[go_sem,intsV_length,notesV_length])
    refine w_iter (fun n e s' => ∃ (a r : List Note) (c : Cap), b.notes = a ++ r ∧ r.length = n ∧ e 0 = .lst (intsV l) .any ∧ e 2 = .rptr [.int b.lo, .int b.hi, .lst (notesV b.notes) .any] 0 ∧ e 24 = .lst (notesV b.notes) .any ∧ e 25 = .int b.notes.length ∧ e 26 = .int a.length ∧ e 9 = .agg [.int b.lo, .int b.hi, .lst (notesV (wo l 0 a)) c] ∧ Room s' c (wo l 0 a).length ∧ s ≤ s' ∧ (∀ t, c = .tok t → s t = none)) b.notes.length ?_ ?_
    · refine ⟨[], b.notes, .exact, rfl, rfl, ?_, ?_, ?_, ?_, ?_, ?_, .inl rfl, St.le_refl s, by simp⟩
      any_goals (simp only [go_sem, notesV_length, List.length_nil, Int.natCast_zero]; done)
      simp only [go_sem]
      rfl
    · rintro n e s' ⟨a, r, c, har, hrn, e0, e2, e24, e25, e26, e9, hr, hle, hct⟩
      cases r with
      | nil =>
        have hlt : ¬ ((a.length : Int) < (b.notes.length : Int)) := by rw [har]; simp
        have hba : b.notes = a := by simpa using har
        rw [← hba] at e9
        have hok := withoutN_ok hb l
        have hbk : V.agg [.int b.lo, .int b.hi, .lst (notesV (wo l 0 b.notes)) .any] = bookV (withoutN b l) := rfl
        repeat first|refine Wr ?_|refine Wb ?_|refine Wc ?_|refine Wd ?_|refine We ?_|refine Wf ?_|refine Wg ?_|refine Wh ?_|refine Wi ?_|refine Wj (by decide) ?_|refine Wa ?_|refine Wk ?_|refine Wl ?_|refine Wm ?_|refine Wn ?_|refine Wo ?_|refine Wp ?_|refine Wq ?_|refine Ww (by simp only[go_sem,e0,e2,e24,e25,e26,e9,hlt,hbk];done) ?_|((first|refine Ws ?_|refine Wt ?_|refine Wu ?_|refine Wv (by simp only[go_sem,e0,e2,e24,e25,e26,e9,hlt,hbk];done) ?_);conv=>arg 2;simp only[go_sem,e0,e2,e24,e25,e26,e9,hlt,hbk])|(refine Wx (by simp only[go_sem,e0,e2,e24,e25,e26,e9,hlt,hbk];rfl) (by simp only[go_sem,e0,e2,e24,e25,e26,e9,hlt,hbk];rfl) ?_;first|refine c110 (withoutN b l) hok.len hok.kinds ?_|refine c111 (withoutN b l) hok.ok' fun s3 f6 => ?_)
        first|refine w_retQ ?_|refine w_endQ ?_
        conv=>arg 1;simp only[go_sem]
        refine w_res (v := .tup [.lst (intsV l) .any, .bool (decide (can (withoutN b l)))]) (by simp only [go_sem]) (hq _ s3 ?_ (St.le_trans hle f6))
        rw [pickL_zero]
        by_cases hc : can (withoutN b l)
        · simp only [hc, if_true, IsChosen, decide_true]
        · simp only [hc, if_false, IsChosen, decide_false]
          exact ⟨l, rfl⟩
      | cons x r =>
        have hlt : ((a.length : Int) < (b.notes.length : Int)) := by rw [har]; simp; omega
        have hx : (notesV b.notes)[((a.length : Int)).toNat]? = some (.agg [.int x.kind, .int x.hour, .int x.lo, .int x.hi]) := by rw [har]; exact notesV_at
        have hp : 0 ≤ (a.length : Int) := by omega
        have hll : (l.length : Int) < 9223372036854775808 := by omega
        have hr1 : r.length < n := by simp at hrn; omega
        have har2 : b.notes = (a ++ [x]) ++ r := by simp [har]
        have hwl : (notesV (wo l 0 a)).length + 1 ≤ maxLst := by
          have h1 := wo_len l a 0
          rw [notesV_length]
          simp [maxLst]
          omega
        have hw : w64 ((a.length : Int) + 1) = (a ++ [x]).length := by rw [w64_id (by omega)]; simp
        by_cases hin : (a.length : Int) ∈ l
        · have hwo : wo l 0 (a ++ [x]) = wo l 0 a := by rw [wo_append]; simp [wo, hin]
          repeat first|refine Wr ?_|refine Wb ?_|refine Wc ?_|refine Wd ?_|refine We ?_|refine Wf ?_|refine Wg ?_|refine Wh ?_|refine Wi ?_|refine Wj (by decide) ?_|refine Wa ?_|refine Wk ?_|refine Wl ?_|refine Wm ?_|refine Wn ?_|refine Wo ?_|refine Wp ?_|refine Wq ?_|refine Ww (by simp only[go_sem,e0,e2,e24,e25,e26,e9,hlt,hx,hp,hw,hin];done) ?_|((first|refine Ws ?_|refine Wt ?_|refine Wu ?_|refine Wv (by simp only[go_sem,e0,e2,e24,e25,e26,e9,hlt,hx,hp,hw,hin];done) ?_);conv=>arg 2;simp only[go_sem,e0,e2,e24,e25,e26,e9,hlt,hx,hp,hw,hin])|(refine Wx (by simp only[go_sem,e0,e2,e24,e25,e26,e9,hlt,hx,hp,hw,hin];rfl) (by simp only[go_sem,e0,e2,e24,e25,e26,e9,hlt,hx,hp,hw,hin];rfl) ?_;refine c139 l a.length hll ?_)
          refine ⟨_, hr1, a ++ [x], r, c, har2, rfl, ?_, ?_, ?_, ?_, ?_, ?_, by rw [hwo]; exact hr, hle, hct⟩
          any_goals (simp only [go_sem, e0, e2, e24, e25, e26, e9, hw, hwo]; done)
        · have hwo : wo l 0 (a ++ [x]) = wo l 0 a ++ [x] := by rw [wo_append]; simp [wo, hin]
          repeat first|refine Wr ?_|refine Wb ?_|refine Wc ?_|refine Wd ?_|refine We ?_|refine Wf ?_|refine Wg ?_|refine Wh ?_|refine Wi ?_|refine Wj (by decide) ?_|refine Wa ?_|refine Wk ?_|refine Wl ?_|refine Wm ?_|refine Wn ?_|refine Wo ?_|refine Wp ?_|refine Wq ?_|refine Ww (by simp only[go_sem,e0,e2,e24,e25,e26,e9,hlt,hx,hp,hw,hin];done) ?_|((first|refine Ws ?_|refine Wt ?_|refine Wu ?_|refine Wv (by simp only[go_sem,e0,e2,e24,e25,e26,e9,hlt,hx,hp,hw,hin];done) ?_);conv=>arg 2;simp only[go_sem,e0,e2,e24,e25,e26,e9,hlt,hx,hp,hw,hin])|(refine Wx (by simp only[go_sem,e0,e2,e24,e25,e26,e9,hlt,hx,hp,hw,hin];rfl) (by simp only[go_sem,e0,e2,e24,e25,e26,e9,hlt,hx,hp,hw,hin];rfl) ?_;refine c139 l a.length hll ?_)
          have hm3 : Room s' c (notesV (wo l 0 a)).length := by simpa [notesV_length] using hr
          refine w_append1 (xs := notesV (wo l 0 a)) (y := noteV x) (c := c) rfl (by simp only [go_sem]) (by simp only [go_sem]; rfl) hwl (hd_notes _) rfl rfl hm3 fun c' s6 hg => ?_
          have hnv : notesV (wo l 0 a) ++ [noteV x] = notesV (wo l 0 (a ++ [x])) := by rw [hwo, notesV_append]; rfl
          rw [hnv]
          repeat first|refine Wr ?_|refine Wb ?_|refine Wc ?_|refine Wd ?_|refine We ?_|refine Wf ?_|refine Wg ?_|refine Wh ?_|refine Wi ?_|refine Wj (by decide) ?_|refine Wa ?_|refine Wk ?_|refine Wl ?_|refine Wm ?_|refine Wn ?_|refine Wo ?_|refine Wp ?_|refine Wq ?_|refine Ww (by simp only[go_sem,hw,e9,e26];done) ?_|((first|refine Ws ?_|refine Wt ?_|refine Wu ?_|refine Wv (by simp only[go_sem,hw,e9,e26];done) ?_);conv=>arg 2;simp only[go_sem,hw,e9,e26])
          refine ⟨_, hr1, a ++ [x], r, c', har2, rfl, ?_, ?_, ?_, ?_, ?_, ?_, ?_, fun l0 o ho => ?_, fun t hc => ?_⟩
          any_goals (simp only [go_sem, e0, e2, e24, e25, e26, e9, hw]; done)
          · obtain ⟨t, h1, h2, h3⟩ := hg.room
            refine .inr ⟨t, h1, ?_⟩
            rw [h3, hwo, notesV_length]
            simp
          · exact hg.keep l0 o (hle _ _ ho) fun t hc hlt => by
              rw [hlt, hct t hc] at ho
              cases ho
          · obtain ⟨t', h1, h2, h3⟩ := hg.room
            rw [hc] at h1
            cases h1
            cases ho : s t with
            | none => rfl
            | some o => rw [hle _ _ ho] at h2; cases h2
  | m + 1, l, s, Q, hs, hl, hm, hx, hq => by
    refine Call.fn F138 p138 rfl ?_
    simp only [F138]
    have hl8 : (b.notes.length : Int) ≤ 8 := by have := hb.2.1; omega
    have hne : ((l.length : Int) == ((l.length + (m + 1) : Nat) : Int)) = false := by simp; omega
    have hnx : ∃ y : Int, (¬ l.length > 0 ∧ nextOf l = 0) ∨ (l.length > 0 ∧ (intsV l)[((l.length : Int) - 1).toNat]? = some (.int y) ∧ y + 1 = nextOf l) := by
      rcases List.eq_nil_or_concat l with rfl | ⟨l', y, rfl⟩
      · exact ⟨0, .inl ⟨by simp, rfl⟩⟩
      · have hy := (hx y (by simp)).1
        refine ⟨y, .inr ⟨by simp, ?_, ?_⟩⟩
        · have e1 : ((l'.concat y).length : Int) - 1 = l'.length := by simp
          rw [e1, List.concat_eq_append]
          exact intsV_at
        · simp [nextOf]
          omega
    have hnx8 : nextOf l ≤ 9 := by
      rcases List.eq_nil_or_concat l with rfl | ⟨l', y, rfl⟩
      · exact Nat.zero_le _
      · have hy := (hx y (by simp)).2
        simp [nextOf]
        omega
    have hlm : l.length + (m + 1) ≤ 8 := hm
    have hl0 : 0 ≤ (l.length : Int) := Int.natCast_nonneg _
    have htk : (intsV l).take ((l.length : Int)).toNat = intsV l := by
      rw [Int.toNat_natCast]
      apply List.take_of_length_le
      simp [intsV]
    obtain ⟨y, hy⟩ := hnx
    generalize hnn : nextOf l = nx at hy hnx8
    rcases hy with ⟨h1, h3⟩ | ⟨h1, h2, h3⟩
    case' inl =>
      have hgt : decide ((l.length : Int) > 0) = false := by rw [decide_eq_false_iff_not]; omega
      repeat first|refine Wr ?_|refine Wb ?_|refine Wc ?_|refine Wd ?_|refine We ?_|refine Wf ?_|refine Wg ?_|refine Wh ?_|refine Wi ?_|refine Wj (by decide) ?_|refine Wa ?_|refine Wk ?_|refine Wl ?_|refine Wm ?_|refine Wn ?_|refine Wo ?_|refine Wp ?_|refine Wq ?_|refine Ww (by simp only[go_sem,intsV_length,notesV_length,hne,hgt];done) ?_|((first|refine Ws ?_|refine Wt ?_|refine Wu ?_|refine Wv (by simp only[go_sem,intsV_length,notesV_length,hne,hgt];done) ?_);conv=>arg 2;simp only[go_sem,intsV_length,notesV_length,hne,hgt])
    case' inr =>
      have hgt : decide ((l.length : Int) > 0) = true := by rw [decide_eq_true_eq]; omega
      have hp1 : 0 ≤ (l.length : Int) - 1 := by omega
      have hlt1 : (l.length : Int) - 1 < l.length := by omega
      have hw1 : w64 ((l.length : Int) - 1) = (l.length : Int) - 1 := w64_id (by omega)
      have hw2 : w64 (y + 1) = nx := by rw [h3]; exact w64_id (by omega)
      repeat first|refine Wr ?_|refine Wb ?_|refine Wc ?_|refine Wd ?_|refine We ?_|refine Wf ?_|refine Wg ?_|refine Wh ?_|refine Wi ?_|refine Wj (by decide) ?_|refine Wa ?_|refine Wk ?_|refine Wl ?_|refine Wm ?_|refine Wn ?_|refine Wo ?_|refine Wp ?_|refine Wq ?_|refine Ww (by simp only[go_sem,intsV_length,notesV_length,hne,hgt,hw1,hp1,hlt1,h2,hw2];done) ?_|((first|refine Ws ?_|refine Wt ?_|refine Wu ?_|refine Wv (by simp only[go_sem,intsV_length,notesV_length,hne,hgt,hw1,hp1,hlt1,h2,hw2];done) ?_);conv=>arg 2;simp only[go_sem,intsV_length,notesV_length,hne,hgt,hw1,hp1,hlt1,h2,hw2])
    all_goals
      have hpk := pickL_succ b m l
      rw [hnn] at hpk
      have hhd := hd_ints l
      try clear hw1
      try clear hw2
      refine w_iter (fun n e s' => ∃ k : Nat, n = b.notes.length - k ∧ nx ≤ k ∧ k ≤ 9 ∧ e 0 = .lst (intsV l) .any ∧ e 1 = .int ((l.length + (m + 1) : Nat) : Int) ∧ e 2 = .rptr [.int b.lo, .int b.hi, .lst (notesV b.notes) .any] 0 ∧ e 3 = .ptr lg 0 ∧ e 8 = .int l.length ∧ e 13 = .int k ∧ s ≤ s' ∧ ∀ j, nx ≤ j → j < k → pickL b m (l ++ [(j : Int)]) = none) (b.notes.length - nx) ?_ ?_
      · refine ⟨nx, rfl, Nat.le_refl _, hnx8, ?_, ?_, ?_, ?_, ?_, ?_, St.le_refl s, fun j h1 h2 => by omega⟩
        any_goals (simp only [go_sem]; done)
        all_goals simp only [go_sem, h3, Int.natCast_zero]
      · rintro n e s' ⟨k, hn, hk, hk9, e0, e1, e2, e3, e8, e13, hle, hnone⟩
        by_cases hlt : (k : Int) < b.notes.length
        · have hlgs := hle _ _ hs
          have hargs : V.int ((l.length + (m + 1) : Nat) : Int) = .int (((l ++ [(k : Int)]).length + m : Nat) : Int) := by simp; omega
          have hl1 : (l ++ [(k : Int)]).length ≤ 8 := by simp; omega
          have hl2 : (l ++ [(k : Int)]).length + m ≤ 8 := by simp; omega
          have hk8 : k ≤ 8 := by omega
          have hx1 : ∀ x ∈ l ++ [(k : Int)], 0 ≤ x ∧ x ≤ 8 := fun x hx' => by
            rcases List.mem_append.1 hx' with h | h
            · exact hx x h
            · simp at h; omega
          have hk1 : k + 1 ≤ 9 := by omega
          have hkn : b.notes.length - (k + 1) < n := by omega
          have hnk : k < b.notes.length := by omega
          have hmx : (intsV l).length + 1 ≤ maxLst := by simp [intsV, maxLst]; omega
          have hw : w64 ((k : Int) + 1) = ((k + 1 : Nat) : Int) := w64_succ (by omega) rfl
          repeat first|refine Wr ?_|refine Wb ?_|refine Wc ?_|refine Wd ?_|refine We ?_|refine Wf ?_|refine Wg ?_|refine Wh ?_|refine Wi ?_|refine Wj (by decide) ?_|refine Wa ?_|refine Wk ?_|refine Wl ?_|refine Wm ?_|refine Wn ?_|refine Wo ?_|refine Wp ?_|refine Wq ?_|refine Ww (by simp only[go_sem,e0,e1,e2,e3,e8,e13,hlt,notesV_length];done) ?_|((first|refine Ws ?_|refine Wt ?_|refine Wu ?_|refine Wv (by simp only[go_sem,e0,e1,e2,e3,e8,e13,hlt,notesV_length];done) ?_);conv=>arg 2;simp only[go_sem,e0,e1,e2,e3,e8,e13,hlt,notesV_length])
          refine w_op ?_
          simp only [wpO, go_sem, e3, hlgs]
          repeat first|refine Wr ?_|refine Wb ?_|refine Wc ?_|refine Wd ?_|refine We ?_|refine Wf ?_|refine Wg ?_|refine Wh ?_|refine Wi ?_|refine Wj (by decide) ?_|refine Wa ?_|refine Wk ?_|refine Wl ?_|refine Wm ?_|refine Wn ?_|refine Wo ?_|refine Wp ?_|refine Wq ?_|refine Ww (by simp only[go_sem,e0,e1,e2,e3,e8,e13,hl0,intsV_length,htk,hhd];done) ?_|((first|refine Ws ?_|refine Wt ?_|refine Wu ?_|refine Wv (by simp only[go_sem,e0,e1,e2,e3,e8,e13,hl0,intsV_length,htk,hhd];done) ?_);conv=>arg 2;simp only[go_sem,e0,e1,e2,e3,e8,e13,hl0,intsV_length,htk,hhd])
          refine w_append1 (xs := intsV l) (y := .int k) (c := .exact) rfl (by simp only [go_sem] <;> rfl) (by simp only [go_sem] <;> rfl) hmx hhd rfl rfl (.inl rfl) fun c' s6 hg => ?_
          have hle6 : s' ≤ s6 := fun l0 o ho => hg.keep l0 o ho (fun t hc => by cases hc)
          have happ : intsV l ++ [.int k] = intsV (l ++ [(k : Int)]) := by simp [intsV]
          rw [happ]
          repeat first|refine Wr ?_|refine Wb ?_|refine Wc ?_|refine Wd ?_|refine We ?_|refine Wf ?_|refine Wg ?_|refine Wh ?_|refine Wi ?_|refine Wj (by decide) ?_|refine Wa ?_|refine Wk ?_|refine Wl ?_|refine Wm ?_|refine Wn ?_|refine Wo ?_|refine Wp ?_|refine Wq ?_|refine Ww (by simp only[go_sem,e1];done) ?_|((first|refine Ws ?_|refine Wt ?_|refine Wu ?_|refine Wv (by simp only[go_sem,e1];done) ?_);conv=>arg 2;simp only[go_sem,e1])
          refine w_call (by simp only [go_sem] <;> rfl) (by simp only [go_sem, hargs] <;> rfl) ?_
          refine c138 b hb lg m (l ++ [(k : Int)]) s6 _ (hle6 _ _ hlgs) hl1 hl2 hx1 fun v s7 hv hle7 => ?_
          cases hp : pickL b m (l ++ [(k : Int)]) with
          | some r =>
            rw [hp] at hv
            simp only [IsChosen] at hv
            subst hv
            repeat first|refine Wr ?_|refine Wb ?_|refine Wc ?_|refine Wd ?_|refine We ?_|refine Wf ?_|refine Wg ?_|refine Wh ?_|refine Wi ?_|refine Wj (by decide) ?_|refine Wa ?_|refine Wk ?_|refine Wl ?_|refine Wm ?_|refine Wn ?_|refine Wo ?_|refine Wp ?_|refine Wq ?_|refine Ww (by simp only[go_sem];done) ?_|((first|refine Ws ?_|refine Wt ?_|refine Wu ?_|refine Wv (by simp only[go_sem];done) ?_);conv=>arg 2;simp only[go_sem])
            first|refine w_retQ ?_|refine w_endQ ?_
            conv=>arg 1;simp only[go_sem]
            refine w_res (v := .tup [.lst (intsV r) .any, .bool true]) (by simp only [go_sem]) (hq _ s7 ?_ (St.le_trans hle (St.le_trans hle6 hle7)))
            rw [hpk, range_split hk hnk, List.findSome?_append, List.findSome?_cons, hp]
            have hz : List.findSome? (fun k => pickL b m (l ++ [((k : Nat) : Int)])) (List.range' nx (k - nx)) = none := by
              rw [List.findSome?_eq_none_iff]
              intro j hj
              rw [List.mem_range'_1, Nat.add_sub_cancel' hk] at hj
              exact hnone j hj.1 hj.2
            rw [hz]
            rfl
          | none =>
            rw [hp] at hv
            simp only [IsChosen] at hv
            obtain ⟨xs, rfl⟩ := hv
            repeat first|refine Wr ?_|refine Wb ?_|refine Wc ?_|refine Wd ?_|refine We ?_|refine Wf ?_|refine Wg ?_|refine Wh ?_|refine Wi ?_|refine Wj (by decide) ?_|refine Wa ?_|refine Wk ?_|refine Wl ?_|refine Wm ?_|refine Wn ?_|refine Wo ?_|refine Wp ?_|refine Wq ?_|refine Ww (by simp only[go_sem,e13,hw];done) ?_|((first|refine Ws ?_|refine Wt ?_|refine Wu ?_|refine Wv (by simp only[go_sem,e13,hw];done) ?_);conv=>arg 2;simp only[go_sem,e13,hw])
            refine ⟨_, hkn, k + 1, rfl, Nat.le_succ_of_le hk, hk1, ?_, ?_, ?_, ?_, ?_, ?_, St.le_trans hle (St.le_trans hle6 hle7), fun j h1 h2 => ?_⟩
            any_goals (simp only [go_sem, e0, e1, e2, e3, e8, e13, hw]; done)
            rcases Nat.lt_or_ge j k with h | h
            · exact hnone j h1 h
            · obtain rfl : j = k := Nat.le_antisymm (Nat.le_of_lt_succ h2) h
              exact hp
        · repeat first|refine Wr ?_|refine Wb ?_|refine Wc ?_|refine Wd ?_|refine We ?_|refine Wf ?_|refine Wg ?_|refine Wh ?_|refine Wi ?_|refine Wj (by decide) ?_|refine Wa ?_|refine Wk ?_|refine Wl ?_|refine Wm ?_|refine Wn ?_|refine Wo ?_|refine Wp ?_|refine Wq ?_|refine Ww (by simp only[go_sem,e0,e1,e2,e3,e8,e13,hlt,notesV_length];done) ?_|((first|refine Ws ?_|refine Wt ?_|refine Wu ?_|refine Wv (by simp only[go_sem,e0,e1,e2,e3,e8,e13,hlt,notesV_length];done) ?_);conv=>arg 2;simp only[go_sem,e0,e1,e2,e3,e8,e13,hlt,notesV_length])
          first|refine w_retQ ?_|refine w_endQ ?_
          conv=>arg 1;simp only[go_sem]
          refine w_res (v := .tup [.lst (intsV []) .any, .bool false]) (by simp only [go_sem] <;> rfl) (hq _ s' ?_ hle)
          rw [hpk]
          have hz : List.findSome? (fun k => pickL b m (l ++ [((k : Nat) : Int)])) (List.range' nx (b.notes.length - nx)) = none := by
            rw [List.findSome?_eq_none_iff]
            intro j hj
            rw [List.mem_range'_1] at hj
            exact hnone j hj.1 (by omega)
          rw [hz]
          exact ⟨[], rfl⟩

open Classical in
/-- The fewest notes that must be wrong. -/
noncomputable def wrongL (b : Book) : Option (List Int) := (List.range' 0 (b.notes.length + 1)).findSome? fun m => pickL b m []
open Classical in
set_option maxHeartbeats 2000000 in
theorem c44 (b : Book) (hlen : (b.notes.length : Int) < 9223372036854775808) (hq : ∀ l s', (ok b → l = (wrongL b).getD []) → (¬ ok b → l = []) → s ≤ s' → Q (.tup [.lst (intsV l) .any, .int (if ok b then 0 else 30)]) s') : Call prog (.fn 44 [] []) [bookV b] s Q := by
  refine Call.fn F44 p44 rfl ?_
  simp only [F44]
  simp only [bookV]
  by_cases h1 : ok b
  · have hl8 : b.notes.length ≤ 8 := h1.2.1
    have hw9 : w64 ((b.notes.length : Int) + 1) = ((b.notes.length + 1 : Nat) : Int) := w64_succ (by omega) rfl
    simp only [h1, if_true] at hq
    repeat first|refine Wr ?_|refine Wb ?_|refine Wc ?_|refine Wd ?_|refine We ?_|refine Wf ?_|refine Wg ?_|refine Wh ?_|refine Wi ?_|refine Wj (by decide) ?_|refine Wa ?_|refine Wk ?_|refine Wl ?_|refine Wm ?_|refine Wn ?_|refine Wo ?_|refine Wp ?_|refine Wq ?_|refine Ww (by simp only[go_sem,h1];done) ?_|((first|refine Ws ?_|refine Wt ?_|refine Wu ?_|refine Wv (by simp only[go_sem,h1];done) ?_);conv=>arg 2;simp only[go_sem,h1])|(refine Wx (by simp only[go_sem,h1];rfl) (by simp only[go_sem,h1];rfl) ?_;refine c29 b hlen ?_)
    refine w_op ?_
    simp only [wpO, go_sem, true_and]
    intro lg hlg
    repeat first|refine Wr ?_|refine Wb ?_|refine Wc ?_|refine Wd ?_|refine We ?_|refine Wf ?_|refine Wg ?_|refine Wh ?_|refine Wi ?_|refine Wj (by decide) ?_|refine Wa ?_|refine Wk ?_|refine Wl ?_|refine Wm ?_|refine Wn ?_|refine Wo ?_|refine Wp ?_|refine Wq ?_|refine Ww (by simp only[go_sem];done) ?_|((first|refine Ws ?_|refine Wt ?_|refine Wu ?_|refine Wv (by simp only[go_sem];done) ?_);conv=>arg 2;simp only[go_sem])
    refine w_op ?_
    simp only [wpO, go_sem, St.set_get, Nat.le_refl, Nat.zero_add, if_true]
    have hss : (s.set lg (.cells [.nilfn])).set lg (.cells [.fn 138 [] [.rptr [.int b.lo, .int b.hi, .lst (notesV b.notes) .any] 0, .ptr lg 0]]) = s.set lg (.cells [.fn 138 [] [.rptr [.int b.lo, .int b.hi, .lst (notesV b.notes) .any] 0, .ptr lg 0]]) := set_set
    try simp only [hss]
    have hlgs : (s.set lg (.cells [.fn 138 [] [.rptr [.int b.lo, .int b.hi, .lst (notesV b.notes) .any] 0, .ptr lg 0]])) lg = some (.cells [.fn 138 [] [.rptr [.int b.lo, .int b.hi, .lst (notesV b.notes) .any] 0, .ptr lg 0]]) := St.set_get
    have hle0 := St.le_new (o := .cells [.fn 138 [] [.rptr [.int b.lo, .int b.hi, .lst (notesV b.notes) .any] 0, .ptr lg 0]]) hlg
    generalize s.set lg (.cells [.fn 138 [] [.rptr [.int b.lo, .int b.hi, .lst (notesV b.notes) .any] 0, .ptr lg 0]]) = s1 at hlgs hle0 ⊢
    repeat first|refine Wr ?_|refine Wb ?_|refine Wc ?_|refine Wd ?_|refine We ?_|refine Wf ?_|refine Wg ?_|refine Wh ?_|refine Wi ?_|refine Wj (by decide) ?_|refine Wa ?_|refine Wk ?_|refine Wl ?_|refine Wm ?_|refine Wn ?_|refine Wo ?_|refine Wp ?_|refine Wq ?_|refine Ww (by simp only[go_sem,notesV_length,hw9];done) ?_|((first|refine Ws ?_|refine Wt ?_|refine Wu ?_|refine Wv (by simp only[go_sem,notesV_length,hw9];done) ?_);conv=>arg 2;simp only[go_sem,notesV_length,hw9])
    clear hw9
    refine w_iter (fun n e s' => ∃ k : Nat, n = b.notes.length + 1 - k ∧ k ≤ b.notes.length + 1 ∧ e 5 = .ptr lg 0 ∧ e 18 = .int ((b.notes.length + 1 : Nat) : Int) ∧ e 19 = .int k ∧ s1 ≤ s' ∧ ∀ j, j < k → pickL b j [] = none) (b.notes.length + 1) ?_ ?_
    · refine ⟨0, by simp, Nat.zero_le _, ?_, ?_, ?_, St.le_refl _, fun j h => by omega⟩
      any_goals (simp only [go_sem, Int.natCast_zero]; done)
    · rintro n e s' ⟨k, hn, hk, e5, e18, e19, hle, hnone⟩
      by_cases hlt : (k : Int) < ((b.notes.length + 1 : Nat) : Int)
      · have hk8 : ([] : List Int).length + k ≤ 8 := by simp; omega
        have hargs : V.int (k : Int) = .int ((([] : List Int).length + k : Nat) : Int) := by simp
        have hk1 : k + 1 ≤ b.notes.length + 1 := by omega
        have hkn : b.notes.length + 1 - (k + 1) < n := by omega
        have hw : w64 ((k : Int) + 1) = ((k + 1 : Nat) : Int) := w64_succ (by omega) rfl
        repeat first|refine Wr ?_|refine Wb ?_|refine Wc ?_|refine Wd ?_|refine We ?_|refine Wf ?_|refine Wg ?_|refine Wh ?_|refine Wi ?_|refine Wj (by decide) ?_|refine Wa ?_|refine Wk ?_|refine Wl ?_|refine Wm ?_|refine Wn ?_|refine Wo ?_|refine Wp ?_|refine Wq ?_|refine Ww (by simp only[go_sem,e5,e18,e19,hlt];done) ?_|((first|refine Ws ?_|refine Wt ?_|refine Wu ?_|refine Wv (by simp only[go_sem,e5,e18,e19,hlt];done) ?_);conv=>arg 2;simp only[go_sem,e5,e18,e19,hlt])
        refine w_op ?_
        simp only [wpO, go_sem, e5, hle _ _ hlgs]
        repeat first|refine Wr ?_|refine Wb ?_|refine Wc ?_|refine Wd ?_|refine We ?_|refine Wf ?_|refine Wg ?_|refine Wh ?_|refine Wi ?_|refine Wj (by decide) ?_|refine Wa ?_|refine Wk ?_|refine Wl ?_|refine Wm ?_|refine Wn ?_|refine Wo ?_|refine Wp ?_|refine Wq ?_|refine Ww (by simp only[go_sem];done) ?_|((first|refine Ws ?_|refine Wt ?_|refine Wu ?_|refine Wv (by simp only[go_sem];done) ?_);conv=>arg 2;simp only[go_sem])
        refine w_call (by simp only [go_sem] <;> rfl) (as := [.lst (intsV []) .any, .int ((([] : List Int).length + k : Nat) : Int)]) (by simp only [go_sem, hargs] <;> rfl) ?_
        refine c138 b h1 lg k [] s' _ (hle _ _ hlgs) (by simp) hk8 (by simp) fun v s7 hv hle7 => ?_
        cases hp : pickL b k [] with
        | some r =>
          rw [hp] at hv
          simp only [IsChosen] at hv
          subst hv
          have htk : (intsV r).take ((r.length : Int)).toNat = intsV r := by
            rw [Int.toNat_natCast]
            apply List.take_of_length_le
            simp [intsV]
          have hr0 : 0 ≤ (r.length : Int) := Int.natCast_nonneg _
          have hhd := hd_ints r
          repeat first|refine Wr ?_|refine Wb ?_|refine Wc ?_|refine Wd ?_|refine We ?_|refine Wf ?_|refine Wg ?_|refine Wh ?_|refine Wi ?_|refine Wj (by decide) ?_|refine Wa ?_|refine Wk ?_|refine Wl ?_|refine Wm ?_|refine Wn ?_|refine Wo ?_|refine Wp ?_|refine Wq ?_|refine Ww (by simp only[go_sem,intsV_length,htk,hr0,hhd];done) ?_|((first|refine Ws ?_|refine Wt ?_|refine Wu ?_|refine Wv (by simp only[go_sem,intsV_length,htk,hr0,hhd];done) ?_);conv=>arg 2;simp only[go_sem,intsV_length,htk,hr0,hhd])
          first|refine w_retQ ?_|refine w_endQ ?_
          conv=>arg 1;simp only[go_sem]
          refine w_res (v := .tup [.lst (intsV r) .any, .int 0]) (by simp only [go_sem] <;> rfl) (hq r s7 (fun _ => ?_) (fun h => absurd trivial h) (St.le_trans hle0 (St.le_trans hle hle7)))
          have hk2 : k < b.notes.length + 1 := by omega
          have hz : List.findSome? (fun m => pickL b m []) (List.range' 0 (k - 0)) = none := by
            rw [List.findSome?_eq_none_iff]
            intro j hj
            rw [List.mem_range'_1, Nat.sub_zero, Nat.zero_add] at hj
            exact hnone j hj.2
          have hrs := range_split (Nat.zero_le k) hk2
          rw [Nat.sub_zero] at hrs
          unfold wrongL
          rw [hrs, List.findSome?_append, List.findSome?_cons, hp, hz]
          rfl
        | none =>
          rw [hp] at hv
          simp only [IsChosen] at hv
          obtain ⟨xs, rfl⟩ := hv
          repeat first|refine Wr ?_|refine Wb ?_|refine Wc ?_|refine Wd ?_|refine We ?_|refine Wf ?_|refine Wg ?_|refine Wh ?_|refine Wi ?_|refine Wj (by decide) ?_|refine Wa ?_|refine Wk ?_|refine Wl ?_|refine Wm ?_|refine Wn ?_|refine Wo ?_|refine Wp ?_|refine Wq ?_|refine Ww (by simp only[go_sem,e19,hw];done) ?_|((first|refine Ws ?_|refine Wt ?_|refine Wu ?_|refine Wv (by simp only[go_sem,e19,hw];done) ?_);conv=>arg 2;simp only[go_sem,e19,hw])
          refine ⟨_, hkn, k + 1, rfl, hk1, ?_, ?_, ?_, St.le_trans hle hle7, fun j h => ?_⟩
          any_goals (simp only [go_sem, e5, e18, e19, hw]; done)
          rcases Nat.lt_or_ge j k with h | h'
          · exact hnone j h
          · obtain rfl : j = k := Nat.le_antisymm (Nat.le_of_lt_succ h) h'
            exact hp
      · repeat first|refine Wr ?_|refine Wb ?_|refine Wc ?_|refine Wd ?_|refine We ?_|refine Wf ?_|refine Wg ?_|refine Wh ?_|refine Wi ?_|refine Wj (by decide) ?_|refine Wa ?_|refine Wk ?_|refine Wl ?_|refine Wm ?_|refine Wn ?_|refine Wo ?_|refine Wp ?_|refine Wq ?_|refine Ww (by simp only[go_sem,e5,e18,e19,hlt];done) ?_|((first|refine Ws ?_|refine Wt ?_|refine Wu ?_|refine Wv (by simp only[go_sem,e5,e18,e19,hlt];done) ?_);conv=>arg 2;simp only[go_sem,e5,e18,e19,hlt])
        first|refine w_retQ ?_|refine w_endQ ?_
        conv=>arg 1;simp only[go_sem]
        refine w_res (v := .tup [.lst (intsV []) .any, .int 0]) (by simp only [go_sem] <;> rfl) (hq [] s' (fun _ => ?_) (fun h => absurd trivial h) (St.le_trans hle0 hle))
        have hz : List.findSome? (fun m => pickL b m []) (List.range' 0 (b.notes.length + 1)) = none := by
          rw [List.findSome?_eq_none_iff]
          intro j hj
          rw [List.mem_range'_1, Nat.zero_add] at hj
          exact hnone j (by omega)
        unfold wrongL
        rw [hz]
        rfl
  · simp only [h1, if_false] at hq
    repeat first|refine Wr ?_|refine Wb ?_|refine Wc ?_|refine Wd ?_|refine We ?_|refine Wf ?_|refine Wg ?_|refine Wh ?_|refine Wi ?_|refine Wj (by decide) ?_|refine Wa ?_|refine Wk ?_|refine Wl ?_|refine Wm ?_|refine Wn ?_|refine Wo ?_|refine Wp ?_|refine Wq ?_|refine Ww (by simp only[go_sem,h1];done) ?_|((first|refine Ws ?_|refine Wt ?_|refine Wu ?_|refine Wv (by simp only[go_sem,h1];done) ?_);conv=>arg 2;simp only[go_sem,h1])|(refine Wx (by simp only[go_sem,h1];rfl) (by simp only[go_sem,h1];rfl) ?_;refine c29 b hlen ?_)
    first|refine w_retQ ?_|refine w_endQ ?_
    conv=>arg 1;simp only[go_sem]
    exact w_res (v := .tup [.lst (intsV []) .any, .int 30]) (by simp only [go_sem] <;> rfl) (hq [] s (fun h => h.elim) (fun _ => rfl) (St.le_refl s))
end Go.Hu.Sn

set_option linter.unusedVariables false
set_option linter.unusedSimpArgs false
namespace Go.Hu.Sn

/-- What is true at an hour, behind some notes. -/
def R (S : XS) (h : Int) (ns : List Note) (c : Int) : XS := fun y => ∃ x, run S h ns x ∧ y = pass x (c - hourOf h ns)
def alive (y : X) (h : Int) (ns : List Note) : Prop := ∃ z, run (· = y) h ns z
theorem atH_R {b : Book} {h : Int} {y : X} : atH b h y ↔ R (begun b) 0 (before h b.notes) h y ∧ alive y h (later h b.notes) := Iff.rfl
theorem run_shift' {ns : List Note} {x : X} {h0 h : Int} (hr : 0 ≤ x.2) (hh : h0 ≤ h) (hn : ∀ n r, ns = n :: r → h ≤ n.hour) (hne : ns ≠ []) (z : X) : run (· = pass x (h - h0)) h ns z ↔ run (· = x) h0 ns z := run_shift hr hh hn hne z
theorem hourOf_ne {ns : List Note} (hne : ns ≠ []) (h h' : Int) : hourOf h ns = hourOf h' ns := by
  cases ns with
  | nil => exact absurd rfl hne
  | cons n r => rfl
theorem R_split {S : XS} {h m c : Int} {a b : List Note} {y : X} (hr : ∀ x, run S h a x → 0 ≤ x.2) (h1 : hourOf h a ≤ m) (h2 : ∀ n r, b = n :: r → m ≤ n.hour) (h3 : m ≤ c) : R S h (a ++ b) c y ↔ ∃ w, R S h a m w ∧ R (· = w) m b c y := by
  unfold R
  simp only [run_append, hourOf_append]
  constructor
  · rintro ⟨x, hx, rfl⟩
    obtain ⟨x1, hx1, hx2⟩ := run_single.1 hx
    refine ⟨pass x1 (m - hourOf h a), ⟨x1, hx1, rfl⟩, ?_⟩
    by_cases hb : b = []
    · subst hb
      have hx2 : x = x1 := hx2
      subst hx2
      refine ⟨_, rfl, ?_⟩
      simp only [hourOf]
      rw [pass_pass (hr _ hx1) (by omega) (by omega)]
      congr 1
      omega
    · refine ⟨x, (run_shift (hr _ hx1) h1 h2 hb x).2 hx2, ?_⟩
      rw [hourOf_ne hb]
  · rintro ⟨w, ⟨x1, hx1, rfl⟩, x, hx, rfl⟩
    by_cases hb : b = []
    · subst hb
      have hx2 : x = pass x1 (m - hourOf h a) := hx
      subst hx2
      refine ⟨x1, hx1, ?_⟩
      simp only [hourOf]
      rw [pass_pass (hr _ hx1) (by omega) (by omega)]
      congr 1
      omega
    · refine ⟨x, run_single.2 ⟨x1, hx1, (run_shift (hr _ hx1) h1 h2 hb x).1 hx⟩, ?_⟩
      rw [hourOf_ne hb m (hourOf h a)]
theorem alive_split {x : X} {h m : Int} {a b : List Note} (hr : ∀ z, run (· = x) h a z → 0 ≤ z.2) (h1 : hourOf h a ≤ m) (h2 : ∀ n r, b = n :: r → m ≤ n.hour) : alive x h (a ++ b) ↔ ∃ w, R (· = x) h a m w ∧ alive w m b := by
  have key : ∀ (y : X) (h : Int) (ns : List Note), alive y h ns ↔ ∃ z, R (· = y) h ns m z := fun y h ns =>
    ⟨fun ⟨z, hz⟩ => ⟨_, z, hz, rfl⟩, fun ⟨_, z, hz, _⟩ => ⟨z, hz⟩⟩
  rw [key]
  simp only [R_split hr h1 h2 (Int.le_refl m)]
  constructor
  · rintro ⟨z, w, hw, hz⟩
    exact ⟨w, hw, (key w m b).2 ⟨z, hz⟩⟩
  · rintro ⟨w, hw, hz⟩
    obtain ⟨z, hz⟩ := (key w m b).1 hz
    exact ⟨z, w, hw, hz⟩
theorem before_two {a c : Int} (hac : a ≤ c) : ∀ (ns : List Note), before c ns = before a ns ++ before c (later a ns) ∧ later a ns = before c (later a ns) ++ later c ns
  | [] => ⟨rfl, rfl⟩
  | n :: ns => by
    obtain ⟨h1, h2⟩ := before_two hac ns
    unfold before later at *
    simp only [List.takeWhile_cons, List.dropWhile_cons]
    by_cases ha : n.hour ≤ a
    · have hc : n.hour ≤ c := by omega
      simp only [ha, hc, decide_true, if_true, List.cons_append]
      exact ⟨by rw [← h1], h2⟩
    · simp only [ha, decide_false, Bool.false_eq_true, if_false, List.nil_append]
      refine ⟨by rw [List.takeWhile_cons], ?_⟩
      by_cases hc : n.hour ≤ c
      · simp only [hc, decide_true, if_true, List.takeWhile_cons, List.dropWhile_cons, List.cons_append]
        rw [List.takeWhile_append_dropWhile]
      · simp [hc, List.takeWhile_cons, List.dropWhile_cons]

/-- Small numbers, of one state. -/
def Sm9 (x : X) : Prop := 0 ≤ x.1 ∧ 0 ≤ x.2
theorem pass_one {x : X} {d : Int} (hx : Sm9 x) (hd : 0 ≤ d) : Sm9 (pass x d) ∧ (pass x d).1 ≤ x.1 ∧ (pass x d).2 = x.2 := by
  have hp : 0 ≤ x.2 * d := Int.mul_nonneg hx.2 hd
  have h1 : 0 ≤ x.1 := hx.1
  refine ⟨⟨?_, hx.2⟩, ?_, rfl⟩
  · show 0 ≤ max 0 (x.1 - x.2 * d)
    omega
  · show max 0 (x.1 - x.2 * d) ≤ x.1
    omega
theorem step_one {x y : X} {h : Int} {n : Note} (hx : Sm9 x) (hn : okNote n) (hh : h ≤ n.hour) (hs : step (· = x) h n y) : Sm9 y ∧ y.1 ≤ x.1 := by
  obtain ⟨x', rfl, m, hm, hd⟩ := hs
  obtain ⟨hx1, hx2⟩ := hx
  obtain ⟨⟨hp1, hp2⟩, hp3, hp4⟩ := pass_one (d := n.hour - h) ⟨hx1, hx2⟩ (by omega)
  obtain ⟨hk1, _, hsp⟩ := hn
  unfold okSpan most at hsp
  generalize pass x' (n.hour - h) = z at *
  unfold does at hd
  unfold Sm9
  have : n.kind = 0 ∨ n.kind = 1 ∨ n.kind = 2 ∨ n.kind = 3 ∨ n.kind = 4 := by omega
  rcases this with h | h | h | h | h <;> simp only [h] at hd hsp <;> simp at hd <;> obtain ⟨rfl, hd⟩ := hd <;> simp at hsp <;> (try simp only) <;> omega
theorem run_one : ∀ {ns : List Note} {x y : X} {h : Int}, Sm9 x → okNotes h ns → run (· = x) h ns y → Sm9 y ∧ y.1 ≤ x.1
  | [], x, y, h, hx, _, hr => by
    have : y = x := hr
    subst this
    exact ⟨hx, Int.le_refl _⟩
  | n :: ns, x, y, h, hx, hn, hr => by
    obtain ⟨x1, h1, h2⟩ := (run_single (S := step (· = x) h n)).1 hr
    obtain ⟨h3, h4⟩ := step_one hx hn.1.1 hn.1.2 h1
    obtain ⟨h5, h6⟩ := run_one h3 hn.2 h2
    exact ⟨h5, Int.le_trans h6 h4⟩
theorem R_one {ns : List Note} {x y : X} {h c : Int} (hx : Sm9 x) (hn : okNotes h ns) (hc : hourOf h ns ≤ c) (hr : R (· = x) h ns c y) : Sm9 y ∧ y.1 ≤ x.1 := by
  obtain ⟨z, hz, rfl⟩ := hr
  obtain ⟨h1, h2⟩ := run_one hx hn hz
  obtain ⟨h3, h4, _⟩ := pass_one (d := c - hourOf h ns) h1 (by omega)
  exact ⟨h3, Int.le_trans h4 h2⟩
theorem begun_one {b : Book} (hb : ok' b) {x : X} (hx : begun b x) : Sm9 x := by
  have := hb.1
  unfold okSpan at this
  unfold begun at hx
  unfold Sm9
  omega
theorem run_begun {b : Book} (hb : ok' b) {ns : List Note} {x : X} (hn : okNotes 0 ns) (hr : run (begun b) 0 ns x) : Sm9 x ∧ x.1 ≤ b.hi := by
  obtain ⟨x0, h0, h1⟩ := run_single.1 hr
  obtain ⟨h2, h3⟩ := run_one (begun_one hb h0) hn h1
  unfold begun at h0
  exact ⟨h2, by omega⟩
theorem atH_one {b : Book} (hb : ok' b) {h : Int} (hh : 0 ≤ h) {x : X} (hx : atH b h x) : Sm9 x := by
  obtain ⟨⟨x0, h0, rfl⟩, _⟩ := hx
  have h1 := (run_begun hb (okNotes_append.1 (by rw [before_later]; exact hb.2.2 : okNotes 0 (before h b.notes ++ later h b.notes))).1 h0).1
  exact (pass_one h1 (by have := hourOf_before hh (before_all (h := h) (ns := b.notes)); omega)).1

theorem ok_before {b : Book} (hb : ok' b) (h : Int) : okNotes 0 (before h b.notes) :=
  (okNotes_append.1 (by rw [before_later]; exact hb.2.2 : okNotes 0 (before h b.notes ++ later h b.notes))).1
theorem ok_later {b : Book} (hb : ok' b) (h : Int) : okNotes h (later h b.notes) :=
  okNotes_later (okNotes_append.1 (by rw [before_later]; exact hb.2.2 : okNotes 0 (before h b.notes ++ later h b.notes))).2 fun x r e => Int.le_of_lt (later_first e)
/-- What is true at a later hour goes on from what is true at a sooner one. -/
theorem at_step {b : Book} (hb : ok' b) {a c : Int} (ha : 0 ≤ a) (hac : a ≤ c) :
    (∀ y, atH b c y → ∃ x, atH b a x ∧ R (· = x) a (before c (later a b.notes)) c y) ∧ (∀ x, atH b a x → ∃ y, atH b c y ∧ R (· = x) a (before c (later a b.notes)) c y) := by
  obtain ⟨e1, e2⟩ := before_two hac b.notes
  have hola := ok_later hb a
  rw [e2] at hola
  have hmid := (okNotes_append.1 hola).1
  have hh1 : hourOf 0 (before a b.notes) ≤ a := hourOf_before ha before_all
  have hh2 : hourOf a (before c (later a b.notes)) ≤ c := hourOf_before hac before_all
  have hf1 : ∀ n r, before c (later a b.notes) = n :: r → a ≤ n.hour := fun n r e => by
    have : later a b.notes = n :: (r ++ later c b.notes) := by rw [e2, e]; rfl
    exact Int.le_of_lt (later_first this)
  have hf2 : ∀ n r, later c b.notes = n :: r → c ≤ n.hour := fun n r e => Int.le_of_lt (later_first e)
  constructor
  · intro y hy
    obtain ⟨h1, h2⟩ := atH_R.1 hy
    rw [e1] at h1
    obtain ⟨x, hx, hxy⟩ := (R_split (fun x hx => (run_begun hb (ok_before hb a) hx).1.2) hh1 hf1 hac).1 h1
    have hx1 : Sm9 x := by
      obtain ⟨z, hz, rfl⟩ := hx
      exact (pass_one (run_begun hb (ok_before hb a) hz).1 (by omega)).1
    refine ⟨x, atH_R.2 ⟨hx, ?_⟩, hxy⟩
    rw [e2]
    exact (alive_split (fun z hz => (run_one hx1 hmid hz).1.2) hh2 hf2).2 ⟨y, hxy, h2⟩
  · intro x hx
    have hx1 := atH_one hb ha hx
    obtain ⟨h1, h2⟩ := atH_R.1 hx
    rw [e2] at h2
    obtain ⟨y, hxy, hy⟩ := (alive_split (fun z hz => (run_one hx1 hmid hz).1.2) hh2 hf2).1 h2
    refine ⟨y, atH_R.2 ⟨?_, hy⟩, hxy⟩
    rw [e1]
    exact (R_split (fun x hx => (run_begun hb (ok_before hb a) hx).1.2) hh1 hf1 hac).2 ⟨x, h1, hxy⟩
theorem mid_ok {b : Book} (hb : ok' b) {a c : Int} (hac : a ≤ c) : okNotes a (before c (later a b.notes)) := by
  have hola := ok_later hb a
  rw [(before_two hac b.notes).2] at hola
  exact (okNotes_append.1 hola).1
theorem at_down {b : Book} (hb : ok' b) {a c : Int} (ha : 0 ≤ a) (hac : a ≤ c) {y : X} (hy : atH b c y) : ∃ x, atH b a x ∧ y.1 ≤ x.1 := by
  obtain ⟨x, hx, hr⟩ := (at_step hb ha hac).1 y hy
  exact ⟨x, hx, (R_one (atH_one hb ha hx) (mid_ok hb hac) (hourOf_before hac before_all) hr).2⟩
theorem at_up {b : Book} (hb : ok' b) {a c : Int} (ha : 0 ≤ a) (hac : a ≤ c) {x : X} (hx : atH b a x) : ∃ y, atH b c y ∧ y.1 ≤ x.1 := by
  obtain ⟨y, hy, hr⟩ := (at_step hb ha hac).2 x hx
  exact ⟨y, hy, (R_one (atH_one hb ha hx) (mid_ok hb hac) (hourOf_before hac before_all) hr).2⟩
/-- Where something is true at an hour the book can be true. -/
theorem at_can {b : Book} (hb : ok' b) {h : Int} (hh : 0 ≤ h) {x : X} (hx : atH b h x) : can b := by
  obtain ⟨⟨x0, h0, rfl⟩, z, hz⟩ := hx
  refine (?_ : ∃ z, run (begun b) 0 b.notes z)
  by_cases hl : later h b.notes = []
  · refine ⟨x0, run_split.2 ⟨x0, h0, ?_⟩⟩
    rw [hl]
    rfl
  · exact ⟨z, run_split.2 ⟨x0, h0, (run_shift (run_begun hb (ok_before hb h) h0).1.2 (hourOf_before hh before_all) (fun n r e => Int.le_of_lt (later_first e)) hl z).1 hz⟩⟩
theorem gone_mono {b : Book} (hb : ok' b) {a c : Int} (ha : 0 ≤ a) (hac : a ≤ c) (h : gone b a) : gone b c := by
  intro y hy
  obtain ⟨x, hx, h1⟩ := at_down hb ha hac hy
  have := h x hx
  have := (atH_one hb (Int.le_trans ha hac) hy).1
  omega
/-- A number can be at an hour just if it can be sounded there. -/
theorem fits_at {b : Book} {h m : Int} : can (withN b ⟨4, h, m, m⟩) ↔ ∃ x, atH b h x ∧ x.1 = m := by
  have hst : ∀ (S : XS) (h0 : Int) (y : X), step S h0 ⟨4, h, m, m⟩ y ↔ ∃ x, S x ∧ y = pass x (h - h0) ∧ y.1 = m := by
    intro S h0 y
    unfold step does
    constructor
    · rintro ⟨x, hx, n, hn, hd⟩
      simp at hd hn
      obtain ⟨h1, h2⟩ := hd
      exact ⟨x, hx, h1.symm, by rw [← h1, ← h2]; omega⟩
    · rintro ⟨x, hx, rfl, h1⟩
      exact ⟨x, hx, m, by simp, by simp [h1]⟩
  have hrun : ∀ z, run (begun b) 0 (withN b ⟨4, h, m, m⟩).notes z ↔ ∃ y, (∃ x, run (begun b) 0 (before h b.notes) x ∧ y = pass x (h - hourOf 0 (before h b.notes)) ∧ y.1 = m) ∧ run (· = y) h (later h b.notes) z := by
    intro z
    show run (begun b) 0 (before h b.notes ++ ⟨4, h, m, m⟩ :: later h b.notes) z ↔ _
    rw [run_append]
    show run (step _ _ _) h (later h b.notes) z ↔ _
    rw [run_single]
    simp only [hst]
  constructor
  · rintro ⟨z, hz⟩
    obtain ⟨y, ⟨x, hx, h1, h2⟩, h3⟩ := (hrun z).1 hz
    exact ⟨y, ⟨⟨x, hx, h1⟩, z, h3⟩, h2⟩
  · rintro ⟨y, ⟨⟨x, hx, h1⟩, z, h3⟩, h2⟩
    exact ⟨z, (hrun z).2 ⟨y, ⟨x, hx, h1, h2⟩, h3⟩⟩
end Go.Hu.Sn

set_option linter.unusedVariables false
set_option linter.unusedSimpArgs false
namespace Go.Hu.Sn

theorem before_app' {h : Int} : ∀ {a c : List Note}, (∀ n ∈ a, n.hour ≤ h) → (∀ n r, c = n :: r → ¬ n.hour ≤ h) → before h (a ++ c) = a ∧ later h (a ++ c) = c
  | [], [], _, _ => ⟨rfl, rfl⟩
  | [], n :: r, _, hc => by
    have h1 := hc n r rfl
    simp [before, later, List.takeWhile_cons, List.dropWhile_cons, h1]
  | n :: a, c, ha, hc => by
    obtain ⟨h1, h2⟩ := before_app' (a := a) (c := c) (fun m hm => ha m (by simp [hm])) hc
    have h3 := ha n (by simp)
    simp only [before, later] at h1 h2 ⊢
    simp only [List.cons_append, List.takeWhile_cons, List.dropWhile_cons, h3, decide_true, if_true, h1, h2, and_self]
theorem hours_last' : ∀ {ns : List Note} {h : Int}, okNotes h ns → ∀ n ∈ ns, n.hour ≤ hourOf h ns
  | [], _, _, n, hn => by simp at hn
  | m :: ns, h, hok, n, hn => by
    rcases List.mem_cons.1 hn with rfl | hn
    · exact (hourOf_le hok.2).1
    · exact hours_last' hok.2 n hn
/-- The numbers of an hour that has gone by. -/
def recAt (hs rs : List Int) (i : Nat) (x : X) : Prop := hs[i]? = some x.1 ∧ rs[i]? = some x.2
/-- What is truly so at an hour, behind some notes that are right, and was so at each hour before. -/
structure Lived (b : Book) (a : List Note) (h : Int) (c : X) (hs rs : List Int) : Prop where
  okn : okNotes 0 a
  hour : hourOf 0 a ≤ h
  small : (0 ≤ c.1 ∧ c.1 ≤ 400) ∧ (0 ≤ c.2 ∧ c.2 ≤ 9 * a.length)
  len : (hs.length : Int) ≤ h ∧ rs.length = hs.length
  now : ∃ z, run (begun b) 0 a z ∧ Sm9 z ∧ c = pass z (h - hourOf 0 a) ∧ ∀ (i : Nat) (x : X), recAt hs rs i x → hourOf 0 a ≤ i → x = pass z ((i : Int) - hourOf 0 a)
  past : ∀ (i : Nat) (x : X), recAt hs rs i x → Sm9 x ∧ R (begun b) 0 (before i a) i x ∧ R (· = x) i (later i a) h c
theorem recAt_lt {hs rs : List Int} {i : Nat} {x : X} (h : recAt hs rs i x) : i < hs.length := (List.getElem?_eq_some_iff.1 h.1).1
theorem Lived.start {b : Book} {n : Int} (hb : okSpan b.lo b.hi 400) (hn : b.lo ≤ n ∧ n ≤ b.hi) : Lived b [] 0 (n, 0) [] [] := by
  unfold okSpan at hb
  refine ⟨trivial, Int.le_refl _, by simp only [List.length_nil]; omega, by simp, ⟨(n, 0), ⟨hn, rfl⟩, ⟨by simp only; omega, by simp⟩, ?_, fun i x h => ?_⟩, fun i x h => ?_⟩
  · simp only [hourOf]
    rw [Int.sub_self, pass_zero (by simp only; omega)]
  · have := recAt_lt h; simp at this
  · have := recAt_lt h; simp at this
theorem step_of {c c' : X} {y : Note} {n : Int} (hd : does y.kind c n = (c', true)) (hn : y.lo ≤ n ∧ n ≤ y.hi) {x : X} {h0 : Int} {S : XS} (hx : S x) (hc : c = pass x (y.hour - h0)) : step S h0 y c' := ⟨x, hx, n, hn, by rw [← hc]; exact hd⟩
theorem Lived.note {b : Book} {a : List Note} {h n : Int} {c c' : X} {hs rs : List Int} {y : Note} (hl : Lived b a h c hs rs) (hy : okNote y) (hyh : y.hour = h) (hn : y.lo ≤ n ∧ n ≤ y.hi) (hd : does y.kind c n = (c', true)) (hc : (0 ≤ c'.1 ∧ c'.1 ≤ 400) ∧ (0 ≤ c'.2 ∧ c'.2 ≤ 9 * (a.length + 1 : Int))) : Lived b (a ++ [y]) h c' hs rs := by
  obtain ⟨z, hz, hz1, hz2, hz3⟩ := hl.now
  have hh : hourOf 0 (a ++ [y]) = h := by rw [hourOf_append]; exact hyh
  refine ⟨okNotes_append.2 ⟨hl.okn, ⟨hy, by rw [hyh]; exact hl.hour⟩, trivial⟩, by rw [hh]; exact Int.le_refl _, by simpa using hc, hl.len, ⟨c', ?_, ⟨hc.1.1, hc.2.1⟩, ?_, fun i x hr hi => ?_⟩, fun i x hr => ?_⟩
  · rw [run_append]
    exact step_of hd hn hz (by rw [hyh]; exact hz2)
  · rw [hh, Int.sub_self, pass_zero hc.1.1]
  · have := recAt_lt hr
    have := hl.len.1
    rw [hh] at hi
    omega
  · obtain ⟨h1, h2, h3⟩ := hl.past i x hr
    have hih : (i : Int) < h := by have := recAt_lt hr; have := hl.len.1; omega
    obtain ⟨f1, f2⟩ := before_app' (h := (i : Int)) (a := before i a) (c := later i a ++ [y]) before_all (fun m r e => by
      cases hB : later i a with
      | nil =>
        rw [hB] at e
        simp at e
        obtain ⟨rfl, _⟩ := e
        omega
      | cons m' r' =>
        rw [hB] at e
        simp at e
        obtain ⟨rfl, _⟩ := e
        have := later_first hB
        omega)
    rw [← List.append_assoc, before_later] at f1 f2
    rw [f1, f2]
    refine ⟨h1, h2, ?_⟩
    obtain ⟨w, hw, hw2⟩ := h3
    refine ⟨c', ?_, ?_⟩
    · rw [run_append]
      exact step_of hd hn hw (by rw [hyh]; exact hw2)
    · rw [hourOf_append]
      show c' = pass c' (h - y.hour)
      rw [hyh, Int.sub_self, pass_zero hc.1.1]
theorem recAt_snoc {hs rs : List Int} (hl : rs.length = hs.length) {u v : Int} {i : Nat} {x : X} (h : recAt (hs ++ [u]) (rs ++ [v]) i x) : recAt hs rs i x ∨ i = hs.length ∧ x = (u, v) := by
  unfold recAt at h ⊢
  by_cases hi : i < hs.length
  · rw [List.getElem?_append_left hi, List.getElem?_append_left (by omega)] at h
    exact .inl h
  · have h1 := (List.getElem?_eq_some_iff.1 h.1).1
    have hi2 : i = hs.length := by simp at h1; omega
    subst hi2
    rw [List.getElem?_concat_length] at h
    have h2 := h.2
    rw [← hl, List.getElem?_concat_length] at h2
    right
    refine ⟨rfl, ?_⟩
    obtain ⟨x1, x2⟩ := x
    simp only [Option.some.injEq] at h h2
    rw [← h.1, ← h2]
theorem Lived.hours {b : Book} {a : List Note} {h : Nat} {c : X} {hs rs : List Int} (hl : Lived b a h c hs rs) (hlen : hs.length = h) : Lived b a ((h : Int) + 1) (pass c 1) (hs ++ [c.1]) (rs ++ [c.2]) := by
  obtain ⟨z, hz, hz1, hz2, hz3⟩ := hl.now
  have hc : Sm9 c := ⟨hl.small.1.1, hl.small.2.1⟩
  obtain ⟨p1, p2, p3⟩ := pass_one (d := 1) hc (by decide)
  have hbig := hl.hour
  refine ⟨hl.okn, by omega, ⟨⟨p1.1, Int.le_trans p2 hl.small.1.2⟩, by rw [p3]; exact hl.small.2⟩, by have := hl.len.2; simp; omega, ⟨z, hz, hz1, ?_, fun i x hr hi => ?_⟩, fun i x hr => ?_⟩
  · rw [hz2, pass_pass hz1.2 (by omega) (by decide)]
    congr 1
    omega
  · rcases recAt_snoc hl.len.2 hr with hr | ⟨rfl, rfl⟩
    · exact hz3 i x hr hi
    · rw [hlen]
      exact hz2
  · rcases recAt_snoc hl.len.2 hr with hr | ⟨rfl, rfl⟩
    · obtain ⟨h1, h2, w, h3, h4⟩ := hl.past i x hr
      refine ⟨h1, h2, w, h3, ?_⟩
      have hiv : Sm9 w := by
        have hok : okNotes (i : Int) (later i a) := by
          have h5 := hl.okn
          rw [← before_later (i : Int) a] at h5
          exact okNotes_later (okNotes_append.1 h5).2 fun x r e => Int.le_of_lt (later_first e)
        exact (run_one h1 hok h3).1
      have hho : hourOf (i : Int) (later i a) ≤ h := by
        cases hla : later i a with
        | nil =>
          simp only [hourOf]
          have := recAt_lt hr
          omega
        | cons y r =>
          have h5 : a = before i a ++ (y :: r) := by rw [← hla, before_later]
          have h6 : hourOf 0 a = hourOf (i : Int) (y :: r) := by
            conv => lhs; rw [h5, hourOf_append]
            rfl
          rw [← h6]
          exact hl.hour
      rw [h4, pass_pass hiv.2 (by omega) (by decide)]
      congr 1
      omega
    · rw [hlen]
      obtain ⟨f1, f2⟩ := before_app' (h := (h : Int)) (a := a) (c := []) (fun n hn => Int.le_trans (hours_last' hl.okn n hn) hl.hour) (fun n r e => by cases e)
      rw [List.append_nil] at f1 f2
      rw [f1, f2]
      refine ⟨hc, ⟨z, hz, hz2⟩, c, rfl, ?_⟩
      simp only [hourOf]
      congr 1
      omega
/-- All hours of a book that was lived. -/
theorem Lived.at {b : Book} {a : List Note} {h : Int} {c : X} {hs rs : List Int} (hl : Lived b a h c hs rs) {i : Nat} {x : X} (hr : recAt hs rs i x) : atH ⟨b.lo, b.hi, a⟩ i x := by
  obtain ⟨_, h2, w, h3, _⟩ := hl.past i x hr
  exact atH_R.2 ⟨h2, w, h3⟩
theorem Lived.saved {b : Book} {a : List Note} {h : Int} {c : X} {hs rs : List Int} (hl : Lived b a h c hs rs) {i : Nat} {x y : X} (hi : hourOf 0 a = i) (hr : recAt hs rs i x) (hr' : recAt hs rs 60 y) (h60 : hourOf 0 a ≤ 60) : run (begun b) 0 a x ∧ save ⟨b.lo, b.hi, a⟩ x = x.1 - y.1 := by
  obtain ⟨z, hz, hz1, hz2, hz3⟩ := hl.now
  have h1 := hz3 i x hr (by omega)
  have h2 := hz3 60 y hr' h60
  rw [hi, Int.sub_self, pass_zero hz1.1] at h1
  subst h1
  refine ⟨hz, ?_⟩
  unfold save
  rw [h2]
  rfl
end Go.Hu.Sn

set_option linter.unusedVariables false
namespace Go.Hu.Sn

def nums (lo hi : Int) : List Int := (List.range (hi - lo + 1).toNat).map fun (k : Nat) => lo + k
theorem mem_nums {lo hi n : Int} : n ∈ nums lo hi ↔ lo ≤ n ∧ n ≤ hi := by
  unfold nums
  rw [List.mem_map]
  constructor
  · rintro ⟨k, hk, rfl⟩
    rw [List.mem_range] at hk
    omega
  · rintro ⟨h1, h2⟩
    exact ⟨(n - lo).toNat, by rw [List.mem_range]; omega, by omega⟩
def stepL (l : List X) (h : Int) (n : Note) : List X := l.flatMap fun x => (nums n.lo n.hi).filterMap fun m => if (does n.kind (pass x (n.hour - h)) m).2 then some (does n.kind (pass x (n.hour - h)) m).1 else none
theorem mem_stepL {l : List X} {h : Int} {n : Note} {S : XS} (hS : ∀ x, x ∈ l ↔ S x) (y : X) : y ∈ stepL l h n ↔ step S h n y := by
  unfold stepL step
  rw [List.mem_flatMap]
  constructor
  · rintro ⟨x, hx, hy⟩
    rw [List.mem_filterMap] at hy
    obtain ⟨m, hm, hy⟩ := hy
    split at hy
    · rename_i hd
      refine ⟨x, (hS x).1 hx, m, mem_nums.1 hm, ?_⟩
      rw [← Option.some.inj hy, ← hd]
    · cases hy
  · rintro ⟨x, hx, m, hm, hd⟩
    refine ⟨x, (hS x).2 hx, ?_⟩
    rw [List.mem_filterMap]
    exact ⟨m, mem_nums.2 hm, by rw [hd]; rfl⟩
def runL : List X → Int → List Note → List X
  | l, _, [] => l
  | l, h, n :: ns => runL (stepL l h n) n.hour ns
theorem mem_runL : ∀ {ns : List Note} {l : List X} {h : Int} {S : XS}, (∀ x, x ∈ l ↔ S x) → ∀ y, y ∈ runL l h ns ↔ run S h ns y
  | [], l, h, S, hS, y => hS y
  | n :: ns, l, h, S, hS, y => mem_runL (ns := ns) (fun x => mem_stepL hS x) y
def begunL (b : Book) : List X := (nums b.lo b.hi).map fun n => (n, 0)
theorem mem_begunL {b : Book} (x : X) : x ∈ begunL b ↔ begun b x := by
  unfold begunL begun
  rw [List.mem_map]
  constructor
  · rintro ⟨n, hn, rfl⟩
    exact ⟨mem_nums.1 hn, rfl⟩
  · rintro ⟨h1, h2⟩
    exact ⟨x.1, mem_nums.2 h1, by rw [← h2]⟩
def allL (b : Book) : List X := runL (begunL b) 0 b.notes
theorem mem_allL {b : Book} (x : X) : x ∈ allL b ↔ run (begun b) 0 b.notes x := mem_runL mem_begunL x
def canB (b : Book) : Bool := !(allL b).isEmpty
theorem can_iff {b : Book} : can b ↔ canB b = true := by
  unfold can canB
  constructor
  · rintro ⟨z, hz⟩
    have := (mem_allL z).2 hz
    cases h : allL b with
    | nil => rw [h] at this; cases this
    | cons a l => rfl
  · intro h
    cases h' : allL b with
    | nil => rw [h'] at h; cases h
    | cons a l => exact ⟨a, (mem_allL a).1 (by rw [h']; simp)⟩
def atL (b : Book) (h : Int) : List X := ((runL (begunL b) 0 (before h b.notes)).map fun x => pass x (h - hourOf 0 (before h b.notes))).filter fun y => !(runL [y] h (later h b.notes)).isEmpty
theorem mem_atL {b : Book} {h : Int} (y : X) : y ∈ atL b h ↔ atH b h y := by
  unfold atL atH
  rw [List.mem_filter, List.mem_map]
  have h1 : (!(runL [y] h (later h b.notes)).isEmpty) = true ↔ ∃ z, run (· = y) h (later h b.notes) z := by
    have hm : ∀ z, z ∈ runL [y] h (later h b.notes) ↔ run (· = y) h (later h b.notes) z := mem_runL fun x => by simp
    cases h' : runL [y] h (later h b.notes) with
    | nil =>
      rw [h'] at hm
      constructor
      · intro h; cases h
      · rintro ⟨z, hz⟩
        exact absurd ((hm z).2 hz) (by simp)
    | cons a l =>
      rw [h'] at hm
      exact ⟨fun _ => ⟨a, (hm a).1 (by simp)⟩, fun _ => rfl⟩
  rw [h1]
  constructor
  · rintro ⟨⟨x, hx, rfl⟩, h2⟩
    exact ⟨⟨x, (mem_runL mem_begunL x).1 hx, rfl⟩, h2⟩
  · rintro ⟨⟨x, hx, rfl⟩, h2⟩
    exact ⟨⟨x, (mem_runL mem_begunL x).2 hx, rfl⟩, h2⟩
instance {l : List Int} {lo hi : Int} : Decidable (EndsL l lo hi) := by unfold EndsL; infer_instance
theorem ends_eq {S : Int → Prop} {l : List Int} {lo hi a b : Int} (hS : ∀ n, n ∈ l ↔ S n) (hl : EndsL l lo hi) (h : Ends S a b) : a = lo ∧ b = hi := by
  refine h.unique ⟨⟨(hS _).1 hl.1.1, (hS _).1 hl.1.2⟩, fun n hn => hl.2 n ((hS n).2 hn)⟩
theorem mem_atMap {b : Book} {h : Int} {f : X → Int} (n : Int) : n ∈ (atL b h).map f ↔ ∃ x, atH b h x ∧ f x = n := by
  rw [List.mem_map]
  simp only [mem_atL]
theorem gone_iff {b : Book} {h : Int} : gone b h ↔ ((atL b h).all fun x => decide (x.1 = 0)) = true := by
  unfold gone
  rw [List.all_eq_true]
  simp only [mem_atL, decide_eq_true_eq]
def pickB (b : Book) (m : Nat) (l : List Int) : Option (List Int) := ((subs b.notes.length m (nextOf l)).map (l ++ ·)).find? fun l => canB (withoutN b l)
theorem pick_eq {b : Book} {m : Nat} {l : List Int} : pickL b m l = pickB b m l := by
  unfold pickL pickB
  congr 1
  funext l
  rw [Bool.eq_iff_iff, @decide_eq_true_eq _ (Classical.propDecidable _), can_iff]
def wrongB (b : Book) : Option (List Int) := (List.range' 0 (b.notes.length + 1)).findSome? fun m => pickB b m []
theorem wrong_eq {b : Book} : wrongL b = wrongB b := by
  unfold wrongL wrongB
  congr 1
  funext m
  exact pick_eq

/-! ### The examples -/
def notes0 : List Note := [⟨0, 6, 30, 30⟩, ⟨1, 8, 1, 3⟩, ⟨2, 18, 0, 0⟩, ⟨4, 20, 45, 55⟩]
def bk (more : List Note) : Book := ⟨100, 110, notes0 ++ more⟩
def torn : Book := bk [⟨4, 30, 60, 60⟩]
def leaky : Book := ⟨20, 24, [⟨1, 2, 2, 3⟩]⟩
theorem bk_ok : ok (bk []) := by decide +kernel
theorem bk_can : can (bk []) := by rw [can_iff]; decide +kernel
theorem torn_ok : ok torn := by decide +kernel
theorem leaky_ok : ok leaky := by decide +kernel
theorem leaky_can : can leaky := by rw [can_iff]; decide +kernel
theorem bk_held : EndsL ((atL (bk []) 10).map Prod.fst) 66 74 := by decide +kernel
theorem bk_rate : EndsL ((atL (bk []) 8).map Prod.snd) 2 3 := by decide +kernel
theorem bk_at20 : (20, 50) = (20, 50) ∧ ((atL (bk []) 20).any fun x => decide (x.1 = 50)) = true := by decide +kernel
theorem bk_fits : canB (withN (bk []) ⟨0, 21, 56, 60⟩) = false := by decide +kernel
theorem torn_wrong : wrongB torn = some [3] := by decide +kernel
theorem leaky_empty : (∀ k ∈ List.range 14, ((atL leaky (k : Nat)).all fun x => decide (x.1 = 0)) = false) ∧ ((atL leaky 14).all fun x => decide (x.1 = 0)) = true := by decide +kernel
theorem leaky_saved : EndsL ((allL leaky).map (save leaky)) 20 24 := by decide +kernel
theorem leaky_held : EndsL ((atL leaky 5).map Prod.fst) 11 18 := by decide +kernel
end Go.Hu.Sn

set_option linter.unusedSimpArgs false
set_option linter.unusedVariables false
namespace Go.Hu.Sn
attribute [local irreducible] wpS wpIs wpI
attribute [local go_sem] Nat.mul_one Nat.one_mul Nat.zero_add Nat.add_zero Nat.zero_mul and_self and_true true_and decide_true decide_false Bool.false_eq_true if_true if_false Int.cast_ofNat_Int Int.zero_le_ofNat Int.le_refl Int.reduceLT Int.reduceLE Int.reduceToNat

variable {s : St} {Q : V → St → Prop}

theorem c52 (n : Int) (hq : Q (.agg [.int n, .int n]) s) : Call prog (.fn 52 [] []) [.int n] s Q := by
  refine Call.fn F52 p52 rfl ?_
  simp only [F52]
  repeat first|refine Wr ?_|refine Wb ?_|refine Wc ?_|refine Wd ?_|refine We ?_|refine Wf ?_|refine Wg ?_|refine Wh ?_|refine Wi ?_|refine Wj (by decide) ?_|refine Wa ?_|refine Wk ?_|refine Wl ?_|refine Wm ?_|refine Wn ?_|refine Wo ?_|refine Wp ?_|refine Wq ?_|refine Ww (by simp only[go_sem];done) ?_|((first|refine Ws ?_|refine Wt ?_|refine Wu ?_|refine Wv (by simp only[go_sem];done) ?_);conv=>arg 2;simp only[go_sem])
  first|refine w_retQ ?_|refine w_endQ ?_
  conv=>arg 1;simp only[go_sem]
  exact w_res (by simp only [go_sem]) hq
theorem c68 (lo hi : Int) (hq : Q (.agg [.int lo, .int hi]) s) : Call prog (.fn 68 [] []) [.int lo, .int hi] s Q := by
  refine Call.fn F68 p68 rfl ?_
  simp only [F68]
  repeat first|refine Wr ?_|refine Wb ?_|refine Wc ?_|refine Wd ?_|refine We ?_|refine Wf ?_|refine Wg ?_|refine Wh ?_|refine Wi ?_|refine Wj (by decide) ?_|refine Wa ?_|refine Wk ?_|refine Wl ?_|refine Wm ?_|refine Wn ?_|refine Wo ?_|refine Wp ?_|refine Wq ?_|refine Ww (by simp only[go_sem];done) ?_|((first|refine Ws ?_|refine Wt ?_|refine Wu ?_|refine Wv (by simp only[go_sem];done) ?_);conv=>arg 2;simp only[go_sem])
  first|refine w_retQ ?_|refine w_endQ ?_
  conv=>arg 1;simp only[go_sem]
  exact w_res (by simp only [go_sem]) hq
theorem c53 (k h lo hi : Int) (hq : Q (.agg [.int k, .int h, .int lo, .int hi]) s) : Call prog (.fn 53 [] []) [.int k, .int h, .agg [.int lo, .int hi]] s Q := by
  refine Call.fn F53 p53 rfl ?_
  simp only [F53]
  repeat first|refine Wr ?_|refine Wb ?_|refine Wc ?_|refine Wd ?_|refine We ?_|refine Wf ?_|refine Wg ?_|refine Wh ?_|refine Wi ?_|refine Wj (by decide) ?_|refine Wa ?_|refine Wk ?_|refine Wl ?_|refine Wm ?_|refine Wn ?_|refine Wo ?_|refine Wp ?_|refine Wq ?_|refine Ww (by simp only[go_sem];done) ?_|((first|refine Ws ?_|refine Wt ?_|refine Wu ?_|refine Wv (by simp only[go_sem];done) ?_);conv=>arg 2;simp only[go_sem])
  first|refine w_retQ ?_|refine w_endQ ?_
  conv=>arg 1;simp only[go_sem]
  exact w_res (by simp only [go_sem]) hq
theorem c74 (more : List Note) (hm : more.length ≤ 100) (hq : ∀ s', s ≤ s' → Q (bookV (bk more)) s') : Call prog (.fn 74 [] []) [.lst (notesV more) .any] s Q := by
  refine Call.fn F74 p74 rfl ?_
  simp only [F74]
  repeat first|refine Wr ?_|refine Wb ?_|refine Wc ?_|refine Wd ?_|refine We ?_|refine Wf ?_|refine Wg ?_|refine Wh ?_|refine Wi ?_|refine Wj (by decide) ?_|refine Wa ?_|refine Wk ?_|refine Wl ?_|refine Wm ?_|refine Wn ?_|refine Wo ?_|refine Wp ?_|refine Wq ?_|refine Ww (by simp only[go_sem];done) ?_|((first|refine Ws ?_|refine Wt ?_|refine Wu ?_|refine Wv (by simp only[go_sem];done) ?_);conv=>arg 2;simp only[go_sem])|(refine Wx (by simp only[go_sem];rfl) (by simp only[go_sem];rfl) ?_;first|refine c52 _ ?_|refine c68 _ _ ?_|refine c53 _ _ _ _ ?_)
  refine w_op ?_
  simp only [wpO, go_sem, hd_notes, row_notesV, notesV_length]
  refine ⟨by simp [maxLst]; omega, rfl, ?_⟩
  have h0 : ∀ r, eraseL ([V.agg [.int 0, .int 6, .int 30, .int 30], V.agg [.int 1, .int 8, .int 1, .int 3], V.agg [.int 2, .int 18, .int 0, .int 0], V.agg [.int 4, .int 20, .int 45, .int 55]] ++ notesV r) = notesV (notes0 ++ r) := fun r => by
    have := eraseL_notes (notes0 ++ r)
    rw [notesV_append] at this ⊢
    exact this
  split
  · rename_i hn
    have hm0 : more = [] := by
      cases more with
      | nil => rfl
      | cons a b => simp [notesV] at hn
    subst hm0
    have h1 := h0 []
    simp only [notesV, List.map_nil, List.append_nil] at h1
    repeat first|refine Wr ?_|refine Wb ?_|refine Wc ?_|refine Wd ?_|refine We ?_|refine Wf ?_|refine Wg ?_|refine Wh ?_|refine Wi ?_|refine Wj (by decide) ?_|refine Wa ?_|refine Wk ?_|refine Wl ?_|refine Wm ?_|refine Wn ?_|refine Wo ?_|refine Wp ?_|refine Wq ?_|refine Ww (by simp only[go_sem];done) ?_|((first|refine Ws ?_|refine Wt ?_|refine Wu ?_|refine Wv (by simp only[go_sem];done) ?_);conv=>arg 2;simp only[go_sem])
    first|refine w_retQ ?_|refine w_endQ ?_
    conv=>arg 1;simp only[go_sem]
    exact w_res (v := bookV (bk [])) (by simp only [go_sem, eraseL_cons, eraseL_nil] <;> rfl) (hq s (St.le_refl s))
  · intro l hl
    repeat first|refine Wr ?_|refine Wb ?_|refine Wc ?_|refine Wd ?_|refine We ?_|refine Wf ?_|refine Wg ?_|refine Wh ?_|refine Wi ?_|refine Wj (by decide) ?_|refine Wa ?_|refine Wk ?_|refine Wl ?_|refine Wm ?_|refine Wn ?_|refine Wo ?_|refine Wp ?_|refine Wq ?_|refine Ww (by simp only[go_sem];done) ?_|((first|refine Ws ?_|refine Wt ?_|refine Wu ?_|refine Wv (by simp only[go_sem];done) ?_);conv=>arg 2;simp only[go_sem])
    first|refine w_retQ ?_|refine w_endQ ?_
    conv=>arg 1;simp only[go_sem]
    refine w_res (v := bookV (bk more)) ?_ (hq _ (St.le_new hl))
    have h1 := h0 more
    simp only [List.cons_append, List.nil_append] at h1 ⊢
    simp only [go_sem, h1]
    rfl
theorem c75 (hq : ∀ s', s ≤ s' → Q (bookV torn) s') : Call prog (.fn 75 [] []) [] s Q := by
  refine Call.fn F75 p75 rfl ?_
  simp only [F75]
  repeat first|refine Wr ?_|refine Wb ?_|refine Wc ?_|refine Wd ?_|refine We ?_|refine Wf ?_|refine Wg ?_|refine Wh ?_|refine Wi ?_|refine Wj (by decide) ?_|refine Wa ?_|refine Wk ?_|refine Wl ?_|refine Wm ?_|refine Wn ?_|refine Wo ?_|refine Wp ?_|refine Wq ?_|refine Ww (by simp only[go_sem];done) ?_|((first|refine Ws ?_|refine Wt ?_|refine Wu ?_|refine Wv (by simp only[go_sem];done) ?_);conv=>arg 2;simp only[go_sem])|(refine Wx (by simp only[go_sem];rfl) (by simp only[go_sem];rfl) ?_;first|refine c52 _ ?_|refine c53 _ _ _ _ ?_|refine c74 [⟨4, 30, 60, 60⟩] (by simp) fun s1 h1 => ?_)
  first|refine w_retQ ?_|refine w_endQ ?_
  conv=>arg 1;simp only[go_sem]
  exact w_res (v := bookV torn) (by simp only [go_sem] <;> rfl) (hq s1 h1)
theorem c76 (hq : Q (bookV leaky) s) : Call prog (.fn 76 [] []) [] s Q := by
  refine Call.fn F76 p76 rfl ?_
  simp only [F76]
  repeat first|refine Wr ?_|refine Wb ?_|refine Wc ?_|refine Wd ?_|refine We ?_|refine Wf ?_|refine Wg ?_|refine Wh ?_|refine Wi ?_|refine Wj (by decide) ?_|refine Wa ?_|refine Wk ?_|refine Wl ?_|refine Wm ?_|refine Wn ?_|refine Wo ?_|refine Wp ?_|refine Wq ?_|refine Ww (by simp only[go_sem];done) ?_|((first|refine Ws ?_|refine Wt ?_|refine Wu ?_|refine Wv (by simp only[go_sem];done) ?_);conv=>arg 2;simp only[go_sem])|(refine Wx (by simp only[go_sem];rfl) (by simp only[go_sem];rfl) ?_;first|refine c68 _ _ ?_|refine c53 _ _ _ _ ?_)
  first|refine w_retQ ?_|refine w_endQ ?_
  conv=>arg 1;simp only[go_sem]
  exact w_res (v := bookV leaky) (by simp only [go_sem] <;> rfl) hq
theorem c46 (l m : List Int) (hl : (l.length : Int) < 9223372036854775808) (hm : (m.length : Int) < 9223372036854775808) (hq : Q (.bool (decide (l = m))) s) : Call prog (.fn 46 [] []) [.lst (intsV l) .any, .lst (intsV m) .any] s Q := by
  refine Call.fn F46 p46 rfl ?_
  simp only [F46]
  repeat first|refine Wr ?_|refine Wb ?_|refine Wc ?_|refine Wd ?_|refine We ?_|refine Wf ?_|refine Wg ?_|refine Wh ?_|refine Wi ?_|refine Wj (by decide) ?_|refine Wa ?_|refine Wk ?_|refine Wl ?_|refine Wm ?_|refine Wn ?_|refine Wo ?_|refine Wp ?_|refine Wq ?_|refine Ww (by simp only[go_sem,intsV_length];done) ?_|((first|refine Ws ?_|refine Wt ?_|refine Wu ?_|refine Wv (by simp only[go_sem,intsV_length];done) ?_);conv=>arg 2;simp only[go_sem,intsV_length])
  refine w_iter (fun n e s' => ∃ (k : Nat) (sm : Bool), n = l.length - k ∧ k ≤ l.length ∧ (sm = true → l.length = m.length ∧ l.take k = m.take k) ∧ (sm = false → l ≠ m) ∧ e 0 = .lst (intsV l) .any ∧ e 1 = .lst (intsV m) .any ∧ e 5 = .bool sm ∧ e 6 = .int k ∧ s' = s) (l.length - 0) ?_ ?_
  · refine ⟨0, (l.length : Int) == (m.length : Int), rfl, Nat.zero_le _, fun h => ⟨by rw [beq_iff_eq] at h; omega, rfl⟩, fun h => ?_, ?_, ?_, ?_, ?_, rfl⟩
    any_goals (simp only [go_sem, Int.natCast_zero]; done)
    · rintro rfl
      simp at h
  · rintro n e s' ⟨k, sm, hn, hk, h1, h2, e0, e1, e5, e6, rfl⟩
    cases sm with
    | false =>
      repeat first|refine Wr ?_|refine Wb ?_|refine Wc ?_|refine Wd ?_|refine We ?_|refine Wf ?_|refine Wg ?_|refine Wh ?_|refine Wi ?_|refine Wj (by decide) ?_|refine Wa ?_|refine Wk ?_|refine Wl ?_|refine Wm ?_|refine Wn ?_|refine Wo ?_|refine Wp ?_|refine Wq ?_|refine Ww (by simp only[go_sem,e0,e1,e5,e6];done) ?_|((first|refine Ws ?_|refine Wt ?_|refine Wu ?_|refine Wv (by simp only[go_sem,e0,e1,e5,e6];done) ?_);conv=>arg 2;simp only[go_sem,e0,e1,e5,e6])
      first|refine w_retQ ?_|refine w_endQ ?_
      conv=>arg 1;simp only[go_sem]
      refine w_res (v := .bool false) (by simp only [go_sem]) ?_
      have : decide (l = m) = false := by simpa using h2 rfl
      rw [← this]
      exact hq
    | true =>
      obtain ⟨h3, h4⟩ := h1 rfl
      by_cases hlt : (k : Int) < (l.length : Int)
      · have hkl : k < l.length := by omega
        have hkm : k < m.length := by omega
        have hltm : (k : Int) < (m.length : Int) := by omega
        have hx : (intsV l)[((k : Int)).toNat]? = some (.int l[k]) := by rw [Int.toNat_natCast]; simp [intsV, hkl]
        have hy : (intsV m)[((k : Int)).toNat]? = some (.int m[k]) := by rw [Int.toNat_natCast]; simp [intsV, hkm]
        have hp : 0 ≤ (k : Int) := by omega
        have hn1 : l.length - (k + 1) < n := by omega
        have hw : w64 ((k : Int) + 1) = ((k + 1 : Nat) : Int) := by rw [w64_id (by omega)]; simp
        repeat first|refine Wr ?_|refine Wb ?_|refine Wc ?_|refine Wd ?_|refine We ?_|refine Wf ?_|refine Wg ?_|refine Wh ?_|refine Wi ?_|refine Wj (by decide) ?_|refine Wa ?_|refine Wk ?_|refine Wl ?_|refine Wm ?_|refine Wn ?_|refine Wo ?_|refine Wp ?_|refine Wq ?_|refine Ww (by simp only[go_sem,e0,e1,e5,e6,hlt,hltm,hx,hy,hp,hw,intsV_length];done) ?_|((first|refine Ws ?_|refine Wt ?_|refine Wu ?_|refine Wv (by simp only[go_sem,e0,e1,e5,e6,hlt,hltm,hx,hy,hp,hw,intsV_length];done) ?_);conv=>arg 2;simp only[go_sem,e0,e1,e5,e6,hlt,hltm,hx,hy,hp,hw,intsV_length])
        refine ⟨_, hn1, k + 1, l[k] == m[k], rfl, hkl, fun h => ⟨h3, ?_⟩, fun h => ?_, ?_, ?_, ?_, ?_, rfl⟩
        any_goals (simp only [go_sem, e0, e1, e5, e6, hw]; done)
        · rw [beq_iff_eq] at h
          rw [List.take_succ_eq_append_getElem hkl, List.take_succ_eq_append_getElem hkm, h4, h]
        · rintro rfl
          simp at h
      · have hkl : k = l.length := by omega
        repeat first|refine Wr ?_|refine Wb ?_|refine Wc ?_|refine Wd ?_|refine We ?_|refine Wf ?_|refine Wg ?_|refine Wh ?_|refine Wi ?_|refine Wj (by decide) ?_|refine Wa ?_|refine Wk ?_|refine Wl ?_|refine Wm ?_|refine Wn ?_|refine Wo ?_|refine Wp ?_|refine Wq ?_|refine Ww (by simp only[go_sem,e0,e1,e5,e6,hlt,intsV_length];done) ?_|((first|refine Ws ?_|refine Wt ?_|refine Wu ?_|refine Wv (by simp only[go_sem,e0,e1,e5,e6,hlt,intsV_length];done) ?_);conv=>arg 2;simp only[go_sem,e0,e1,e5,e6,hlt,intsV_length])
        first|refine w_retQ ?_|refine w_endQ ?_
        conv=>arg 1;simp only[go_sem]
        refine w_res (v := .bool true) (by simp only [go_sem]) ?_
        have hlm : l = m := by
          rw [List.take_of_length_le (by omega), List.take_of_length_le (by omega)] at h4
          exact h4
        have : decide (l = m) = true := by simpa using hlm
        rw [← this]
        exact hq

theorem ask0 {b : Book} {is : Prop} (h1 : ok b) (h2 : is) (h3 : can b) : askE b is = 0 := askE_zero.2 ⟨h1, h2, h3⟩
theorem answer_eq {e : Int} {S : Int → Prop} {l : List Int} {lo hi a b : Int} (he : e = 0) (hS : ∀ n, n ∈ l ↔ S n) (hl : EndsL l lo hi) (h : Answer e S a b) : a = lo ∧ b = hi := by
  unfold Answer at h
  rw [if_pos he] at h
  exact ends_eq hS hl h
theorem len_bk : ((bk []).notes.length : Int) < 9223372036854775808 := by decide
theorem len_leaky : (leaky.notes.length : Int) < 9223372036854775808 := by decide
theorem len_torn : (torn.notes.length : Int) < 9223372036854775808 := by decide
theorem x1 (hq : ∀ s', s ≤ s' → Q (.tup [.agg [.int 66, .int 74], .int 0]) s') : Call prog (.fn 33 [] []) [bookV (bk []), .int 10] s Q := by
  have he : askE (bk []) ((0 : Int) ≤ 10 ∧ (10 : Int) ≤ 60) = 0 := ask0 bk_ok (by decide) bk_can
  refine c33 _ _ len_bk fun lo hi s' hA hle => ?_
  obtain ⟨rfl, rfl⟩ := answer_eq he mem_atMap bk_held hA
  rw [he]
  exact hq s' hle
theorem x2 (hq : ∀ s', s ≤ s' → Q (.tup [.agg [.int 2, .int 3], .int 0]) s') : Call prog (.fn 35 [] []) [bookV (bk []), .int 8] s Q := by
  have he : askE (bk []) ((0 : Int) ≤ 8 ∧ (8 : Int) ≤ 60) = 0 := ask0 bk_ok (by decide) bk_can
  refine c35 _ _ len_bk fun lo hi s' hA hle => ?_
  obtain ⟨rfl, rfl⟩ := answer_eq he mem_atMap bk_rate hA
  rw [he]
  exact hq s' hle
theorem x3 (hq : ∀ s', s ≤ s' → Q (.tup [.bool true, .int 0]) s') : Call prog (.fn 31 [] []) [bookV (bk []), .int 20, .int 50] s Q := by
  have he : askE (bk []) (((0 : Int) ≤ 20 ∧ (20 : Int) ≤ 60) ∧ (0 : Int) ≤ 50 ∧ (50 : Int) ≤ 400) = 0 := ask0 bk_ok (by decide) bk_can
  refine c31 _ _ _ len_bk fun s' hle => ?_
  have hx : ∃ x, atH (bk []) 20 x ∧ x.1 = 50 := by
    have h := bk_at20.2
    rw [List.any_eq_true] at h
    obtain ⟨x, h1, h2⟩ := h
    exact ⟨x, (mem_atL x).1 h1, of_decide_eq_true h2⟩
  simp only [he, hx, true_and, decide_true]
  exact hq s' hle
theorem x4 (hq : ∀ s', s ≤ s' → Q (.tup [.bool false, .int 0]) s') : Call prog (.fn 42 [] []) [bookV (bk []), .agg [.int 0, .int 21, .int 56, .int 60]] s Q := by
  refine c42 (bk []) ⟨0, 21, 56, 60⟩ len_bk fun s' hle => ?_
  have h1 : okNote ⟨0, 21, 56, 60⟩ := by decide
  have h2 : ¬ can (withN (bk []) ⟨0, 21, 56, 60⟩) := by rw [can_iff, bk_fits]; simp
  simp only [bk_ok, h1, h2, and_false, if_true, decide_false]
  exact hq s' hle
theorem x5 (hq : ∀ s', s ≤ s' → Q (.tup [.lst (intsV [3]) .any, .int 0]) s') : Call prog (.fn 44 [] []) [bookV torn] s Q := by
  refine c44 torn len_torn fun l s' h1 h2 hle => ?_
  have h := h1 torn_ok
  rw [wrong_eq, torn_wrong] at h
  simp only [Option.getD_some] at h
  subst h
  simp only [torn_ok, if_true]
  exact hq s' hle
theorem x6 (hq : ∀ s', s ≤ s' → Q (.tup [.int 14, .int 0]) s') : Call prog (.fn 38 [] []) [bookV leaky] s Q := by
  have he : askE leaky True = 0 := ask0 leaky_ok trivial leaky_can
  refine c38 leaky len_leaky fun n e s' hE hle => ?_
  have h14 : EmptyIs leaky 14 0 := by
    refine .inr (.inl ⟨he, by decide, rfl, gone_iff.2 leaky_empty.2, fun h h1 h2 => ?_⟩)
    rw [gone_iff]
    have := leaky_empty.1 h.toNat (by rw [List.mem_range]; omega)
    rw [show ((h.toNat : Nat) : Int) = h by omega] at this
    rw [this]
    simp
  obtain ⟨rfl, rfl⟩ := hE.unique h14
  exact hq s' hle
theorem x7 (hq : ∀ s', s ≤ s' → Q (.tup [.agg [.int 20, .int 24], .int 0]) s') : Call prog (.fn 40 [] []) [bookV leaky] s Q := by
  have he : askE leaky True = 0 := ask0 leaky_ok trivial leaky_can
  refine c40 _ len_leaky fun lo hi s' hA hle => ?_
  obtain ⟨rfl, rfl⟩ := answer_eq he (fun n => by rw [List.mem_map]; simp only [mem_allL]) leaky_saved hA
  rw [he]
  exact hq s' hle
theorem x8 (hq : ∀ s', s ≤ s' → Q (.tup [.agg [.int 11, .int 18], .int 0]) s') : Call prog (.fn 33 [] []) [bookV leaky, .int 5] s Q := by
  have he : askE leaky ((0 : Int) ≤ 5 ∧ (5 : Int) ≤ 60) = 0 := ask0 leaky_ok (by decide) leaky_can
  refine c33 _ _ len_leaky fun lo hi s' hA hle => ?_
  obtain ⟨rfl, rfl⟩ := answer_eq he mem_atMap leaky_held hA
  rw [he]
  exact hq s' hle
theorem x9 (hq : ∀ s', s ≤ s' → Q (.tup [.bool true, .int 0]) s') : Call prog (.fn 27 [] []) [bookV (bk [])] s Q := by
  refine c27 _ len_bk fun s' hle => ?_
  simp only [bk_ok, bk_can, true_and, decide_true, if_true]
  exact hq s' hle

set_option maxHeartbeats 2000000 in
theorem c37 (hq : ∀ s', s ≤ s' → Q (.bool true) s') : Call prog (.fn 37 [] []) [] s Q := by
  refine Call.fn F37 p37 rfl ?_
  simp only [F37]
  repeat first|refine Wr ?_|refine Wb ?_|refine Wc ?_|refine Wd ?_|refine We ?_|refine Wf ?_|refine Wg ?_|refine Wh ?_|refine Wi ?_|refine Wj (by decide) ?_|refine Wa ?_|refine Wk ?_|refine Wl ?_|refine Wm ?_|refine Wn ?_|refine Wo ?_|refine Wp ?_|refine Wq ?_|refine Ww (by simp only[go_sem];done) ?_|((first|refine Ws ?_|refine Wt ?_|refine Wu ?_|refine Wv (by simp only[go_sem];done) ?_);conv=>arg 2;simp only[go_sem])|(refine Wx (by simp only[go_sem];rfl) (by simp only[go_sem];rfl) ?_;first|refine c74 [] (by simp) fun s1 g1 => ?_|refine x1 fun s2 g2 => ?_|refine x2 fun s3 g3 => ?_|refine x3 fun s4 g4 => ?_|refine x4 fun s5 g5 => ?_|refine x5 fun s6 g6 => ?_|refine x6 fun s7 g7 => ?_|refine x7 fun s8 g8 => ?_|refine x8 fun s9 g9 => ?_|refine x9 fun s10 g10 => ?_|refine c75 fun s11 g11 => ?_|refine c76 ?_|refine c68 _ _ ?_|refine c53 _ _ _ _ ?_|refine c46 [3] [3] (by decide) (by decide) ?_)
  first|refine w_retQ ?_|refine w_endQ ?_
  conv=>arg 1;simp only[go_sem]
  refine w_res (v := .bool true) (by simp only [go_sem]) (hq _ ?_)
  repeat (first | assumption | refine St.le_trans ?_ (by assumption))
end Go.Hu.Sn

set_option linter.unusedSimpArgs false
set_option linter.unusedVariables false
namespace Go.Hu.Sn
attribute [local irreducible] wpS wpIs wpI
attribute [local go_sem] Nat.mul_one Nat.one_mul Nat.zero_add Nat.add_zero Nat.zero_mul and_self and_true true_and decide_true decide_false Bool.false_eq_true if_true if_false Int.cast_ofNat_Int Int.zero_le_ofNat Int.le_refl Int.reduceLT Int.reduceLE Int.reduceToNat

variable {s : St} {Q : V → St → Prop}

theorem c51 (n lo hi : Int) (h : Q (.bool (decide (lo ≤ n ∧ n ≤ hi))) s) : Call prog (.fn 51 [] []) [.int n, .int lo, .int hi] s Q := by
  refine Call.fn F51 p51 rfl ?_
  simp only [F51]
  by_cases h1 : n ≥ lo
  · have h1' : lo ≤ n := h1
    repeat first|refine Wr ?_|refine Wb ?_|refine Wc ?_|refine Wd ?_|refine We ?_|refine Wf ?_|refine Wg ?_|refine Wh ?_|refine Wi ?_|refine Wj (by decide) ?_|refine Wa ?_|refine Wk ?_|refine Wl ?_|refine Wm ?_|refine Wn ?_|refine Wo ?_|refine Wp ?_|refine Wq ?_|refine Ww (by simp only[go_sem,h1];done) ?_|((first|refine Ws ?_|refine Wt ?_|refine Wu ?_|refine Wv (by simp only[go_sem,h1];done) ?_);conv=>arg 2;simp only[go_sem,h1])
    first|refine w_retQ ?_|refine w_endQ ?_
    conv=>arg 1;simp only[go_sem]
    exact w_res (by simp [oneV_one, erase_bool, h1']) h
  · have h1' : ¬ lo ≤ n := h1
    repeat first|refine Wr ?_|refine Wb ?_|refine Wc ?_|refine Wd ?_|refine We ?_|refine Wf ?_|refine Wg ?_|refine Wh ?_|refine Wi ?_|refine Wj (by decide) ?_|refine Wa ?_|refine Wk ?_|refine Wl ?_|refine Wm ?_|refine Wn ?_|refine Wo ?_|refine Wp ?_|refine Wq ?_|refine Ww (by simp only[go_sem,h1];done) ?_|((first|refine Ws ?_|refine Wt ?_|refine Wu ?_|refine Wv (by simp only[go_sem,h1];done) ?_);conv=>arg 2;simp only[go_sem,h1])
    first|refine w_retQ ?_|refine w_endQ ?_
    conv=>arg 1;simp only[go_sem]
    exact w_res (by simp [oneV_one, erase_bool, h1']) h
theorem c54 (lo hi least most : Int) (h : Q (.bool (decide (least ≤ lo ∧ hi ≤ most ∧ lo ≤ hi))) s) : Call prog (.fn 54 [] []) [.agg [.int lo, .int hi], .int least, .int most] s Q := by
  refine Call.fn F54 p54 rfl ?_
  simp only [F54]
  by_cases h1 : lo ≥ least
  · have h1' : least ≤ lo := h1
    by_cases h2 : hi ≤ most
    · repeat first|refine Wr ?_|refine Wb ?_|refine Wc ?_|refine Wd ?_|refine We ?_|refine Wf ?_|refine Wg ?_|refine Wh ?_|refine Wi ?_|refine Wj (by decide) ?_|refine Wa ?_|refine Wk ?_|refine Wl ?_|refine Wm ?_|refine Wn ?_|refine Wo ?_|refine Wp ?_|refine Wq ?_|refine Ww (by simp only[go_sem,h1,h2];done) ?_|((first|refine Ws ?_|refine Wt ?_|refine Wu ?_|refine Wv (by simp only[go_sem,h1,h2];done) ?_);conv=>arg 2;simp only[go_sem,h1,h2])
      first|refine w_retQ ?_|refine w_endQ ?_
      conv=>arg 1;simp only[go_sem]
      exact w_res (by simp [oneV_one, erase_bool, h1', h2]) h
    · repeat first|refine Wr ?_|refine Wb ?_|refine Wc ?_|refine Wd ?_|refine We ?_|refine Wf ?_|refine Wg ?_|refine Wh ?_|refine Wi ?_|refine Wj (by decide) ?_|refine Wa ?_|refine Wk ?_|refine Wl ?_|refine Wm ?_|refine Wn ?_|refine Wo ?_|refine Wp ?_|refine Wq ?_|refine Ww (by simp only[go_sem,h1,h2];done) ?_|((first|refine Ws ?_|refine Wt ?_|refine Wu ?_|refine Wv (by simp only[go_sem,h1,h2];done) ?_);conv=>arg 2;simp only[go_sem,h1,h2])
      first|refine w_retQ ?_|refine w_endQ ?_
      conv=>arg 1;simp only[go_sem]
      exact w_res (by simp [oneV_one, erase_bool, h1', h2]) h
  · have h1' : ¬ least ≤ lo := h1
    repeat first|refine Wr ?_|refine Wb ?_|refine Wc ?_|refine Wd ?_|refine We ?_|refine Wf ?_|refine Wg ?_|refine Wh ?_|refine Wi ?_|refine Wj (by decide) ?_|refine Wa ?_|refine Wk ?_|refine Wl ?_|refine Wm ?_|refine Wn ?_|refine Wo ?_|refine Wp ?_|refine Wq ?_|refine Ww (by simp only[go_sem,h1];done) ?_|((first|refine Ws ?_|refine Wt ?_|refine Wu ?_|refine Wv (by simp only[go_sem,h1];done) ?_);conv=>arg 2;simp only[go_sem,h1])
    first|refine w_retQ ?_|refine w_endQ ?_
    conv=>arg 1;simp only[go_sem]
    exact w_res (by simp [oneV_one, erase_bool, h1']) h
theorem c115 (n : Note) (h : Q (.bool (decide (okNote n))) s) : Call prog (.fn 115 [] []) [noteV n] s Q := by
  refine Call.fn F115 p115 rfl ?_
  simp only [F115, noteV]
  have hml := most_le n.kind
  have hmost : ((n.kind == 1) = true ∧ (0 == 1) = false) ∧ most n.kind = 9 ∨ ((n.kind == 1) = false ∧ (n.kind == 2) = true) ∧ most n.kind = 0 ∨ ((n.kind == 1) = false ∧ (n.kind == 2) = false) ∧ most n.kind = 400 := by
    unfold most
    by_cases k1 : n.kind = 1
    · simp [k1]
    · by_cases k2 : n.kind = 2
      · simp [k2]
      · simp [k1, k2]
  by_cases h1 : 0 ≤ n.kind ∧ n.kind ≤ 4
  · by_cases h2 : 0 ≤ n.hour ∧ n.hour ≤ 60
    · by_cases h3 : 0 ≤ n.lo ∧ n.hi ≤ most n.kind ∧ n.lo ≤ n.hi
      · have hw : w64 (n.hi - n.lo) = n.hi - n.lo := w64_id (by omega)
        have hr : decide (n.hi - n.lo ≤ 12) = decide (okNote n) := by
          rw [decide_eq_decide]
          unfold okNote okSpan
          omega
        rcases hmost with ⟨⟨b1, b2⟩, b3⟩ | ⟨⟨b1, b2⟩, b3⟩ | ⟨⟨b1, b2⟩, b3⟩
        all_goals
          rw [b3] at h3
          repeat first|refine Wr ?_|refine Wb ?_|refine Wc ?_|refine Wd ?_|refine We ?_|refine Wf ?_|refine Wg ?_|refine Wh ?_|refine Wi ?_|refine Wj (by decide) ?_|refine Wa ?_|refine Wk ?_|refine Wl ?_|refine Wm ?_|refine Wn ?_|refine Wo ?_|refine Wp ?_|refine Wq ?_|refine Ww (by simp only[go_sem,b1,b2,h1,h2,h3,hw];done) ?_|((first|refine Ws ?_|refine Wt ?_|refine Wu ?_|refine Wv (by simp only[go_sem,b1,b2,h1,h2,h3,hw];done) ?_);conv=>arg 2;simp only[go_sem,b1,b2,h1,h2,h3,hw])|(refine Wx (by simp only[go_sem,b1,b2,h1,h2,h3,hw];rfl) (by simp only[go_sem,b1,b2,h1,h2,h3,hw];rfl) ?_;first|refine c51 _ _ _ ?_|refine c54 _ _ _ _ ?_)
          first|refine w_retQ ?_|refine w_endQ ?_
          conv=>arg 1;simp only[go_sem]
          exact w_res (by simp only [go_sem, hr]) h
      · have hr : decide (okNote n) = false := by
          simp only [okNote, okSpan, h1, h2, true_and, decide_eq_false_iff_not]
          omega
        rcases hmost with ⟨⟨b1, b2⟩, b3⟩ | ⟨⟨b1, b2⟩, b3⟩ | ⟨⟨b1, b2⟩, b3⟩
        all_goals
          rw [b3] at h3
          repeat first|refine Wr ?_|refine Wb ?_|refine Wc ?_|refine Wd ?_|refine We ?_|refine Wf ?_|refine Wg ?_|refine Wh ?_|refine Wi ?_|refine Wj (by decide) ?_|refine Wa ?_|refine Wk ?_|refine Wl ?_|refine Wm ?_|refine Wn ?_|refine Wo ?_|refine Wp ?_|refine Wq ?_|refine Ww (by simp only[go_sem,b1,b2,h1,h2,h3];done) ?_|((first|refine Ws ?_|refine Wt ?_|refine Wu ?_|refine Wv (by simp only[go_sem,b1,b2,h1,h2,h3];done) ?_);conv=>arg 2;simp only[go_sem,b1,b2,h1,h2,h3])|(refine Wx (by simp only[go_sem,b1,b2,h1,h2,h3];rfl) (by simp only[go_sem,b1,b2,h1,h2,h3];rfl) ?_;first|refine c51 _ _ _ ?_|refine c54 _ _ _ _ ?_)
          first|refine w_retQ ?_|refine w_endQ ?_
          conv=>arg 1;simp only[go_sem]
          exact w_res (by simp only [go_sem, hr]) h
    · have hr : decide (okNote n) = false := by simp [okNote, h1, h2]
      rcases hmost with ⟨⟨b1, b2⟩, b3⟩ | ⟨⟨b1, b2⟩, b3⟩ | ⟨⟨b1, b2⟩, b3⟩
      all_goals
        repeat first|refine Wr ?_|refine Wb ?_|refine Wc ?_|refine Wd ?_|refine We ?_|refine Wf ?_|refine Wg ?_|refine Wh ?_|refine Wi ?_|refine Wj (by decide) ?_|refine Wa ?_|refine Wk ?_|refine Wl ?_|refine Wm ?_|refine Wn ?_|refine Wo ?_|refine Wp ?_|refine Wq ?_|refine Ww (by simp only[go_sem,b1,b2,h1,h2];done) ?_|((first|refine Ws ?_|refine Wt ?_|refine Wu ?_|refine Wv (by simp only[go_sem,b1,b2,h1,h2];done) ?_);conv=>arg 2;simp only[go_sem,b1,b2,h1,h2])|(refine Wx (by simp only[go_sem,b1,b2,h1,h2];rfl) (by simp only[go_sem,b1,b2,h1,h2];rfl) ?_;refine c51 _ _ _ ?_)
        first|refine w_retQ ?_|refine w_endQ ?_
        conv=>arg 1;simp only[go_sem]
        exact w_res (by simp only [go_sem, hr]) h
  · have hr : decide (okNote n) = false := by simp [okNote, h1]
    rcases hmost with ⟨⟨b1, b2⟩, b3⟩ | ⟨⟨b1, b2⟩, b3⟩ | ⟨⟨b1, b2⟩, b3⟩
    all_goals
      repeat first|refine Wr ?_|refine Wb ?_|refine Wc ?_|refine Wd ?_|refine We ?_|refine Wf ?_|refine Wg ?_|refine Wh ?_|refine Wi ?_|refine Wj (by decide) ?_|refine Wa ?_|refine Wk ?_|refine Wl ?_|refine Wm ?_|refine Wn ?_|refine Wo ?_|refine Wp ?_|refine Wq ?_|refine Ww (by simp only[go_sem,b1,b2,h1];done) ?_|((first|refine Ws ?_|refine Wt ?_|refine Wu ?_|refine Wv (by simp only[go_sem,b1,b2,h1];done) ?_);conv=>arg 2;simp only[go_sem,b1,b2,h1])|(refine Wx (by simp only[go_sem,b1,b2,h1];rfl) (by simp only[go_sem,b1,b2,h1];rfl) ?_;refine c51 _ _ _ ?_)
      first|refine w_retQ ?_|refine w_endQ ?_
      conv=>arg 1;simp only[go_sem]
      exact w_res (by simp only [go_sem, hr]) h

theorem okNotes_snoc {h : Int} {a : List Note} {x : Note} : okNotes h (a ++ [x]) ↔ okNotes h a ∧ okNote x ∧ hourOf h a ≤ x.hour := by
  rw [okNotes_append]
  simp [okNotes]

set_option maxHeartbeats 1000000 in
theorem c30 (b : Book) (hlen : (b.notes.length : Int) < 9223372036854775808) (hq : Q (.int (if ok b then 0 else 30)) s) : Call prog (.fn 30 [] []) [bookV b] s Q := by
  refine Call.fn F30 p30 rfl ?_
  simp only [F30, bookV]
  have hss : ok b → okSpan b.lo b.hi 400 := fun h => h.1
  have hnl := notesV_length b.notes
  have hcs : ((0 ≤ b.lo ∧ b.hi ≤ 400 ∧ b.lo ≤ b.hi) ∧ b.hi - b.lo ≤ 12 ∧ (b.notes.length : Int) ≤ 8) ∨ ((0 ≤ b.lo ∧ b.hi ≤ 400 ∧ b.lo ≤ b.hi) ∧ b.hi - b.lo ≤ 12 ∧ ¬ (b.notes.length : Int) ≤ 8) ∨ ((0 ≤ b.lo ∧ b.hi ≤ 400 ∧ b.lo ≤ b.hi) ∧ ¬ b.hi - b.lo ≤ 12) ∨ ¬ (0 ≤ b.lo ∧ b.hi ≤ 400 ∧ b.lo ≤ b.hi) := by omega
  rcases hcs with ⟨h1, h2, h3⟩ | ⟨h1, h2, h3⟩ | ⟨h1, h2⟩ | h1
  case' inl =>
    have hw : w64 (b.hi - b.lo) = b.hi - b.lo := w64_id (by omega)
    obtain ⟨sm0, hsm, ht, hf⟩ : ∃ sm0, sm0 = true ∧ (sm0 = true → okSpan b.lo b.hi 400 ∧ b.notes.length ≤ 8) ∧ (sm0 = false → ¬ ok b) := ⟨true, rfl, fun _ => ⟨by unfold okSpan; omega, by omega⟩, by simp⟩
    clear hss
    repeat first|refine Wr ?_|refine Wb ?_|refine Wc ?_|refine Wd ?_|refine We ?_|refine Wf ?_|refine Wg ?_|refine Wh ?_|refine Wi ?_|refine Wj (by decide) ?_|refine Wa ?_|refine Wk ?_|refine Wl ?_|refine Wm ?_|refine Wn ?_|refine Wo ?_|refine Wp ?_|refine Wq ?_|refine Ww (by simp only[go_sem,h1,h2,h3,hw,notesV_length];done) ?_|((first|refine Ws ?_|refine Wt ?_|refine Wu ?_|refine Wv (by simp only[go_sem,h1,h2,h3,hw,notesV_length];done) ?_);conv=>arg 2;simp only[go_sem,h1,h2,h3,hw,notesV_length])|(refine Wx (by simp only[go_sem,h1,h2,h3,hw,notesV_length];rfl) (by simp only[go_sem,h1,h2,h3,hw,notesV_length];rfl) ?_;refine c54 _ _ _ _ ?_)
  case' inr.inl =>
    have hw : w64 (b.hi - b.lo) = b.hi - b.lo := w64_id (by omega)
    obtain ⟨sm0, hsm, ht, hf⟩ : ∃ sm0, sm0 = false ∧ (sm0 = true → okSpan b.lo b.hi 400 ∧ b.notes.length ≤ 8) ∧ (sm0 = false → ¬ ok b) := ⟨false, rfl, by simp, fun _ h => h3 (by have := h.2.1; omega)⟩
    clear hss
    repeat first|refine Wr ?_|refine Wb ?_|refine Wc ?_|refine Wd ?_|refine We ?_|refine Wf ?_|refine Wg ?_|refine Wh ?_|refine Wi ?_|refine Wj (by decide) ?_|refine Wa ?_|refine Wk ?_|refine Wl ?_|refine Wm ?_|refine Wn ?_|refine Wo ?_|refine Wp ?_|refine Wq ?_|refine Ww (by simp only[go_sem,h1,h2,h3,hw,notesV_length];done) ?_|((first|refine Ws ?_|refine Wt ?_|refine Wu ?_|refine Wv (by simp only[go_sem,h1,h2,h3,hw,notesV_length];done) ?_);conv=>arg 2;simp only[go_sem,h1,h2,h3,hw,notesV_length])|(refine Wx (by simp only[go_sem,h1,h2,h3,hw,notesV_length];rfl) (by simp only[go_sem,h1,h2,h3,hw,notesV_length];rfl) ?_;refine c54 _ _ _ _ ?_)
  case' inr.inr.inl =>
    have hw : w64 (b.hi - b.lo) = b.hi - b.lo := w64_id (by omega)
    obtain ⟨sm0, hsm, ht, hf⟩ : ∃ sm0, sm0 = false ∧ (sm0 = true → okSpan b.lo b.hi 400 ∧ b.notes.length ≤ 8) ∧ (sm0 = false → ¬ ok b) := ⟨false, rfl, by simp, fun _ h => by have := hss h; unfold okSpan at this; omega⟩
    clear hss
    repeat first|refine Wr ?_|refine Wb ?_|refine Wc ?_|refine Wd ?_|refine We ?_|refine Wf ?_|refine Wg ?_|refine Wh ?_|refine Wi ?_|refine Wj (by decide) ?_|refine Wa ?_|refine Wk ?_|refine Wl ?_|refine Wm ?_|refine Wn ?_|refine Wo ?_|refine Wp ?_|refine Wq ?_|refine Ww (by simp only[go_sem,h1,h2,hw,notesV_length];done) ?_|((first|refine Ws ?_|refine Wt ?_|refine Wu ?_|refine Wv (by simp only[go_sem,h1,h2,hw,notesV_length];done) ?_);conv=>arg 2;simp only[go_sem,h1,h2,hw,notesV_length])|(refine Wx (by simp only[go_sem,h1,h2,hw,notesV_length];rfl) (by simp only[go_sem,h1,h2,hw,notesV_length];rfl) ?_;refine c54 _ _ _ _ ?_)
  case' inr.inr.inr =>
    obtain ⟨sm0, hsm, ht, hf⟩ : ∃ sm0, sm0 = false ∧ (sm0 = true → okSpan b.lo b.hi 400 ∧ b.notes.length ≤ 8) ∧ (sm0 = false → ¬ ok b) := ⟨false, rfl, by simp, fun _ h => by have := hss h; unfold okSpan at this; omega⟩
    clear hss
    repeat first|refine Wr ?_|refine Wb ?_|refine Wc ?_|refine Wd ?_|refine We ?_|refine Wf ?_|refine Wg ?_|refine Wh ?_|refine Wi ?_|refine Wj (by decide) ?_|refine Wa ?_|refine Wk ?_|refine Wl ?_|refine Wm ?_|refine Wn ?_|refine Wo ?_|refine Wp ?_|refine Wq ?_|refine Ww (by simp only[go_sem,h1,notesV_length];done) ?_|((first|refine Ws ?_|refine Wt ?_|refine Wu ?_|refine Wv (by simp only[go_sem,h1,notesV_length];done) ?_);conv=>arg 2;simp only[go_sem,h1,notesV_length])|(refine Wx (by simp only[go_sem,h1,notesV_length];rfl) (by simp only[go_sem,h1,notesV_length];rfl) ?_;refine c54 _ _ _ _ ?_)
  all_goals
    try clear hw
    refine w_iter (fun n e s' => ∃ (a r : List Note) (sm : Bool), b.notes = a ++ r ∧ n = r.length ∧ (sm = true → (okSpan b.lo b.hi 400 ∧ b.notes.length ≤ 8) ∧ okNotes 0 a) ∧ (sm = false → ¬ ok b) ∧ e 1 = .agg [.int b.lo, .int b.hi, .lst (notesV b.notes) .any] ∧ e 3 = .bool sm ∧ e 4 = .int a.length ∧ s' = s) b.notes.length ?_ ?_
    · refine ⟨[], b.notes, sm0, rfl, rfl, fun h => ⟨ht h, trivial⟩, hf, ?_, ?_, ?_, rfl⟩
      all_goals (simp only [go_sem, hsm, List.length_nil, Int.natCast_zero] <;> done)
    · rintro n e s' ⟨a, r, sm, har, hn, ht1, hf1, e1, e3, e4, rfl⟩
      cases sm with
      | false =>
        repeat first|refine Wr ?_|refine Wb ?_|refine Wc ?_|refine Wd ?_|refine We ?_|refine Wf ?_|refine Wg ?_|refine Wh ?_|refine Wi ?_|refine Wj (by decide) ?_|refine Wa ?_|refine Wk ?_|refine Wl ?_|refine Wm ?_|refine Wn ?_|refine Wo ?_|refine Wp ?_|refine Wq ?_|refine Ww (by simp only[go_sem,e1,e3,e4];done) ?_|((first|refine Ws ?_|refine Wt ?_|refine Wu ?_|refine Wv (by simp only[go_sem,e1,e3,e4];done) ?_);conv=>arg 2;simp only[go_sem,e1,e3,e4])
        first|refine w_retQ ?_|refine w_endQ ?_
        conv=>arg 1;simp only[go_sem]
        have hno := hf1 rfl
        refine w_res (v := .int 30) (by simp only [go_sem] <;> rfl) ?_
        simpa [hno] using hq
      | true =>
        cases r with
        | nil =>
          have hlt : ¬ ((a.length : Int) < (b.notes.length : Int)) := by rw [har]; simp
          have hba : b.notes = a := by simpa using har
          repeat first|refine Wr ?_|refine Wb ?_|refine Wc ?_|refine Wd ?_|refine We ?_|refine Wf ?_|refine Wg ?_|refine Wh ?_|refine Wi ?_|refine Wj (by decide) ?_|refine Wa ?_|refine Wk ?_|refine Wl ?_|refine Wm ?_|refine Wn ?_|refine Wo ?_|refine Wp ?_|refine Wq ?_|refine Ww (by simp only[go_sem,e1,e3,e4,hlt,notesV_length];done) ?_|((first|refine Ws ?_|refine Wt ?_|refine Wu ?_|refine Wv (by simp only[go_sem,e1,e3,e4,hlt,notesV_length];done) ?_);conv=>arg 2;simp only[go_sem,e1,e3,e4,hlt,notesV_length])
          first|refine w_retQ ?_|refine w_endQ ?_
          conv=>arg 1;simp only[go_sem]
          have hok : ok b := ⟨(ht1 rfl).1.1, (ht1 rfl).1.2, by rw [hba]; exact (ht1 rfl).2⟩
          refine w_res (v := .int 0) (by simp only [go_sem] <;> rfl) ?_
          simpa [hok] using hq
        | cons x r =>
          have hlt : ((a.length : Int) < (b.notes.length : Int)) := by rw [har]; simp; omega
          have hx : (notesV b.notes)[((a.length : Int)).toNat]? = some (.agg [.int x.kind, .int x.hour, .int x.lo, .int x.hi]) := by rw [har]; exact notesV_at
          have hp : 0 ≤ (a.length : Int) := Int.natCast_nonneg _
          have hn1 : r.length < n := by simp at hn; omega
          have har2 : b.notes = (a ++ [x]) ++ r := by simp [har]
          have hax : ok b → okNotes 0 a ∧ okNote x ∧ hourOf 0 a ≤ x.hour := fun h => by
            have := h.2.2
            rw [har2, okNotes_append] at this
            exact okNotes_snoc.1 this.1
          obtain ⟨hb1, hb2⟩ := ht1 rfl
          have hw8 : ∀ k : Nat, k = a.length → w64 ((k : Int) + 1) = ((a ++ [x]).length : Int) := fun k hk => by
            rw [w64_id (by have := hb1.2; rw [har] at this; simp at this; omega), hk]; simp
          have hw := hw8 _ rfl
          by_cases hok : okNote x
          case neg =>
            repeat first|refine Wr ?_|refine Wb ?_|refine Wc ?_|refine Wd ?_|refine We ?_|refine Wf ?_|refine Wg ?_|refine Wh ?_|refine Wi ?_|refine Wj (by decide) ?_|refine Wa ?_|refine Wk ?_|refine Wl ?_|refine Wm ?_|refine Wn ?_|refine Wo ?_|refine Wp ?_|refine Wq ?_|refine Ww (by simp only[go_sem,e1,e3,e4,hlt,hx,hp,hok,hw,notesV_length];done) ?_|((first|refine Ws ?_|refine Wt ?_|refine Wu ?_|refine Wv (by simp only[go_sem,e1,e3,e4,hlt,hx,hp,hok,hw,notesV_length];done) ?_);conv=>arg 2;simp only[go_sem,e1,e3,e4,hlt,hx,hp,hok,hw,notesV_length])|(refine Wx (by simp only[go_sem,e1,e3,e4,hlt,hx,hp,hok,hw,notesV_length];rfl) (by simp only[go_sem,e1,e3,e4,hlt,hx,hp,hok,hw,notesV_length];rfl) ?_;refine c115 x ?_)
            refine ⟨_, hn1, a ++ [x], r, false, har2, rfl, by simp, fun _ h => hok (hax h).2.1, ?_, ?_, ?_, rfl⟩
            all_goals (simp only [go_sem, e1, e3, e4, hw] <;> done)
          case pos =>
            rcases List.eq_nil_or_concat a with rfl | ⟨a', y, rfl⟩
            · have hlt0 : (0 : Int) < (b.notes.length : Int) := hlt
              have hx0 : (notesV b.notes)[0]? = some (.agg [.int x.kind, .int x.hour, .int x.lo, .int x.hi]) := hx
              have hw0 : w64 (0 + 1) = ((([] : List Note) ++ [x]).length : Int) := hw
              have hz : (((0 : Nat) : Int) == 0) = true := rfl
              have hz' : ((0 : Int) == 0) = true := rfl
              have e4' : e 4 = .int 0 := e4
              clear e4
              have e4 := e4'
              repeat first|refine Wr ?_|refine Wb ?_|refine Wc ?_|refine Wd ?_|refine We ?_|refine Wf ?_|refine Wg ?_|refine Wh ?_|refine Wi ?_|refine Wj (by decide) ?_|refine Wa ?_|refine Wk ?_|refine Wl ?_|refine Wm ?_|refine Wn ?_|refine Wo ?_|refine Wp ?_|refine Wq ?_|refine Ww (by simp only[go_sem,e1,e3,e4,hlt0,hx0,hok,hz,hz',hw0,notesV_length];done) ?_|((first|refine Ws ?_|refine Wt ?_|refine Wu ?_|refine Wv (by simp only[go_sem,e1,e3,e4,hlt0,hx0,hok,hz,hz',hw0,notesV_length];done) ?_);conv=>arg 2;simp only[go_sem,e1,e3,e4,hlt0,hx0,hok,hz,hz',hw0,notesV_length])|(refine Wx (by simp only[go_sem,e1,e3,e4,hlt0,hx0,hok,hz,hz',hw0,notesV_length];rfl) (by simp only[go_sem,e1,e3,e4,hlt0,hx0,hok,hz,hz',hw0,notesV_length];rfl) ?_;refine c115 x ?_)
              refine ⟨_, hn1, [] ++ [x], r, true, har2, rfl, fun _ => ⟨hb1, okNotes_snoc.2 ⟨hb2, hok, hok.2.1.1⟩⟩, by simp, ?_, ?_, ?_, rfl⟩
              all_goals first | (simp only [go_sem, e1, e3, e4, hw0] <;> done) | (simp only [go_sem, e1, e3, e4, hw0] <;> rfl)
            · have hz : (((a'.concat y).length : Int) == 0) = false := by simp; omega
              have hy : (notesV b.notes)[(a'.length : Nat)]? = some (.agg [.int y.kind, .int y.hour, .int y.lo, .int y.hi]) := by
                rw [har, List.concat_eq_append, List.append_assoc]
                have := notesV_at (a := a') (x := y) (b := x :: r)
                rw [Int.toNat_natCast] at this
                exact this
              have hw1 : w64 (((a'.concat y).length : Int) - 1) = (a'.length : Int) := by
                rw [w64_id (by have := hb1.2; rw [har] at this; simp at this ⊢; omega)]
                simp
              have hp1 : 0 ≤ (a'.length : Int) := Int.natCast_nonneg _
              have hlt1 : (a'.length : Int) < (b.notes.length : Int) := by rw [har]; simp; omega
              have hho : hourOf 0 (a'.concat y) = y.hour := by rw [List.concat_eq_append, hourOf_append]; rfl
              rw [hho] at hax
              rw [Int.toNat_natCast] at hx
              have hzl : 0 < (a'.concat y).length := by simp
              by_cases hge : x.hour ≥ y.hour
              · repeat first|refine Wr ?_|refine Wb ?_|refine Wc ?_|refine Wd ?_|refine We ?_|refine Wf ?_|refine Wg ?_|refine Wh ?_|refine Wi ?_|refine Wj (by decide) ?_|refine Wa ?_|refine Wk ?_|refine Wl ?_|refine Wm ?_|refine Wn ?_|refine Wo ?_|refine Wp ?_|refine Wq ?_|refine Ww (by simp only[go_sem,e1,e3,e4,hlt,hx,hp,hok,hz,hw,hw1,hp1,hlt1,hy,hge,notesV_length,Int.toNat_natCast];done) ?_|((first|refine Ws ?_|refine Wt ?_|refine Wu ?_|refine Wv (by simp only[go_sem,e1,e3,e4,hlt,hx,hp,hok,hz,hw,hw1,hp1,hlt1,hy,hge,notesV_length,Int.toNat_natCast];done) ?_);conv=>arg 2;simp only[go_sem,e1,e3,e4,hlt,hx,hp,hok,hz,hw,hw1,hp1,hlt1,hy,hge,notesV_length,Int.toNat_natCast])|(refine Wx (by simp only[go_sem,e1,e3,e4,hlt,hx,hp,hok,hz,hw,hw1,hp1,hlt1,hy,hge,notesV_length,Int.toNat_natCast];rfl) (by simp only[go_sem,e1,e3,e4,hlt,hx,hp,hok,hz,hw,hw1,hp1,hlt1,hy,hge,notesV_length,Int.toNat_natCast];rfl) ?_;refine c115 x ?_)
                refine ⟨_, hn1, a'.concat y ++ [x], r, true, har2, rfl, fun _ => ⟨hb1, okNotes_snoc.2 ⟨hb2, hok, by rw [hho]; exact hge⟩⟩, by simp, ?_, ?_, ?_, rfl⟩
                all_goals (simp only [go_sem, e1, e3, e4, hw] <;> done)
              · repeat first|refine Wr ?_|refine Wb ?_|refine Wc ?_|refine Wd ?_|refine We ?_|refine Wf ?_|refine Wg ?_|refine Wh ?_|refine Wi ?_|refine Wj (by decide) ?_|refine Wa ?_|refine Wk ?_|refine Wl ?_|refine Wm ?_|refine Wn ?_|refine Wo ?_|refine Wp ?_|refine Wq ?_|refine Ww (by simp only[go_sem,e1,e3,e4,hlt,hx,hp,hok,hz,hw,hw1,hp1,hlt1,hy,hge,notesV_length,Int.toNat_natCast];done) ?_|((first|refine Ws ?_|refine Wt ?_|refine Wu ?_|refine Wv (by simp only[go_sem,e1,e3,e4,hlt,hx,hp,hok,hz,hw,hw1,hp1,hlt1,hy,hge,notesV_length,Int.toNat_natCast];done) ?_);conv=>arg 2;simp only[go_sem,e1,e3,e4,hlt,hx,hp,hok,hz,hw,hw1,hp1,hlt1,hy,hge,notesV_length,Int.toNat_natCast])|(refine Wx (by simp only[go_sem,e1,e3,e4,hlt,hx,hp,hok,hz,hw,hw1,hp1,hlt1,hy,hge,notesV_length,Int.toNat_natCast];rfl) (by simp only[go_sem,e1,e3,e4,hlt,hx,hp,hok,hz,hw,hw1,hp1,hlt1,hy,hge,notesV_length,Int.toNat_natCast];rfl) ?_;refine c115 x ?_)
                refine ⟨_, hn1, a'.concat y ++ [x], r, false, har2, rfl, by simp, fun _ h => hge (hax h).2.2, ?_, ?_, ?_, rfl⟩
                all_goals (simp only [go_sem, e1, e3, e4, hw] <;> done)
end Go.Hu.Sn

namespace Go.Hu
section
variable {C : CP} {e : Env} {s : St} {Q : Post} {K : Env → St → Prop}
def slots (e : Env) (L : List Nat) : List V := L.map e
theorem w_map1 {e : Env} {x : Nat} {L : List Nat} : slots e (x :: L) = e x :: slots e L := rfl
theorem w_map0 {e : Env} : slots e [] = [] := rfl
theorem w_trimI {is} (L : List Nat) (h : ∀ e', slots e' L = slots e L → wpIs C is e' s K) : wpIs C is e s K := h e rfl
theorem w_trimR {is} (L : List Nat) (h : ∀ e', slots e' L = slots e L → wpR C (e', is) s K) : wpR C (e, is) s K := h e rfl
theorem w_trimS {c} (L : List Nat) (h : ∀ e', slots e' L = slots e L → wpS C c Q e' s) : wpS C c Q e s := h e rfl
end
end Go.Hu

set_option linter.unusedSimpArgs false
set_option linter.unusedVariables false
namespace Go.Hu.Sn
attribute [local irreducible] wpS wpIs wpI
attribute [local go_sem] Nat.mul_one Nat.one_mul Nat.zero_add Nat.add_zero Nat.zero_mul and_self and_true true_and decide_true decide_false Bool.false_eq_true if_true if_false Int.cast_ofNat_Int Int.zero_le_ofNat Int.le_refl Int.reduceLT Int.reduceLE Int.reduceToNat

variable {s : St} {Q : V → St → Prop}

theorem c49 (lo hi n : Int) (hq : Q (.bool (decide (lo ≤ n ∧ n ≤ hi))) s) : Call prog (.fn 49 [] []) [.agg [.int lo, .int hi], .int n] s Q := by
  refine Call.fn F49 p49 rfl ?_
  simp only [F49]
  by_cases h1 : lo ≤ n
  · repeat first|refine Wr ?_|refine Wb ?_|refine Wc ?_|refine Wd ?_|refine We ?_|refine Wf ?_|refine Wg ?_|refine Wh ?_|refine Wi ?_|refine Wj (by decide) ?_|refine Wa ?_|refine Wk ?_|refine Wl ?_|refine Wm ?_|refine Wn ?_|refine Wo ?_|refine Wp ?_|refine Wq ?_|refine Ww (by simp only[go_sem,h1];done) ?_|((first|refine Ws ?_|refine Wt ?_|refine Wu ?_|refine Wv (by simp only[go_sem,h1];done) ?_);conv=>arg 2;simp only[go_sem,h1])
    first|refine w_retQ ?_|refine w_endQ ?_
    conv=>arg 1;simp only[go_sem]
    exact w_res (by simp only [go_sem, h1, true_and]) hq
  · repeat first|refine Wr ?_|refine Wb ?_|refine Wc ?_|refine Wd ?_|refine We ?_|refine Wf ?_|refine Wg ?_|refine Wh ?_|refine Wi ?_|refine Wj (by decide) ?_|refine Wa ?_|refine Wk ?_|refine Wl ?_|refine Wm ?_|refine Wn ?_|refine Wo ?_|refine Wp ?_|refine Wq ?_|refine Ww (by simp only[go_sem,h1];done) ?_|((first|refine Ws ?_|refine Wt ?_|refine Wu ?_|refine Wv (by simp only[go_sem,h1];done) ?_);conv=>arg 2;simp only[go_sem,h1])
    first|refine w_retQ ?_|refine w_endQ ?_
    conv=>arg 1;simp only[go_sem]
    exact w_res (by simp only [go_sem, h1, false_and, decide_false]) hq

/-- Any number, turned to one below another. -/
def wheel (n m : Int) : Int := if m < 2 then 0 else n % m
theorem wheel_bd {n m : Int} (h : 1 ≤ m) : 0 ≤ wheel n m ∧ wheel n m < m := by
  unfold wheel
  split
  · omega
  · exact ⟨Int.emod_nonneg _ (by omega), Int.emod_lt_of_pos _ (by omega)⟩
theorem c50 (n m : Int) (hm : m < 9223372036854775808) (hq : Q (.int (wheel n m)) s) : Call prog (.fn 50 [] []) [.int n, .int m] s Q := by
  refine Call.fn F50 p50 rfl ?_
  simp only [F50]
  unfold wheel at hq
  by_cases h1 : m < 2
  · rw [if_pos h1] at hq
    repeat first|refine Wr ?_|refine Wb ?_|refine Wc ?_|refine Wd ?_|refine We ?_|refine Wf ?_|refine Wg ?_|refine Wh ?_|refine Wi ?_|refine Wj (by decide) ?_|refine Wa ?_|refine Wk ?_|refine Wl ?_|refine Wm ?_|refine Wn ?_|refine Wo ?_|refine Wp ?_|refine Wq ?_|refine Ww (by simp only[go_sem,h1];done) ?_|((first|refine Ws ?_|refine Wt ?_|refine Wu ?_|refine Wv (by simp only[go_sem,h1];done) ?_);conv=>arg 2;simp only[go_sem,h1])
    first|refine w_retQ ?_|refine w_endQ ?_
    conv=>arg 1;simp only[go_sem]
    exact w_res (by simp only [go_sem]) hq
  · rw [if_neg h1] at hq
    have h2 : ¬ m = 0 := by omega
    have h3 := Int.emod_nonneg n h2
    have h4 := Int.emod_lt_of_pos n (show 0 < m by omega)
    have h5 : (n.tmod m = n % m) ∨ (n.tmod m = n % m - m) := by
      rw [Int.tmod_eq_emod]
      split
      · left; omega
      · right; omega
    have h5 : n % m = if n.tmod m < 0 then n.tmod m + m else n.tmod m := by split <;> omega
    by_cases h6 : n.tmod m < 0
    · have hw : w64 (n.tmod m + m) = n.tmod m + m := w64_id (by omega)
      rw [if_pos h6] at h5
      rw [h5] at hq
      repeat first|refine Wr ?_|refine Wb ?_|refine Wc ?_|refine Wd ?_|refine We ?_|refine Wf ?_|refine Wg ?_|refine Wh ?_|refine Wi ?_|refine Wj (by decide) ?_|refine Wa ?_|refine Wk ?_|refine Wl ?_|refine Wm ?_|refine Wn ?_|refine Wo ?_|refine Wp ?_|refine Wq ?_|refine Ww (by simp only[go_sem,h1,h2,h6,hw];done) ?_|((first|refine Ws ?_|refine Wt ?_|refine Wu ?_|refine Wv (by simp only[go_sem,h1,h2,h6,hw];done) ?_);conv=>arg 2;simp only[go_sem,h1,h2,h6,hw])
      first|refine w_retQ ?_|refine w_endQ ?_
      conv=>arg 1;simp only[go_sem]
      exact w_res (by simp only [go_sem]) hq
    · rw [if_neg h6] at h5
      rw [h5] at hq
      repeat first|refine Wr ?_|refine Wb ?_|refine Wc ?_|refine Wd ?_|refine We ?_|refine Wf ?_|refine Wg ?_|refine Wh ?_|refine Wi ?_|refine Wj (by decide) ?_|refine Wa ?_|refine Wk ?_|refine Wl ?_|refine Wm ?_|refine Wn ?_|refine Wo ?_|refine Wp ?_|refine Wq ?_|refine Ww (by simp only[go_sem,h1,h2,h6];done) ?_|((first|refine Ws ?_|refine Wt ?_|refine Wu ?_|refine Wv (by simp only[go_sem,h1,h2,h6];done) ?_);conv=>arg 2;simp only[go_sem,h1,h2,h6])
      first|refine w_retQ ?_|refine w_endQ ?_
      conv=>arg 1;simp only[go_sem]
      exact w_res (by simp only [go_sem]) hq

theorem ok_notes_bd {b : Book} (h : ok b) {n : Note} (hn : n ∈ b.notes) : (0 ≤ n.kind ∧ n.kind ≤ 4) ∧ (0 ≤ n.lo ∧ n.hi ≤ 400 ∧ n.lo ≤ n.hi) := by
  have h1 := okNotes_kind h.2.2 n hn
  obtain ⟨h2, h3, h4⟩ := h1
  have h5 : most n.kind ≤ 400 := by unfold most; split <;> (try split) <;> omega
  unfold okSpan at h4
  omega

set_option maxHeartbeats 1000000 in
theorem c47 (b : Book) (hlen : (b.notes.length : Int) < 9223372036854775808) (hq : Q (.bool (decide (ok b))) s) : Call prog (.fn 47 [] []) [bookV b] s Q := by
  refine Call.fn F47 p47 rfl ?_
  simp only [F47, bookV]
  by_cases h1 : ok b
  · have hs : 0 ≤ b.lo ∧ b.hi ≤ 400 ∧ b.lo ≤ b.hi := by have := h1.1; unfold okSpan at this; omega
    have h8 : (b.notes.length : Int) ≤ 8 := by have := h1.2.1; omega
    simp only [h1, decide_true] at hq
    repeat first|refine Wr ?_|refine Wb ?_|refine Wc ?_|refine Wd ?_|refine We ?_|refine Wf ?_|refine Wg ?_|refine Wh ?_|refine Wi ?_|refine Wj (by decide) ?_|refine Wa ?_|refine Wk ?_|refine Wl ?_|refine Wm ?_|refine Wn ?_|refine Wo ?_|refine Wp ?_|refine Wq ?_|refine Ww (by simp only[go_sem,h1,hs,h8,notesV_length];done) ?_|((first|refine Ws ?_|refine Wt ?_|refine Wu ?_|refine Wv (by simp only[go_sem,h1,hs,h8,notesV_length];done) ?_);conv=>arg 2;simp only[go_sem,h1,hs,h8,notesV_length])|(refine Wx (by simp only[go_sem,h1,hs,h8,notesV_length];rfl) (by simp only[go_sem,h1,hs,h8,notesV_length];rfl) ?_;first|refine c29 b hlen ?_|refine c54 _ _ _ _ ?_)
    refine w_iter (fun n e s' => ∃ (a r : List Note), b.notes = a ++ r ∧ r.length = n ∧ e 1 = .agg [.int b.lo, .int b.hi, .lst (notesV b.notes) .any] ∧ e 3 = .bool true ∧ e 4 = .int (hourOf 0 a) ∧ e 5 = .int a.length ∧ s' = s) b.notes.length ?_ ?_
    · refine ⟨[], b.notes, rfl, rfl, ?_, ?_, ?_, ?_, rfl⟩
      any_goals (simp only [go_sem, List.length_nil, Int.natCast_zero, hourOf]; done)
    · rintro n e s' ⟨a, r, har, hrn, e1, e3, e4, e5, rfl⟩
      cases r with
      | nil =>
        have hna : b.notes = a := by simpa using har
        have hlt : ¬ ((a.length : Int) < (b.notes.length : Int)) := by rw [hna]; omega
        repeat first|refine Wr ?_|refine Wb ?_|refine Wc ?_|refine Wd ?_|refine We ?_|refine Wf ?_|refine Wg ?_|refine Wh ?_|refine Wi ?_|refine Wj (by decide) ?_|refine Wa ?_|refine Wk ?_|refine Wl ?_|refine Wm ?_|refine Wn ?_|refine Wo ?_|refine Wp ?_|refine Wq ?_|refine Ww (by simp only[go_sem,e1,e3,e4,e5,notesV_length,hlt];done) ?_|((first|refine Ws ?_|refine Wt ?_|refine Wu ?_|refine Wv (by simp only[go_sem,e1,e3,e4,e5,notesV_length,hlt];done) ?_);conv=>arg 2;simp only[go_sem,e1,e3,e4,e5,notesV_length,hlt])
        first|refine w_retQ ?_|refine w_endQ ?_
        conv=>arg 1;simp only[go_sem]
        exact w_res (by simp only [go_sem]) hq
      | cons y r =>
        have hlt : ((a.length : Int) < (b.notes.length : Int)) := by rw [har]; simp; omega
        have hy : (notesV b.notes)[((a.length : Int)).toNat]? = some (.agg [.int y.kind, .int y.hour, .int y.lo, .int y.hi]) := by rw [har]; exact notesV_at
        have hp := len_nonneg a
        have hal : a.length + 1 ≤ b.notes.length := by omega
        have hw : w64 ((a.length : Int) + 1) = (a ++ [y]).length := by rw [w64_id (by omega)]; simp
        obtain ⟨b1, b2⟩ := ok_notes_bd h1 (n := y) (by rw [har]; simp)
        have hok := h1.2.2
        rw [har] at hok
        have b3 : hourOf 0 a ≤ y.hour ∧ y.hour ≤ 60 := by
          have := (okNotes_append.1 hok).2
          exact ⟨this.1.2, this.1.1.2.1.2⟩
        repeat first|refine Wr ?_|refine Wb ?_|refine Wc ?_|refine Wd ?_|refine We ?_|refine Wf ?_|refine Wg ?_|refine Wh ?_|refine Wi ?_|refine Wj (by decide) ?_|refine Wa ?_|refine Wk ?_|refine Wl ?_|refine Wm ?_|refine Wn ?_|refine Wo ?_|refine Wp ?_|refine Wq ?_|refine Ww (by simp only[go_sem,e1,e3,e4,e5,notesV_length,hlt,hy,hp,b1,b2,b3,hw];done) ?_|((first|refine Ws ?_|refine Wt ?_|refine Wu ?_|refine Wv (by simp only[go_sem,e1,e3,e4,e5,notesV_length,hlt,hy,hp,b1,b2,b3,hw];done) ?_);conv=>arg 2;simp only[go_sem,e1,e3,e4,e5,notesV_length,hlt,hy,hp,b1,b2,b3,hw])|(refine Wx (by simp only[go_sem,e1,e3,e4,e5,notesV_length,hlt,hy,hp,b1,b2,b3,hw];rfl) (by simp only[go_sem,e1,e3,e4,e5,notesV_length,hlt,hy,hp,b1,b2,b3,hw];rfl) ?_;first|refine c51 _ _ _ ?_|refine c54 _ _ _ _ ?_)
        refine ⟨r.length, by simp at hrn; omega, a ++ [y], r, by rw [har]; simp, rfl, ?_, ?_, ?_, ?_, rfl⟩
        any_goals (simp only [go_sem, e1, e3, e4, e5, hw]; done)
        simp only [go_sem, hourOf_append]; rfl
  · simp only [h1, decide_false] at hq
    repeat first|refine Wr ?_|refine Wb ?_|refine Wc ?_|refine Wd ?_|refine We ?_|refine Wf ?_|refine Wg ?_|refine Wh ?_|refine Wi ?_|refine Wj (by decide) ?_|refine Wa ?_|refine Wk ?_|refine Wl ?_|refine Wm ?_|refine Wn ?_|refine Wo ?_|refine Wp ?_|refine Wq ?_|refine Ww (by simp only[go_sem,h1];done) ?_|((first|refine Ws ?_|refine Wt ?_|refine Wu ?_|refine Wv (by simp only[go_sem,h1];done) ?_);conv=>arg 2;simp only[go_sem,h1])|(refine Wx (by simp only[go_sem,h1];rfl) (by simp only[go_sem,h1];rfl) ?_;refine c29 b hlen ?_)
    refine w_iter (fun n e s' => e 3 = .bool false ∧ s' = s) 0 ?_ ?_
    · refine ⟨?_, rfl⟩
      simp only [go_sem]
    · rintro n e s' ⟨e3, rfl⟩
      repeat first|refine Wr ?_|refine Wb ?_|refine Wc ?_|refine Wd ?_|refine We ?_|refine Wf ?_|refine Wg ?_|refine Wh ?_|refine Wi ?_|refine Wj (by decide) ?_|refine Wa ?_|refine Wk ?_|refine Wl ?_|refine Wm ?_|refine Wn ?_|refine Wo ?_|refine Wp ?_|refine Wq ?_|refine Ww (by simp only[go_sem,e3];done) ?_|((first|refine Ws ?_|refine Wt ?_|refine Wu ?_|refine Wv (by simp only[go_sem,e3];done) ?_);conv=>arg 2;simp only[go_sem,e3])
      first|refine w_retQ ?_|refine w_endQ ?_
      conv=>arg 1;simp only[go_sem]
      exact w_res (by simp only [go_sem]) hq
end Go.Hu.Sn

set_option linter.unusedSimpArgs false
set_option linter.unusedVariables false
namespace Go.Hu.Sn
attribute [local irreducible] wpS wpIs wpI
attribute [local go_sem] Nat.mul_one Nat.one_mul Nat.zero_add Nat.add_zero Nat.zero_mul and_self and_true true_and decide_true decide_false Bool.false_eq_true if_true if_false Int.cast_ofNat_Int Int.zero_le_ofNat Int.le_refl Int.reduceLT Int.reduceLE Int.reduceToNat

variable {s : St} {Q : V → St → Prop}

theorem c50' (n m : Int) (h1 : 1 ≤ m) (hm : m ≤ 1000000) (hq : ∀ r, (0 ≤ r ∧ r < m) → Q (.int r) s) : Call prog (.fn 50 [] []) [.int n, .int m] s Q :=
  c50 n m (by omega) (hq _ (wheel_bd h1))
theorem c50L (n m : Int) (h1 : 1 ≤ m) (hm : m < 9223372036854775808) (hq : ∀ r, (0 ≤ r ∧ r < m) → Q (.int r) s) : Call prog (.fn 50 [] []) [.int n, .int m] s Q :=
  c50 n m hm (hq _ (wheel_bd h1))
theorem dec_of {p : Prop} {r : Bool} (inst : Decidable p) (h : r = true ↔ p) : @decide p inst = r := by
  cases r with
  | true => exact @decide_eq_true _ inst (h.1 rfl)
  | false => exact @decide_eq_false _ inst fun hp => by have := h.2 hp; cases this
theorem c31v {b : Book} {h m E : Int} {r : Bool} (hlen : (b.notes.length : Int) < 9223372036854775808) (hE : askE b ((0 ≤ h ∧ h ≤ 60) ∧ 0 ≤ m ∧ m ≤ 400) = E) (hr : r = true ↔ E = 0 ∧ ∃ x, atH b h x ∧ x.1 = m) (hq : ∀ s', s ≤ s' → Q (.tup [.bool r, .int E]) s') : Call prog (.fn 31 [] []) [bookV b, .int h, .int m] s Q := by
  refine c31 b h m hlen fun s' hs => ?_
  rw [dec_of _ (by rw [hE]; exact hr : r = true ↔ _), hE]
  exact hq s' hs
theorem c42v {b : Book} {x : Note} {r : Bool} (hlen : (b.notes.length : Int) < 9223372036854775808) (hb : ok b) (hx : okNote x) (hr : r = true ↔ can (withN b x)) (hq : ∀ s', s ≤ s' → Q (.tup [.bool r, .int 0]) s') : Call prog (.fn 42 [] []) [bookV b, noteV x] s Q := by
  refine c42 b x hlen fun s' hs => ?_
  rw [dec_of _ (by simpa [hb, hx] using hr : r = true ↔ _), if_pos hb, if_pos hx]
  exact hq s' hs
theorem c33v {b : Book} {h E : Int} (hlen : (b.notes.length : Int) < 9223372036854775808) (hE : askE b (0 ≤ h ∧ h ≤ 60) = E) (hq : ∀ lo hi s', Answer E (fun n => ∃ x, atH b h x ∧ x.1 = n) lo hi → s ≤ s' → Q (.tup [.agg [.int lo, .int hi], .int E]) s') : Call prog (.fn 33 [] []) [bookV b, .int h] s Q :=
  c33 b h hlen (by rw [hE]; exact hq)
theorem c35v {b : Book} {h E : Int} (hlen : (b.notes.length : Int) < 9223372036854775808) (hE : askE b (0 ≤ h ∧ h ≤ 60) = E) (hq : ∀ lo hi s', Answer E (fun n => ∃ x, atH b h x ∧ x.2 = n) lo hi → s ≤ s' → Q (.tup [.agg [.int lo, .int hi], .int E]) s') : Call prog (.fn 35 [] []) [bookV b, .int h] s Q :=
  c35 b h hlen (by rw [hE]; exact hq)
theorem c27v {b : Book} {r : Bool} (hlen : (b.notes.length : Int) < 9223372036854775808) (hb : ok b) (hr : r = true ↔ can b) (hq : ∀ s', s ≤ s' → Q (.tup [.bool r, .int 0]) s') : Call prog (.fn 27 [] []) [bookV b] s Q := by
  refine c27 b hlen fun s' hs => ?_
  rw [dec_of _ (by simpa [hb] using hr : r = true ↔ _), if_pos hb]
  exact hq s' hs
theorem c40v {b : Book} {E : Int} (hlen : (b.notes.length : Int) < 9223372036854775808) (hE : askE b True = E) (hq : ∀ lo hi s', Answer E (fun n => ∃ x, run (begun b) 0 b.notes x ∧ save b x = n) lo hi → s ≤ s' → Q (.tup [.agg [.int lo, .int hi], .int E]) s') : Call prog (.fn 40 [] []) [bookV b] s Q :=
  c40 b hlen (by rw [hE]; exact hq)
theorem sound_note {h m : Int} (hh : 0 ≤ h ∧ h ≤ 60) (hm : 0 ≤ m ∧ m ≤ 400) : okNote ⟨4, h, m, m⟩ := by
  unfold okNote okSpan most
  simp
  omega
theorem askE_ok {b : Book} {p : Prop} (hb : ok b) (hp : p) (hc : can b) : askE b p = 0 := askE_zero.2 ⟨hb, hp, hc⟩
theorem askE_not {b : Book} {p : Prop} (hb : ok b) (hp : p) (hc : ¬ can b) : askE b p = 32 := by simp [askE, hb, hp, hc]
theorem Answer.ends {S : Int → Prop} {lo hi : Int} (h : Answer 0 S lo hi) : Ends S lo hi := by simpa [Answer] using h
theorem Answer.none {E : Int} {S : Int → Prop} {lo hi : Int} (h : Answer E S lo hi) (hE : E ≠ 0) : lo = 0 ∧ hi = 0 := by simpa [Answer, hE] using h
end Go.Hu.Sn

set_option linter.unusedVariables false
namespace Go.Hu
section
variable {C : CP} {e : Env} {s : St} {K : Env → St → Prop}
/-- A list that grows, seen from where it began. -/
structure Gro (s s' : St) (c : Cap) (n : Nat) : Prop where
  room : Room s' c n
  le : s ≤ s'
  new : ∀ t, c = .tok t → s t = none
theorem Gro.start {s : St} {n : Nat} : Gro s s .exact n := ⟨.inl rfl, St.le_refl s, fun t h => by cases h⟩
theorem Gro.step {s s' s2 : St} {c c' : Cap} {n m : Nat} (h : Gro s s' c n) (g : Grown s' s2 c c' m) : Gro s s2 c' m := by
  obtain ⟨t, h1, h2, h3⟩ := g.room
  refine ⟨.inr ⟨t, h1, h3⟩, fun l o ho => g.keep l o (h.le _ _ ho) fun t' hc hlt => ?_, fun t' ht => ?_⟩
  · rw [hlt, h.new t' hc] at ho
    cases ho
  · rw [h1] at ht
    cases ht
    cases ho : s t with
    | none => rfl
    | some o => rw [h.le _ _ ho] at h2; cases h2
theorem Gro.to {s s' s2 : St} {c : Cap} {n : Nat} (h : Gro s s' c n) (g : s' ≤ s2) : Gro s s2 c n := by
  refine ⟨?_, St.le_trans h.le g, h.new⟩
  rcases h.room with h1 | ⟨t, h1, h2⟩
  · exact .inl h1
  · exact .inr ⟨t, h1, g _ _ h2⟩
theorem w_appendL {d sz : Nat} {zero : V} {a x : Opd} {is : List Ins} {xs ys : List V} {c c2 : Cap} {s0 : St} (hz : zero.cells.length = sz) (hs : ev e a = .lst xs c) (hx : ev e x = .lst ys c2) (hlen : xs.length + ys.length ≤ maxLst) (hh : hd xs sz = true)
    (hy : hd ys sz = true) (hr : ys.all V.row = true) (g : Gro s0 s c xs.length) (h : ∀ c' s', Gro s0 s' c' (xs ++ ys).length → wpIs C is (e.set d (.lst (xs ++ ys) c')) s' K) : wpR C (e, ⟨.append d sz zero false a x, none⟩ :: is) s K := by
  refine w_op ?_
  simp only [wpO, hs, hx]
  refine ⟨hz, hlen, hh, hy, hr, ?_⟩
  by_cases hn : ys = []
  · rw [if_pos hn]
    subst hn
    have := h c s (by simpa using g)
    simpa using this
  · rw [if_neg hn]
    rcases g.room with rfl | ⟨t, rfl, ht⟩
    · simp only [Bool.false_eq_true, if_false]
      intro l hl
      exact h (.tok l) _ (g.step ⟨⟨l, rfl, hl, St.set_get⟩, fun l' o ho _ => by rw [St.get_other (by rintro rfl; rw [hl] at ho; cases ho)]; exact ho, fun l' hl' => by rw [St.get_other (by rintro rfl; exact hl' hl)]; exact hl'⟩)
    · simp only [ht]
      refine ⟨trivial, fun l hl => ?_⟩
      refine h (.tok l) _ (g.step ⟨⟨l, rfl, hl, St.set_get⟩, fun l' o ho hn => ?_, fun l' hl' => ?_⟩)
      · rw [St.get_other (by rintro rfl; rw [hl] at ho; cases ho), St.get_other (hn t rfl)]; exact ho
      · rw [St.get_other (by rintro rfl; exact hl' hl)]
        by_cases e3 : l' = t
        · subst e3; rw [St.set_get]; simp
        · rw [St.get_other e3]; exact hl'
end
end Go.Hu

set_option linter.unusedSimpArgs false
set_option linter.unusedVariables false
namespace Go.Hu.Sn
attribute [local irreducible] wpS wpIs wpI
attribute [local go_sem] Nat.mul_one Nat.one_mul Nat.zero_add Nat.add_zero Nat.zero_mul and_self and_true true_and decide_true decide_false Bool.false_eq_true if_true if_false Int.cast_ofNat_Int Int.zero_le_ofNat Int.le_refl Int.reduceLT Int.reduceLE Int.reduceToNat

variable {s : St} {Q : V → St → Prop}

theorem c141 (l : List Int) (n : Int) (hl : (l.length : Int) < 9223372036854775808) (hq : ∀ v, Q (.int v) s) : Call prog (.fn 141 [] []) [.lst (intsV l) .any, .int n] s Q := by
  refine Call.fn F141 p141 rfl ?_
  simp only [F141]
  by_cases h1 : (l.length : Int) < 1
  · repeat first|refine Wr ?_|refine Wb ?_|refine Wc ?_|refine Wd ?_|refine We ?_|refine Wf ?_|refine Wg ?_|refine Wh ?_|refine Wi ?_|refine Wj (by decide) ?_|refine Wa ?_|refine Wk ?_|refine Wl ?_|refine Wm ?_|refine Wn ?_|refine Wo ?_|refine Wp ?_|refine Wq ?_|refine Ww (by simp only[go_sem,intsV_length,h1];done) ?_|((first|refine Ws ?_|refine Wt ?_|refine Wu ?_|refine Wv (by simp only[go_sem,intsV_length,h1];done) ?_);conv=>arg 2;simp only[go_sem,intsV_length,h1])
    first|refine w_retQ ?_|refine w_endQ ?_
    conv=>arg 1;simp only[go_sem]
    exact w_res (v := .int 0) (by simp only [go_sem]) (hq 0)
  · have h2 : 1 ≤ (l.length : Int) := by omega
    repeat first|refine Wr ?_|refine Wb ?_|refine Wc ?_|refine Wd ?_|refine We ?_|refine Wf ?_|refine Wg ?_|refine Wh ?_|refine Wi ?_|refine Wj (by decide) ?_|refine Wa ?_|refine Wk ?_|refine Wl ?_|refine Wm ?_|refine Wn ?_|refine Wo ?_|refine Wp ?_|refine Wq ?_|refine Ww (by simp only[go_sem,intsV_length,h1];done) ?_|((first|refine Ws ?_|refine Wt ?_|refine Wu ?_|refine Wv (by simp only[go_sem,intsV_length,h1];done) ?_);conv=>arg 2;simp only[go_sem,intsV_length,h1])
    refine w_call (by simp only [go_sem, intsV_length]; rfl) (by simp only [go_sem, intsV_length]; rfl) ?_
    refine c50L n l.length h2 hl fun r hr => ?_
    obtain ⟨v, hv⟩ : ∃ v, l[r.toNat]? = some v := ⟨_, List.getElem?_eq_getElem (by omega)⟩
    have hv' : (intsV l)[r.toNat]? = some (.int v) := by simp [intsV, hv]
    have hr0 := hr.1
    repeat first|refine Wr ?_|refine Wb ?_|refine Wc ?_|refine Wd ?_|refine We ?_|refine Wf ?_|refine Wg ?_|refine Wh ?_|refine Wi ?_|refine Wj (by decide) ?_|refine Wa ?_|refine Wk ?_|refine Wl ?_|refine Wm ?_|refine Wn ?_|refine Wo ?_|refine Wp ?_|refine Wq ?_|refine Ww (by simp only[go_sem,hv',hr0];done) ?_|((first|refine Ws ?_|refine Wt ?_|refine Wu ?_|refine Wv (by simp only[go_sem,hv',hr0];done) ?_);conv=>arg 2;simp only[go_sem,hv',hr0])
    first|refine w_retQ ?_|refine w_endQ ?_
    conv=>arg 1;simp only[go_sem]
    exact w_res (v := .int v) (by simp only [go_sem]) (hq v)
theorem c104 (lo hi n : Int) (hl : 0 ≤ lo ∧ lo ≤ hi ∧ hi ≤ 400) (hq : ∀ r, (lo ≤ r ∧ r ≤ hi) → Q (.int r) s) : Call prog (.fn 104 [] []) [.agg [.int lo, .int hi], .int n] s Q := by
  refine Call.fn F104 p104 rfl ?_
  simp only [F104]
  have hw1 : w64 (hi - lo) = hi - lo := w64_id (by omega)
  have hw2 : w64 (hi - lo + 1) = hi - lo + 1 := w64_id (by omega)
  have hb1 : 1 ≤ hi - lo + 1 := by omega
  have hb2 : hi - lo + 1 ≤ 1000000 := by omega
  repeat first|refine Wr ?_|refine Wb ?_|refine Wc ?_|refine Wd ?_|refine We ?_|refine Wf ?_|refine Wg ?_|refine Wh ?_|refine Wi ?_|refine Wj (by decide) ?_|refine Wa ?_|refine Wk ?_|refine Wl ?_|refine Wm ?_|refine Wn ?_|refine Wo ?_|refine Wp ?_|refine Wq ?_|refine Ww (by simp only[go_sem,hw1,hw2];done) ?_|((first|refine Ws ?_|refine Wt ?_|refine Wu ?_|refine Wv (by simp only[go_sem,hw1,hw2];done) ?_);conv=>arg 2;simp only[go_sem,hw1,hw2])
  refine w_call (by simp only [go_sem, hw1, hw2]; rfl) (by simp only [go_sem, hw1, hw2]; rfl) ?_
  refine c50' n (hi - lo + 1) hb1 hb2 fun r hr => ?_
  have hw3 : w64 (lo + r) = lo + r := w64_id (by omega)
  repeat first|refine Wr ?_|refine Wb ?_|refine Wc ?_|refine Wd ?_|refine We ?_|refine Wf ?_|refine Wg ?_|refine Wh ?_|refine Wi ?_|refine Wj (by decide) ?_|refine Wa ?_|refine Wk ?_|refine Wl ?_|refine Wm ?_|refine Wn ?_|refine Wo ?_|refine Wp ?_|refine Wq ?_|refine Ww (by simp only[go_sem,hw3];done) ?_|((first|refine Ws ?_|refine Wt ?_|refine Wu ?_|refine Wv (by simp only[go_sem,hw3];done) ?_);conv=>arg 2;simp only[go_sem,hw3])
  first|refine w_retQ ?_|refine w_endQ ?_
  conv=>arg 1;simp only[go_sem]
  exact w_res (v := .int (lo + r)) (by simp only [go_sem]) (hq (lo + r) (by omega))

/-- Two lists whose rights to grow are not one. -/
def Dif (c d : Cap) : Prop := ∀ t, c = .tok t → d ≠ .tok t
theorem Dif.symm {c d : Cap} (h : Dif c d) : Dif d c := fun t hd hc => h t hc hd
theorem gro_keep {s0 s' s2 : St} {c c' d : Cap} {n m k : Nat} (h : Gro s0 s' d m) (hc : Gro s0 s' c k) (g : Grown s' s2 c c' n) (hd : Dif c d) : Gro s0 s2 d m ∧ Dif c' d := by
  refine ⟨⟨?_, fun l o ho => ?_, h.new⟩, fun t ht hdt => ?_⟩
  · rcases h.room with h1 | ⟨t, h1, h2⟩
    · exact .inl h1
    · exact .inr ⟨t, h1, g.keep t _ h2 fun t' ht' htt => hd t' ht' (by rw [h1, htt])⟩
  · refine g.keep l o (h.le _ _ ho) fun t ht hlt => ?_
    rw [hlt, hc.new t ht] at ho
    cases ho
  · obtain ⟨t', h1, h2, h3⟩ := g.room
    rw [h1] at ht
    cases ht
    rcases h.room with h4 | ⟨t2, h4, h5⟩
    · rw [h4] at hdt; cases hdt
    · rw [h4] at hdt
      cases hdt
      rw [h2] at h5
      cases h5

structure Tri (s s' : St) (c1 c2 c3 : Cap) (n1 n2 n3 : Nat) : Prop where
  g1 : Gro s s' c1 n1
  g2 : Gro s s' c2 n2
  g3 : Gro s s' c3 n3
  d12 : Dif c1 c2
  d13 : Dif c1 c3
  d23 : Dif c2 c3
theorem Tri.start {s : St} : Tri s s .exact .exact .exact 0 0 0 := ⟨Gro.start, Gro.start, Gro.start, fun t h => (by cases h), fun t h => (by cases h), fun t h => (by cases h)⟩
theorem Tri.one {s s' s2 : St} {c1 c2 c3 c : Cap} {n1 n2 n3 : Nat} (h : Tri s s' c1 c2 c3 n1 n2 n3) (g : Grown s' s2 c1 c (n1 + 1)) : Tri s s2 c c2 c3 (n1 + 1) n2 n3 := by
  obtain ⟨a1, a2⟩ := gro_keep h.g2 h.g1 g h.d12
  obtain ⟨b1, b2⟩ := gro_keep h.g3 h.g1 g h.d13
  exact ⟨h.g1.step g, a1, b1, a2, b2, h.d23⟩
theorem Tri.two {s s' s2 : St} {c1 c2 c3 c : Cap} {n1 n2 n3 : Nat} (h : Tri s s' c1 c2 c3 n1 n2 n3) (g : Grown s' s2 c2 c (n2 + 1)) : Tri s s2 c1 c c3 n1 (n2 + 1) n3 := by
  obtain ⟨a1, a2⟩ := gro_keep h.g1 h.g2 g h.d12.symm
  obtain ⟨b1, b2⟩ := gro_keep h.g3 h.g2 g h.d23
  exact ⟨a1, h.g2.step g, b1, a2.symm, h.d13, b2⟩
theorem Tri.three {s s' s2 : St} {c1 c2 c3 c : Cap} {n1 n2 n3 : Nat} (h : Tri s s' c1 c2 c3 n1 n2 n3) (g : Grown s' s2 c3 c (n3 + 1)) : Tri s s2 c1 c2 c n1 n2 (n3 + 1) := by
  obtain ⟨a1, a2⟩ := gro_keep h.g1 h.g3 g h.d13.symm
  obtain ⟨b1, b2⟩ := gro_keep h.g2 h.g3 g h.d23.symm
  exact ⟨a1, b1, h.g3.step g, h.d12, a2.symm, b2.symm⟩

set_option maxRecDepth 20000 in
set_option maxHeartbeats 4000000 in
theorem c48 (b : Book) (bits : List Int) (hb : ok b) (hbl : (bits.length : Int) < 9223372036854775808) (hq : ∀ a hs rs c s', Lived b a 61 c hs rs → hs.length = 61 → a.length ≤ 8 → s ≤ s' → Q (.tup [bookV ⟨b.lo, b.hi, a⟩, .agg [.lst (intsV hs) .any, .lst (intsV rs) .any]]) s') : Call prog (.fn 48 [] []) [bookV b, .lst (intsV bits) .any] s Q := by
  refine Call.fn F48 p48 rfl ?_
  simp only [F48, bookV]
  have hbs := hb.1
  have hbs' := hbs
  unfold okSpan at hbs'
  have hsp : 0 ≤ b.lo ∧ b.lo ≤ b.hi ∧ b.hi ≤ 400 := by omega
  have h8 : b.notes.length ≤ 8 := hb.2.1
  repeat first|refine Wr ?_|refine Wb ?_|refine Wc ?_|refine Wd ?_|refine We ?_|refine Wf ?_|refine Wg ?_|refine Wh ?_|refine Wi ?_|refine Wj (by decide) ?_|refine Wa ?_|refine Wk ?_|refine Wl ?_|refine Wm ?_|refine Wn ?_|refine Wo ?_|refine Wp ?_|refine Wq ?_|refine Ww (by simp only[go_sem];done) ?_|((first|refine Ws ?_|refine Wt ?_|refine Wu ?_|refine Wv (by simp only[go_sem];done) ?_);conv=>arg 2;simp only[go_sem])|(refine Wx (by simp only[go_sem];rfl) (by simp only[go_sem];rfl) ?_;refine c141 bits _ hbl fun v0 => ?_)
  refine w_call (by simp only [go_sem]; rfl) (by simp only [go_sem]; rfl) ?_
  refine c104 b.lo b.hi v0 hsp fun n0 hn0 => ?_
  first|refine w_trimI [1,2,4,5,6,7,22] fun e he => ?_|refine w_trimR [1,2,4,5,6,7,22] fun e he => ?_|refine w_trimS [1,2,4,5,6,7,22] fun e he => ?_
  simp only[w_map1,w_map0,List.cons.injEq,go_sem] at he
  obtain ⟨e1,e2,e4,e5,e6,e7,e22⟩ := he
  repeat first|refine Wr ?_|refine Wb ?_|refine Wc ?_|refine Wd ?_|refine We ?_|refine Wf ?_|refine Wg ?_|refine Wh ?_|refine Wi ?_|refine Wj (by decide) ?_|refine Wa ?_|refine Wk ?_|refine Wl ?_|refine Wm ?_|refine Wn ?_|refine Wo ?_|refine Wp ?_|refine Wq ?_|refine Ww (by simp only[go_sem,e1,e2,e4,e5,e6,e7,e22];done) ?_|((first|refine Ws ?_|refine Wt ?_|refine Wu ?_|refine Wv (by simp only[go_sem,e1,e2,e4,e5,e6,e7,e22];done) ?_);conv=>arg 2;simp only[go_sem,e1,e2,e4,e5,e6,e7,e22])
  refine w_iter (fun n e s' => ∃ (h : Nat) (p r a : List Note) (u v : Int) (cur : X) (hs rs : List Int) (c1 c2 c3 : Cap), n = 61 - h ∧ h ≤ 61 ∧ b.notes = p ++ r ∧ a.length = p.length ∧ (0 ≤ u ∧ u ≤ 400) ∧ ((h = 0 ∧ cur = (u, v)) ∨ (0 < h ∧ cur = pass (u, v) 1)) ∧ e 1 = .lst (intsV bits) .any ∧ e 2 = .agg [.int b.lo, .int b.hi, .lst (notesV b.notes) .any] ∧ e 4 = .agg [.int 0, .int 0, .lst [] .exact] ∧ e 5 = .agg [.lst [] .exact, .lst [] .exact] ∧
    e 6 = .agg [.int b.lo, .int b.hi, .lst (notesV a) c1] ∧ e 7 = .agg [.lst (intsV hs) c2, .lst (intsV rs) c3] ∧ e 8 = .int u ∧ e 9 = .int v ∧ e 10 = .int p.length ∧ e 11 = .int h ∧ hs.length = h ∧ Lived b a h cur hs rs ∧ Tri s s' c1 c2 c3 a.length hs.length rs.length) 61 ?_ ?_
  · refine ⟨0, [], b.notes, [], n0, 0, (n0, 0), [], [], .exact, .exact, .exact, rfl, by omega, rfl, rfl, by omega, .inl ⟨rfl, rfl⟩, ?_, ?_, ?_, ?_, ?_, ?_, ?_, ?_, ?_, ?_, rfl, Lived.start hbs hn0, Tri.start⟩
    any_goals (simp only [go_sem, e1, e2, e4, e5, e6, e7, e22, List.length_nil, Int.natCast_zero]; done)
    all_goals (simp only [go_sem, e6, e7]; rfl)
  · clear e1 e2 e4 e5 e6 e7 e22
    rintro n e s' ⟨h, p, r, a, u, v, cur, hs, rs, c1, c2, c3, hn, hh, hpr, hap, hu, hcur, e1, e2, e4, e5, e6, e7, e8, e9, e10, e11, hhs, hl, ht⟩
    by_cases hlt : (h : Int) ≤ 60
    · have hp8 : p.length ≤ 8 := by
        have := congrArg List.length hpr
        simp at this
        omega
      have hv : 0 ≤ v ∧ v ≤ 100 := by
        have h1 := hl.small.2
        rw [hap] at h1
        rcases hcur with ⟨_, rfl⟩ | ⟨_, rfl⟩
        · simp only at h1; omega
        · unfold pass at h1; simp only at h1; omega
      have hstart : (¬ (h : Int) > 0 ∧ u = cur.1 ∧ v = cur.2) ∨ ((h : Int) > 0 ∧ (if u - v > 0 then u - v else 0) = cur.1 ∧ v = cur.2) := by
        rcases hcur with ⟨h1, h2⟩ | ⟨h1, rfl⟩
        · rw [h2]
          exact .inl ⟨by omega, rfl, rfl⟩
        · right
          refine ⟨by omega, ?_, rfl⟩
          unfold pass
          simp only [Int.mul_one]
          split <;> omega
      have hw0 : w64 (u - v) = u - v := w64_id (by omega)
      rcases hstart with ⟨g1, g2, g3⟩ | ⟨g1, g2, g3⟩
      case' inl =>
        repeat first|refine Wr ?_|refine Wb ?_|refine Wc ?_|refine Wd ?_|refine We ?_|refine Wf ?_|refine Wg ?_|refine Wh ?_|refine Wi ?_|refine Wj (by decide) ?_|refine Wa ?_|refine Wk ?_|refine Wl ?_|refine Wm ?_|refine Wn ?_|refine Wo ?_|refine Wp ?_|refine Wq ?_|refine Ww (by simp only[go_sem,hlt,g1,e1,e2,e4,e5,e6,e7,e8,e9,e10,e11];done) ?_|((first|refine Ws ?_|refine Wt ?_|refine Wu ?_|refine Wv (by simp only[go_sem,hlt,g1,e1,e2,e4,e5,e6,e7,e8,e9,e10,e11];done) ?_);conv=>arg 2;simp only[go_sem,hlt,g1,e1,e2,e4,e5,e6,e7,e8,e9,e10,e11])
        first|refine w_trimI [1,2,4,5,6,7,8,9,10,11] fun e he => ?_|refine w_trimR [1,2,4,5,6,7,8,9,10,11] fun e he => ?_|refine w_trimS [1,2,4,5,6,7,8,9,10,11] fun e he => ?_
        simp only[w_map1,w_map0,List.cons.injEq,go_sem,e1, e2, e4, e5, e6, e7, e8, e9, e10, e11] at he
        obtain ⟨e1,e2,e4,e5,e6,e7,e8,e9,e10,e11⟩ := he
        rw [g2] at e8
        rw [g3] at e9
      case' inr =>
        repeat first|refine Wr ?_|refine Wb ?_|refine Wc ?_|refine Wd ?_|refine We ?_|refine Wf ?_|refine Wg ?_|refine Wh ?_|refine Wi ?_|refine Wj (by decide) ?_|refine Wa ?_|refine Wk ?_|refine Wl ?_|refine Wm ?_|refine Wn ?_|refine Wo ?_|refine Wp ?_|refine Wq ?_|refine Ww (by simp only[go_sem,hlt,g1,g2,hw0,e1,e2,e4,e5,e6,e7,e8,e9,e10,e11];done) ?_|((first|refine Ws ?_|refine Wt ?_|refine Wu ?_|refine Wv (by simp only[go_sem,hlt,g1,g2,hw0,e1,e2,e4,e5,e6,e7,e8,e9,e10,e11];done) ?_);conv=>arg 2;simp only[go_sem,hlt,g1,g2,hw0,e1,e2,e4,e5,e6,e7,e8,e9,e10,e11])
        first|refine w_trimI [1,2,4,5,6,7,8,9,10,11] fun e he => ?_|refine w_trimR [1,2,4,5,6,7,8,9,10,11] fun e he => ?_|refine w_trimS [1,2,4,5,6,7,8,9,10,11] fun e he => ?_
        simp only[w_map1,w_map0,List.cons.injEq,go_sem,g2, e1, e2, e4, e5, e6, e7, e8, e9, e10, e11] at he
        obtain ⟨e1,e2,e4,e5,e6,e7,e8,e9,e10,e11⟩ := he
        rw [g3] at e9
      all_goals
        clear hw0 hcur g1 g2 g3
        refine w_iter (fun n e s' => ∃ (p r a : List Note) (cur : X) (c1 : Cap), n = r.length ∧ b.notes = p ++ r ∧ a.length = p.length ∧ e 1 = .lst (intsV bits) .any ∧ e 2 = .agg [.int b.lo, .int b.hi, .lst (notesV b.notes) .any] ∧ e 4 = .agg [.int 0, .int 0, .lst [] .exact] ∧ e 5 = .agg [.lst [] .exact, .lst [] .exact] ∧
          e 6 = .agg [.int b.lo, .int b.hi, .lst (notesV a) c1] ∧ e 7 = .agg [.lst (intsV hs) c2, .lst (intsV rs) c3] ∧ e 8 = .int cur.1 ∧ e 9 = .int cur.2 ∧ e 10 = .int p.length ∧ e 11 = .int h ∧ Lived b a h cur hs rs ∧ Tri s s' c1 c2 c3 a.length hs.length rs.length) r.length ⟨p, r, a, cur, c1, rfl, hpr, hap, e1, e2, e4, e5, e6, e7, e8, e9, e10, e11, hl, ht⟩ ?_
        clear e1 e2 e4 e5 e6 e7 e8 e9 e10 e11 ht hl hpr hap
        rintro n' e s' ⟨p, r, a, cur, c1, hn', hpr, hap, e1, e2, e4, e5, e6, e7, e8, e9, e10, e11, hl, ht⟩
        have hpp := len_nonneg p
        have hpl : p.length + r.length = b.notes.length := by rw [hpr, List.length_append]
        have hsm := hl.small
        have hcnd : (¬ (p.length : Int) < (b.notes.length : Int)) ∨ ∃ y r', r = y :: r' ∧ (p.length : Int) < (b.notes.length : Int) ∧ (notesV b.notes)[((p.length : Int)).toNat]? = some (.agg [.int y.kind, .int y.hour, .int y.lo, .int y.hi]) := by
          cases r with
          | nil => left; simp at hpl; omega
          | cons y r' =>
            right
            refine ⟨y, r', rfl, ?_, ?_⟩
            · simp at hpl; omega
            · rw [hpr]; exact notesV_at
        have hx : ((¬ (p.length : Int) < (b.notes.length : Int)) ∨ ∃ y : Note, (p.length : Int) < (b.notes.length : Int) ∧ (notesV b.notes)[((p.length : Int)).toNat]? = some (.agg [.int y.kind, .int y.hour, .int y.lo, .int y.hi]) ∧ (y.hour == (h : Int)) = false) ∨ ∃ (y : Note) (r' : List Note), r = y :: r' ∧ (p.length : Int) < (b.notes.length : Int) ∧ (notesV b.notes)[((p.length : Int)).toNat]? = some (.agg [.int y.kind, .int y.hour, .int y.lo, .int y.hi]) ∧ y.hour = h := by
          rcases hcnd with q | ⟨y, r', q0, q1, q2⟩
          · exact .inl (.inl q)
          · by_cases hyh : y.hour = h
            · exact .inr ⟨y, r', q0, q1, q2, hyh⟩
            · exact .inl (.inr ⟨y, q1, q2, by simpa using hyh⟩)
        clear hcnd
        rcases hx with hx | ⟨y, r', rfl, q1, q2, hyh⟩
        case inr =>
          have q3 : (y.hour == (h : Int)) = true := by simpa using hyh
          have hpy : p.length + 1 ≤ 8 := by simp at hpl; omega
          have hy := okNotes_kind hb.2.2 y (by rw [hpr]; simp)
          obtain ⟨hk, hyb⟩ := ok_notes_bd hb (n := y) (by rw [hpr]; simp)
          have hyb' : 0 ≤ y.lo ∧ y.lo ≤ y.hi ∧ y.hi ≤ 400 := by omega
          have hmo := hy.2.2
          unfold okSpan at hmo
          have hrr : r'.length < n' := by simp at hn'; omega
          have hw1 : w64 ((p.length : Int) + 1) = ((p.length + 1 : Nat) : Int) := by rw [w64_id (by omega)]; simp
          repeat first|refine Wr ?_|refine Wb ?_|refine Wc ?_|refine Wd ?_|refine We ?_|refine Wf ?_|refine Wg ?_|refine Wh ?_|refine Wi ?_|refine Wj (by decide) ?_|refine Wa ?_|refine Wk ?_|refine Wl ?_|refine Wm ?_|refine Wn ?_|refine Wo ?_|refine Wp ?_|refine Wq ?_|refine Ww (by simp only[go_sem,q1,q2,q3,hpp,hw1,notesV_length,e1,e2,e4,e5,e6,e7,e8,e9,e10,e11];done) ?_|((first|refine Ws ?_|refine Wt ?_|refine Wu ?_|refine Wv (by simp only[go_sem,q1,q2,q3,hpp,hw1,notesV_length,e1,e2,e4,e5,e6,e7,e8,e9,e10,e11];done) ?_);conv=>arg 2;simp only[go_sem,q1,q2,q3,hpp,hw1,notesV_length,e1,e2,e4,e5,e6,e7,e8,e9,e10,e11])|(refine Wx (by simp only[go_sem,q1,q2,q3,hpp,hw1,notesV_length,e1,e2,e4,e5,e6,e7,e8,e9,e10,e11];rfl) (by simp only[go_sem,q1,q2,q3,hpp,hw1,notesV_length,e1,e2,e4,e5,e6,e7,e8,e9,e10,e11];rfl) ?_;refine c141 bits _ hbl fun v1 => ?_)
          refine w_call (by simp only [go_sem]; rfl) (by simp only [go_sem]; rfl) ?_
          refine c104 y.lo y.hi v1 hyb' fun m hm => ?_
          first|refine w_trimI [1,2,4,5,6,7,8,9,10,11,12,59] fun e he => ?_|refine w_trimR [1,2,4,5,6,7,8,9,10,11,12,59] fun e he => ?_|refine w_trimS [1,2,4,5,6,7,8,9,10,11,12,59] fun e he => ?_
          simp only[w_map1,w_map0,List.cons.injEq,go_sem,e1, e2, e4, e5, e6, e7, e8, e9, e10, e11] at he
          obtain ⟨e1,e2,e4,e5,e6,e7,e8,e9,e10,e11,e12,e59⟩ := he
          clear hw1 hn
          have hmmax : (notesV a).length + 1 ≤ maxLst := by rw [notesV_length]; simp only [maxLst]; omega
          have hkc : y.kind = 0 ∧ m > cur.1 ∨ y.kind = 0 ∧ ¬ m > cur.1 ∨ y.kind = 1 ∨ y.kind = 2 ∨ y.kind = 3 ∨ y.kind = 4 := by omega
          rcases hkc with ⟨k, km⟩ | ⟨k, km⟩ | k | k | k | k
          case' inl =>
            have k0 : (y.kind == 0) = true := by simp [k]
            have hw : w64 (cur.1 - cur.1) = cur.1 - cur.1 := w64_id (by omega)
            repeat first|refine Wr ?_|refine Wb ?_|refine Wc ?_|refine Wd ?_|refine We ?_|refine Wf ?_|refine Wg ?_|refine Wh ?_|refine Wi ?_|refine Wj (by decide) ?_|refine Wa ?_|refine Wk ?_|refine Wl ?_|refine Wm ?_|refine Wn ?_|refine Wo ?_|refine Wp ?_|refine Wq ?_|refine Ww (by simp only[go_sem,k0,km,hw,e1,e2,e4,e5,e6,e7,e8,e9,e10,e11,e12,e59];done) ?_|((first|refine Ws ?_|refine Wt ?_|refine Wu ?_|refine Wv (by simp only[go_sem,k0,km,hw,e1,e2,e4,e5,e6,e7,e8,e9,e10,e11,e12,e59];done) ?_);conv=>arg 2;simp only[go_sem,k0,km,hw,e1,e2,e4,e5,e6,e7,e8,e9,e10,e11,e12,e59])|(refine Wx (by simp only[go_sem,k0,km,hw,e1,e2,e4,e5,e6,e7,e8,e9,e10,e11,e12,e59];rfl) (by simp only[go_sem,k0,km,hw,e1,e2,e4,e5,e6,e7,e8,e9,e10,e11,e12,e59];rfl) ?_;refine c52 _ ?_)
            first|refine w_trimI [1,2,4,5,6,7,8,9,10,11,12,106,108] fun e he => ?_|refine w_trimR [1,2,4,5,6,7,8,9,10,11,12,106,108] fun e he => ?_|refine w_trimS [1,2,4,5,6,7,8,9,10,11,12,106,108] fun e he => ?_
            simp only[w_map1,w_map0,List.cons.injEq,go_sem,hw, e1, e2, e4, e5, e6, e7, e8, e9, e10, e11, e12] at he
            obtain ⟨e1,e2,e4,e5,e6,e7,e8,e9,e10,e11,e12,e106,e108⟩ := he
            clear hw
            obtain ⟨y', n0, c', o1, o2, o3, o4, o5, e8, e9, e108⟩ : ∃ (y' : Note) (n0 : Int) (c' : X), okNote y' ∧ y'.hour = h ∧ (y'.lo ≤ n0 ∧ n0 ≤ y'.hi) ∧ does y'.kind cur n0 = (c', true) ∧ ((0 ≤ c'.1 ∧ c'.1 ≤ 400) ∧ (0 ≤ c'.2 ∧ c'.2 ≤ 9 * (a.length + 1 : Int))) ∧ e 8 = .int c'.1 ∧ e 9 = .int c'.2 ∧ e 108 = .lst [.agg [.int y'.kind, .int y'.hour, .int y'.lo, .int y'.hi]] .exact := by
              refine ⟨⟨y.kind, y.hour, cur.1, cur.1⟩, cur.1, (cur.1 - cur.1, cur.2), ⟨hk, hy.2.1, ?_⟩, hyh, by simp only; omega, ?_, by simp only; omega, e8, e9, e108⟩
              · unfold okSpan most
                simp only [k]
                simp
                omega
              · simp only [k, does]
                simp
          case' inr.inl =>
            have k0 : (y.kind == 0) = true := by simp [k]
            have hw : w64 (cur.1 - m) = cur.1 - m := w64_id (by omega)
            repeat first|refine Wr ?_|refine Wb ?_|refine Wc ?_|refine Wd ?_|refine We ?_|refine Wf ?_|refine Wg ?_|refine Wh ?_|refine Wi ?_|refine Wj (by decide) ?_|refine Wa ?_|refine Wk ?_|refine Wl ?_|refine Wm ?_|refine Wn ?_|refine Wo ?_|refine Wp ?_|refine Wq ?_|refine Ww (by simp only[go_sem,k0,km,hw,e1,e2,e4,e5,e6,e7,e8,e9,e10,e11,e12,e59];done) ?_|((first|refine Ws ?_|refine Wt ?_|refine Wu ?_|refine Wv (by simp only[go_sem,k0,km,hw,e1,e2,e4,e5,e6,e7,e8,e9,e10,e11,e12,e59];done) ?_);conv=>arg 2;simp only[go_sem,k0,km,hw,e1,e2,e4,e5,e6,e7,e8,e9,e10,e11,e12,e59])
            first|refine w_trimI [1,2,4,5,6,7,8,9,10,11,12,106,108] fun e he => ?_|refine w_trimR [1,2,4,5,6,7,8,9,10,11,12,106,108] fun e he => ?_|refine w_trimS [1,2,4,5,6,7,8,9,10,11,12,106,108] fun e he => ?_
            simp only[w_map1,w_map0,List.cons.injEq,go_sem,hw, e1, e2, e4, e5, e6, e7, e8, e9, e10, e11, e12] at he
            obtain ⟨e1,e2,e4,e5,e6,e7,e8,e9,e10,e11,e12,e106,e108⟩ := he
            clear hw
            obtain ⟨y', n0, c', o1, o2, o3, o4, o5, e8, e9, e108⟩ : ∃ (y' : Note) (n0 : Int) (c' : X), okNote y' ∧ y'.hour = h ∧ (y'.lo ≤ n0 ∧ n0 ≤ y'.hi) ∧ does y'.kind cur n0 = (c', true) ∧ ((0 ≤ c'.1 ∧ c'.1 ≤ 400) ∧ (0 ≤ c'.2 ∧ c'.2 ≤ 9 * (a.length + 1 : Int))) ∧ e 8 = .int c'.1 ∧ e 9 = .int c'.2 ∧ e 108 = .lst [.agg [.int y'.kind, .int y'.hour, .int y'.lo, .int y'.hi]] .exact := by
              refine ⟨y, m, (cur.1 - m, cur.2), hy, hyh, hm, ?_, by simp only; omega, e8, e9, e108⟩
              simp only [k, does]
              simp
              omega
          case' inr.inr.inl =>
            have k0 : (y.kind == 0) = false := by simp [k]
            have k1 : (y.kind == 1) = true := by simp [k]
            have hm9 : m ≤ 9 := by unfold most at hmo; simp [k] at hmo; omega
            have hw : w64 (cur.2 + m) = cur.2 + m := w64_id (by omega)
            repeat first|refine Wr ?_|refine Wb ?_|refine Wc ?_|refine Wd ?_|refine We ?_|refine Wf ?_|refine Wg ?_|refine Wh ?_|refine Wi ?_|refine Wj (by decide) ?_|refine Wa ?_|refine Wk ?_|refine Wl ?_|refine Wm ?_|refine Wn ?_|refine Wo ?_|refine Wp ?_|refine Wq ?_|refine Ww (by simp only[go_sem,k0,k1,hw,e1,e2,e4,e5,e6,e7,e8,e9,e10,e11,e12,e59];done) ?_|((first|refine Ws ?_|refine Wt ?_|refine Wu ?_|refine Wv (by simp only[go_sem,k0,k1,hw,e1,e2,e4,e5,e6,e7,e8,e9,e10,e11,e12,e59];done) ?_);conv=>arg 2;simp only[go_sem,k0,k1,hw,e1,e2,e4,e5,e6,e7,e8,e9,e10,e11,e12,e59])
            first|refine w_trimI [1,2,4,5,6,7,8,9,10,11,12,106,108] fun e he => ?_|refine w_trimR [1,2,4,5,6,7,8,9,10,11,12,106,108] fun e he => ?_|refine w_trimS [1,2,4,5,6,7,8,9,10,11,12,106,108] fun e he => ?_
            simp only[w_map1,w_map0,List.cons.injEq,go_sem,hw, e1, e2, e4, e5, e6, e7, e8, e9, e10, e11, e12] at he
            obtain ⟨e1,e2,e4,e5,e6,e7,e8,e9,e10,e11,e12,e106,e108⟩ := he
            clear hw
            obtain ⟨y', n0, c', o1, o2, o3, o4, o5, e8, e9, e108⟩ : ∃ (y' : Note) (n0 : Int) (c' : X), okNote y' ∧ y'.hour = h ∧ (y'.lo ≤ n0 ∧ n0 ≤ y'.hi) ∧ does y'.kind cur n0 = (c', true) ∧ ((0 ≤ c'.1 ∧ c'.1 ≤ 400) ∧ (0 ≤ c'.2 ∧ c'.2 ≤ 9 * (a.length + 1 : Int))) ∧ e 8 = .int c'.1 ∧ e 9 = .int c'.2 ∧ e 108 = .lst [.agg [.int y'.kind, .int y'.hour, .int y'.lo, .int y'.hi]] .exact := by
              refine ⟨y, m, (cur.1, cur.2 + m), hy, hyh, hm, ?_, by simp only; omega, e8, e9, e108⟩
              simp only [k, does]
              simp
          case' inr.inr.inr.inl =>
            have k0 : (y.kind == 0) = false := by simp [k]
            have k1 : (y.kind == 1) = false := by simp [k]
            have k2 : (y.kind == 2) = true := by simp [k]
            repeat first|refine Wr ?_|refine Wb ?_|refine Wc ?_|refine Wd ?_|refine We ?_|refine Wf ?_|refine Wg ?_|refine Wh ?_|refine Wi ?_|refine Wj (by decide) ?_|refine Wa ?_|refine Wk ?_|refine Wl ?_|refine Wm ?_|refine Wn ?_|refine Wo ?_|refine Wp ?_|refine Wq ?_|refine Ww (by simp only[go_sem,k0,k1,k2,e1,e2,e4,e5,e6,e7,e8,e9,e10,e11,e12,e59];done) ?_|((first|refine Ws ?_|refine Wt ?_|refine Wu ?_|refine Wv (by simp only[go_sem,k0,k1,k2,e1,e2,e4,e5,e6,e7,e8,e9,e10,e11,e12,e59];done) ?_);conv=>arg 2;simp only[go_sem,k0,k1,k2,e1,e2,e4,e5,e6,e7,e8,e9,e10,e11,e12,e59])
            first|refine w_trimI [1,2,4,5,6,7,8,9,10,11,12,106,108] fun e he => ?_|refine w_trimR [1,2,4,5,6,7,8,9,10,11,12,106,108] fun e he => ?_|refine w_trimS [1,2,4,5,6,7,8,9,10,11,12,106,108] fun e he => ?_
            simp only[w_map1,w_map0,List.cons.injEq,go_sem,e1, e2, e4, e5, e6, e7, e8, e9, e10, e11, e12] at he
            obtain ⟨e1,e2,e4,e5,e6,e7,e8,e9,e10,e11,e12,e106,e108⟩ := he
            obtain ⟨y', n0, c', o1, o2, o3, o4, o5, e8, e9, e108⟩ : ∃ (y' : Note) (n0 : Int) (c' : X), okNote y' ∧ y'.hour = h ∧ (y'.lo ≤ n0 ∧ n0 ≤ y'.hi) ∧ does y'.kind cur n0 = (c', true) ∧ ((0 ≤ c'.1 ∧ c'.1 ≤ 400) ∧ (0 ≤ c'.2 ∧ c'.2 ≤ 9 * (a.length + 1 : Int))) ∧ e 8 = .int c'.1 ∧ e 9 = .int c'.2 ∧ e 108 = .lst [.agg [.int y'.kind, .int y'.hour, .int y'.lo, .int y'.hi]] .exact := by
              refine ⟨y, m, (cur.1, 0), hy, hyh, hm, ?_, by simp only; omega, e8, e9, e108⟩
              simp only [k, does]
              simp
          case' inr.inr.inr.inr.inl =>
            have k0 : (y.kind == 0) = false := by simp [k]
            have k1 : (y.kind == 1) = false := by simp [k]
            have k2 : (y.kind == 2) = false := by simp [k]
            have k3 : (y.kind == 3) = true := by simp [k]
            have hw : w64 (cur.1 - m) = cur.1 - m := w64_id (by omega)
            have hmx : (if cur.1 - m > 0 then cur.1 - m else 0) = max 0 (cur.1 - m) := by split <;> omega
            repeat first|refine Wr ?_|refine Wb ?_|refine Wc ?_|refine Wd ?_|refine We ?_|refine Wf ?_|refine Wg ?_|refine Wh ?_|refine Wi ?_|refine Wj (by decide) ?_|refine Wa ?_|refine Wk ?_|refine Wl ?_|refine Wm ?_|refine Wn ?_|refine Wo ?_|refine Wp ?_|refine Wq ?_|refine Ww (by simp only[go_sem,k0,k1,k2,k3,hw,hmx,e1,e2,e4,e5,e6,e7,e8,e9,e10,e11,e12,e59];done) ?_|((first|refine Ws ?_|refine Wt ?_|refine Wu ?_|refine Wv (by simp only[go_sem,k0,k1,k2,k3,hw,hmx,e1,e2,e4,e5,e6,e7,e8,e9,e10,e11,e12,e59];done) ?_);conv=>arg 2;simp only[go_sem,k0,k1,k2,k3,hw,hmx,e1,e2,e4,e5,e6,e7,e8,e9,e10,e11,e12,e59])
            first|refine w_trimI [1,2,4,5,6,7,8,9,10,11,12,106,108] fun e he => ?_|refine w_trimR [1,2,4,5,6,7,8,9,10,11,12,106,108] fun e he => ?_|refine w_trimS [1,2,4,5,6,7,8,9,10,11,12,106,108] fun e he => ?_
            simp only[w_map1,w_map0,List.cons.injEq,go_sem,hw, hmx, e1, e2, e4, e5, e6, e7, e8, e9, e10, e11, e12] at he
            obtain ⟨e1,e2,e4,e5,e6,e7,e8,e9,e10,e11,e12,e106,e108⟩ := he
            clear hw
            obtain ⟨y', n0, c', o1, o2, o3, o4, o5, e8, e9, e108⟩ : ∃ (y' : Note) (n0 : Int) (c' : X), okNote y' ∧ y'.hour = h ∧ (y'.lo ≤ n0 ∧ n0 ≤ y'.hi) ∧ does y'.kind cur n0 = (c', true) ∧ ((0 ≤ c'.1 ∧ c'.1 ≤ 400) ∧ (0 ≤ c'.2 ∧ c'.2 ≤ 9 * (a.length + 1 : Int))) ∧ e 8 = .int c'.1 ∧ e 9 = .int c'.2 ∧ e 108 = .lst [.agg [.int y'.kind, .int y'.hour, .int y'.lo, .int y'.hi]] .exact := by
              refine ⟨y, m, (max 0 (cur.1 - m), cur.2), hy, hyh, hm, ?_, by simp only; omega, e8, e9, e108⟩
              simp only [k, does]
              simp
          case' inr.inr.inr.inr.inr =>
            have k0 : (y.kind == 0) = false := by simp [k]
            have k1 : (y.kind == 1) = false := by simp [k]
            have k2 : (y.kind == 2) = false := by simp [k]
            have k3 : (y.kind == 3) = false := by simp [k]
            have h20 : ¬ (2 : Int) = 0 := by decide
            obtain ⟨wd, hwd⟩ : ∃ wd, (y.hi - y.lo).tdiv 2 = wd := ⟨_, rfl⟩
            have hwd2 : 0 ≤ wd ∧ wd ≤ 6 := by rw [Int.tdiv_eq_ediv_of_nonneg (by omega)] at hwd; omega
            have hw : w64 (y.hi - y.lo) = y.hi - y.lo := w64_id (by omega)
            have hw2 : w64 wd = wd := w64_id (by omega)
            have hw3 : w64 (cur.1 - wd) = cur.1 - wd := w64_id (by omega)
            have hw4 : w64 (cur.1 + wd) = cur.1 + wd := w64_id (by omega)
            have hmx : (if cur.1 - wd > 0 then cur.1 - wd else 0) = max 0 (cur.1 - wd) := by clear hw hw2 hw3 hw4; split <;> omega
            have hmn : (if cur.1 + wd < 400 then cur.1 + wd else 400) = min 400 (cur.1 + wd) := by clear hw hw2 hw3 hw4; split <;> omega
            repeat first|refine Wr ?_|refine Wb ?_|refine Wc ?_|refine Wd ?_|refine We ?_|refine Wf ?_|refine Wg ?_|refine Wh ?_|refine Wi ?_|refine Wj (by decide) ?_|refine Wa ?_|refine Wk ?_|refine Wl ?_|refine Wm ?_|refine Wn ?_|refine Wo ?_|refine Wp ?_|refine Wq ?_|refine Ww (by simp only[go_sem,k0,k1,k2,k3,h20,hw,hwd,hw2,hw3,hw4,hmx,hmn,e1,e2,e4,e5,e6,e7,e8,e9,e10,e11,e12,e59];done) ?_|((first|refine Ws ?_|refine Wt ?_|refine Wu ?_|refine Wv (by simp only[go_sem,k0,k1,k2,k3,h20,hw,hwd,hw2,hw3,hw4,hmx,hmn,e1,e2,e4,e5,e6,e7,e8,e9,e10,e11,e12,e59];done) ?_);conv=>arg 2;simp only[go_sem,k0,k1,k2,k3,h20,hw,hwd,hw2,hw3,hw4,hmx,hmn,e1,e2,e4,e5,e6,e7,e8,e9,e10,e11,e12,e59])|(refine Wx (by simp only[go_sem,k0,k1,k2,k3,h20,hw,hwd,hw2,hw3,hw4,hmx,hmn,e1,e2,e4,e5,e6,e7,e8,e9,e10,e11,e12,e59];rfl) (by simp only[go_sem,k0,k1,k2,k3,h20,hw,hwd,hw2,hw3,hw4,hmx,hmn,e1,e2,e4,e5,e6,e7,e8,e9,e10,e11,e12,e59];rfl) ?_;refine c68 _ _ ?_)
            first|refine w_trimI [1,2,4,5,6,7,8,9,10,11,12,106,108] fun e he => ?_|refine w_trimR [1,2,4,5,6,7,8,9,10,11,12,106,108] fun e he => ?_|refine w_trimS [1,2,4,5,6,7,8,9,10,11,12,106,108] fun e he => ?_
            simp only[w_map1,w_map0,List.cons.injEq,go_sem,e1, e2, e4, e5, e6, e7, e8, e9, e10, e11, e12] at he
            obtain ⟨e1,e2,e4,e5,e6,e7,e8,e9,e10,e11,e12,e106,e108⟩ := he
            clear hw hw2 hw3 hw4
            obtain ⟨y', n0, c', o1, o2, o3, o4, o5, e8, e9, e108⟩ : ∃ (y' : Note) (n0 : Int) (c' : X), okNote y' ∧ y'.hour = h ∧ (y'.lo ≤ n0 ∧ n0 ≤ y'.hi) ∧ does y'.kind cur n0 = (c', true) ∧ ((0 ≤ c'.1 ∧ c'.1 ≤ 400) ∧ (0 ≤ c'.2 ∧ c'.2 ≤ 9 * (a.length + 1 : Int))) ∧ e 8 = .int c'.1 ∧ e 9 = .int c'.2 ∧ e 108 = .lst [.agg [.int y'.kind, .int y'.hour, .int y'.lo, .int y'.hi]] .exact := by
              refine ⟨⟨y.kind, y.hour, max 0 (cur.1 - wd), min 400 (cur.1 + wd)⟩, cur.1, cur, ⟨hk, hy.2.1, ?_⟩, hyh, by simp only; omega, ?_, by omega, e8, e9, e108⟩
              · unfold okSpan most
                simp only [k]
                simp
                omega
              · simp only [k, does]
                simp
          all_goals
            refine w_append1 (xs := notesV a) (y := .agg [.int y'.kind, .int y'.hour, .int y'.lo, .int y'.hi]) (c := c1) rfl (by simp only [go_sem, e106]) (by simp only [go_sem, e108] <;> rfl) hmmax (hd_notes _) rfl rfl (by rw [notesV_length]; exact ht.g1.room) fun c1' s4 g => ?_
            rw [notesV_length] at g
            have hw1 : w64 ((p.length : Int) + 1) = ((p.length + 1 : Nat) : Int) := by rw [w64_id (by omega)]; simp
            repeat first|refine Wr ?_|refine Wb ?_|refine Wc ?_|refine Wd ?_|refine We ?_|refine Wf ?_|refine Wg ?_|refine Wh ?_|refine Wi ?_|refine Wj (by decide) ?_|refine Wa ?_|refine Wk ?_|refine Wl ?_|refine Wm ?_|refine Wn ?_|refine Wo ?_|refine Wp ?_|refine Wq ?_|refine Ww (by simp only[go_sem,hw1,e1,e2,e4,e5,e6,e7,e8,e9,e10,e11];done) ?_|((first|refine Ws ?_|refine Wt ?_|refine Wu ?_|refine Wv (by simp only[go_sem,hw1,e1,e2,e4,e5,e6,e7,e8,e9,e10,e11];done) ?_);conv=>arg 2;simp only[go_sem,hw1,e1,e2,e4,e5,e6,e7,e8,e9,e10,e11])
            refine ⟨_, hrr, p ++ [y], r', a ++ [y'], c', c1', rfl, by rw [hpr]; simp, by simp [hap], ?_, ?_, ?_, ?_, ?_, ?_, ?_, ?_, ?_, ?_, hl.note o1 o2 o3 o4 o5, by simpa using ht.one g⟩
            any_goals (simp only [go_sem, e1, e2, e4, e5, e6, e7, e8, e9, e10, e11, hw1, List.length_append, List.length_singleton]; done)
            simp only [go_sem, notesV_append]; rfl
        rcases hx with q1 | ⟨y, q1, q2, q3⟩
        case' inl =>
          repeat first|refine Wr ?_|refine Wb ?_|refine Wc ?_|refine Wd ?_|refine We ?_|refine Wf ?_|refine Wg ?_|refine Wh ?_|refine Wi ?_|refine Wj (by decide) ?_|refine Wa ?_|refine Wk ?_|refine Wl ?_|refine Wm ?_|refine Wn ?_|refine Wo ?_|refine Wp ?_|refine Wq ?_|refine Ww (by simp only[go_sem,q1,notesV_length,e1,e2,e4,e5,e6,e7,e8,e9,e10,e11];done) ?_|((first|refine Ws ?_|refine Wt ?_|refine Wu ?_|refine Wv (by simp only[go_sem,q1,notesV_length,e1,e2,e4,e5,e6,e7,e8,e9,e10,e11];done) ?_);conv=>arg 2;simp only[go_sem,q1,notesV_length,e1,e2,e4,e5,e6,e7,e8,e9,e10,e11])
          first|refine w_trimI [1,2,4,5,6,7,8,9,10,11,114,116] fun e he => ?_|refine w_trimR [1,2,4,5,6,7,8,9,10,11,114,116] fun e he => ?_|refine w_trimS [1,2,4,5,6,7,8,9,10,11,114,116] fun e he => ?_
          simp only[w_map1,w_map0,List.cons.injEq,go_sem,e1, e2, e4, e5, e6, e7, e8, e9, e10, e11] at he
          obtain ⟨e1,e2,e4,e5,e6,e7,e8,e9,e10,e11,e114,e116⟩ := he
        case' inr =>
          repeat first|refine Wr ?_|refine Wb ?_|refine Wc ?_|refine Wd ?_|refine We ?_|refine Wf ?_|refine Wg ?_|refine Wh ?_|refine Wi ?_|refine Wj (by decide) ?_|refine Wa ?_|refine Wk ?_|refine Wl ?_|refine Wm ?_|refine Wn ?_|refine Wo ?_|refine Wp ?_|refine Wq ?_|refine Ww (by simp only[go_sem,q1,q2,q3,hpp,notesV_length,e1,e2,e4,e5,e6,e7,e8,e9,e10,e11];done) ?_|((first|refine Ws ?_|refine Wt ?_|refine Wu ?_|refine Wv (by simp only[go_sem,q1,q2,q3,hpp,notesV_length,e1,e2,e4,e5,e6,e7,e8,e9,e10,e11];done) ?_);conv=>arg 2;simp only[go_sem,q1,q2,q3,hpp,notesV_length,e1,e2,e4,e5,e6,e7,e8,e9,e10,e11])
          first|refine w_trimI [1,2,4,5,6,7,8,9,10,11,114,116] fun e he => ?_|refine w_trimR [1,2,4,5,6,7,8,9,10,11,114,116] fun e he => ?_|refine w_trimS [1,2,4,5,6,7,8,9,10,11,114,116] fun e he => ?_
          simp only[w_map1,w_map0,List.cons.injEq,go_sem,e1, e2, e4, e5, e6, e7, e8, e9, e10, e11] at he
          obtain ⟨e1,e2,e4,e5,e6,e7,e8,e9,e10,e11,e114,e116⟩ := he
        all_goals
          have hm2 : (intsV hs).length + 1 ≤ maxLst := by rw [intsV_length]; simp only [maxLst]; omega
          have hm3 : (intsV rs).length + 1 ≤ maxLst := by rw [intsV_length, hl.len.2]; simp only [maxLst]; omega
          have hh1 : h + 1 ≤ 61 := by omega
          have hnd : 61 - (h + 1) < n := by omega
          have hwh : w64 ((h : Int) + 1) = ((h + 1 : Nat) : Int) := by rw [w64_id (by omega)]; simp
          refine w_append1 (xs := intsV hs) (y := .int cur.1) (c := c2) rfl (by simp only [go_sem, e114]) (by simp only [go_sem, e116] <;> rfl) hm2 (hd_ints _) rfl rfl (by rw [intsV_length]; exact ht.g2.room) fun c2' s2 g => ?_
          rw [intsV_length] at g
          have ht2 := ht.two g
          repeat first|refine Wr ?_|refine Wb ?_|refine Wc ?_|refine Wd ?_|refine We ?_|refine Wf ?_|refine Wg ?_|refine Wh ?_|refine Wi ?_|refine Wj (by decide) ?_|refine Wa ?_|refine Wk ?_|refine Wl ?_|refine Wm ?_|refine Wn ?_|refine Wo ?_|refine Wp ?_|refine Wq ?_|refine Ww (by simp only[go_sem,e1,e2,e4,e5,e6,e7,e8,e9,e10,e11];done) ?_|((first|refine Ws ?_|refine Wt ?_|refine Wu ?_|refine Wv (by simp only[go_sem,e1,e2,e4,e5,e6,e7,e8,e9,e10,e11];done) ?_);conv=>arg 2;simp only[go_sem,e1,e2,e4,e5,e6,e7,e8,e9,e10,e11])
          refine w_append1 (xs := intsV rs) (y := .int cur.2) (c := c3) rfl (by simp only [go_sem, e7] <;> rfl) (by simp only [go_sem, e9] <;> rfl) hm3 (hd_ints _) rfl rfl (by rw [intsV_length]; exact ht2.g3.room) fun c3' s3 g' => ?_
          rw [intsV_length] at g'
          repeat first|refine Wr ?_|refine Wb ?_|refine Wc ?_|refine Wd ?_|refine We ?_|refine Wf ?_|refine Wg ?_|refine Wh ?_|refine Wi ?_|refine Wj (by decide) ?_|refine Wa ?_|refine Wk ?_|refine Wl ?_|refine Wm ?_|refine Wn ?_|refine Wo ?_|refine Wp ?_|refine Wq ?_|refine Ww (by simp only[go_sem,hwh,e1,e2,e4,e5,e6,e7,e8,e9,e10,e11];done) ?_|((first|refine Ws ?_|refine Wt ?_|refine Wu ?_|refine Wv (by simp only[go_sem,hwh,e1,e2,e4,e5,e6,e7,e8,e9,e10,e11];done) ?_);conv=>arg 2;simp only[go_sem,hwh,e1,e2,e4,e5,e6,e7,e8,e9,e10,e11])
          refine ⟨_, hnd, h + 1, p, r, a, cur.1, cur.2, pass cur 1, hs ++ [cur.1], rs ++ [cur.2], c1, c2', c3', rfl, hh1, hpr, hap, hsm.1, .inr ⟨Nat.succ_pos h, rfl⟩, ?_, ?_, ?_, ?_, ?_, ?_, ?_, ?_, ?_, ?_, by simp [hhs], hl.hours hhs, by simpa using ht2.three g'⟩
          any_goals (simp only [go_sem, e1, e2, e4, e5, e6, e7, e8, e9, e10, e11, hwh]; done)
          simp only [go_sem, e7, intsV_append]; rfl
    · repeat first|refine Wr ?_|refine Wb ?_|refine Wc ?_|refine Wd ?_|refine We ?_|refine Wf ?_|refine Wg ?_|refine Wh ?_|refine Wi ?_|refine Wj (by decide) ?_|refine Wa ?_|refine Wk ?_|refine Wl ?_|refine Wm ?_|refine Wn ?_|refine Wo ?_|refine Wp ?_|refine Wq ?_|refine Ww (by simp only[go_sem,hlt,e1,e2,e4,e5,e6,e7,e8,e9,e10,e11];done) ?_|((first|refine Ws ?_|refine Wt ?_|refine Wu ?_|refine Wv (by simp only[go_sem,hlt,e1,e2,e4,e5,e6,e7,e8,e9,e10,e11];done) ?_);conv=>arg 2;simp only[go_sem,hlt,e1,e2,e4,e5,e6,e7,e8,e9,e10,e11])
      first|refine w_retQ ?_|refine w_endQ ?_
      conv=>arg 1;simp only[go_sem]
      have h61 : h = 61 := by omega
      subst h61
      refine w_res ?_ (hq a hs rs cur s' hl hhs (by rw [hap]; have := congrArg List.length hpr; simp at this; omega) ht.g1.le)
      simp only [go_sem, bookV]
end Go.Hu.Sn
