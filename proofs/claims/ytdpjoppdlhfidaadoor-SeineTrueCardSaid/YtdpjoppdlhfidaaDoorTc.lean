/-
  What the functions compute, by walks through their pure code, and plain laws of it.
-/
import Derived.Test.YtdpjoppdlhfidaaDoorTb
set_option linter.unusedSimpArgs false
set_option linter.unusedVariables false
namespace Go.Hu.Sn
attribute [local irreducible] wpS wpIs wpI
attribute [local go_sem] Nat.mul_one Nat.one_mul Nat.zero_add Nat.add_zero Nat.zero_mul and_self and_true true_and decide_true decide_false Bool.false_eq_true if_true if_false Int.cast_ofNat_Int Int.zero_le_ofNat Int.le_refl Int.reduceLT Int.reduceLE Int.reduceToNat

variable {s : St} {Q : V → St → Prop}

/-- The numbers of a set, below a limit. -/
def bitsL (t n : Nat) : List Int := ((List.range n).filter fun i => t.testBit i).map Int.ofNat
theorem bitsL_succ (t n : Nat) : bitsL t (n + 1) = bitsL t n ++ (if t.testBit n then [(n : Int)] else []) := by
  unfold bitsL
  rw [List.range_succ, List.filter_append, List.map_append]
  congr 1
  by_cases h : t.testBit n <;> simp [h]
theorem mem_bitsL {t n : Nat} {i : Nat} : (i : Int) ∈ bitsL t n ↔ i < n ∧ t.testBit i = true := by
  unfold bitsL
  simp only [List.mem_map, List.mem_filter, List.mem_range]
  constructor
  · rintro ⟨a, h, he⟩
    obtain rfl : a = i := Int.ofNat.inj he
    exact h
  · intro h
    exact ⟨i, h, rfl⟩
theorem bitsL_len (t n : Nat) : (bitsL t n).length ≤ n := by
  unfold bitsL
  rw [List.length_map]
  have := List.length_filter_le (fun i => t.testBit i) (List.range n)
  simpa using this
theorem bit_eq (t n : Nat) : ((((t : Int).fdiv (2 ^ n)).tmod 2) == 1) = t.testBit n := by
  have h1 : (2 : Int) ^ n = ((2 ^ n : Nat) : Int) := by simp
  rw [h1, Int.fdiv_eq_ediv_of_nonneg _ (Int.natCast_nonneg _), ← Int.natCast_ediv, Nat.testBit_eq_decide_div_mod_eq]
  have h2 : (((t / 2 ^ n : Nat) : Int)).tmod 2 = ((t / 2 ^ n % 2 : Nat) : Int) := by rw [Int.tmod_eq_emod_of_nonneg (Int.natCast_nonneg _)]; rfl
  rw [h2]
  by_cases h : t / 2 ^ n % 2 = 1
  · simp [h]
  · have h3 : ¬ ((t / 2 ^ n % 2 : Nat) : Int) = 1 := by omega
    simp only [h, decide_false, beq_eq_false_iff_ne, ne_eq, h3, not_false_eq_true]

theorem c101 (t n : Nat) (hn : (n : Int) < 64) (hq : Q (.bool (t.testBit n)) s) : Call prog (.fn 101 [] []) [.int t, .int n] s Q := by
  refine Call.fn F101 p101 rfl ?_
  simp only [F101]
  have h1 : 0 ≤ (n : Int) := by omega
  have h2 : ¬ (2 : Int) = 0 := by omega
  have hb := bit_eq t n
  repeat first|refine Wr ?_|refine Wb ?_|refine Wc ?_|refine Wd ?_|refine We ?_|refine Wf ?_|refine Wg ?_|refine Wh ?_|refine Wi ?_|refine Wj (by decide) ?_|refine Wa ?_|refine Wk ?_|refine Wl ?_|refine Wm ?_|refine Wn ?_|refine Wo ?_|refine Wp ?_|refine Wq ?_|refine Ww (by simp only[go_sem,h1,hn,h2,Int.toNat_natCast,hb];done) ?_|((first|refine Ws ?_|refine Wt ?_|refine Wu ?_|refine Wv (by simp only[go_sem,h1,hn,h2,Int.toNat_natCast,hb];done) ?_);conv=>arg 2;simp only[go_sem,h1,hn,h2,Int.toNat_natCast,hb])
  first|refine w_retQ ?_|refine w_endQ ?_
  conv=>arg 1;simp only[go_sem]
  exact w_res (by simp only [go_sem]) hq

theorem c72 (t n : Nat) (hn : n ≤ 60) (hq : ∀ s', s ≤ s' → Q (.lst (intsV (bitsL t n)) .any) s') : Call prog (.fn 72 [] []) [.int t, .int n] s Q := by
  refine Call.fn F72 p72 rfl ?_
  simp only [F72]
  repeat first|refine Wr ?_|refine Wb ?_|refine Wc ?_|refine Wd ?_|refine We ?_|refine Wf ?_|refine Wg ?_|refine Wh ?_|refine Wi ?_|refine Wj (by decide) ?_|refine Wa ?_|refine Wk ?_|refine Wl ?_|refine Wm ?_|refine Wn ?_|refine Wo ?_|refine Wp ?_|refine Wq ?_|refine Ww (by simp only[go_sem];done) ?_|((first|refine Ws ?_|refine Wt ?_|refine Wu ?_|refine Wv (by simp only[go_sem];done) ?_);conv=>arg 2;simp only[go_sem])
  refine w_iter (fun m e s' => ∃ (k : Nat) (c : Cap), m = n - k ∧ k ≤ n ∧ e 0 = .int t ∧ e 1 = .int n ∧ e 5 = .lst (intsV (bitsL t k)) c ∧ e 6 = .int k ∧ Gro s s' c (bitsL t k).length) n ?_ ?_
  · refine ⟨0, .exact, by simp, by omega, ?_, ?_, ?_, ?_, Gro.start⟩
    any_goals (simp only [go_sem, Int.natCast_zero]; done)
    simp only [go_sem]; rfl
  · rintro m e s' ⟨k, c, hm, hk, e0, e1, e5, e6, hg⟩
    by_cases hlt : (k : Int) < (n : Int)
    · have hw : w64 ((k : Int) + 1) = ((k + 1 : Nat) : Int) := w64_succ (by omega) rfl
      have hk64 : (k : Int) < 64 := by omega
      have hsucc := bitsL_succ t k
      have hbl := bitsL_len t k
      cases hb : t.testBit k with
      | true =>
        rw [hb, if_pos rfl] at hsucc
        have hmax : (intsV (bitsL t k)).length + 1 ≤ maxLst := by rw [intsV_length]; simp only [maxLst]; omega
        repeat first|refine Wr ?_|refine Wb ?_|refine Wc ?_|refine Wd ?_|refine We ?_|refine Wf ?_|refine Wg ?_|refine Wh ?_|refine Wi ?_|refine Wj (by decide) ?_|refine Wa ?_|refine Wk ?_|refine Wl ?_|refine Wm ?_|refine Wn ?_|refine Wo ?_|refine Wp ?_|refine Wq ?_|refine Ww (by simp only[go_sem,e0,e1,e5,e6,hlt,hb];done) ?_|((first|refine Ws ?_|refine Wt ?_|refine Wu ?_|refine Wv (by simp only[go_sem,e0,e1,e5,e6,hlt,hb];done) ?_);conv=>arg 2;simp only[go_sem,e0,e1,e5,e6,hlt,hb])|(refine Wx (by simp only[go_sem,e0,e1,e5,e6,hlt,hb];rfl) (by simp only[go_sem,e0,e1,e5,e6,hlt,hb];rfl) ?_;refine c101 t k hk64 ?_)
        refine w_append1 (xs := intsV (bitsL t k)) (y := .int k) (c := c) rfl (by simp only [go_sem, e5]) (by simp only [go_sem] <;> rfl) hmax (hd_ints _) rfl rfl (by rw [intsV_length]; exact hg.room) fun c' s2 g => ?_
        rw [intsV_length] at g
        repeat first|refine Wr ?_|refine Wb ?_|refine Wc ?_|refine Wd ?_|refine We ?_|refine Wf ?_|refine Wg ?_|refine Wh ?_|refine Wi ?_|refine Wj (by decide) ?_|refine Wa ?_|refine Wk ?_|refine Wl ?_|refine Wm ?_|refine Wn ?_|refine Wo ?_|refine Wp ?_|refine Wq ?_|refine Ww (by simp only[go_sem,e0,e1,e5,e6,hw];done) ?_|((first|refine Ws ?_|refine Wt ?_|refine Wu ?_|refine Wv (by simp only[go_sem,e0,e1,e5,e6,hw];done) ?_);conv=>arg 2;simp only[go_sem,e0,e1,e5,e6,hw])
        refine ⟨_, ?_, k + 1, c', rfl, by omega, ?_, ?_, ?_, ?_, by rw [hsucc]; simpa using hg.step g⟩
        any_goals (simp only [go_sem, e0, e1, e5, e6, hw]; done)
        · omega
        · rw [hsucc, intsV_append]; simp only [go_sem]; rfl
      | false =>
        rw [hb, if_neg (by simp), List.append_nil] at hsucc
        repeat first|refine Wr ?_|refine Wb ?_|refine Wc ?_|refine Wd ?_|refine We ?_|refine Wf ?_|refine Wg ?_|refine Wh ?_|refine Wi ?_|refine Wj (by decide) ?_|refine Wa ?_|refine Wk ?_|refine Wl ?_|refine Wm ?_|refine Wn ?_|refine Wo ?_|refine Wp ?_|refine Wq ?_|refine Ww (by simp only[go_sem,e0,e1,e5,e6,hlt,hb,hw];done) ?_|((first|refine Ws ?_|refine Wt ?_|refine Wu ?_|refine Wv (by simp only[go_sem,e0,e1,e5,e6,hlt,hb,hw];done) ?_);conv=>arg 2;simp only[go_sem,e0,e1,e5,e6,hlt,hb,hw])|(refine Wx (by simp only[go_sem,e0,e1,e5,e6,hlt,hb,hw];rfl) (by simp only[go_sem,e0,e1,e5,e6,hlt,hb,hw];rfl) ?_;refine c101 t k hk64 ?_)
        refine ⟨_, ?_, k + 1, c, rfl, by omega, ?_, ?_, ?_, ?_, by rw [hsucc]; exact hg⟩
        any_goals (simp only [go_sem, e0, e1, e5, e6, hw, hsucc]; done)
        omega
    · repeat first|refine Wr ?_|refine Wb ?_|refine Wc ?_|refine Wd ?_|refine We ?_|refine Wf ?_|refine Wg ?_|refine Wh ?_|refine Wi ?_|refine Wj (by decide) ?_|refine Wa ?_|refine Wk ?_|refine Wl ?_|refine Wm ?_|refine Wn ?_|refine Wo ?_|refine Wp ?_|refine Wq ?_|refine Ww (by simp only[go_sem,e0,e1,e5,e6,hlt];done) ?_|((first|refine Ws ?_|refine Wt ?_|refine Wu ?_|refine Wv (by simp only[go_sem,e0,e1,e5,e6,hlt];done) ?_);conv=>arg 2;simp only[go_sem,e0,e1,e5,e6,hlt])
      first|refine w_retQ ?_|refine w_endQ ?_
      conv=>arg 1;simp only[go_sem]
      have : k = n := by omega
      subst this
      exact w_res (by simp only [go_sem]) (hq s' hg.le)

/-- Is a list less than another one, by the first element in which they differ? -/
def soonB : List Int → List Int → Bool
  | [], [] => false
  | [], _ :: _ => true
  | _ :: _, [] => false
  | a :: l, b :: m => if a = b then soonB l m else decide (a < b)
def fewB (l m : List Int) : Bool := decide (l.length < m.length) || (decide (l.length = m.length) && soonB l m)
theorem soonB_append : ∀ (a l m : List Int), soonB (a ++ l) (a ++ m) = soonB l m
  | [], _, _ => rfl
  | x :: a, l, m => by simp only [List.cons_append, soonB, if_true, soonB_append a l m]
theorem soonB_trans : ∀ {a b c : List Int}, soonB a b = true → soonB b c = true → soonB a c = true
  | [], [], _, h, _ => by simp [soonB] at h
  | [], _ :: _, [], _, h => by simp [soonB] at h
  | [], _ :: _, _ :: _, _, _ => rfl
  | _ :: _, [], _, h, _ => by simp [soonB] at h
  | _ :: _, _ :: _, [], _, h => by simp [soonB] at h
  | x :: a, y :: b, z :: c, h, h' => by
    simp only [soonB] at h h' ⊢
    by_cases h1 : x = y
    · subst h1
      by_cases h2 : x = z
      · subst h2
        rw [if_pos rfl] at h h' ⊢
        exact soonB_trans h h'
      · rw [if_neg h2] at h' ⊢
        exact h'
    · rw [if_neg h1] at h
      have h3 := of_decide_eq_true h
      by_cases h2 : y = z
      · subst h2
        rw [if_neg h1]
        exact h
      · rw [if_neg h2] at h'
        have h4 := of_decide_eq_true h'
        rw [if_neg (by omega)]
        exact decide_eq_true (by omega)
theorem soonB_irrefl : ∀ a : List Int, soonB a a = false
  | [] => rfl
  | x :: a => by simp only [soonB, if_true, soonB_irrefl a]
theorem fewB_irrefl (a : List Int) : fewB a a = false := by simp [fewB, soonB_irrefl]
theorem fewB_trans {a b c : List Int} (h : fewB a b = true) (h' : fewB b c = true) : fewB a c = true := by
  simp only [fewB, Bool.or_eq_true, Bool.and_eq_true, decide_eq_true_eq] at h h' ⊢
  rcases h with h | ⟨h1, h2⟩ <;> rcases h' with h' | ⟨h3, h4⟩
  · exact .inl (by omega)
  · exact .inl (by omega)
  · exact .inl (by omega)
  · exact .inr ⟨by omega, soonB_trans h2 h4⟩

theorem c180 (l m : List Int) (hl : l.length ≤ 1000) (hm : m.length ≤ 1000) (hq : Q (.bool (soonB l m)) s) : Call prog (.fn 180 [] []) [.lst (intsV l) .any, .lst (intsV m) .any] s Q := by
  refine Call.fn F180 p180 rfl ?_
  simp only [F180]
  repeat first|refine Wr ?_|refine Wb ?_|refine Wc ?_|refine Wd ?_|refine We ?_|refine Wf ?_|refine Wg ?_|refine Wh ?_|refine Wi ?_|refine Wj (by decide) ?_|refine Wa ?_|refine Wk ?_|refine Wl ?_|refine Wm ?_|refine Wn ?_|refine Wo ?_|refine Wp ?_|refine Wq ?_|refine Ww (by simp only[go_sem];done) ?_|((first|refine Ws ?_|refine Wt ?_|refine Wu ?_|refine Wv (by simp only[go_sem];done) ?_);conv=>arg 2;simp only[go_sem])
  refine w_iter (fun n e s' => ∃ (a l' m' : List Int), l = a ++ l' ∧ m = a ++ m' ∧ l'.length = n ∧ e 0 = .lst (intsV l) .any ∧ e 1 = .lst (intsV m) .any ∧ e 5 = .int a.length ∧ s' = s) l.length ?_ ?_
  · refine ⟨[], l, m, rfl, rfl, rfl, ?_, ?_, ?_, rfl⟩
    any_goals (simp only [go_sem, List.length_nil, Int.natCast_zero]; done)
  · rintro n e s' ⟨a, l', m', hla, hma, hn, e0, e1, e5, rfl⟩
    have hso : soonB l m = soonB l' m' := by rw [hla, hma, soonB_append]
    rw [hso] at hq
    have hp := len_nonneg a
    cases l' with
    | nil =>
      have h1 : ¬ ((a.length : Int) < (l.length : Int)) := by rw [hla]; simp
      have h2 : (a.length : Int) = (l.length : Int) := by rw [hla]; simp
      cases m' with
      | nil =>
        have h3 : ¬ ((a.length : Int) < (m.length : Int)) := by rw [hma]; simp
        repeat first|refine Wr ?_|refine Wb ?_|refine Wc ?_|refine Wd ?_|refine We ?_|refine Wf ?_|refine Wg ?_|refine Wh ?_|refine Wi ?_|refine Wj (by decide) ?_|refine Wa ?_|refine Wk ?_|refine Wl ?_|refine Wm ?_|refine Wn ?_|refine Wo ?_|refine Wp ?_|refine Wq ?_|refine Ww (by simp only[go_sem,e0,e1,e5,intsV_length,h1,h3];done) ?_|((first|refine Ws ?_|refine Wt ?_|refine Wu ?_|refine Wv (by simp only[go_sem,e0,e1,e5,intsV_length,h1,h3];done) ?_);conv=>arg 2;simp only[go_sem,e0,e1,e5,intsV_length,h1,h3])
        first|refine w_retQ ?_|refine w_endQ ?_
        conv=>arg 1;simp only[go_sem]
        exact w_res (by simp only [go_sem, soonB]) hq
      | cons y m' =>
        have h3 : ((a.length : Int) < (m.length : Int)) := by rw [hma]; simp; omega
        have h4 : ((a.length : Int) == (l.length : Int)) = true := by simpa using h2
        repeat first|refine Wr ?_|refine Wb ?_|refine Wc ?_|refine Wd ?_|refine We ?_|refine Wf ?_|refine Wg ?_|refine Wh ?_|refine Wi ?_|refine Wj (by decide) ?_|refine Wa ?_|refine Wk ?_|refine Wl ?_|refine Wm ?_|refine Wn ?_|refine Wo ?_|refine Wp ?_|refine Wq ?_|refine Ww (by simp only[go_sem,e0,e1,e5,intsV_length,h1,h3,h4];done) ?_|((first|refine Ws ?_|refine Wt ?_|refine Wu ?_|refine Wv (by simp only[go_sem,e0,e1,e5,intsV_length,h1,h3,h4];done) ?_);conv=>arg 2;simp only[go_sem,e0,e1,e5,intsV_length,h1,h3,h4])
        first|refine w_retQ ?_|refine w_endQ ?_
        conv=>arg 1;simp only[go_sem]
        exact w_res (by simp only [go_sem, soonB]) hq
    | cons x l' =>
      have h1 : ((a.length : Int) < (l.length : Int)) := by rw [hla]; simp; omega
      have hx : (intsV l)[((a.length : Int)).toNat]? = some (.int x) := by rw [hla]; exact intsV_at
      cases m' with
      | nil =>
        have h3 : ¬ ((a.length : Int) < (m.length : Int)) := by rw [hma]; simp
        repeat first|refine Wr ?_|refine Wb ?_|refine Wc ?_|refine Wd ?_|refine We ?_|refine Wf ?_|refine Wg ?_|refine Wh ?_|refine Wi ?_|refine Wj (by decide) ?_|refine Wa ?_|refine Wk ?_|refine Wl ?_|refine Wm ?_|refine Wn ?_|refine Wo ?_|refine Wp ?_|refine Wq ?_|refine Ww (by simp only[go_sem,e0,e1,e5,intsV_length,h1,h3];done) ?_|((first|refine Ws ?_|refine Wt ?_|refine Wu ?_|refine Wv (by simp only[go_sem,e0,e1,e5,intsV_length,h1,h3];done) ?_);conv=>arg 2;simp only[go_sem,e0,e1,e5,intsV_length,h1,h3])
        first|refine w_retQ ?_|refine w_endQ ?_
        conv=>arg 1;simp only[go_sem]
        exact w_res (by simp only [go_sem, soonB]) hq
      | cons y m' =>
        have h3 : ((a.length : Int) < (m.length : Int)) := by rw [hma]; simp; omega
        have hy : (intsV m)[((a.length : Int)).toNat]? = some (.int y) := by rw [hma]; exact intsV_at
        have h4 : ((a.length : Int) == (l.length : Int)) = false := by simp; omega
        have hal : a.length + 1 ≤ l.length := by omega
        by_cases hxy : x = y
        · subst hxy
          have h5 : (x == x) = true := by simp
          have hw : w64 ((a.length : Int) + 1) = (a ++ [x]).length := by rw [w64_id (by omega)]; simp
          repeat first|refine Wr ?_|refine Wb ?_|refine Wc ?_|refine Wd ?_|refine We ?_|refine Wf ?_|refine Wg ?_|refine Wh ?_|refine Wi ?_|refine Wj (by decide) ?_|refine Wa ?_|refine Wk ?_|refine Wl ?_|refine Wm ?_|refine Wn ?_|refine Wo ?_|refine Wp ?_|refine Wq ?_|refine Ww (by simp only[go_sem,e0,e1,e5,intsV_length,h1,h3,hx,hy,hp,h5,hw];done) ?_|((first|refine Ws ?_|refine Wt ?_|refine Wu ?_|refine Wv (by simp only[go_sem,e0,e1,e5,intsV_length,h1,h3,hx,hy,hp,h5,hw];done) ?_);conv=>arg 2;simp only[go_sem,e0,e1,e5,intsV_length,h1,h3,hx,hy,hp,h5,hw])
          refine ⟨l'.length, by simp at hn; omega, a ++ [x], l', m', by rw [hla]; simp, by rw [hma]; simp, rfl, ?_, ?_, ?_, rfl⟩
          any_goals (simp only [go_sem, e0, e1, e5, hw]; done)
        · have h5 : (x == y) = false := by simpa using hxy
          repeat first|refine Wr ?_|refine Wb ?_|refine Wc ?_|refine Wd ?_|refine We ?_|refine Wf ?_|refine Wg ?_|refine Wh ?_|refine Wi ?_|refine Wj (by decide) ?_|refine Wa ?_|refine Wk ?_|refine Wl ?_|refine Wm ?_|refine Wn ?_|refine Wo ?_|refine Wp ?_|refine Wq ?_|refine Ww (by simp only[go_sem,e0,e1,e5,intsV_length,h1,h3,hx,hy,hp,h5,h4];done) ?_|((first|refine Ws ?_|refine Wt ?_|refine Wu ?_|refine Wv (by simp only[go_sem,e0,e1,e5,intsV_length,h1,h3,hx,hy,hp,h5,h4];done) ?_);conv=>arg 2;simp only[go_sem,e0,e1,e5,intsV_length,h1,h3,hx,hy,hp,h5,h4])
          first|refine w_retQ ?_|refine w_endQ ?_
          conv=>arg 1;simp only[go_sem]
          simp only [soonB, if_neg hxy] at hq
          exact w_res (by simp only [go_sem]) hq

theorem c73 (l m : List Int) (hl : l.length ≤ 1000) (hm : m.length ≤ 1000) (hq : Q (.bool (fewB l m)) s) : Call prog (.fn 73 [] []) [.lst (intsV l) .any, .lst (intsV m) .any] s Q := by
  refine Call.fn F73 p73 rfl ?_
  simp only [F73]
  by_cases h1 : (l.length : Int) < (m.length : Int)
  · repeat first|refine Wr ?_|refine Wb ?_|refine Wc ?_|refine Wd ?_|refine We ?_|refine Wf ?_|refine Wg ?_|refine Wh ?_|refine Wi ?_|refine Wj (by decide) ?_|refine Wa ?_|refine Wk ?_|refine Wl ?_|refine Wm ?_|refine Wn ?_|refine Wo ?_|refine Wp ?_|refine Wq ?_|refine Ww (by simp only[go_sem,intsV_length,h1];done) ?_|((first|refine Ws ?_|refine Wt ?_|refine Wu ?_|refine Wv (by simp only[go_sem,intsV_length,h1];done) ?_);conv=>arg 2;simp only[go_sem,intsV_length,h1])
    first|refine w_retQ ?_|refine w_endQ ?_
    conv=>arg 1;simp only[go_sem]
    have : fewB l m = true := by simp only [fewB, Bool.or_eq_true, decide_eq_true_eq]; exact .inl (by omega)
    rw [this] at hq
    exact w_res (by simp only [go_sem]) hq
  · by_cases h2 : l.length = m.length
    · have h3 : ((l.length : Int) == (m.length : Int)) = true := by simp; omega
      repeat first|refine Wr ?_|refine Wb ?_|refine Wc ?_|refine Wd ?_|refine We ?_|refine Wf ?_|refine Wg ?_|refine Wh ?_|refine Wi ?_|refine Wj (by decide) ?_|refine Wa ?_|refine Wk ?_|refine Wl ?_|refine Wm ?_|refine Wn ?_|refine Wo ?_|refine Wp ?_|refine Wq ?_|refine Ww (by simp only[go_sem,intsV_length,h1,h3];done) ?_|((first|refine Ws ?_|refine Wt ?_|refine Wu ?_|refine Wv (by simp only[go_sem,intsV_length,h1,h3];done) ?_);conv=>arg 2;simp only[go_sem,intsV_length,h1,h3])|(refine Wx (by simp only[go_sem,intsV_length,h1,h3];rfl) (by simp only[go_sem,intsV_length,h1,h3];rfl) ?_;refine c180 l m hl hm ?_)
      first|refine w_retQ ?_|refine w_endQ ?_
      conv=>arg 1;simp only[go_sem]
      have : fewB l m = soonB l m := by
        simp only [fewB, h2, Nat.lt_irrefl, decide_false, decide_true, Bool.false_or, Bool.true_and]
      rw [this] at hq
      exact w_res (by simp only [go_sem]) hq
    · have h3 : ((l.length : Int) == (m.length : Int)) = false := by simp; omega
      repeat first|refine Wr ?_|refine Wb ?_|refine Wc ?_|refine Wd ?_|refine We ?_|refine Wf ?_|refine Wg ?_|refine Wh ?_|refine Wi ?_|refine Wj (by decide) ?_|refine Wa ?_|refine Wk ?_|refine Wl ?_|refine Wm ?_|refine Wn ?_|refine Wo ?_|refine Wp ?_|refine Wq ?_|refine Ww (by simp only[go_sem,intsV_length,h1,h3];done) ?_|((first|refine Ws ?_|refine Wt ?_|refine Wu ?_|refine Wv (by simp only[go_sem,intsV_length,h1,h3];done) ?_);conv=>arg 2;simp only[go_sem,intsV_length,h1,h3])
      first|refine w_retQ ?_|refine w_endQ ?_
      conv=>arg 1;simp only[go_sem]
      have : fewB l m = false := by
        have h4 : ¬ l.length < m.length := by omega
        simp only [fewB, h2, h4, decide_false, Bool.false_or, Bool.false_and]
      rw [this] at hq
      exact w_res (by simp only [go_sem]) hq

theorem wo_snoc (l : List Int) (a : List Note) (y : Note) : wo l 0 (a ++ [y]) = if (a.length : Int) ∈ l then wo l 0 a else wo l 0 a ++ [y] := by
  rw [wo_append]
  by_cases h : (a.length : Int) ∈ l <;> simp [wo, h]

/-- All rising lists of numbers below a limit, the fewest first, and of as many the sooner. -/
def choices (n : Nat) : List (List Int) := (List.range' 0 (n + 1)).flatMap fun m => subs n m 0
open Classical in
theorem wrongL_find (b : Book) : wrongL b = (choices b.notes.length).find? fun l => decide (can (withoutN b l)) := by
  unfold wrongL choices
  rw [List.find?_flatMap]
  congr 1
  funext m
  unfold pickL
  simp [nextOf]
def chainB : List (List Int) → Bool
  | a :: b :: l => fewB a b && chainB (b :: l)
  | _ => true
theorem chain_head : ∀ {l : List (List Int)} {a : List Int}, chainB (a :: l) = true → ∀ y ∈ l, fewB a y = true
  | [], _, _, y, hy => by simp at hy
  | b :: l, a, h, y, hy => by
    simp only [chainB, Bool.and_eq_true] at h
    rcases List.mem_cons.1 hy with rfl | hy
    · exact h.1
    · exact fewB_trans h.1 (chain_head h.2 y hy)
theorem chain_tail {l : List (List Int)} {a : List Int} (h : chainB (a :: l) = true) : chainB l = true := by
  cases l with
  | nil => rfl
  | cons b l => simp only [chainB, Bool.and_eq_true] at h; exact h.2
theorem find_first {p : List Int → Bool} : ∀ {l : List (List Int)} {x y : List Int}, chainB l = true → l.find? p = some x → y ∈ l → p y = true → x = y ∨ fewB x y = true
  | [], x, y, _, _, hy, _ => by simp at hy
  | a :: l, x, y, hc, hf, hy, hp => by
    rw [List.find?_cons] at hf
    cases ha : p a with
    | true =>
      rw [ha] at hf
      obtain rfl := Option.some.inj hf
      rcases List.mem_cons.1 hy with rfl | hy
      · exact .inl rfl
      · exact .inr (chain_head hc y hy)
    | false =>
      rw [ha] at hf
      rcases List.mem_cons.1 hy with rfl | hy
      · rw [ha] at hp; cases hp
      · exact find_first (chain_tail hc) hf hy hp
theorem chain_all : ∀ n < 9, chainB (choices n) = true := by decide +kernel
def setL (l : List Int) : Nat := l.foldl (fun t i => t + 2 ^ i.toNat) 0
theorem all_bits : ∀ n < 9, (choices n).all (fun l => decide (setL l < 2 ^ n) && decide (l = bitsL (setL l) n)) = true := by decide +kernel
theorem bits_all : ∀ n < 9, (List.range (2 ^ n)).all (fun t => (choices n).contains (bitsL t n)) = true := by decide +kernel
theorem wo_all {l : List Int} : ∀ (a : List Note) (i : Int), (∀ j, i ≤ j → j < i + a.length → j ∈ l) → wo l i a = []
  | [], _, _ => rfl
  | n :: a, i, h => by
    have h1 := h i (by omega) (by simp; omega)
    simp only [wo, if_pos h1]
    exact wo_all a (i + 1) fun j h2 h3 => h j (by omega) (by simp; omega)
def riseB (below : Int) : Int → List Int → Bool
  | _, [] => true
  | k, a :: l => decide (k ≤ a ∧ a ≤ below - 1) && riseB below (a + 1) l
theorem rise_all : ∀ n < 9, (choices n).all (fun l => riseB (n : Int) 0 l) = true := by decide +kernel
theorem nil_first (n : Nat) : ∃ r, choices n = [] :: r := by
  unfold choices
  rw [List.range'_succ, List.flatMap_cons]
  exact ⟨_, rfl⟩
theorem wo_nil : ∀ (a : List Note) (i : Int), wo [] i a = a
  | [], _ => rfl
  | n :: a, i => by simp [wo, wo_nil a (i + 1)]
theorem withoutN_nil (b : Book) : withoutN b [] = b := by
  unfold withoutN
  rw [wo_nil]
theorem full_can {b : Book} (hb : ok b) : can (withoutN b (bitsL (2 ^ b.notes.length - 1) b.notes.length)) := by
  refine can_nil hb.1 (wo_all b.notes 0 fun j h2 h3 => ?_)
  obtain ⟨i, rfl⟩ : ∃ i : Nat, j = (i : Int) := ⟨j.toNat, by omega⟩
  have hi : i < b.notes.length := by omega
  rw [mem_bitsL, Nat.testBit_two_pow_sub_one]
  exact ⟨hi, by simpa using hi⟩
open Classical in
/-- The fewest notes that must be wrong: without them the book can be true, without fewer it cannot. -/
theorem wrong_first {b : Book} (hb : ok b) : (wrongL b).getD [] ∈ choices b.notes.length ∧ can (withoutN b ((wrongL b).getD [])) ∧ ∀ t, t < 2 ^ b.notes.length → can (withoutN b (bitsL t b.notes.length)) → fewB (bitsL t b.notes.length) ((wrongL b).getD []) = false := by
  have h8 : b.notes.length < 9 := by have := hb.2.1; omega
  have hmem : ∀ t, t < 2 ^ b.notes.length → bitsL t b.notes.length ∈ choices b.notes.length := fun t ht => by
    have := List.all_eq_true.1 (bits_all _ h8) t (List.mem_range.2 ht)
    simpa using this
  have hpos : 0 < 2 ^ b.notes.length := Nat.two_pow_pos _
  rw [wrongL_find]
  cases hf : (choices b.notes.length).find? (fun l => decide (can (withoutN b l))) with
  | none =>
    have := List.find?_eq_none.1 hf _ (hmem (2 ^ b.notes.length - 1) (by omega))
    simp [full_can hb] at this
  | some x =>
    have h3 : can (withoutN b x) := by
      have := List.find?_some hf
      simpa using this
    refine ⟨List.mem_of_find?_eq_some hf, h3, fun t ht hc => ?_⟩
    show fewB (bitsL t b.notes.length) x = false
    cases hfw : fewB (bitsL t b.notes.length) x with
    | false => rfl
    | true =>
      rcases find_first (chain_all _ h8) hf (hmem t ht) (decide_eq_true hc) with h1 | h1
      · rw [h1, fewB_irrefl] at hfw
        cases hfw
      · have := fewB_trans hfw h1
        rw [fewB_irrefl] at this
        cases this
open Classical in
theorem wrong_none {b : Book} (hb : ok b) : (wrongL b).getD [] = [] ↔ can b := by
  obtain ⟨h1, h2, h3⟩ := wrong_first hb
  constructor
  · intro h
    rw [h, withoutN_nil] at h2
    exact h2
  · intro h
    rw [wrongL_find]
    obtain ⟨r, hr⟩ := nil_first b.notes.length
    rw [hr, List.find?_cons]
    have h4 : can (withoutN b []) := by rw [withoutN_nil]; exact h
    simp [h4]
/-- Breaches, mending and dogfish alone: no number is asked for. -/
theorem free_can : ∀ {ns : List Note} {S : XS} {h : Int}, okNotes h ns → (∀ n ∈ ns, n.kind ≠ 0 ∧ n.kind ≠ 4) → (∃ x, S x) → ∃ z, run S h ns z
  | [], S, h, _, _, hx => hx
  | n :: ns, S, h, hok, hk, ⟨x, hx⟩ => by
    obtain ⟨k0, k4⟩ := hk n (by simp)
    have hsp := hok.1.1.2.2
    have hk1 := hok.1.1.1
    unfold okSpan at hsp
    refine free_can (S := step S h n) hok.2 (fun m hm => hk m (by simp [hm])) ?_
    refine ⟨(does n.kind (pass x (n.hour - h)) n.lo).1, x, hx, n.lo, ⟨Int.le_refl _, hsp.2.1⟩, ?_⟩
    have : n.kind = 1 ∨ n.kind = 2 ∨ n.kind = 3 := by omega
    rcases this with e | e | e <;> rw [e] <;> rfl
/-- A book's notes of breaches, mending and dogfish. -/
def freeN (b : Book) : Book := ⟨b.lo, b.hi, b.notes.filter fun n => n.kind != 0 && n.kind != 4⟩
theorem okNotes_filter {p : Note → Bool} : ∀ {ns : List Note} {h : Int}, okNotes h ns → okNotes h (ns.filter p)
  | [], _, _ => trivial
  | n :: ns, h, hok => by
    have h1 := okNotes_filter (p := p) hok.2
    rw [List.filter_cons]
    split
    · exact ⟨hok.1, h1⟩
    · exact okNotes_later h1 fun x r e => by
        have : x ∈ ns.filter p := by rw [e]; simp
        have := (List.mem_filter.1 this).1
        have h2 : ∀ {ns : List Note} {h : Int}, okNotes h ns → ∀ m ∈ ns, h ≤ m.hour := by
          intro ns
          induction ns with
          | nil => intro h _ m hm; simp at hm
          | cons a ns ih =>
            intro h ha m hm
            rcases List.mem_cons.1 hm with rfl | hm
            · exact ha.1.2
            · exact Int.le_trans ha.1.2 (ih ha.2 m hm)
        exact Int.le_trans hok.1.2 (h2 hok.2 x this)
theorem freeN_ok {b : Book} (hb : ok b) : ok (freeN b) := ⟨hb.1, Nat.le_trans (List.length_filter_le _ _) hb.2.1, okNotes_filter hb.2.2⟩
theorem freeN_can {b : Book} (hb : ok b) : can (freeN b) := by
  refine free_can (freeN_ok hb).2.2 (fun n hn => ?_) ⟨(b.lo, 0), ⟨Int.le_refl _, ?_⟩, rfl⟩
  · have := (List.mem_filter.1 hn).2
    simpa using this
  · have := hb.1
    unfold okSpan at this
    exact this.2.1
end Go.Hu.Sn
