/-
  What the functions compute, by walks through their pure code, and plain laws of it.
-/
import Derived.Test.YtdpjoppdlhfidaaDoorNb
import Derived.Test.YtdpjoppdlhfidaaDoorNx
set_option linter.unusedSimpArgs false
set_option linter.unusedVariables false
namespace Go.Hu.Sn
attribute [local irreducible] wpS wpIs wpI
attribute [local go_sem] Nat.mul_one Nat.one_mul Nat.zero_add Nat.add_zero Nat.zero_mul and_self and_true true_and decide_true decide_false Bool.false_eq_true if_true if_false Int.cast_ofNat_Int Int.zero_le_ofNat Int.le_refl Int.reduceLT Int.reduceLE Int.reduceToNat

variable {s : St} {Q : V → St → Prop}

theorem step_congr {S T : XS} {h : Int} {n : Note} (hs : ∀ x, S x ↔ T x) (y : X) : step S h n y ↔ step T h n y := by
  unfold step
  simp only [hs]
theorem Bd.of {S T : XS} {k : Int} (h : Bd k S) (hs : ∀ x, T x ↔ S x) : Bd k T := fun x hx => h x ((hs x).1 hx)
theorem Bd.small {S : XS} {k : Int} (h : Bd k S) (hk : k ≤ 9) (x : X) (hx : S x) : Small x := by
  have := h x hx
  unfold Small
  omega

set_option maxHeartbeats 1000000 in
theorem c132 (l : List X) (h k : Int) (ns : List Note) (hd : l.Nodup) (hb : Bd k (· ∈ l)) (hk : 0 ≤ k ∧ k + ns.length ≤ 9) (hn : okNotes h ns) (hh : 0 ≤ h) (hq : ∀ l' s', l'.Nodup → (∀ y, y ∈ l' ↔ run (· ∈ l) h ns y) → s ≤ s' → Q (.tup [.lst (statesV l') .any, .int (hourOf h ns)]) s') : Call prog (.fn 132 [] []) [.lst (statesV l) .any, .int h, .lst (notesV ns) .any] s Q := by
  refine Call.fn F132 p132 rfl ?_
  simp only [F132]
  repeat first|refine Wr ?_|refine Wb ?_|refine Wc ?_|refine Wd ?_|refine We ?_|refine Wf ?_|refine Wg ?_|refine Wh ?_|refine Wi ?_|refine Wj (by decide) ?_|refine Wa ?_|refine Wk ?_|refine Wl ?_|refine Wm ?_|refine Wn ?_|refine Wo ?_|refine Wp ?_|refine Wq ?_|refine Ww (by simp only[go_sem];done) ?_|((first|refine Ws ?_|refine Wt ?_|refine Wu ?_|refine Wv (by simp only[go_sem];done) ?_);conv=>arg 2;simp only[go_sem])
  refine w_iter (fun n e s' => ∃ (a r : List Note) (cur : List X), ns = a ++ r ∧ r.length = n ∧ e 0 = .lst (statesV cur) .any ∧ e 1 = .int (hourOf h a) ∧ e 2 = .lst (notesV ns) .any ∧ e 8 = .int a.length ∧ cur.Nodup ∧ (∀ y, y ∈ cur ↔ run (· ∈ l) h a y) ∧ s ≤ s') ns.length ?_ ?_
  · refine ⟨[], ns, l, rfl, rfl, ?_, ?_, ?_, ?_, hd, fun y => Iff.rfl, St.le_refl s⟩
    any_goals (simp only [go_sem, List.length_nil, Int.natCast_zero, hourOf]; done)
  · rintro n e s' ⟨a, r, cur, har, hrn, e0, e1, e2, e8, hnd, hm, hle⟩
    cases r with
    | nil =>
      have hlt : ¬ ((a.length : Int) < (ns.length : Int)) := by rw [har]; simp
      repeat first|refine Wr ?_|refine Wb ?_|refine Wc ?_|refine Wd ?_|refine We ?_|refine Wf ?_|refine Wg ?_|refine Wh ?_|refine Wi ?_|refine Wj (by decide) ?_|refine Wa ?_|refine Wk ?_|refine Wl ?_|refine Wm ?_|refine Wn ?_|refine Wo ?_|refine Wp ?_|refine Wq ?_|refine Ww (by simp only[go_sem,e0,e1,e2,e8,notesV_length,hlt];done) ?_|((first|refine Ws ?_|refine Wt ?_|refine Wu ?_|refine Wv (by simp only[go_sem,e0,e1,e2,e8,notesV_length,hlt];done) ?_);conv=>arg 2;simp only[go_sem,e0,e1,e2,e8,notesV_length,hlt])
      first|refine w_retQ ?_|refine w_endQ ?_
      conv=>arg 1;simp only[go_sem]
      have hna : ns = a := by simpa using har
      rw [← hna] at hm
      exact w_res (by rw [← hna]; simp only [go_sem]) (hq cur s' hnd hm hle)
    | cons x r =>
      have hlt : ((a.length : Int) < (ns.length : Int)) := by rw [har]; simp; omega
      have hx : (notesV ns)[((a.length : Int)).toNat]? = some (.agg [.int x.kind, .int x.hour, .int x.lo, .int x.hi]) := by rw [har]; exact notesV_at
      have hp := len_nonneg a
      have hal : (a.length : Int) + 1 ≤ ns.length := by omega
      have hw : w64 ((a.length : Int) + 1) = (a ++ [x]).length := by rw [w64_id (by omega)]; simp
      rw [har] at hn
      obtain ⟨hn1, ⟨hn2, hn3⟩, hn4⟩ := okNotes_append.1 hn
      have hh2 := hourOf_le hn1
      have hbd := (run_bd hb hk.1 hn1).of hm
      have hlen := small_len hnd (hbd.small (by omega))
      have hk8 : 0 ≤ k + (a.length : Int) ∧ k + (a.length : Int) ≤ 8 := by omega
      have hhf : 0 ≤ hourOf h a ∧ hourOf h a ≤ x.hour := by omega
      repeat first|refine Wr ?_|refine Wb ?_|refine Wc ?_|refine Wd ?_|refine We ?_|refine Wf ?_|refine Wg ?_|refine Wh ?_|refine Wi ?_|refine Wj (by decide) ?_|refine Wa ?_|refine Wk ?_|refine Wl ?_|refine Wm ?_|refine Wn ?_|refine Wo ?_|refine Wp ?_|refine Wq ?_|refine Ww (by simp only[go_sem,e0,e1,e2,e8,notesV_length,hlt,hx,hp];done) ?_|((first|refine Ws ?_|refine Wt ?_|refine Wu ?_|refine Wv (by simp only[go_sem,e0,e1,e2,e8,notesV_length,hlt,hx,hp];done) ?_);conv=>arg 2;simp only[go_sem,e0,e1,e2,e8,notesV_length,hlt,hx,hp])|(refine Wx (by simp only[go_sem,e0,e1,e2,e8,notesV_length,hlt,hx,hp];rfl) (by simp only[go_sem,e0,e1,e2,e8,notesV_length,hlt,hx,hp];rfl) ?_;refine c211 cur (hourOf h a) (k + a.length) x hbd hk8 hlen hn2 hhf fun l2 s2 g1 g2 g3 => ?_)
      repeat first|refine Wr ?_|refine Wb ?_|refine Wc ?_|refine Wd ?_|refine We ?_|refine Wf ?_|refine Wg ?_|refine Wh ?_|refine Wi ?_|refine Wj (by decide) ?_|refine Wa ?_|refine Wk ?_|refine Wl ?_|refine Wm ?_|refine Wn ?_|refine Wo ?_|refine Wp ?_|refine Wq ?_|refine Ww (by simp only[go_sem,e0,e1,e2,e8,hw,hx,hp];done) ?_|((first|refine Ws ?_|refine Wt ?_|refine Wu ?_|refine Wv (by simp only[go_sem,e0,e1,e2,e8,hw,hx,hp];done) ?_);conv=>arg 2;simp only[go_sem,e0,e1,e2,e8,hw,hx,hp])
      refine ⟨r.length, by simp at hrn; omega, a ++ [x], r, l2, by rw [har]; simp, rfl, ?_, ?_, ?_, ?_, g1, fun y => ?_, St.le_trans hle g3⟩
      any_goals (simp only [go_sem, e0, e1, e2, e8, hw]; done)
      · simp only [go_sem, hourOf_append]; rfl
      · rw [g2, run_append]
        exact step_congr hm y

open Classical in
theorem c112 (b : Book) (hb : ok' b) (hq : ∀ s', s ≤ s' → Q (.bool (decide (can b))) s') : Call prog (.fn 112 [] []) [bookV b] s Q := by
  refine Call.fn F112 p112 rfl ?_
  simp only [F112, bookV]
  obtain ⟨hb1, hb2, hb3⟩ := hb
  have hlen : 0 ≤ (0 : Int) ∧ 0 + (b.notes.length : Int) ≤ 9 := by omega
  repeat first|refine Wr ?_|refine Wb ?_|refine Wc ?_|refine Wd ?_|refine We ?_|refine Wf ?_|refine Wg ?_|refine Wh ?_|refine Wi ?_|refine Wj (by decide) ?_|refine Wa ?_|refine Wk ?_|refine Wl ?_|refine Wm ?_|refine Wn ?_|refine Wo ?_|refine Wp ?_|refine Wq ?_|refine Ww (by simp only[go_sem];done) ?_|((first|refine Ws ?_|refine Wt ?_|refine Wu ?_|refine Wv (by simp only[go_sem];done) ?_);conv=>arg 2;simp only[go_sem])|(refine Wx (by simp only[go_sem];rfl) (by simp only[go_sem];rfl) ?_;refine c133 b hb1 fun l s1 g1 g2 g3 => ?_)
  have hbd := (begun_bd hb1).of g2
  repeat first|refine Wr ?_|refine Wb ?_|refine Wc ?_|refine Wd ?_|refine We ?_|refine Wf ?_|refine Wg ?_|refine Wh ?_|refine Wi ?_|refine Wj (by decide) ?_|refine Wa ?_|refine Wk ?_|refine Wl ?_|refine Wm ?_|refine Wn ?_|refine Wo ?_|refine Wp ?_|refine Wq ?_|refine Ww (by simp only[go_sem];done) ?_|((first|refine Ws ?_|refine Wt ?_|refine Wu ?_|refine Wv (by simp only[go_sem];done) ?_);conv=>arg 2;simp only[go_sem])|(refine Wx (by simp only[go_sem];rfl) (by simp only[go_sem];rfl) ?_;refine c132 l 0 0 b.notes g1 hbd hlen hb3 (Int.le_refl 0) fun l2 s2 g4 g5 g6 => ?_)
  have hl : ((l2.length : Int) > 0) = can b := by
    have h1 : (∃ x, x ∈ l2) ↔ can b := by
      unfold can
      simp only [g5]
      exact exists_congr fun x => run_congr b.notes 0 g2 x
    refine propext ⟨fun h => h1.1 ?_, fun h => ?_⟩
    · cases l2 with
      | nil => simp at h
      | cons x l2 => exact ⟨x, by simp⟩
    · obtain ⟨x, hx⟩ := h1.2 h
      have := List.length_pos_of_mem hx
      omega
  repeat first|refine Wr ?_|refine Wb ?_|refine Wc ?_|refine Wd ?_|refine We ?_|refine Wf ?_|refine Wg ?_|refine Wh ?_|refine Wi ?_|refine Wj (by decide) ?_|refine Wa ?_|refine Wk ?_|refine Wl ?_|refine Wm ?_|refine Wn ?_|refine Wo ?_|refine Wp ?_|refine Wq ?_|refine Ww (by simp only[go_sem,statesV_length];done) ?_|((first|refine Ws ?_|refine Wt ?_|refine Wu ?_|refine Wv (by simp only[go_sem,statesV_length];done) ?_);conv=>arg 2;simp only[go_sem,statesV_length])
  first|refine w_retQ ?_|refine w_endQ ?_
  conv=>arg 1;simp only[go_sem]
  simp only [statesV_length, hl]
  exact w_res (by simp only [go_sem]) (hq s2 (St.le_trans g3 g6))

theorem c120 (b : Book) (is : Bool) (hlen : (b.notes.length : Int) < 9223372036854775808) (hq : ∀ s', s ≤ s' → Q (.int (askE b (is = true))) s') : Call prog (.fn 120 [] []) [bookV b, .bool is] s Q := by
  refine Call.fn F120 p120 rfl ?_
  simp only [F120, bookV]
  by_cases h1 : ok b
  · cases is with
    | false =>
      have he : askE b (false = true) = 31 := by simp [askE, h1]
      rw [he] at hq
      repeat first|refine Wr ?_|refine Wb ?_|refine Wc ?_|refine Wd ?_|refine We ?_|refine Wf ?_|refine Wg ?_|refine Wh ?_|refine Wi ?_|refine Wj (by decide) ?_|refine Wa ?_|refine Wk ?_|refine Wl ?_|refine Wm ?_|refine Wn ?_|refine Wo ?_|refine Wp ?_|refine Wq ?_|refine Ww (by simp only[go_sem,h1];done) ?_|((first|refine Ws ?_|refine Wt ?_|refine Wu ?_|refine Wv (by simp only[go_sem,h1];done) ?_);conv=>arg 2;simp only[go_sem,h1])|(refine Wx (by simp only[go_sem,h1];rfl) (by simp only[go_sem,h1];rfl) ?_;refine c30 b hlen ?_)
      first|refine w_retQ ?_|refine w_endQ ?_
      conv=>arg 1;simp only[go_sem]
      exact w_res (by simp only [go_sem]) (hq s (St.le_refl s))
    | true =>
      by_cases h2 : can b
      · have he : askE b (true = true) = 0 := by simp [askE, h1, h2]
        rw [he] at hq
        repeat first|refine Wr ?_|refine Wb ?_|refine Wc ?_|refine Wd ?_|refine We ?_|refine Wf ?_|refine Wg ?_|refine Wh ?_|refine Wi ?_|refine Wj (by decide) ?_|refine Wa ?_|refine Wk ?_|refine Wl ?_|refine Wm ?_|refine Wn ?_|refine Wo ?_|refine Wp ?_|refine Wq ?_|refine Ww (by simp only[go_sem,h1,h2];done) ?_|((first|refine Ws ?_|refine Wt ?_|refine Wu ?_|refine Wv (by simp only[go_sem,h1,h2];done) ?_);conv=>arg 2;simp only[go_sem,h1,h2])|(refine Wx (by simp only[go_sem,h1,h2];rfl) (by simp only[go_sem,h1,h2];rfl) ?_;first|refine c30 b hlen ?_|refine c112 b h1.ok' fun s1 g1 => ?_)
        first|refine w_retQ ?_|refine w_endQ ?_
        conv=>arg 1;simp only[go_sem]
        exact w_res (by simp only [go_sem]) (hq s1 g1)
      · have he : askE b (true = true) = 32 := by simp [askE, h1, h2]
        rw [he] at hq
        repeat first|refine Wr ?_|refine Wb ?_|refine Wc ?_|refine Wd ?_|refine We ?_|refine Wf ?_|refine Wg ?_|refine Wh ?_|refine Wi ?_|refine Wj (by decide) ?_|refine Wa ?_|refine Wk ?_|refine Wl ?_|refine Wm ?_|refine Wn ?_|refine Wo ?_|refine Wp ?_|refine Wq ?_|refine Ww (by simp only[go_sem,h1,h2];done) ?_|((first|refine Ws ?_|refine Wt ?_|refine Wu ?_|refine Wv (by simp only[go_sem,h1,h2];done) ?_);conv=>arg 2;simp only[go_sem,h1,h2])|(refine Wx (by simp only[go_sem,h1,h2];rfl) (by simp only[go_sem,h1,h2];rfl) ?_;first|refine c30 b hlen ?_|refine c112 b h1.ok' fun s1 g1 => ?_)
        first|refine w_retQ ?_|refine w_endQ ?_
        conv=>arg 1;simp only[go_sem]
        exact w_res (by simp only [go_sem]) (hq s1 g1)
  · have he : askE b (is = true) = 30 := by simp [askE, h1]
    rw [he] at hq
    repeat first|refine Wr ?_|refine Wb ?_|refine Wc ?_|refine Wd ?_|refine We ?_|refine Wf ?_|refine Wg ?_|refine Wh ?_|refine Wi ?_|refine Wj (by decide) ?_|refine Wa ?_|refine Wk ?_|refine Wl ?_|refine Wm ?_|refine Wn ?_|refine Wo ?_|refine Wp ?_|refine Wq ?_|refine Ww (by simp only[go_sem,h1];done) ?_|((first|refine Ws ?_|refine Wt ?_|refine Wu ?_|refine Wv (by simp only[go_sem,h1];done) ?_);conv=>arg 2;simp only[go_sem,h1])|(refine Wx (by simp only[go_sem,h1];rfl) (by simp only[go_sem,h1];rfl) ?_;refine c30 b hlen ?_)
    first|refine w_retQ ?_|refine w_endQ ?_
    conv=>arg 1;simp only[go_sem]
    exact w_res (by simp only [go_sem]) (hq s (St.le_refl s))

open Classical in
theorem c28 (b : Book) (hlen : (b.notes.length : Int) < 9223372036854775808) (hq : ∀ s', s ≤ s' → Q (.tup [.bool (decide (ok b ∧ can b)), .int (if ok b then 0 else 30)]) s') : Call prog (.fn 28 [] []) [bookV b] s Q := by
  refine Call.fn F28 p28 rfl ?_
  simp only [F28, bookV]
  by_cases h1 : ok b
  · repeat first|refine Wr ?_|refine Wb ?_|refine Wc ?_|refine Wd ?_|refine We ?_|refine Wf ?_|refine Wg ?_|refine Wh ?_|refine Wi ?_|refine Wj (by decide) ?_|refine Wa ?_|refine Wk ?_|refine Wl ?_|refine Wm ?_|refine Wn ?_|refine Wo ?_|refine Wp ?_|refine Wq ?_|refine Ww (by simp only[go_sem,h1];done) ?_|((first|refine Ws ?_|refine Wt ?_|refine Wu ?_|refine Wv (by simp only[go_sem,h1];done) ?_);conv=>arg 2;simp only[go_sem,h1])|(refine Wx (by simp only[go_sem,h1];rfl) (by simp only[go_sem,h1];rfl) ?_;first|refine c30 b hlen ?_|refine c112 b h1.ok' fun s1 g1 => ?_)
    first|refine w_retQ ?_|refine w_endQ ?_
    conv=>arg 1;simp only[go_sem]
    exact w_res (by simp only [go_sem, h1, true_and, if_true]) (hq s1 g1)
  · repeat first|refine Wr ?_|refine Wb ?_|refine Wc ?_|refine Wd ?_|refine We ?_|refine Wf ?_|refine Wg ?_|refine Wh ?_|refine Wi ?_|refine Wj (by decide) ?_|refine Wa ?_|refine Wk ?_|refine Wl ?_|refine Wm ?_|refine Wn ?_|refine Wo ?_|refine Wp ?_|refine Wq ?_|refine Ww (by simp only[go_sem,h1];done) ?_|((first|refine Ws ?_|refine Wt ?_|refine Wu ?_|refine Wv (by simp only[go_sem,h1];done) ?_);conv=>arg 2;simp only[go_sem,h1])|(refine Wx (by simp only[go_sem,h1];rfl) (by simp only[go_sem,h1];rfl) ?_;refine c30 b hlen ?_)
    first|refine w_retQ ?_|refine w_endQ ?_
    conv=>arg 1;simp only[go_sem]
    exact w_res (by simp only [go_sem, h1, false_and, decide_false, if_false]) (hq s (St.le_refl s))

theorem c125 (l : List X) (hl : l.length ≤ 32882) (hq : ∀ s', s ≤ s' → Q (.lst (intsV (l.map fun x => x.1)) .any) s') : Call prog (.fn 125 [] []) [.lst (statesV l) .any] s Q := by
  refine Call.fn F125 p125 rfl ?_
  simp only [F125]
  repeat first|refine Wr ?_|refine Wb ?_|refine Wc ?_|refine Wd ?_|refine We ?_|refine Wf ?_|refine Wg ?_|refine Wh ?_|refine Wi ?_|refine Wj (by decide) ?_|refine Wa ?_|refine Wk ?_|refine Wl ?_|refine Wm ?_|refine Wn ?_|refine Wo ?_|refine Wp ?_|refine Wq ?_|refine Ww (by simp only[go_sem];done) ?_|((first|refine Ws ?_|refine Wt ?_|refine Wu ?_|refine Wv (by simp only[go_sem];done) ?_);conv=>arg 2;simp only[go_sem])
  refine w_iter (fun n e s' => ∃ (a r : List X) (c : Cap), l = a ++ r ∧ r.length = n ∧ e 0 = .lst (statesV l) .any ∧ e 3 = .lst (intsV (a.map fun x => x.1)) c ∧ e 4 = .int a.length ∧ Grow s s' c a.length) l.length ?_ ?_
  · refine ⟨[], l, .exact, rfl, rfl, ?_, ?_, ?_, .start⟩
    any_goals (simp only [go_sem, List.length_nil, Int.natCast_zero]; done)
    simp only [go_sem]; rfl
  · rintro n e s' ⟨a, r, c, har, hrn, e0, e3, e4, hg⟩
    cases r with
    | nil =>
      have hlt : ¬ ((a.length : Int) < (l.length : Int)) := by rw [har]; simp
      repeat first|refine Wr ?_|refine Wb ?_|refine Wc ?_|refine Wd ?_|refine We ?_|refine Wf ?_|refine Wg ?_|refine Wh ?_|refine Wi ?_|refine Wj (by decide) ?_|refine Wa ?_|refine Wk ?_|refine Wl ?_|refine Wm ?_|refine Wn ?_|refine Wo ?_|refine Wp ?_|refine Wq ?_|refine Ww (by simp only[go_sem,e0,e3,e4,statesV_length,hlt];done) ?_|((first|refine Ws ?_|refine Wt ?_|refine Wu ?_|refine Wv (by simp only[go_sem,e0,e3,e4,statesV_length,hlt];done) ?_);conv=>arg 2;simp only[go_sem,e0,e3,e4,statesV_length,hlt])
      first|refine w_retQ ?_|refine w_endQ ?_
      conv=>arg 1;simp only[go_sem]
      have hna : l = a := by simpa using har
      exact w_res (by rw [← hna]; simp only [go_sem]) (hq s' hg.le)
    | cons x r =>
      have hlt : ((a.length : Int) < (l.length : Int)) := by rw [har]; simp; omega
      have hx : (statesV l)[((a.length : Int)).toNat]? = some (.agg [.int x.1, .int x.2]) := by rw [har]; exact statesV_at
      have hp := len_nonneg a
      have hal : (a.length : Int) + 1 ≤ l.length := by omega
      have hw : w64 ((a.length : Int) + 1) = (a ++ [x]).length := by rw [w64_id (by omega)]; simp
      have hmax : (intsV (a.map fun x => x.1)).length + 1 ≤ maxLst := by rw [intsV_length, List.length_map]; simp only [maxLst]; omega
      repeat first|refine Wr ?_|refine Wb ?_|refine Wc ?_|refine Wd ?_|refine We ?_|refine Wf ?_|refine Wg ?_|refine Wh ?_|refine Wi ?_|refine Wj (by decide) ?_|refine Wa ?_|refine Wk ?_|refine Wl ?_|refine Wm ?_|refine Wn ?_|refine Wo ?_|refine Wp ?_|refine Wq ?_|refine Ww (by simp only[go_sem,e0,e3,e4,statesV_length,hlt,hx,hp];done) ?_|((first|refine Ws ?_|refine Wt ?_|refine Wu ?_|refine Wv (by simp only[go_sem,e0,e3,e4,statesV_length,hlt,hx,hp];done) ?_);conv=>arg 2;simp only[go_sem,e0,e3,e4,statesV_length,hlt,hx,hp])
      refine w_append1 (xs := intsV (a.map fun x => x.1)) (y := .int x.1) (c := c) rfl (by simp only [go_sem, e3]) (by simp only [go_sem] <;> rfl) hmax (hd_ints _) rfl rfl (by rw [intsV_length, List.length_map]; exact hg.room) fun c' s2 g => ?_
      rw [intsV_length, List.length_map] at g
      repeat first|refine Wr ?_|refine Wb ?_|refine Wc ?_|refine Wd ?_|refine We ?_|refine Wf ?_|refine Wg ?_|refine Wh ?_|refine Wi ?_|refine Wj (by decide) ?_|refine Wa ?_|refine Wk ?_|refine Wl ?_|refine Wm ?_|refine Wn ?_|refine Wo ?_|refine Wp ?_|refine Wq ?_|refine Ww (by simp only[go_sem,e0,e3,e4,hw];done) ?_|((first|refine Ws ?_|refine Wt ?_|refine Wu ?_|refine Wv (by simp only[go_sem,e0,e3,e4,hw];done) ?_);conv=>arg 2;simp only[go_sem,e0,e3,e4,hw])
      refine ⟨r.length, by simp at hrn; omega, a ++ [x], r, c', by rw [har]; simp, rfl, ?_, ?_, ?_, by simpa using hg.step g⟩
      any_goals (simp only [go_sem, e0, e3, e4, hw]; done)
      simp only [go_sem, List.map_append, intsV_append]; rfl
theorem c127 (l : List X) (hl : l.length ≤ 32882) (hq : ∀ s', s ≤ s' → Q (.lst (intsV (l.map fun x => x.2)) .any) s') : Call prog (.fn 127 [] []) [.lst (statesV l) .any] s Q := by
  refine Call.fn F127 p127 rfl ?_
  simp only [F127]
  repeat first|refine Wr ?_|refine Wb ?_|refine Wc ?_|refine Wd ?_|refine We ?_|refine Wf ?_|refine Wg ?_|refine Wh ?_|refine Wi ?_|refine Wj (by decide) ?_|refine Wa ?_|refine Wk ?_|refine Wl ?_|refine Wm ?_|refine Wn ?_|refine Wo ?_|refine Wp ?_|refine Wq ?_|refine Ww (by simp only[go_sem];done) ?_|((first|refine Ws ?_|refine Wt ?_|refine Wu ?_|refine Wv (by simp only[go_sem];done) ?_);conv=>arg 2;simp only[go_sem])
  refine w_iter (fun n e s' => ∃ (a r : List X) (c : Cap), l = a ++ r ∧ r.length = n ∧ e 0 = .lst (statesV l) .any ∧ e 3 = .lst (intsV (a.map fun x => x.2)) c ∧ e 4 = .int a.length ∧ Grow s s' c a.length) l.length ?_ ?_
  · refine ⟨[], l, .exact, rfl, rfl, ?_, ?_, ?_, .start⟩
    any_goals (simp only [go_sem, List.length_nil, Int.natCast_zero]; done)
    simp only [go_sem]; rfl
  · rintro n e s' ⟨a, r, c, har, hrn, e0, e3, e4, hg⟩
    cases r with
    | nil =>
      have hlt : ¬ ((a.length : Int) < (l.length : Int)) := by rw [har]; simp
      repeat first|refine Wr ?_|refine Wb ?_|refine Wc ?_|refine Wd ?_|refine We ?_|refine Wf ?_|refine Wg ?_|refine Wh ?_|refine Wi ?_|refine Wj (by decide) ?_|refine Wa ?_|refine Wk ?_|refine Wl ?_|refine Wm ?_|refine Wn ?_|refine Wo ?_|refine Wp ?_|refine Wq ?_|refine Ww (by simp only[go_sem,e0,e3,e4,statesV_length,hlt];done) ?_|((first|refine Ws ?_|refine Wt ?_|refine Wu ?_|refine Wv (by simp only[go_sem,e0,e3,e4,statesV_length,hlt];done) ?_);conv=>arg 2;simp only[go_sem,e0,e3,e4,statesV_length,hlt])
      first|refine w_retQ ?_|refine w_endQ ?_
      conv=>arg 1;simp only[go_sem]
      have hna : l = a := by simpa using har
      exact w_res (by rw [← hna]; simp only [go_sem]) (hq s' hg.le)
    | cons x r =>
      have hlt : ((a.length : Int) < (l.length : Int)) := by rw [har]; simp; omega
      have hx : (statesV l)[((a.length : Int)).toNat]? = some (.agg [.int x.1, .int x.2]) := by rw [har]; exact statesV_at
      have hp := len_nonneg a
      have hal : (a.length : Int) + 1 ≤ l.length := by omega
      have hw : w64 ((a.length : Int) + 1) = (a ++ [x]).length := by rw [w64_id (by omega)]; simp
      have hmax : (intsV (a.map fun x => x.2)).length + 1 ≤ maxLst := by rw [intsV_length, List.length_map]; simp only [maxLst]; omega
      repeat first|refine Wr ?_|refine Wb ?_|refine Wc ?_|refine Wd ?_|refine We ?_|refine Wf ?_|refine Wg ?_|refine Wh ?_|refine Wi ?_|refine Wj (by decide) ?_|refine Wa ?_|refine Wk ?_|refine Wl ?_|refine Wm ?_|refine Wn ?_|refine Wo ?_|refine Wp ?_|refine Wq ?_|refine Ww (by simp only[go_sem,e0,e3,e4,statesV_length,hlt,hx,hp];done) ?_|((first|refine Ws ?_|refine Wt ?_|refine Wu ?_|refine Wv (by simp only[go_sem,e0,e3,e4,statesV_length,hlt,hx,hp];done) ?_);conv=>arg 2;simp only[go_sem,e0,e3,e4,statesV_length,hlt,hx,hp])
      refine w_append1 (xs := intsV (a.map fun x => x.2)) (y := .int x.2) (c := c) rfl (by simp only [go_sem, e3]) (by simp only [go_sem] <;> rfl) hmax (hd_ints _) rfl rfl (by rw [intsV_length, List.length_map]; exact hg.room) fun c' s2 g => ?_
      rw [intsV_length, List.length_map] at g
      repeat first|refine Wr ?_|refine Wb ?_|refine Wc ?_|refine Wd ?_|refine We ?_|refine Wf ?_|refine Wg ?_|refine Wh ?_|refine Wi ?_|refine Wj (by decide) ?_|refine Wa ?_|refine Wk ?_|refine Wl ?_|refine Wm ?_|refine Wn ?_|refine Wo ?_|refine Wp ?_|refine Wq ?_|refine Ww (by simp only[go_sem,e0,e3,e4,hw];done) ?_|((first|refine Ws ?_|refine Wt ?_|refine Wu ?_|refine Wv (by simp only[go_sem,e0,e3,e4,hw];done) ?_);conv=>arg 2;simp only[go_sem,e0,e3,e4,hw])
      refine ⟨r.length, by simp at hrn; omega, a ++ [x], r, c', by rw [har]; simp, rfl, ?_, ?_, ?_, by simpa using hg.step g⟩
      any_goals (simp only [go_sem, e0, e3, e4, hw]; done)
      simp only [go_sem, List.map_append, intsV_append]; rfl
theorem minL_self {a : Int} {l : List Int} : minL a (a :: l) = minL a l := by
  unfold minL
  simp
theorem maxL_self {a : Int} {l : List Int} : maxL a (a :: l) = maxL a l := by
  unfold maxL
  simp
theorem c124 (l : List Int) (hne : l ≠ []) (hl : (l.length : Int) < 9223372036854775800) (hq : ∀ lo hi, EndsL l lo hi → Q (.agg [.int lo, .int hi]) s) : Call prog (.fn 124 [] []) [.lst (intsV l) .any] s Q := by
  refine Call.fn F124 p124 rfl ?_
  simp only [F124]
  cases l with
  | nil => exact absurd rfl hne
  | cons x0 t =>
    have h0 : (intsV (x0 :: t))[0]? = some (.int x0) := rfl
    have z0 : (0 : Int) ≤ 0 := Int.le_refl 0
    repeat first|refine Wr ?_|refine Wb ?_|refine Wc ?_|refine Wd ?_|refine We ?_|refine Wf ?_|refine Wg ?_|refine Wh ?_|refine Wi ?_|refine Wj (by decide) ?_|refine Wa ?_|refine Wk ?_|refine Wl ?_|refine Wm ?_|refine Wn ?_|refine Wo ?_|refine Wp ?_|refine Wq ?_|refine Ww (by simp only[go_sem,h0,z0];done) ?_|((first|refine Ws ?_|refine Wt ?_|refine Wu ?_|refine Wv (by simp only[go_sem,h0,z0];done) ?_);conv=>arg 2;simp only[go_sem,h0,z0])|(refine Wx (by simp only[go_sem,h0,z0];rfl) (by simp only[go_sem,h0,z0];rfl) ?_;refine c52 _ ?_)
    refine w_iter (fun n e s' => ∃ (a r : List Int), x0 :: t = a ++ r ∧ r.length = n ∧ e 0 = .lst (intsV (x0 :: t)) .any ∧ e 3 = .agg [.int (minL x0 a), .int (maxL x0 a)] ∧ (∃ u v, e 2 = .agg [.int u, .int v]) ∧ e 4 = .int a.length ∧ s' = s) (x0 :: t).length ?_ ?_
    · refine ⟨[], x0 :: t, rfl, rfl, ?_, ?_, ⟨0, 0, ?_⟩, ?_, rfl⟩
      any_goals (simp only [go_sem, List.length_nil, Int.natCast_zero, minL, maxL, List.foldl_nil]; done)
    · rintro n e s' ⟨a, r, har, hrn, e0, e3, ⟨u, v, e2⟩, e4, rfl⟩
      cases r with
      | nil =>
        have hlt : ¬ ((a.length : Int) < ((intsV (x0 :: t)).length : Int)) := by rw [intsV_length, har]; simp
        repeat first|refine Wr ?_|refine Wb ?_|refine Wc ?_|refine Wd ?_|refine We ?_|refine Wf ?_|refine Wg ?_|refine Wh ?_|refine Wi ?_|refine Wj (by decide) ?_|refine Wa ?_|refine Wk ?_|refine Wl ?_|refine Wm ?_|refine Wn ?_|refine Wo ?_|refine Wp ?_|refine Wq ?_|refine Ww (by simp only[go_sem,e0,e2,e3,e4,hlt];done) ?_|((first|refine Ws ?_|refine Wt ?_|refine Wu ?_|refine Wv (by simp only[go_sem,e0,e2,e3,e4,hlt];done) ?_);conv=>arg 2;simp only[go_sem,e0,e2,e3,e4,hlt])
        first|refine w_retQ ?_|refine w_endQ ?_
        conv=>arg 1;simp only[go_sem]
        have hna : x0 :: t = a := by simpa using har
        rw [← hna, minL_self, maxL_self] at *
        exact w_res (by simp only [go_sem]) (hq _ _ (ends_minmax x0 t))
      | cons x r =>
        have hlt : ((a.length : Int) < ((intsV (x0 :: t)).length : Int)) := by rw [intsV_length, har]; simp; omega
        have hx : (intsV (x0 :: t))[((a.length : Int)).toNat]? = some (.int x) := by rw [har]; exact intsV_at
        have hp := len_nonneg a
        have hal : (a.length : Int) + 1 ≤ (x0 :: t).length := by rw [har]; simp; omega
        have hw : w64 ((a.length : Int) + 1) = (a ++ [x]).length := by rw [w64_id (by omega)]; simp
        repeat first|refine Wr ?_|refine Wb ?_|refine Wc ?_|refine Wd ?_|refine We ?_|refine Wf ?_|refine Wg ?_|refine Wh ?_|refine Wi ?_|refine Wj (by decide) ?_|refine Wa ?_|refine Wk ?_|refine Wl ?_|refine Wm ?_|refine Wn ?_|refine Wo ?_|refine Wp ?_|refine Wq ?_|refine Ww (by simp only[go_sem,e0,e2,e3,e4,hlt,hx,hp,hw];done) ?_|((first|refine Ws ?_|refine Wt ?_|refine Wu ?_|refine Wv (by simp only[go_sem,e0,e2,e3,e4,hlt,hx,hp,hw];done) ?_);conv=>arg 2;simp only[go_sem,e0,e2,e3,e4,hlt,hx,hp,hw])|(refine Wx (by simp only[go_sem,e0,e2,e3,e4,hlt,hx,hp,hw];rfl) (by simp only[go_sem,e0,e2,e3,e4,hlt,hx,hp,hw];rfl) ?_;refine c68 _ _ ?_)
        refine ⟨r.length, by simp at hrn; omega, a ++ [x], r, by rw [har]; simp, rfl, ?_, ?_, ⟨u, v, ?_⟩, ?_, rfl⟩
        any_goals (simp only [go_sem, e0, e2, e3, e4, hw, minL_snoc, maxL_snoc]; done)

/-- The states at an hour: what of the notes is sooner. -/
theorem later_ok {b : Book} {h : Int} (hb : okNotes 0 b.notes) : okNotes h (later h b.notes) := by
  have hbl := before_later h b.notes
  rw [← hbl] at hb
  exact okNotes_later (okNotes_append.1 hb).2 fun x r e => Int.le_of_lt (later_first e)
theorem before_ok {b : Book} {h : Int} (hb : okNotes 0 b.notes) : okNotes 0 (before h b.notes) := by
  have hbl := before_later h b.notes
  rw [← hbl] at hb
  exact (okNotes_append.1 hb).1
theorem before_len (b : Book) (h : Int) : ((before h b.notes).length : Int) + (later h b.notes).length = b.notes.length := by
  have := congrArg List.length (before_later h b.notes)
  simp at this
  omega

theorem c134' {x y : X} {h : Int} (hy : pass x h = y) (hx : Sm x) (hh : 0 ≤ h ∧ h ≤ 60) (hq : Q (.agg [.int y.1, .int y.2]) s) : Call prog (.fn 134 [] []) [.agg [.int x.1, .int x.2], .int h] s Q :=
  c134 x h hx hh (by rw [hy]; exact hq)
set_option maxHeartbeats 2000000 in
theorem c121 (b : Book) (h : Int) (hb : ok' b) (hh : 0 ≤ h ∧ h ≤ 60) (hq : ∀ l s', l.length ≤ 32882 → (∀ y, y ∈ l ↔ atH b h y) → s ≤ s' → Q (.lst (statesV l) .any) s') : Call prog (.fn 121 [] []) [bookV b, .int h] s Q := by
  refine Call.fn F121 p121 rfl ?_
  simp only [F121, bookV]
  repeat first|refine Wr ?_|refine Wb ?_|refine Wc ?_|refine Wd ?_|refine We ?_|refine Wf ?_|refine Wg ?_|refine Wh ?_|refine Wi ?_|refine Wj (by decide) ?_|refine Wa ?_|refine Wk ?_|refine Wl ?_|refine Wm ?_|refine Wn ?_|refine Wo ?_|refine Wp ?_|refine Wq ?_|refine Ww (by simp only[go_sem];done) ?_|((first|refine Ws ?_|refine Wt ?_|refine Wu ?_|refine Wv (by simp only[go_sem];done) ?_);conv=>arg 2;simp only[go_sem])
  have hbl := before_later h b.notes
  have hbn := before_len b h
  have hlen9 : (b.notes.length : Int) ≤ 9 := by have := hb.2.1; omega
  refine w_iter (fun n e s' => ∃ k : Nat, n = (before h b.notes).length - k ∧ k ≤ (before h b.notes).length ∧ e 1 = .int h ∧ e 2 = .agg [.int b.lo, .int b.hi, .lst (notesV b.notes) .any] ∧ e 5 = .int k ∧ s' = s) (before h b.notes).length ?_ ?_
  · refine ⟨0, by simp, by simp, ?_, ?_, ?_, rfl⟩
    any_goals (simp only [go_sem, Int.natCast_zero]; done)
  · rintro n e s' ⟨k, hn, hk, e1, e2, e5, rfl⟩
    have hp := len_nonneg (b.notes.take k)
    have hpk : (0 : Int) ≤ (k : Int) := Int.natCast_nonneg k
    by_cases hk2 : k < (before h b.notes).length
    · have hkl : (k : Int) < (b.notes.length : Int) := by omega
      have hw : w64 ((k : Int) + 1) = ((k + 1 : Nat) : Int) := by rw [w64_id (by omega)]; simp
      obtain ⟨a, x, r, hab, hal, hdr⟩ := drop_at (ns := b.notes) (k := k) (by omega)
      have hx : (notesV b.notes)[((k : Int)).toNat]? = some (.agg [.int x.kind, .int x.hour, .int x.lo, .int x.hi]) := by rw [← hal, hab]; exact notesV_at
      have hxh : x.hour ≤ h := by
        refine before_all (ns := b.notes) x ?_
        have h1 : b.notes[k]? = some x := by rw [hab, ← hal]; simp
        rw [← hbl, List.getElem?_append_left hk2] at h1
        exact List.mem_of_getElem? h1
      repeat first|refine Wr ?_|refine Wb ?_|refine Wc ?_|refine Wd ?_|refine We ?_|refine Wf ?_|refine Wg ?_|refine Wh ?_|refine Wi ?_|refine Wj (by decide) ?_|refine Wa ?_|refine Wk ?_|refine Wl ?_|refine Wm ?_|refine Wn ?_|refine Wo ?_|refine Wp ?_|refine Wq ?_|refine Ww (by simp only[go_sem,e1,e2,e5,notesV_length,hkl,hx,hpk,hxh,hw];done) ?_|((first|refine Ws ?_|refine Wt ?_|refine Wu ?_|refine Wv (by simp only[go_sem,e1,e2,e5,notesV_length,hkl,hx,hpk,hxh,hw];done) ?_);conv=>arg 2;simp only[go_sem,e1,e2,e5,notesV_length,hkl,hx,hpk,hxh,hw])
      refine ⟨_, ?_, k + 1, rfl, by omega, ?_, ?_, ?_, rfl⟩
      any_goals (simp only [go_sem, e1, e2, e5, hw]; done)
      omega
    · have hke : k = (before h b.notes).length := by omega
      have hcond : (¬ (k : Int) < (b.notes.length : Int)) ∨ ∃ x r, later h b.notes = x :: r ∧ (k : Int) < (b.notes.length : Int) ∧ (notesV b.notes)[((k : Int)).toNat]? = some (.agg [.int x.kind, .int x.hour, .int x.lo, .int x.hi]) := by
        cases hl : later h b.notes with
        | nil =>
          left
          rw [hl] at hbn
          simp at hbn
          omega
        | cons x r =>
          right
          rw [hl] at hbl hbn
          refine ⟨x, r, rfl, ?_, ?_⟩
          · simp at hbn; omega
          · rw [← hbl, hke]; exact notesV_at
      have htake : (notesV b.notes).take ((k : Int)).toNat = notesV (before h b.notes) := by
        rw [Int.toNat_natCast, hke]
        conv => lhs; rw [← hbl, notesV_append]
        rw [before_later, ← notesV_length (before h b.notes), List.take_left]
      have hdrop : (notesV b.notes).drop ((k : Int)).toNat = notesV (later h b.notes) := by
        rw [Int.toNat_natCast, hke]
        conv => lhs; rw [← hbl, notesV_append]
        rw [before_later, ← notesV_length (before h b.notes), List.drop_left]
      have hall : (notesV b.notes).take ((b.notes.length : Int)).toNat = notesV b.notes := by
        rw [Int.toNat_natCast, ← notesV_length b.notes, List.take_length]
      have hkl3 : (k : Int) ≤ (b.notes.length : Int) := by omega
      have hokb := before_ok (h := h) hb.2.2
      have hokl := later_ok (h := h) hb.2.2
      have hhb := hourOf_le hokb
      have hhl : hourOf 0 (before h b.notes) ≤ h := hourOf_before hh.1 before_all
      have hw2 : w64 (h - hourOf 0 (before h b.notes)) = h - hourOf 0 (before h b.notes) := w64_id (by omega)
      have hhd := hd_notes b.notes
      obtain ⟨fx, hfx⟩ : ∃ fx : Note, ((¬ (k : Int) < (b.notes.length : Int)) ∧ 0 ≤ (k : Int) ∧ 0 ≤ (k : Int)) ∨ ((k : Int) < (b.notes.length : Int) ∧ (notesV b.notes)[((k : Int)).toNat]? = some (.agg [.int fx.kind, .int fx.hour, .int fx.lo, .int fx.hi]) ∧ ¬ fx.hour ≤ h) := by
        rcases hcond with h1 | ⟨x, r, h1, h2, h3⟩
        · exact ⟨⟨0, 0, 0, 0⟩, .inl ⟨h1, hpk, hpk⟩⟩
        · exact ⟨x, .inr ⟨h2, h3, by have := later_first h1; omega⟩⟩
      have hk9 : 0 ≤ (0 : Int) ∧ 0 + ((before h b.notes).length : Int) ≤ 9 := by omega
      rcases hfx with ⟨hc1, hc2, hc3⟩ | ⟨hc1, hc2, hc3⟩
      all_goals
        repeat first|refine Wr ?_|refine Wb ?_|refine Wc ?_|refine Wd ?_|refine We ?_|refine Wf ?_|refine Wg ?_|refine Wh ?_|refine Wi ?_|refine Wj (by decide) ?_|refine Wa ?_|refine Wk ?_|refine Wl ?_|refine Wm ?_|refine Wn ?_|refine Wo ?_|refine Wp ?_|refine Wq ?_|refine Ww (by simp only[go_sem,e1,e2,e5,notesV_length,hc1,hpk,hc2,hc3,hkl3,hhd,htake,ite_self];done) ?_|((first|refine Ws ?_|refine Wt ?_|refine Wu ?_|refine Wv (by simp only[go_sem,e1,e2,e5,notesV_length,hc1,hpk,hc2,hc3,hkl3,hhd,htake,ite_self];done) ?_);conv=>arg 2;simp only[go_sem,e1,e2,e5,notesV_length,hc1,hpk,hc2,hc3,hkl3,hhd,htake,ite_self])|(refine Wx (by simp only[go_sem,e1,e2,e5,notesV_length,hc1,hpk,hc2,hc3,hkl3,hhd,htake,ite_self];rfl) (by simp only[go_sem,e1,e2,e5,notesV_length,hc1,hpk,hc2,hc3,hkl3,hhd,htake,ite_self];rfl) ?_;refine c133 b hb.1 fun l1 s1 g1 g2 g3 => ?_)
        have hbd1 := (begun_bd hb.1).of g2
        repeat first|refine Wr ?_|refine Wb ?_|refine Wc ?_|refine Wd ?_|refine We ?_|refine Wf ?_|refine Wg ?_|refine Wh ?_|refine Wi ?_|refine Wj (by decide) ?_|refine Wa ?_|refine Wk ?_|refine Wl ?_|refine Wm ?_|refine Wn ?_|refine Wo ?_|refine Wp ?_|refine Wq ?_|refine Ww (by simp only[go_sem,e1,e2,e5,notesV_length,hpk,hkl3,hhd,htake,ite_self];done) ?_|((first|refine Ws ?_|refine Wt ?_|refine Wu ?_|refine Wv (by simp only[go_sem,e1,e2,e5,notesV_length,hpk,hkl3,hhd,htake,ite_self];done) ?_);conv=>arg 2;simp only[go_sem,e1,e2,e5,notesV_length,hpk,hkl3,hhd,htake,ite_self])|(refine Wx (by simp only[go_sem,e1,e2,e5,notesV_length,hpk,hkl3,hhd,htake,ite_self];rfl) (by simp only[go_sem,e1,e2,e5,notesV_length,hpk,hkl3,hhd,htake,ite_self];rfl) ?_;refine c132 l1 0 0 (before h b.notes) g1 hbd1 hk9 hokb (Int.le_refl 0) fun l2 s2 g4 g5 g6 => ?_)
        have g5' : ∀ y, y ∈ l2 ↔ run (begun b) 0 (before h b.notes) y := fun y => (g5 y).trans (run_congr _ 0 g2 y)
        have hbd2 := (run_bd (begun_bd hb.1) (Int.le_refl 0) hokb).of g5'
        have hlen2 := small_len g4 (hbd2.small (by omega))
        repeat first|refine Wr ?_|refine Wb ?_|refine Wc ?_|refine Wd ?_|refine We ?_|refine Wf ?_|refine Wg ?_|refine Wh ?_|refine Wi ?_|refine Wj (by decide) ?_|refine Wa ?_|refine Wk ?_|refine Wl ?_|refine Wm ?_|refine Wn ?_|refine Wo ?_|refine Wp ?_|refine Wq ?_|refine Ww (by simp only[go_sem];done) ?_|((first|refine Ws ?_|refine Wt ?_|refine Wu ?_|refine Wv (by simp only[go_sem];done) ?_);conv=>arg 2;simp only[go_sem])
        refine w_iter (fun n e s' => ∃ (a r out : List X) (c : Cap), l2 = a ++ r ∧ r.length = n ∧ e 1 = .int h ∧ e 2 = .agg [.int b.lo, .int b.hi, .lst (notesV b.notes) .any] ∧ e 5 = .int k ∧ e 6 = .lst (statesV l2) .any ∧ e 7 = .int (hourOf 0 (before h b.notes)) ∧ e 8 = .lst (statesV out) c ∧ e 9 = .int a.length ∧ out.length ≤ a.length ∧ (∀ y, y ∈ out ↔ (∃ x ∈ a, y = pass x (h - hourOf 0 (before h b.notes))) ∧ ∃ z, run (· = y) h (later h b.notes) z) ∧ Grow s2 s' c out.length) l2.length ?_ ?_
        · refine ⟨[], l2, [], .exact, rfl, rfl, ?_, ?_, ?_, ?_, ?_, ?_, ?_, by simp, fun y => by simp, .start⟩
          any_goals (simp only [go_sem, e1, e2, e5, List.length_nil, Int.natCast_zero]; done)
          simp only [go_sem]; rfl
        · clear e1 e2 e5 hn
          rintro n e s' ⟨a, r, out, c, har, hrn, e1, e2, e5, e6, e7, e8, e9, hol, hm, hg⟩
          cases r with
          | nil =>
            have hlt : ¬ ((a.length : Int) < (l2.length : Int)) := by rw [har]; simp
            repeat first|refine Wr ?_|refine Wb ?_|refine Wc ?_|refine Wd ?_|refine We ?_|refine Wf ?_|refine Wg ?_|refine Wh ?_|refine Wi ?_|refine Wj (by decide) ?_|refine Wa ?_|refine Wk ?_|refine Wl ?_|refine Wm ?_|refine Wn ?_|refine Wo ?_|refine Wp ?_|refine Wq ?_|refine Ww (by simp only[go_sem,e1,e2,e5,e6,e7,e8,e9,statesV_length,hlt];done) ?_|((first|refine Ws ?_|refine Wt ?_|refine Wu ?_|refine Wv (by simp only[go_sem,e1,e2,e5,e6,e7,e8,e9,statesV_length,hlt];done) ?_);conv=>arg 2;simp only[go_sem,e1,e2,e5,e6,e7,e8,e9,statesV_length,hlt])
            first|refine w_retQ ?_|refine w_endQ ?_
            conv=>arg 1;simp only[go_sem]
            have hna : l2 = a := by simpa using har
            refine w_res (by simp only [go_sem]) (hq out s' (by rw [← hna] at hol; omega) (fun y => ?_) (St.le_trans (St.le_trans g3 g6) hg.le))
            rw [hm]
            unfold atH
            simp only [← g5', hna]
          | cons x r =>
            have hlt : ((a.length : Int) < (l2.length : Int)) := by rw [har]; simp; omega
            have hx : (statesV l2)[((a.length : Int)).toNat]? = some (.agg [.int x.1, .int x.2]) := by rw [har]; exact statesV_at
            have hp := len_nonneg a
            have hal : (a.length : Int) + 1 ≤ l2.length := by omega
            have hw : w64 ((a.length : Int) + 1) = (a ++ [x]).length := by rw [w64_id (by omega)]; simp
            have hbx := hbd2 x (by rw [har]; simp)
            have hsx : Sm x := by unfold Sm; omega
            have hkh : 0 ≤ h - hourOf 0 (before h b.notes) ∧ h - hourOf 0 (before h b.notes) ≤ 60 := by omega
            have hpb := pass_bd hbx hkh.1
            obtain ⟨y, hy⟩ : ∃ y, pass x (h - hourOf 0 (before h b.notes)) = y := ⟨_, rfl⟩
            rw [hy] at hpb
            have hd1 : ([y] : List X).Nodup := by simp
            have hb1 : Bd ((before h b.notes).length : Int) (· ∈ [y]) := fun z hz => by
              simp at hz
              subst hz
              simpa using hpb
            have hk1 : 0 ≤ ((before h b.notes).length : Int) ∧ ((before h b.notes).length : Int) + ((later h b.notes).length : Int) ≤ 9 := by omega
            repeat first|refine Wr ?_|refine Wb ?_|refine Wc ?_|refine Wd ?_|refine We ?_|refine Wf ?_|refine Wg ?_|refine Wh ?_|refine Wi ?_|refine Wj (by decide) ?_|refine Wa ?_|refine Wk ?_|refine Wl ?_|refine Wm ?_|refine Wn ?_|refine Wo ?_|refine Wp ?_|refine Wq ?_|refine Ww (by simp only[go_sem,e1,e2,e5,e6,e7,e8,e9,statesV_length,hlt,hx,hp,hw2,hdrop,hall,hpk,hkl3,hhd,ite_self,notesV_length];done) ?_|((first|refine Ws ?_|refine Wt ?_|refine Wu ?_|refine Wv (by simp only[go_sem,e1,e2,e5,e6,e7,e8,e9,statesV_length,hlt,hx,hp,hw2,hdrop,hall,hpk,hkl3,hhd,ite_self,notesV_length];done) ?_);conv=>arg 2;simp only[go_sem,e1,e2,e5,e6,e7,e8,e9,statesV_length,hlt,hx,hp,hw2,hdrop,hall,hpk,hkl3,hhd,ite_self,notesV_length])|(refine Wx (by simp only[go_sem,e1,e2,e5,e6,e7,e8,e9,statesV_length,hlt,hx,hp,hw2,hdrop,hall,hpk,hkl3,hhd,ite_self,notesV_length];rfl) (by simp only[go_sem,e1,e2,e5,e6,e7,e8,e9,statesV_length,hlt,hx,hp,hw2,hdrop,hall,hpk,hkl3,hhd,ite_self,notesV_length];rfl) ?_;first|refine c134' hy hsx hkh ?_|refine c132 [y] h _ (later h b.notes) hd1 hb1 hk1 hokl hh.1 fun l3 s3 f1 f2 f3 => ?_)
            have hg3 := hg.to f3
            have hz : (l3.length : Int) > 0 ↔ ∃ z, run (· = y) h (later h b.notes) z := by
              have h1 : (∃ z, z ∈ l3) ↔ ∃ z, run (· = y) h (later h b.notes) z := by
                simp only [f2]
                exact exists_congr fun z => run_congr _ h (fun w => by simp) z
              rw [← h1]
              constructor
              · intro h
                cases l3 with
                | nil => simp at h
                | cons z l3 => exact ⟨z, by simp⟩
              · rintro ⟨z, hz⟩
                have := List.length_pos_of_mem hz
                omega
            have hmem : ∀ y', (∃ x' ∈ a ++ [x], y' = pass x' (h - hourOf 0 (before h b.notes))) ↔ (∃ x' ∈ a, y' = pass x' (h - hourOf 0 (before h b.notes))) ∨ y' = y := fun y' => by
              simp only [List.mem_append, List.mem_singleton, or_and_right, exists_or, exists_eq_left, hy]
            refine w_dec (fun hpos => ?_) (fun hpos => ?_)
            · have hmax : (statesV out).length + 1 ≤ maxLst := by
                rw [statesV_length]
                simp only [maxLst]
                omega
              have hlen4 : (out ++ [y]).length ≤ (a ++ [x]).length := by simp; exact hol
              repeat first|refine Wr ?_|refine Wb ?_|refine Wc ?_|refine Wd ?_|refine We ?_|refine Wf ?_|refine Wg ?_|refine Wh ?_|refine Wi ?_|refine Wj (by decide) ?_|refine Wa ?_|refine Wk ?_|refine Wl ?_|refine Wm ?_|refine Wn ?_|refine Wo ?_|refine Wp ?_|refine Wq ?_|refine Ww (by simp only[go_sem,e1,e2,e5,e6,e7,e8,e9];done) ?_|((first|refine Ws ?_|refine Wt ?_|refine Wu ?_|refine Wv (by simp only[go_sem,e1,e2,e5,e6,e7,e8,e9];done) ?_);conv=>arg 2;simp only[go_sem,e1,e2,e5,e6,e7,e8,e9])
              refine w_append1 (xs := statesV out) (y := .agg [.int y.1, .int y.2]) (c := c) rfl (by simp only [go_sem, e8]) (by simp only [go_sem] <;> rfl) hmax (hd_states _) rfl rfl (by rw [statesV_length]; exact hg3.room) fun c' s4 g => ?_
              rw [statesV_length] at g
              repeat first|refine Wr ?_|refine Wb ?_|refine Wc ?_|refine Wd ?_|refine We ?_|refine Wf ?_|refine Wg ?_|refine Wh ?_|refine Wi ?_|refine Wj (by decide) ?_|refine Wa ?_|refine Wk ?_|refine Wl ?_|refine Wm ?_|refine Wn ?_|refine Wo ?_|refine Wp ?_|refine Wq ?_|refine Ww (by simp only[go_sem,e1,e2,e5,e6,e7,e8,e9,hw];done) ?_|((first|refine Ws ?_|refine Wt ?_|refine Wu ?_|refine Wv (by simp only[go_sem,e1,e2,e5,e6,e7,e8,e9,hw];done) ?_);conv=>arg 2;simp only[go_sem,e1,e2,e5,e6,e7,e8,e9,hw])
              refine ⟨r.length, by simp at hrn; omega, a ++ [x], r, out ++ [y], c', by rw [har]; simp, rfl, ?_, ?_, ?_, ?_, ?_, ?_, ?_, hlen4, fun y' => ?_, by simpa using hg3.step g⟩
              any_goals (simp only [go_sem, e1, e2, e5, e6, e7, e8, e9, hw]; done)
              · simp only [go_sem, statesV_append]; rfl
              · rw [hmem, List.mem_append, hm, List.mem_singleton, or_and_right]
                refine or_congr Iff.rfl ⟨fun h => ⟨h, ?_⟩, fun h => h.1⟩
                rw [h]
                exact hz.1 hpos
            · have hlen4 : out.length ≤ (a ++ [x]).length := by simp; omega
              repeat first|refine Wr ?_|refine Wb ?_|refine Wc ?_|refine Wd ?_|refine We ?_|refine Wf ?_|refine Wg ?_|refine Wh ?_|refine Wi ?_|refine Wj (by decide) ?_|refine Wa ?_|refine Wk ?_|refine Wl ?_|refine Wm ?_|refine Wn ?_|refine Wo ?_|refine Wp ?_|refine Wq ?_|refine Ww (by simp only[go_sem,e1,e2,e5,e6,e7,e8,e9,hw];done) ?_|((first|refine Ws ?_|refine Wt ?_|refine Wu ?_|refine Wv (by simp only[go_sem,e1,e2,e5,e6,e7,e8,e9,hw];done) ?_);conv=>arg 2;simp only[go_sem,e1,e2,e5,e6,e7,e8,e9,hw])
              refine ⟨r.length, by simp at hrn; omega, a ++ [x], r, out, c, by rw [har]; simp, rfl, ?_, ?_, ?_, ?_, ?_, ?_, ?_, hlen4, fun y' => ?_, hg3⟩
              any_goals (simp only [go_sem, e1, e2, e5, e6, e7, e8, e9, hw]; done)
              rw [hmem, hm, or_and_right]
              refine ⟨.inl, fun h => h.elim id fun h => ?_⟩
              obtain ⟨hyy, hz3⟩ := h
              rw [hyy] at hz3
              exact absurd (hz.2 hz3) hpos

theorem c120' (b : Book) (p : Prop) [Decidable p] (hlen : (b.notes.length : Int) < 9223372036854775808) (hq : ∀ s', s ≤ s' → Q (.int (askE b p)) s') : Call prog (.fn 120 [] []) [bookV b, .bool (decide p)] s Q :=
  c120 b (decide p) hlen (by simpa only [decide_eq_true_eq] using hq)
theorem ends_map {b : Book} {h lo hi : Int} {l : List X} {f : X → Int} (hl : ∀ y, y ∈ l ↔ atH b h y) (he : EndsL (l.map f) lo hi) : Ends (fun n => ∃ x, atH b h x ∧ f x = n) lo hi := by
  have hm : ∀ n, n ∈ l.map f ↔ ∃ x, atH b h x ∧ f x = n := fun n => by simp only [List.mem_map, hl]
  simpa only [Ends, EndsL, hm] using he
theorem map_ne {b : Book} {h : Int} {l : List X} {f : X → Int} (hl : ∀ y, y ∈ l ↔ atH b h y) (hne : ∃ x, atH b h x) : l.map f ≠ [] := by
  obtain ⟨x, hx⟩ := hne
  have := List.length_pos_of_mem ((hl x).2 hx)
  intro h0
  simp at h0
  subst h0
  simp at this

theorem c34 (b : Book) (h : Int) (hlen : (b.notes.length : Int) < 9223372036854775808) (hq : ∀ lo hi s', Answer (askE b (0 ≤ h ∧ h ≤ 60)) (fun n => ∃ x, atH b h x ∧ x.1 = n) lo hi → s ≤ s' → Q (.tup [.agg [.int lo, .int hi], .int (askE b (0 ≤ h ∧ h ≤ 60))]) s') : Call prog (.fn 34 [] []) [bookV b, .int h] s Q := by
  refine Call.fn F34 p34 rfl ?_
  simp only [F34, bookV]
  by_cases he : askE b (0 ≤ h ∧ h ≤ 60) = 0
  · obtain ⟨k1, k2, k3⟩ := askE_zero.1 he
    repeat first|refine Wr ?_|refine Wb ?_|refine Wc ?_|refine Wd ?_|refine We ?_|refine Wf ?_|refine Wg ?_|refine Wh ?_|refine Wi ?_|refine Wj (by decide) ?_|refine Wa ?_|refine Wk ?_|refine Wl ?_|refine Wm ?_|refine Wn ?_|refine Wo ?_|refine Wp ?_|refine Wq ?_|refine Ww (by simp only[go_sem];done) ?_|((first|refine Ws ?_|refine Wt ?_|refine Wu ?_|refine Wv (by simp only[go_sem];done) ?_);conv=>arg 2;simp only[go_sem])|(refine Wx (by simp only[go_sem];rfl) (by simp only[go_sem];rfl) ?_;first|refine c51 _ _ _ ?_|refine c120' b _ hlen fun s1 g1 => ?_)
    rw [he] at hq ⊢
    repeat first|refine Wr ?_|refine Wb ?_|refine Wc ?_|refine Wd ?_|refine We ?_|refine Wf ?_|refine Wg ?_|refine Wh ?_|refine Wi ?_|refine Wj (by decide) ?_|refine Wa ?_|refine Wk ?_|refine Wl ?_|refine Wm ?_|refine Wn ?_|refine Wo ?_|refine Wp ?_|refine Wq ?_|refine Ww (by simp only[go_sem];done) ?_|((first|refine Ws ?_|refine Wt ?_|refine Wu ?_|refine Wv (by simp only[go_sem];done) ?_);conv=>arg 2;simp only[go_sem])|(refine Wx (by simp only[go_sem];rfl) (by simp only[go_sem];rfl) ?_;first|refine c121 b h k1.ok' k2 fun l s2 g2 g3 g4 => ?_|refine c125 l g2 fun s3 g5 => ?_)
    have hll : ((l.map fun x => x.1).length : Int) < 9223372036854775800 := by rw [List.length_map]; omega
    repeat first|refine Wr ?_|refine Wb ?_|refine Wc ?_|refine Wd ?_|refine We ?_|refine Wf ?_|refine Wg ?_|refine Wh ?_|refine Wi ?_|refine Wj (by decide) ?_|refine Wa ?_|refine Wk ?_|refine Wl ?_|refine Wm ?_|refine Wn ?_|refine Wo ?_|refine Wp ?_|refine Wq ?_|refine Ww (by simp only[go_sem];done) ?_|((first|refine Ws ?_|refine Wt ?_|refine Wu ?_|refine Wv (by simp only[go_sem];done) ?_);conv=>arg 2;simp only[go_sem])|(refine Wx (by simp only[go_sem];rfl) (by simp only[go_sem];rfl) ?_;refine c124 _ (map_ne g3 (atH_ne k1.ok' k3 k2.1)) hll fun lo hi g6 => ?_)
    first|refine w_retQ ?_|refine w_endQ ?_
    conv=>arg 1;simp only[go_sem]
    exact w_res (by simp only [go_sem]) (hq lo hi _ (by simpa [Answer] using ends_map g3 g6) (St.le_trans (St.le_trans g1 g4) g5))
  · have he' : (askE b (0 ≤ h ∧ h ≤ 60) == 0) = false := by simpa using he
    repeat first|refine Wr ?_|refine Wb ?_|refine Wc ?_|refine Wd ?_|refine We ?_|refine Wf ?_|refine Wg ?_|refine Wh ?_|refine Wi ?_|refine Wj (by decide) ?_|refine Wa ?_|refine Wk ?_|refine Wl ?_|refine Wm ?_|refine Wn ?_|refine Wo ?_|refine Wp ?_|refine Wq ?_|refine Ww (by simp only[go_sem,he'];done) ?_|((first|refine Ws ?_|refine Wt ?_|refine Wu ?_|refine Wv (by simp only[go_sem,he'];done) ?_);conv=>arg 2;simp only[go_sem,he'])|(refine Wx (by simp only[go_sem,he'];rfl) (by simp only[go_sem,he'];rfl) ?_;first|refine c51 _ _ _ ?_|refine c120' b _ hlen fun s1 g1 => ?_)
    first|refine w_retQ ?_|refine w_endQ ?_
    conv=>arg 1;simp only[go_sem]
    exact w_res (by simp only [go_sem]) (hq 0 0 s1 (by simp [Answer, he]) g1)
theorem c36 (b : Book) (h : Int) (hlen : (b.notes.length : Int) < 9223372036854775808) (hq : ∀ lo hi s', Answer (askE b (0 ≤ h ∧ h ≤ 60)) (fun n => ∃ x, atH b h x ∧ x.2 = n) lo hi → s ≤ s' → Q (.tup [.agg [.int lo, .int hi], .int (askE b (0 ≤ h ∧ h ≤ 60))]) s') : Call prog (.fn 36 [] []) [bookV b, .int h] s Q := by
  refine Call.fn F36 p36 rfl ?_
  simp only [F36, bookV]
  by_cases he : askE b (0 ≤ h ∧ h ≤ 60) = 0
  · obtain ⟨k1, k2, k3⟩ := askE_zero.1 he
    repeat first|refine Wr ?_|refine Wb ?_|refine Wc ?_|refine Wd ?_|refine We ?_|refine Wf ?_|refine Wg ?_|refine Wh ?_|refine Wi ?_|refine Wj (by decide) ?_|refine Wa ?_|refine Wk ?_|refine Wl ?_|refine Wm ?_|refine Wn ?_|refine Wo ?_|refine Wp ?_|refine Wq ?_|refine Ww (by simp only[go_sem];done) ?_|((first|refine Ws ?_|refine Wt ?_|refine Wu ?_|refine Wv (by simp only[go_sem];done) ?_);conv=>arg 2;simp only[go_sem])|(refine Wx (by simp only[go_sem];rfl) (by simp only[go_sem];rfl) ?_;first|refine c51 _ _ _ ?_|refine c120' b _ hlen fun s1 g1 => ?_)
    rw [he] at hq ⊢
    repeat first|refine Wr ?_|refine Wb ?_|refine Wc ?_|refine Wd ?_|refine We ?_|refine Wf ?_|refine Wg ?_|refine Wh ?_|refine Wi ?_|refine Wj (by decide) ?_|refine Wa ?_|refine Wk ?_|refine Wl ?_|refine Wm ?_|refine Wn ?_|refine Wo ?_|refine Wp ?_|refine Wq ?_|refine Ww (by simp only[go_sem];done) ?_|((first|refine Ws ?_|refine Wt ?_|refine Wu ?_|refine Wv (by simp only[go_sem];done) ?_);conv=>arg 2;simp only[go_sem])|(refine Wx (by simp only[go_sem];rfl) (by simp only[go_sem];rfl) ?_;first|refine c121 b h k1.ok' k2 fun l s2 g2 g3 g4 => ?_|refine c127 l g2 fun s3 g5 => ?_)
    have hll : ((l.map fun x => x.2).length : Int) < 9223372036854775800 := by rw [List.length_map]; omega
    repeat first|refine Wr ?_|refine Wb ?_|refine Wc ?_|refine Wd ?_|refine We ?_|refine Wf ?_|refine Wg ?_|refine Wh ?_|refine Wi ?_|refine Wj (by decide) ?_|refine Wa ?_|refine Wk ?_|refine Wl ?_|refine Wm ?_|refine Wn ?_|refine Wo ?_|refine Wp ?_|refine Wq ?_|refine Ww (by simp only[go_sem];done) ?_|((first|refine Ws ?_|refine Wt ?_|refine Wu ?_|refine Wv (by simp only[go_sem];done) ?_);conv=>arg 2;simp only[go_sem])|(refine Wx (by simp only[go_sem];rfl) (by simp only[go_sem];rfl) ?_;refine c124 _ (map_ne g3 (atH_ne k1.ok' k3 k2.1)) hll fun lo hi g6 => ?_)
    first|refine w_retQ ?_|refine w_endQ ?_
    conv=>arg 1;simp only[go_sem]
    exact w_res (by simp only [go_sem]) (hq lo hi _ (by simpa [Answer] using ends_map g3 g6) (St.le_trans (St.le_trans g1 g4) g5))
  · have he' : (askE b (0 ≤ h ∧ h ≤ 60) == 0) = false := by simpa using he
    repeat first|refine Wr ?_|refine Wb ?_|refine Wc ?_|refine Wd ?_|refine We ?_|refine Wf ?_|refine Wg ?_|refine Wh ?_|refine Wi ?_|refine Wj (by decide) ?_|refine Wa ?_|refine Wk ?_|refine Wl ?_|refine Wm ?_|refine Wn ?_|refine Wo ?_|refine Wp ?_|refine Wq ?_|refine Ww (by simp only[go_sem,he'];done) ?_|((first|refine Ws ?_|refine Wt ?_|refine Wu ?_|refine Wv (by simp only[go_sem,he'];done) ?_);conv=>arg 2;simp only[go_sem,he'])|(refine Wx (by simp only[go_sem,he'];rfl) (by simp only[go_sem,he'];rfl) ?_;first|refine c51 _ _ _ ?_|refine c120' b _ hlen fun s1 g1 => ?_)
    first|refine w_retQ ?_|refine w_endQ ?_
    conv=>arg 1;simp only[go_sem]
    exact w_res (by simp only [go_sem]) (hq 0 0 s1 (by simp [Answer, he]) g1)

open Classical in
theorem c32 (b : Book) (h many : Int) (hlen : (b.notes.length : Int) < 9223372036854775808) (hq : ∀ s', s ≤ s' → Q (.tup [.bool (decide (askE b ((0 ≤ h ∧ h ≤ 60) ∧ 0 ≤ many ∧ many ≤ 400) = 0 ∧ ∃ x, atH b h x ∧ x.1 = many)), .int (askE b ((0 ≤ h ∧ h ≤ 60) ∧ 0 ≤ many ∧ many ≤ 400))]) s') :
    Call prog (.fn 32 [] []) [bookV b, .int h, .int many] s Q := by
  refine Call.fn F32 p32 rfl ?_
  simp only [F32, bookV]
  generalize hE : askE b ((0 ≤ h ∧ h ≤ 60) ∧ 0 ≤ many ∧ many ≤ 400) = E at hq
  by_cases he : E = 0
  · subst he
    obtain ⟨k1, ⟨k2, k4⟩, k3⟩ := askE_zero.1 hE
    have hE' : askE b (0 ≤ many ∧ many ≤ 400) = 0 := askE_zero.2 ⟨k1, k4, k3⟩
    repeat first|refine Wr ?_|refine Wb ?_|refine Wc ?_|refine Wd ?_|refine We ?_|refine Wf ?_|refine Wg ?_|refine Wh ?_|refine Wi ?_|refine Wj (by decide) ?_|refine Wa ?_|refine Wk ?_|refine Wl ?_|refine Wm ?_|refine Wn ?_|refine Wo ?_|refine Wp ?_|refine Wq ?_|refine Ww (by simp only[go_sem,k2];done) ?_|((first|refine Ws ?_|refine Wt ?_|refine Wu ?_|refine Wv (by simp only[go_sem,k2];done) ?_);conv=>arg 2;simp only[go_sem,k2])|(refine Wx (by simp only[go_sem,k2];rfl) (by simp only[go_sem,k2];rfl) ?_;first|refine c51 _ _ _ ?_|refine c120' b _ hlen fun s1 g1 => ?_)
    rw [hE']
    repeat first|refine Wr ?_|refine Wb ?_|refine Wc ?_|refine Wd ?_|refine We ?_|refine Wf ?_|refine Wg ?_|refine Wh ?_|refine Wi ?_|refine Wj (by decide) ?_|refine Wa ?_|refine Wk ?_|refine Wl ?_|refine Wm ?_|refine Wn ?_|refine Wo ?_|refine Wp ?_|refine Wq ?_|refine Ww (by simp only[go_sem];done) ?_|((first|refine Ws ?_|refine Wt ?_|refine Wu ?_|refine Wv (by simp only[go_sem];done) ?_);conv=>arg 2;simp only[go_sem])|(refine Wx (by simp only[go_sem];rfl) (by simp only[go_sem];rfl) ?_;refine c121 b h k1.ok' k2 fun l s2 g2 g3 g4 => ?_)
    repeat first|refine Wr ?_|refine Wb ?_|refine Wc ?_|refine Wd ?_|refine We ?_|refine Wf ?_|refine Wg ?_|refine Wh ?_|refine Wi ?_|refine Wj (by decide) ?_|refine Wa ?_|refine Wk ?_|refine Wl ?_|refine Wm ?_|refine Wn ?_|refine Wo ?_|refine Wp ?_|refine Wq ?_|refine Ww (by simp only[go_sem];done) ?_|((first|refine Ws ?_|refine Wt ?_|refine Wu ?_|refine Wv (by simp only[go_sem];done) ?_);conv=>arg 2;simp only[go_sem])
    refine w_iter (fun n e s' => ∃ (a r : List X), l = a ++ r ∧ r.length = n ∧ e 2 = .int many ∧ e 9 = .lst (statesV l) .any ∧ e 10 = .int a.length ∧ (∀ x ∈ a, ¬ x.1 = many) ∧ s' = s2) l.length ?_ ?_
    · refine ⟨[], l, rfl, rfl, ?_, ?_, ?_, by simp, rfl⟩
      any_goals (simp only [go_sem, List.length_nil, Int.natCast_zero]; done)
    · rintro n e s' ⟨a, r, har, hrn, e2, e9, e10, hm, rfl⟩
      cases r with
      | nil =>
        have hlt : ¬ ((a.length : Int) < (l.length : Int)) := by rw [har]; simp
        repeat first|refine Wr ?_|refine Wb ?_|refine Wc ?_|refine Wd ?_|refine We ?_|refine Wf ?_|refine Wg ?_|refine Wh ?_|refine Wi ?_|refine Wj (by decide) ?_|refine Wa ?_|refine Wk ?_|refine Wl ?_|refine Wm ?_|refine Wn ?_|refine Wo ?_|refine Wp ?_|refine Wq ?_|refine Ww (by simp only[go_sem,e2,e9,e10,statesV_length,hlt];done) ?_|((first|refine Ws ?_|refine Wt ?_|refine Wu ?_|refine Wv (by simp only[go_sem,e2,e9,e10,statesV_length,hlt];done) ?_);conv=>arg 2;simp only[go_sem,e2,e9,e10,statesV_length,hlt])
        first|refine w_retQ ?_|refine w_endQ ?_
        conv=>arg 1;simp only[go_sem]
        have hna : l = a := by simpa using har
        refine w_res ?_ (hq s' (St.le_trans g1 g4))
        have : ¬ ∃ x, atH b h x ∧ x.1 = many := by
          rintro ⟨x, hx, hxm⟩
          exact hm x (by rw [← hna]; exact (g3 x).2 hx) hxm
        simp only [go_sem, this, and_false, decide_false]
      | cons x r =>
        have hlt : ((a.length : Int) < (l.length : Int)) := by rw [har]; simp; omega
        have hx : (statesV l)[((a.length : Int)).toNat]? = some (.agg [.int x.1, .int x.2]) := by rw [har]; exact statesV_at
        have hp := len_nonneg a
        have hal : (a.length : Int) + 1 ≤ l.length := by omega
        have hw : w64 ((a.length : Int) + 1) = (a ++ [x]).length := by rw [w64_id (by omega)]; simp
        by_cases hxm : x.1 = many
        · have hxm' : (x.1 == many) = true := by simpa using hxm
          repeat first|refine Wr ?_|refine Wb ?_|refine Wc ?_|refine Wd ?_|refine We ?_|refine Wf ?_|refine Wg ?_|refine Wh ?_|refine Wi ?_|refine Wj (by decide) ?_|refine Wa ?_|refine Wk ?_|refine Wl ?_|refine Wm ?_|refine Wn ?_|refine Wo ?_|refine Wp ?_|refine Wq ?_|refine Ww (by simp only[go_sem,e2,e9,e10,statesV_length,hlt,hx,hp,hxm'];done) ?_|((first|refine Ws ?_|refine Wt ?_|refine Wu ?_|refine Wv (by simp only[go_sem,e2,e9,e10,statesV_length,hlt,hx,hp,hxm'];done) ?_);conv=>arg 2;simp only[go_sem,e2,e9,e10,statesV_length,hlt,hx,hp,hxm'])
          first|refine w_retQ ?_|refine w_endQ ?_
          conv=>arg 1;simp only[go_sem]
          refine w_res ?_ (hq s' (St.le_trans g1 g4))
          have : ∃ x, atH b h x ∧ x.1 = many := ⟨x, (g3 x).1 (by rw [har]; simp), hxm⟩
          simp only [go_sem, this, and_self, decide_true]
        · have hxm' : (x.1 == many) = false := by simpa using hxm
          repeat first|refine Wr ?_|refine Wb ?_|refine Wc ?_|refine Wd ?_|refine We ?_|refine Wf ?_|refine Wg ?_|refine Wh ?_|refine Wi ?_|refine Wj (by decide) ?_|refine Wa ?_|refine Wk ?_|refine Wl ?_|refine Wm ?_|refine Wn ?_|refine Wo ?_|refine Wp ?_|refine Wq ?_|refine Ww (by simp only[go_sem,e2,e9,e10,statesV_length,hlt,hx,hp,hxm',hw];done) ?_|((first|refine Ws ?_|refine Wt ?_|refine Wu ?_|refine Wv (by simp only[go_sem,e2,e9,e10,statesV_length,hlt,hx,hp,hxm',hw];done) ?_);conv=>arg 2;simp only[go_sem,e2,e9,e10,statesV_length,hlt,hx,hp,hxm',hw])
          refine ⟨r.length, by simp at hrn; omega, a ++ [x], r, by rw [har]; simp, rfl, ?_, ?_, ?_, fun z hz => ?_, rfl⟩
          any_goals (simp only [go_sem, e2, e9, e10, hw]; done)
          simp only [List.mem_append, List.mem_singleton] at hz
          rcases hz with hz | rfl
          · exact hm z hz
          · exact hxm
  · have he' : (E == 0) = false := by simpa using he
    have hend : ∀ s', s ≤ s' → Q (.tup [.bool false, .int E]) s' := fun s' h => by
      have := hq s' h
      simpa only [he, false_and, decide_false] using this
    by_cases k2 : 0 ≤ h ∧ h ≤ 60
    · have hE' : askE b (0 ≤ many ∧ many ≤ 400) = E := by rw [← hE]; simp only [k2, true_and, and_self]
      have hE0 : (askE b (0 ≤ many ∧ many ≤ 400) == 0) = false := by rw [hE']; exact he'
      repeat first|refine Wr ?_|refine Wb ?_|refine Wc ?_|refine Wd ?_|refine We ?_|refine Wf ?_|refine Wg ?_|refine Wh ?_|refine Wi ?_|refine Wj (by decide) ?_|refine Wa ?_|refine Wk ?_|refine Wl ?_|refine Wm ?_|refine Wn ?_|refine Wo ?_|refine Wp ?_|refine Wq ?_|refine Ww (by simp only[go_sem,k2,hE0];done) ?_|((first|refine Ws ?_|refine Wt ?_|refine Wu ?_|refine Wv (by simp only[go_sem,k2,hE0];done) ?_);conv=>arg 2;simp only[go_sem,k2,hE0])|(refine Wx (by simp only[go_sem,k2,hE0];rfl) (by simp only[go_sem,k2,hE0];rfl) ?_;first|refine c51 _ _ _ ?_|refine c120' b _ hlen fun s1 g1 => ?_)
      first|refine w_retQ ?_|refine w_endQ ?_
      conv=>arg 1;simp only[go_sem]
      exact w_res (by simp only [go_sem, hE']) (hend s1 g1)
    · have hE' : askE b False = E := by rw [← hE]; simp only [k2, false_and]
      have hE0 : (askE b False == 0) = false := by rw [hE']; exact he'
      repeat first|refine Wr ?_|refine Wb ?_|refine Wc ?_|refine Wd ?_|refine We ?_|refine Wf ?_|refine Wg ?_|refine Wh ?_|refine Wi ?_|refine Wj (by decide) ?_|refine Wa ?_|refine Wk ?_|refine Wl ?_|refine Wm ?_|refine Wn ?_|refine Wo ?_|refine Wp ?_|refine Wq ?_|refine Ww (by simp only[go_sem,k2,hE0];done) ?_|((first|refine Ws ?_|refine Wt ?_|refine Wu ?_|refine Wv (by simp only[go_sem,k2,hE0];done) ?_);conv=>arg 2;simp only[go_sem,k2,hE0])|(refine Wx (by simp only[go_sem,k2,hE0];rfl) (by simp only[go_sem,k2,hE0];rfl) ?_;first|refine c51 _ _ _ ?_|refine c120 b _ hlen fun s1 g1 => ?_)
      first|refine w_retQ ?_|refine w_endQ ?_
      conv=>arg 1;simp only[go_sem]
      exact w_res (by simp only [go_sem, hE']) (hend s1 g1)
end Go.Hu.Sn

set_option linter.unusedSimpArgs false
set_option linter.unusedVariables false
namespace Go.Hu.Sn
attribute [local irreducible] wpS wpIs wpI
attribute [local go_sem] Nat.mul_one Nat.one_mul Nat.zero_add Nat.add_zero Nat.zero_mul and_self and_true true_and decide_true decide_false Bool.false_eq_true if_true if_false Int.cast_ofNat_Int Int.zero_le_ofNat Int.le_refl Int.reduceLT Int.reduceLE Int.reduceToNat

variable {s : St} {Q : V → St → Prop}

theorem c120t (b : Book) (hlen : (b.notes.length : Int) < 9223372036854775808) (hq : ∀ s', s ≤ s' → Q (.int (askE b True)) s') : Call prog (.fn 120 [] []) [bookV b, .bool true] s Q :=
  c120 b true hlen (by simpa using hq)

theorem c39 (b : Book) (hlen : (b.notes.length : Int) < 9223372036854775808) (hq : ∀ n e s', EmptyIs b n e → s ≤ s' → Q (.tup [.int n, .int e]) s') : Call prog (.fn 39 [] []) [bookV b] s Q := by
  refine Call.fn F39 p39 rfl ?_
  simp only [F39, bookV]
  by_cases he : askE b True = 0
  · obtain ⟨k1, _, k3⟩ := askE_zero.1 he
    have he' : (askE b True == 0) = true := by simpa using he
    repeat first|refine Wr ?_|refine Wb ?_|refine Wc ?_|refine Wd ?_|refine We ?_|refine Wf ?_|refine Wg ?_|refine Wh ?_|refine Wi ?_|refine Wj (by decide) ?_|refine Wa ?_|refine Wk ?_|refine Wl ?_|refine Wm ?_|refine Wn ?_|refine Wo ?_|refine Wp ?_|refine Wq ?_|refine Ww (by simp only[go_sem,he'];done) ?_|((first|refine Ws ?_|refine Wt ?_|refine Wu ?_|refine Wv (by simp only[go_sem,he'];done) ?_);conv=>arg 2;simp only[go_sem,he'])|(refine Wx (by simp only[go_sem,he'];rfl) (by simp only[go_sem,he'];rfl) ?_;refine c120t b hlen fun s1 g1 => ?_)
    refine w_iter (fun n e s' => ∃ h : Int, n = (61 - h).toNat ∧ (0 ≤ h ∧ h ≤ 61) ∧ e 1 = .agg [.int b.lo, .int b.hi, .lst (notesV b.notes) .any] ∧ e 5 = .int h ∧ (∀ h', 0 ≤ h' → h' < h → ¬ gone b h') ∧ s ≤ s') 61 ?_ ?_
    · refine ⟨0, by simp, by omega, ?_, ?_, fun h' h1 h2 => by omega, g1⟩
      any_goals (simp only [go_sem]; done)
    · rintro n e s' ⟨h, hn, hh, e1, e5, hm, hle⟩
      by_cases hlt : h ≤ 60
      · have hh2 : 0 ≤ h ∧ h ≤ 60 := by omega
        have hw : w64 (h + 1) = h + 1 := w64_id (by omega)
        repeat first|refine Wr ?_|refine Wb ?_|refine Wc ?_|refine Wd ?_|refine We ?_|refine Wf ?_|refine Wg ?_|refine Wh ?_|refine Wi ?_|refine Wj (by decide) ?_|refine Wa ?_|refine Wk ?_|refine Wl ?_|refine Wm ?_|refine Wn ?_|refine Wo ?_|refine Wp ?_|refine Wq ?_|refine Ww (by simp only[go_sem,e1,e5,hlt];done) ?_|((first|refine Ws ?_|refine Wt ?_|refine Wu ?_|refine Wv (by simp only[go_sem,e1,e5,hlt];done) ?_);conv=>arg 2;simp only[go_sem,e1,e5,hlt])|(refine Wx (by simp only[go_sem,e1,e5,hlt];rfl) (by simp only[go_sem,e1,e5,hlt];rfl) ?_;first|refine c121 b h k1.ok' hh2 fun l s2 g2 g3 g4 => ?_|refine c125 l g2 fun s3 g5 => ?_)
        have hll : ((l.map fun x => x.1).length : Int) < 9223372036854775800 := by rw [List.length_map]; omega
        refine w_call (by simp only [go_sem]; rfl) (by simp only [go_sem]; rfl) ?_
        refine c124 _ (map_ne g3 (atH_ne k1.ok' k3 hh2.1)) hll fun lo hi g6 => ?_
        have hgo := gone_ends k1.ok' hh2.1 (ends_map g3 g6)
        have hle3 := St.le_trans (St.le_trans hle g4) g5
        by_cases hz : hi = 0
        · have hz' : (hi == 0) = true := by simpa using hz
          repeat first|refine Wr ?_|refine Wb ?_|refine Wc ?_|refine Wd ?_|refine We ?_|refine Wf ?_|refine Wg ?_|refine Wh ?_|refine Wi ?_|refine Wj (by decide) ?_|refine Wa ?_|refine Wk ?_|refine Wl ?_|refine Wm ?_|refine Wn ?_|refine Wo ?_|refine Wp ?_|refine Wq ?_|refine Ww (by simp only[go_sem,e1,e5,hz'];done) ?_|((first|refine Ws ?_|refine Wt ?_|refine Wu ?_|refine Wv (by simp only[go_sem,e1,e5,hz'];done) ?_);conv=>arg 2;simp only[go_sem,e1,e5,hz'])
          first|refine w_retQ ?_|refine w_endQ ?_
          conv=>arg 1;simp only[go_sem]
          exact w_res (by simp only [go_sem]) (hq h 0 _ (.inr (.inl ⟨he, hh2, rfl, hgo.2 hz, hm⟩)) hle3)
        · have hz' : (hi == 0) = false := by simpa using hz
          repeat first|refine Wr ?_|refine Wb ?_|refine Wc ?_|refine Wd ?_|refine We ?_|refine Wf ?_|refine Wg ?_|refine Wh ?_|refine Wi ?_|refine Wj (by decide) ?_|refine Wa ?_|refine Wk ?_|refine Wl ?_|refine Wm ?_|refine Wn ?_|refine Wo ?_|refine Wp ?_|refine Wq ?_|refine Ww (by simp only[go_sem,e1,e5,hz',hw];done) ?_|((first|refine Ws ?_|refine Wt ?_|refine Wu ?_|refine Wv (by simp only[go_sem,e1,e5,hz',hw];done) ?_);conv=>arg 2;simp only[go_sem,e1,e5,hz',hw])
          refine ⟨_, ?_, h + 1, rfl, by omega, ?_, ?_, fun h' h1 h2 => ?_, hle3⟩
          any_goals (simp only [go_sem, e1, e5, hw]; done)
          · omega
          · by_cases h3 : h' = h
            · subst h3
              exact fun h4 => hz (hgo.1 h4)
            · exact hm h' h1 (by omega)
      · repeat first|refine Wr ?_|refine Wb ?_|refine Wc ?_|refine Wd ?_|refine We ?_|refine Wf ?_|refine Wg ?_|refine Wh ?_|refine Wi ?_|refine Wj (by decide) ?_|refine Wa ?_|refine Wk ?_|refine Wl ?_|refine Wm ?_|refine Wn ?_|refine Wo ?_|refine Wp ?_|refine Wq ?_|refine Ww (by simp only[go_sem,e1,e5,hlt];done) ?_|((first|refine Ws ?_|refine Wt ?_|refine Wu ?_|refine Wv (by simp only[go_sem,e1,e5,hlt];done) ?_);conv=>arg 2;simp only[go_sem,e1,e5,hlt])
        first|refine w_retQ ?_|refine w_endQ ?_
        conv=>arg 1;simp only[go_sem]
        exact w_res (by simp only [go_sem]) (hq 0 4 _ (.inr (.inr ⟨he, rfl, rfl, fun h' h1 h2 => hm h' h1 (by omega)⟩)) hle)
  · have he' : (askE b True == 0) = false := by simpa using he
    repeat first|refine Wr ?_|refine Wb ?_|refine Wc ?_|refine Wd ?_|refine We ?_|refine Wf ?_|refine Wg ?_|refine Wh ?_|refine Wi ?_|refine Wj (by decide) ?_|refine Wa ?_|refine Wk ?_|refine Wl ?_|refine Wm ?_|refine Wn ?_|refine Wo ?_|refine Wp ?_|refine Wq ?_|refine Ww (by simp only[go_sem,he'];done) ?_|((first|refine Ws ?_|refine Wt ?_|refine Wu ?_|refine Wv (by simp only[go_sem,he'];done) ?_);conv=>arg 2;simp only[go_sem,he'])|(refine Wx (by simp only[go_sem,he'];rfl) (by simp only[go_sem,he'];rfl) ?_;refine c120t b hlen fun s1 g1 => ?_)
    first|refine w_retQ ?_|refine w_endQ ?_
    conv=>arg 1;simp only[go_sem]
    exact w_res (by simp only [go_sem]) (hq 0 _ _ (.inl ⟨he, rfl, rfl⟩) g1)

set_option maxHeartbeats 1000000 in
theorem c41 (b : Book) (hlen : (b.notes.length : Int) < 9223372036854775808) (hq : ∀ lo hi s', Answer (askE b True) (fun n => ∃ x, run (begun b) 0 b.notes x ∧ save b x = n) lo hi → s ≤ s' → Q (.tup [.agg [.int lo, .int hi], .int (askE b True)]) s') : Call prog (.fn 41 [] []) [bookV b] s Q := by
  refine Call.fn F41 p41 rfl ?_
  simp only [F41, bookV]
  by_cases he : askE b True = 0
  · obtain ⟨k1, _, k3⟩ := askE_zero.1 he
    have he' : (askE b True == 0) = true := by simpa using he
    obtain ⟨hb1, hb2, hb3⟩ := id k1
    have hk9 : 0 ≤ (0 : Int) ∧ 0 + (b.notes.length : Int) ≤ 9 := by omega
    repeat first|refine Wr ?_|refine Wb ?_|refine Wc ?_|refine Wd ?_|refine We ?_|refine Wf ?_|refine Wg ?_|refine Wh ?_|refine Wi ?_|refine Wj (by decide) ?_|refine Wa ?_|refine Wk ?_|refine Wl ?_|refine Wm ?_|refine Wn ?_|refine Wo ?_|refine Wp ?_|refine Wq ?_|refine Ww (by simp only[go_sem,he'];done) ?_|((first|refine Ws ?_|refine Wt ?_|refine Wu ?_|refine Wv (by simp only[go_sem,he'];done) ?_);conv=>arg 2;simp only[go_sem,he'])|(refine Wx (by simp only[go_sem,he'];rfl) (by simp only[go_sem,he'];rfl) ?_;first|refine c120t b hlen fun s1 g1 => ?_|refine c133 b hb1 fun l1 s2 g2 g3 g4 => ?_)
    have hbd1 := (begun_bd hb1).of g3
    repeat first|refine Wr ?_|refine Wb ?_|refine Wc ?_|refine Wd ?_|refine We ?_|refine Wf ?_|refine Wg ?_|refine Wh ?_|refine Wi ?_|refine Wj (by decide) ?_|refine Wa ?_|refine Wk ?_|refine Wl ?_|refine Wm ?_|refine Wn ?_|refine Wo ?_|refine Wp ?_|refine Wq ?_|refine Ww (by simp only[go_sem];done) ?_|((first|refine Ws ?_|refine Wt ?_|refine Wu ?_|refine Wv (by simp only[go_sem];done) ?_);conv=>arg 2;simp only[go_sem])|(refine Wx (by simp only[go_sem];rfl) (by simp only[go_sem];rfl) ?_;refine c132 l1 0 0 b.notes g2 hbd1 hk9 hb3 (Int.le_refl 0) fun l s3 g5 g6 g7 => ?_)
    have g6' : ∀ y, y ∈ l ↔ run (begun b) 0 b.notes y := fun y => (g6 y).trans (run_congr _ 0 g3 y)
    have hbd := (run_bd (begun_bd hb1) (Int.le_refl 0) hb3).of g6'
    have hll := small_len g5 (hbd.small (by omega))
    have hhb := hourOf_le hb3
    have hkh : 0 ≤ 60 - hourOf 0 b.notes ∧ 60 - hourOf 0 b.notes ≤ 60 := by omega
    have hw2 : w64 (60 - hourOf 0 b.notes) = 60 - hourOf 0 b.notes := w64_id (by omega)
    repeat first|refine Wr ?_|refine Wb ?_|refine Wc ?_|refine Wd ?_|refine We ?_|refine Wf ?_|refine Wg ?_|refine Wh ?_|refine Wi ?_|refine Wj (by decide) ?_|refine Wa ?_|refine Wk ?_|refine Wl ?_|refine Wm ?_|refine Wn ?_|refine Wo ?_|refine Wp ?_|refine Wq ?_|refine Ww (by simp only[go_sem];done) ?_|((first|refine Ws ?_|refine Wt ?_|refine Wu ?_|refine Wv (by simp only[go_sem];done) ?_);conv=>arg 2;simp only[go_sem])
    refine w_iter (fun n e s' => ∃ (a r : List X) (c : Cap), l = a ++ r ∧ r.length = n ∧ (∃ u v, e 2 = .agg [.int u, .int v]) ∧ e 5 = .lst (statesV l) .any ∧ e 6 = .int (hourOf 0 b.notes) ∧ e 7 = .lst (intsV (a.map (save b))) c ∧ e 8 = .int a.length ∧ Grow s3 s' c a.length) l.length ?_ ?_
    · refine ⟨[], l, .exact, rfl, rfl, ⟨0, 0, ?_⟩, ?_, ?_, ?_, ?_, .start⟩
      any_goals (simp only [go_sem, List.length_nil, Int.natCast_zero]; done)
      simp only [go_sem]; rfl
    · rintro n e s' ⟨a, r, c, har, hrn, ⟨u, v, e2⟩, e5, e6, e7, e8, hg⟩
      cases r with
      | nil =>
        have hlt : ¬ ((a.length : Int) < (l.length : Int)) := by rw [har]; simp
        have hna : l = a := by simpa using har
        have hne : a.map (save b) ≠ [] := by
          obtain ⟨x, hx⟩ := k3
          have := List.length_pos_of_mem ((g6' x).2 hx)
          intro h0
          simp at h0
          rw [hna, h0] at this
          simp at this
        have hl8 : ((a.map (save b)).length : Int) < 9223372036854775800 := by rw [List.length_map, ← hna]; omega
        repeat first|refine Wr ?_|refine Wb ?_|refine Wc ?_|refine Wd ?_|refine We ?_|refine Wf ?_|refine Wg ?_|refine Wh ?_|refine Wi ?_|refine Wj (by decide) ?_|refine Wa ?_|refine Wk ?_|refine Wl ?_|refine Wm ?_|refine Wn ?_|refine Wo ?_|refine Wp ?_|refine Wq ?_|refine Ww (by simp only[go_sem,e2,e5,e6,e7,e8,statesV_length,hlt];done) ?_|((first|refine Ws ?_|refine Wt ?_|refine Wu ?_|refine Wv (by simp only[go_sem,e2,e5,e6,e7,e8,statesV_length,hlt];done) ?_);conv=>arg 2;simp only[go_sem,e2,e5,e6,e7,e8,statesV_length,hlt])|(refine Wx (by simp only[go_sem,e2,e5,e6,e7,e8,statesV_length,hlt];rfl) (by simp only[go_sem,e2,e5,e6,e7,e8,statesV_length,hlt];rfl) ?_;refine c124 _ hne hl8 fun lo hi g8 => ?_)
        first|refine w_retQ ?_|refine w_endQ ?_
        conv=>arg 1;simp only[go_sem]
        rw [he] at hq
        refine w_res (by simp only [go_sem]) (hq lo hi _ ?_ (St.le_trans (St.le_trans (St.le_trans g1 g4) g7) hg.le))
        have hm : ∀ n, n ∈ a.map (save b) ↔ ∃ x, run (begun b) 0 b.notes x ∧ save b x = n := fun n => by rw [← hna]; simp only [List.mem_map, g6']
        simp only [Answer, if_true, Ends]
        simp only [EndsL, hm] at g8
        exact g8
      | cons x r =>
        have hlt : ((a.length : Int) < (l.length : Int)) := by rw [har]; simp; omega
        have hx : (statesV l)[((a.length : Int)).toNat]? = some (.agg [.int x.1, .int x.2]) := by rw [har]; exact statesV_at
        have hp := len_nonneg a
        have hal : (a.length : Int) + 1 ≤ l.length := by omega
        have hw : w64 ((a.length : Int) + 1) = (a ++ [x]).length := by rw [w64_id (by omega)]; simp
        have hmax : (intsV (a.map (save b))).length + 1 ≤ maxLst := by rw [intsV_length, List.length_map]; simp only [maxLst]; omega
        have hbx := hbd x (by rw [har]; simp)
        have hsx : Sm x := by unfold Sm; omega
        have hpb := pass_bd hbx hkh.1
        obtain ⟨y, hy⟩ : ∃ y, pass x (60 - hourOf 0 b.notes) = y := ⟨_, rfl⟩
        rw [hy] at hpb
        have hw3 : w64 (x.1 - y.1) = save b x := by unfold save; rw [hy]; exact w64_id (by omega)
        repeat first|refine Wr ?_|refine Wb ?_|refine Wc ?_|refine Wd ?_|refine We ?_|refine Wf ?_|refine Wg ?_|refine Wh ?_|refine Wi ?_|refine Wj (by decide) ?_|refine Wa ?_|refine Wk ?_|refine Wl ?_|refine Wm ?_|refine Wn ?_|refine Wo ?_|refine Wp ?_|refine Wq ?_|refine Ww (by simp only[go_sem,e2,e5,e6,e7,e8,statesV_length,hlt,hx,hp,hw2,hw3];done) ?_|((first|refine Ws ?_|refine Wt ?_|refine Wu ?_|refine Wv (by simp only[go_sem,e2,e5,e6,e7,e8,statesV_length,hlt,hx,hp,hw2,hw3];done) ?_);conv=>arg 2;simp only[go_sem,e2,e5,e6,e7,e8,statesV_length,hlt,hx,hp,hw2,hw3])|(refine Wx (by simp only[go_sem,e2,e5,e6,e7,e8,statesV_length,hlt,hx,hp,hw2,hw3];rfl) (by simp only[go_sem,e2,e5,e6,e7,e8,statesV_length,hlt,hx,hp,hw2,hw3];rfl) ?_;refine c134' hy hsx hkh ?_)
        refine w_append1 (xs := intsV (a.map (save b))) (y := .int (save b x)) (c := c) rfl (by simp only [go_sem, e7]) (by simp only [go_sem] <;> rfl) hmax (hd_ints _) rfl rfl (by rw [intsV_length, List.length_map]; exact hg.room) fun c' s4 g => ?_
        rw [intsV_length, List.length_map] at g
        repeat first|refine Wr ?_|refine Wb ?_|refine Wc ?_|refine Wd ?_|refine We ?_|refine Wf ?_|refine Wg ?_|refine Wh ?_|refine Wi ?_|refine Wj (by decide) ?_|refine Wa ?_|refine Wk ?_|refine Wl ?_|refine Wm ?_|refine Wn ?_|refine Wo ?_|refine Wp ?_|refine Wq ?_|refine Ww (by simp only[go_sem,e2,e5,e6,e7,e8,hw];done) ?_|((first|refine Ws ?_|refine Wt ?_|refine Wu ?_|refine Wv (by simp only[go_sem,e2,e5,e6,e7,e8,hw];done) ?_);conv=>arg 2;simp only[go_sem,e2,e5,e6,e7,e8,hw])
        refine ⟨r.length, by simp at hrn; omega, a ++ [x], r, c', by rw [har]; simp, rfl, ⟨u, v, ?_⟩, ?_, ?_, ?_, ?_, by simpa using hg.step g⟩
        any_goals (simp only [go_sem, e2, e5, e6, e7, e8, hw]; done)
        simp only [go_sem, List.map_append, intsV_append]; rfl
  · have he' : (askE b True == 0) = false := by simpa using he
    repeat first|refine Wr ?_|refine Wb ?_|refine Wc ?_|refine Wd ?_|refine We ?_|refine Wf ?_|refine Wg ?_|refine Wh ?_|refine Wi ?_|refine Wj (by decide) ?_|refine Wa ?_|refine Wk ?_|refine Wl ?_|refine Wm ?_|refine Wn ?_|refine Wo ?_|refine Wp ?_|refine Wq ?_|refine Ww (by simp only[go_sem,he'];done) ?_|((first|refine Ws ?_|refine Wt ?_|refine Wu ?_|refine Wv (by simp only[go_sem,he'];done) ?_);conv=>arg 2;simp only[go_sem,he'])|(refine Wx (by simp only[go_sem,he'];rfl) (by simp only[go_sem,he'];rfl) ?_;refine c120t b hlen fun s1 g1 => ?_)
    first|refine w_retQ ?_|refine w_endQ ?_
    conv=>arg 1;simp only[go_sem]
    exact w_res (by simp only [go_sem]) (hq 0 0 s1 (by simp [Answer, he]) g1)

theorem before_end {h : Int} {a : List Note} (ha : ∀ n ∈ a, n.hour ≤ h) : before h a = a ∧ later h a = [] := by
  have h1 : later h a = [] := by
    cases hl : later h a with
    | nil => rfl
    | cons y r =>
      have h2 := later_first hl
      have h3 := before_later h a
      rw [hl] at h3
      have := ha y (by rw [← h3]; simp)
      omega
  have h3 := before_later h a
  rw [h1] at h3
  exact ⟨by simpa using h3, h1⟩
theorem before_cut {h : Int} : ∀ {a : List Note} {y : Note} {r : List Note}, (∀ n ∈ a, n.hour ≤ h) → ¬ y.hour ≤ h → before h (a ++ y :: r) = a ∧ later h (a ++ y :: r) = y :: r
  | [], y, r, _, hy => by
    simp [before, later, List.takeWhile_cons, List.dropWhile_cons, hy]
  | n :: a, y, r, ha, hy => by
    have h1 := ha n (by simp)
    obtain ⟨h2, h3⟩ := before_cut (a := a) (y := y) (r := r) (fun m hm => ha m (by simp [hm])) hy
    simp only [before, later] at h2 h3 ⊢
    simp only [List.cons_append, List.takeWhile_cons, List.dropWhile_cons, h1, decide_true, if_true, h2, h3, and_self]
theorem hd_notes' (ns : List Note) : hd (notesV ns) 4 = true := hd_notes ns

set_option maxHeartbeats 1000000 in
theorem c137 (b : Book) (x : Note) (hlen : b.notes.length ≤ 100) (hq : ∀ s', s ≤ s' → Q (bookV (withN b x)) s') : Call prog (.fn 137 [] []) [bookV b, noteV x] s Q := by
  refine Call.fn F137 p137 rfl ?_
  simp only [F137, bookV, noteV]
  repeat first|refine Wr ?_|refine Wb ?_|refine Wc ?_|refine Wd ?_|refine We ?_|refine Wf ?_|refine Wg ?_|refine Wh ?_|refine Wi ?_|refine Wj (by decide) ?_|refine Wa ?_|refine Wk ?_|refine Wl ?_|refine Wm ?_|refine Wn ?_|refine Wo ?_|refine Wp ?_|refine Wq ?_|refine Ww (by simp only[go_sem];done) ?_|((first|refine Ws ?_|refine Wt ?_|refine Wu ?_|refine Wv (by simp only[go_sem];done) ?_);conv=>arg 2;simp only[go_sem])
  refine w_iter (fun n e s' => ∃ (a r cur : List Note) (c : Cap) (put : Bool), b.notes = a ++ r ∧ r.length = n ∧ e 2 = .agg [.int b.lo, .int b.hi, .lst (notesV b.notes) .any] ∧ e 3 = .agg [.int x.kind, .int x.hour, .int x.lo, .int x.hi] ∧ (∃ u v w k, e 4 = .agg [.int u, .int v, .lst w k]) ∧ e 5 = .agg [.int b.lo, .int b.hi, .lst (notesV cur) c] ∧ e 6 = .bool put ∧ e 7 = .int a.length ∧ cur.length ≤ a.length + 1 ∧ (put = false → cur = a ∧ ∀ n ∈ a, n.hour ≤ x.hour) ∧ (put = true → cur ++ r = (withN b x).notes) ∧ Grow s s' c cur.length) b.notes.length ?_ ?_
  · refine ⟨[], b.notes, [], .exact, false, rfl, rfl, ?_, ?_, ⟨0, 0, [], .exact, ?_⟩, ?_, ?_, ?_, by simp, fun _ => ⟨rfl, by simp⟩, fun h => by simp at h, .start⟩
    any_goals (simp only [go_sem, List.length_nil, Int.natCast_zero]; done)
    all_goals (simp only [go_sem]; rfl)
  · rintro n e s' ⟨a, r, cur, c, put, har, hrn, e2, e3, ⟨u, v, w, kk, e4⟩, e5, e6, e7, hcl, hp1, hp2, hg⟩
    cases r with
    | nil =>
      have hna : b.notes = a := by simpa using har
      have hlt : ¬ ((a.length : Int) < (b.notes.length : Int)) := by rw [hna]; omega
      cases put with
      | true =>
        have hcur : cur = (withN b x).notes := by simpa using hp2 rfl
        repeat first|refine Wr ?_|refine Wb ?_|refine Wc ?_|refine Wd ?_|refine We ?_|refine Wf ?_|refine Wg ?_|refine Wh ?_|refine Wi ?_|refine Wj (by decide) ?_|refine Wa ?_|refine Wk ?_|refine Wl ?_|refine Wm ?_|refine Wn ?_|refine Wo ?_|refine Wp ?_|refine Wq ?_|refine Ww (by simp only[go_sem,e2,e3,e4,e5,e6,e7,notesV_length,hlt];done) ?_|((first|refine Ws ?_|refine Wt ?_|refine Wu ?_|refine Wv (by simp only[go_sem,e2,e3,e4,e5,e6,e7,notesV_length,hlt];done) ?_);conv=>arg 2;simp only[go_sem,e2,e3,e4,e5,e6,e7,notesV_length,hlt])
        first|refine w_retQ ?_|refine w_endQ ?_
        conv=>arg 1;simp only[go_sem]
        refine w_res (v := bookV (withN b x)) ?_ (hq s' hg.le)
        rw [hcur]
        simp only [go_sem, bookV]
        rfl
      | false =>
        obtain ⟨hcur, hall⟩ := hp1 rfl
        have hmax : (notesV cur).length + 1 ≤ maxLst := by rw [notesV_length]; simp only [maxLst]; rw [hcur]; rw [hna] at hlen; omega
        have hbe := before_end hall
        have hwith : cur ++ [x] = (withN b x).notes := by simp only [withN]; rw [hna, hbe.1, hbe.2, hcur]
        repeat first|refine Wr ?_|refine Wb ?_|refine Wc ?_|refine Wd ?_|refine We ?_|refine Wf ?_|refine Wg ?_|refine Wh ?_|refine Wi ?_|refine Wj (by decide) ?_|refine Wa ?_|refine Wk ?_|refine Wl ?_|refine Wm ?_|refine Wn ?_|refine Wo ?_|refine Wp ?_|refine Wq ?_|refine Ww (by simp only[go_sem,e2,e3,e4,e5,e6,e7,notesV_length,hlt];done) ?_|((first|refine Ws ?_|refine Wt ?_|refine Wu ?_|refine Wv (by simp only[go_sem,e2,e3,e4,e5,e6,e7,notesV_length,hlt];done) ?_);conv=>arg 2;simp only[go_sem,e2,e3,e4,e5,e6,e7,notesV_length,hlt])
        refine w_append1 (xs := notesV cur) (y := .agg [.int x.kind, .int x.hour, .int x.lo, .int x.hi]) (c := c) rfl (by simp only [go_sem, e5] <;> rfl) (by simp only [go_sem] <;> rfl) hmax (hd_notes _) rfl rfl (by rw [notesV_length]; exact hg.room) fun c' s4 g => ?_
        rw [notesV_length] at g
        have hnx : notesV cur ++ [V.agg [.int x.kind, .int x.hour, .int x.lo, .int x.hi]] = notesV (withN b x).notes := by rw [← hwith, notesV_append]; rfl
        rw [hnx]
        repeat first|refine Wr ?_|refine Wb ?_|refine Wc ?_|refine Wd ?_|refine We ?_|refine Wf ?_|refine Wg ?_|refine Wh ?_|refine Wi ?_|refine Wj (by decide) ?_|refine Wa ?_|refine Wk ?_|refine Wl ?_|refine Wm ?_|refine Wn ?_|refine Wo ?_|refine Wp ?_|refine Wq ?_|refine Ww (by simp only[go_sem,e2,e3,e4,e5,e6,e7];done) ?_|((first|refine Ws ?_|refine Wt ?_|refine Wu ?_|refine Wv (by simp only[go_sem,e2,e3,e4,e5,e6,e7];done) ?_);conv=>arg 2;simp only[go_sem,e2,e3,e4,e5,e6,e7])
        first|refine w_retQ ?_|refine w_endQ ?_
        conv=>arg 1;simp only[go_sem]
        refine w_res (v := bookV (withN b x)) ?_ (hq s4 (hg.step g).le)
        simp only [go_sem, bookV]
        rfl
    | cons y r =>
      have hlt : ((a.length : Int) < (b.notes.length : Int)) := by rw [har]; simp; omega
      have hy : (notesV b.notes)[((a.length : Int)).toNat]? = some (.agg [.int y.kind, .int y.hour, .int y.lo, .int y.hi]) := by rw [har]; exact notesV_at
      have hp := len_nonneg a
      have hal : (a.length : Int) + 1 ≤ b.notes.length := by omega
      have hal' : a.length + 1 ≤ b.notes.length := by omega
      have hw : w64 ((a.length : Int) + 1) = (a ++ [y]).length := by rw [w64_id (by omega)]; simp
      have hmax : (notesV cur).length + 1 ≤ maxLst := by rw [notesV_length]; simp only [maxLst]; omega
      cases put with
      | true =>
        have hcur := hp2 rfl
        repeat first|refine Wr ?_|refine Wb ?_|refine Wc ?_|refine Wd ?_|refine We ?_|refine Wf ?_|refine Wg ?_|refine Wh ?_|refine Wi ?_|refine Wj (by decide) ?_|refine Wa ?_|refine Wk ?_|refine Wl ?_|refine Wm ?_|refine Wn ?_|refine Wo ?_|refine Wp ?_|refine Wq ?_|refine Ww (by simp only[go_sem,e2,e3,e4,e5,e6,e7,notesV_length,hlt,hy,hp];done) ?_|((first|refine Ws ?_|refine Wt ?_|refine Wu ?_|refine Wv (by simp only[go_sem,e2,e3,e4,e5,e6,e7,notesV_length,hlt,hy,hp];done) ?_);conv=>arg 2;simp only[go_sem,e2,e3,e4,e5,e6,e7,notesV_length,hlt,hy,hp])
        refine w_append1 (xs := notesV cur) (y := .agg [.int y.kind, .int y.hour, .int y.lo, .int y.hi]) (c := c) rfl (by simp only [go_sem, e5] <;> rfl) (by simp only [go_sem] <;> rfl) hmax (hd_notes _) rfl rfl (by rw [notesV_length]; exact hg.room) fun c' s4 g => ?_
        rw [notesV_length] at g
        repeat first|refine Wr ?_|refine Wb ?_|refine Wc ?_|refine Wd ?_|refine We ?_|refine Wf ?_|refine Wg ?_|refine Wh ?_|refine Wi ?_|refine Wj (by decide) ?_|refine Wa ?_|refine Wk ?_|refine Wl ?_|refine Wm ?_|refine Wn ?_|refine Wo ?_|refine Wp ?_|refine Wq ?_|refine Ww (by simp only[go_sem,e2,e3,e4,e5,e6,e7,hw];done) ?_|((first|refine Ws ?_|refine Wt ?_|refine Wu ?_|refine Wv (by simp only[go_sem,e2,e3,e4,e5,e6,e7,hw];done) ?_);conv=>arg 2;simp only[go_sem,e2,e3,e4,e5,e6,e7,hw])
        refine ⟨r.length, by simp at hrn; omega, a ++ [y], r, cur ++ [y], c', true, by rw [har]; simp, rfl, ?_, ?_, ⟨u, v, w, kk, ?_⟩, ?_, ?_, ?_, by simp; omega, fun h => by simp at h, fun _ => by simpa using hcur, by simpa using hg.step g⟩
        any_goals (simp only [go_sem, e2, e3, e4, e5, e6, e7, hw]; done)
        simp only [go_sem, notesV_append]; rfl
      | false =>
        obtain ⟨hcur, hall⟩ := hp1 rfl
        by_cases hgt : y.hour > x.hour
        · have hcut := before_cut (h := x.hour) (a := a) (y := y) (r := r) hall (by omega)
          have hmax2 : (notesV (cur ++ [x])).length + 1 ≤ maxLst := by rw [notesV_length, List.length_append]; simp only [maxLst, List.length_singleton]; omega
          repeat first|refine Wr ?_|refine Wb ?_|refine Wc ?_|refine Wd ?_|refine We ?_|refine Wf ?_|refine Wg ?_|refine Wh ?_|refine Wi ?_|refine Wj (by decide) ?_|refine Wa ?_|refine Wk ?_|refine Wl ?_|refine Wm ?_|refine Wn ?_|refine Wo ?_|refine Wp ?_|refine Wq ?_|refine Ww (by simp only[go_sem,e2,e3,e4,e5,e6,e7,notesV_length,hlt,hy,hp,hgt];done) ?_|((first|refine Ws ?_|refine Wt ?_|refine Wu ?_|refine Wv (by simp only[go_sem,e2,e3,e4,e5,e6,e7,notesV_length,hlt,hy,hp,hgt];done) ?_);conv=>arg 2;simp only[go_sem,e2,e3,e4,e5,e6,e7,notesV_length,hlt,hy,hp,hgt])
          refine w_append1 (xs := notesV cur) (y := .agg [.int x.kind, .int x.hour, .int x.lo, .int x.hi]) (c := c) rfl (by simp only [go_sem, e5] <;> rfl) (by simp only [go_sem] <;> rfl) hmax (hd_notes _) rfl rfl (by rw [notesV_length]; exact hg.room) fun c1 s4 g => ?_
          rw [notesV_length] at g
          have hg1 : Grow s s4 c1 (cur ++ [x]).length := by simpa using hg.step g
          have hnx : notesV cur ++ [V.agg [.int x.kind, .int x.hour, .int x.lo, .int x.hi]] = notesV (cur ++ [x]) := by rw [notesV_append]; rfl
          rw [hnx]
          repeat first|refine Wr ?_|refine Wb ?_|refine Wc ?_|refine Wd ?_|refine We ?_|refine Wf ?_|refine Wg ?_|refine Wh ?_|refine Wi ?_|refine Wj (by decide) ?_|refine Wa ?_|refine Wk ?_|refine Wl ?_|refine Wm ?_|refine Wn ?_|refine Wo ?_|refine Wp ?_|refine Wq ?_|refine Ww (by simp only[go_sem,e2,e3,e4,e5,e6,e7,hy,hp];done) ?_|((first|refine Ws ?_|refine Wt ?_|refine Wu ?_|refine Wv (by simp only[go_sem,e2,e3,e4,e5,e6,e7,hy,hp];done) ?_);conv=>arg 2;simp only[go_sem,e2,e3,e4,e5,e6,e7,hy,hp])
          refine w_append1 (xs := notesV (cur ++ [x])) (y := .agg [.int y.kind, .int y.hour, .int y.lo, .int y.hi]) (c := c1) rfl (by simp only [go_sem] <;> rfl) (by simp only [go_sem] <;> rfl) hmax2 (hd_notes _) rfl rfl (by rw [notesV_length]; exact hg1.room) fun c' s5 g' => ?_
          rw [notesV_length] at g'
          repeat first|refine Wr ?_|refine Wb ?_|refine Wc ?_|refine Wd ?_|refine We ?_|refine Wf ?_|refine Wg ?_|refine Wh ?_|refine Wi ?_|refine Wj (by decide) ?_|refine Wa ?_|refine Wk ?_|refine Wl ?_|refine Wm ?_|refine Wn ?_|refine Wo ?_|refine Wp ?_|refine Wq ?_|refine Ww (by simp only[go_sem,e2,e3,e4,e5,e6,e7,hw];done) ?_|((first|refine Ws ?_|refine Wt ?_|refine Wu ?_|refine Wv (by simp only[go_sem,e2,e3,e4,e5,e6,e7,hw];done) ?_);conv=>arg 2;simp only[go_sem,e2,e3,e4,e5,e6,e7,hw])
          refine ⟨r.length, by simp at hrn; omega, a ++ [y], r, cur ++ [x] ++ [y], c', true, by rw [har]; simp, rfl, ?_, ?_, ⟨u, v, w, kk, ?_⟩, ?_, ?_, ?_, by rw [hcur]; simp, fun h => by simp at h, fun _ => ?_, by simpa using hg1.step g'⟩
          any_goals (simp only [go_sem, e2, e3, e4, e5, e6, e7, hw]; done)
          · rw [notesV_append (cur ++ [x])]; simp only [go_sem]; rfl
          · simp only [withN]
            rw [har, hcut.1, hcut.2, hcur]
            simp
        · repeat first|refine Wr ?_|refine Wb ?_|refine Wc ?_|refine Wd ?_|refine We ?_|refine Wf ?_|refine Wg ?_|refine Wh ?_|refine Wi ?_|refine Wj (by decide) ?_|refine Wa ?_|refine Wk ?_|refine Wl ?_|refine Wm ?_|refine Wn ?_|refine Wo ?_|refine Wp ?_|refine Wq ?_|refine Ww (by simp only[go_sem,e2,e3,e4,e5,e6,e7,notesV_length,hlt,hy,hp,hgt];done) ?_|((first|refine Ws ?_|refine Wt ?_|refine Wu ?_|refine Wv (by simp only[go_sem,e2,e3,e4,e5,e6,e7,notesV_length,hlt,hy,hp,hgt];done) ?_);conv=>arg 2;simp only[go_sem,e2,e3,e4,e5,e6,e7,notesV_length,hlt,hy,hp,hgt])
          refine w_append1 (xs := notesV cur) (y := .agg [.int y.kind, .int y.hour, .int y.lo, .int y.hi]) (c := c) rfl (by simp only [go_sem, e5] <;> rfl) (by simp only [go_sem] <;> rfl) hmax (hd_notes _) rfl rfl (by rw [notesV_length]; exact hg.room) fun c' s4 g => ?_
          rw [notesV_length] at g
          repeat first|refine Wr ?_|refine Wb ?_|refine Wc ?_|refine Wd ?_|refine We ?_|refine Wf ?_|refine Wg ?_|refine Wh ?_|refine Wi ?_|refine Wj (by decide) ?_|refine Wa ?_|refine Wk ?_|refine Wl ?_|refine Wm ?_|refine Wn ?_|refine Wo ?_|refine Wp ?_|refine Wq ?_|refine Ww (by simp only[go_sem,e2,e3,e4,e5,e6,e7,hw];done) ?_|((first|refine Ws ?_|refine Wt ?_|refine Wu ?_|refine Wv (by simp only[go_sem,e2,e3,e4,e5,e6,e7,hw];done) ?_);conv=>arg 2;simp only[go_sem,e2,e3,e4,e5,e6,e7,hw])
          refine ⟨r.length, by simp at hrn; omega, a ++ [y], r, cur ++ [y], c', false, by rw [har]; simp, rfl, ?_, ?_, ⟨u, v, w, kk, ?_⟩, ?_, ?_, ?_, by simp; omega, fun _ => ⟨by rw [hcur], fun n hn => ?_⟩, fun h => by simp at h, by simpa using hg.step g⟩
          any_goals (simp only [go_sem, e2, e3, e4, e5, e6, e7, hw]; done)
          · simp only [go_sem, notesV_append]; rfl
          · simp only [List.mem_append, List.mem_singleton] at hn
            rcases hn with hn | rfl
            · exact hall n hn
            · omega

open Classical in
theorem c43 (b : Book) (x : Note) (hlen : (b.notes.length : Int) < 9223372036854775808) (hq : ∀ s', s ≤ s' → Q (.tup [.bool (decide (ok b ∧ okNote x ∧ can (withN b x))), .int (if ok b then (if okNote x then 0 else 31) else 30)]) s') : Call prog (.fn 43 [] []) [bookV b, noteV x] s Q := by
  refine Call.fn F43 p43 rfl ?_
  simp only [F43, bookV, noteV]
  by_cases h1 : ok b
  · by_cases h2 : okNote x
    · repeat first|refine Wr ?_|refine Wb ?_|refine Wc ?_|refine Wd ?_|refine We ?_|refine Wf ?_|refine Wg ?_|refine Wh ?_|refine Wi ?_|refine Wj (by decide) ?_|refine Wa ?_|refine Wk ?_|refine Wl ?_|refine Wm ?_|refine Wn ?_|refine Wo ?_|refine Wp ?_|refine Wq ?_|refine Ww (by simp only[go_sem,h1,h2];done) ?_|((first|refine Ws ?_|refine Wt ?_|refine Wu ?_|refine Wv (by simp only[go_sem,h1,h2];done) ?_);conv=>arg 2;simp only[go_sem,h1,h2])|(refine Wx (by simp only[go_sem,h1,h2];rfl) (by simp only[go_sem,h1,h2];rfl) ?_;first|refine c30 b hlen ?_|refine c115 x ?_|refine c137 b x h1.len fun s1 g1 => ?_|refine c112 (withN b x) (withN_ok h1 h2) fun s2 g2 => ?_)
      first|refine w_retQ ?_|refine w_endQ ?_
      conv=>arg 1;simp only[go_sem]
      exact w_res (by simp only [go_sem, h1, h2, true_and, if_true]) (hq s2 (St.le_trans g1 g2))
    · repeat first|refine Wr ?_|refine Wb ?_|refine Wc ?_|refine Wd ?_|refine We ?_|refine Wf ?_|refine Wg ?_|refine Wh ?_|refine Wi ?_|refine Wj (by decide) ?_|refine Wa ?_|refine Wk ?_|refine Wl ?_|refine Wm ?_|refine Wn ?_|refine Wo ?_|refine Wp ?_|refine Wq ?_|refine Ww (by simp only[go_sem,h1,h2];done) ?_|((first|refine Ws ?_|refine Wt ?_|refine Wu ?_|refine Wv (by simp only[go_sem,h1,h2];done) ?_);conv=>arg 2;simp only[go_sem,h1,h2])|(refine Wx (by simp only[go_sem,h1,h2];rfl) (by simp only[go_sem,h1,h2];rfl) ?_;first|refine c30 b hlen ?_|refine c115 x ?_)
      first|refine w_retQ ?_|refine w_endQ ?_
      conv=>arg 1;simp only[go_sem]
      exact w_res (by simp only [go_sem, h1, h2, false_and, and_false, decide_false, if_true, if_false]) (hq s (St.le_refl s))
  · repeat first|refine Wr ?_|refine Wb ?_|refine Wc ?_|refine Wd ?_|refine We ?_|refine Wf ?_|refine Wg ?_|refine Wh ?_|refine Wi ?_|refine Wj (by decide) ?_|refine Wa ?_|refine Wk ?_|refine Wl ?_|refine Wm ?_|refine Wn ?_|refine Wo ?_|refine Wp ?_|refine Wq ?_|refine Ww (by simp only[go_sem,h1];done) ?_|((first|refine Ws ?_|refine Wt ?_|refine Wu ?_|refine Wv (by simp only[go_sem,h1];done) ?_);conv=>arg 2;simp only[go_sem,h1])|(refine Wx (by simp only[go_sem,h1];rfl) (by simp only[go_sem,h1];rfl) ?_;refine c30 b hlen ?_)
    first|refine w_retQ ?_|refine w_endQ ?_
    conv=>arg 1;simp only[go_sem]
    exact w_res (by simp only [go_sem, h1, false_and, decide_false, if_false]) (hq s (St.le_refl s))
end Go.Hu.Sn

set_option linter.unusedSimpArgs false
set_option linter.unusedVariables false
namespace Go.Hu.Sn
attribute [local irreducible] wpS wpIs wpI
attribute [local go_sem] Nat.mul_one Nat.one_mul Nat.zero_add Nat.add_zero Nat.zero_mul and_self and_true true_and decide_true decide_false Bool.false_eq_true if_true if_false Int.cast_ofNat_Int Int.zero_le_ofNat Int.le_refl Int.reduceLT Int.reduceLE Int.reduceToNat

variable {s : St} {Q : V → St → Prop}

/-- The numbers of a set, below a limit. -/
def bitsL (t n : Nat) : List Int := ((List.range n).filter fun i => t.testBit i).map Int.ofNat
theorem bitsL_succ (t n : Nat) : bitsL t (n + 1) = bitsL t n ++ (if t.testBit n then [(n : Int)] else []) := by
  unfold bitsL
  rw [List.range_succ, List.filter_append, List.map_append]
  congr 1
  by_cases h : t.testBit n <;> simp [h]
theorem mem_bitsL {t n : Nat} {i : Nat} : (i : Int) ∈ bitsL t n ↔ i < n ∧ t.testBit i = true := by
  unfold bitsL
  simp only [List.mem_map, List.mem_filter, List.mem_range]
  constructor
  · rintro ⟨a, h, he⟩
    obtain rfl : a = i := Int.ofNat.inj he
    exact h
  · intro h
    exact ⟨i, h, rfl⟩
theorem bitsL_len (t n : Nat) : (bitsL t n).length ≤ n := by
  unfold bitsL
  rw [List.length_map]
  have := List.length_filter_le (fun i => t.testBit i) (List.range n)
  simpa using this
theorem bit_eq (t n : Nat) : ((((t : Int).fdiv (2 ^ n)).tmod 2) == 1) = t.testBit n := by
  have h1 : (2 : Int) ^ n = ((2 ^ n : Nat) : Int) := by simp
  rw [h1, Int.fdiv_eq_ediv_of_nonneg _ (Int.natCast_nonneg _), ← Int.natCast_ediv, Nat.testBit_eq_decide_div_mod_eq]
  have h2 : (((t / 2 ^ n : Nat) : Int)).tmod 2 = ((t / 2 ^ n % 2 : Nat) : Int) := by rw [Int.tmod_eq_emod_of_nonneg (Int.natCast_nonneg _)]; rfl
  rw [h2]
  by_cases h : t / 2 ^ n % 2 = 1
  · simp [h]
  · have h3 : ¬ ((t / 2 ^ n % 2 : Nat) : Int) = 1 := by omega
    simp only [h, decide_false, beq_eq_false_iff_ne, ne_eq, h3, not_false_eq_true]

theorem c101 (t n : Nat) (hn : (n : Int) < 64) (hq : Q (.bool (t.testBit n)) s) : Call prog (.fn 101 [] []) [.int t, .int n] s Q := by
  refine Call.fn F101 p101 rfl ?_
  simp only [F101]
  have h1 : 0 ≤ (n : Int) := by omega
  have h2 : ¬ (2 : Int) = 0 := by omega
  have hb := bit_eq t n
  repeat first|refine Wr ?_|refine Wb ?_|refine Wc ?_|refine Wd ?_|refine We ?_|refine Wf ?_|refine Wg ?_|refine Wh ?_|refine Wi ?_|refine Wj (by decide) ?_|refine Wa ?_|refine Wk ?_|refine Wl ?_|refine Wm ?_|refine Wn ?_|refine Wo ?_|refine Wp ?_|refine Wq ?_|refine Ww (by simp only[go_sem,h1,hn,h2,Int.toNat_natCast,hb];done) ?_|((first|refine Ws ?_|refine Wt ?_|refine Wu ?_|refine Wv (by simp only[go_sem,h1,hn,h2,Int.toNat_natCast,hb];done) ?_);conv=>arg 2;simp only[go_sem,h1,hn,h2,Int.toNat_natCast,hb])
  first|refine w_retQ ?_|refine w_endQ ?_
  conv=>arg 1;simp only[go_sem]
  exact w_res (by simp only [go_sem]) hq

theorem c72 (t n : Nat) (hn : n ≤ 60) (hq : ∀ s', s ≤ s' → Q (.lst (intsV (bitsL t n)) .any) s') : Call prog (.fn 72 [] []) [.int t, .int n] s Q := by
  refine Call.fn F72 p72 rfl ?_
  simp only [F72]
  repeat first|refine Wr ?_|refine Wb ?_|refine Wc ?_|refine Wd ?_|refine We ?_|refine Wf ?_|refine Wg ?_|refine Wh ?_|refine Wi ?_|refine Wj (by decide) ?_|refine Wa ?_|refine Wk ?_|refine Wl ?_|refine Wm ?_|refine Wn ?_|refine Wo ?_|refine Wp ?_|refine Wq ?_|refine Ww (by simp only[go_sem];done) ?_|((first|refine Ws ?_|refine Wt ?_|refine Wu ?_|refine Wv (by simp only[go_sem];done) ?_);conv=>arg 2;simp only[go_sem])
  refine w_iter (fun m e s' => ∃ (k : Nat) (c : Cap), m = n - k ∧ k ≤ n ∧ e 0 = .int t ∧ e 1 = .int n ∧ e 5 = .lst (intsV (bitsL t k)) c ∧ e 6 = .int k ∧ Grow s s' c (bitsL t k).length) n ?_ ?_
  · refine ⟨0, .exact, by simp, by omega, ?_, ?_, ?_, ?_, .start⟩
    any_goals (simp only [go_sem, Int.natCast_zero]; done)
    simp only [go_sem]; rfl
  · rintro m e s' ⟨k, c, hm, hk, e0, e1, e5, e6, hg⟩
    by_cases hlt : (k : Int) < (n : Int)
    · have hw : w64 ((k : Int) + 1) = ((k + 1 : Nat) : Int) := w64_succ (by omega) rfl
      have hk64 : (k : Int) < 64 := by omega
      have hsucc := bitsL_succ t k
      have hbl := bitsL_len t k
      cases hb : t.testBit k with
      | true =>
        rw [hb, if_pos rfl] at hsucc
        have hmax : (intsV (bitsL t k)).length + 1 ≤ maxLst := by rw [intsV_length]; simp only [maxLst]; omega
        repeat first|refine Wr ?_|refine Wb ?_|refine Wc ?_|refine Wd ?_|refine We ?_|refine Wf ?_|refine Wg ?_|refine Wh ?_|refine Wi ?_|refine Wj (by decide) ?_|refine Wa ?_|refine Wk ?_|refine Wl ?_|refine Wm ?_|refine Wn ?_|refine Wo ?_|refine Wp ?_|refine Wq ?_|refine Ww (by simp only[go_sem,e0,e1,e5,e6,hlt,hb];done) ?_|((first|refine Ws ?_|refine Wt ?_|refine Wu ?_|refine Wv (by simp only[go_sem,e0,e1,e5,e6,hlt,hb];done) ?_);conv=>arg 2;simp only[go_sem,e0,e1,e5,e6,hlt,hb])|(refine Wx (by simp only[go_sem,e0,e1,e5,e6,hlt,hb];rfl) (by simp only[go_sem,e0,e1,e5,e6,hlt,hb];rfl) ?_;refine c101 t k hk64 ?_)
        refine w_append1 (xs := intsV (bitsL t k)) (y := .int k) (c := c) rfl (by simp only [go_sem, e5]) (by simp only [go_sem] <;> rfl) hmax (hd_ints _) rfl rfl (by rw [intsV_length]; exact hg.room) fun c' s2 g => ?_
        rw [intsV_length] at g
        repeat first|refine Wr ?_|refine Wb ?_|refine Wc ?_|refine Wd ?_|refine We ?_|refine Wf ?_|refine Wg ?_|refine Wh ?_|refine Wi ?_|refine Wj (by decide) ?_|refine Wa ?_|refine Wk ?_|refine Wl ?_|refine Wm ?_|refine Wn ?_|refine Wo ?_|refine Wp ?_|refine Wq ?_|refine Ww (by simp only[go_sem,e0,e1,e5,e6,hw];done) ?_|((first|refine Ws ?_|refine Wt ?_|refine Wu ?_|refine Wv (by simp only[go_sem,e0,e1,e5,e6,hw];done) ?_);conv=>arg 2;simp only[go_sem,e0,e1,e5,e6,hw])
        refine ⟨_, ?_, k + 1, c', rfl, by omega, ?_, ?_, ?_, ?_, by rw [hsucc]; simpa using hg.step g⟩
        any_goals (simp only [go_sem, e0, e1, e5, e6, hw]; done)
        · omega
        · rw [hsucc, intsV_append]; simp only [go_sem]; rfl
      | false =>
        rw [hb, if_neg (by simp), List.append_nil] at hsucc
        repeat first|refine Wr ?_|refine Wb ?_|refine Wc ?_|refine Wd ?_|refine We ?_|refine Wf ?_|refine Wg ?_|refine Wh ?_|refine Wi ?_|refine Wj (by decide) ?_|refine Wa ?_|refine Wk ?_|refine Wl ?_|refine Wm ?_|refine Wn ?_|refine Wo ?_|refine Wp ?_|refine Wq ?_|refine Ww (by simp only[go_sem,e0,e1,e5,e6,hlt,hb,hw];done) ?_|((first|refine Ws ?_|refine Wt ?_|refine Wu ?_|refine Wv (by simp only[go_sem,e0,e1,e5,e6,hlt,hb,hw];done) ?_);conv=>arg 2;simp only[go_sem,e0,e1,e5,e6,hlt,hb,hw])|(refine Wx (by simp only[go_sem,e0,e1,e5,e6,hlt,hb,hw];rfl) (by simp only[go_sem,e0,e1,e5,e6,hlt,hb,hw];rfl) ?_;refine c101 t k hk64 ?_)
        refine ⟨_, ?_, k + 1, c, rfl, by omega, ?_, ?_, ?_, ?_, by rw [hsucc]; exact hg⟩
        any_goals (simp only [go_sem, e0, e1, e5, e6, hw, hsucc]; done)
        omega
    · repeat first|refine Wr ?_|refine Wb ?_|refine Wc ?_|refine Wd ?_|refine We ?_|refine Wf ?_|refine Wg ?_|refine Wh ?_|refine Wi ?_|refine Wj (by decide) ?_|refine Wa ?_|refine Wk ?_|refine Wl ?_|refine Wm ?_|refine Wn ?_|refine Wo ?_|refine Wp ?_|refine Wq ?_|refine Ww (by simp only[go_sem,e0,e1,e5,e6,hlt];done) ?_|((first|refine Ws ?_|refine Wt ?_|refine Wu ?_|refine Wv (by simp only[go_sem,e0,e1,e5,e6,hlt];done) ?_);conv=>arg 2;simp only[go_sem,e0,e1,e5,e6,hlt])
      first|refine w_retQ ?_|refine w_endQ ?_
      conv=>arg 1;simp only[go_sem]
      have : k = n := by omega
      subst this
      exact w_res (by simp only [go_sem]) (hq s' hg.le)

/-- Is a list less than another one, by the first element in which they differ? -/
def soonB : List Int → List Int → Bool
  | [], [] => false
  | [], _ :: _ => true
  | _ :: _, [] => false
  | a :: l, b :: m => if a = b then soonB l m else decide (a < b)
def fewB (l m : List Int) : Bool := decide (l.length < m.length) || (decide (l.length = m.length) && soonB l m)
theorem soonB_append : ∀ (a l m : List Int), soonB (a ++ l) (a ++ m) = soonB l m
  | [], _, _ => rfl
  | x :: a, l, m => by simp only [List.cons_append, soonB, if_true, soonB_append a l m]
theorem soonB_trans : ∀ {a b c : List Int}, soonB a b = true → soonB b c = true → soonB a c = true
  | [], [], _, h, _ => by simp [soonB] at h
  | [], _ :: _, [], _, h => by simp [soonB] at h
  | [], _ :: _, _ :: _, _, _ => rfl
  | _ :: _, [], _, h, _ => by simp [soonB] at h
  | _ :: _, _ :: _, [], _, h => by simp [soonB] at h
  | x :: a, y :: b, z :: c, h, h' => by
    simp only [soonB] at h h' ⊢
    by_cases h1 : x = y
    · subst h1
      by_cases h2 : x = z
      · subst h2
        rw [if_pos rfl] at h h' ⊢
        exact soonB_trans h h'
      · rw [if_neg h2] at h' ⊢
        exact h'
    · rw [if_neg h1] at h
      have h3 := of_decide_eq_true h
      by_cases h2 : y = z
      · subst h2
        rw [if_neg h1]
        exact h
      · rw [if_neg h2] at h'
        have h4 := of_decide_eq_true h'
        rw [if_neg (by omega)]
        exact decide_eq_true (by omega)
theorem soonB_irrefl : ∀ a : List Int, soonB a a = false
  | [] => rfl
  | x :: a => by simp only [soonB, if_true, soonB_irrefl a]
theorem fewB_irrefl (a : List Int) : fewB a a = false := by simp [fewB, soonB_irrefl]
theorem fewB_trans {a b c : List Int} (h : fewB a b = true) (h' : fewB b c = true) : fewB a c = true := by
  simp only [fewB, Bool.or_eq_true, Bool.and_eq_true, decide_eq_true_eq] at h h' ⊢
  rcases h with h | ⟨h1, h2⟩ <;> rcases h' with h' | ⟨h3, h4⟩
  · exact .inl (by omega)
  · exact .inl (by omega)
  · exact .inl (by omega)
  · exact .inr ⟨by omega, soonB_trans h2 h4⟩

theorem c180 (l m : List Int) (hl : l.length ≤ 1000) (hm : m.length ≤ 1000) (hq : Q (.bool (soonB l m)) s) : Call prog (.fn 180 [] []) [.lst (intsV l) .any, .lst (intsV m) .any] s Q := by
  refine Call.fn F180 p180 rfl ?_
  simp only [F180]
  repeat first|refine Wr ?_|refine Wb ?_|refine Wc ?_|refine Wd ?_|refine We ?_|refine Wf ?_|refine Wg ?_|refine Wh ?_|refine Wi ?_|refine Wj (by decide) ?_|refine Wa ?_|refine Wk ?_|refine Wl ?_|refine Wm ?_|refine Wn ?_|refine Wo ?_|refine Wp ?_|refine Wq ?_|refine Ww (by simp only[go_sem];done) ?_|((first|refine Ws ?_|refine Wt ?_|refine Wu ?_|refine Wv (by simp only[go_sem];done) ?_);conv=>arg 2;simp only[go_sem])
  refine w_iter (fun n e s' => ∃ (a l' m' : List Int), l = a ++ l' ∧ m = a ++ m' ∧ l'.length = n ∧ e 0 = .lst (intsV l) .any ∧ e 1 = .lst (intsV m) .any ∧ e 5 = .int a.length ∧ s' = s) l.length ?_ ?_
  · refine ⟨[], l, m, rfl, rfl, rfl, ?_, ?_, ?_, rfl⟩
    any_goals (simp only [go_sem, List.length_nil, Int.natCast_zero]; done)
  · rintro n e s' ⟨a, l', m', hla, hma, hn, e0, e1, e5, rfl⟩
    have hso : soonB l m = soonB l' m' := by rw [hla, hma, soonB_append]
    rw [hso] at hq
    have hp := len_nonneg a
    cases l' with
    | nil =>
      have h1 : ¬ ((a.length : Int) < (l.length : Int)) := by rw [hla]; simp
      have h2 : (a.length : Int) = (l.length : Int) := by rw [hla]; simp
      cases m' with
      | nil =>
        have h3 : ¬ ((a.length : Int) < (m.length : Int)) := by rw [hma]; simp
        repeat first|refine Wr ?_|refine Wb ?_|refine Wc ?_|refine Wd ?_|refine We ?_|refine Wf ?_|refine Wg ?_|refine Wh ?_|refine Wi ?_|refine Wj (by decide) ?_|refine Wa ?_|refine Wk ?_|refine Wl ?_|refine Wm ?_|refine Wn ?_|refine Wo ?_|refine Wp ?_|refine Wq ?_|refine Ww (by simp only[go_sem,e0,e1,e5,intsV_length,h1,h3];done) ?_|((first|refine Ws ?_|refine Wt ?_|refine Wu ?_|refine Wv (by simp only[go_sem,e0,e1,e5,intsV_length,h1,h3];done) ?_);conv=>arg 2;simp only[go_sem,e0,e1,e5,intsV_length,h1,h3])
        first|refine w_retQ ?_|refine w_endQ ?_
        conv=>arg 1;simp only[go_sem]
        exact w_res (by simp only [go_sem, soonB]) hq
      | cons y m' =>
        have h3 : ((a.length : Int) < (m.length : Int)) := by rw [hma]; simp; omega
        have h4 : ((a.length : Int) == (l.length : Int)) = true := by simpa using h2
        repeat first|refine Wr ?_|refine Wb ?_|refine Wc ?_|refine Wd ?_|refine We ?_|refine Wf ?_|refine Wg ?_|refine Wh ?_|refine Wi ?_|refine Wj (by decide) ?_|refine Wa ?_|refine Wk ?_|refine Wl ?_|refine Wm ?_|refine Wn ?_|refine Wo ?_|refine Wp ?_|refine Wq ?_|refine Ww (by simp only[go_sem,e0,e1,e5,intsV_length,h1,h3,h4];done) ?_|((first|refine Ws ?_|refine Wt ?_|refine Wu ?_|refine Wv (by simp only[go_sem,e0,e1,e5,intsV_length,h1,h3,h4];done) ?_);conv=>arg 2;simp only[go_sem,e0,e1,e5,intsV_length,h1,h3,h4])
        first|refine w_retQ ?_|refine w_endQ ?_
        conv=>arg 1;simp only[go_sem]
        exact w_res (by simp only [go_sem, soonB]) hq
    | cons x l' =>
      have h1 : ((a.length : Int) < (l.length : Int)) := by rw [hla]; simp; omega
      have hx : (intsV l)[((a.length : Int)).toNat]? = some (.int x) := by rw [hla]; exact intsV_at
      cases m' with
      | nil =>
        have h3 : ¬ ((a.length : Int) < (m.length : Int)) := by rw [hma]; simp
        repeat first|refine Wr ?_|refine Wb ?_|refine Wc ?_|refine Wd ?_|refine We ?_|refine Wf ?_|refine Wg ?_|refine Wh ?_|refine Wi ?_|refine Wj (by decide) ?_|refine Wa ?_|refine Wk ?_|refine Wl ?_|refine Wm ?_|refine Wn ?_|refine Wo ?_|refine Wp ?_|refine Wq ?_|refine Ww (by simp only[go_sem,e0,e1,e5,intsV_length,h1,h3];done) ?_|((first|refine Ws ?_|refine Wt ?_|refine Wu ?_|refine Wv (by simp only[go_sem,e0,e1,e5,intsV_length,h1,h3];done) ?_);conv=>arg 2;simp only[go_sem,e0,e1,e5,intsV_length,h1,h3])
        first|refine w_retQ ?_|refine w_endQ ?_
        conv=>arg 1;simp only[go_sem]
        exact w_res (by simp only [go_sem, soonB]) hq
      | cons y m' =>
        have h3 : ((a.length : Int) < (m.length : Int)) := by rw [hma]; simp; omega
        have hy : (intsV m)[((a.length : Int)).toNat]? = some (.int y) := by rw [hma]; exact intsV_at
        have h4 : ((a.length : Int) == (l.length : Int)) = false := by simp; omega
        have hal : a.length + 1 ≤ l.length := by omega
        by_cases hxy : x = y
        · subst hxy
          have h5 : (x == x) = true := by simp
          have hw : w64 ((a.length : Int) + 1) = (a ++ [x]).length := by rw [w64_id (by omega)]; simp
          repeat first|refine Wr ?_|refine Wb ?_|refine Wc ?_|refine Wd ?_|refine We ?_|refine Wf ?_|refine Wg ?_|refine Wh ?_|refine Wi ?_|refine Wj (by decide) ?_|refine Wa ?_|refine Wk ?_|refine Wl ?_|refine Wm ?_|refine Wn ?_|refine Wo ?_|refine Wp ?_|refine Wq ?_|refine Ww (by simp only[go_sem,e0,e1,e5,intsV_length,h1,h3,hx,hy,hp,h5,hw];done) ?_|((first|refine Ws ?_|refine Wt ?_|refine Wu ?_|refine Wv (by simp only[go_sem,e0,e1,e5,intsV_length,h1,h3,hx,hy,hp,h5,hw];done) ?_);conv=>arg 2;simp only[go_sem,e0,e1,e5,intsV_length,h1,h3,hx,hy,hp,h5,hw])
          refine ⟨l'.length, by simp at hn; omega, a ++ [x], l', m', by rw [hla]; simp, by rw [hma]; simp, rfl, ?_, ?_, ?_, rfl⟩
          any_goals (simp only [go_sem, e0, e1, e5, hw]; done)
        · have h5 : (x == y) = false := by simpa using hxy
          repeat first|refine Wr ?_|refine Wb ?_|refine Wc ?_|refine Wd ?_|refine We ?_|refine Wf ?_|refine Wg ?_|refine Wh ?_|refine Wi ?_|refine Wj (by decide) ?_|refine Wa ?_|refine Wk ?_|refine Wl ?_|refine Wm ?_|refine Wn ?_|refine Wo ?_|refine Wp ?_|refine Wq ?_|refine Ww (by simp only[go_sem,e0,e1,e5,intsV_length,h1,h3,hx,hy,hp,h5,h4];done) ?_|((first|refine Ws ?_|refine Wt ?_|refine Wu ?_|refine Wv (by simp only[go_sem,e0,e1,e5,intsV_length,h1,h3,hx,hy,hp,h5,h4];done) ?_);conv=>arg 2;simp only[go_sem,e0,e1,e5,intsV_length,h1,h3,hx,hy,hp,h5,h4])
          first|refine w_retQ ?_|refine w_endQ ?_
          conv=>arg 1;simp only[go_sem]
          simp only [soonB, if_neg hxy] at hq
          exact w_res (by simp only [go_sem]) hq

theorem c73 (l m : List Int) (hl : l.length ≤ 1000) (hm : m.length ≤ 1000) (hq : Q (.bool (fewB l m)) s) : Call prog (.fn 73 [] []) [.lst (intsV l) .any, .lst (intsV m) .any] s Q := by
  refine Call.fn F73 p73 rfl ?_
  simp only [F73]
  by_cases h1 : (l.length : Int) < (m.length : Int)
  · repeat first|refine Wr ?_|refine Wb ?_|refine Wc ?_|refine Wd ?_|refine We ?_|refine Wf ?_|refine Wg ?_|refine Wh ?_|refine Wi ?_|refine Wj (by decide) ?_|refine Wa ?_|refine Wk ?_|refine Wl ?_|refine Wm ?_|refine Wn ?_|refine Wo ?_|refine Wp ?_|refine Wq ?_|refine Ww (by simp only[go_sem,intsV_length,h1];done) ?_|((first|refine Ws ?_|refine Wt ?_|refine Wu ?_|refine Wv (by simp only[go_sem,intsV_length,h1];done) ?_);conv=>arg 2;simp only[go_sem,intsV_length,h1])
    first|refine w_retQ ?_|refine w_endQ ?_
    conv=>arg 1;simp only[go_sem]
    have : fewB l m = true := by simp only [fewB, Bool.or_eq_true, decide_eq_true_eq]; exact .inl (by omega)
    rw [this] at hq
    exact w_res (by simp only [go_sem]) hq
  · by_cases h2 : l.length = m.length
    · have h3 : ((l.length : Int) == (m.length : Int)) = true := by simp; omega
      repeat first|refine Wr ?_|refine Wb ?_|refine Wc ?_|refine Wd ?_|refine We ?_|refine Wf ?_|refine Wg ?_|refine Wh ?_|refine Wi ?_|refine Wj (by decide) ?_|refine Wa ?_|refine Wk ?_|refine Wl ?_|refine Wm ?_|refine Wn ?_|refine Wo ?_|refine Wp ?_|refine Wq ?_|refine Ww (by simp only[go_sem,intsV_length,h1,h3];done) ?_|((first|refine Ws ?_|refine Wt ?_|refine Wu ?_|refine Wv (by simp only[go_sem,intsV_length,h1,h3];done) ?_);conv=>arg 2;simp only[go_sem,intsV_length,h1,h3])|(refine Wx (by simp only[go_sem,intsV_length,h1,h3];rfl) (by simp only[go_sem,intsV_length,h1,h3];rfl) ?_;refine c180 l m hl hm ?_)
      first|refine w_retQ ?_|refine w_endQ ?_
      conv=>arg 1;simp only[go_sem]
      have : fewB l m = soonB l m := by
        simp only [fewB, h2, Nat.lt_irrefl, decide_false, decide_true, Bool.false_or, Bool.true_and]
      rw [this] at hq
      exact w_res (by simp only [go_sem]) hq
    · have h3 : ((l.length : Int) == (m.length : Int)) = false := by simp; omega
      repeat first|refine Wr ?_|refine Wb ?_|refine Wc ?_|refine Wd ?_|refine We ?_|refine Wf ?_|refine Wg ?_|refine Wh ?_|refine Wi ?_|refine Wj (by decide) ?_|refine Wa ?_|refine Wk ?_|refine Wl ?_|refine Wm ?_|refine Wn ?_|refine Wo ?_|refine Wp ?_|refine Wq ?_|refine Ww (by simp only[go_sem,intsV_length,h1,h3];done) ?_|((first|refine Ws ?_|refine Wt ?_|refine Wu ?_|refine Wv (by simp only[go_sem,intsV_length,h1,h3];done) ?_);conv=>arg 2;simp only[go_sem,intsV_length,h1,h3])
      first|refine w_retQ ?_|refine w_endQ ?_
      conv=>arg 1;simp only[go_sem]
      have : fewB l m = false := by
        have h4 : ¬ l.length < m.length := by omega
        simp only [fewB, h2, h4, decide_false, Bool.false_or, Bool.false_and]
      rw [this] at hq
      exact w_res (by simp only [go_sem]) hq

theorem wo_snoc (l : List Int) (a : List Note) (y : Note) : wo l 0 (a ++ [y]) = if (a.length : Int) ∈ l then wo l 0 a else wo l 0 a ++ [y] := by
  rw [wo_append]
  by_cases h : (a.length : Int) ∈ l <;> simp [wo, h]

set_option maxHeartbeats 1000000 in
theorem c140 (b : Book) (t : Nat) (hlen : b.notes.length ≤ 60) (hq : ∀ s', s ≤ s' → Q (bookV (withoutN b (bitsL t b.notes.length))) s') : Call prog (.fn 140 [] []) [bookV b, .int t] s Q := by
  refine Call.fn F140 p140 rfl ?_
  simp only [F140, bookV]
  repeat first|refine Wr ?_|refine Wb ?_|refine Wc ?_|refine Wd ?_|refine We ?_|refine Wf ?_|refine Wg ?_|refine Wh ?_|refine Wi ?_|refine Wj (by decide) ?_|refine Wa ?_|refine Wk ?_|refine Wl ?_|refine Wm ?_|refine Wn ?_|refine Wo ?_|refine Wp ?_|refine Wq ?_|refine Ww (by simp only[go_sem];done) ?_|((first|refine Ws ?_|refine Wt ?_|refine Wu ?_|refine Wv (by simp only[go_sem];done) ?_);conv=>arg 2;simp only[go_sem])
  refine w_iter (fun n e s' => ∃ (a r : List Note) (c : Cap), b.notes = a ++ r ∧ r.length = n ∧ e 1 = .int t ∧ e 2 = .agg [.int b.lo, .int b.hi, .lst (notesV b.notes) .any] ∧ (∃ u v w k, e 4 = .agg [.int u, .int v, .lst w k]) ∧ e 5 = .agg [.int b.lo, .int b.hi, .lst (notesV (wo (bitsL t b.notes.length) 0 a)) c] ∧ e 6 = .int a.length ∧ Grow s s' c (wo (bitsL t b.notes.length) 0 a).length) b.notes.length ?_ ?_
  · refine ⟨[], b.notes, .exact, rfl, rfl, ?_, ?_, ⟨0, 0, [], .exact, ?_⟩, ?_, ?_, .start⟩
    any_goals (simp only [go_sem, List.length_nil, Int.natCast_zero]; done)
    all_goals (simp only [go_sem]; rfl)
  · rintro n e s' ⟨a, r, c, har, hrn, e1, e2, ⟨u, v, w, kk, e4⟩, e5, e6, hg⟩
    cases r with
    | nil =>
      have hna : b.notes = a := by simpa using har
      have hlt : ¬ ((a.length : Int) < (b.notes.length : Int)) := by rw [hna]; omega
      repeat first|refine Wr ?_|refine Wb ?_|refine Wc ?_|refine Wd ?_|refine We ?_|refine Wf ?_|refine Wg ?_|refine Wh ?_|refine Wi ?_|refine Wj (by decide) ?_|refine Wa ?_|refine Wk ?_|refine Wl ?_|refine Wm ?_|refine Wn ?_|refine Wo ?_|refine Wp ?_|refine Wq ?_|refine Ww (by simp only[go_sem,e1,e2,e4,e5,e6,notesV_length,hlt];done) ?_|((first|refine Ws ?_|refine Wt ?_|refine Wu ?_|refine Wv (by simp only[go_sem,e1,e2,e4,e5,e6,notesV_length,hlt];done) ?_);conv=>arg 2;simp only[go_sem,e1,e2,e4,e5,e6,notesV_length,hlt])
      first|refine w_retQ ?_|refine w_endQ ?_
      conv=>arg 1;simp only[go_sem]
      refine w_res (v := bookV (withoutN b (bitsL t b.notes.length))) ?_ (hq s' hg.le)
      rw [← hna]
      simp only [go_sem, bookV, withoutN]
    | cons y r =>
      have hlt : ((a.length : Int) < (b.notes.length : Int)) := by rw [har]; simp; omega
      have hy : (notesV b.notes)[((a.length : Int)).toNat]? = some (.agg [.int y.kind, .int y.hour, .int y.lo, .int y.hi]) := by rw [har]; exact notesV_at
      have hp := len_nonneg a
      have hal : a.length + 1 ≤ b.notes.length := by omega
      have hw : w64 ((a.length : Int) + 1) = (a ++ [y]).length := by rw [w64_id (by omega)]; simp
      have hwl := wo_len (bitsL t b.notes.length) a 0
      have hmax : (notesV (wo (bitsL t b.notes.length) 0 a)).length + 1 ≤ maxLst := by rw [notesV_length]; simp only [maxLst]; omega
      have hk64 : (a.length : Int) < 64 := by omega
      have hsn := wo_snoc (bitsL t b.notes.length) a y
      have hmb := @mem_bitsL t b.notes.length a.length
      cases hb : t.testBit a.length with
      | true =>
        rw [if_pos (hmb.2 ⟨by omega, hb⟩)] at hsn
        repeat first|refine Wr ?_|refine Wb ?_|refine Wc ?_|refine Wd ?_|refine We ?_|refine Wf ?_|refine Wg ?_|refine Wh ?_|refine Wi ?_|refine Wj (by decide) ?_|refine Wa ?_|refine Wk ?_|refine Wl ?_|refine Wm ?_|refine Wn ?_|refine Wo ?_|refine Wp ?_|refine Wq ?_|refine Ww (by simp only[go_sem,e1,e2,e4,e5,e6,notesV_length,hlt,hb,hw];done) ?_|((first|refine Ws ?_|refine Wt ?_|refine Wu ?_|refine Wv (by simp only[go_sem,e1,e2,e4,e5,e6,notesV_length,hlt,hb,hw];done) ?_);conv=>arg 2;simp only[go_sem,e1,e2,e4,e5,e6,notesV_length,hlt,hb,hw])|(refine Wx (by simp only[go_sem,e1,e2,e4,e5,e6,notesV_length,hlt,hb,hw];rfl) (by simp only[go_sem,e1,e2,e4,e5,e6,notesV_length,hlt,hb,hw];rfl) ?_;refine c101 t a.length hk64 ?_)
        refine ⟨r.length, by simp at hrn; omega, a ++ [y], r, c, by rw [har]; simp, rfl, ?_, ?_, ⟨u, v, w, kk, ?_⟩, ?_, ?_, by rw [hsn]; exact hg⟩
        any_goals (simp only [go_sem, e1, e2, e4, e5, e6, hw, hsn]; done)
      | false =>
        rw [if_neg (fun h => by have := (hmb.1 h).2; rw [hb] at this; cases this)] at hsn
        repeat first|refine Wr ?_|refine Wb ?_|refine Wc ?_|refine Wd ?_|refine We ?_|refine Wf ?_|refine Wg ?_|refine Wh ?_|refine Wi ?_|refine Wj (by decide) ?_|refine Wa ?_|refine Wk ?_|refine Wl ?_|refine Wm ?_|refine Wn ?_|refine Wo ?_|refine Wp ?_|refine Wq ?_|refine Ww (by simp only[go_sem,e1,e2,e4,e5,e6,notesV_length,hlt,hb,hy,hp];done) ?_|((first|refine Ws ?_|refine Wt ?_|refine Wu ?_|refine Wv (by simp only[go_sem,e1,e2,e4,e5,e6,notesV_length,hlt,hb,hy,hp];done) ?_);conv=>arg 2;simp only[go_sem,e1,e2,e4,e5,e6,notesV_length,hlt,hb,hy,hp])|(refine Wx (by simp only[go_sem,e1,e2,e4,e5,e6,notesV_length,hlt,hb,hy,hp];rfl) (by simp only[go_sem,e1,e2,e4,e5,e6,notesV_length,hlt,hb,hy,hp];rfl) ?_;refine c101 t a.length hk64 ?_)
        refine w_append1 (xs := notesV (wo (bitsL t b.notes.length) 0 a)) (y := .agg [.int y.kind, .int y.hour, .int y.lo, .int y.hi]) (c := c) rfl (by simp only [go_sem, e5] <;> rfl) (by simp only [go_sem] <;> rfl) hmax (hd_notes _) rfl rfl (by rw [notesV_length]; exact hg.room) fun c' s4 g => ?_
        rw [notesV_length] at g
        repeat first|refine Wr ?_|refine Wb ?_|refine Wc ?_|refine Wd ?_|refine We ?_|refine Wf ?_|refine Wg ?_|refine Wh ?_|refine Wi ?_|refine Wj (by decide) ?_|refine Wa ?_|refine Wk ?_|refine Wl ?_|refine Wm ?_|refine Wn ?_|refine Wo ?_|refine Wp ?_|refine Wq ?_|refine Ww (by simp only[go_sem,e1,e2,e4,e5,e6,hw];done) ?_|((first|refine Ws ?_|refine Wt ?_|refine Wu ?_|refine Wv (by simp only[go_sem,e1,e2,e4,e5,e6,hw];done) ?_);conv=>arg 2;simp only[go_sem,e1,e2,e4,e5,e6,hw])
        refine ⟨r.length, by simp at hrn; omega, a ++ [y], r, c', by rw [har]; simp, rfl, ?_, ?_, ⟨u, v, w, kk, ?_⟩, ?_, ?_, by rw [hsn]; simpa using hg.step g⟩
        any_goals (simp only [go_sem, e1, e2, e4, e5, e6, hw]; done)
        rw [hsn, notesV_append]
        simp only [go_sem]; rfl

end Go.Hu.Sn

set_option linter.unusedSimpArgs false
set_option linter.unusedVariables false
namespace Go.Hu.Sn
attribute [local irreducible] wpS wpIs wpI
attribute [local go_sem] Nat.mul_one Nat.one_mul Nat.zero_add Nat.add_zero Nat.zero_mul and_self and_true true_and decide_true decide_false Bool.false_eq_true if_true if_false Int.cast_ofNat_Int Int.zero_le_ofNat Int.le_refl Int.reduceLT Int.reduceLE Int.reduceToNat

variable {s : St} {Q : V → St → Prop}

theorem wo_all {l : List Int} : ∀ (a : List Note) (i : Int), (∀ j, i ≤ j → j < i + a.length → j ∈ l) → wo l i a = []
  | [], _, _ => rfl
  | n :: a, i, h => by
    have h1 := h i (by omega) (by simp; omega)
    simp only [wo, if_pos h1]
    exact wo_all a (i + 1) fun j h2 h3 => h j (by omega) (by simp; omega)
/-- What the search finds: a choice that serves, and none that serves is better. -/
def Best (P : List Int → Prop) (n k : Nat) (l : List Int) : Prop := (∃ t, t < 2 ^ n ∧ l = bitsL t n) ∧ P l ∧ ∀ j, j < k → P (bitsL j n) → fewB (bitsL j n) l = false

open Classical in
set_option maxHeartbeats 2000000 in
theorem c45 (b : Book) (hlen : (b.notes.length : Int) < 9223372036854775808) (hq : ∀ l s', (ok b → Best (fun l => can (withoutN b l)) b.notes.length (2 ^ b.notes.length) l) → (¬ ok b → l = []) → s ≤ s' → Q (.tup [.lst (intsV l) .any, .int (if ok b then 0 else 30)]) s') : Call prog (.fn 45 [] []) [bookV b] s Q := by
  refine Call.fn F45 p45 rfl ?_
  simp only [F45, bookV]
  by_cases h1 : ok b
  · have hl8 : b.notes.length ≤ 8 := h1.2.1
    simp only [h1, if_true] at hq
    have hn : 0 ≤ (b.notes.length : Int) ∧ (b.notes.length : Int) < 64 := by omega
    obtain ⟨N, hN⟩ : ∃ N, N = 2 ^ b.notes.length := ⟨_, rfl⟩
    have hN1 : 1 ≤ N := by rw [hN]; exact Nat.one_le_two_pow
    have hN2 : N ≤ 256 := by rw [hN]; exact Nat.pow_le_pow_right (by omega) hl8
    have hNi : (1 : Int) * 2 ^ b.notes.length = (N : Int) := by rw [hN]; simp
    obtain ⟨M, hM⟩ : ∃ M, N = M + 1 := ⟨N - 1, by omega⟩
    have hl60 : b.notes.length ≤ 60 := by omega
    have hM0 : M < 2 ^ b.notes.length := by omega
    have hM1 : M = 2 ^ b.notes.length - 1 := by omega
    have hMi : (N : Int) - 1 = (M : Int) := by omega
    have hNr : -9223372036854775808 ≤ (N : Int) ∧ (N : Int) < 9223372036854775808 := by omega
    have hMr : -9223372036854775808 ≤ (M : Int) ∧ (M : Int) < 9223372036854775808 := by omega
    have hfull : can (withoutN b (bitsL M b.notes.length)) := by
      refine can_nil h1.1 ?_
      refine wo_all b.notes 0 fun j h2 h3 => ?_
      obtain ⟨i, rfl⟩ : ∃ i : Nat, j = (i : Int) := ⟨j.toNat, by omega⟩
      have hi : i < b.notes.length := by omega
      rw [mem_bitsL, hM1, Nat.testBit_two_pow_sub_one]
      exact ⟨hi, by simpa using hi⟩
    have hround : ∀ k : Nat, k ≤ N → (k : Int) < (N : Int) → k < 2 ^ b.notes.length ∧ k + 1 ≤ N ∧ N - (k + 1) < N - k ∧ k ≤ 1000 := fun k h h' => by omega
    have hend : ∀ k : Nat, k ≤ N → ¬ (k : Int) < (N : Int) → k = 2 ^ b.notes.length := fun k h h' => by omega
    have hw1 : w64 (1 * 2 ^ b.notes.length) = (N : Int) := by rw [hNi]; exact w64_id hNr
    have hw2 : w64 ((N : Int) - 1) = (M : Int) := by rw [hMi]; exact w64_id hMr
    clear hNi hNr hMr hMi
    repeat first|refine Wr ?_|refine Wb ?_|refine Wc ?_|refine Wd ?_|refine We ?_|refine Wf ?_|refine Wg ?_|refine Wh ?_|refine Wi ?_|refine Wj (by decide) ?_|refine Wa ?_|refine Wk ?_|refine Wl ?_|refine Wm ?_|refine Wn ?_|refine Wo ?_|refine Wp ?_|refine Wq ?_|refine Ww (by simp only[go_sem,h1,notesV_length,hn,hw1,hw2,Int.toNat_natCast];done) ?_|((first|refine Ws ?_|refine Wt ?_|refine Wu ?_|refine Wv (by simp only[go_sem,h1,notesV_length,hn,hw1,hw2,Int.toNat_natCast];done) ?_);conv=>arg 2;simp only[go_sem,h1,notesV_length,hn,hw1,hw2,Int.toNat_natCast])|(refine Wx (by simp only[go_sem,h1,notesV_length,hn,hw1,hw2,Int.toNat_natCast];rfl) (by simp only[go_sem,h1,notesV_length,hn,hw1,hw2,Int.toNat_natCast];rfl) ?_;first|refine c30 b hlen ?_|refine c72 M b.notes.length hl60 fun s1 g1 => ?_)
    refine w_iter (fun n e s' => ∃ (k : Nat) (l : List Int), n = N - k ∧ k ≤ N ∧ Best (fun l => can (withoutN b l)) b.notes.length k l ∧ e 1 = .agg [.int b.lo, .int b.hi, .lst (notesV b.notes) .any] ∧ e 5 = .int b.notes.length ∧ e 6 = .lst (intsV l) .any ∧ e 7 = .int k ∧ s ≤ s') N ?_ ?_
    · refine ⟨0, bitsL M b.notes.length, by simp, Nat.zero_le _, ⟨⟨M, hM0, rfl⟩, hfull, fun j h => absurd h (Nat.not_lt_zero j)⟩, ?_, ?_, ?_, ?_, g1⟩
      any_goals (simp only [go_sem, notesV_length, Int.natCast_zero]; done)
    · rintro n e s' ⟨k, l, hnk, hk, ⟨⟨t, ht, hlt⟩, hP, hbest⟩, e1, e5, e6, e7, hle⟩
      by_cases hkN : (k : Int) < (N : Int)
      · obtain ⟨hkt, hk1, hkd, hk1000⟩ := hround k hk hkN
        rw [← hnk] at hkd
        have hlk' : (bitsL k b.notes.length).length ≤ 1000 := Nat.le_trans (bitsL_len k _) (Nat.le_trans hl8 (by decide))
        have hll' : l.length ≤ 1000 := by rw [hlt]; exact Nat.le_trans (bitsL_len t _) (Nat.le_trans hl8 (by decide))
        have hw : w64 ((k : Int) + 1) = ((k + 1 : Nat) : Int) := w64_succ hk1000 rfl
        have hok := (withoutN_ok h1 (bitsL k b.notes.length)).ok'
        cases hf : fewB (bitsL k b.notes.length) l with
        | false =>
          repeat first|refine Wr ?_|refine Wb ?_|refine Wc ?_|refine Wd ?_|refine We ?_|refine Wf ?_|refine Wg ?_|refine Wh ?_|refine Wi ?_|refine Wj (by decide) ?_|refine Wa ?_|refine Wk ?_|refine Wl ?_|refine Wm ?_|refine Wn ?_|refine Wo ?_|refine Wp ?_|refine Wq ?_|refine Ww (by simp only[go_sem,e1,e5,e6,e7,hn,hw1,hkN,hf,hw,Int.toNat_natCast];done) ?_|((first|refine Ws ?_|refine Wt ?_|refine Wu ?_|refine Wv (by simp only[go_sem,e1,e5,e6,e7,hn,hw1,hkN,hf,hw,Int.toNat_natCast];done) ?_);conv=>arg 2;simp only[go_sem,e1,e5,e6,e7,hn,hw1,hkN,hf,hw,Int.toNat_natCast])|(refine Wx (by simp only[go_sem,e1,e5,e6,e7,hn,hw1,hkN,hf,hw,Int.toNat_natCast];rfl) (by simp only[go_sem,e1,e5,e6,e7,hn,hw1,hkN,hf,hw,Int.toNat_natCast];rfl) ?_;first|refine c72 k b.notes.length hl60 fun s2 g2 => ?_|refine c73 _ _ hlk' hll' ?_)
          refine ⟨_, hkd, k + 1, l, rfl, hk1, ⟨⟨t, ht, hlt⟩, hP, fun j hj hPj => ?_⟩, ?_, ?_, ?_, ?_, St.le_trans hle g2⟩
          any_goals (simp only [go_sem, e1, e5, e6, e7, hw]; done)
          · by_cases hjk : j = k
            · rw [hjk]; exact hf
            · exact hbest j (Nat.lt_of_le_of_ne (Nat.le_of_lt_succ hj) hjk) hPj
        | true =>
          by_cases hc : can (withoutN b (bitsL k b.notes.length))
          · repeat first|refine Wr ?_|refine Wb ?_|refine Wc ?_|refine Wd ?_|refine We ?_|refine Wf ?_|refine Wg ?_|refine Wh ?_|refine Wi ?_|refine Wj (by decide) ?_|refine Wa ?_|refine Wk ?_|refine Wl ?_|refine Wm ?_|refine Wn ?_|refine Wo ?_|refine Wp ?_|refine Wq ?_|refine Ww (by simp only[go_sem,e1,e5,e6,e7,hn,hw1,hkN,hf,hw,hc,Int.toNat_natCast];done) ?_|((first|refine Ws ?_|refine Wt ?_|refine Wu ?_|refine Wv (by simp only[go_sem,e1,e5,e6,e7,hn,hw1,hkN,hf,hw,hc,Int.toNat_natCast];done) ?_);conv=>arg 2;simp only[go_sem,e1,e5,e6,e7,hn,hw1,hkN,hf,hw,hc,Int.toNat_natCast])|(refine Wx (by simp only[go_sem,e1,e5,e6,e7,hn,hw1,hkN,hf,hw,hc,Int.toNat_natCast];rfl) (by simp only[go_sem,e1,e5,e6,e7,hn,hw1,hkN,hf,hw,hc,Int.toNat_natCast];rfl) ?_;first|refine c72 k b.notes.length hl60 fun s2 g2 => ?_|refine c73 _ _ hlk' hll' ?_|refine c140 b k hl60 fun s3 g3 => ?_|refine c112 _ hok fun s4 g4 => ?_)
            refine ⟨_, hkd, k + 1, bitsL k b.notes.length, rfl, hk1, ⟨⟨k, hkt, rfl⟩, hc, fun j hj hPj => ?_⟩, ?_, ?_, ?_, ?_, St.le_trans (St.le_trans (St.le_trans hle g2) g3) g4⟩
            any_goals (simp only [go_sem, e1, e5, e6, e7, hw]; done)
            · cases hjf : fewB (bitsL j b.notes.length) (bitsL k b.notes.length) with
              | false => rfl
              | true =>
                by_cases hjk : j = k
                · rw [hjk] at hjf
                  have h5 := fewB_irrefl (bitsL k b.notes.length)
                  rw [hjf] at h5
                  cases h5
                · have h5 := fewB_trans hjf hf
                  rw [hbest j (Nat.lt_of_le_of_ne (Nat.le_of_lt_succ hj) hjk) hPj] at h5
                  cases h5
          · repeat first|refine Wr ?_|refine Wb ?_|refine Wc ?_|refine Wd ?_|refine We ?_|refine Wf ?_|refine Wg ?_|refine Wh ?_|refine Wi ?_|refine Wj (by decide) ?_|refine Wa ?_|refine Wk ?_|refine Wl ?_|refine Wm ?_|refine Wn ?_|refine Wo ?_|refine Wp ?_|refine Wq ?_|refine Ww (by simp only[go_sem,e1,e5,e6,e7,hn,hw1,hkN,hf,hw,hc,Int.toNat_natCast];done) ?_|((first|refine Ws ?_|refine Wt ?_|refine Wu ?_|refine Wv (by simp only[go_sem,e1,e5,e6,e7,hn,hw1,hkN,hf,hw,hc,Int.toNat_natCast];done) ?_);conv=>arg 2;simp only[go_sem,e1,e5,e6,e7,hn,hw1,hkN,hf,hw,hc,Int.toNat_natCast])|(refine Wx (by simp only[go_sem,e1,e5,e6,e7,hn,hw1,hkN,hf,hw,hc,Int.toNat_natCast];rfl) (by simp only[go_sem,e1,e5,e6,e7,hn,hw1,hkN,hf,hw,hc,Int.toNat_natCast];rfl) ?_;first|refine c72 k b.notes.length hl60 fun s2 g2 => ?_|refine c73 _ _ hlk' hll' ?_|refine c140 b k hl60 fun s3 g3 => ?_|refine c112 _ hok fun s4 g4 => ?_)
            refine ⟨_, hkd, k + 1, l, rfl, hk1, ⟨⟨t, ht, hlt⟩, hP, fun j hj hPj => ?_⟩, ?_, ?_, ?_, ?_, St.le_trans (St.le_trans (St.le_trans hle g2) g3) g4⟩
            any_goals (simp only [go_sem, e1, e5, e6, e7, hw]; done)
            · by_cases hjk : j = k
              · rw [hjk] at hPj; exact absurd hPj hc
              · exact hbest j (Nat.lt_of_le_of_ne (Nat.le_of_lt_succ hj) hjk) hPj
      · repeat first|refine Wr ?_|refine Wb ?_|refine Wc ?_|refine Wd ?_|refine We ?_|refine Wf ?_|refine Wg ?_|refine Wh ?_|refine Wi ?_|refine Wj (by decide) ?_|refine Wa ?_|refine Wk ?_|refine Wl ?_|refine Wm ?_|refine Wn ?_|refine Wo ?_|refine Wp ?_|refine Wq ?_|refine Ww (by simp only[go_sem,e1,e5,e6,e7,hn,hw1,hkN,Int.toNat_natCast];done) ?_|((first|refine Ws ?_|refine Wt ?_|refine Wu ?_|refine Wv (by simp only[go_sem,e1,e5,e6,e7,hn,hw1,hkN,Int.toNat_natCast];done) ?_);conv=>arg 2;simp only[go_sem,e1,e5,e6,e7,hn,hw1,hkN,Int.toNat_natCast])
        first|refine w_retQ ?_|refine w_endQ ?_
        conv=>arg 1;simp only[go_sem]
        have hkN' := hend k hk hkN
        rw [hkN'] at hbest
        exact w_res (by simp only [go_sem]) (hq l s' (fun _ => ⟨⟨t, ht, hlt⟩, hP, hbest⟩) (fun h => absurd trivial h) hle)
  · simp only [h1, if_false] at hq
    repeat first|refine Wr ?_|refine Wb ?_|refine Wc ?_|refine Wd ?_|refine We ?_|refine Wf ?_|refine Wg ?_|refine Wh ?_|refine Wi ?_|refine Wj (by decide) ?_|refine Wa ?_|refine Wk ?_|refine Wl ?_|refine Wm ?_|refine Wn ?_|refine Wo ?_|refine Wp ?_|refine Wq ?_|refine Ww (by simp only[go_sem,h1];done) ?_|((first|refine Ws ?_|refine Wt ?_|refine Wu ?_|refine Wv (by simp only[go_sem,h1];done) ?_);conv=>arg 2;simp only[go_sem,h1])|(refine Wx (by simp only[go_sem,h1];rfl) (by simp only[go_sem,h1];rfl) ?_;refine c30 b hlen ?_)
    first|refine w_retQ ?_|refine w_endQ ?_
    conv=>arg 1;simp only[go_sem]
    exact w_res (v := .tup [.lst (intsV []) .any, .int 30]) (by simp only [go_sem] <;> rfl) (hq [] s (fun h => h.elim) (fun _ => rfl) (St.le_refl s))
end Go.Hu.Sn

set_option linter.unusedVariables false
namespace Go.Hu.Sn

/-- All rising lists of numbers below a limit, the fewest first, and of as many the sooner. -/
def choices (n : Nat) : List (List Int) := (List.range' 0 (n + 1)).flatMap fun m => subs n m 0
open Classical in
theorem wrongL_find (b : Book) : wrongL b = (choices b.notes.length).find? fun l => decide (can (withoutN b l)) := by
  unfold wrongL choices
  rw [List.find?_flatMap]
  congr 1
  funext m
  unfold pickL
  simp [nextOf]
def chainB : List (List Int) → Bool
  | a :: b :: l => fewB a b && chainB (b :: l)
  | _ => true
theorem chain_head : ∀ {l : List (List Int)} {a : List Int}, chainB (a :: l) = true → ∀ y ∈ l, fewB a y = true
  | [], _, _, y, hy => by simp at hy
  | b :: l, a, h, y, hy => by
    simp only [chainB, Bool.and_eq_true] at h
    rcases List.mem_cons.1 hy with rfl | hy
    · exact h.1
    · exact fewB_trans h.1 (chain_head h.2 y hy)
theorem chain_tail {l : List (List Int)} {a : List Int} (h : chainB (a :: l) = true) : chainB l = true := by
  cases l with
  | nil => rfl
  | cons b l => simp only [chainB, Bool.and_eq_true] at h; exact h.2
theorem find_first {p : List Int → Bool} : ∀ {l : List (List Int)} {x y : List Int}, chainB l = true → l.find? p = some x → y ∈ l → p y = true → x = y ∨ fewB x y = true
  | [], x, y, _, _, hy, _ => by simp at hy
  | a :: l, x, y, hc, hf, hy, hp => by
    rw [List.find?_cons] at hf
    cases ha : p a with
    | true =>
      rw [ha] at hf
      obtain rfl := Option.some.inj hf
      rcases List.mem_cons.1 hy with rfl | hy
      · exact .inl rfl
      · exact .inr (chain_head hc y hy)
    | false =>
      rw [ha] at hf
      rcases List.mem_cons.1 hy with rfl | hy
      · rw [ha] at hp; cases hp
      · exact find_first (chain_tail hc) hf hy hp
theorem chain_all : ∀ n < 9, chainB (choices n) = true := by decide +kernel
def setL (l : List Int) : Nat := l.foldl (fun t i => t + 2 ^ i.toNat) 0
theorem all_bits : ∀ n < 9, (choices n).all (fun l => decide (setL l < 2 ^ n) && decide (l = bitsL (setL l) n)) = true := by decide +kernel
theorem bits_all : ∀ n < 9, (List.range (2 ^ n)).all (fun t => (choices n).contains (bitsL t n)) = true := by decide +kernel
open Classical in
theorem wrong_best {b : Book} {l : List Int} (h8 : b.notes.length < 9) (h : Best (fun l => can (withoutN b l)) b.notes.length (2 ^ b.notes.length) l) : (wrongL b).getD [] = l := by
  obtain ⟨⟨t, ht, hl⟩, hP, hm⟩ := h
  have hmem : l ∈ choices b.notes.length := by
    have := List.all_eq_true.1 (bits_all _ h8) t (List.mem_range.2 ht)
    rw [← hl] at this
    simpa using this
  rw [wrongL_find]
  cases hf : (choices b.notes.length).find? (fun l => decide (can (withoutN b l))) with
  | none =>
    have := List.find?_eq_none.1 hf l hmem
    simp [hP] at this
  | some x =>
    rcases find_first (chain_all _ h8) hf hmem (decide_eq_true hP) with h1 | h1
    · exact h1
    · have h2 := List.all_eq_true.1 (all_bits _ h8) x (List.mem_of_find?_eq_some hf)
      simp only [Bool.and_eq_true, decide_eq_true_eq] at h2
      have h3 : can (withoutN b x) := by
        have := List.find?_some hf
        simpa using this
      have h4 := hm (setL x) h2.1 (by rw [← h2.2]; exact h3)
      rw [← h2.2, h1] at h4
      cases h4
end Go.Hu.Sn

set_option linter.unusedSimpArgs false
set_option linter.unusedVariables false
namespace Go.Hu.Sn
attribute [local irreducible] wpS wpIs wpI
attribute [local go_sem] Nat.mul_one Nat.one_mul Nat.zero_add Nat.add_zero Nat.zero_mul and_self and_true true_and decide_true decide_false Bool.false_eq_true if_true if_false Int.cast_ofNat_Int Int.zero_le_ofNat Int.le_refl Int.reduceLT Int.reduceLE Int.reduceToNat

theorem wrongL_len {b : Book} {l : List Int} (h8 : b.notes.length < 9) (h : Best (fun l => can (withoutN b l)) b.notes.length (2 ^ b.notes.length) l) : l.length ≤ 8 := by
  obtain ⟨⟨t, ht, rfl⟩, _⟩ := h
  have := bitsL_len t b.notes.length
  omega

set_option maxHeartbeats 1000000 in
theorem pureWrongs {y0 : List V} (h0 : Has [.int, .int, .sl true [true, true, true, true]] y0) : Call prog (.fn 5 [] []) [wrap true y0] (fun _ => none) fun v _ => v = .bool true := by
  obtain ⟨b, hb, hlen⟩ := book_of h0
  rw [hb]
  refine Call.fn F5 p5 rfl ?_
  simp only [F5, bookV]
  repeat first|refine Wr ?_|refine Wb ?_|refine Wc ?_|refine Wd ?_|refine We ?_|refine Wf ?_|refine Wg ?_|refine Wh ?_|refine Wi ?_|refine Wj (by decide) ?_|refine Wa ?_|refine Wk ?_|refine Wl ?_|refine Wm ?_|refine Wn ?_|refine Wo ?_|refine Wp ?_|refine Wq ?_|refine Ww (by simp only[go_sem];done) ?_|((first|refine Ws ?_|refine Wt ?_|refine Wu ?_|refine Wv (by simp only[go_sem];done) ?_);conv=>arg 2;simp only[go_sem])|(refine Wx (by simp only[go_sem];rfl) (by simp only[go_sem];rfl) ?_;first|refine c44 b hlen fun l s1 g1 g2 g3 => ?_|refine c45 b hlen fun m s2 g4 g5 g6 => ?_)
  have hlm : l = m ∧ m.length ≤ 8 := by
    by_cases hok : ok b
    · have h8 : b.notes.length < 9 := by have := hok.2.1; omega
      exact ⟨by rw [g1 hok]; exact wrong_best h8 (g4 hok), wrongL_len h8 (g4 hok)⟩
    · rw [g2 hok, g5 hok]
      exact ⟨rfl, by simp⟩
  obtain ⟨rfl, hl8⟩ := hlm
  have hl : (l.length : Int) < 9223372036854775808 := by omega
  repeat first|refine Wr ?_|refine Wb ?_|refine Wc ?_|refine Wd ?_|refine We ?_|refine Wf ?_|refine Wg ?_|refine Wh ?_|refine Wi ?_|refine Wj (by decide) ?_|refine Wa ?_|refine Wk ?_|refine Wl ?_|refine Wm ?_|refine Wn ?_|refine Wo ?_|refine Wp ?_|refine Wq ?_|refine Ww (by simp only[go_sem,bne_self_eq_false];done) ?_|((first|refine Ws ?_|refine Wt ?_|refine Wu ?_|refine Wv (by simp only[go_sem,bne_self_eq_false];done) ?_);conv=>arg 2;simp only[go_sem,bne_self_eq_false])|(refine Wx (by simp only[go_sem,bne_self_eq_false];rfl) (by simp only[go_sem,bne_self_eq_false];rfl) ?_;first|refine c46 l l hl hl ?_|refine c37 fun s7 g11 => ?_)
  first|refine w_retQ ?_|refine w_endQ ?_
  conv=>arg 1;simp only[go_sem]
  exact w_res (v := .bool true) (by simp only [go_sem]) rfl
end Go.Hu.Sn
