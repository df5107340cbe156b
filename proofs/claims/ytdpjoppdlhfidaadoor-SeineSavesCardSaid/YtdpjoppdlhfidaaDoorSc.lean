/-
  What the functions compute, by walks through their pure code, and plain laws of it.
-/
import Derived.Test.YtdpjoppdlhfidaaDoorSb
import Derived.Test.YtdpjoppdlhfidaaDoorSx
set_option linter.unusedSimpArgs false
set_option linter.unusedVariables false
namespace Go.Hu.Sn
attribute [local irreducible] wpS wpIs wpI
attribute [local go_sem] Nat.mul_one Nat.one_mul Nat.zero_add Nat.add_zero Nat.zero_mul and_self and_true true_and decide_true decide_false Bool.false_eq_true if_true if_false Int.cast_ofNat_Int Int.zero_le_ofNat Int.le_refl Int.reduceLT Int.reduceLE Int.reduceToNat

variable {s : St} {Q : V → St → Prop}

theorem c120t (b : Book) (hlen : (b.notes.length : Int) < 9223372036854775808) (hq : ∀ s', s ≤ s' → Q (.int (askE b True)) s') : Call prog (.fn 120 [] []) [bookV b, .bool true] s Q :=
  c120 b true hlen (by simpa using hq)

theorem c39 (b : Book) (hlen : (b.notes.length : Int) < 9223372036854775808) (hq : ∀ n e s', EmptyIs b n e → s ≤ s' → Q (.tup [.int n, .int e]) s') : Call prog (.fn 39 [] []) [bookV b] s Q := by
  refine Call.fn F39 p39 rfl ?_
  simp only [F39, bookV]
  by_cases he : askE b True = 0
  · obtain ⟨k1, _, k3⟩ := askE_zero.1 he
    have he' : (askE b True == 0) = true := by simpa using he
    repeat first|refine Wr ?_|refine Wb ?_|refine Wc ?_|refine Wd ?_|refine We ?_|refine Wf ?_|refine Wg ?_|refine Wh ?_|refine Wi ?_|refine Wj (by decide) ?_|refine Wa ?_|refine Wk ?_|refine Wl ?_|refine Wm ?_|refine Wn ?_|refine Wo ?_|refine Wp ?_|refine Wq ?_|refine Ww (by simp only[go_sem,he'];done) ?_|((first|refine Ws ?_|refine Wt ?_|refine Wu ?_|refine Wv (by simp only[go_sem,he'];done) ?_);conv=>arg 2;simp only[go_sem,he'])|(refine Wx (by simp only[go_sem,he'];rfl) (by simp only[go_sem,he'];rfl) ?_;refine c120t b hlen fun s1 g1 => ?_)
    refine w_iter (fun n e s' => ∃ h : Int, n = (61 - h).toNat ∧ (0 ≤ h ∧ h ≤ 61) ∧ e 1 = .agg [.int b.lo, .int b.hi, .lst (notesV b.notes) .any] ∧ e 5 = .int h ∧ (∀ h', 0 ≤ h' → h' < h → ¬ gone b h') ∧ s ≤ s') 61 ?_ ?_
    · refine ⟨0, by simp, by omega, ?_, ?_, fun h' h1 h2 => by omega, g1⟩
      any_goals (simp only [go_sem]; done)
    · rintro n e s' ⟨h, hn, hh, e1, e5, hm, hle⟩
      by_cases hlt : h ≤ 60
      · have hh2 : 0 ≤ h ∧ h ≤ 60 := by omega
        have hw : w64 (h + 1) = h + 1 := w64_id (by omega)
        repeat first|refine Wr ?_|refine Wb ?_|refine Wc ?_|refine Wd ?_|refine We ?_|refine Wf ?_|refine Wg ?_|refine Wh ?_|refine Wi ?_|refine Wj (by decide) ?_|refine Wa ?_|refine Wk ?_|refine Wl ?_|refine Wm ?_|refine Wn ?_|refine Wo ?_|refine Wp ?_|refine Wq ?_|refine Ww (by simp only[go_sem,e1,e5,hlt];done) ?_|((first|refine Ws ?_|refine Wt ?_|refine Wu ?_|refine Wv (by simp only[go_sem,e1,e5,hlt];done) ?_);conv=>arg 2;simp only[go_sem,e1,e5,hlt])|(refine Wx (by simp only[go_sem,e1,e5,hlt];rfl) (by simp only[go_sem,e1,e5,hlt];rfl) ?_;first|refine c121 b h k1.ok' hh2 fun l s2 g2 g3 g4 => ?_|refine c125 l g2 fun s3 g5 => ?_)
        have hll : ((l.map fun x => x.1).length : Int) < 9223372036854775800 := by rw [List.length_map]; omega
        refine w_call (by simp only [go_sem]; rfl) (by simp only [go_sem]; rfl) ?_
        refine c124 _ (map_ne g3 (atH_ne k1.ok' k3 hh2.1)) hll fun lo hi g6 => ?_
        have hgo := gone_ends k1.ok' hh2.1 (ends_map g3 g6)
        have hle3 := St.le_trans (St.le_trans hle g4) g5
        by_cases hz : hi = 0
        · have hz' : (hi == 0) = true := by simpa using hz
          repeat first|refine Wr ?_|refine Wb ?_|refine Wc ?_|refine Wd ?_|refine We ?_|refine Wf ?_|refine Wg ?_|refine Wh ?_|refine Wi ?_|refine Wj (by decide) ?_|refine Wa ?_|refine Wk ?_|refine Wl ?_|refine Wm ?_|refine Wn ?_|refine Wo ?_|refine Wp ?_|refine Wq ?_|refine Ww (by simp only[go_sem,e1,e5,hz'];done) ?_|((first|refine Ws ?_|refine Wt ?_|refine Wu ?_|refine Wv (by simp only[go_sem,e1,e5,hz'];done) ?_);conv=>arg 2;simp only[go_sem,e1,e5,hz'])
          first|refine w_retQ ?_|refine w_endQ ?_
          conv=>arg 1;simp only[go_sem]
          exact w_res (by simp only [go_sem]) (hq h 0 _ (.inr (.inl ⟨he, hh2, rfl, hgo.2 hz, hm⟩)) hle3)
        · have hz' : (hi == 0) = false := by simpa using hz
          repeat first|refine Wr ?_|refine Wb ?_|refine Wc ?_|refine Wd ?_|refine We ?_|refine Wf ?_|refine Wg ?_|refine Wh ?_|refine Wi ?_|refine Wj (by decide) ?_|refine Wa ?_|refine Wk ?_|refine Wl ?_|refine Wm ?_|refine Wn ?_|refine Wo ?_|refine Wp ?_|refine Wq ?_|refine Ww (by simp only[go_sem,e1,e5,hz',hw];done) ?_|((first|refine Ws ?_|refine Wt ?_|refine Wu ?_|refine Wv (by simp only[go_sem,e1,e5,hz',hw];done) ?_);conv=>arg 2;simp only[go_sem,e1,e5,hz',hw])
          refine ⟨_, ?_, h + 1, rfl, by omega, ?_, ?_, fun h' h1 h2 => ?_, hle3⟩
          any_goals (simp only [go_sem, e1, e5, hw]; done)
          · omega
          · by_cases h3 : h' = h
            · subst h3
              exact fun h4 => hz (hgo.1 h4)
            · exact hm h' h1 (by omega)
      · repeat first|refine Wr ?_|refine Wb ?_|refine Wc ?_|refine Wd ?_|refine We ?_|refine Wf ?_|refine Wg ?_|refine Wh ?_|refine Wi ?_|refine Wj (by decide) ?_|refine Wa ?_|refine Wk ?_|refine Wl ?_|refine Wm ?_|refine Wn ?_|refine Wo ?_|refine Wp ?_|refine Wq ?_|refine Ww (by simp only[go_sem,e1,e5,hlt];done) ?_|((first|refine Ws ?_|refine Wt ?_|refine Wu ?_|refine Wv (by simp only[go_sem,e1,e5,hlt];done) ?_);conv=>arg 2;simp only[go_sem,e1,e5,hlt])
        first|refine w_retQ ?_|refine w_endQ ?_
        conv=>arg 1;simp only[go_sem]
        exact w_res (by simp only [go_sem]) (hq 0 4 _ (.inr (.inr ⟨he, rfl, rfl, fun h' h1 h2 => hm h' h1 (by omega)⟩)) hle)
  · have he' : (askE b True == 0) = false := by simpa using he
    repeat first|refine Wr ?_|refine Wb ?_|refine Wc ?_|refine Wd ?_|refine We ?_|refine Wf ?_|refine Wg ?_|refine Wh ?_|refine Wi ?_|refine Wj (by decide) ?_|refine Wa ?_|refine Wk ?_|refine Wl ?_|refine Wm ?_|refine Wn ?_|refine Wo ?_|refine Wp ?_|refine Wq ?_|refine Ww (by simp only[go_sem,he'];done) ?_|((first|refine Ws ?_|refine Wt ?_|refine Wu ?_|refine Wv (by simp only[go_sem,he'];done) ?_);conv=>arg 2;simp only[go_sem,he'])|(refine Wx (by simp only[go_sem,he'];rfl) (by simp only[go_sem,he'];rfl) ?_;refine c120t b hlen fun s1 g1 => ?_)
    first|refine w_retQ ?_|refine w_endQ ?_
    conv=>arg 1;simp only[go_sem]
    exact w_res (by simp only [go_sem]) (hq 0 _ _ (.inl ⟨he, rfl, rfl⟩) g1)

set_option maxHeartbeats 1000000 in
theorem c41 (b : Book) (hlen : (b.notes.length : Int) < 9223372036854775808) (hq : ∀ lo hi s', Answer (askE b True) (fun n => ∃ x, run (begun b) 0 b.notes x ∧ save b x = n) lo hi → s ≤ s' → Q (.tup [.agg [.int lo, .int hi], .int (askE b True)]) s') : Call prog (.fn 41 [] []) [bookV b] s Q := by
  refine Call.fn F41 p41 rfl ?_
  simp only [F41, bookV]
  by_cases he : askE b True = 0
  · obtain ⟨k1, _, k3⟩ := askE_zero.1 he
    have he' : (askE b True == 0) = true := by simpa using he
    obtain ⟨hb1, hb2, hb3⟩ := id k1
    have hk9 : 0 ≤ (0 : Int) ∧ 0 + (b.notes.length : Int) ≤ 9 := by omega
    repeat first|refine Wr ?_|refine Wb ?_|refine Wc ?_|refine Wd ?_|refine We ?_|refine Wf ?_|refine Wg ?_|refine Wh ?_|refine Wi ?_|refine Wj (by decide) ?_|refine Wa ?_|refine Wk ?_|refine Wl ?_|refine Wm ?_|refine Wn ?_|refine Wo ?_|refine Wp ?_|refine Wq ?_|refine Ww (by simp only[go_sem,he'];done) ?_|((first|refine Ws ?_|refine Wt ?_|refine Wu ?_|refine Wv (by simp only[go_sem,he'];done) ?_);conv=>arg 2;simp only[go_sem,he'])|(refine Wx (by simp only[go_sem,he'];rfl) (by simp only[go_sem,he'];rfl) ?_;first|refine c120t b hlen fun s1 g1 => ?_|refine c133 b hb1 fun l1 s2 g2 g3 g4 => ?_)
    have hbd1 := (begun_bd hb1).of g3
    repeat first|refine Wr ?_|refine Wb ?_|refine Wc ?_|refine Wd ?_|refine We ?_|refine Wf ?_|refine Wg ?_|refine Wh ?_|refine Wi ?_|refine Wj (by decide) ?_|refine Wa ?_|refine Wk ?_|refine Wl ?_|refine Wm ?_|refine Wn ?_|refine Wo ?_|refine Wp ?_|refine Wq ?_|refine Ww (by simp only[go_sem];done) ?_|((first|refine Ws ?_|refine Wt ?_|refine Wu ?_|refine Wv (by simp only[go_sem];done) ?_);conv=>arg 2;simp only[go_sem])|(refine Wx (by simp only[go_sem];rfl) (by simp only[go_sem];rfl) ?_;refine c132 l1 0 0 b.notes g2 hbd1 hk9 hb3 (Int.le_refl 0) fun l s3 g5 g6 g7 => ?_)
    have g6' : ∀ y, y ∈ l ↔ run (begun b) 0 b.notes y := fun y => (g6 y).trans (run_congr _ 0 g3 y)
    have hbd := (run_bd (begun_bd hb1) (Int.le_refl 0) hb3).of g6'
    have hll := small_len g5 (hbd.small (by omega))
    have hhb := hourOf_le hb3
    have hkh : 0 ≤ 60 - hourOf 0 b.notes ∧ 60 - hourOf 0 b.notes ≤ 60 := by omega
    have hw2 : w64 (60 - hourOf 0 b.notes) = 60 - hourOf 0 b.notes := w64_id (by omega)
    repeat first|refine Wr ?_|refine Wb ?_|refine Wc ?_|refine Wd ?_|refine We ?_|refine Wf ?_|refine Wg ?_|refine Wh ?_|refine Wi ?_|refine Wj (by decide) ?_|refine Wa ?_|refine Wk ?_|refine Wl ?_|refine Wm ?_|refine Wn ?_|refine Wo ?_|refine Wp ?_|refine Wq ?_|refine Ww (by simp only[go_sem];done) ?_|((first|refine Ws ?_|refine Wt ?_|refine Wu ?_|refine Wv (by simp only[go_sem];done) ?_);conv=>arg 2;simp only[go_sem])
    refine w_iter (fun n e s' => ∃ (a r : List X) (c : Cap), l = a ++ r ∧ r.length = n ∧ (∃ u v, e 2 = .agg [.int u, .int v]) ∧ e 5 = .lst (statesV l) .any ∧ e 6 = .int (hourOf 0 b.notes) ∧ e 7 = .lst (intsV (a.map (save b))) c ∧ e 8 = .int a.length ∧ Grow s3 s' c a.length) l.length ?_ ?_
    · refine ⟨[], l, .exact, rfl, rfl, ⟨0, 0, ?_⟩, ?_, ?_, ?_, ?_, .start⟩
      any_goals (simp only [go_sem, List.length_nil, Int.natCast_zero]; done)
      simp only [go_sem]; rfl
    · rintro n e s' ⟨a, r, c, har, hrn, ⟨u, v, e2⟩, e5, e6, e7, e8, hg⟩
      cases r with
      | nil =>
        have hlt : ¬ ((a.length : Int) < (l.length : Int)) := by rw [har]; simp
        have hna : l = a := by simpa using har
        have hne : a.map (save b) ≠ [] := by
          obtain ⟨x, hx⟩ := k3
          have := List.length_pos_of_mem ((g6' x).2 hx)
          intro h0
          simp at h0
          rw [hna, h0] at this
          simp at this
        have hl8 : ((a.map (save b)).length : Int) < 9223372036854775800 := by rw [List.length_map, ← hna]; omega
        repeat first|refine Wr ?_|refine Wb ?_|refine Wc ?_|refine Wd ?_|refine We ?_|refine Wf ?_|refine Wg ?_|refine Wh ?_|refine Wi ?_|refine Wj (by decide) ?_|refine Wa ?_|refine Wk ?_|refine Wl ?_|refine Wm ?_|refine Wn ?_|refine Wo ?_|refine Wp ?_|refine Wq ?_|refine Ww (by simp only[go_sem,e2,e5,e6,e7,e8,statesV_length,hlt];done) ?_|((first|refine Ws ?_|refine Wt ?_|refine Wu ?_|refine Wv (by simp only[go_sem,e2,e5,e6,e7,e8,statesV_length,hlt];done) ?_);conv=>arg 2;simp only[go_sem,e2,e5,e6,e7,e8,statesV_length,hlt])|(refine Wx (by simp only[go_sem,e2,e5,e6,e7,e8,statesV_length,hlt];rfl) (by simp only[go_sem,e2,e5,e6,e7,e8,statesV_length,hlt];rfl) ?_;refine c124 _ hne hl8 fun lo hi g8 => ?_)
        first|refine w_retQ ?_|refine w_endQ ?_
        conv=>arg 1;simp only[go_sem]
        rw [he] at hq
        refine w_res (by simp only [go_sem]) (hq lo hi _ ?_ (St.le_trans (St.le_trans (St.le_trans g1 g4) g7) hg.le))
        have hm : ∀ n, n ∈ a.map (save b) ↔ ∃ x, run (begun b) 0 b.notes x ∧ save b x = n := fun n => by rw [← hna]; simp only [List.mem_map, g6']
        simp only [Answer, if_true, Ends]
        simp only [EndsL, hm] at g8
        exact g8
      | cons x r =>
        have hlt : ((a.length : Int) < (l.length : Int)) := by rw [har]; simp; omega
        have hx : (statesV l)[((a.length : Int)).toNat]? = some (.agg [.int x.1, .int x.2]) := by rw [har]; exact statesV_at
        have hp := len_nonneg a
        have hal : (a.length : Int) + 1 ≤ l.length := by omega
        have hw : w64 ((a.length : Int) + 1) = (a ++ [x]).length := by rw [w64_id (by omega)]; simp
        have hmax : (intsV (a.map (save b))).length + 1 ≤ maxLst := by rw [intsV_length, List.length_map]; simp only [maxLst]; omega
        have hbx := hbd x (by rw [har]; simp)
        have hsx : Sm x := by unfold Sm; omega
        have hpb := pass_bd hbx hkh.1
        obtain ⟨y, hy⟩ : ∃ y, pass x (60 - hourOf 0 b.notes) = y := ⟨_, rfl⟩
        rw [hy] at hpb
        have hw3 : w64 (x.1 - y.1) = save b x := by unfold save; rw [hy]; exact w64_id (by omega)
        repeat first|refine Wr ?_|refine Wb ?_|refine Wc ?_|refine Wd ?_|refine We ?_|refine Wf ?_|refine Wg ?_|refine Wh ?_|refine Wi ?_|refine Wj (by decide) ?_|refine Wa ?_|refine Wk ?_|refine Wl ?_|refine Wm ?_|refine Wn ?_|refine Wo ?_|refine Wp ?_|refine Wq ?_|refine Ww (by simp only[go_sem,e2,e5,e6,e7,e8,statesV_length,hlt,hx,hp,hw2,hw3];done) ?_|((first|refine Ws ?_|refine Wt ?_|refine Wu ?_|refine Wv (by simp only[go_sem,e2,e5,e6,e7,e8,statesV_length,hlt,hx,hp,hw2,hw3];done) ?_);conv=>arg 2;simp only[go_sem,e2,e5,e6,e7,e8,statesV_length,hlt,hx,hp,hw2,hw3])|(refine Wx (by simp only[go_sem,e2,e5,e6,e7,e8,statesV_length,hlt,hx,hp,hw2,hw3];rfl) (by simp only[go_sem,e2,e5,e6,e7,e8,statesV_length,hlt,hx,hp,hw2,hw3];rfl) ?_;refine c134' hy hsx hkh ?_)
        refine w_append1 (xs := intsV (a.map (save b))) (y := .int (save b x)) (c := c) rfl (by simp only [go_sem, e7]) (by simp only [go_sem] <;> rfl) hmax (hd_ints _) rfl rfl (by rw [intsV_length, List.length_map]; exact hg.room) fun c' s4 g => ?_
        rw [intsV_length, List.length_map] at g
        repeat first|refine Wr ?_|refine Wb ?_|refine Wc ?_|refine Wd ?_|refine We ?_|refine Wf ?_|refine Wg ?_|refine Wh ?_|refine Wi ?_|refine Wj (by decide) ?_|refine Wa ?_|refine Wk ?_|refine Wl ?_|refine Wm ?_|refine Wn ?_|refine Wo ?_|refine Wp ?_|refine Wq ?_|refine Ww (by simp only[go_sem,e2,e5,e6,e7,e8,hw];done) ?_|((first|refine Ws ?_|refine Wt ?_|refine Wu ?_|refine Wv (by simp only[go_sem,e2,e5,e6,e7,e8,hw];done) ?_);conv=>arg 2;simp only[go_sem,e2,e5,e6,e7,e8,hw])
        refine ⟨r.length, by simp at hrn; omega, a ++ [x], r, c', by rw [har]; simp, rfl, ⟨u, v, ?_⟩, ?_, ?_, ?_, ?_, by simpa using hg.step g⟩
        any_goals (simp only [go_sem, e2, e5, e6, e7, e8, hw]; done)
        simp only [go_sem, List.map_append, intsV_append]; rfl
  · have he' : (askE b True == 0) = false := by simpa using he
    repeat first|refine Wr ?_|refine Wb ?_|refine Wc ?_|refine Wd ?_|refine We ?_|refine Wf ?_|refine Wg ?_|refine Wh ?_|refine Wi ?_|refine Wj (by decide) ?_|refine Wa ?_|refine Wk ?_|refine Wl ?_|refine Wm ?_|refine Wn ?_|refine Wo ?_|refine Wp ?_|refine Wq ?_|refine Ww (by simp only[go_sem,he'];done) ?_|((first|refine Ws ?_|refine Wt ?_|refine Wu ?_|refine Wv (by simp only[go_sem,he'];done) ?_);conv=>arg 2;simp only[go_sem,he'])|(refine Wx (by simp only[go_sem,he'];rfl) (by simp only[go_sem,he'];rfl) ?_;refine c120t b hlen fun s1 g1 => ?_)
    first|refine w_retQ ?_|refine w_endQ ?_
    conv=>arg 1;simp only[go_sem]
    exact w_res (by simp only [go_sem]) (hq 0 0 s1 (by simp [Answer, he]) g1)

theorem before_end {h : Int} {a : List Note} (ha : ∀ n ∈ a, n.hour ≤ h) : before h a = a ∧ later h a = [] := by
  have h1 : later h a = [] := by
    cases hl : later h a with
    | nil => rfl
    | cons y r =>
      have h2 := later_first hl
      have h3 := before_later h a
      rw [hl] at h3
      have := ha y (by rw [← h3]; simp)
      omega
  have h3 := before_later h a
  rw [h1] at h3
  exact ⟨by simpa using h3, h1⟩
theorem before_cut {h : Int} : ∀ {a : List Note} {y : Note} {r : List Note}, (∀ n ∈ a, n.hour ≤ h) → ¬ y.hour ≤ h → before h (a ++ y :: r) = a ∧ later h (a ++ y :: r) = y :: r
  | [], y, r, _, hy => by
    simp [before, later, List.takeWhile_cons, List.dropWhile_cons, hy]
  | n :: a, y, r, ha, hy => by
    have h1 := ha n (by simp)
    obtain ⟨h2, h3⟩ := before_cut (a := a) (y := y) (r := r) (fun m hm => ha m (by simp [hm])) hy
    simp only [before, later] at h2 h3 ⊢
    simp only [List.cons_append, List.takeWhile_cons, List.dropWhile_cons, h1, decide_true, if_true, h2, h3, and_self]
theorem hd_notes' (ns : List Note) : hd (notesV ns) 4 = true := hd_notes ns

set_option maxHeartbeats 1000000 in
theorem c137 (b : Book) (x : Note) (hlen : b.notes.length ≤ 100) (hq : ∀ s', s ≤ s' → Q (bookV (withN b x)) s') : Call prog (.fn 137 [] []) [bookV b, noteV x] s Q := by
  refine Call.fn F137 p137 rfl ?_
  simp only [F137, bookV, noteV]
  repeat first|refine Wr ?_|refine Wb ?_|refine Wc ?_|refine Wd ?_|refine We ?_|refine Wf ?_|refine Wg ?_|refine Wh ?_|refine Wi ?_|refine Wj (by decide) ?_|refine Wa ?_|refine Wk ?_|refine Wl ?_|refine Wm ?_|refine Wn ?_|refine Wo ?_|refine Wp ?_|refine Wq ?_|refine Ww (by simp only[go_sem];done) ?_|((first|refine Ws ?_|refine Wt ?_|refine Wu ?_|refine Wv (by simp only[go_sem];done) ?_);conv=>arg 2;simp only[go_sem])
  refine w_iter (fun n e s' => ∃ (a r cur : List Note) (c : Cap) (put : Bool), b.notes = a ++ r ∧ r.length = n ∧ e 2 = .agg [.int b.lo, .int b.hi, .lst (notesV b.notes) .any] ∧ e 3 = .agg [.int x.kind, .int x.hour, .int x.lo, .int x.hi] ∧ (∃ u v w k, e 4 = .agg [.int u, .int v, .lst w k]) ∧ e 5 = .agg [.int b.lo, .int b.hi, .lst (notesV cur) c] ∧ e 6 = .bool put ∧ e 7 = .int a.length ∧ cur.length ≤ a.length + 1 ∧ (put = false → cur = a ∧ ∀ n ∈ a, n.hour ≤ x.hour) ∧ (put = true → cur ++ r = (withN b x).notes) ∧ Grow s s' c cur.length) b.notes.length ?_ ?_
  · refine ⟨[], b.notes, [], .exact, false, rfl, rfl, ?_, ?_, ⟨0, 0, [], .exact, ?_⟩, ?_, ?_, ?_, by simp, fun _ => ⟨rfl, by simp⟩, fun h => by simp at h, .start⟩
    any_goals (simp only [go_sem, List.length_nil, Int.natCast_zero]; done)
    all_goals (simp only [go_sem]; rfl)
  · rintro n e s' ⟨a, r, cur, c, put, har, hrn, e2, e3, ⟨u, v, w, kk, e4⟩, e5, e6, e7, hcl, hp1, hp2, hg⟩
    cases r with
    | nil =>
      have hna : b.notes = a := by simpa using har
      have hlt : ¬ ((a.length : Int) < (b.notes.length : Int)) := by rw [hna]; omega
      cases put with
      | true =>
        have hcur : cur = (withN b x).notes := by simpa using hp2 rfl
        repeat first|refine Wr ?_|refine Wb ?_|refine Wc ?_|refine Wd ?_|refine We ?_|refine Wf ?_|refine Wg ?_|refine Wh ?_|refine Wi ?_|refine Wj (by decide) ?_|refine Wa ?_|refine Wk ?_|refine Wl ?_|refine Wm ?_|refine Wn ?_|refine Wo ?_|refine Wp ?_|refine Wq ?_|refine Ww (by simp only[go_sem,e2,e3,e4,e5,e6,e7,notesV_length,hlt];done) ?_|((first|refine Ws ?_|refine Wt ?_|refine Wu ?_|refine Wv (by simp only[go_sem,e2,e3,e4,e5,e6,e7,notesV_length,hlt];done) ?_);conv=>arg 2;simp only[go_sem,e2,e3,e4,e5,e6,e7,notesV_length,hlt])
        first|refine w_retQ ?_|refine w_endQ ?_
        conv=>arg 1;simp only[go_sem]
        refine w_res (v := bookV (withN b x)) ?_ (hq s' hg.le)
        rw [hcur]
        simp only [go_sem, bookV]
        rfl
      | false =>
        obtain ⟨hcur, hall⟩ := hp1 rfl
        have hmax : (notesV cur).length + 1 ≤ maxLst := by rw [notesV_length]; simp only [maxLst]; rw [hcur]; rw [hna] at hlen; omega
        have hbe := before_end hall
        have hwith : cur ++ [x] = (withN b x).notes := by simp only [withN]; rw [hna, hbe.1, hbe.2, hcur]
        repeat first|refine Wr ?_|refine Wb ?_|refine Wc ?_|refine Wd ?_|refine We ?_|refine Wf ?_|refine Wg ?_|refine Wh ?_|refine Wi ?_|refine Wj (by decide) ?_|refine Wa ?_|refine Wk ?_|refine Wl ?_|refine Wm ?_|refine Wn ?_|refine Wo ?_|refine Wp ?_|refine Wq ?_|refine Ww (by simp only[go_sem,e2,e3,e4,e5,e6,e7,notesV_length,hlt];done) ?_|((first|refine Ws ?_|refine Wt ?_|refine Wu ?_|refine Wv (by simp only[go_sem,e2,e3,e4,e5,e6,e7,notesV_length,hlt];done) ?_);conv=>arg 2;simp only[go_sem,e2,e3,e4,e5,e6,e7,notesV_length,hlt])
        refine w_append1 (xs := notesV cur) (y := .agg [.int x.kind, .int x.hour, .int x.lo, .int x.hi]) (c := c) rfl (by simp only [go_sem, e5] <;> rfl) (by simp only [go_sem] <;> rfl) hmax (hd_notes _) rfl rfl (by rw [notesV_length]; exact hg.room) fun c' s4 g => ?_
        rw [notesV_length] at g
        have hnx : notesV cur ++ [V.agg [.int x.kind, .int x.hour, .int x.lo, .int x.hi]] = notesV (withN b x).notes := by rw [← hwith, notesV_append]; rfl
        rw [hnx]
        repeat first|refine Wr ?_|refine Wb ?_|refine Wc ?_|refine Wd ?_|refine We ?_|refine Wf ?_|refine Wg ?_|refine Wh ?_|refine Wi ?_|refine Wj (by decide) ?_|refine Wa ?_|refine Wk ?_|refine Wl ?_|refine Wm ?_|refine Wn ?_|refine Wo ?_|refine Wp ?_|refine Wq ?_|refine Ww (by simp only[go_sem,e2,e3,e4,e5,e6,e7];done) ?_|((first|refine Ws ?_|refine Wt ?_|refine Wu ?_|refine Wv (by simp only[go_sem,e2,e3,e4,e5,e6,e7];done) ?_);conv=>arg 2;simp only[go_sem,e2,e3,e4,e5,e6,e7])
        first|refine w_retQ ?_|refine w_endQ ?_
        conv=>arg 1;simp only[go_sem]
        refine w_res (v := bookV (withN b x)) ?_ (hq s4 (hg.step g).le)
        simp only [go_sem, bookV]
        rfl
    | cons y r =>
      have hlt : ((a.length : Int) < (b.notes.length : Int)) := by rw [har]; simp; omega
      have hy : (notesV b.notes)[((a.length : Int)).toNat]? = some (.agg [.int y.kind, .int y.hour, .int y.lo, .int y.hi]) := by rw [har]; exact notesV_at
      have hp := len_nonneg a
      have hal : (a.length : Int) + 1 ≤ b.notes.length := by omega
      have hal' : a.length + 1 ≤ b.notes.length := by omega
      have hw : w64 ((a.length : Int) + 1) = (a ++ [y]).length := by rw [w64_id (by omega)]; simp
      have hmax : (notesV cur).length + 1 ≤ maxLst := by rw [notesV_length]; simp only [maxLst]; omega
      cases put with
      | true =>
        have hcur := hp2 rfl
        repeat first|refine Wr ?_|refine Wb ?_|refine Wc ?_|refine Wd ?_|refine We ?_|refine Wf ?_|refine Wg ?_|refine Wh ?_|refine Wi ?_|refine Wj (by decide) ?_|refine Wa ?_|refine Wk ?_|refine Wl ?_|refine Wm ?_|refine Wn ?_|refine Wo ?_|refine Wp ?_|refine Wq ?_|refine Ww (by simp only[go_sem,e2,e3,e4,e5,e6,e7,notesV_length,hlt,hy,hp];done) ?_|((first|refine Ws ?_|refine Wt ?_|refine Wu ?_|refine Wv (by simp only[go_sem,e2,e3,e4,e5,e6,e7,notesV_length,hlt,hy,hp];done) ?_);conv=>arg 2;simp only[go_sem,e2,e3,e4,e5,e6,e7,notesV_length,hlt,hy,hp])
        refine w_append1 (xs := notesV cur) (y := .agg [.int y.kind, .int y.hour, .int y.lo, .int y.hi]) (c := c) rfl (by simp only [go_sem, e5] <;> rfl) (by simp only [go_sem] <;> rfl) hmax (hd_notes _) rfl rfl (by rw [notesV_length]; exact hg.room) fun c' s4 g => ?_
        rw [notesV_length] at g
        repeat first|refine Wr ?_|refine Wb ?_|refine Wc ?_|refine Wd ?_|refine We ?_|refine Wf ?_|refine Wg ?_|refine Wh ?_|refine Wi ?_|refine Wj (by decide) ?_|refine Wa ?_|refine Wk ?_|refine Wl ?_|refine Wm ?_|refine Wn ?_|refine Wo ?_|refine Wp ?_|refine Wq ?_|refine Ww (by simp only[go_sem,e2,e3,e4,e5,e6,e7,hw];done) ?_|((first|refine Ws ?_|refine Wt ?_|refine Wu ?_|refine Wv (by simp only[go_sem,e2,e3,e4,e5,e6,e7,hw];done) ?_);conv=>arg 2;simp only[go_sem,e2,e3,e4,e5,e6,e7,hw])
        refine ⟨r.length, by simp at hrn; omega, a ++ [y], r, cur ++ [y], c', true, by rw [har]; simp, rfl, ?_, ?_, ⟨u, v, w, kk, ?_⟩, ?_, ?_, ?_, by simp; omega, fun h => by simp at h, fun _ => by simpa using hcur, by simpa using hg.step g⟩
        any_goals (simp only [go_sem, e2, e3, e4, e5, e6, e7, hw]; done)
        simp only [go_sem, notesV_append]; rfl
      | false =>
        obtain ⟨hcur, hall⟩ := hp1 rfl
        by_cases hgt : y.hour > x.hour
        · have hcut := before_cut (h := x.hour) (a := a) (y := y) (r := r) hall (by omega)
          have hmax2 : (notesV (cur ++ [x])).length + 1 ≤ maxLst := by rw [notesV_length, List.length_append]; simp only [maxLst, List.length_singleton]; omega
          repeat first|refine Wr ?_|refine Wb ?_|refine Wc ?_|refine Wd ?_|refine We ?_|refine Wf ?_|refine Wg ?_|refine Wh ?_|refine Wi ?_|refine Wj (by decide) ?_|refine Wa ?_|refine Wk ?_|refine Wl ?_|refine Wm ?_|refine Wn ?_|refine Wo ?_|refine Wp ?_|refine Wq ?_|refine Ww (by simp only[go_sem,e2,e3,e4,e5,e6,e7,notesV_length,hlt,hy,hp,hgt];done) ?_|((first|refine Ws ?_|refine Wt ?_|refine Wu ?_|refine Wv (by simp only[go_sem,e2,e3,e4,e5,e6,e7,notesV_length,hlt,hy,hp,hgt];done) ?_);conv=>arg 2;simp only[go_sem,e2,e3,e4,e5,e6,e7,notesV_length,hlt,hy,hp,hgt])
          refine w_append1 (xs := notesV cur) (y := .agg [.int x.kind, .int x.hour, .int x.lo, .int x.hi]) (c := c) rfl (by simp only [go_sem, e5] <;> rfl) (by simp only [go_sem] <;> rfl) hmax (hd_notes _) rfl rfl (by rw [notesV_length]; exact hg.room) fun c1 s4 g => ?_
          rw [notesV_length] at g
          have hg1 : Grow s s4 c1 (cur ++ [x]).length := by simpa using hg.step g
          have hnx : notesV cur ++ [V.agg [.int x.kind, .int x.hour, .int x.lo, .int x.hi]] = notesV (cur ++ [x]) := by rw [notesV_append]; rfl
          rw [hnx]
          repeat first|refine Wr ?_|refine Wb ?_|refine Wc ?_|refine Wd ?_|refine We ?_|refine Wf ?_|refine Wg ?_|refine Wh ?_|refine Wi ?_|refine Wj (by decide) ?_|refine Wa ?_|refine Wk ?_|refine Wl ?_|refine Wm ?_|refine Wn ?_|refine Wo ?_|refine Wp ?_|refine Wq ?_|refine Ww (by simp only[go_sem,e2,e3,e4,e5,e6,e7,hy,hp];done) ?_|((first|refine Ws ?_|refine Wt ?_|refine Wu ?_|refine Wv (by simp only[go_sem,e2,e3,e4,e5,e6,e7,hy,hp];done) ?_);conv=>arg 2;simp only[go_sem,e2,e3,e4,e5,e6,e7,hy,hp])
          refine w_append1 (xs := notesV (cur ++ [x])) (y := .agg [.int y.kind, .int y.hour, .int y.lo, .int y.hi]) (c := c1) rfl (by simp only [go_sem] <;> rfl) (by simp only [go_sem] <;> rfl) hmax2 (hd_notes _) rfl rfl (by rw [notesV_length]; exact hg1.room) fun c' s5 g' => ?_
          rw [notesV_length] at g'
          repeat first|refine Wr ?_|refine Wb ?_|refine Wc ?_|refine Wd ?_|refine We ?_|refine Wf ?_|refine Wg ?_|refine Wh ?_|refine Wi ?_|refine Wj (by decide) ?_|refine Wa ?_|refine Wk ?_|refine Wl ?_|refine Wm ?_|refine Wn ?_|refine Wo ?_|refine Wp ?_|refine Wq ?_|refine Ww (by simp only[go_sem,e2,e3,e4,e5,e6,e7,hw];done) ?_|((first|refine Ws ?_|refine Wt ?_|refine Wu ?_|refine Wv (by simp only[go_sem,e2,e3,e4,e5,e6,e7,hw];done) ?_);conv=>arg 2;simp only[go_sem,e2,e3,e4,e5,e6,e7,hw])
          refine ⟨r.length, by simp at hrn; omega, a ++ [y], r, cur ++ [x] ++ [y], c', true, by rw [har]; simp, rfl, ?_, ?_, ⟨u, v, w, kk, ?_⟩, ?_, ?_, ?_, by rw [hcur]; simp, fun h => by simp at h, fun _ => ?_, by simpa using hg1.step g'⟩
          any_goals (simp only [go_sem, e2, e3, e4, e5, e6, e7, hw]; done)
          · rw [notesV_append (cur ++ [x])]; simp only [go_sem]; rfl
          · simp only [withN]
            rw [har, hcut.1, hcut.2, hcur]
            simp
        · repeat first|refine Wr ?_|refine Wb ?_|refine Wc ?_|refine Wd ?_|refine We ?_|refine Wf ?_|refine Wg ?_|refine Wh ?_|refine Wi ?_|refine Wj (by decide) ?_|refine Wa ?_|refine Wk ?_|refine Wl ?_|refine Wm ?_|refine Wn ?_|refine Wo ?_|refine Wp ?_|refine Wq ?_|refine Ww (by simp only[go_sem,e2,e3,e4,e5,e6,e7,notesV_length,hlt,hy,hp,hgt];done) ?_|((first|refine Ws ?_|refine Wt ?_|refine Wu ?_|refine Wv (by simp only[go_sem,e2,e3,e4,e5,e6,e7,notesV_length,hlt,hy,hp,hgt];done) ?_);conv=>arg 2;simp only[go_sem,e2,e3,e4,e5,e6,e7,notesV_length,hlt,hy,hp,hgt])
          refine w_append1 (xs := notesV cur) (y := .agg [.int y.kind, .int y.hour, .int y.lo, .int y.hi]) (c := c) rfl (by simp only [go_sem, e5] <;> rfl) (by simp only [go_sem] <;> rfl) hmax (hd_notes _) rfl rfl (by rw [notesV_length]; exact hg.room) fun c' s4 g => ?_
          rw [notesV_length] at g
          repeat first|refine Wr ?_|refine Wb ?_|refine Wc ?_|refine Wd ?_|refine We ?_|refine Wf ?_|refine Wg ?_|refine Wh ?_|refine Wi ?_|refine Wj (by decide) ?_|refine Wa ?_|refine Wk ?_|refine Wl ?_|refine Wm ?_|refine Wn ?_|refine Wo ?_|refine Wp ?_|refine Wq ?_|refine Ww (by simp only[go_sem,e2,e3,e4,e5,e6,e7,hw];done) ?_|((first|refine Ws ?_|refine Wt ?_|refine Wu ?_|refine Wv (by simp only[go_sem,e2,e3,e4,e5,e6,e7,hw];done) ?_);conv=>arg 2;simp only[go_sem,e2,e3,e4,e5,e6,e7,hw])
          refine ⟨r.length, by simp at hrn; omega, a ++ [y], r, cur ++ [y], c', false, by rw [har]; simp, rfl, ?_, ?_, ⟨u, v, w, kk, ?_⟩, ?_, ?_, ?_, by simp; omega, fun _ => ⟨by rw [hcur], fun n hn => ?_⟩, fun h => by simp at h, by simpa using hg.step g⟩
          any_goals (simp only [go_sem, e2, e3, e4, e5, e6, e7, hw]; done)
          · simp only [go_sem, notesV_append]; rfl
          · simp only [List.mem_append, List.mem_singleton] at hn
            rcases hn with hn | rfl
            · exact hall n hn
            · omega

open Classical in
theorem c43 (b : Book) (x : Note) (hlen : (b.notes.length : Int) < 9223372036854775808) (hq : ∀ s', s ≤ s' → Q (.tup [.bool (decide (ok b ∧ okNote x ∧ can (withN b x))), .int (if ok b then (if okNote x then 0 else 31) else 30)]) s') : Call prog (.fn 43 [] []) [bookV b, noteV x] s Q := by
  refine Call.fn F43 p43 rfl ?_
  simp only [F43, bookV, noteV]
  by_cases h1 : ok b
  · by_cases h2 : okNote x
    · repeat first|refine Wr ?_|refine Wb ?_|refine Wc ?_|refine Wd ?_|refine We ?_|refine Wf ?_|refine Wg ?_|refine Wh ?_|refine Wi ?_|refine Wj (by decide) ?_|refine Wa ?_|refine Wk ?_|refine Wl ?_|refine Wm ?_|refine Wn ?_|refine Wo ?_|refine Wp ?_|refine Wq ?_|refine Ww (by simp only[go_sem,h1,h2];done) ?_|((first|refine Ws ?_|refine Wt ?_|refine Wu ?_|refine Wv (by simp only[go_sem,h1,h2];done) ?_);conv=>arg 2;simp only[go_sem,h1,h2])|(refine Wx (by simp only[go_sem,h1,h2];rfl) (by simp only[go_sem,h1,h2];rfl) ?_;first|refine c30 b hlen ?_|refine c115 x ?_|refine c137 b x h1.len fun s1 g1 => ?_|refine c112 (withN b x) (withN_ok h1 h2) fun s2 g2 => ?_)
      first|refine w_retQ ?_|refine w_endQ ?_
      conv=>arg 1;simp only[go_sem]
      exact w_res (by simp only [go_sem, h1, h2, true_and, if_true]) (hq s2 (St.le_trans g1 g2))
    · repeat first|refine Wr ?_|refine Wb ?_|refine Wc ?_|refine Wd ?_|refine We ?_|refine Wf ?_|refine Wg ?_|refine Wh ?_|refine Wi ?_|refine Wj (by decide) ?_|refine Wa ?_|refine Wk ?_|refine Wl ?_|refine Wm ?_|refine Wn ?_|refine Wo ?_|refine Wp ?_|refine Wq ?_|refine Ww (by simp only[go_sem,h1,h2];done) ?_|((first|refine Ws ?_|refine Wt ?_|refine Wu ?_|refine Wv (by simp only[go_sem,h1,h2];done) ?_);conv=>arg 2;simp only[go_sem,h1,h2])|(refine Wx (by simp only[go_sem,h1,h2];rfl) (by simp only[go_sem,h1,h2];rfl) ?_;first|refine c30 b hlen ?_|refine c115 x ?_)
      first|refine w_retQ ?_|refine w_endQ ?_
      conv=>arg 1;simp only[go_sem]
      exact w_res (by simp only [go_sem, h1, h2, false_and, and_false, decide_false, if_true, if_false]) (hq s (St.le_refl s))
  · repeat first|refine Wr ?_|refine Wb ?_|refine Wc ?_|refine Wd ?_|refine We ?_|refine Wf ?_|refine Wg ?_|refine Wh ?_|refine Wi ?_|refine Wj (by decide) ?_|refine Wa ?_|refine Wk ?_|refine Wl ?_|refine Wm ?_|refine Wn ?_|refine Wo ?_|refine Wp ?_|refine Wq ?_|refine Ww (by simp only[go_sem,h1];done) ?_|((first|refine Ws ?_|refine Wt ?_|refine Wu ?_|refine Wv (by simp only[go_sem,h1];done) ?_);conv=>arg 2;simp only[go_sem,h1])|(refine Wx (by simp only[go_sem,h1];rfl) (by simp only[go_sem,h1];rfl) ?_;refine c30 b hlen ?_)
    first|refine w_retQ ?_|refine w_endQ ?_
    conv=>arg 1;simp only[go_sem]
    exact w_res (by simp only [go_sem, h1, false_and, decide_false, if_false]) (hq s (St.le_refl s))
end Go.Hu.Sn

set_option linter.unusedSimpArgs false
set_option linter.unusedVariables false
namespace Go.Hu.Sn
attribute [local irreducible] wpS wpIs wpI
attribute [local go_sem] Nat.mul_one Nat.one_mul Nat.zero_add Nat.add_zero Nat.zero_mul and_self and_true true_and decide_true decide_false Bool.false_eq_true if_true if_false Int.cast_ofNat_Int Int.zero_le_ofNat Int.le_refl Int.reduceLT Int.reduceLE Int.reduceToNat

set_option maxHeartbeats 1000000 in
theorem pureSaves {y0 y1 : List V} (h0 : Has [.int, .int, .sl true [true, true, true, true]] y0) (h1 : Has [.int, .int, .int, .int] y1) : Call prog (.fn 4 [] []) [wrap true y0, wrap true y1] (fun _ => none) fun v _ => v = .bool true := by
  obtain ⟨b, hb, hlen⟩ := book_of h0
  obtain ⟨x, hx⟩ := note_of h1
  rw [hb, hx]
  refine Call.fn F4 p4 rfl ?_
  simp only [F4, bookV, noteV]
  repeat first|refine Wr ?_|refine Wb ?_|refine Wc ?_|refine Wd ?_|refine We ?_|refine Wf ?_|refine Wg ?_|refine Wh ?_|refine Wi ?_|refine Wj (by decide) ?_|refine Wa ?_|refine Wk ?_|refine Wl ?_|refine Wm ?_|refine Wn ?_|refine Wo ?_|refine Wp ?_|refine Wq ?_|refine Ww (by simp only[go_sem];done) ?_|((first|refine Ws ?_|refine Wt ?_|refine Wu ?_|refine Wv (by simp only[go_sem];done) ?_);conv=>arg 2;simp only[go_sem])|(refine Wx (by simp only[go_sem];rfl) (by simp only[go_sem];rfl) ?_;refine c38 b hlen fun n e s1 g1 g2 => ?_)
  refine w_call (by simp only [go_sem]; rfl) (by simp only [go_sem]; rfl) ?_
  refine c39 b hlen fun n' e' s2 g3 g4 => ?_
  obtain ⟨rfl, rfl⟩ := g1.unique g3
  repeat first|refine Wr ?_|refine Wb ?_|refine Wc ?_|refine Wd ?_|refine We ?_|refine Wf ?_|refine Wg ?_|refine Wh ?_|refine Wi ?_|refine Wj (by decide) ?_|refine Wa ?_|refine Wk ?_|refine Wl ?_|refine Wm ?_|refine Wn ?_|refine Wo ?_|refine Wp ?_|refine Wq ?_|refine Ww (by simp only[go_sem,bne_self_eq_false];done) ?_|((first|refine Ws ?_|refine Wt ?_|refine Wu ?_|refine Wv (by simp only[go_sem,bne_self_eq_false];done) ?_);conv=>arg 2;simp only[go_sem,bne_self_eq_false])|(refine Wx (by simp only[go_sem,bne_self_eq_false];rfl) (by simp only[go_sem,bne_self_eq_false];rfl) ?_;refine c40 b hlen fun lo hi s3 g5 g6 => ?_)
  refine w_call (by simp only [go_sem]; rfl) (by simp only [go_sem]; rfl) ?_
  refine c41 b hlen fun lo' hi' s4 g7 g8 => ?_
  obtain ⟨rfl, rfl⟩ := g5.unique g7
  repeat first|refine Wr ?_|refine Wb ?_|refine Wc ?_|refine Wd ?_|refine We ?_|refine Wf ?_|refine Wg ?_|refine Wh ?_|refine Wi ?_|refine Wj (by decide) ?_|refine Wa ?_|refine Wk ?_|refine Wl ?_|refine Wm ?_|refine Wn ?_|refine Wo ?_|refine Wp ?_|refine Wq ?_|refine Ww (by simp only[go_sem,bne_self_eq_false];done) ?_|((first|refine Ws ?_|refine Wt ?_|refine Wu ?_|refine Wv (by simp only[go_sem,bne_self_eq_false];done) ?_);conv=>arg 2;simp only[go_sem,bne_self_eq_false])|(refine Wx (by simp only[go_sem,bne_self_eq_false];rfl) (by simp only[go_sem,bne_self_eq_false];rfl) ?_;first|refine c42 b x hlen fun s5 g9 => ?_|refine c43 b x hlen fun s6 g10 => ?_|refine c37 fun s7 g11 => ?_)
  first|refine w_retQ ?_|refine w_endQ ?_
  conv=>arg 1;simp only[go_sem]
  exact w_res (v := .bool true) (by simp only [go_sem]) rfl
end Go.Hu.Sn
