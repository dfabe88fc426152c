/- The plain law of FnExactIsWeaver: what the program's functions compute is what the reference's compute. No program and no memory in it. -/
import Derived.Test.YthalifhbjioaeaaDoorHx5
import Derived.Test.YthalifhbjioaeaaDoorLps
namespace Go.Proofs.YthalifhbjioaeaaDoor.Pure
open Go.RowKit Go.Proofs.YthalifhbjioaeaaDoorW.PrintWords Go.Proofs.YthalifhbjioaeaaDoorW.PrintLast Go.Proofs.YthalifhbjioaeaaDoor.H
set_option linter.unusedVariables false
set_option linter.unusedSimpArgs false
theorem l1In_eq (a b c : Int) : spec_l1In.f a b c = some (rng a b c) := spec_l1In.eq a b c
theorem in_eq (a b c : Int) : impl_in.f a b c = some (rng a b c) := impl_in.eq a b c
theorem word_at (s : ByteArray) (i : Nat) (hi : i < s.size) : bt s (i : Int) = (((s.data.toList)[i]'(by simpa using hi)).toNat : Int) := by
  unfold bt
  rw [dif_pos (by simpa using hi)]
  rfl
theorem l2Word_ev (s : ByteArray) (hs : s.size ≤ 2000000) : Ev (fun k => spec_l2Word.f k s) (isWordB s) := by
  unfold spec_l2Word.f
  have e : isWordB s = ((List.range s.size).all (fun i => decide (97 ≤ bt s (i : Int)) && decide (bt s (i : Int) ≤ 122)) && rng (s.size : Int) 1 10) := by
    unfold isWordB
    rw [Bool.and_comm]
    congr 1
    rw [Bool.eq_iff_iff, all_range, List.all_eq_true]
    constructor
    · intro h i hi
      have := h _ (List.getElem_mem (by simpa using hi : i < s.data.toList.length))
      rw [word_at s i hi]
      rw [Bool.and_eq_true, decide_eq_true_iff, decide_eq_true_iff] at this ⊢
      omega
    · intro h b hb
      obtain ⟨i, hi, rfl⟩ := List.getElem_of_mem hb
      have hi' : i < s.size := by simpa using hi
      have := h i hi'
      rw [word_at s i hi'] at this
      rw [Bool.and_eq_true, decide_eq_true_iff, decide_eq_true_iff] at this ⊢
      omega
  rw [e]
  refine Ev.scan (fun k i => spec_l2Word.l0 k s i) s.size _ _ (Ev.step (f := fun _ => some _) (fun k => ?_) (Ev.now _)) ?_ ?_
  · rw [spec_l2Word.l0, if_neg (by omega), l1In_eq]
    rfl
  · intro i hi hg
    refine Ev.step (f := fun _ => some false) (fun k => ?_) (Ev.now _)
    rw [spec_l2Word.l0, if_pos (by omega), if_pos (by omega)]
    by_cases c : bt s (i : Int) < 97
    · rw [if_pos c]
    · rw [if_neg c, if_pos]
      rw [Bool.and_eq_false_iff, decide_eq_false_iff_not, decide_eq_false_iff_not] at hg
      omega
  · intro i r hi hg hr
    refine Ev.step (fun k => ?_) hr
    rw [Bool.and_eq_true, decide_eq_true_iff, decide_eq_true_iff] at hg
    rw [spec_l2Word.l0, if_pos (by omega), if_pos (by omega), if_neg (by omega), if_neg (by omega), wrap_id _ (by omega) (by omega)]
abbrev WV := S26
theorem l11One_ev (x : WV) (hs : x.f1.size ≤ 2000000) : Ev (fun k => spec_l11One.f k x.f0 x.f1 x.f2 x.f3 x.f4) (okWv x) := by
  unfold spec_l11One.f spec_l11Skills.f okWv
  simp only [l1In_eq, Option.bind_some]
  cases rng x.f0 1 99 with
  | false => exact Ev.now _
  | true =>
    simp only [if_true, Bool.true_and]
    refine Ev.bind (l2Word_ev x.f1 hs) ?_
    cases isWordB x.f1 with
    | false => exact Ev.now _
    | true =>
      simp only [if_true, Bool.true_and]
      cases rng x.f2 1 15 <;> cases rng x.f3 100 12000 <;> exact Ev.now _
theorem FnExactIsWeaver (a0_0 : Int) (a0_1 : ByteArray) (a0_2 : Int) (a0_3 : Int) (a0_4 : Int) (q_a0_0 : (Lit.int .i64 a0_0).wf = true) (q_a0_1 : a0_1.size ≤ maxLen) (q_a0_2 : (Lit.int .i64 a0_2).wf = true) (q_a0_3 : (Lit.int .i64 a0_3).wf = true) (q_a0_4 : (Lit.int .i64 a0_4).wf = true) : ∃ k, laws_FnExactIsWeaver.f k a0_0 a0_1 a0_2 a0_3 a0_4 = some true := by
  have hm : a0_1.size ≤ 9223372036854775807 := q_a0_1
  by_cases hl : (a0_1.size : Int) ≤ 1048576
  · obtain ⟨K, h⟩ := l11One_ev ⟨a0_0, a0_1, a0_2, a0_3, a0_4⟩ (by show a0_1.size ≤ 2000000; omega)
    have h1 := h K (Nat.le_refl _)
    have h2 := impl_IsWeaver.total ⟨a0_0, a0_1, a0_2, a0_3, a0_4⟩
    dsimp only at h1 h2
    refine ⟨K, ?_⟩
    unfold laws_FnExactIsWeaver.f laws_szWeaver.f
    rw [wrap_id _ (by omega) (by omega), if_neg (by omega), Option.bind_some, if_neg (by omega)]
    simp only [laws_toWeaver.f, Option.bind_some, spec_IsWeaver.f, h1, h2, bne_self_eq_false, Bool.false_eq_true, if_false]
  · refine ⟨0, ?_⟩
    unfold laws_FnExactIsWeaver.f laws_szWeaver.f
    rw [wrap_id _ (by omega) (by omega), if_pos (by omega)]
    rfl
end Go.Proofs.YthalifhbjioaeaaDoor.Pure
