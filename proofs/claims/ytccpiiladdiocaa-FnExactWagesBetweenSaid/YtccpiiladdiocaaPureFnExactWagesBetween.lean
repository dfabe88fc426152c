/- The plain law of FnExactWagesBetween: what the program's functions compute is what the reference's compute. No program and no memory in it. -/
import Derived.Test.YtccpiiladdiocaaHx19
import Derived.Test.YtccpiiladdiocaaLps
namespace Go.Proofs.Ytccpiiladdiocaa.Pure
open Go.RowKit Go.Proofs.YtccpiiladdiocaaW.PrintWords Go.Proofs.YtccpiiladdiocaaW.PrintLast Go.Proofs.Ytccpiiladdiocaa.H
set_option linter.unusedVariables false
set_option linter.unusedSimpArgs false
theorem l1In_eq (a b c : Int) : spec_l1In.f a b c = some (rng a b c) := spec_l1In.eq a b c
theorem in_eq (a b c : Int) : impl_in.f a b c = some (rng a b c) := impl_in.eq a b c
def okSheet (a b c d e : Int) : Bool := rng a 1 99 && (rng b 0 4000 && (rng c 0 12000 && (rng d 0 c && rng e 0 12)))
theorem l14One_eq (a b c d e : Int) : spec_l14One.f a b c d e = some (okSheet a b c d e) := by
  unfold spec_l14One.f spec_l2Day.f okSheet
  simp only [l1In_eq, Option.bind_some]
  cases rng a 1 99 <;> cases rng b 0 4000 <;> cases rng c 0 12000 <;> cases rng d 0 c <;> cases rng e 0 12 <;> rfl
theorem IsWorkSheet_eq (a b c d e : Int) : impl_IsWorkSheet.f a b c d e = some (okSheet a b c d e) := by
  unfold impl_IsWorkSheet.f impl_isDay.f impl_isId.f okSheet
  simp only [in_eq, Option.bind_some]
  cases rng a 1 99 <;> cases rng b 0 4000 <;> cases rng c 0 12000 <;> cases rng d 0 c <;> cases rng e 0 12 <;> rfl
theorem okSheet_iff (a b c d e : Int) : okSheet a b c d e = true ↔ (1 ≤ a ∧ a ≤ 99) ∧ (0 ≤ b ∧ b ≤ 4000) ∧ (0 ≤ c ∧ c ≤ 12000) ∧ (0 ≤ d ∧ d ≤ c) ∧ 0 ≤ e ∧ e ≤ 12 := by
  simp only [okSheet, Bool.and_eq_true, rng_iff]
abbrev WS := S34
abbrev LS := S32
theorem szWS (l : List LS) (h : ¬ (l.length : Int) ≤ 1048576) (hm : l.length ≤ maxLen) : laws_szWorkSheetS.f l 1048576 = some (-1) := by
  have hm' : l.length ≤ 9223372036854775807 := hm
  unfold laws_szWorkSheetS.f
  rw [wrap_id _ (by omega) (by omega), if_pos (by omega)]
theorem szWS2 (l : List LS) (h : (l.length : Int) ≤ 1048576) : laws_szWorkSheetS.f l 1048576 = some (1048576 - (l.length : Int)) := by
  unfold laws_szWorkSheetS.f
  rw [wrap_id _ (by omega) (by omega), if_neg (by omega)]
theorem toWS_ev (l : List LS) (hl : (l.length : Int) ≤ 1048576) : ∃ t : List WS, t.length = l.length ∧ Ev (fun k => laws_toWorkSheetS.f k l) t := by
  obtain ⟨r, hr, h⟩ := Ev.loopE (fun k i (s : List WS) => laws_toWorkSheetS.l0 k l s i) l.length (fun _ s => s.length = l.length) (fun r => r.length = l.length)
    (fun s hs => ⟨s, hs, Ev.step (fun k => by rw [laws_toWorkSheetS.l0, if_neg (by omega)]) (Ev.now s)⟩)
    (fun i s hi hs => ⟨s.set i ⟨(rd_T32 l i).f0, (rd_T32 l i).f1, (rd_T32 l i).f2, (rd_T32 l i).f3, (rd_T32 l i).f4⟩, by simp [hs], fun r h => Ev.step (fun k => by
      rw [laws_toWorkSheetS.l0, if_pos (by omega), if_pos (by omega)]
      simp only [laws_toWorkSheet.f, Option.bind_some]
      rw [if_pos (by omega), wrap_id _ (by omega) (by omega), Int.toNat_natCast]) h⟩) (List.replicate l.length z34) (by simp)
  refine ⟨r, hr, Ev.congr (fun k => ?_) h⟩
  unfold laws_toWorkSheetS.f
  rw [if_pos (by omega), if_pos (by omega), Int.toNat_natCast]
theorem eqWS_ev (t : List WS) (ht : t.length ≤ 2000000) : Ev (fun k => laws_eqWorkSheetS.f k t t) true := by
  refine Ev.congr (f := fun k => laws_eqWorkSheetS.l0 k t t 0) (fun k => by unfold laws_eqWorkSheetS.f; rw [if_pos rfl]) ?_
  obtain ⟨r, hr, h⟩ := Ev.loopE (fun k i (_ : Unit) => laws_eqWorkSheetS.l0 k t t i) t.length (fun _ _ => True) (fun r => r = true)
    (fun s _ => ⟨true, rfl, Ev.step (fun k => by rw [laws_eqWorkSheetS.l0, if_neg (by omega)]) (Ev.now true)⟩)
    (fun i s hi _ => ⟨(), trivial, fun r h => Ev.step (fun k => by
      rw [laws_eqWorkSheetS.l0, if_pos (by omega), if_pos (by omega), if_pos (by omega)]
      simp only [laws_eqWorkSheet.f, if_true, Option.bind_some]
      rw [wrap_id _ (by omega) (by omega)]) h⟩) () trivial
  subst hr
  exact h
def okS (x : WS) : Bool := okSheet x.f0 x.f1 x.f2 x.f3 x.f4
def lexS (x y : WS) : Bool := decide (x.f1 < y.f1 ∨ x.f1 = y.f1 ∧ x.f0 < y.f0)
def goodS (t : List WS) (i : Nat) : Bool := okS (t.getD i z34) && (decide (i = 0) || lexS (t.getD (i - 1) z34) (t.getD i z34))
theorem l14_step (t : List WS) (i : Nat) (hi : i < t.length) (hl : t.length ≤ 2000000) (k : Nat) : spec_l14Good.l0 (k + 1) t (i : Int) = spec_l14Good.j1 k t (i : Int) (!goodS t i) := by
  rw [spec_l14Good.l0, if_pos (by omega), if_pos (by omega)]
  simp only [l14One_eq, Option.bind_some]
  have e0 : rd_T34 t (i : Int) = t.getD i z34 := rfl
  rw [e0]
  obtain ⟨y, hy⟩ : ∃ y, y = t.getD i z34 := ⟨_, rfl⟩
  unfold goodS okS
  rw [← hy]
  by_cases hok : okSheet y.f0 y.f1 y.f2 y.f3 y.f4 = true
  · rw [if_pos hok, hok, Bool.true_and]
    by_cases h0 : i = 0
    · subst h0
      rw [if_neg (by omega)]
      rfl
    · have e1 : wrap64 ((i : Int) - 1) = ((i - 1 : Nat) : Int) := by rw [wrap_id _ (by omega) (by omega)]; omega
      have e2 : rd_T34 t ((i - 1 : Nat) : Int) = t.getD (i - 1) z34 := rfl
      rw [if_pos (by omega), e1, if_pos (by omega), if_pos (by omega), e2]
      obtain ⟨x, hx⟩ : ∃ x, x = t.getD (i - 1) z34 := ⟨_, rfl⟩
      rw [← hx]
      simp only [h0, decide_false, Bool.false_or]
      unfold lexS
      by_cases h1 : x.f1 > y.f1
      · rw [if_pos h1, decide_eq_false (by omega)]
        rfl
      · rw [if_neg h1]
        by_cases h2 : x.f1 = y.f1
        · rw [if_pos h2]
          congr 1
          by_cases h3 : x.f0 ≥ y.f0
          · rw [decide_eq_true h3, decide_eq_false (by omega)]
            rfl
          · rw [decide_eq_false h3, decide_eq_true (by omega)]
            rfl
        · rw [if_neg h2, decide_eq_true (by omega)]
          rfl
  · rw [if_neg hok]
    simp only [Bool.not_eq_true] at hok
    rw [hok]
    rfl
theorem l14Good_ev (t : List WS) (hl : t.length ≤ 2000000) : Ev (fun k => spec_l14Good.f k t) ((List.range t.length).all (goodS t) && decide ((t.length : Int) ≤ 12)) := by
  unfold spec_l14Good.f
  refine Ev.scan (fun k i => spec_l14Good.l0 k t i) t.length (goodS t) _ (Ev.step (fun k => by rw [spec_l14Good.l0, if_neg (by omega)]) (Ev.now _)) ?_ ?_
  · intro i hi hg
    refine Ev.step (f := fun k => spec_l14Good.j1 k t i true) (fun k => by rw [l14_step t i hi hl, hg]; rfl) ?_
    exact Ev.step (fun k => by rw [spec_l14Good.j1, if_pos rfl]) (Ev.now false)
  · intro i r hi hg h
    refine Ev.step (f := fun k => spec_l14Good.j1 k t i false) (fun k => by rw [l14_step t i hi hl, hg]; rfl) ?_
    exact Ev.step (fun k => by rw [spec_l14Good.j1, if_neg (by decide), wrap_id _ (by omega) (by omega)]) h
theorem AreSheets_eq (t : List WS) : impl_AreSheets.f t = some ((List.range t.length).all (goodS t) && decide ((t.length : Int) ≤ 12)) := by
  unfold impl_AreSheets.f
  congr 1
  simp only [IsWorkSheet_eq, Option.getD_some, impl_AreSheets_1.f]
  rw [Bool.eq_iff_iff]
  simp only [Bool.and_eq_true, all_range, decide_eq_true_eq, all_getD z34, asc_iff _ z34]
  have wr : ∀ x : WS, okSheet x.f0 x.f1 x.f2 x.f3 x.f4 = true → wrap64 (wrap64 (100 * x.f1) + x.f0) = 100 * x.f1 + x.f0 := fun x h => by
    obtain ⟨h1, h2, _⟩ := (okSheet_iff _ _ _ _ _).1 h
    rw [wrap_id (100 * x.f1) (by omega) (by omega), wrap_id _ (by omega) (by omega)]
  constructor
  · rintro ⟨hn, hok, has⟩
    refine ⟨fun i hi => ?_, hn⟩
    unfold goodS okS
    rw [hok i hi, Bool.true_and]
    by_cases h0 : i = 0
    · simp [h0]
    · simp only [h0, decide_false, Bool.false_or]
      have h := has (i - 1) (by omega)
      have e : i - 1 + 1 = i := by omega
      rw [e] at h
      have ok1 := hok (i - 1) (by omega)
      have ok2 := hok i hi
      rw [wr _ ok1, wr _ ok2] at h
      obtain ⟨h1, h2, _⟩ := (okSheet_iff _ _ _ _ _).1 ok1
      obtain ⟨h3, h4, _⟩ := (okSheet_iff _ _ _ _ _).1 ok2
      exact decide_eq_true (by omega)
  · rintro ⟨hg, hn⟩
    have hok : ∀ i, i < t.length → okSheet (t.getD i z34).f0 (t.getD i z34).f1 (t.getD i z34).f2 (t.getD i z34).f3 (t.getD i z34).f4 = true := fun i hi => by
      have := hg i hi
      unfold goodS okS at this
      exact (Bool.and_eq_true _ _ ▸ this).1
    refine ⟨hn, hok, fun i hi => ?_⟩
    have h := hg (i + 1) hi
    unfold goodS at h
    rw [Bool.and_eq_true] at h
    have h2 := h.2
    simp only [Nat.add_sub_cancel, lexS, Nat.add_eq_zero_iff, Nat.one_ne_zero, and_false, decide_false, Bool.false_or, decide_eq_true_eq] at h2
    have ok1 := hok i (by omega)
    have ok2 := hok (i + 1) hi
    rw [wr _ ok1, wr _ ok2]
    obtain ⟨h1, h4, _⟩ := (okSheet_iff _ _ _ _ _).1 ok1
    obtain ⟨h3, h5, _⟩ := (okSheet_iff _ _ _ _ _).1 ok2
    omega
/-- Whether a list is one of sheets. -/
def areS (t : List WS) : Bool := (List.range t.length).all (goodS t) && decide ((t.length : Int) ≤ 12)
theorem areS_iff (t : List WS) (h : areS t = true) : t.length ≤ 12 ∧ ∀ i, i < t.length → okS (t.getD i z34) = true := by
  unfold areS at h
  rw [Bool.and_eq_true, all_range] at h
  refine ⟨by have := of_decide_eq_true h.2; omega, fun i hi => ?_⟩
  have := h.1 i hi
  unfold goodS at this
  rw [Bool.and_eq_true] at this
  exact this.1
def okRates (a b c d e : Int) : Bool := rng a 0 10000 && (rng b 0 10000 && (rng c 0 10000 && (rng d 0 10000 && rng e 0 10000)))
theorem okRates_iff (a b c d e : Int) : okRates a b c d e = true ↔ (0 ≤ a ∧ a ≤ 10000) ∧ (0 ≤ b ∧ b ≤ 10000) ∧ (0 ≤ c ∧ c ≤ 10000) ∧ (0 ≤ d ∧ d ≤ 10000) ∧ 0 ≤ e ∧ e ≤ 10000 := by
  simp only [okRates, Bool.and_eq_true, rng_iff]
theorem l14Rates_eq (a b c d e : Int) : spec_l14Rates.f a b c d e = some (okRates a b c d e) := by
  unfold spec_l14Rates.f spec_l14Cents.f okRates
  simp only [l1In_eq, Option.bind_some]
  cases rng a 0 10000 <;> cases rng b 0 10000 <;> cases rng c 0 10000 <;> cases rng d 0 10000 <;> cases rng e 0 10000 <;> rfl
theorem AreRates_eq (a b c d e : Int) : impl_AreRates.f a b c d e = some (okRates a b c d e) := by
  unfold impl_AreRates.f impl_AreRates_1.f okRates
  simp only [in_eq, Option.bind_some, Option.getD_some, List.all_cons, List.all_nil, Bool.and_true]
theorem wage_same (a b c d e f g h i j : Int) : spec_l14Wage.f a b c d e f g h i j = impl_Rates_wage.f a b c d e f g h i j := by
  unfold spec_l14Wage.f impl_Rates_wage.f impl_WorkSheet_right.f spec_l1Most.f
  simp only [Option.bind_some]
  have hm : ∀ x y : Int, (if x > y then some x else some y) = some (mx y x) := fun x y => by unfold mx; split <;> congr 1 <;> omega
  simp only [hm, Option.bind_some]
theorem wage_some (a b c d e f g h i j : Int) : ∃ v, impl_Rates_wage.f a b c d e f g h i j = some v := by
  unfold impl_Rates_wage.f impl_WorkSheet_right.f
  simp only [Option.bind_some]
  split <;> exact ⟨_, rfl⟩
theorem Wages_loops (t : List WS) (hl : t.length ≤ 2000000) (a b c d e w f g : Int) : ∃ v : Int, Ev (fun k => spec_l14Sum.l0 k t w f g 0 0 a b c d e) v ∧ Ev (fun k => impl_WagesBetween.l0 k w f g 0 t (t.length : Int) 0 a b c d e) (v, true) := by
  obtain ⟨r, _, h1, h2⟩ := Ev.two (fun k i (q : Int) => (spec_l14Sum.l0 k t w f g q i a b c d e).map (fun v => (v, true))) (fun k i (q : Int) => impl_WagesBetween.l0 k w f g q t (t.length : Int) i a b c d e) t.length (fun _ s u => s = u) (fun _ => True)
    (fun s u hs => ⟨(s, true), trivial, Ev.step (fun k => by rw [spec_l14Sum.l0, if_neg (by omega)]; rfl) (Ev.now _), by
      subst hs; exact Ev.step (fun k => by rw [impl_WagesBetween.l0, if_neg (by omega)]) (Ev.now _)⟩)
    (fun i s u hi hs => by
      subst hs
      obtain ⟨x, hx⟩ : ∃ x, x = rd_T34 t (i : Int) := ⟨_, rfl⟩
      have w1 : wrap64 ((i : Int) + 1) = (i : Int) + 1 := wrap_id _ (by omega) (by omega)
      obtain ⟨v, hv⟩ := wage_some a b c d e x.f0 x.f1 x.f2 x.f3 x.f4
      by_cases h1 : x.f0 = w
      · by_cases h2 : rng x.f1 f g = true
        · refine .inr ⟨wrap64 (s + v), _, rfl, fun r h => Ev.step (fun k => ?_) h, fun r h => Ev.step (fun k => ?_) h⟩
          · rw [spec_l14Sum.l0, if_pos (by omega), if_pos (by omega), ← hx, if_pos h1, l1In_eq, Option.bind_some, if_pos h2, wage_same, hv, Option.bind_some, w1]
          · rw [impl_WagesBetween.l0, if_pos (by omega), if_pos (by omega), if_pos (by omega), ← hx, if_pos h1, in_eq, Option.bind_some, if_pos h2, hv, Option.bind_some, w1]
        · refine .inr ⟨s, _, rfl, fun r h => Ev.step (fun k => ?_) h, fun r h => Ev.step (fun k => ?_) h⟩
          · rw [spec_l14Sum.l0, if_pos (by omega), if_pos (by omega), ← hx, if_pos h1, l1In_eq, Option.bind_some, if_neg h2, w1]
          · rw [impl_WagesBetween.l0, if_pos (by omega), if_pos (by omega), if_pos (by omega), ← hx, if_pos h1, in_eq, Option.bind_some, if_neg h2, w1]
      · refine .inr ⟨s, _, rfl, fun r h => Ev.step (fun k => ?_) h, fun r h => Ev.step (fun k => ?_) h⟩
        · rw [spec_l14Sum.l0, if_pos (by omega), if_pos (by omega), ← hx, if_neg h1, w1]
        · rw [impl_WagesBetween.l0, if_pos (by omega), if_pos (by omega), if_pos (by omega), ← hx, if_neg h1, w1]) 0 0 rfl
  obtain ⟨K, hK⟩ := h1
  obtain ⟨v, hv, hr⟩ := Option.map_eq_some_iff.1 (hK K (Nat.le_refl _))
  refine ⟨v, ⟨K, fun k hk => ?_⟩, by rw [hr]; exact h2⟩
  obtain ⟨v', hv', hr'⟩ := Option.map_eq_some_iff.1 (hK k hk)
  have : v' = v := by have := hr'.trans hr.symm; exact (Prod.mk.inj this).1
  dsimp only
  rw [hv', this]
theorem rng_split (f g : Int) : (rng f 0 4000 && (rng g 0 4000 && !decide (f > g))) = (rng g 0 4000 && rng f 0 g) := by
  rw [Bool.eq_iff_iff]
  simp only [Bool.and_eq_true, rng_iff, Bool.not_eq_true', decide_eq_false_iff_not]
  omega
theorem Wages_same (t : List WS) (hl : t.length ≤ 2000000) (a b c d e w f g : Int) : ∃ r : Int × Bool, Ev (fun k => spec_WagesBetween.f k a b c d e t w f g) r ∧ Ev (fun k => impl_WagesBetween.f k a b c d e t w f g) r := by
  obtain ⟨K, hg⟩ := l14Good_ev t hl
  obtain ⟨v, h1, K2, h2⟩ := Wages_loops t hl a b c d e w f g
  have h1' : Ev (fun k => spec_l14Sum.f k a b c d e t w f g) v := h1
  obtain ⟨K1, h1'⟩ := h1'
  dsimp only at hg h1' h2
  have jt : ∀ k, impl_WagesBetween.j0 (k + 1) t w f g true a b c d e = some (0, false) := fun k => by rw [impl_WagesBetween.j0, if_pos rfl]
  have jf : ∀ k, K2 ≤ k → impl_WagesBetween.j0 (k + 1) t w f g false a b c d e = some (v, true) := fun k hk => by rw [impl_WagesBetween.j0, if_neg (by decide)]; exact h2 k hk
  have hS : ∀ k, K + K1 ≤ k → spec_WagesBetween.f k a b c d e t w f g = some (if (okRates a b c d e && (areS t && (rng w 1 99 && (rng g 0 4000 && rng f 0 g)))) = true then (v, true) else (0, false)) := fun k hk => by
    unfold spec_WagesBetween.f spec_l2Day.f
    rw [l14Rates_eq, hg k (by omega)]
    simp only [l1In_eq, Option.bind_some]
    rw [h1' k (by omega)]
    simp only [Option.bind_some]
    show (if okRates a b c d e = true then (if areS t = true then _ else _) else _) = _
    cases okRates a b c d e <;> cases areS t <;> cases rng w 1 99 <;> cases rng g 0 4000 <;> cases rng f 0 g <;> rfl
  have hI : ∀ k, K2 ≤ k → impl_WagesBetween.f (k + 1) a b c d e t w f g = some (if (okRates a b c d e && (areS t && (rng w 1 99 && (rng f 0 4000 && (rng g 0 4000 && !decide (f > g)))))) = true then (v, true) else (0, false)) := fun k hk => by
    unfold impl_WagesBetween.f impl_isId.f impl_isDay.f
    rw [AreRates_eq, AreSheets_eq]
    simp only [in_eq, Option.bind_some, jt]
    show (if okRates a b c d e = true then (if areS t = true then _ else _) else _) = _
    by_cases hfg : f > g
    · rw [decide_eq_true hfg, jt]
      cases okRates a b c d e <;> cases areS t <;> cases rng w 1 99 <;> cases rng g 0 4000 <;> cases rng f 0 4000 <;> rfl
    · rw [decide_eq_false hfg, jf k hk]
      cases okRates a b c d e <;> cases areS t <;> cases rng w 1 99 <;> cases rng g 0 4000 <;> cases rng f 0 4000 <;> rfl
  simp only [rng_split] at hI
  exact ⟨_, ⟨_, hS⟩, K2 + 1, fun k hk => by obtain ⟨m, rfl⟩ : ∃ m, k = m + 1 := ⟨k - 1, by omega⟩; exact hI m (by omega)⟩
theorem FnExactWagesBetween (a0_0 : Int) (a0_1 : Int) (a0_2 : Int) (a0_3 : Int) (a0_4 : Int) (l1 : List (S32)) (a2 : Int) (a3 : Int) (a4 : Int) (q_a0_0 : (Lit.int .i64 a0_0).wf = true) (q_a0_1 : (Lit.int .i64 a0_1).wf = true) (q_a0_2 : (Lit.int .i64 a0_2).wf = true) (q_a0_3 : (Lit.int .i64 a0_3).wf = true) (q_a0_4 : (Lit.int .i64 a0_4).wf = true) (q_l1 : (l1.length ≤ maxLen ∧ ∀ q ∈ l1, ((Lit.int .i64 q.f0).wf = true ∧ (Lit.int .i64 q.f1).wf = true ∧ (Lit.int .i64 q.f2).wf = true ∧ (Lit.int .i64 q.f3).wf = true ∧ (Lit.int .i64 q.f4).wf = true))) (q_a2 : (Lit.int .i64 a2).wf = true) (q_a3 : (Lit.int .i64 a3).wf = true) (q_a4 : (Lit.int .i64 a4).wf = true) : ∃ k, laws_FnExactWagesBetween.f k a0_0 a0_1 a0_2 a0_3 a0_4 l1 a2 a3 a4 = some true := by
  by_cases hl : (l1.length : Int) ≤ 1048576
  · obtain ⟨t, htl, K1, h1⟩ := toWS_ev l1 hl
    obtain ⟨r, ⟨K2, h2⟩, K3, h3⟩ := Wages_same t (by omega) a0_0 a0_1 a0_2 a0_3 a0_4 a2 a3 a4
    obtain ⟨K4, h4⟩ := eqWS_ev t (by omega)
    dsimp only at h1 h2 h3 h4
    refine ⟨K1 + K2 + K3 + K4 + 1 + 1 + 1, ?_⟩
    unfold laws_FnExactWagesBetween.f laws_toRates.f
    rw [szWS2 l1 hl, Option.bind_some, if_neg (by omega)]
    simp (disch := omega) only [h1, h2, h3, h4, laws_FnExactWagesBetween.j0, Option.bind_some, if_true, if_false, bne_self_eq_false, Bool.false_eq_true]
  · refine ⟨0, ?_⟩
    unfold laws_FnExactWagesBetween.f
    rw [szWS l1 hl q_l1.1]
    rfl
end Go.Proofs.Ytccpiiladdiocaa.Pure
