/- The plain law of FnExactMissedBonus: what the program's functions compute is what the reference's compute. No program and no memory in it. -/
import Derived.Test.YtccpiiladdiocaaHx15
import Derived.Test.YtccpiiladdiocaaLps
namespace Go.Proofs.Ytccpiiladdiocaa.Pure
open Go.RowKit Go.Proofs.YtccpiiladdiocaaW.PrintWords Go.Proofs.YtccpiiladdiocaaW.PrintLast Go.Proofs.Ytccpiiladdiocaa.H
set_option linter.unusedVariables false
set_option linter.unusedSimpArgs false
theorem l1In_eq (a b c : Int) : spec_l1In.f a b c = some (rng a b c) := spec_l1In.eq a b c
theorem in_eq (a b c : Int) : impl_in.f a b c = some (rng a b c) := impl_in.eq a b c
def okSheet (a b c d e : Int) : Bool := rng a 1 99 && (rng b 0 4000 && (rng c 0 12000 && (rng d 0 c && rng e 0 12)))
theorem l14One_eq (a b c d e : Int) : spec_l14One.f a b c d e = some (okSheet a b c d e) := by
  unfold spec_l14One.f spec_l2Day.f okSheet
  simp only [l1In_eq, Option.bind_some]
  cases rng a 1 99 <;> cases rng b 0 4000 <;> cases rng c 0 12000 <;> cases rng d 0 c <;> cases rng e 0 12 <;> rfl
theorem IsWorkSheet_eq (a b c d e : Int) : impl_IsWorkSheet.f a b c d e = some (okSheet a b c d e) := by
  unfold impl_IsWorkSheet.f impl_isDay.f impl_isId.f okSheet
  simp only [in_eq, Option.bind_some]
  cases rng a 1 99 <;> cases rng b 0 4000 <;> cases rng c 0 12000 <;> cases rng d 0 c <;> cases rng e 0 12 <;> rfl
theorem okSheet_iff (a b c d e : Int) : okSheet a b c d e = true ↔ (1 ≤ a ∧ a ≤ 99) ∧ (0 ≤ b ∧ b ≤ 4000) ∧ (0 ≤ c ∧ c ≤ 12000) ∧ (0 ≤ d ∧ d ≤ c) ∧ 0 ≤ e ∧ e ≤ 12 := by
  simp only [okSheet, Bool.and_eq_true, rng_iff]
abbrev WS := S34
abbrev LS := S32
theorem szWS (l : List LS) (h : ¬ (l.length : Int) ≤ 1048576) (hm : l.length ≤ maxLen) : laws_szWorkSheetS.f l 1048576 = some (-1) := by
  have hm' : l.length ≤ 9223372036854775807 := hm
  unfold laws_szWorkSheetS.f
  rw [wrap_id _ (by omega) (by omega), if_pos (by omega)]
theorem szWS2 (l : List LS) (h : (l.length : Int) ≤ 1048576) : laws_szWorkSheetS.f l 1048576 = some (1048576 - (l.length : Int)) := by
  unfold laws_szWorkSheetS.f
  rw [wrap_id _ (by omega) (by omega), if_neg (by omega)]
theorem toWS_ev (l : List LS) (hl : (l.length : Int) ≤ 1048576) : ∃ t : List WS, t.length = l.length ∧ Ev (fun k => laws_toWorkSheetS.f k l) t := by
  obtain ⟨r, hr, h⟩ := Ev.loopE (fun k i (s : List WS) => laws_toWorkSheetS.l0 k l s i) l.length (fun _ s => s.length = l.length) (fun r => r.length = l.length)
    (fun s hs => ⟨s, hs, Ev.step (fun k => by rw [laws_toWorkSheetS.l0, if_neg (by omega)]) (Ev.now s)⟩)
    (fun i s hi hs => ⟨s.set i ⟨(rd_T32 l i).f0, (rd_T32 l i).f1, (rd_T32 l i).f2, (rd_T32 l i).f3, (rd_T32 l i).f4⟩, by simp [hs], fun r h => Ev.step (fun k => by
      rw [laws_toWorkSheetS.l0, if_pos (by omega), if_pos (by omega)]
      simp only [laws_toWorkSheet.f, Option.bind_some]
      rw [if_pos (by omega), wrap_id _ (by omega) (by omega), Int.toNat_natCast]) h⟩) (List.replicate l.length z34) (by simp)
  refine ⟨r, hr, Ev.congr (fun k => ?_) h⟩
  unfold laws_toWorkSheetS.f
  rw [if_pos (by omega), if_pos (by omega), Int.toNat_natCast]
theorem eqWS_ev (t : List WS) (ht : t.length ≤ 2000000) : Ev (fun k => laws_eqWorkSheetS.f k t t) true := by
  refine Ev.congr (f := fun k => laws_eqWorkSheetS.l0 k t t 0) (fun k => by unfold laws_eqWorkSheetS.f; rw [if_pos rfl]) ?_
  obtain ⟨r, hr, h⟩ := Ev.loopE (fun k i (_ : Unit) => laws_eqWorkSheetS.l0 k t t i) t.length (fun _ _ => True) (fun r => r = true)
    (fun s _ => ⟨true, rfl, Ev.step (fun k => by rw [laws_eqWorkSheetS.l0, if_neg (by omega)]) (Ev.now true)⟩)
    (fun i s hi _ => ⟨(), trivial, fun r h => Ev.step (fun k => by
      rw [laws_eqWorkSheetS.l0, if_pos (by omega), if_pos (by omega), if_pos (by omega)]
      simp only [laws_eqWorkSheet.f, if_true, Option.bind_some]
      rw [wrap_id _ (by omega) (by omega)]) h⟩) () trivial
  subst hr
  exact h
def okS (x : WS) : Bool := okSheet x.f0 x.f1 x.f2 x.f3 x.f4
def lexS (x y : WS) : Bool := decide (x.f1 < y.f1 ∨ x.f1 = y.f1 ∧ x.f0 < y.f0)
def goodS (t : List WS) (i : Nat) : Bool := okS (t.getD i z34) && (decide (i = 0) || lexS (t.getD (i - 1) z34) (t.getD i z34))
theorem l14_step (t : List WS) (i : Nat) (hi : i < t.length) (hl : t.length ≤ 2000000) (k : Nat) : spec_l14Good.l0 (k + 1) t (i : Int) = spec_l14Good.j1 k t (i : Int) (!goodS t i) := by
  rw [spec_l14Good.l0, if_pos (by omega), if_pos (by omega)]
  simp only [l14One_eq, Option.bind_some]
  have e0 : rd_T34 t (i : Int) = t.getD i z34 := rfl
  rw [e0]
  obtain ⟨y, hy⟩ : ∃ y, y = t.getD i z34 := ⟨_, rfl⟩
  unfold goodS okS
  rw [← hy]
  by_cases hok : okSheet y.f0 y.f1 y.f2 y.f3 y.f4 = true
  · rw [if_pos hok, hok, Bool.true_and]
    by_cases h0 : i = 0
    · subst h0
      rw [if_neg (by omega)]
      rfl
    · have e1 : wrap64 ((i : Int) - 1) = ((i - 1 : Nat) : Int) := by rw [wrap_id _ (by omega) (by omega)]; omega
      have e2 : rd_T34 t ((i - 1 : Nat) : Int) = t.getD (i - 1) z34 := rfl
      rw [if_pos (by omega), e1, if_pos (by omega), if_pos (by omega), e2]
      obtain ⟨x, hx⟩ : ∃ x, x = t.getD (i - 1) z34 := ⟨_, rfl⟩
      rw [← hx]
      simp only [h0, decide_false, Bool.false_or]
      unfold lexS
      by_cases h1 : x.f1 > y.f1
      · rw [if_pos h1, decide_eq_false (by omega)]
        rfl
      · rw [if_neg h1]
        by_cases h2 : x.f1 = y.f1
        · rw [if_pos h2]
          congr 1
          by_cases h3 : x.f0 ≥ y.f0
          · rw [decide_eq_true h3, decide_eq_false (by omega)]
            rfl
          · rw [decide_eq_false h3, decide_eq_true (by omega)]
            rfl
        · rw [if_neg h2, decide_eq_true (by omega)]
          rfl
  · rw [if_neg hok]
    simp only [Bool.not_eq_true] at hok
    rw [hok]
    rfl
theorem l14Good_ev (t : List WS) (hl : t.length ≤ 2000000) : Ev (fun k => spec_l14Good.f k t) ((List.range t.length).all (goodS t) && decide ((t.length : Int) ≤ 12)) := by
  unfold spec_l14Good.f
  refine Ev.scan (fun k i => spec_l14Good.l0 k t i) t.length (goodS t) _ (Ev.step (fun k => by rw [spec_l14Good.l0, if_neg (by omega)]) (Ev.now _)) ?_ ?_
  · intro i hi hg
    refine Ev.step (f := fun k => spec_l14Good.j1 k t i true) (fun k => by rw [l14_step t i hi hl, hg]; rfl) ?_
    exact Ev.step (fun k => by rw [spec_l14Good.j1, if_pos rfl]) (Ev.now false)
  · intro i r hi hg h
    refine Ev.step (f := fun k => spec_l14Good.j1 k t i false) (fun k => by rw [l14_step t i hi hl, hg]; rfl) ?_
    exact Ev.step (fun k => by rw [spec_l14Good.j1, if_neg (by decide), wrap_id _ (by omega) (by omega)]) h
theorem AreSheets_eq (t : List WS) : impl_AreSheets.f t = some ((List.range t.length).all (goodS t) && decide ((t.length : Int) ≤ 12)) := by
  unfold impl_AreSheets.f
  congr 1
  simp only [IsWorkSheet_eq, Option.getD_some, impl_AreSheets_1.f]
  rw [Bool.eq_iff_iff]
  simp only [Bool.and_eq_true, all_range, decide_eq_true_eq, all_getD z34, asc_iff _ z34]
  have wr : ∀ x : WS, okSheet x.f0 x.f1 x.f2 x.f3 x.f4 = true → wrap64 (wrap64 (100 * x.f1) + x.f0) = 100 * x.f1 + x.f0 := fun x h => by
    obtain ⟨h1, h2, _⟩ := (okSheet_iff _ _ _ _ _).1 h
    rw [wrap_id (100 * x.f1) (by omega) (by omega), wrap_id _ (by omega) (by omega)]
  constructor
  · rintro ⟨hn, hok, has⟩
    refine ⟨fun i hi => ?_, hn⟩
    unfold goodS okS
    rw [hok i hi, Bool.true_and]
    by_cases h0 : i = 0
    · simp [h0]
    · simp only [h0, decide_false, Bool.false_or]
      have h := has (i - 1) (by omega)
      have e : i - 1 + 1 = i := by omega
      rw [e] at h
      have ok1 := hok (i - 1) (by omega)
      have ok2 := hok i hi
      rw [wr _ ok1, wr _ ok2] at h
      obtain ⟨h1, h2, _⟩ := (okSheet_iff _ _ _ _ _).1 ok1
      obtain ⟨h3, h4, _⟩ := (okSheet_iff _ _ _ _ _).1 ok2
      exact decide_eq_true (by omega)
  · rintro ⟨hg, hn⟩
    have hok : ∀ i, i < t.length → okSheet (t.getD i z34).f0 (t.getD i z34).f1 (t.getD i z34).f2 (t.getD i z34).f3 (t.getD i z34).f4 = true := fun i hi => by
      have := hg i hi
      unfold goodS okS at this
      exact (Bool.and_eq_true _ _ ▸ this).1
    refine ⟨hn, hok, fun i hi => ?_⟩
    have h := hg (i + 1) hi
    unfold goodS at h
    rw [Bool.and_eq_true] at h
    have h2 := h.2
    simp only [Nat.add_sub_cancel, lexS, Nat.add_eq_zero_iff, Nat.one_ne_zero, and_false, decide_false, Bool.false_or, decide_eq_true_eq] at h2
    have ok1 := hok i (by omega)
    have ok2 := hok (i + 1) hi
    rw [wr _ ok1, wr _ ok2]
    obtain ⟨h1, h4, _⟩ := (okSheet_iff _ _ _ _ _).1 ok1
    obtain ⟨h3, h5, _⟩ := (okSheet_iff _ _ _ _ _).1 ok2
    omega
/-- Whether a list is one of sheets. -/
def areS (t : List WS) : Bool := (List.range t.length).all (goodS t) && decide ((t.length : Int) ≤ 12)
theorem areS_iff (t : List WS) (h : areS t = true) : t.length ≤ 12 ∧ ∀ i, i < t.length → okS (t.getD i z34) = true := by
  unfold areS at h
  rw [Bool.and_eq_true, all_range] at h
  refine ⟨by have := of_decide_eq_true h.2; omega, fun i hi => ?_⟩
  have := h.1 i hi
  unfold goodS at this
  rw [Bool.and_eq_true] at this
  exact this.1
theorem eqInts_ev (t : List Int) (ht : t.length ≤ 2000000) : Ev (fun k => laws_eqIntS.f k t t) true := by
  refine Ev.congr (f := fun k => laws_eqIntS.l0 k t t 0) (fun k => by unfold laws_eqIntS.f; rw [if_pos rfl]) ?_
  obtain ⟨r, hr, h⟩ := Ev.loopE (fun k i (_ : Unit) => laws_eqIntS.l0 k t t i) t.length (fun _ _ => True) (fun r => r = true)
    (fun s _ => ⟨true, rfl, Ev.step (fun k => by rw [laws_eqIntS.l0, if_neg (by omega)]) (Ev.now true)⟩)
    (fun i s hi _ => ⟨(), trivial, fun r h => Ev.step (fun k => by
      rw [laws_eqIntS.l0, if_pos (by omega), if_pos (by omega), if_pos (by omega), if_pos rfl, wrap_id _ (by omega) (by omega)]) h⟩) () trivial
  subst hr
  exact h
theorem held_ev (t : List Int) (ht : t.length ≤ 2000000) (h1 : ∀ j : Nat, j < t.length → t.getD j 0 = 1 + (j : Int)) : Ev (fun k => laws_heldIntS.f k t 1) (1 + (t.length : Int)) := by
  unfold laws_heldIntS.f
  obtain ⟨r, hr, h⟩ := Ev.loopE (fun k i (q : Int) => laws_heldIntS.l0 k t q i) t.length (fun i q => q = 1 + (i : Int)) (fun r => r = 1 + (t.length : Int))
    (fun s hs => ⟨s, hs, Ev.step (fun k => by rw [laws_heldIntS.l0, if_neg (by omega)]) (Ev.now s)⟩)
    (fun i s hi hs => ⟨s + 1, by omega, fun r h => Ev.step (fun k => by
      have hx : rd t (i : Int) = s := by rw [hs]; exact h1 i hi
      rw [laws_heldIntS.l0, if_pos (by omega), if_pos (by omega), if_pos hx, wrap_id _ (by omega) (by omega), wrap_id _ (by omega) (by omega)]) h⟩) 1 (by omega)
  subst hr
  exact h
theorem mark_ev (t : List Int) (ht : t.length ≤ 2000000) : ∃ t' : List Int, Ev (fun k => laws_markIntS.f k t 1) (1 + (t.length : Int), t') ∧ Ev (fun k => laws_heldIntS.f k t' 1) (1 + (t.length : Int)) := by
  unfold laws_markIntS.f
  obtain ⟨⟨m, t'⟩, ⟨hm, hl, hj⟩, h⟩ := Ev.loopE (fun k i (q : Int × List Int) => laws_markIntS.l0 k q.2 q.1 i) t.length
    (fun i q => q.1 = 1 + (i : Int) ∧ q.2.length = t.length ∧ ∀ j : Nat, j < i → q.2.getD j 0 = 1 + (j : Int)) (fun r => r.1 = 1 + (t.length : Int) ∧ r.2.length = t.length ∧ ∀ j : Nat, j < t.length → r.2.getD j 0 = 1 + (j : Int))
    (fun s hs => ⟨s, hs, Ev.step (fun k => by rw [laws_markIntS.l0, if_neg (by omega)]) (Ev.now s)⟩)
    (fun i s hi hs => ⟨(s.1 + 1, s.2.set i s.1), ⟨by have := hs.1; simp only; omega, by simp [hs.2.1], fun j hj => by
        have h2 := hs.2.1
        simp only [getD_set]
        by_cases e : i = j
        · subst e; rw [if_pos ⟨rfl, by omega⟩]; exact hs.1
        · rw [if_neg (fun h => e h.1)]; exact hs.2.2 j (by omega)⟩, fun r h => Ev.step (fun k => by
      have h1 := hs.1
      have h2 := hs.2.1
      rw [laws_markIntS.l0, if_pos (by omega), if_pos (by omega), wrap_id _ (by omega) (by omega), wrap_id _ (by omega) (by omega), Int.toNat_natCast]) h⟩) (1, t) ⟨by simp, rfl, fun j hj => absurd hj (by omega)⟩
  simp only at hm hl hj
  subst hm
  refine ⟨t', h, ?_⟩
  have := held_ev t' (by omega) (fun j hjj => hj j (by omega))
  rw [hl] at this
  exact this
theorem markWS_ev (t : List WS) (ht : t.length ≤ 2000000) : ∃ (m : Int) (t' : List WS), 0 ≤ m ∧ Ev (fun k => laws_markWorkSheetS.f k t 1) (m, t') := by
  unfold laws_markWorkSheetS.f
  obtain ⟨⟨m, t'⟩, hm, h⟩ := Ev.loopE (fun k i (q : Int × List WS) => laws_markWorkSheetS.l0 k q.2 q.1 i) t.length
    (fun i q => q.1 = 1 + 5 * (i : Int) ∧ q.2.length = t.length) (fun r => 0 ≤ r.1)
    (fun s hs => ⟨s, by have := hs.1; omega, Ev.step (fun k => by rw [laws_markWorkSheetS.l0, if_neg (by omega)]) (Ev.now s)⟩)
    (fun i s hi hs => by
      refine ⟨(?a, ?b), ?inv, fun r h => Ev.step (fun k => ?eq) h⟩
      case eq =>
        have h1 := hs.1
        have h2 := hs.2
        rw [laws_markWorkSheetS.l0, if_pos (by omega), if_pos (by omega)]
        simp only [Option.bind_some]
        rw [wrap_id (s.1 + 1) (by omega) (by omega), wrap_id (s.1 + 1 + 1) (by omega) (by omega), wrap_id (s.1 + 1 + 1 + 1) (by omega) (by omega), wrap_id (s.1 + 1 + 1 + 1 + 1) (by omega) (by omega), wrap_id (s.1 + 1 + 1 + 1 + 1 + 1) (by omega) (by omega), wrap_id ((i : Int) + 1) (by omega) (by omega)]
      case inv =>
        have h1 := hs.1
        have h2 := hs.2
        exact ⟨by simp only; omega, by simp [h2]⟩) (1, t) ⟨by simp, rfl⟩
  exact ⟨m, t', hm, h⟩
theorem Missed_loops (t : List WS) (hl : t.length ≤ 2000000) : ∃ r : List Int × Bool, r.1.length ≤ t.length ∧ Ev (fun k => spec_MissedBonus.l0 k t ([] : List Int) 0) r ∧ Ev (fun k => impl_MissedBonus.l0 k ([] : List Int) t (t.length : Int) 0) r := by
  exact Ev.two (fun k i (q : List Int) => spec_MissedBonus.l0 k t q i) (fun k i (q : List Int) => impl_MissedBonus.l0 k q t (t.length : Int) i) t.length (fun i s u => s = u ∧ s.length ≤ i) (fun r => r.1.length ≤ t.length)
    (fun s u hs => ⟨(s, true), hs.2, Ev.step (fun k => by rw [spec_MissedBonus.l0, if_neg (by omega)]) (Ev.now _), by
      obtain ⟨rfl, _⟩ := hs; exact Ev.step (fun k => by rw [impl_MissedBonus.l0, if_neg (by omega)]) (Ev.now _)⟩)
    (fun i s u hi hs => by
      obtain ⟨rfl, hs⟩ := hs
      obtain ⟨x, hx⟩ : ∃ x, x = rd_T34 t (i : Int) := ⟨_, rfl⟩
      have w1 : wrap64 ((i : Int) + 1) = (i : Int) + 1 := wrap_id _ (by omega) (by omega)
      by_cases h1 : x.f2 ≥ 8000
      · by_cases h2 : wrap64 (x.f2 - x.f3) < 8000
        · refine .inr ⟨s ++ [(i : Int)], _, ⟨rfl, by simp; omega⟩, fun r h => Ev.step (fun k => ?_) h, fun r h => Ev.step (fun k => ?_) h⟩
          · rw [spec_MissedBonus.l0, if_pos (by omega), if_pos (by omega), ← hx, if_pos h1, if_pos h2, if_pos (by omega), w1]
          · rw [impl_MissedBonus.l0, if_pos (by omega), if_pos (by omega), if_pos (by omega), ← hx]
            simp only [impl_WorkSheet_right.f, Option.bind_some]
            rw [if_pos h2, if_pos h1, if_pos (by omega), w1]
        · refine .inr ⟨s, _, ⟨rfl, by omega⟩, fun r h => Ev.step (fun k => ?_) h, fun r h => Ev.step (fun k => ?_) h⟩
          · rw [spec_MissedBonus.l0, if_pos (by omega), if_pos (by omega), ← hx, if_pos h1, if_neg h2, w1]
          · rw [impl_MissedBonus.l0, if_pos (by omega), if_pos (by omega), if_pos (by omega), ← hx]
            simp only [impl_WorkSheet_right.f, Option.bind_some]
            rw [if_neg h2, w1]
      · refine .inr ⟨s, _, ⟨rfl, by omega⟩, fun r h => Ev.step (fun k => ?_) h, fun r h => Ev.step (fun k => ?_) h⟩
        · rw [spec_MissedBonus.l0, if_pos (by omega), if_pos (by omega), ← hx, if_neg h1, w1]
        · rw [impl_MissedBonus.l0, if_pos (by omega), if_pos (by omega), if_pos (by omega), ← hx]
          simp only [impl_WorkSheet_right.f, Option.bind_some]
          rw [if_neg h1, w1]
          simp only [ite_self]) [] [] ⟨rfl, Nat.le_refl _⟩
theorem Missed_same (t : List WS) (hl : t.length ≤ 2000000) : ∃ r : List Int × Bool, r.1.length ≤ t.length ∧ Ev (fun k => spec_MissedBonus.f k t) r ∧ Ev (fun k => impl_MissedBonus.f k t) r := by
  have hg := l14Good_ev t hl
  unfold spec_MissedBonus.f impl_MissedBonus.f
  simp only [AreSheets_eq, Option.bind_some]
  by_cases h : areS t = true
  · obtain ⟨r, hr, h1, h2⟩ := Missed_loops t hl
    refine ⟨r, hr, ?_, ?_⟩
    · refine Ev.bind hg ?_
      show Ev (fun k => if areS t = true then _ else _) r
      simp only [if_pos h]
      exact h1
    · show Ev (fun k => if areS t = true then _ else _) r
      simp only [if_pos h]
      exact h2
  · refine ⟨([], false), Nat.zero_le _, ?_, ?_⟩
    · refine Ev.bind hg ?_
      show Ev (fun k => if areS t = true then _ else _) _
      simp only [if_neg h]
      exact Ev.now _
    · show Ev (fun k => if areS t = true then _ else _) _
      simp only [if_neg h]
      exact Ev.now _
theorem FnExactMissedBonus (l0 : List (S32)) (q_l0 : (l0.length ≤ maxLen ∧ ∀ q ∈ l0, ((Lit.int .i64 q.f0).wf = true ∧ (Lit.int .i64 q.f1).wf = true ∧ (Lit.int .i64 q.f2).wf = true ∧ (Lit.int .i64 q.f3).wf = true ∧ (Lit.int .i64 q.f4).wf = true))) : ∃ k, laws_FnExactMissedBonus.f k l0 = some true := by
  by_cases hl : (l0.length : Int) ≤ 1048576
  · obtain ⟨t, htl, K1, h1⟩ := toWS_ev l0 hl
    obtain ⟨r, hr, ⟨K2, h2⟩, K3, h3⟩ := Missed_same t (by omega)
    obtain ⟨K4, h4⟩ := eqWS_ev t (by omega)
    obtain ⟨m, t', hm, K5, h5⟩ := markWS_ev t (by omega)
    obtain ⟨K6, h6⟩ := eqInts_ev r.1 (by omega)
    obtain ⟨g', ⟨K7, h7⟩, K8, h8⟩ := mark_ev r.1 (by omega)
    dsimp only at h1 h2 h3 h4 h5 h6 h7 h8
    obtain ⟨N, hN⟩ : ∃ N, N = K1 + K2 + K3 + K4 + K5 + K6 + K7 + K8 := ⟨_, rfl⟩
    replace h1 := fun j => h1 (N + j) (by omega)
    replace h2 := fun j => h2 (N + j) (by omega)
    replace h3 := fun j => h3 (N + j) (by omega)
    replace h4 := fun j => h4 (N + j) (by omega)
    replace h5 := fun j => h5 (N + j) (by omega)
    replace h6 := fun j => h6 (N + j) (by omega)
    replace h7 := fun j => h7 (N + j) (by omega)
    replace h8 := fun j => h8 (N + j) (by omega)
    refine ⟨N + 4, ?_⟩
    have n1 : ¬ m < 0 := by omega
    have n2 : ¬ 1 + (r.1.length : Int) < 0 := by omega
    unfold laws_FnExactMissedBonus.f
    rw [szWS2 l0 hl, Option.bind_some, if_neg (by omega), h1, Option.bind_some, h2, Option.bind_some, Option.bind_some, h3, Option.bind_some, h6, Option.bind_some, if_pos rfl, bne_self_eq_false]
    rw [laws_FnExactMissedBonus.j0, if_neg (by decide), h1, Option.bind_some, h4, Option.bind_some, if_pos rfl, h5, Option.bind_some, if_neg n1, h6, Option.bind_some, if_pos rfl, bne_self_eq_false]
    rw [laws_FnExactMissedBonus.j1, if_neg (by decide), h7, Option.bind_some, h8, Option.bind_some, if_neg n2, if_pos rfl, h1, Option.bind_some, h3, Option.bind_some, h6, Option.bind_some, if_pos rfl, bne_self_eq_false]
    rw [laws_FnExactMissedBonus.j2, if_neg (by decide), h8, Option.bind_some, if_neg n2, if_pos rfl]
  · refine ⟨0, ?_⟩
    unfold laws_FnExactMissedBonus.f
    rw [szWS l0 hl q_l0.1]
    rfl
end Go.Proofs.Ytccpiiladdiocaa.Pure
