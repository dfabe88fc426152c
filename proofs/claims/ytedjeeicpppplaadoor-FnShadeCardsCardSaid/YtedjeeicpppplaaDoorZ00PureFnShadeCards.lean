/- The plain law of FnShadeCards: what the program's functions compute is what the reference's compute. No program and no memory in it. -/
import Derived.Test.YtedjeeicpppplaaDoorZ00Hx11
import Derived.Test.YtedjeeicpppplaaDoorZ00Lps
namespace Go.Proofs.YtedjeeicpppplaaDoor.Pure
open Go.RowKit Go.Proofs.YtedjeeicpppplaaDoorW.PrintWords Go.Proofs.YtedjeeicpppplaaDoorW.PrintLast Go.Proofs.YtedjeeicpppplaaDoor.H
set_option linter.unusedVariables false
set_option linter.unusedSimpArgs false
theorem l1In_eq (a b c : Int) : spec_l1In.f a b c = some (rng a b c) := spec_l1In.eq a b c
theorem in_eq (a b c : Int) : impl_in.f a b c = some (rng a b c) := impl_in.eq a b c
theorem word_at (s : ByteArray) (i : Nat) (hi : i < s.size) : bt s (i : Int) = (((s.data.toList)[i]'(by simpa using hi)).toNat : Int) := by
  unfold bt
  rw [dif_pos (by simpa using hi)]
  rfl
theorem l2Word_ev (s : ByteArray) (hs : s.size ≤ 2000000) : Ev (fun k => spec_l2Word.f k s) (isWordB s) := by
  unfold spec_l2Word.f
  have e : isWordB s = ((List.range s.size).all (fun i => decide (97 ≤ bt s (i : Int)) && decide (bt s (i : Int) ≤ 122)) && rng (s.size : Int) 1 10) := by
    unfold isWordB
    rw [Bool.and_comm]
    congr 1
    rw [Bool.eq_iff_iff, all_range, List.all_eq_true]
    constructor
    · intro h i hi
      have := h _ (List.getElem_mem (by simpa using hi : i < s.data.toList.length))
      rw [word_at s i hi]
      rw [Bool.and_eq_true, decide_eq_true_iff, decide_eq_true_iff] at this ⊢
      omega
    · intro h b hb
      obtain ⟨i, hi, rfl⟩ := List.getElem_of_mem hb
      have hi' : i < s.size := by simpa using hi
      have := h i hi'
      rw [word_at s i hi'] at this
      rw [Bool.and_eq_true, decide_eq_true_iff, decide_eq_true_iff] at this ⊢
      omega
  rw [e]
  refine Ev.scan (fun k i => spec_l2Word.l0 k s i) s.size _ _ (Ev.step (f := fun _ => some _) (fun k => ?_) (Ev.now _)) ?_ ?_
  · rw [spec_l2Word.l0, if_neg (by omega), l1In_eq]
    rfl
  · intro i hi hg
    refine Ev.step (f := fun _ => some false) (fun k => ?_) (Ev.now _)
    rw [spec_l2Word.l0, if_pos (by omega), if_pos (by omega)]
    by_cases c : bt s (i : Int) < 97
    · rw [if_pos c]
    · rw [if_neg c, if_pos]
      rw [Bool.and_eq_false_iff, decide_eq_false_iff_not, decide_eq_false_iff_not] at hg
      omega
  · intro i r hi hg hr
    refine Ev.step (fun k => ?_) hr
    rw [Bool.and_eq_true, decide_eq_true_iff, decide_eq_true_iff] at hg
    rw [spec_l2Word.l0, if_pos (by omega), if_pos (by omega), if_neg (by omega), if_neg (by omega), wrap_id _ (by omega) (by omega)]
theorem getD_mem {α : Type} (z : α) (l : List α) (i : Nat) (hi : i < l.length) : l.getD i z ∈ l := by
  rw [List.getD_eq_getElem?_getD, List.getElem?_eq_getElem hi]
  exact List.getElem_mem hi
abbrev SHt := S30
theorem l3One_ev (x : SHt) (hs : x.f1.size ≤ 2000000) : Ev (fun k => spec_l3One.f k x.f0 x.f1 x.f2 x.f3 x.f4) (okSh x) := by
  unfold spec_l3One.f spec_l3Step.f spec_l3Depth.f okSh
  simp only [l1In_eq, Option.bind_some]
  cases rng x.f0 1 99 with
  | false => exact Ev.now _
  | true =>
    simp only [if_true, Bool.true_and]
    refine Ev.bind (l2Word_ev x.f1 hs) ?_
    cases isWordB x.f1 with
    | false => exact Ev.now _
    | true =>
      simp only [if_true, Bool.true_and]
      cases rng x.f2 0 23 <;> cases rng x.f3 0 9 <;> cases rng x.f4 1 8 <;> exact Ev.now _
theorem IsCard_eq (l : List SHt) : impl_IsShadeCard.f l = some (cardOk l) := rfl
theorem any_take_t (p : SHt → Bool) (l : List SHt) (i m : Nat) (hm : m < i) (hl : m < l.length) (h : p (l.getD m z30) = true) : (l.take i).any p = true := by
  rw [List.any_eq_true]
  refine ⟨l.getD m z30, ?_, h⟩
  rw [List.getD_eq_getElem?_getD, List.getElem?_eq_getElem hl]
  show l[m] ∈ l.take i
  rw [List.mem_take_iff_getElem]
  exact ⟨m, by omega, rfl⟩
theorem any_take_f (p : SHt → Bool) (l : List SHt) (i : Nat) (h : ∀ m, m < i → m < l.length → p (l.getD m z30) = false) : (l.take i).any p = false := by
  rw [List.any_eq_false]
  intro x hx
  rw [List.mem_take_iff_getElem] at hx
  obtain ⟨m, hm, e⟩ := hx
  have := h m (by omega) (by omega)
  rw [List.getD_eq_getElem?_getD, List.getElem?_eq_getElem (by omega)] at this
  rw [← e]
  show ¬ p l[m] = true
  have this' : p l[m] = false := this
  rw [this']
  decide
theorem names_ev (l : List SHt) (hl : l.length ≤ 1000) (i : Nat) (hi : i < l.length) (r : Bool) (ht : (l.take i).any (sameN (l.getD i z30)) = false → Ev (fun k => spec_l3Good.l0 k l ((i : Int) + 1)) r) (hf : (l.take i).any (sameN (l.getD i z30)) = true → r = false) : Ev (fun k => spec_l3Good.l1 k l (i : Int) 0) r := by
  have e0 : ∀ j : Nat, rd_T30 l (j : Int) = l.getD j z30 := fun _ => rfl
  have key : ∀ d j : Nat, j + d = i → (∀ m, m < j → sameN (l.getD i z30) (l.getD m z30) = false) → Ev (fun k => spec_l3Good.l1 k l (i : Int) (j : Int)) r := by
    intro d
    induction d with
    | zero =>
      intro j hj hm
      refine Ev.step (fun k => ?_) (ht (any_take_f _ l i (fun m h1 _ => hm m (by omega))))
      rw [spec_l3Good.l1, if_neg (by omega), wrap_id ((i : Int) + 1) (by omega) (by omega)]
    | succ d ih =>
      intro j hj hm
      by_cases c : (l.getD j z30).f1.toList = (l.getD i z30).f1.toList
      · rw [hf (any_take_t _ l i j (by omega) (by omega) (decide_eq_true c))]
        exact Ev.step (f := fun _ => some false) (fun k => by rw [spec_l3Good.l1, if_pos (by omega), if_pos (by omega), if_pos (by omega), if_pos (by omega), if_pos (by omega), e0, e0, if_pos c]) (Ev.now _)
      · have G := ih (j + 1) (by omega) (fun m h1 => by
          by_cases e : m = j
          · rw [e]; exact decide_eq_false c
          · exact hm m (by omega))
        rw [show ((j + 1 : Nat) : Int) = (j : Int) + 1 from by omega] at G
        exact Ev.step (fun k => by rw [spec_l3Good.l1, if_pos (by omega), if_pos (by omega), if_pos (by omega), if_pos (by omega), if_pos (by omega), e0, e0, if_neg c, wrap_id ((j : Int) + 1) (by omega) (by omega)]) G
  exact key i 0 (by omega) (fun m h => by omega)
def goodAt (l : List SHt) (i : Nat) : Bool := okSh (l.getD i z30) && ((decide (i = 0) || decide ((l.getD (i - 1) z30).f0 < (l.getD i z30).f0)) && !((l.take i).any (sameN (l.getD i z30))))
theorem cardOk_range (l : List SHt) (h : l.length ≤ 10) : cardOk l = (List.range l.length).all (goodAt l) := by
  unfold cardOk nameOk
  rw [decide_eq_true (show (l.length : Int) ≤ 10 by omega), Bool.true_and, Bool.eq_iff_iff, all_range, Bool.and_eq_true, Bool.and_eq_true, all_getD z30, asc_iff idSh z30, all_range]
  unfold goodAt
  constructor
  · rintro ⟨h1, h2, h3⟩ i hi
    rw [Bool.and_eq_true, Bool.and_eq_true, Bool.or_eq_true, decide_eq_true_iff, decide_eq_true_iff]
    refine ⟨h1 i hi, ?_, h3 i hi⟩
    by_cases e : i = 0
    · exact .inl e
    · have := h2 (i - 1) (by omega)
      rw [show i - 1 + 1 = i by omega] at this
      exact .inr this
  · intro h
    refine ⟨fun i hi => ?_, fun i hi => ?_, fun i hi => ?_⟩
    · have := h i hi
      rw [Bool.and_eq_true] at this
      exact this.1
    · have := h (i + 1) hi
      rw [Bool.and_eq_true, Bool.and_eq_true, Bool.or_eq_true, decide_eq_true_iff, decide_eq_true_iff] at this
      rcases this.2.1 with h | h
      · omega
      · exact h
    · have := h i hi
      rw [Bool.and_eq_true, Bool.and_eq_true] at this
      exact this.2.2
theorem l3Good_ev (l : List SHt) (hl : l.length ≤ 1000) (hz : ∀ x ∈ l, x.f1.size ≤ 1000) : Ev (fun k => spec_l3Good.f k l) (cardOk l) := by
  unfold spec_l3Good.f
  have e0 : ∀ j : Nat, rd_T30 l (j : Int) = l.getD j z30 := fun _ => rfl
  have round : ∀ (i : Nat) (r : Bool), i < l.length → i ≤ 10 → (goodAt l i = true → Ev (fun k => spec_l3Good.l0 k l ((i : Int) + 1)) r) → (goodAt l i = false → r = false) → Ev (fun k => spec_l3Good.l0 k l (i : Int)) r := by
    intro i r hi h10 ht hf
    have h1 := l3One_ev (l.getD i z30) (by have := hz _ (getD_mem z30 l i hi); omega)
    refine Ev.step (f := fun k => spec_l3Good.j1 k l (i : Int) true) (fun k => by rw [spec_l3Good.l0, if_pos (by omega), decide_eq_true (by omega)]) ?_
    refine Ev.step (fun k => by rw [spec_l3Good.j1, if_pos rfl, if_pos (by omega), if_pos (by omega), e0]) (Ev.bind h1 ?_)
    have hj2 : Ev (fun k => spec_l3Good.j2 k l (i : Int) true) false := Ev.step (f := fun _ => some false) (fun k => by rw [spec_l3Good.j2, if_pos rfl]) (Ev.now _)
    unfold goodAt at ht hf
    cases ho : okSh (l.getD i z30) with
    | false =>
      rw [hf (by rw [ho]; rfl)]
      simp only [Bool.false_eq_true, if_false]
      exact hj2
    | true =>
      rw [ho, Bool.true_and] at ht hf
      simp only [if_true]
      have hnm : (decide (i = 0) || decide ((l.getD (i - 1) z30).f0 < (l.getD i z30).f0)) = true → Ev (fun k => spec_l3Good.j2 k l (i : Int) false) r := fun hd => by
        rw [hd, Bool.true_and] at ht hf
        refine Ev.step (fun k => by rw [spec_l3Good.j2, if_neg Bool.false_ne_true]) (names_ev l hl i hi r (fun h => ht (by rw [h]; rfl)) (fun h => hf (by rw [h]; rfl)))
      by_cases c : i = 0
      · simp only [if_neg (show ¬ (i : Int) > 0 by omega)]
        exact hnm (by rw [decide_eq_true c]; rfl)
      · have ep : rd_T30 l ((i : Int) - 1) = l.getD (i - 1) z30 := by
          show l.getD ((i : Int) - 1).toNat _ = _
          rw [show ((i : Int) - 1).toNat = i - 1 by omega]
        simp only [if_pos (show (i : Int) > 0 by omega), wrap_id ((i : Int) - 1) (show -9223372036854775808 ≤ (i : Int) - 1 by omega) (show (i : Int) - 1 ≤ 9223372036854775807 by omega), ep, if_pos (show 0 ≤ (i : Int) - 1 by omega), if_pos (show (i : Int) - 1 < (l.length : Int) by omega)]
        by_cases c2 : (l.getD (i - 1) z30).f0 < (l.getD i z30).f0
        · rw [decide_eq_false (show ¬ (l.getD (i - 1) z30).f0 ≥ (l.getD i z30).f0 by omega)]
          exact hnm (by rw [decide_eq_true c2, Bool.or_true])
        · rw [decide_eq_true (show (l.getD (i - 1) z30).f0 ≥ (l.getD i z30).f0 by omega), hf (by rw [decide_eq_false c, decide_eq_false c2]; rfl)]
          exact hj2
  have hend : ∀ i : Nat, (l.length ≤ i ∨ 10 < i) → i ≤ 1000 → Ev (fun k => spec_l3Good.l0 k l (i : Int)) (decide ((l.length : Int) ≤ 10)) := by
    intro i hi h
    have hj : Ev (fun k => spec_l3Good.j1 k l (i : Int) false) (decide ((l.length : Int) ≤ 10)) := Ev.step (f := fun _ => some (decide ((l.length : Int) ≤ 10))) (fun k => by rw [spec_l3Good.j1, if_neg Bool.false_ne_true]) (Ev.now _)
    by_cases c : (i : Int) < (l.length : Int)
    · exact Ev.step (fun k => by rw [spec_l3Good.l0, if_pos c, decide_eq_false (by omega)]) hj
    · exact Ev.step (fun k => by rw [spec_l3Good.l0, if_neg c]) hj
  by_cases h10 : l.length ≤ 10
  · rw [cardOk_range l h10]
    have G := Ev.scan (fun k i => spec_l3Good.l0 k l i) l.length (goodAt l) true (by have := hend l.length (.inl (Nat.le_refl _)) hl; rw [decide_eq_true (show (l.length : Int) ≤ 10 by omega)] at this; exact this)
      (fun i hi hg => round i false hi (by omega) (fun h => by rw [hg] at h; cases h) (fun _ => rfl))
      (fun i r hi hg hr => round i r hi (by omega) (fun _ => hr) (fun h => by rw [hg] at h; cases h))
    rw [Bool.and_true] at G
    exact G
  · have e : cardOk l = false := by unfold cardOk; rw [decide_eq_false (by omega)]; rfl
    rw [e]
    have G := Ev.scan (fun k i => spec_l3Good.l0 k l i) 11 (goodAt l) false (by have := hend 11 (.inr (by omega)) (by omega); rw [decide_eq_false (show ¬ (l.length : Int) ≤ 10 by omega)] at this; exact this)
      (fun i hi hg => round i false (by omega) (by omega) (fun h => by rw [hg] at h; cases h) (fun _ => rfl))
      (fun i r hi hg hr => round i r (by omega) (by omega) (fun _ => hr) (fun h => by rw [hg] at h; cases h))
    rw [Bool.and_false] at G
    exact G
theorem card_iff (l : List SHt) (h : cardOk l = true) : l.length ≤ 10 ∧ (∀ i, i < l.length → (1 ≤ (l.getD i z30).f0 ∧ (l.getD i z30).f0 ≤ 99) ∧ isWordB (l.getD i z30).f1 = true ∧ (0 ≤ (l.getD i z30).f2 ∧ (l.getD i z30).f2 ≤ 23) ∧ (0 ≤ (l.getD i z30).f3 ∧ (l.getD i z30).f3 ≤ 9) ∧ 1 ≤ (l.getD i z30).f4 ∧ (l.getD i z30).f4 ≤ 8) ∧ (∀ i, i < l.length → okSh (l.getD i z30) = true) ∧ ∀ i, i + 1 < l.length → (l.getD i z30).f0 < (l.getD (i + 1) z30).f0 := by
  unfold cardOk at h
  rw [Bool.and_eq_true, Bool.and_eq_true, Bool.and_eq_true, decide_eq_true_iff] at h
  obtain ⟨h1, h2, h3, _⟩ := h
  have h2' := (all_getD z30 l okSh).1 h2
  refine ⟨by omega, fun i hi => ?_, h2', fun i hi => (asc_iff idSh z30 l).1 h3 i hi⟩
  have := h2' i hi
  unfold okSh at this
  simp only [Bool.and_eq_true, rng_iff] at this
  exact ⟨this.1, this.2.1, this.2.2.1, this.2.2.2.1, this.2.2.2.2⟩
theorem ids_lt (l : List SHt) (h : cardOk l = true) : ∀ d i : Nat, i + d + 1 < l.length → (l.getD i z30).f0 < (l.getD (i + d + 1) z30).f0 := by
  have h4 := (card_iff l h).2.2.2
  intro d
  induction d with
  | zero => intro i hi; exact h4 i hi
  | succ d ih =>
    intro i hi
    have a := ih i (by omega)
    have b := h4 (i + d + 1) (by omega)
    exact Int.lt_trans a b
theorem ids_eq (l : List SHt) (h : cardOk l = true) (i j : Nat) (hi : i < l.length) (hj : j < l.length) (e : (l.getD i z30).f0 = (l.getD j z30).f0) : i = j := by
  rcases Nat.lt_trichotomy i j with c | c | c
  · have := ids_lt l h (j - i - 1) i (by omega)
    rw [show i + (j - i - 1) + 1 = j by omega] at this
    omega
  · exact c
  · have := ids_lt l h (i - j - 1) j (by omega)
    rw [show j + (i - j - 1) + 1 = i by omega] at this
    omega
theorem absV_eq (v : Int) (h : -1000 ≤ v ∧ v ≤ 1000) : absV v = if 0 ≤ v then v else -v := by
  unfold absV mx
  rw [wrap_id (-v) (by omega) (by omega)]
  by_cases c : 0 ≤ v
  · rw [if_pos c]; split <;> omega
  · rw [if_neg c]; split <;> omega
theorem apart_eq (a b : Int) (h : -1000 ≤ a - b ∧ a - b ≤ 1000) : spec_l3Apart.f a b = some (absV (wrap64 (a - b))) := by
  unfold spec_l3Apart.f spec_l1Most.f
  rw [wrap_id (a - b) (by omega) (by omega), wrap_id (b - a) (by omega) (by omega), absV_eq _ h]
  by_cases c : a - b > b - a
  · rw [if_pos c, if_pos (by omega)]; rfl
  · rw [if_neg c]
    by_cases c2 : 0 ≤ a - b
    · rw [if_pos c2, show b - a = a - b by omega]; rfl
    · rw [if_neg c2, show b - a = -(a - b) by omega]; rfl
theorem absV_in (v : Int) (h : -1000 ≤ v ∧ v ≤ 1000) : 0 ≤ absV v ∧ absV v ≤ 1000 := by
  rw [absV_eq v h]
  split <;> omega
theorem gap_eq (a b : Int) (h : -100 ≤ a - b ∧ a - b ≤ 100) : spec_l3Gap.f a b = some (gapV a b) := by
  unfold spec_l3Gap.f gapV
  rw [apart_eq a b (by omega)]
  simp only [Option.bind_some]
  unfold spec_l1Least.f mn
  have ha := absV_in (wrap64 (a - b)) (by rw [wrap_id (a - b) (by omega) (by omega)]; omega)
  obtain ⟨q, hq⟩ : ∃ q, q = absV (wrap64 (a - b)) := ⟨_, rfl⟩
  rw [← hq] at ha ⊢
  rw [wrap_id (24 - q) (by omega) (by omega)]
  by_cases c : q < 24 - q
  · rw [if_pos c, if_neg (by omega)]; rfl
  · rw [if_neg c]
    by_cases c2 : 24 - q < q
    · rw [if_pos c2]; rfl
    · rw [if_neg c2, show 24 - q = q by omega]; rfl
theorem far_eq (a : Int) (b : ByteArray) (c d e w h : Int) (h1 : -100 ≤ c - w ∧ c - w ≤ 100) (h2 : -100 ≤ d - h ∧ d - h ≤ 100) : spec_l3Far.f a b c d e w h = some (disV w h ⟨a, b, c, d, e⟩) := by
  unfold spec_l3Far.f disV
  rw [gap_eq c w h1, apart_eq d h (by omega)]
  rfl
theorem dist_eq (x : SHt) (a : Int) (b : ByteArray) (c d e : Int) : impl_Shade_distance.f x.f0 x.f1 x.f2 x.f3 x.f4 a b c d e = some (disV c d x) := rfl
theorem far_at (x : SHt) (w h : Int) (h1 : -100 ≤ x.f2 - w ∧ x.f2 - w ≤ 100) (h2 : -100 ≤ x.f3 - h ∧ x.f3 - h ≤ 100) : spec_l3Far.f x.f0 x.f1 x.f2 x.f3 x.f4 w h = some (disV w h x) := far_eq x.f0 x.f1 x.f2 x.f3 x.f4 w h h1 h2
theorem near_neg (a1 a2 : Int) (x y : SHt) : nearOf a1 a2 x y < 0 ↔ disV a1 a2 x < disV a1 a2 y := by
  unfold nearOf cmpW
  by_cases c : disV a1 a2 x < disV a1 a2 y
  · rw [if_pos c]; exact ⟨fun _ => c, fun _ => by omega⟩
  · rw [if_neg c]
    by_cases c2 : disV a1 a2 y < disV a1 a2 x
    · rw [if_pos c2]; exact ⟨fun h => by omega, fun h => absurd h c⟩
    · rw [if_neg c2]; exact ⟨fun h => by omega, fun h => absurd h c⟩
theorem min_mem (a1 a2 : Int) (l : List SHt) (i : Nat) : ∃ j, j ≤ i ∧ minTo_sh (nearOf a1 a2) l i = l.getD j z30 := by
  induction i with
  | zero => exact ⟨0, Nat.le_refl _, rfl⟩
  | succ i ih =>
    obtain ⟨j, hj, e⟩ := ih
    rw [minTo_sh]
    by_cases c : nearOf a1 a2 (l.getD (i + 1) z30) (minTo_sh (nearOf a1 a2) l i) < 0
    · rw [if_pos c]; exact ⟨i + 1, Nat.le_refl _, rfl⟩
    · rw [if_neg c]; exact ⟨j, by omega, e⟩
theorem min_least (a1 a2 : Int) (l : List SHt) (i : Nat) : ∀ j, j ≤ i → disV a1 a2 (minTo_sh (nearOf a1 a2) l i) ≤ disV a1 a2 (l.getD j z30) := by
  induction i with
  | zero =>
    intro j hj
    rw [show j = 0 by omega]
    exact Int.le_refl _
  | succ i ih =>
    intro j hj
    rw [minTo_sh]
    by_cases c : nearOf a1 a2 (l.getD (i + 1) z30) (minTo_sh (nearOf a1 a2) l i) < 0
    · rw [if_pos c]
      rw [near_neg] at c
      by_cases e : j = i + 1
      · rw [e]; exact Int.le_refl _
      · have := ih j (by omega)
        omega
    · rw [if_neg c]
      rw [near_neg] at c
      by_cases e : j = i + 1
      · rw [e]; omega
      · exact ih j (by omega)
theorem Near_same (l : List SHt) (a1 a2 : Int) (hl : l.length ≤ 1000) (hz : ∀ x ∈ l, x.f1.size ≤ 1000) : ∃ v : Int × Bool, impl_NearestShade.f l a1 a2 = some v ∧ Ev (fun k => spec_NearestShade.f k l a1 a2) v ∧ (v.2 = true → cardOk l = true ∧ rng a1 0 23 = true ∧ rng a2 0 9 = true ∧ ∀ i k, i < l.length → k < l.length → (l.getD i z30).f0 = v.1 → ¬ disV a1 a2 (l.getD k z30) < disV a1 a2 (l.getD i z30)) := by
  have hg := l3Good_ev l hl hz
  have hj : Ev (fun k => spec_NearestShade.j0 k l a1 a2 true) (0, false) := Ev.step (f := fun _ => some (0, false)) (fun k => by rw [spec_NearestShade.j0, if_pos rfl]) (Ev.now _)
  unfold impl_NearestShade.f spec_NearestShade.f spec_l3Step.f spec_l3Depth.f
  simp only [l1In_eq, Option.bind_some]
  cases hk : cardOk l with
  | false =>
    rw [hk] at hg
    refine ⟨(0, false), rfl, Ev.bind hg ?_, fun h => by cases h⟩
    simp only [Bool.false_eq_true, if_false]
    exact hj
  | true =>
    rw [hk] at hg
    by_cases h0 : l.length = 0
    · refine ⟨(0, false), ?_, Ev.bind hg ?_, fun h => by cases h⟩
      · rw [if_pos rfl, if_pos h0]
        cases rng a1 0 23 <;> cases rng a2 0 9 <;> rfl
      · simp only [if_true, if_pos (show (l.length : Int) = 0 by omega)]
        exact hj
    · cases h1 : rng a1 0 23 with
      | false =>
        refine ⟨(0, false), rfl, Ev.bind hg ?_, fun h => by cases h⟩
        simp only [if_true, if_neg (show ¬ (l.length : Int) = 0 by omega), Bool.false_eq_true, if_false]
        exact hj
      | true =>
        cases h2 : rng a2 0 9 with
        | false =>
          refine ⟨(0, false), rfl, Ev.bind hg ?_, fun h => by cases h⟩
          simp only [if_true, if_neg (show ¬ (l.length : Int) = 0 by omega), Bool.not_false]
          exact hj
        | true =>
          have b1 := (rng_iff _ _ _).1 h1
          have b2 := (rng_iff _ _ _).1 h2
          obtain ⟨k1, k2, k3, k4⟩ := card_iff l hk
          have key : Ev (fun k => spec_NearestShade.j0 k l a1 a2 false) ((minTo_sh (nearOf a1 a2) l (l.length - 1)).f0, true) := by
            have e0 : rd_T30 l 0 = l.getD 0 z30 := rfl
            refine Ev.step (fun k => by rw [spec_NearestShade.j0, if_neg Bool.false_ne_true, if_pos (by omega), e0]) ?_
            obtain ⟨r, hr, h⟩ := Ev.loopE (fun k i (x : SHt) => spec_NearestShade.l0 k l a1 a2 (i + 1) x.f0 x.f1 x.f2 x.f3 x.f4) (l.length - 1) (fun i x => x = minTo_sh (nearOf a1 a2) l i) (fun r => r = ((minTo_sh (nearOf a1 a2) l (l.length - 1)).f0, true))
              (fun x hx => ⟨(x.f0, true), by rw [hx], Ev.step (f := fun _ => some (x.f0, true)) (fun k => by rw [spec_NearestShade.l0, if_neg (by omega)]) (Ev.now _)⟩)
              (fun i x hi hx => by
                have e1 : rd_T30 l ((i : Int) + 1) = l.getD (i + 1) z30 := by
                  show l.getD ((i : Int) + 1).toNat _ = _
                  rw [show ((i : Int) + 1).toNat = i + 1 by omega]
                have q1 := k2 (i + 1) (by omega)
                obtain ⟨j, hj, ej⟩ := min_mem a1 a2 l i
                have q2 := k2 j (by omega)
                rw [← ej, ← hx] at q2
                have f1 := far_at (l.getD (i + 1) z30) a1 a2 (by omega) (by omega)
                have f2 := far_at x a1 a2 (by omega) (by omega)
                have hn := near_neg a1 a2 (l.getD (i + 1) z30) x
                refine ⟨minTo_sh (nearOf a1 a2) l (i + 1), rfl, fun r h => Ev.step (fun k => ?_) h⟩
                rw [spec_NearestShade.l0, if_pos (by omega), if_pos (by omega), e1, f1, Option.bind_some, f2, Option.bind_some, minTo_sh, ← hx]
                by_cases c : disV a1 a2 (l.getD (i + 1) z30) < disV a1 a2 x
                · rw [if_pos c, if_pos (hn.2 c), wrap_id ((i : Int) + 1 + 1) (by omega) (by omega)]
                · rw [if_neg c, if_neg (fun h => c (hn.1 h)), wrap_id ((i : Int) + 1 + 1) (by omega) (by omega)]) (l.getD 0 z30) rfl
            subst hr
            exact h
          refine ⟨((minTo_sh (nearOf a1 a2) l (l.length - 1)).f0, true), ?_, Ev.bind hg ?_, fun _ => ⟨rfl, rfl, rfl, fun i k hi hk2 e => ?_⟩⟩
          · rw [if_pos rfl, if_pos rfl, if_pos rfl, if_neg h0]
          · simp only [if_true, if_neg (show ¬ (l.length : Int) = 0 by omega), Bool.not_true]
            exact key
          · obtain ⟨j, hj, ej⟩ := min_mem a1 a2 l (l.length - 1)
            have hm := min_least a1 a2 l (l.length - 1) k (by omega)
            rw [ej] at e hm
            have := ids_eq l hk i j hi (by omega) e
            subst this
            omega
def fadV (y : Int) (x : SHt) : SHt := ⟨x.f0, x.f1, x.f2, mx 0 (wrap64 (x.f3 - wrap64 (Int.tdiv y (wrap64 (5 * x.f4))))), x.f4⟩
theorem fade_at (y : Int) (x : SHt) (h : 1 ≤ x.f4 ∧ x.f4 ≤ 8) : impl_Shade_faded.f x.f0 x.f1 x.f2 x.f3 x.f4 y = some ((fadV y x).f0, (fadV y x).f1, (fadV y x).f2, (fadV y x).f3, (fadV y x).f4) ∧ spec_l3Faded.f x.f0 x.f1 x.f2 x.f3 x.f4 y = some ((fadV y x).f0, (fadV y x).f1, (fadV y x).f2, (fadV y x).f3, (fadV y x).f4) := by
  have h5 : wrap64 (5 * x.f4) = 5 * x.f4 := wrap_id _ (by omega) (by omega)
  have h0 : ¬ wrap64 (5 * x.f4) = 0 := by rw [h5]; omega
  constructor
  · unfold impl_Shade_faded.f
    rw [if_neg h0]
    rfl
  · unfold spec_l3Faded.f spec_l1Most.f fadV mx
    rw [if_neg h0]
    obtain ⟨q, hq⟩ : ∃ q, q = wrap64 (x.f3 - wrap64 (Int.tdiv y (wrap64 (5 * x.f4)))) := ⟨_, rfl⟩
    rw [← hq]
    by_cases c : (0 : Int) > q
    · rw [if_pos c, if_neg (by omega)]; rfl
    · rw [if_neg c]
      by_cases c2 : (0 : Int) < q
      · rw [if_pos c2]; rfl
      · rw [if_neg c2, show q = 0 by omega]; rfl
theorem fad_in (y : Int) (x : SHt) (hy : 0 ≤ y ∧ y ≤ 200) (h3 : 0 ≤ x.f3 ∧ x.f3 ≤ 9) (h4 : 1 ≤ x.f4 ∧ x.f4 ≤ 8) : 0 ≤ (fadV y x).f3 ∧ (fadV y x).f3 ≤ 9 := by
  have d0 : 0 ≤ Int.tdiv y (5 * x.f4) := Int.tdiv_nonneg hy.1 (by omega)
  have d1 : Int.tdiv y (5 * x.f4) ≤ y := by rw [Int.tdiv_eq_ediv_of_nonneg hy.1]; exact Int.ediv_le_self _ hy.1
  show 0 ≤ mx 0 _ ∧ mx 0 _ ≤ 9
  rw [wrap_id (5 * x.f4) (by omega) (by omega), wrap_id (Int.tdiv y (5 * x.f4)) (by omega) (by omega), wrap_id (x.f3 - Int.tdiv y (5 * x.f4)) (by omega) (by omega)]
  unfold mx
  split <;> omega
theorem fad_zero (x : SHt) (h3 : 0 ≤ x.f3 ∧ x.f3 ≤ 9) : fadV 0 x = x := by
  unfold fadV
  rw [Int.zero_tdiv, wrap_id 0 (by omega) (by omega), Int.sub_zero, wrap_id x.f3 (by omega) (by omega)]
  have : mx 0 x.f3 = x.f3 := by unfold mx; split <;> omega
  rw [this]
def apC (y m : Int) (x t : SHt) : Bool := decide (disV t.f2 t.f3 x ≥ m) && decide (disV (fadV y t).f2 (fadV y t).f3 (fadV y x) < m)
def stp (C : SHt → SHt → Bool) (l : List SHt) (i m : Nat) (o : List (List Int)) : List (List Int) := if C (l.getD i z30) (l.getD m z30) = true then o ++ [[(l.getD i z30).f0, (l.getD m z30).f0]] else o
def inn (C : SHt → SHt → Bool) (l : List SHt) (i : Nat) : Nat → Nat → List (List Int) → List (List Int)
  | 0, _, o => o
  | d + 1, m, o => inn C l i d (m + 1) (stp C l i m o)
def outr (C : SHt → SHt → Bool) (l : List SHt) : Nat → Nat → List (List Int) → List (List Int)
  | 0, _, o => o
  | d + 1, i, o => outr C l d (i + 1) (inn C l i (l.length - (i + 1)) (i + 1) o)
def rowsOk (o : List (List Int)) : Prop := ∀ r ∈ o, r.length ≤ 10
theorem rowsOk_add (o : List (List Int)) (r : List Int) (h : rowsOk o) (hr : r.length ≤ 10) : rowsOk (o ++ [r]) := by
  intro x hx
  rcases List.mem_append.1 hx with hx | hx
  · exact h x hx
  · rw [List.mem_singleton.1 hx]; exact hr
theorem stp_len (C : SHt → SHt → Bool) (l : List SHt) (i m : Nat) (o : List (List Int)) : (stp C l i m o).length ≤ o.length + 1 ∧ (rowsOk o → rowsOk (stp C l i m o)) := by
  unfold stp
  split
  · exact ⟨by rw [List.length_append, List.length_singleton]; exact Nat.le_refl _, fun h => rowsOk_add o _ h (by show 2 ≤ 10; omega)⟩
  · exact ⟨by omega, id⟩
theorem inn_len (C : SHt → SHt → Bool) (l : List SHt) (i : Nat) (d : Nat) : ∀ (m : Nat) (o : List (List Int)), (inn C l i d m o).length ≤ o.length + d ∧ (rowsOk o → rowsOk (inn C l i d m o)) := by
  induction d with
  | zero => intro m o; exact ⟨Nat.le_refl _, id⟩
  | succ d ih =>
    intro m o
    have h1 := ih (m + 1) (stp C l i m o)
    have h2 := stp_len C l i m o
    rw [inn]
    exact ⟨by omega, fun h => h1.2 (h2.2 h)⟩
theorem outr_len (C : SHt → SHt → Bool) (l : List SHt) (hl : l.length ≤ 10) (d : Nat) : ∀ (i : Nat) (o : List (List Int)), (outr C l d i o).length ≤ o.length + 10 * d ∧ (rowsOk o → rowsOk (outr C l d i o)) := by
  induction d with
  | zero => intro i o; exact ⟨by rw [outr]; omega, id⟩
  | succ d ih =>
    intro i o
    have h1 := ih (i + 1) (inn C l i (l.length - (i + 1)) (i + 1) o)
    have h2 := inn_len C l i (l.length - (i + 1)) (i + 1) o
    rw [outr]
    exact ⟨by omega, fun h => h1.2 (h2.2 h)⟩
theorem getD_drop (l : List SHt) (a e : Nat) : rd_T30 (l.drop a) (e : Int) = l.getD (a + e) z30 := by
  show (l.drop a).getD e z30 = _
  rw [List.getD_eq_getElem?_getD, List.getD_eq_getElem?_getD, List.getElem?_drop]
theorem fade_impl_in (l : List SHt) (hk : cardOk l = true) (y m : Int) (hy : 0 ≤ y ∧ y ≤ 200) (i : Nat) (hi : i < l.length) (r : List (List Int) × Bool) : ∀ (d e : Nat) (o : List (List Int)), i + 1 + e + d = l.length → o.length + d ≤ 1000 → Ev (fun k => impl_FadedApart.l0 k l y m (inn (apC y m) l i d (i + 1 + e) o) l (l.length : Int) ((i : Int) + 1)) r → Ev (fun k => impl_FadedApart.l1 k l y m o l (l.length : Int) (i : Int) (l.drop (i + 1)) ((l.drop (i + 1)).length : Int) (e : Int) (l.getD i z30).f0 (l.getD i z30).f1 (l.getD i z30).f2 (l.getD i z30).f3 (l.getD i z30).f4) r := by
  obtain ⟨k1, k2, k3, k4⟩ := card_iff l hk
  have hdl : (l.drop (i + 1)).length = l.length - (i + 1) := List.length_drop
  intro d
  induction d with
  | zero =>
    intro e o he ho h
    refine Ev.step (fun k => ?_) h
    rw [impl_FadedApart.l1, hdl, if_neg (by omega), wrap_id ((i : Int) + 1) (by omega) (by omega)]
    rfl
  | succ d ih =>
    intro e o he ho h
    have q1 := k2 i hi
    have q2 := k2 (i + 1 + e) (by omega)
    obtain ⟨fx, _⟩ := fade_at y (l.getD i z30) (by omega)
    obtain ⟨ft, _⟩ := fade_at y (l.getD (i + 1 + e) z30) (by omega)
    have e0 := getD_drop l (i + 1) e
    obtain ⟨X, hX⟩ : ∃ X, X = l.getD i z30 := ⟨_, rfl⟩
    obtain ⟨t, ht⟩ : ∃ t, t = l.getD (i + 1 + e) z30 := ⟨_, rfl⟩
    have hst : stp (apC y m) l i (i + 1 + e) o = if apC y m X t = true then o ++ [[X.f0, t.f0]] else o := by rw [hX, ht]; rfl
    have hlen := (stp_len (apC y m) l i (i + 1 + e) o).1
    rw [inn, show i + 1 + e + 1 = i + 1 + (e + 1) by omega] at h
    have G := ih (e + 1) (stp (apC y m) l i (i + 1 + e) o) (by omega) (by omega) h
    rw [show ((e + 1 : Nat) : Int) = (e : Int) + 1 from by omega, hst] at G
    rw [← hX] at G fx ⊢
    rw [← ht] at ft e0
    have d1 := dist_eq X t.f0 t.f1 t.f2 t.f3 t.f4
    have d2 := dist_eq (fadV y X) (fadV y t).f0 (fadV y t).f1 (fadV y t).f2 (fadV y t).f3 (fadV y t).f4
    refine Ev.step (fun k => ?_) G
    rw [impl_FadedApart.l1, if_pos (by omega), if_pos (by omega), if_pos (by omega), e0, d1, Option.bind_some, wrap_id ((e : Int) + 1) (by omega) (by omega)]
    unfold apC
    by_cases c1 : disV t.f2 t.f3 X ≥ m
    · rw [if_pos c1, fx, Option.bind_some, ft, Option.bind_some, d2, Option.bind_some, decide_eq_true c1, Bool.true_and]
      by_cases c2 : disV (fadV y t).f2 (fadV y t).f3 (fadV y X) < m
      · rw [if_pos c2, if_pos (by omega), decide_eq_true c2, if_pos rfl]
      · rw [if_neg c2, decide_eq_false c2, if_neg Bool.false_ne_true]
    · rw [if_neg c1, decide_eq_false c1, Bool.false_and, if_neg Bool.false_ne_true]
theorem fade_spec_in (l : List SHt) (hk : cardOk l = true) (y m : Int) (hy : 0 ≤ y ∧ y ≤ 200) (i : Nat) (hi : i < l.length) (r : List (List Int) × Bool) : ∀ (d p : Nat) (o : List (List Int)), p + d = l.length → o.length + d ≤ 1000 → Ev (fun k => spec_FadedApart.l0 k l y m (inn (apC y m) l i d p o) ((i : Int) + 1)) r → Ev (fun k => spec_FadedApart.l1 k l y m o (i : Int) (p : Int)) r := by
  obtain ⟨k1, k2, k3, k4⟩ := card_iff l hk
  intro d
  induction d with
  | zero =>
    intro p o he ho h
    refine Ev.step (fun k => ?_) h
    rw [spec_FadedApart.l1, if_neg (by omega), wrap_id ((i : Int) + 1) (by omega) (by omega)]
    rfl
  | succ d ih =>
    intro p o he ho h
    have q1 := k2 i hi
    have q2 := k2 p (by omega)
    obtain ⟨_, fx⟩ := fade_at y (l.getD i z30) (by omega)
    obtain ⟨_, ft⟩ := fade_at y (l.getD p z30) (by omega)
    have g1 := fad_in y (l.getD i z30) hy (by omega) (by omega)
    have g2 := fad_in y (l.getD p z30) hy (by omega) (by omega)
    have e1 : rd_T30 l (i : Int) = l.getD i z30 := rfl
    have e2 : rd_T30 l (p : Int) = l.getD p z30 := rfl
    obtain ⟨X, hX⟩ : ∃ X, X = l.getD i z30 := ⟨_, rfl⟩
    obtain ⟨t, ht⟩ : ∃ t, t = l.getD p z30 := ⟨_, rfl⟩
    have hst : stp (apC y m) l i p o = if apC y m X t = true then o ++ [[X.f0, t.f0]] else o := by rw [hX, ht]; rfl
    have hlen := (stp_len (apC y m) l i p o).1
    rw [inn] at h
    have G := ih (p + 1) (stp (apC y m) l i p o) (by omega) (by omega) h
    rw [show ((p + 1 : Nat) : Int) = (p : Int) + 1 from by omega, hst] at G
    rw [← hX] at fx q1 g1 e1
    rw [← ht] at ft q2 g2 e2
    have d1 := far_at X t.f2 t.f3 (by omega) (by omega)
    have hfx : (fadV y X).f2 = X.f2 := rfl
    have hft : (fadV y t).f2 = t.f2 := rfl
    have d2 := far_at (fadV y X) (fadV y t).f2 (fadV y t).f3 (by omega) (by omega)
    refine Ev.step (fun k => ?_) G
    rw [spec_FadedApart.l1, if_pos (by omega), if_pos (by omega), if_pos (by omega), e1, fx, Option.bind_some, if_pos (by omega), e2, ft, Option.bind_some, d1, Option.bind_some, wrap_id ((p : Int) + 1) (by omega) (by omega)]
    unfold apC
    by_cases c1 : disV t.f2 t.f3 X ≥ m
    · rw [if_pos c1, d2, Option.bind_some, decide_eq_true c1, Bool.true_and]
      by_cases c2 : disV (fadV y t).f2 (fadV y t).f3 (fadV y X) < m
      · rw [if_pos c2, if_pos (by omega), decide_eq_true c2, if_pos rfl]
        rfl
      · rw [if_neg c2, decide_eq_false c2, if_neg Bool.false_ne_true]
    · rw [if_neg c1, decide_eq_false c1, Bool.false_and, if_neg Bool.false_ne_true]
theorem fade_impl (l : List SHt) (hk : cardOk l = true) (y m : Int) (hy : 0 ≤ y ∧ y ≤ 200) : ∀ (d i : Nat) (o : List (List Int)), i + d = l.length → o.length ≤ 10 * i → Ev (fun k => impl_FadedApart.l0 k l y m o l (l.length : Int) (i : Int)) (outr (apC y m) l d i o, true) := by
  obtain ⟨k1, k2, k3, k4⟩ := card_iff l hk
  intro d
  induction d with
  | zero =>
    intro i o hi ho
    exact Ev.step (f := fun _ => some (o, true)) (fun k => by rw [impl_FadedApart.l0, if_neg (by omega)]) (Ev.now _)
  | succ d ih =>
    intro i o hi ho
    have hin := (inn_len (apC y m) l i (l.length - (i + 1)) (i + 1) o).1
    have G := ih (i + 1) (inn (apC y m) l i (l.length - (i + 1)) (i + 1) o) (by omega) (by omega)
    rw [show ((i + 1 : Nat) : Int) = (i : Int) + 1 from by omega] at G
    have H := fade_impl_in l hk y m hy i (by omega) (outr (apC y m) l (d + 1) i o, true) (l.length - (i + 1)) 0 o (by omega) (by omega) G
    have e1 : rd_T30 l (i : Int) = l.getD i z30 := rfl
    refine Ev.step (fun k => ?_) H
    rw [impl_FadedApart.l0, if_pos (by omega), if_pos (by omega), if_pos (by omega), wrap_id ((i : Int) + 1) (by omega) (by omega), if_pos (by omega), if_pos (by omega), Option.bind_some, e1, show ((i : Int) + 1).toNat = i + 1 by omega]
    rfl
theorem fade_spec (l : List SHt) (hk : cardOk l = true) (y m : Int) (hy : 0 ≤ y ∧ y ≤ 200) : ∀ (d i : Nat) (o : List (List Int)), i + d = l.length → o.length ≤ 10 * i → Ev (fun k => spec_FadedApart.l0 k l y m o (i : Int)) (outr (apC y m) l d i o, true) := by
  obtain ⟨k1, k2, k3, k4⟩ := card_iff l hk
  intro d
  induction d with
  | zero =>
    intro i o hi ho
    exact Ev.step (f := fun _ => some (o, true)) (fun k => by rw [spec_FadedApart.l0, if_neg (by omega)]) (Ev.now _)
  | succ d ih =>
    intro i o hi ho
    have hin := (inn_len (apC y m) l i (l.length - (i + 1)) (i + 1) o).1
    have G := ih (i + 1) (inn (apC y m) l i (l.length - (i + 1)) (i + 1) o) (by omega) (by omega)
    rw [show ((i + 1 : Nat) : Int) = (i : Int) + 1 from by omega] at G
    have H := fade_spec_in l hk y m hy i (by omega) (outr (apC y m) l (d + 1) i o, true) (l.length - (i + 1)) (i + 1) o (by omega) (by omega) G
    rw [show ((i + 1 : Nat) : Int) = (i : Int) + 1 from by omega] at H
    exact Ev.step (fun k => by rw [spec_FadedApart.l0, if_pos (by omega), wrap_id ((i : Int) + 1) (by omega) (by omega)]) H
def fdV (l : List SHt) (y m : Int) : List (List Int) × Bool := if cardOk l = true then (if rng y 0 200 = true then (if rng m 0 33 = true then (outr (apC y m) l l.length 0 [], true) else ([], false)) else ([], false)) else ([], false)
theorem Faded_ev (l : List SHt) (y m : Int) : Ev (fun k => impl_FadedApart.f k l y m) (fdV l y m) := by
  have hj : Ev (fun k => impl_FadedApart.j0 k l y m true) ([], false) := Ev.step (f := fun _ => some ([], false)) (fun k => by rw [impl_FadedApart.j0, if_pos rfl]) (Ev.now _)
  unfold impl_FadedApart.f fdV impl_isYears.f
  simp only [IsCard_eq, in_eq, Option.bind_some]
  cases hk : cardOk l with
  | false => simp only [Bool.false_eq_true, if_false]; exact hj
  | true =>
    cases h1 : rng y 0 200 with
    | false => simp only [if_true, Bool.false_eq_true, if_false]; exact hj
    | true =>
      cases h2 : rng m 0 33 with
      | false => simp only [if_true, Bool.false_eq_true, if_false, Bool.not_false]; exact hj
      | true =>
        simp only [if_true, Bool.not_true]
        exact Ev.step (fun k => by rw [impl_FadedApart.j0, if_neg Bool.false_ne_true]; rfl) (fade_impl l hk y m ((rng_iff _ _ _).1 h1) l.length 0 [] (by omega) (by show 0 ≤ _; omega))
theorem sFaded_ev (l : List SHt) (y m : Int) (hl : l.length ≤ 1000) (hz : ∀ x ∈ l, x.f1.size ≤ 1000) : Ev (fun k => spec_FadedApart.f k l y m) (fdV l y m) := by
  have hj : Ev (fun k => spec_FadedApart.j0 k l y m [] true) ([], false) := Ev.step (f := fun _ => some ([], false)) (fun k => by rw [spec_FadedApart.j0, if_pos rfl]) (Ev.now _)
  unfold spec_FadedApart.f fdV spec_l3Years.f
  simp only [l1In_eq, Option.bind_some]
  refine Ev.bind (l3Good_ev l hl hz) ?_
  cases hk : cardOk l with
  | false => simp only [Bool.false_eq_true, if_false]; exact hj
  | true =>
    cases h1 : rng y 0 200 with
    | false => simp only [if_true, Bool.false_eq_true, if_false]; exact hj
    | true =>
      cases h2 : rng m 0 33 with
      | false => simp only [if_true, Bool.false_eq_true, if_false, Bool.not_false]; exact hj
      | true =>
        simp only [if_true, Bool.not_true]
        exact Ev.step (fun k => by rw [spec_FadedApart.j0, if_neg Bool.false_ne_true]; rfl) (fade_spec l hk y m ((rng_iff _ _ _).1 h1) l.length 0 [] (by omega) (by show 0 ≤ _; omega))
theorem fd_facts (l : List SHt) (y m : Int) : (fdV l y m).1.length ≤ 1000 ∧ rowsOk (fdV l y m).1 ∧ ((fdV l y m).2 = true → (fdV l 0 m).2 = true ∧ (fdV l 0 m).1 = []) := by
  unfold fdV
  cases hk : cardOk l with
  | false => exact ⟨Nat.zero_le _, fun r hr => absurd hr List.not_mem_nil, fun h => by cases h⟩
  | true =>
    obtain ⟨k1, k2, k3, k4⟩ := card_iff l hk
    cases h1 : rng y 0 200 with
    | false => exact ⟨Nat.zero_le _, fun r hr => absurd hr List.not_mem_nil, fun h => by cases h⟩
    | true =>
      cases h2 : rng m 0 33 with
      | false => exact ⟨Nat.zero_le _, fun r hr => absurd hr List.not_mem_nil, fun h => by cases h⟩
      | true =>
        have hol := outr_len (apC y m) l k1 l.length 0 []
        have hc : ∀ i p, i < l.length → p < l.length → apC 0 m (l.getD i z30) (l.getD p z30) = false := fun i p hi hp => by
          unfold apC
          rw [fad_zero _ (k2 i hi).2.2.2.1, fad_zero _ (k2 p hp).2.2.2.1]
          by_cases c : disV (l.getD p z30).f2 (l.getD p z30).f3 (l.getD i z30) ≥ m
          · rw [decide_eq_false (show ¬ disV (l.getD p z30).f2 (l.getD p z30).f3 (l.getD i z30) < m by omega), Bool.and_false]
          · rw [decide_eq_false c, Bool.false_and]
        have hin : ∀ (d i p : Nat), i < l.length → p + d ≤ l.length → inn (apC 0 m) l i d p [] = [] := by
          intro d
          induction d with
          | zero => intro i p _ _; rfl
          | succ d ih =>
            intro i p hi hp
            have : stp (apC 0 m) l i p [] = [] := by unfold stp; rw [hc i p hi (by omega), if_neg Bool.false_ne_true]
            rw [inn, this]
            exact ih i (p + 1) hi (by omega)
        have hout : ∀ (d i : Nat), i + d ≤ l.length → outr (apC 0 m) l d i [] = [] := by
          intro d
          induction d with
          | zero => intro i _; rfl
          | succ d ih =>
            intro i hi
            rw [outr, hin (l.length - (i + 1)) i (i + 1) (by omega) (by omega)]
            exact ih (i + 1) (by omega)
        refine ⟨?_, ?_, fun _ => ⟨rfl, ?_⟩⟩
        · show (outr _ _ _ _ _).length ≤ 1000
          have := hol.1
          rw [List.length_nil] at this
          omega
        · exact hol.2 (fun r hr => absurd hr List.not_mem_nil)
        · exact hout l.length 0 (by omega)
def ap8 (w : Int) (x t : SHt) : Bool := rng (gapV x.f2 t.f2) (8 - w) (8 + w)
def tri (w : Int) (x t u : SHt) : Bool := ap8 w x t && (ap8 w x u && ap8 w t u)
theorem tri1_eq (w : Int) (hw : 0 ≤ w ∧ w ≤ 5) (x t : SHt) : impl_TriadsOf_1.f x.f0 x.f1 x.f2 x.f3 x.f4 t.f0 t.f1 t.f2 t.f3 t.f4 w = some (ap8 w x t) := by
  unfold impl_TriadsOf_1.f ap8
  have e : impl_wheelGap.f x.f2 t.f2 = some (gapV x.f2 t.f2) := rfl
  rw [e, Option.bind_some, in_eq, wrap_id (8 - w) (by omega) (by omega), wrap_id (8 + w) (by omega) (by omega)]
theorem apart8 (w : Int) (x t : SHt) (hx : 0 ≤ x.f2 ∧ x.f2 ≤ 23) (ht : 0 ≤ t.f2 ∧ t.f2 ≤ 23) : ∃ a, spec_l3Gap.f x.f2 t.f2 = some (gapV x.f2 t.f2) ∧ spec_l3Apart.f (gapV x.f2 t.f2) 8 = some a ∧ (ap8 w x t = true ↔ a ≤ w) := by
  have hg : -13 ≤ gapV x.f2 t.f2 ∧ gapV x.f2 t.f2 ≤ 100 := by
    unfold gapV mn
    have e : wrap64 (x.f2 - t.f2) = x.f2 - t.f2 := wrap_id _ (by omega) (by omega)
    rw [e]
    have ha : 0 ≤ absV (x.f2 - t.f2) ∧ absV (x.f2 - t.f2) ≤ 23 := by
      rw [absV_eq _ (by omega)]
      split <;> omega
    obtain ⟨q, hq⟩ : ∃ q, q = absV (x.f2 - t.f2) := ⟨_, rfl⟩
    rw [← hq] at ha ⊢
    clear e
    rw [wrap_id (24 - q) (by omega) (by omega)]
    split <;> omega
  refine ⟨absV (wrap64 (gapV x.f2 t.f2 - 8)), gap_eq x.f2 t.f2 (by omega), apart_eq _ 8 (by omega), ?_⟩
  unfold ap8
  rw [rng_iff]
  obtain ⟨q, hq⟩ : ∃ q, q = gapV x.f2 t.f2 := ⟨_, rfl⟩
  rw [← hq] at hg ⊢
  rw [wrap_id (q - 8) (by omega) (by omega), absV_eq (q - 8) (by omega)]
  split <;> omega
def stp3 (C : SHt → SHt → SHt → Bool) (l : List SHt) (i j m : Nat) (o : List (List Int)) : List (List Int) := if C (l.getD i z30) (l.getD j z30) (l.getD m z30) = true then o ++ [[(l.getD i z30).f0, (l.getD j z30).f0, (l.getD m z30).f0]] else o
def inn3 (C : SHt → SHt → SHt → Bool) (l : List SHt) (i j : Nat) : Nat → Nat → List (List Int) → List (List Int)
  | 0, _, o => o
  | d + 1, m, o => inn3 C l i j d (m + 1) (stp3 C l i j m o)
def mid3 (C : SHt → SHt → SHt → Bool) (l : List SHt) (i : Nat) : Nat → Nat → List (List Int) → List (List Int)
  | 0, _, o => o
  | d + 1, j, o => mid3 C l i d (j + 1) (inn3 C l i j (l.length - (j + 1)) (j + 1) o)
def out3 (C : SHt → SHt → SHt → Bool) (l : List SHt) : Nat → Nat → List (List Int) → List (List Int)
  | 0, _, o => o
  | d + 1, i, o => out3 C l d (i + 1) (mid3 C l i (l.length - (i + 1)) (i + 1) o)
theorem stp3_len (C : SHt → SHt → SHt → Bool) (l : List SHt) (i j m : Nat) (o : List (List Int)) : (stp3 C l i j m o).length ≤ o.length + 1 ∧ (rowsOk o → rowsOk (stp3 C l i j m o)) := by
  unfold stp3
  split
  · exact ⟨by rw [List.length_append, List.length_singleton]; exact Nat.le_refl _, fun h => rowsOk_add o _ h (by show 3 ≤ 10; omega)⟩
  · exact ⟨by omega, id⟩
theorem inn3_len (C : SHt → SHt → SHt → Bool) (l : List SHt) (i j : Nat) (d : Nat) : ∀ (m : Nat) (o : List (List Int)), (inn3 C l i j d m o).length ≤ o.length + d ∧ (rowsOk o → rowsOk (inn3 C l i j d m o)) := by
  induction d with
  | zero => intro m o; exact ⟨Nat.le_refl _, id⟩
  | succ d ih =>
    intro m o
    have h1 := ih (m + 1) (stp3 C l i j m o)
    have h2 := stp3_len C l i j m o
    rw [inn3]
    exact ⟨by omega, fun h => h1.2 (h2.2 h)⟩
theorem mid3_len (C : SHt → SHt → SHt → Bool) (l : List SHt) (hl : l.length ≤ 10) (i : Nat) (d : Nat) : ∀ (j : Nat) (o : List (List Int)), (mid3 C l i d j o).length ≤ o.length + 10 * d ∧ (rowsOk o → rowsOk (mid3 C l i d j o)) := by
  induction d with
  | zero => intro j o; exact ⟨by rw [mid3]; omega, id⟩
  | succ d ih =>
    intro j o
    have h1 := ih (j + 1) (inn3 C l i j (l.length - (j + 1)) (j + 1) o)
    have h2 := inn3_len C l i j (l.length - (j + 1)) (j + 1) o
    rw [mid3]
    exact ⟨by omega, fun h => h1.2 (h2.2 h)⟩
theorem out3_len (C : SHt → SHt → SHt → Bool) (l : List SHt) (hl : l.length ≤ 10) (d : Nat) : ∀ (i : Nat) (o : List (List Int)), (out3 C l d i o).length ≤ o.length + 100 * d ∧ (rowsOk o → rowsOk (out3 C l d i o)) := by
  induction d with
  | zero => intro i o; exact ⟨by rw [out3]; omega, id⟩
  | succ d ih =>
    intro i o
    have h1 := ih (i + 1) (mid3 C l i (l.length - (i + 1)) (i + 1) o)
    have h2 := mid3_len C l hl i (l.length - (i + 1)) (i + 1) o
    rw [out3]
    exact ⟨by omega, fun h => h1.2 (h2.2 h)⟩
theorem tri_impl_in (l : List SHt) (hk : cardOk l = true) (w : Int) (hw : 0 ≤ w ∧ w ≤ 4) (i j : Nat) (hi : i < l.length) (hj : i + 1 + j < l.length) (r : List (List Int) × Bool) : ∀ (d e : Nat) (o : List (List Int)), i + 1 + j + 1 + e + d = l.length → o.length + d ≤ 100000 →
    Ev (fun k => impl_TriadsOf.l1 k l w (inn3 (tri w) l i (i + 1 + j) d (i + 1 + j + 1 + e) o) (i : Int) l (l.length : Int) (i : Int) (l.drop (i + 1)) ((l.drop (i + 1)).length : Int) ((j : Int) + 1) (l.getD i z30).f0 (l.getD i z30).f1 (l.getD i z30).f2 (l.getD i z30).f3 (l.getD i z30).f4) r →
    Ev (fun k => impl_TriadsOf.l2 k l w o (i : Int) l (l.length : Int) (i : Int) (l.drop (i + 1)) ((l.drop (i + 1)).length : Int) (j : Int) (l.drop (i + 1 + j + 1)) ((l.drop (i + 1 + j + 1)).length : Int) (e : Int) (l.getD i z30).f0 (l.getD i z30).f1 (l.getD i z30).f2 (l.getD i z30).f3 (l.getD i z30).f4 (l.getD (i + 1 + j) z30).f0 (l.getD (i + 1 + j) z30).f1 (l.getD (i + 1 + j) z30).f2 (l.getD (i + 1 + j) z30).f3 (l.getD (i + 1 + j) z30).f4) r := by
  obtain ⟨k1, k2, k3, k4⟩ := card_iff l hk
  have hdl : (l.drop (i + 1 + j + 1)).length = l.length - (i + 1 + j + 1) := List.length_drop
  intro d
  induction d with
  | zero =>
    intro e o he ho h
    refine Ev.step (fun k => ?_) h
    rw [impl_TriadsOf.l2, hdl, if_neg (by omega), wrap_id ((j : Int) + 1) (by omega) (by omega)]
    rfl
  | succ d ih =>
    intro e o he ho h
    have e0 := getD_drop l (i + 1 + j + 1) e
    obtain ⟨X, hX⟩ : ∃ X, X = l.getD i z30 := ⟨_, rfl⟩
    obtain ⟨t, ht⟩ : ∃ t, t = l.getD (i + 1 + j) z30 := ⟨_, rfl⟩
    obtain ⟨u, hu⟩ : ∃ u, u = l.getD (i + 1 + j + 1 + e) z30 := ⟨_, rfl⟩
    have hst : stp3 (tri w) l i (i + 1 + j) (i + 1 + j + 1 + e) o = if tri w X t u = true then o ++ [[X.f0, t.f0, u.f0]] else o := by rw [hX, ht, hu]; rfl
    have hlen := (stp3_len (tri w) l i (i + 1 + j) (i + 1 + j + 1 + e) o).1
    rw [inn3, show i + 1 + j + 1 + e + 1 = i + 1 + j + 1 + (e + 1) by omega] at h
    have G := ih (e + 1) (stp3 (tri w) l i (i + 1 + j) (i + 1 + j + 1 + e) o) (by omega) (by omega) h
    rw [show ((e + 1 : Nat) : Int) = (e : Int) + 1 from by omega, hst] at G
    rw [← hX, ← ht] at G ⊢
    rw [← hu] at e0
    have d1 := tri1_eq w (by omega) X t
    have d2 := tri1_eq w (by omega) X u
    have d3 := tri1_eq w (by omega) t u
    refine Ev.step (fun k => ?_) G
    rw [impl_TriadsOf.l2, if_pos (by omega), if_pos (by omega), if_pos (by omega), e0, d1, Option.bind_some, wrap_id ((e : Int) + 1) (by omega) (by omega)]
    unfold tri
    cases c1 : ap8 w X t with
    | false => rw [Bool.false_and, if_neg Bool.false_ne_true, if_neg Bool.false_ne_true]
    | true =>
      rw [if_pos rfl, d2, Option.bind_some, Bool.true_and]
      cases c2 : ap8 w X u with
      | false => rw [Bool.false_and, if_neg Bool.false_ne_true, if_neg Bool.false_ne_true]
      | true =>
        rw [if_pos rfl, d3, Option.bind_some, Bool.true_and]
        cases c3 : ap8 w t u with
        | false => rw [if_neg Bool.false_ne_true, if_neg Bool.false_ne_true]
        | true => rw [if_pos rfl, if_pos rfl, if_pos (by omega)]
theorem tri_spec_in (l : List SHt) (hk : cardOk l = true) (w : Int) (hw : 0 ≤ w ∧ w ≤ 4) (i j : Nat) (hi : i < l.length) (hj : j < l.length) (r : List (List Int) × Bool) : ∀ (d p : Nat) (o : List (List Int)), p + d = l.length → o.length + d ≤ 100000 →
    Ev (fun k => spec_TriadsOf.l1 k l w (inn3 (tri w) l i j d p o) (i : Int) ((j : Int) + 1)) r → Ev (fun k => spec_TriadsOf.l2 k l w o (i : Int) (j : Int) (p : Int)) r := by
  obtain ⟨k1, k2, k3, k4⟩ := card_iff l hk
  intro d
  induction d with
  | zero =>
    intro p o he ho h
    refine Ev.step (fun k => ?_) h
    rw [spec_TriadsOf.l2, if_neg (by omega), wrap_id ((j : Int) + 1) (by omega) (by omega)]
    rfl
  | succ d ih =>
    intro p o he ho h
    have q1 := (k2 i hi).2.2.1
    have q2 := (k2 j hj).2.2.1
    have q3 := (k2 p (by omega)).2.2.1
    have e1 : rd_T30 l (i : Int) = l.getD i z30 := rfl
    have e2 : rd_T30 l (j : Int) = l.getD j z30 := rfl
    have e3 : rd_T30 l (p : Int) = l.getD p z30 := rfl
    obtain ⟨X, hX⟩ : ∃ X, X = l.getD i z30 := ⟨_, rfl⟩
    obtain ⟨t, ht⟩ : ∃ t, t = l.getD j z30 := ⟨_, rfl⟩
    obtain ⟨u, hu⟩ : ∃ u, u = l.getD p z30 := ⟨_, rfl⟩
    have hst : stp3 (tri w) l i j p o = if tri w X t u = true then o ++ [[X.f0, t.f0, u.f0]] else o := by rw [hX, ht, hu]; rfl
    have hlen := (stp3_len (tri w) l i j p o).1
    rw [inn3] at h
    have G := ih (p + 1) (stp3 (tri w) l i j p o) (by omega) (by omega) h
    rw [show ((p + 1 : Nat) : Int) = (p : Int) + 1 from by omega, hst] at G
    rw [← hX] at q1 e1
    rw [← ht] at q2 e2
    rw [← hu] at q3 e3
    obtain ⟨a1, g1, f1, c1⟩ := apart8 w X t q1 q2
    obtain ⟨a2, g2, f2, c2⟩ := apart8 w t u q2 q3
    obtain ⟨a3, g3, f3, c3⟩ := apart8 w X u q1 q3
    refine Ev.step (fun k => ?_) G
    rw [spec_TriadsOf.l2, if_pos (by omega), if_pos (by omega), if_pos (by omega), if_pos (by omega), if_pos (by omega), if_pos (by omega), e1, e2, e3, g1, Option.bind_some, f1, Option.bind_some, wrap_id ((p : Int) + 1) (by omega) (by omega)]
    unfold tri
    by_cases b1 : a1 ≤ w
    · rw [if_pos b1, g2, Option.bind_some, f2, Option.bind_some, c1.2 b1, Bool.true_and]
      by_cases b2 : a2 ≤ w
      · rw [if_pos b2, g3, Option.bind_some, f3, Option.bind_some, c2.2 b2, Bool.and_true]
        by_cases b3 : a3 ≤ w
        · rw [if_pos b3, if_pos (by omega), c3.2 b3, if_pos rfl]
        · have : ap8 w X u = false := by
            cases hh : ap8 w X u with
            | false => rfl
            | true => exact absurd (c3.1 hh) b3
          rw [if_neg b3, this, if_neg Bool.false_ne_true]
      · have : ap8 w t u = false := by
          cases hh : ap8 w t u with
          | false => rfl
          | true => exact absurd (c2.1 hh) b2
        rw [if_neg b2, this, Bool.and_false, if_neg Bool.false_ne_true]
    · have : ap8 w X t = false := by
        cases hh : ap8 w X t with
        | false => rfl
        | true => exact absurd (c1.1 hh) b1
      rw [if_neg b1, this, Bool.false_and, if_neg Bool.false_ne_true]
theorem tri_impl_mid (l : List SHt) (hk : cardOk l = true) (w : Int) (hw : 0 ≤ w ∧ w ≤ 4) (i : Nat) (hi : i < l.length) (r : List (List Int) × Bool) : ∀ (d j : Nat) (o : List (List Int)), i + 1 + j + d = l.length → o.length ≤ 100 * i + 10 * j →
    Ev (fun k => impl_TriadsOf.l0 k l w (mid3 (tri w) l i d (i + 1 + j) o) l (l.length : Int) ((i : Int) + 1)) r →
    Ev (fun k => impl_TriadsOf.l1 k l w o (i : Int) l (l.length : Int) (i : Int) (l.drop (i + 1)) ((l.drop (i + 1)).length : Int) (j : Int) (l.getD i z30).f0 (l.getD i z30).f1 (l.getD i z30).f2 (l.getD i z30).f3 (l.getD i z30).f4) r := by
  obtain ⟨k1, k2, k3, k4⟩ := card_iff l hk
  have hdl : (l.drop (i + 1)).length = l.length - (i + 1) := List.length_drop
  intro d
  induction d with
  | zero =>
    intro j o he ho h
    refine Ev.step (fun k => ?_) h
    rw [impl_TriadsOf.l1, hdl, if_neg (by omega), wrap_id ((i : Int) + 1) (by omega) (by omega)]
    rfl
  | succ d ih =>
    intro j o he ho h
    have hin := (inn3_len (tri w) l i (i + 1 + j) (l.length - (i + 1 + j + 1)) (i + 1 + j + 1) o).1
    rw [mid3, show i + 1 + j + 1 = i + 1 + (j + 1) by omega] at h
    have G := ih (j + 1) (inn3 (tri w) l i (i + 1 + j) (l.length - (i + 1 + (j + 1))) (i + 1 + (j + 1)) o) (by omega) (by rw [show i + 1 + (j + 1) = i + 1 + j + 1 by omega]; omega) h
    rw [show i + 1 + (j + 1) = i + 1 + j + 1 by omega, show ((j + 1 : Nat) : Int) = (j : Int) + 1 from by omega] at G
    have H := tri_impl_in l hk w hw i j hi (by omega) r (l.length - (i + 1 + j + 1)) 0 o (by omega) (by omega) G
    have e0 := getD_drop l (i + 1) j
    refine Ev.step (fun k => ?_) H
    rw [impl_TriadsOf.l1, if_pos (by omega), if_pos (by omega), if_pos (by omega), wrap_id ((i : Int) + (j : Int)) (by omega) (by omega), wrap_id ((i : Int) + (j : Int) + 2) (by omega) (by omega), if_pos (by omega), if_pos (by omega), Option.bind_some, e0, show ((i : Int) + (j : Int) + 2).toNat = i + 1 + j + 1 by omega]
    rfl
theorem tri_spec_mid (l : List SHt) (hk : cardOk l = true) (w : Int) (hw : 0 ≤ w ∧ w ≤ 4) (i : Nat) (hi : i < l.length) (r : List (List Int) × Bool) : ∀ (d j : Nat) (o : List (List Int)), j + d = l.length → o.length ≤ 100 * i + 10 * j →
    Ev (fun k => spec_TriadsOf.l0 k l w (mid3 (tri w) l i d j o) ((i : Int) + 1)) r → Ev (fun k => spec_TriadsOf.l1 k l w o (i : Int) (j : Int)) r := by
  obtain ⟨k1, k2, k3, k4⟩ := card_iff l hk
  intro d
  induction d with
  | zero =>
    intro j o he ho h
    refine Ev.step (fun k => ?_) h
    rw [spec_TriadsOf.l1, if_neg (by omega), wrap_id ((i : Int) + 1) (by omega) (by omega)]
    rfl
  | succ d ih =>
    intro j o he ho h
    have hin := (inn3_len (tri w) l i j (l.length - (j + 1)) (j + 1) o).1
    rw [mid3] at h
    have G := ih (j + 1) (inn3 (tri w) l i j (l.length - (j + 1)) (j + 1) o) (by omega) (by omega) h
    rw [show ((j + 1 : Nat) : Int) = (j : Int) + 1 from by omega] at G
    have H := tri_spec_in l hk w hw i j hi (by omega) r (l.length - (j + 1)) (j + 1) o (by omega) (by omega) G
    rw [show ((j + 1 : Nat) : Int) = (j : Int) + 1 from by omega] at H
    exact Ev.step (fun k => by rw [spec_TriadsOf.l1, if_pos (by omega), wrap_id ((j : Int) + 1) (by omega) (by omega)]) H
theorem tri_impl (l : List SHt) (hk : cardOk l = true) (w : Int) (hw : 0 ≤ w ∧ w ≤ 4) : ∀ (d i : Nat) (o : List (List Int)), i + d = l.length → o.length ≤ 100 * i → Ev (fun k => impl_TriadsOf.l0 k l w o l (l.length : Int) (i : Int)) (out3 (tri w) l d i o, true) := by
  obtain ⟨k1, k2, k3, k4⟩ := card_iff l hk
  intro d
  induction d with
  | zero =>
    intro i o hi ho
    exact Ev.step (f := fun _ => some (o, true)) (fun k => by rw [impl_TriadsOf.l0, if_neg (by omega)]) (Ev.now _)
  | succ d ih =>
    intro i o hi ho
    have hin := (mid3_len (tri w) l k1 i (l.length - (i + 1)) (i + 1) o).1
    have G := ih (i + 1) (mid3 (tri w) l i (l.length - (i + 1)) (i + 1) o) (by omega) (by omega)
    rw [show ((i + 1 : Nat) : Int) = (i : Int) + 1 from by omega] at G
    have H := tri_impl_mid l hk w hw i (by omega) (out3 (tri w) l (d + 1) i o, true) (l.length - (i + 1)) 0 o (by omega) (by omega) G
    have e1 : rd_T30 l (i : Int) = l.getD i z30 := rfl
    refine Ev.step (fun k => ?_) H
    rw [impl_TriadsOf.l0, if_pos (by omega), if_pos (by omega), if_pos (by omega), wrap_id ((i : Int) + 1) (by omega) (by omega), if_pos (by omega), if_pos (by omega), Option.bind_some, e1, show ((i : Int) + 1).toNat = i + 1 by omega]
    rfl
theorem tri_spec (l : List SHt) (hk : cardOk l = true) (w : Int) (hw : 0 ≤ w ∧ w ≤ 4) : ∀ (d i : Nat) (o : List (List Int)), i + d = l.length → o.length ≤ 100 * i → Ev (fun k => spec_TriadsOf.l0 k l w o (i : Int)) (out3 (tri w) l d i o, true) := by
  obtain ⟨k1, k2, k3, k4⟩ := card_iff l hk
  intro d
  induction d with
  | zero =>
    intro i o hi ho
    exact Ev.step (f := fun _ => some (o, true)) (fun k => by rw [spec_TriadsOf.l0, if_neg (by omega)]) (Ev.now _)
  | succ d ih =>
    intro i o hi ho
    have hin := (mid3_len (tri w) l k1 i (l.length - (i + 1)) (i + 1) o).1
    have G := ih (i + 1) (mid3 (tri w) l i (l.length - (i + 1)) (i + 1) o) (by omega) (by omega)
    rw [show ((i + 1 : Nat) : Int) = (i : Int) + 1 from by omega] at G
    have H := tri_spec_mid l hk w hw i (by omega) (out3 (tri w) l (d + 1) i o, true) (l.length - (i + 1)) (i + 1) o (by omega) (by omega) G
    rw [show ((i + 1 : Nat) : Int) = (i : Int) + 1 from by omega] at H
    exact Ev.step (fun k => by rw [spec_TriadsOf.l0, if_pos (by omega), wrap_id ((i : Int) + 1) (by omega) (by omega)]) H
def trV (l : List SHt) (w : Int) : List (List Int) × Bool := if cardOk l = true then (if rng w 0 4 = true then (out3 (tri w) l l.length 0 [], true) else ([], false)) else ([], false)
theorem Triads_ev (l : List SHt) (w : Int) : Ev (fun k => impl_TriadsOf.f k l w) (trV l w) := by
  have hj : Ev (fun k => impl_TriadsOf.j0 k l w true) ([], false) := Ev.step (f := fun _ => some ([], false)) (fun k => by rw [impl_TriadsOf.j0, if_pos rfl]) (Ev.now _)
  unfold impl_TriadsOf.f trV
  simp only [IsCard_eq, in_eq, Option.bind_some]
  cases hk : cardOk l with
  | false => simp only [Bool.false_eq_true, if_false]; exact hj
  | true =>
    cases h1 : rng w 0 4 with
    | false => simp only [if_true, Bool.false_eq_true, if_false, Bool.not_false]; exact hj
    | true =>
      simp only [if_true, Bool.not_true]
      exact Ev.step (fun k => by rw [impl_TriadsOf.j0, if_neg Bool.false_ne_true]; rfl) (tri_impl l hk w ((rng_iff _ _ _).1 h1) l.length 0 [] (by omega) (by show 0 ≤ _; omega))
theorem sTriads_ev (l : List SHt) (w : Int) (hl : l.length ≤ 1000) (hz : ∀ x ∈ l, x.f1.size ≤ 1000) : Ev (fun k => spec_TriadsOf.f k l w) (trV l w) := by
  have hj : Ev (fun k => spec_TriadsOf.j0 k l w [] true) ([], false) := Ev.step (f := fun _ => some ([], false)) (fun k => by rw [spec_TriadsOf.j0, if_pos rfl]) (Ev.now _)
  unfold spec_TriadsOf.f trV
  simp only [l1In_eq, Option.bind_some]
  refine Ev.bind (l3Good_ev l hl hz) ?_
  cases hk : cardOk l with
  | false => simp only [Bool.false_eq_true, if_false]; exact hj
  | true =>
    cases h1 : rng w 0 4 with
    | false => simp only [if_true, Bool.false_eq_true, if_false, Bool.not_false]; exact hj
    | true =>
      simp only [if_true, Bool.not_true]
      exact Ev.step (fun k => by rw [spec_TriadsOf.j0, if_neg Bool.false_ne_true]; rfl) (tri_spec l hk w ((rng_iff _ _ _).1 h1) l.length 0 [] (by omega) (by show 0 ≤ _; omega))
theorem tri_more (w : Int) (x t u : SHt) (h : tri w x t u = true) : tri (w + 1) x t u = true := by
  unfold tri ap8 at *
  simp only [Bool.and_eq_true, rng_iff] at *
  omega
theorem stp3_more (C D : SHt → SHt → SHt → Bool) (h : ∀ x t u, C x t u = true → D x t u = true) (l : List SHt) (i j m : Nat) (o p : List (List Int)) (ho : o.length ≤ p.length) : (stp3 C l i j m o).length ≤ (stp3 D l i j m p).length := by
  unfold stp3
  by_cases c : C (l.getD i z30) (l.getD j z30) (l.getD m z30) = true
  · rw [if_pos c, if_pos (h _ _ _ c), List.length_append, List.length_append]; exact Nat.add_le_add_right ho _
  · rw [if_neg c]
    split
    · rw [List.length_append]; omega
    · exact ho
theorem inn3_more (C D : SHt → SHt → SHt → Bool) (h : ∀ x t u, C x t u = true → D x t u = true) (l : List SHt) (i j : Nat) (d : Nat) : ∀ (m : Nat) (o p : List (List Int)), o.length ≤ p.length → (inn3 C l i j d m o).length ≤ (inn3 D l i j d m p).length := by
  induction d with
  | zero => intro m o p ho; exact ho
  | succ d ih => intro m o p ho; exact ih (m + 1) _ _ (stp3_more C D h l i j m o p ho)
theorem mid3_more (C D : SHt → SHt → SHt → Bool) (h : ∀ x t u, C x t u = true → D x t u = true) (l : List SHt) (i : Nat) (d : Nat) : ∀ (j : Nat) (o p : List (List Int)), o.length ≤ p.length → (mid3 C l i d j o).length ≤ (mid3 D l i d j p).length := by
  induction d with
  | zero => intro j o p ho; exact ho
  | succ d ih => intro j o p ho; exact ih (j + 1) _ _ (inn3_more C D h l i j _ _ o p ho)
theorem out3_more (C D : SHt → SHt → SHt → Bool) (h : ∀ x t u, C x t u = true → D x t u = true) (l : List SHt) (d : Nat) : ∀ (i : Nat) (o p : List (List Int)), o.length ≤ p.length → (out3 C l d i o).length ≤ (out3 D l d i p).length := by
  induction d with
  | zero => intro i o p ho; exact ho
  | succ d ih => intro i o p ho; exact ih (i + 1) _ _ (mid3_more C D h l i _ _ o p ho)
theorem tr_facts (l : List SHt) (w : Int) : (trV l w).1.length ≤ 100000 ∧ rowsOk (trV l w).1 ∧ ((trV l w).2 = true → w ≤ 4) ∧ ((trV l w).2 = true → (trV l (w + 1)).2 = true → ¬ ((trV l (w + 1)).1.length : Int) < ((trV l w).1.length : Int)) := by
  unfold trV
  cases hk : cardOk l with
  | false => exact ⟨Nat.zero_le _, fun r hr => absurd hr List.not_mem_nil, fun h => absurd (show false = true from h) Bool.false_ne_true, fun h => absurd (show false = true from h) Bool.false_ne_true⟩
  | true =>
    obtain ⟨k1, _⟩ := card_iff l hk
    cases h1 : rng w 0 4 with
    | false => exact ⟨Nat.zero_le _, fun r hr => absurd hr List.not_mem_nil, fun h => absurd (show false = true from h) Bool.false_ne_true, fun h => absurd (show false = true from h) Bool.false_ne_true⟩
    | true =>
      have hol := out3_len (tri w) l k1 l.length 0 []
      refine ⟨?_, ?_, fun _ => ((rng_iff _ _ _).1 h1).2, fun _ h => ?_⟩
      · show (out3 _ _ _ _ _).length ≤ 100000
        have := hol.1
        rw [List.length_nil] at this
        omega
      · exact hol.2 (fun r hr => absurd hr List.not_mem_nil)
      · cases h2 : rng (w + 1) 0 4 with
        | false => rw [h2] at h; cases h
        | true =>
          have hm := out3_more (tri w) (tri (w + 1)) (fun x t u hh => tri_more w x t u hh) l l.length 0 [] [] (Nat.le_refl _)
          show ¬ ((out3 (tri (w + 1)) l l.length 0 []).length : Int) < ((out3 (tri w) l l.length 0 []).length : Int)
          omega
theorem low8 (y : Int) : 0 ≤ Go.bits .and .u64 y 255 ∧ Go.bits .and .u64 y 255 ≤ 255 := by
  have h : ((BitVec.ofInt 64 y) &&& (BitVec.ofInt 64 255)).toNat ≤ 255 := by
    rw [BitVec.toNat_and]
    exact Nat.le_trans Nat.and_le_right (by decide)
  have e : Go.bits .and .u64 y 255 = IntKind.u64.wrap ((((BitVec.ofInt 64 y) &&& (BitVec.ofInt 64 255)).toNat : Nat) : Int) := rfl
  have e2 : ∀ n : Nat, n ≤ 255 → IntKind.u64.wrap (n : Int) = (n : Int) := fun n hn => by
    show (n : Int) % 18446744073709551616 = (n : Int)
    omega
  rw [e, e2 _ h]
  omega
def codeOk (code : List Int) : Prop := code.length ≤ 70000 ∧ ∀ i : Int, 0 ≤ rd code i ∧ rd code i ≤ 255
theorem codeOk_of (code : List Int) (hl : code.length ≤ 70000) (h : ∀ x ∈ code, (Lit.int .u8 x).wf = true) : codeOk code := by
  refine ⟨hl, fun i => ?_⟩
  unfold rd
  rw [List.getD_eq_getElem?_getD]
  by_cases c : i.toNat < code.length
  · rw [List.getElem?_eq_getElem c]
    have := h _ (List.getElem_mem c)
    have h3 : (decide (IntKind.u8.min ≤ code[i.toNat]) && decide (code[i.toNat] ≤ IntKind.u8.max)) = true := this
    rw [Bool.and_eq_true, decide_eq_true_iff, decide_eq_true_iff, show IntKind.u8.min = 0 by decide, show IntKind.u8.max = 255 by decide] at h3
    exact h3
  · rw [List.getElem?_eq_none (by omega)]
    exact ⟨by decide, by decide⟩
theorem next_ok (code : List Int) (hc : codeOk code) (at_ seed : Int) (h0 : 0 ≤ at_) (h1 : at_ ≤ 1000000) : ∃ x s, spec_l1Cur_next.f code at_ seed = some (x, at_ + 1, s) ∧ 0 ≤ x ∧ x ≤ 255 := by
  have hw : wrap64 (at_ + 1) = at_ + 1 := wrap_id _ (by omega) (by omega)
  have hb := hc.2 at_
  unfold spec_l1Cur_next.f
  rw [hw]
  by_cases c : at_ < (code.length : Int)
  · rw [if_pos c, if_pos h0, if_pos (by omega)]
    exact ⟨_, _, rfl, by rw [wrap_id _ (by omega) (by omega)]; exact hb⟩
  · rw [if_neg c, if_neg (by omega)]
    refine ⟨_, _, rfl, ?_⟩
    have := low8 ((IntKind.u64.wrap ((IntKind.u64.wrap ((IntKind.u64.wrap (seed * 6364136223846793005)))) + 102323)) / 1099511627776)
    rw [wrap_id _ (by omega) (by omega)]
    exact this
theorem pick_ok (code : List Int) (hc : codeOk code) (at_ seed n : Int) (h0 : 0 ≤ at_) (h1 : at_ ≤ 900000) (hn : n ≤ 1000000) : ∃ x a s, spec_l1Cur_pick.f code at_ seed n = some (x, a, s) ∧ 0 ≤ x ∧ (x < n ∨ x = 0) ∧ at_ ≤ a ∧ a ≤ at_ + 2 := by
  unfold spec_l1Cur_pick.f
  by_cases c : n ≤ 1
  · exact ⟨0, at_, seed, by rw [if_pos c], by omega, .inr rfl, by omega, by omega⟩
  · rw [if_neg c]
    obtain ⟨x, s, e, x0, x1⟩ := next_ok code hc at_ seed h0 (by omega)
    rw [e, Option.bind_some]
    dsimp only
    by_cases c2 : n > 200
    · rw [if_pos c2]
      obtain ⟨y, s2, e2, y0, y1⟩ := next_ok code hc (at_ + 1) s (by omega) (by omega)
      rw [e2, Option.bind_some, if_neg (by omega)]
      dsimp only
      rw [wrap_id (x * 256) (by omega) (by omega), wrap_id (x * 256 + y) (by omega) (by omega)]
      exact ⟨_, _, _, rfl, Int.tmod_nonneg _ (by omega), .inl (Int.tmod_lt_of_pos _ (by omega)), by omega, by omega⟩
    · rw [if_neg c2, if_neg (by omega)]
      exact ⟨_, _, _, rfl, Int.tmod_nonneg _ x0, .inl (Int.tmod_lt_of_pos _ (by omega)), by omega, by omega⟩
theorem one_ok (code : List Int) (hc : codeOk code) (at_ seed n : Int) (h0 : 0 ≤ at_) (h1 : at_ ≤ 900000) (hn : n ≤ 1000000) : ∃ x a s, spec_l1Cur_one.f code at_ seed n = some (x, a, s) ∧ at_ ≤ a ∧ a ≤ at_ + 2 := by
  unfold spec_l1Cur_one.f
  obtain ⟨x, a, s, e, _, _, a0, a1⟩ := pick_ok code hc at_ seed n h0 h1 hn
  rw [e, Option.bind_some]
  exact ⟨_, a, s, rfl, a0, a1⟩
theorem of_ok (code : List Int) (hc : codeOk code) (at_ seed : Int) (l : List ByteArray) (hl : 0 < l.length ∧ l.length ≤ 1000) (h0 : 0 ≤ at_) (h1 : at_ ≤ 900000) : ∃ x a s, spec_l1Cur_of.f code at_ seed l = some (x, a, s) ∧ x ∈ l ∧ at_ ≤ a ∧ a ≤ at_ + 2 := by
  unfold spec_l1Cur_of.f
  obtain ⟨x, a, s, e, x0, x1, a0, a1⟩ := pick_ok code hc at_ seed (l.length : Int) h0 h1 (by omega)
  rw [e, Option.bind_some]
  dsimp only
  have hx : x < (l.length : Int) := by omega
  rw [if_pos x0, if_pos hx]
  refine ⟨_, a, s, rfl, ?_, a0, a1⟩
  show l.getD x.toNat ByteArray.empty ∈ l
  rw [List.getD_eq_getElem?_getD, List.getElem?_eq_getElem (by omega)]
  exact List.getElem_mem (by omega)
theorem among_ok (code : List Int) (hc : codeOk code) (at_ seed : Int) (l : List Int) (hl : 0 < l.length ∧ l.length ≤ 1000) (h0 : 0 ≤ at_) (h1 : at_ ≤ 900000) : ∃ x a s, spec_l1Cur_among.f code at_ seed l = some (x, a, s) ∧ x ∈ l ∧ at_ ≤ a ∧ a ≤ at_ + 2 := by
  unfold spec_l1Cur_among.f
  obtain ⟨x, a, s, e, x0, x1, a0, a1⟩ := pick_ok code hc at_ seed (l.length : Int) h0 h1 (by omega)
  rw [e, Option.bind_some]
  dsimp only
  have hx : x < (l.length : Int) := by omega
  rw [if_pos x0, if_pos hx]
  refine ⟨_, a, s, rfl, ?_, a0, a1⟩
  show l.getD x.toNat 0 ∈ l
  rw [List.getD_eq_getElem?_getD, List.getElem?_eq_getElem (by omega)]
  exact List.getElem_mem (by omega)
theorem cut_ok (code : List Int) (hc : codeOk code) (at_ seed : Int) (y : List Int) (b : Int) (hb : 1 ≤ b ∧ b + 2 ≤ (y.length : Int)) (hy : y.length ≤ 1000) (h0 : 0 ≤ at_) (h1 : at_ ≤ 800000) : ∃ x a s v c t, spec_l1Cur_pick.f code at_ seed 24 = some (x, a, s) ∧ wrap64 (b + wrap64 (Int.tdiv x 11)) = c ∧ 0 ≤ c ∧ c ≤ (y.length : Int) ∧ (∃ a2, spec_l1Cur_among.f code a s (y.take c.toNat) = some (v, a2, t) ∧ at_ ≤ a2 ∧ a2 ≤ at_ + 4) := by
  obtain ⟨x, a, s, e, x0, x1, a0, a1⟩ := pick_ok code hc at_ seed 24 h0 (by omega) (by omega)
  have hd0 : 0 ≤ Int.tdiv x 11 := Int.tdiv_nonneg x0 (by decide)
  have hd1 : Int.tdiv x 11 ≤ 2 := by
    rw [Int.tdiv_eq_ediv_of_nonneg x0]
    omega
  have ew : wrap64 (b + wrap64 (Int.tdiv x 11)) = b + Int.tdiv x 11 := by
    rw [wrap_id (Int.tdiv x 11) (by omega) (by omega), wrap_id _ (by omega) (by omega)]
  have hlen : (y.take (b + Int.tdiv x 11).toNat).length = (b + Int.tdiv x 11).toNat := by rw [List.length_take]; omega
  obtain ⟨v, a2, t, e2, _, b0, b1⟩ := among_ok code hc a s (y.take (b + Int.tdiv x 11).toNat) ⟨by omega, by omega⟩ (by omega) (by omega)
  exact ⟨x, a, s, v, b + Int.tdiv x 11, t, e, ew, by omega, by omega, a2, e2, by omega, by omega⟩
def szS (n : Nat) (l : List SHt) : Prop := l.length ≤ n ∧ ∀ x ∈ l, x.f1.size ≤ 100
theorem szS_add (n : Nat) (l : List SHt) (x : SHt) (h : szS n l) (hx : x.f1.size ≤ 100) : szS (n + 1) (l ++ [x]) := by
  refine ⟨by rw [List.length_append, List.length_singleton]; have := h.1; omega, fun y hy => ?_⟩
  rcases List.mem_append.1 hy with hy | hy
  · exact h.2 y hy
  · rw [List.mem_singleton.1 hy]; exact hx
theorem szS_le (n m : Nat) (l : List SHt) (h : szS n l) (hm : n ≤ m) : szS m l := ⟨Nat.le_trans h.1 hm, h.2⟩
theorem szS_nil (n : Nat) : szS n [] := ⟨Nat.zero_le _, fun x hx => absurd hx List.not_mem_nil⟩
def shadeL : List ByteArray := [(⟨#[109, 97, 100, 100, 101, 114]⟩ : ByteArray), (⟨#[105, 110, 100, 105, 103, 111]⟩ : ByteArray), (⟨#[119, 101, 108, 100]⟩ : ByteArray), (⟨#[119, 97, 108, 110, 117, 116]⟩ : ByteArray), (⟨#[99, 111, 99, 104, 105, 110, 101, 97, 108]⟩ : ByteArray), (⟨#[105, 118, 111, 114, 121]⟩ : ByteArray)]
def oddL : List ByteArray := [(⟨#[]⟩ : ByteArray), (⟨#[65]⟩ : ByteArray), (⟨#[97, 98, 99, 100, 101, 102, 103, 104, 105, 106, 107]⟩ : ByteArray)]
theorem shade_size : ∀ x ∈ shadeL, x.size ≤ 20 := by decide
theorem odd_size : ∀ x ∈ oddL, x.size ≤ 20 := by decide
theorem shade_ok (code : List Int) (hc : codeOk code) (at_ seed id : Int) (h0 : 0 ≤ at_) (h1 : at_ ≤ 800000) : ∃ i n a b c p s, spec_l1Cur_shade.f code at_ seed id = some (i, n, a, b, c, p, s) ∧ n.size ≤ 100 ∧ at_ ≤ p ∧ p ≤ at_ + 12 := by
  unfold spec_l1Cur_shade.f
  obtain ⟨n, a1, s1, e1, m1, q1, r1⟩ := of_ok code hc at_ seed shadeL (by decide) h0 (by omega)
  obtain ⟨x2, a2, s2, e2, _, q2, r2⟩ := among_ok code hc a1 s1 [0, 1, 4, 8, 12, 16, 23] (by decide) (by omega) (by omega)
  obtain ⟨x3, a3, s3, e3, _, q3, r3⟩ := among_ok code hc a2 s2 [0, 2, 5, 9] (by decide) (by omega) (by omega)
  obtain ⟨x4, a4, s4, e4, _, q4, r4⟩ := among_ok code hc a3 s3 [1, 3, 5, 8] (by decide) (by omega) (by omega)
  obtain ⟨x5, a5, s5, e5, _, _, q5, r5⟩ := pick_ok code hc a4 s4 70 (by omega) (by omega) (by omega)
  obtain ⟨y0, b0, t0, f0, _, u0, v0⟩ := among_ok code hc a5 s5 [0, 99, 100] (by decide) (by omega) (by omega)
  obtain ⟨y1, b1, t1, f1, m2, u1, v1⟩ := of_ok code hc a5 s5 oddL (by decide) (by omega) (by omega)
  obtain ⟨y2, b2, t2, f2, _, u2, v2⟩ := among_ok code hc a5 s5 [(-1), 24] (by decide) (by omega) (by omega)
  obtain ⟨y3, b3, t3, f3, _, u3, v3⟩ := among_ok code hc a5 s5 [(-1), 10] (by decide) (by omega) (by omega)
  obtain ⟨y4, b4, t4, f4, _, u4, v4⟩ := among_ok code hc a5 s5 [0, 9] (by decide) (by omega) (by omega)
  have hn := shade_size n m1
  have ho := odd_size y1 m2
  unfold shadeL at e1
  unfold oddL at f1
  simp only [e1, e2, e3, e4, e5, Option.bind_some]
  by_cases c0 : x5 = 0
  · simp only [if_pos c0, f0, Option.bind_some]
    exact ⟨_, _, _, _, _, b0, t0, rfl, by omega, by omega, by omega⟩
  · by_cases c1 : x5 = 1
    · simp only [if_neg c0, if_pos c1, f1, Option.bind_some]
      exact ⟨_, _, _, _, _, b1, t1, rfl, by omega, by omega, by omega⟩
    · by_cases c2 : x5 = 2
      · simp only [if_neg c0, if_neg c1, if_pos c2, f2, Option.bind_some]
        exact ⟨_, _, _, _, _, b2, t2, rfl, by omega, by omega, by omega⟩
      · by_cases c3 : x5 = 3
        · simp only [if_neg c0, if_neg c1, if_neg c2, if_pos c3, f3, Option.bind_some]
          exact ⟨_, _, _, _, _, b3, t3, rfl, by omega, by omega, by omega⟩
        · by_cases c4 : x5 = 4
          · simp only [if_neg c0, if_neg c1, if_neg c2, if_neg c3, if_pos c4, f4, Option.bind_some]
            exact ⟨_, _, _, _, _, b4, t4, rfl, by omega, by omega, by omega⟩
          · simp only [if_neg c0, if_neg c1, if_neg c2, if_neg c3, if_neg c4]
            exact ⟨_, _, _, _, _, a5, s5, rfl, by omega, by omega, by omega⟩
theorem card_l1 (code : List Int) (hc : codeOk code) (d : Nat) : ∀ (i : Nat) (at_ seed : Int) (xs : List SHt), i + d = 12 → xs.length = i → szS 20 xs → 0 ≤ at_ → at_ + 2 * (d : Int) ≤ 90000 → ∃ (ys : List SHt) (a s : Int), szS 20 ys ∧ (0 ≤ a ∧ a ≤ 90010) ∧ Ev (fun k => spec_l1Cur_shadeCard.l1 k xs (i : Int) code at_ seed) (ys, a, s) := by
  induction d with
  | zero =>
    intro i at_ seed xs hi hx hz a0 a1
    obtain ⟨y, b, t, e, y0, y1, u, v⟩ := pick_ok code hc at_ seed 2 a0 (by omega) (by omega)
    refine ⟨xs, b, t, hz, ⟨by omega, by omega⟩, Ev.step (f := fun _ => some (xs, b, t)) (fun k => ?_) (Ev.now _)⟩
    rw [spec_l1Cur_shadeCard.l1, e, Option.bind_some]
    dsimp only
    rw [wrap_id (10 + y) (by omega) (by omega), if_neg (by omega)]
  | succ d ih =>
    intro i at_ seed xs hi hx hz a0 a1
    obtain ⟨y, b, t, e, y0, y1, u, v⟩ := pick_ok code hc at_ seed 2 a0 (by omega) (by omega)
    by_cases c : (i : Int) < 10 + y
    · obtain ⟨ys, a, s, z1, z2, z3⟩ := ih (i + 1) b t (xs ++ [⟨wrap64 ((i : Int) + 1), strOfNums [wrap64 (97 + (i : Int)) % 256], wrap64 (2 * (i : Int)), 5, 4⟩]) (by omega) (by rw [List.length_append, List.length_singleton]; omega) (by
        have := szS_add 19 xs ⟨wrap64 ((i : Int) + 1), strOfNums [wrap64 (97 + (i : Int)) % 256], wrap64 (2 * (i : Int)), 5, 4⟩ ⟨by omega, hz.2⟩ (by show (strOfNums _).size ≤ 100; rw [strOfNums_size, List.length_singleton]; omega)
        exact this) (by omega) (by omega)
      refine ⟨ys, a, s, z1, z2, Ev.step (fun k => ?_) z3⟩
      rw [spec_l1Cur_shadeCard.l1, e, Option.bind_some]
      dsimp only
      rw [wrap_id (10 + y) (by omega) (by omega), if_pos c, if_pos (by omega), wrap_id ((i : Int) + 1) (by omega) (by omega)]
      rfl
    · refine ⟨xs, b, t, hz, ⟨by omega, by omega⟩, Ev.step (f := fun _ => some (xs, b, t)) (fun k => ?_) (Ev.now _)⟩
      rw [spec_l1Cur_shadeCard.l1, e, Option.bind_some]
      dsimp only
      rw [wrap_id (10 + y) (by omega) (by omega), if_neg c]
theorem card_l0 (code : List Int) (hc : codeOk code) (n : Nat) : ∀ (id at_ seed : Int) (xs : List SHt), xs.length + n ≤ 8 → szS 20 xs → 0 ≤ at_ → at_ + 20 * (n : Int) ≤ 80000 → ∃ (ys : List SHt) (a s : Int), szS 20 ys ∧ (0 ≤ a ∧ a ≤ 90010) ∧ Ev (fun k => spec_l1Cur_shadeCard.l0 k xs id (n : Int) code at_ seed) (ys, a, s) := by
  induction n with
  | zero =>
    intro id at_ seed xs hx hz a0 a1
    obtain ⟨o, b, t, e, u, v⟩ := one_ok code hc at_ seed 24 a0 (by omega) (by omega)
    cases o with
    | false =>
      refine ⟨xs, b, t, hz, ⟨by omega, by omega⟩, Ev.step (f := fun _ => some (xs, b, t)) (fun k => ?_) (Ev.now _)⟩
      rw [spec_l1Cur_shadeCard.l0, if_neg (by omega), e, Option.bind_some]
      dsimp only
      rw [if_neg Bool.false_ne_true]
    | true =>
      obtain ⟨ys, a, s, z1, z2, z3⟩ := card_l1 code hc 12 0 b t [] (by omega) rfl (szS_nil 20) (by omega) (by omega)
      refine ⟨ys, a, s, z1, z2, Ev.step (fun k => ?_) z3⟩
      rw [spec_l1Cur_shadeCard.l0, if_neg (by omega), e, Option.bind_some]
      dsimp only
      rw [if_pos rfl]
      rfl
  | succ n ih =>
    intro id at_ seed xs hx hz a0 a1
    obtain ⟨y, b, t, e, y0, y1, u, v⟩ := pick_ok code hc at_ seed 3 a0 (by omega) (by omega)
    obtain ⟨i2, nm, a2, b2, c2, p2, s2, e2, hn, u2, v2⟩ := shade_ok code hc b t (wrap64 (wrap64 (id + 1) + y)) (by omega) (by omega)
    obtain ⟨X, hX⟩ : ∃ X : SHt, X = ⟨i2, nm, a2, b2, c2⟩ := ⟨_, rfl⟩
    have hXn : X.f1.size ≤ 100 := by rw [hX]; exact hn
    have hzx : szS 20 (xs ++ [X]) := szS_le 9 20 _ (szS_add 8 xs X ⟨by omega, hz.2⟩ hXn) (by omega)
    have hxl : (xs ++ [X]).length = xs.length + 1 := by rw [List.length_append, List.length_singleton]
    have hg := l3Good_ev (xs ++ [X]) (by omega) (fun x hx => by have := hzx.2 x hx; omega)
    have ew : wrap64 (((n + 1 : Nat) : Int) - 1) = (n : Int) := by rw [wrap_id _ (by omega) (by omega)]; omega
    have start : ∀ (R : Nat → Option (List SHt × Int × Int)), (∀ k, ((spec_l3Good.f k (xs ++ [X])).bind fun t218 => (if t218 = true then (spec_l1Cur_shadeCard.l0 k (xs ++ [X]) (wrap64 (wrap64 (id + 1) + y)) (n : Int) code p2 s2) else ((spec_l1Cur_one.f code p2 s2 40).bind fun bt219 => (if bt219.1 = true then (spec_l1Cur_shadeCard.l0 k (xs ++ [X]) (wrap64 (wrap64 (id + 1) + y)) (n : Int) code bt219.2.1 bt219.2.2) else (spec_l1Cur_shadeCard.l0 k xs (wrap64 (wrap64 (id + 1) + y)) (n : Int) code bt219.2.1 bt219.2.2))))) = R k) → ∀ k, spec_l1Cur_shadeCard.l0 (k + 1) xs id ((n + 1 : Nat) : Int) code at_ seed = R k := fun R h k => by
      rw [spec_l1Cur_shadeCard.l0, if_pos (by omega), e, Option.bind_some]
      dsimp only [Option.bind_some]
      rw [if_pos (by rw [List.length_nil]; omega), List.nil_append, e2, Option.bind_some]
      dsimp only
      rw [if_pos (by omega), ew, ← hX]
      exact h k
    cases hk : cardOk (xs ++ [X]) with
    | true =>
      rw [hk] at hg
      obtain ⟨ys, a, s, z1, z2, z3⟩ := ih (wrap64 (wrap64 (id + 1) + y)) p2 s2 (xs ++ [X]) (by omega) hzx (by omega) (by omega)
      refine ⟨ys, a, s, z1, z2, Ev.step (start _ (fun k => rfl)) (Ev.bind hg ?_)⟩
      simp only [if_true]
      exact z3
    | false =>
      rw [hk] at hg
      obtain ⟨o, p3, s3, e3, u3, v3⟩ := one_ok code hc p2 s2 40 (by omega) (by omega) (by omega)
      cases o with
      | true =>
        obtain ⟨ys, a, s, z1, z2, z3⟩ := ih (wrap64 (wrap64 (id + 1) + y)) p3 s3 (xs ++ [X]) (by omega) hzx (by omega) (by omega)
        refine ⟨ys, a, s, z1, z2, Ev.step (start _ (fun k => rfl)) (Ev.bind hg ?_)⟩
        simp only [Bool.false_eq_true, if_false, e3, Option.bind_some, if_true]
        exact z3
      | false =>
        obtain ⟨ys, a, s, z1, z2, z3⟩ := ih (wrap64 (wrap64 (id + 1) + y)) p3 s3 xs (by omega) hz (by omega) (by omega)
        refine ⟨ys, a, s, z1, z2, Ev.step (start _ (fun k => rfl)) (Ev.bind hg ?_)⟩
        simp only [Bool.false_eq_true, if_false, e3, Option.bind_some]
        exact z3
theorem card_ok (code : List Int) (hc : codeOk code) : ∃ (ys : List SHt) (a s : Int), szS 20 ys ∧ (0 ≤ a ∧ a ≤ 90010) ∧ Ev (fun k => spec_l1Cur_shadeCard.f k code 0 0) (ys, a, s) := by
  obtain ⟨y, b, t, e, y0, y1, u, v⟩ := pick_ok code hc 0 0 7 (by omega) (by omega) (by omega)
  obtain ⟨ys, a, s, z1, z2, z3⟩ := card_l0 code hc y.toNat 0 b t [] (by rw [List.length_nil]; omega) (szS_nil 20) (by omega) (by omega)
  refine ⟨ys, a, s, z1, z2, ?_⟩
  unfold spec_l1Cur_shadeCard.f
  simp only [e, Option.bind_some]
  rw [show ((y.toNat : Nat) : Int) = y by omega] at z3
  exact z3
theorem drawNear (code : List Int) (hc : codeOk code) : ∃ (l : List SHt) (a b : Int), szS 20 l ∧ Ev (fun k => spec_DrawNearestShade.f k code) (l, a, b) := by
  obtain ⟨l, p, q, h1, h2, h3⟩ := card_ok code hc
  obtain ⟨x, a, s3, w, c, t, e1, e2, c0, c1, a2, e3, u, v⟩ := cut_ok code hc p q [0, 1, 5, 8, 12, 20, 23, (-1), 24] 7 (by decide) (by decide) h2.1 (by omega)
  obtain ⟨x', a', s3', w', c', t', e1', e2', c0', c1', a2', e3', u', v'⟩ := cut_ok code hc a2 t [0, 3, 9, (-1), 10] 3 (by decide) (by decide) (by omega) (by omega)
  refine ⟨l, w, w', h1, ?_⟩
  unfold spec_DrawNearestShade.f spec_l1Cur_wheel3.f
  refine Ev.bind h3 ?_
  simp only [Option.bind_some, e1, e2, if_pos c0, if_pos c1, e3, e1', e2', if_pos c0', if_pos c1', e3']
  exact Ev.now _
theorem drawFaded (code : List Int) (hc : codeOk code) : ∃ (l : List SHt) (a b : Int), szS 20 l ∧ Ev (fun k => spec_DrawFadedApart.f k code) (l, a, b) := by
  obtain ⟨l, p, q, h1, h2, h3⟩ := card_ok code hc
  obtain ⟨x, a, s3, w, c, t, e1, e2, c0, c1, a2, e3, u, v⟩ := cut_ok code hc p q [0, 5, 24, 25, 80, 200, (-1), 201] 6 (by decide) (by decide) h2.1 (by omega)
  obtain ⟨x', a', s3', w', c', t', e1', e2', c0', c1', a2', e3', u', v'⟩ := cut_ok code hc a2 t [0, 2, 5, 9, 33, (-1), 34] 5 (by decide) (by decide) (by omega) (by omega)
  refine ⟨l, w, w', h1, ?_⟩
  unfold spec_DrawFadedApart.f spec_l1Cur_years3.f
  refine Ev.bind h3 ?_
  simp only [Option.bind_some, e1, e2, if_pos c0, if_pos c1, e3, e1', e2', if_pos c0', if_pos c1', e3']
  exact Ev.now _
theorem drawTri (code : List Int) (hc : codeOk code) : ∃ (l : List SHt) (a : Int), szS 20 l ∧ Ev (fun k => spec_DrawTriadsOf.f k code) (l, a) := by
  obtain ⟨l, p, q, h1, h2, h3⟩ := card_ok code hc
  obtain ⟨x, a, s3, w, c, t, e1, e2, c0, c1, a2, e3, u, v⟩ := cut_ok code hc p q [0, 1, 2, 4, (-1), 5] 4 (by decide) (by decide) h2.1 (by omega)
  refine ⟨l, w, h1, ?_⟩
  unfold spec_DrawTriadsOf.f
  refine Ev.bind h3 ?_
  simp only [Option.bind_some, e1, e2, if_pos c0, if_pos c1, e3]
  exact Ev.now _
theorem drawDist (code : List Int) (hc : codeOk code) : ∃ (x y : SHt), x.f1.size ≤ 100 ∧ y.f1.size ≤ 100 ∧ spec_DrawShadeDistance.f code = some (x.f0, x.f1, x.f2, x.f3, x.f4, y.f0, y.f1, y.f2, y.f3, y.f4) := by
  obtain ⟨i, n, a, b, c, p, s, e, h, u, v⟩ := shade_ok code hc 0 0 5 (by omega) (by omega)
  obtain ⟨i2, n2, a2, b2, c2, p2, s2, e2, h2, u2, v2⟩ := shade_ok code hc p s 7 (by omega) (by omega)
  refine ⟨⟨i, n, a, b, c⟩, ⟨i2, n2, a2, b2, c2⟩, h, h2, ?_⟩
  unfold spec_DrawShadeDistance.f
  rw [e, Option.bind_some]
  dsimp only
  rw [e2, Option.bind_some]
theorem impl_dist (x y : SHt) : impl_ShadeDistance.f x.f0 x.f1 x.f2 x.f3 x.f4 y.f0 y.f1 y.f2 y.f3 y.f4 = some (if okSh x = true then (if okSh y = true then (disV y.f2 y.f3 x, true) else (0, false)) else (0, false)) := by
  unfold impl_ShadeDistance.f
  have hx := impl_IsShade.total x
  have hy := impl_IsShade.total y
  rw [hx, Option.bind_some]
  cases okSh x with
  | false => rfl
  | true =>
    rw [if_pos rfl, hy, Option.bind_some]
    cases okSh y with
    | false => rfl
    | true => rfl
theorem ok_bounds (x : SHt) (h : okSh x = true) : (0 ≤ x.f2 ∧ x.f2 ≤ 23) ∧ (0 ≤ x.f3 ∧ x.f3 ≤ 9) := by
  unfold okSh at h
  simp only [Bool.and_eq_true, rng_iff] at h
  exact ⟨h.2.2.1, h.2.2.2.1⟩
theorem spec_dist (x y : SHt) (hx : x.f1.size ≤ 1000) (hy : y.f1.size ≤ 1000) : Ev (fun k => spec_ShadeDistance.f k x.f0 x.f1 x.f2 x.f3 x.f4 y.f0 y.f1 y.f2 y.f3 y.f4) (if okSh x = true then (if okSh y = true then (disV y.f2 y.f3 x, true) else (0, false)) else (0, false)) := by
  unfold spec_ShadeDistance.f
  refine Ev.bind (l3One_ev x (by omega)) ?_
  cases hkx : okSh x with
  | false => exact Ev.now _
  | true =>
    simp only [if_true]
    refine Ev.bind (l3One_ev y (by omega)) ?_
    cases hky : okSh y with
    | false => exact Ev.now _
    | true =>
      have b1 := ok_bounds x hkx
      have b2 := ok_bounds y hky
      simp only [if_true, far_at x y.f2 y.f3 (by omega) (by omega), Option.bind_some]
      exact Ev.now _
theorem rInts_ev (l : List Int) (hl : l.length ≤ 1000) : Ev (fun k => laws_rInts.f k l l) true := by
  refine Ev.congr (f := fun k => laws_rInts.l0 k l l 0) (fun k => by unfold laws_rInts.f; rw [if_pos rfl]) ?_
  obtain ⟨r, hr, h⟩ := Ev.loopE (fun k i (_ : Unit) => laws_rInts.l0 k l l i) l.length (fun _ _ => True) (fun r => r = true)
    (fun s _ => ⟨true, rfl, Ev.step (f := fun _ => some true) (fun k => by rw [laws_rInts.l0, if_neg (by omega)]) (Ev.now true)⟩)
    (fun i s hi _ => ⟨(), trivial, fun r h => Ev.step (fun k => by rw [laws_rInts.l0, if_pos (by omega), if_pos (by omega), if_pos (by omega), if_pos rfl, wrap_id _ (by omega) (by omega)]) h⟩) () trivial
  subst hr
  exact h
theorem rTable_ev (T : List (List Int)) (hT : T.length ≤ 100000) (hr : ∀ i, i < T.length → (T.getD i []).length ≤ 1000) : Ev (fun k => laws_rTable.f k T T) true := by
  refine Ev.congr (f := fun k => laws_rTable.l0 k T T 0) (fun k => by unfold laws_rTable.f; rw [if_pos rfl]) ?_
  have key : ∀ d i : Nat, i + d = T.length → Ev (fun k => laws_rTable.l0 k T T (i : Int)) true := by
    intro d
    induction d with
    | zero => intro i hi; exact Ev.step (f := fun _ => some true) (fun k => by rw [laws_rTable.l0, if_neg (by omega)]) (Ev.now _)
    | succ d ih =>
      intro i hi
      have e : rd_L5 T (i : Int) = T.getD i [] := rfl
      have G := ih (i + 1) (by omega)
      rw [show ((i + 1 : Nat) : Int) = (i : Int) + 1 from by omega] at G
      refine Ev.step (fun k => by rw [laws_rTable.l0, if_pos (by omega), if_pos (by omega), if_pos (by omega), e]) (Ev.bind (rInts_ev (T.getD i []) (hr i (by omega))) ?_)
      simp only [if_true, wrap_id ((i : Int) + 1) (show -9223372036854775808 ≤ (i : Int) + 1 by omega) (show (i : Int) + 1 ≤ 9223372036854775807 by omega)]
      exact G
  exact key T.length 0 (by omega)
theorem Ev.upto {ρ : Type} (g : Nat → Int → Option ρ) (r : ρ) (n : Nat) (hend : Ev (fun k => g k (n : Int)) r) (hstep : ∀ i : Nat, i < n → Ev (fun k => g k ((i : Int) + 1)) r → Ev (fun k => g k (i : Int)) r) : Ev (fun k => g k 0) r := by
  have key : ∀ d i : Nat, i + d = n → Ev (fun k => g k (i : Int)) r := by
    intro d
    induction d with
    | zero =>
      intro i hi
      have : i = n := by omega
      subst this
      exact hend
    | succ d ih =>
      intro i hi
      have h := ih (i + 1) (by omega)
      have e : ((i + 1 : Nat) : Int) = (i : Int) + 1 := by omega
      rw [e] at h
      exact hstep i (by omega) h
  exact key n 0 (by omega)
theorem FnShadeCards (l0 : List (Int)) (q_l0 : (l0.length ≤ maxLen ∧ ∀ q ∈ l0, (Lit.int .u8 q).wf = true)) : ∃ k, laws_FnShadeCards.f k l0 = some true := by
  by_cases hb : (l0.length : Int) > 65536
  · refine ⟨0, ?_⟩
    unfold laws_FnShadeCards.f laws_rBig.f
    rw [Option.bind_some, decide_eq_true hb, if_pos rfl]
  · have hc : codeOk l0 := codeOk_of l0 (by omega) q_l0.2
    have fin : Ev (fun k => laws_FnShadeCards.f k l0) true := by
      obtain ⟨l, a1, a2, ⟨hl, hz⟩, d1⟩ := drawNear l0 hc
      obtain ⟨L, y, m, ⟨hL, hZ⟩, d2⟩ := drawFaded l0 hc
      obtain ⟨U, w, ⟨hU, hW⟩, d3⟩ := drawTri l0 hc
      obtain ⟨X, Y, hX, hY, d4⟩ := drawDist l0 hc
      obtain ⟨v, n1, n2, n3⟩ := Near_same l a1 a2 (by omega) (fun x hx => by have := hz x hx; omega)
      have i2 := Faded_ev L y m
      have i3 := sFaded_ev L y m (by omega) (fun x hx => by have := hZ x hx; omega)
      have i4 := Faded_ev L 0 m
      obtain ⟨f1, f2, f3⟩ := fd_facts L y m
      have t2 := rTable_ev (fdV L y m).1 (by omega) (fun i hi => by have := f2 _ (getD_mem [] (fdV L y m).1 i hi); omega)
      have i5 := Triads_ev U w
      have i6 := sTriads_ev U w (by omega) (fun x hx => by have := hW x hx; omega)
      have i7 := Triads_ev U (w + 1)
      have i8 := Triads_ev U (wrap64 (w + 1))
      obtain ⟨g1, g2, g3, g4⟩ := tr_facts U w
      have t3 := rTable_ev (trV U w).1 g1 (fun i hi => by have := g2 _ (getD_mem [] (trV U w).1 i hi); omega)
      have q1 := impl_dist X Y
      have q2 := spec_dist X Y (by omega) (by omega)
      have hj7 : Ev (fun k => laws_FnShadeCards.j7 k l0 false) true := by
        refine Ev.step (fun k => by rw [laws_FnShadeCards.j7, if_neg Bool.false_ne_true, d4, Option.bind_some, q1, Option.bind_some]) (Ev.bind q2 ?_)
        simp only [eq_self_iff_true, if_true, beq_self_eq_true]
        exact Ev.now _
      have hj6 : Ev (fun k => laws_FnShadeCards.j6 k l0 U w (trV U w).1 (trV U w).2 false) true := by
        refine Ev.step (fun k => by rw [laws_FnShadeCards.j6, if_neg Bool.false_ne_true]) (Ev.bind i8 ?_)
        cases h1 : (trV U w).2 with
        | false => simp only [Bool.false_eq_true, if_false]; exact hj7
        | true =>
          simp only [if_true]
          cases h2 : (trV U (wrap64 (w + 1))).2 with
          | false => simp only [Bool.false_eq_true, if_false]; exact hj7
          | true =>
            have hw4 := g3 h1
            have hw0 : -1 ≤ w := by
              unfold trV at h1
              cases hk : cardOk U with
              | false => rw [hk] at h1; cases h1
              | true =>
                cases hr : rng w 0 4 with
                | false => rw [hk, hr] at h1; cases h1
                | true => have := (rng_iff _ _ _).1 hr; omega
            rw [wrap_id (w + 1) (by omega) (by omega)] at h2 ⊢
            simp only [if_true, decide_eq_false (g4 h1 h2)]
            exact hj7
      have hj5 : Ev (fun k => laws_FnShadeCards.j5 k l0 false) true := by
        refine Ev.step (fun k => by rw [laws_FnShadeCards.j5, if_neg Bool.false_ne_true]) (Ev.bind d3 (Ev.bind i5 (Ev.bind i6 ?_)))
        simp only [bne_self_eq_false, Bool.false_eq_true, if_false]
        refine Ev.bind t3 ?_
        simp only [Bool.not_true]
        exact hj6
      have hj4 : Ev (fun k => laws_FnShadeCards.j4 k l0 L m (fdV L y m).2 false) true := by
        refine Ev.step (fun k => by rw [laws_FnShadeCards.j4, if_neg Bool.false_ne_true]) (Ev.bind i4 ?_)
        cases h1 : (fdV L y m).2 with
        | false => simp only [Bool.false_eq_true, if_false]; exact hj5
        | true =>
          obtain ⟨e1, e2⟩ := f3 h1
          simp only [if_true, e1, e2, List.length_nil]
          exact hj5
      have tail : ∀ (x11 : Int), Ev (fun k => laws_FnShadeCards.j2 k l0 l v.1 v.2 x11 false 1 (⟨#[97]⟩ : ByteArray) a1 a2 1) true := fun x11 => by
        refine Ev.step (fun k => by rw [laws_FnShadeCards.j2, if_neg Bool.false_ne_true]) (Ev.bind d2 (Ev.bind i2 (Ev.bind i3 ?_)))
        simp only [bne_self_eq_false, Bool.false_eq_true, if_false]
        refine Ev.bind t2 ?_
        simp only [Bool.not_true]
        exact hj4
      have hloop : Ev (fun k => laws_FnShadeCards.l0 k l0 l v.1 v.2 0 1 (⟨#[97]⟩ : ByteArray) a1 a2 1) true := by
        refine Ev.upto (fun k i => laws_FnShadeCards.l0 k l0 l v.1 v.2 i 1 (⟨#[97]⟩ : ByteArray) a1 a2 1) true l.length ?_ ?_
        · exact Ev.step (fun k => by rw [laws_FnShadeCards.l0, if_neg (by omega)]) (tail _)
        · intro i hi hn
          refine Ev.step (f := fun k => laws_FnShadeCards.j2 k l0 l v.1 v.2 (i : Int) v.2 1 (⟨#[97]⟩ : ByteArray) a1 a2 1) (fun k => by rw [laws_FnShadeCards.l0, if_pos (by omega)]) ?_
          cases hv : v.2 with
          | false => have := tail (i : Int); rw [hv] at this; exact this
          | true =>
            obtain ⟨k1, k2, k3, k4⟩ := n3 hv
            have b1 := (rng_iff _ _ _).1 k2
            have b2 := (rng_iff _ _ _).1 k3
            obtain ⟨c1, c2, c3, c4⟩ := card_iff l k1
            have hask : okSh (⟨1, (⟨#[97]⟩ : ByteArray), a1, a2, 1⟩ : SHt) = true := by
              unfold okSh
              show (rng 1 1 99 && (isWordB (⟨#[97]⟩ : ByteArray) && (rng a1 0 23 && (rng a2 0 9 && rng 1 1 8)))) = true
              rw [k2, k3]
              decide
            have hd : ∀ j, j < l.length → impl_ShadeDistance.f (l.getD j z30).f0 (l.getD j z30).f1 (l.getD j z30).f2 (l.getD j z30).f3 (l.getD j z30).f4 1 (⟨#[97]⟩ : ByteArray) a1 a2 1 = some (disV a1 a2 (l.getD j z30), true) := fun j hj => by
              have := impl_dist (l.getD j z30) ⟨1, (⟨#[97]⟩ : ByteArray), a1, a2, 1⟩
              rw [if_pos (c3 j hj), if_pos hask] at this
              exact this
            have e0 : ∀ j : Nat, rd_T30 l (j : Int) = l.getD j z30 := fun _ => rfl
            rw [hv] at hn
            refine Ev.step (f := fun k => laws_FnShadeCards.l1 k l0 l v.1 true (i : Int) 0 1 (⟨#[97]⟩ : ByteArray) a1 a2 1) (fun k => by rw [laws_FnShadeCards.j2, if_pos rfl]) ?_
            refine Ev.upto (fun k p => laws_FnShadeCards.l1 k l0 l v.1 true (i : Int) p 1 (⟨#[97]⟩ : ByteArray) a1 a2 1) true l.length ?_ ?_
            · exact Ev.step (fun k => by rw [laws_FnShadeCards.l1, if_neg (by omega), wrap_id ((i : Int) + 1) (by omega) (by omega)]) hn
            · intro p hp hh
              refine Ev.step (fun k => ?_) hh
              rw [laws_FnShadeCards.l1, if_pos (by omega), if_pos (by omega), if_pos (by omega), e0, hd i hi, Option.bind_some, if_pos (by omega), e0, hd p hp, Option.bind_some]
              dsimp only
              rw [if_pos rfl, if_pos rfl, wrap_id ((p : Int) + 1) (by omega) (by omega)]
              by_cases ce : (l.getD i z30).f0 = v.1
              · rw [if_pos ce, if_neg (k4 i p hi hp ce)]
              · rw [if_neg ce]
      unfold laws_FnShadeCards.f laws_rBig.f
      simp only [Option.bind_some, decide_eq_false hb, Bool.false_eq_true, if_false]
      refine Ev.bind d1 ?_
      simp only [n1, Option.bind_some]
      refine Ev.bind n2 ?_
      simp only [eq_self_iff_true, if_true, bne_self_eq_false]
      exact Ev.step (fun k => by rw [laws_FnShadeCards.j0, if_neg Bool.false_ne_true]) hloop
    obtain ⟨K, hK⟩ := fin
    exact ⟨K, hK K (Nat.le_refl _)⟩
end Go.Proofs.YtedjeeicpppplaaDoor.Pure
