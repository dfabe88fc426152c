/- The plain law of FnLoomChoice: what the program's functions compute is what the reference's compute. No program and no memory in it. -/
import Derived.Test.YtplhkmeoeojinaaZ04Hx6
import Derived.Test.YtplhkmeoeojinaaZ04Lps
namespace Go.Proofs.Ytplhkmeoeojinaa.Pure
open Go.RowKit Go.Proofs.YtplhkmeoeojinaaW.PrintWords Go.Proofs.YtplhkmeoeojinaaW.PrintLast Go.Proofs.Ytplhkmeoeojinaa.H
set_option linter.unusedVariables false
set_option linter.unusedSimpArgs false
theorem l1In_eq (a b c : Int) : spec_l1In.f a b c = some (rng a b c) := spec_l1In.eq a b c
theorem in_eq (a b c : Int) : impl_in.f a b c = some (rng a b c) := impl_in.eq a b c
abbrev LM := S56
def stLm (b c d e : Int) : Bool := if e = 0 then (decide (c = 0) && (d == 0)) else if e = 1 ∨ e = 2 then (rng c 10 (wrap64 (12 * b)) && decide (d ≥ 50)) else (e == 3)
def okLm (x : LM) : Bool := rng x.f0 1 99 && (rng x.f1 30 600 && (rng x.f2 0 4000 && (rng x.f3 0 500 && stLm x.f1 x.f2 x.f3 x.f4)))
theorem stLm_cases (b c d e : Int) : (if e = 0 then (if c = 0 then (some (d == 0)) else (some false)) else (if e = 1 then (if rng c 10 (wrap64 (12 * b)) = true then (some (decide (d ≥ 50))) else (some false)) else (if e = 2 then (if rng c 10 (wrap64 (12 * b)) = true then (some (decide (d ≥ 50))) else (some false)) else (some (e == 3))))) = some (stLm b c d e) := by
  unfold stLm
  by_cases h0 : e = 0
  · rw [if_pos h0, if_pos h0]
    by_cases hc : c = 0
    · simp [hc]
    · simp [hc]
  · rw [if_neg h0, if_neg h0]
    by_cases h1 : e = 1
    · rw [if_pos h1, if_pos (show e = 1 ∨ e = 2 from .inl h1)]
      cases rng c 10 (wrap64 (12 * b)) <;> rfl
    · rw [if_neg h1]
      by_cases h2 : e = 2
      · rw [if_pos h2, if_pos (show e = 1 ∨ e = 2 from .inr h2)]
        cases rng c 10 (wrap64 (12 * b)) <;> rfl
      · rw [if_neg h2, if_neg (by omega)]
theorem IsLoom_eq (k : Nat) (x : LM) : impl_IsLoom.f (k + 1) x.f0 x.f1 x.f2 x.f3 x.f4 = some (okLm x) := by
  have j : ∀ b : Bool, impl_IsLoom.j0 (k + 1) b x.f0 x.f1 x.f2 x.f3 x.f4 = some (!b && stLm x.f1 x.f2 x.f3 x.f4) := fun b => by
    rw [impl_IsLoom.j0]
    simp only [in_eq, Option.bind_some]
    rw [stLm_cases]
    cases b <;> rfl
  unfold impl_IsLoom.f impl_isId.f impl_isWide.f okLm
  simp only [in_eq, Option.bind_some, j]
  cases rng x.f0 1 99 <;> cases rng x.f1 30 600 <;> cases rng x.f2 0 4000 <;> cases rng x.f3 0 500 <;> rfl
theorem l5One_eq (k : Nat) (x : LM) : spec_l5One.f (k + 1) x.f0 x.f1 x.f2 x.f3 x.f4 = some (okLm x) := by
  have j : ∀ b : Bool, spec_l5One.j0 (k + 1) b x.f0 x.f1 x.f2 x.f3 x.f4 = some (!b && stLm x.f1 x.f2 x.f3 x.f4) := fun b => by
    rw [spec_l5One.j0]
    simp only [l1In_eq, Option.bind_some]
    rw [stLm_cases]
    cases b <;> rfl
  unfold spec_l5One.f spec_l5Wide.f okLm
  simp only [l1In_eq, Option.bind_some, j]
  cases rng x.f0 1 99 <;> cases rng x.f1 30 600 <;> cases rng x.f2 0 4000 <;> cases rng x.f3 0 500 <;> rfl
def goodL (t : List LM) (i : Nat) : Bool := okLm (t.getD i z56) && (decide (i = 0) || decide ((t.getD (i - 1) z56).f0 < (t.getD i z56).f0))
def okLooms (t : List LM) : Bool := (List.range t.length).all (goodL t) && decide ((t.length : Int) ≤ 8)
theorem l5Good_ev (t : List LM) (hl : t.length ≤ 1000000) : Ev (fun k => spec_l5Good.f k t) (okLooms t) := by
  unfold spec_l5Good.f okLooms
  have one : ∀ i : Nat, Ev (fun k => spec_l5One.f k (rd_T56 t (i : Int)).f0 (rd_T56 t (i : Int)).f1 (rd_T56 t (i : Int)).f2 (rd_T56 t (i : Int)).f3 (rd_T56 t (i : Int)).f4) (okLm (t.getD i z56)) := fun i =>
    ⟨1, fun k hk => by obtain ⟨m, rfl⟩ : ∃ m, k = m + 1 := ⟨k - 1, by omega⟩; exact l5One_eq m _⟩
  refine Ev.scan (fun k i => spec_l5Good.l0 k t i) t.length (goodL t) _ (Ev.step (f := fun _ => some (decide ((t.length : Int) ≤ 8))) (fun k => by rw [spec_l5Good.l0, if_neg (by omega)]) (Ev.now _)) ?_ ?_
  · intro i hi hg
    refine Ev.step (fun k => by rw [spec_l5Good.l0, if_pos (by omega), if_pos (by omega)]) (Ev.bind (one i) ?_)
    unfold goodL at hg
    cases hok : okLm (t.getD i z56) with
    | false => simp only [Bool.false_eq_true, if_false]; exact Ev.now _
    | true =>
      rw [hok, Bool.true_and, Bool.or_eq_false_iff, decide_eq_false_iff_not, decide_eq_false_iff_not] at hg
      have e1 : wrap64 ((i : Int) - 1) = ((i - 1 : Nat) : Int) := by rw [wrap_id _ (by omega) (by omega)]; omega
      have e2 : rd_T56 t ((i - 1 : Nat) : Int) = t.getD (i - 1) z56 := rfl
      have e3 : rd_T56 t (i : Int) = t.getD i z56 := rfl
      simp only [if_true, if_pos (show (i : Int) > 0 by omega), e1, e2, e3, if_pos (show 0 ≤ ((i - 1 : Nat) : Int) by omega), if_pos (show ((i - 1 : Nat) : Int) < (t.length : Int) by omega), if_pos (show (t.getD (i - 1) z56).f0 ≥ (t.getD i z56).f0 by omega)]
      exact Ev.now _
  · intro i r hi hg h
    refine Ev.step (fun k => by rw [spec_l5Good.l0, if_pos (by omega), if_pos (by omega)]) (Ev.bind (one i) ?_)
    unfold goodL at hg
    rw [Bool.and_eq_true, Bool.or_eq_true, decide_eq_true_iff, decide_eq_true_iff] at hg
    simp only [hg.1, if_true]
    by_cases h0 : i = 0
    · subst h0
      simp only [if_neg (show ¬ ((0 : Nat) : Int) > 0 by omega)]
      rw [wrap_id _ (by omega) (by omega)]
      exact h
    · have e1 : wrap64 ((i : Int) - 1) = ((i - 1 : Nat) : Int) := by rw [wrap_id _ (by omega) (by omega)]; omega
      have e2 : rd_T56 t ((i - 1 : Nat) : Int) = t.getD (i - 1) z56 := rfl
      have e3 : rd_T56 t (i : Int) = t.getD i z56 := rfl
      have h4 : ¬ (t.getD (i - 1) z56).f0 ≥ (t.getD i z56).f0 := by have := hg.2.resolve_left h0; omega
      simp only [if_pos (show (i : Int) > 0 by omega), e1, e2, e3, if_pos (show 0 ≤ ((i - 1 : Nat) : Int) by omega), if_pos (show ((i - 1 : Nat) : Int) < (t.length : Int) by omega), if_neg h4]
      rw [wrap_id ((i : Int) + 1) (by omega) (by omega)]
      exact h
theorem AreLooms_eq (t : List LM) : impl_AreLooms.f t = some (okLooms t) := by
  unfold impl_AreLooms.f okLooms
  congr 1
  have ep : (fun x : LM => (impl_IsLoomT.f x.f0 x.f1 x.f2 x.f3 x.f4).getD false) = okLm := by
    funext x
    unfold impl_IsLoomT.f
    rw [IsLoom_eq]
    rfl
  rw [ep]
  simp only [impl_AreLooms_1.f, Option.getD_some]
  rw [Bool.eq_iff_iff]
  simp only [Bool.and_eq_true, decide_eq_true_iff]
  rw [all_getD z56, asc_iff _ z56, all_range]
  unfold goodL
  simp only [Bool.and_eq_true, Bool.or_eq_true, decide_eq_true_iff]
  constructor
  · rintro ⟨h1, h2, h3⟩
    refine ⟨fun i hi => ⟨h2 i hi, ?_⟩, h1⟩
    by_cases h0 : i = 0
    · exact .inl h0
    · have := h3 (i - 1) (by omega)
      rw [Nat.sub_add_cancel (by omega)] at this
      exact .inr this
  · rintro ⟨h1, h2⟩
    refine ⟨h2, fun i hi => (h1 i hi).1, fun i hi => ?_⟩
    have := (h1 (i + 1) (by omega)).2.resolve_left (by omega)
    rw [Nat.add_sub_cancel] at this
    exact this
theorem okLooms_iff (t : List LM) (h : okLooms t = true) : t.length ≤ 8 ∧ (∀ i, i < t.length → okLm (t.getD i z56) = true) ∧ ∀ i j, i < j → j < t.length → (t.getD i z56).f0 < (t.getD j z56).f0 := by
  unfold okLooms at h
  rw [Bool.and_eq_true, all_range, decide_eq_true_iff] at h
  obtain ⟨h1, h2⟩ := h
  refine ⟨by omega, fun i hi => ?_, fun i j hij hj => ?_⟩
  · have := h1 i hi
    unfold goodL at this
    rw [Bool.and_eq_true] at this
    exact this.1
  · have step : ∀ m, m + 1 < t.length → (t.getD m z56).f0 < (t.getD (m + 1) z56).f0 := fun m hm => by
      have := h1 (m + 1) hm
      unfold goodL at this
      rw [Bool.and_eq_true, Bool.or_eq_true, decide_eq_true_iff, decide_eq_true_iff, Nat.add_sub_cancel] at this
      exact this.2.resolve_left (by omega)
    have key : ∀ d, i + 1 + d < t.length → (t.getD i z56).f0 < (t.getD (i + 1 + d) z56).f0 := by
      intro d
      induction d with
      | zero => exact fun hd => step i hd
      | succ d ih =>
        intro hd
        have a := ih (by omega)
        have b := step (i + 1 + d) (by omega)
        rw [show i + 1 + (d + 1) = i + 1 + d + 1 by omega]
        omega
    have := key (j - i - 1) (by omega)
    rw [show i + 1 + (j - i - 1) = j by omega] at this
    exact this
def stateIs (id a b : Int) (x : LM) : Bool := decide (x.f0 = id) && (decide (x.f4 = a) || decide (x.f4 = b))
def fndL (t : List LM) (id a b : Int) : Int := if okLooms t = true then findI (stateIs id a b) t else -1
theorem findLoom_eq (t : List LM) (id : Int) : impl_findLoom.f t id = some (if okLooms t = true then findI (fun x => decide (x.f0 = id)) t else -1) := by
  unfold impl_findLoom.f
  rw [AreLooms_eq]
  rfl
theorem l5Find_ev (t : List LM) (hl : t.length ≤ 1000000) (id a b : Int) : Ev (fun k => spec_l5Find.f k t id a b) (fndL t id a b) := by
  unfold spec_l5Find.f fndL
  have hg := l5Good_ev t hl
  have key : ∀ d i : Nat, i + d = t.length → (∀ j, j < i → stateIs id a b (t.getD j z56) = false) → Ev (fun k => spec_l5Find.l0 k t id a b (i : Int)) (if okLooms t = true then findI (stateIs id a b) t else -1) := by
    intro d
    induction d with
    | zero =>
      intro i hi hno
      have e : findI (stateIs id a b) t = -1 := findI_miss _ z56 t (fun j hj => hno j (by omega))
      have e2 : (if okLooms t = true then findI (stateIs id a b) t else -1) = -1 := by rw [e]; split <;> rfl
      rw [e2]
      exact Ev.step (fun k => by rw [spec_l5Find.l0, if_neg (by omega)]) (Ev.step (f := fun _ => some (-1)) (fun k => by rw [spec_l5Find.j1, if_neg (by decide)]) (Ev.now _))
    | succ d ih =>
      intro i hi hno
      refine Ev.step (fun k => by rw [spec_l5Find.l0, if_pos (by omega)]) (Ev.bind hg ?_)
      cases hk : okLooms t with
      | false =>
        simp only [Bool.false_eq_true, if_false]
        exact Ev.step (f := fun _ => some (-1)) (fun k => by rw [spec_l5Find.j1, if_neg (by decide)]) (Ev.now _)
      | true =>
        have e0 : rd_T56 t (i : Int) = t.getD i z56 := rfl
        simp only [hk, if_true] at ih ⊢
        cases hs : stateIs id a b (t.getD i z56) with
        | true =>
          have e : findI (stateIs id a b) t = (i : Int) := findI_hit _ z56 t i (by omega) hno hs
          rw [e]
          unfold stateIs at hs
          rw [Bool.and_eq_true, Bool.or_eq_true, decide_eq_true_iff, decide_eq_true_iff, decide_eq_true_iff] at hs
          refine Ev.step (f := fun _ => some (i : Int)) (fun k => ?_) (Ev.now _)
          rw [spec_l5Find.j1, if_pos rfl, if_pos (by omega), if_pos (by omega), e0, if_pos hs.1]
          by_cases ha : (t.getD i z56).f4 = a
          · rw [if_pos ha]
          · rw [if_neg ha, if_pos (hs.2.resolve_left ha)]
        | false =>
          have G := ih (i + 1) (by omega) (fun j hj => by
            by_cases e : j = i
            · rw [e]; exact hs
            · exact hno j (by omega))
          rw [show ((i + 1 : Nat) : Int) = (i : Int) + 1 by omega] at G
          unfold stateIs at hs
          refine Ev.step (fun k => ?_) G
          rw [spec_l5Find.j1, if_pos rfl, if_pos (by omega), if_pos (by omega), e0, wrap_id ((i : Int) + 1) (by omega) (by omega)]
          by_cases h0 : (t.getD i z56).f0 = id
          · rw [if_pos h0]
            rw [decide_eq_true h0, Bool.true_and, Bool.or_eq_false_iff, decide_eq_false_iff_not, decide_eq_false_iff_not] at hs
            rw [if_neg hs.1, if_neg hs.2]
          · rw [if_neg h0]
  exact key t.length 0 (by omega) (fun j hj => absurd hj (by omega))
theorem find_cases (t : List LM) (id : Int) : (okLooms t = true ∧ ∃ i : Nat, i < t.length ∧ (t.getD i z56).f0 = id ∧ okLm (t.getD i z56) = true ∧ t.length ≤ 8 ∧ impl_findLoom.f t id = some (i : Int) ∧ ∀ a b, fndL t id a b = if (t.getD i z56).f4 = a ∨ (t.getD i z56).f4 = b then (i : Int) else -1) ∨
    (impl_findLoom.f t id = some (-1) ∧ (∀ a b, fndL t id a b = -1) ∧ (okLooms t = true → ∀ j, j < t.length → (t.getD j z56).f0 ≠ id)) := by
  rw [findLoom_eq]
  unfold fndL
  cases hk : okLooms t with
  | false => exact .inr ⟨rfl, fun _ _ => rfl, fun h => by cases h⟩
  | true =>
    obtain ⟨h8, hok, hasc⟩ := okLooms_iff t hk
    by_cases hex : ∃ i, i < t.length ∧ (t.getD i z56).f0 = id
    · obtain ⟨i, hi, he⟩ := hex
      have hne : ∀ j, j < t.length → j ≠ i → (t.getD j z56).f0 ≠ id := fun j hj hji => by
        rcases Nat.lt_or_gt_of_ne hji with h | h
        · have := hasc j i h hi; omega
        · have := hasc i j h hj; omega
      refine .inl ⟨rfl, i, hi, he, hok i hi, h8, ?_, fun a b => ?_⟩
      · rw [if_pos rfl, findI_hit _ z56 t i hi (fun j hj => decide_eq_false (hne j (by omega) (by omega))) (decide_eq_true he)]
      · rw [if_pos rfl]
        by_cases hst : (t.getD i z56).f4 = a ∨ (t.getD i z56).f4 = b
        · rw [if_pos hst]
          refine findI_hit _ z56 t i hi (fun j hj => ?_) ?_
          · unfold stateIs
            rw [decide_eq_false (hne j (by omega) (by omega)), Bool.false_and]
          · unfold stateIs
            rw [decide_eq_true he, Bool.true_and, Bool.or_eq_true, decide_eq_true_iff, decide_eq_true_iff]
            exact hst
        · rw [if_neg hst]
          refine findI_miss _ z56 t (fun j hj => ?_)
          unfold stateIs
          by_cases hji : j = i
          · subst hji
            rw [decide_eq_false (fun h => hst (.inl h)), decide_eq_false (fun h => hst (.inr h))]
            simp
          · rw [decide_eq_false (hne j hj hji), Bool.false_and]
    · refine .inr ⟨?_, fun a b => ?_, fun _ j hj h => hex ⟨j, hj, h⟩⟩
      · rw [if_pos rfl, findI_miss _ z56 t (fun j hj => decide_eq_false (fun h => hex ⟨j, hj, h⟩))]
      · rw [if_pos rfl]
        refine findI_miss _ z56 t (fun j hj => ?_)
        unfold stateIs
        rw [decide_eq_false (fun h => hex ⟨j, hj, h⟩), Bool.false_and]
def withL (t : List LM) (i : Nat) (x : LM) : List LM × Bool := if okLooms (t.set i x) = true then (t.set i x, true) else ([], false)
theorem withL_len (t : List LM) (i : Nat) (x : LM) : (withL t i x).1.length ≤ t.length := by unfold withL; split <;> simp
theorem withLoom_eq (t : List LM) (i : Nat) (hi : i < t.length) (h8 : t.length ≤ 8) (a b c d e : Int) : impl_withLoom.f t (i : Int) a b c d e = some (withL t i ⟨a, b, c, d, e⟩) := by
  unfold impl_withLoom.f slices_Clone_lm.f withL
  rw [if_pos (by omega), Option.bind_some, if_pos (by omega), if_pos (by omega), Option.bind_some, AreLooms_eq, Option.bind_some, Int.toNat_natCast]
  split <;> rfl
theorem l5With_ev (t : List LM) (i : Nat) (hi : i < t.length) (h8 : t.length ≤ 8) (a b c d e : Int) : Ev (fun k => spec_l5With.f k t (i : Int) a b c d e) (withL t i ⟨a, b, c, d, e⟩) := by
  unfold spec_l5With.f withL
  simp only [Option.bind_some, List.nil_append, List.length_nil]
  rw [Int.toNat_natCast]
  simp only [if_pos (show 0 + t.length < 3518437208883 by omega), if_pos (show (0 : Int) ≤ (i : Int) by omega), if_pos (show (i : Int) < (t.length : Int) by omega)]
  refine Ev.bind (l5Good_ev _ (by rw [List.length_set]; omega)) ?_
  cases okLooms (t.set i ⟨a, b, c, d, e⟩) <;> exact Ev.now _
theorem okLm_iff (x : LM) (h : okLm x = true) : (1 ≤ x.f0 ∧ x.f0 ≤ 99) ∧ (30 ≤ x.f1 ∧ x.f1 ≤ 600) ∧ (0 ≤ x.f2 ∧ x.f2 ≤ 4000) ∧ (0 ≤ x.f3 ∧ x.f3 ≤ 500) ∧ (x.f4 = 0 ∨ x.f4 = 1 ∨ x.f4 = 2 ∨ x.f4 = 3) ∧ (x.f4 = 2 → 50 ≤ x.f3) := by
  unfold okLm at h
  simp only [Bool.and_eq_true, rng_iff] at h
  obtain ⟨h0, h1, h2, h3, h4⟩ := h
  refine ⟨h0, h1, h2, h3, ?_, ?_⟩
  · unfold stLm at h4
    by_cases c0 : x.f4 = 0
    · exact .inl c0
    · by_cases c1 : x.f4 = 1
      · exact .inr (.inl c1)
      · by_cases c2 : x.f4 = 2
        · exact .inr (.inr (.inl c2))
        · rw [if_neg c0, if_neg (by omega), beq_iff_eq] at h4
          exact .inr (.inr (.inr h4))
  · intro c2
    unfold stLm at h4
    rw [if_neg (by omega), if_pos (.inr c2), Bool.and_eq_true, decide_eq_true_iff] at h4
    exact h4.2
theorem rdL (t : List LM) (i : Nat) : rd_T56 t (i : Int) = t.getD i z56 := rfl
theorem cmpW_neg (a b : Int) : cmpW a b < 0 ↔ a < b := by
  unfold cmpW
  split
  · constructor
    · intro _; assumption
    · intro _; decide
  · split
    · constructor
      · intro h; exact absurd h (by decide)
      · intro h; omega
    · constructor
      · intro h; exact absurd h (by decide)
      · intro h; omega
def stepM (of : LM → LM → Int) (acc : Option LM) (x : LM) : Option LM := match acc with | none => some x | some m => if of x m < 0 then some x else some m
def elig (a : Int) (x : LM) : Bool := decide (x.f4 = 0) && decide (x.f1 ≥ a)
def pickB (of : LM → LM → Int) (a : Int) (t : List LM) : Option LM := (t.filter (elig a)).foldl (stepM of) none
def idOf : Option LM → Int | none => 0 | some m => m.f0
theorem getD_get (t : List LM) (i : Nat) (hi : i < t.length) : t[i] = t.getD i z56 := by
  rw [List.getD_eq_getElem?_getD, List.getElem?_eq_getElem hi]
  rfl
theorem minTo_fold (of : LM → LM → Int) (xs : List LM) : ∀ i, i < xs.length → (xs.take (i + 1)).foldl (stepM of) none = some (minTo_lm of xs i) := by
  intro i
  induction i with
  | zero =>
    intro h
    rw [List.take_succ_eq_append_getElem h, getD_get xs 0 h]
    rfl
  | succ i ih =>
    intro h
    rw [List.take_succ_eq_append_getElem h, List.foldl_append, ih (by omega), getD_get xs (i + 1) h]
    have e : stepM of (some (minTo_lm of xs i)) (xs.getD (i + 1) z56) = if of (xs.getD (i + 1) z56) (minTo_lm of xs i) < 0 then some (xs.getD (i + 1) z56) else some (minTo_lm of xs i) := rfl
    show stepM of (some _) _ = _
    rw [e, minTo_lm]
    by_cases c : of (xs.getD (i + 1) z56) (minTo_lm of xs i) < 0
    · rw [if_pos c, if_pos c]
    · rw [if_neg c, if_neg c]
theorem pickB_min (of : LM → LM → Int) (a : Int) (t : List LM) (h : 0 < (t.filter (elig a)).length) : pickB of a t = some (minTo_lm of (t.filter (elig a)) ((t.filter (elig a)).length - 1)) := by
  have e := minTo_fold of (t.filter (elig a)) ((t.filter (elig a)).length - 1) (by omega)
  rw [List.take_of_length_le (by omega)] at e
  exact e
theorem pickB_snoc (of : LM → LM → Int) (a : Int) (t : List LM) (i : Nat) (hi : i < t.length) : pickB of a (t.take (i + 1)) = if elig a (t.getD i z56) = true then stepM of (pickB of a (t.take i)) (t.getD i z56) else pickB of a (t.take i) := by
  unfold pickB
  rw [List.take_succ_eq_append_getElem hi, List.filter_append, List.foldl_append, getD_get t i hi]
  by_cases c : elig a (t.getD i z56) = true
  · rw [if_pos c, List.filter_cons_of_pos c]
    rfl
  · rw [if_neg c, List.filter_cons_of_neg c]
    rfl
theorem pickB_spec (of : LM → LM → Int) (key : LM → Int) (hof : ∀ x m, of x m < 0 ↔ key x < key m) (a : Int) (t : List LM) : ∀ n, n ≤ t.length → (pickB of a (t.take n) = none ∧ ∀ i, i < n → elig a (t.getD i z56) = false) ∨
    ∃ j, j < n ∧ pickB of a (t.take n) = some (t.getD j z56) ∧ elig a (t.getD j z56) = true ∧ ∀ i, i < n → elig a (t.getD i z56) = true → key (t.getD j z56) ≤ key (t.getD i z56) := by
  intro n
  induction n with
  | zero => intro _; exact .inl ⟨rfl, fun i hi => absurd hi (by omega)⟩
  | succ n ih =>
    intro hn
    rw [pickB_snoc of a t n (by omega)]
    by_cases c : elig a (t.getD n z56) = true
    · rw [if_pos c]
      rcases ih (by omega) with ⟨h1, h2⟩ | ⟨j, hj, h1, h2, h3⟩
      · rw [h1]
        refine .inr ⟨n, by omega, rfl, c, fun i hi he => ?_⟩
        by_cases e : i = n
        · subst e; exact Int.le_refl _
        · rw [h2 i (by omega)] at he; cases he
      · rw [h1]
        by_cases d : of (t.getD n z56) (t.getD j z56) < 0
        · have d2 := (hof _ _).1 d
          refine .inr ⟨n, by omega, by unfold stepM; simp only [if_pos d], c, fun i hi he => ?_⟩
          by_cases e : i = n
          · subst e; exact Int.le_refl _
          · have := h3 i (by omega) he; omega
        · have d2 : ¬ key (t.getD n z56) < key (t.getD j z56) := fun h => d ((hof _ _).2 h)
          refine .inr ⟨j, by omega, by unfold stepM; simp only [if_neg d], h2, fun i hi he => ?_⟩
          by_cases e : i = n
          · subst e; omega
          · exact h3 i (by omega) he
    · rw [if_neg c]
      simp only [Bool.not_eq_true] at c
      rcases ih (by omega) with ⟨h1, h2⟩ | ⟨j, hj, h1, h2, h3⟩
      · refine .inl ⟨h1, fun i hi => ?_⟩
        by_cases e : i = n
        · subst e; exact c
        · exact h2 i (by omega)
      · refine .inr ⟨j, by omega, h1, h2, fun i hi he => ?_⟩
        by_cases e : i = n
        · subst e; rw [c] at he; cases he
        · exact h3 i (by omega) he
theorem freeLooms_ev (t : List LM) (hl : t.length ≤ 1000000) (a : Int) : Ev (fun k => impl_freeLooms.f k t a) (t.filter (elig a)) := by
  unfold impl_freeLooms.f
  obtain ⟨r, hr, h⟩ := Ev.loopE (fun k i (s : List LM) => impl_freeLooms.l0 k a s t (t.length : Int) i) t.length (fun i s => s = (t.take i).filter (elig a)) (fun s => s = t.filter (elig a))
    (fun s hs => ⟨s, by rw [List.take_length] at hs; exact hs, Ev.step (f := fun _ => some s) (fun k => by rw [impl_freeLooms.l0, if_neg (by omega)]) (Ev.now _)⟩)
    (fun i s hi hs => by
      have e0 : rd_T56 t (i : Int) = t.getD i z56 := rfl
      have hlen : s.length < 3518437208883 := by
        rw [hs]
        have := List.length_filter_le (elig a) (t.take i)
        rw [List.length_take] at this
        omega
      have e1 : (t.take (i + 1)).filter (elig a) = s ++ [t.getD i z56].filter (elig a) := by rw [List.take_succ_eq_append_getElem hi, List.filter_append, getD_get t i hi, hs]
      by_cases c1 : (t.getD i z56).f4 = 0
      · by_cases c2 : (t.getD i z56).f1 ≥ a
        · have c : elig a (t.getD i z56) = true := by unfold elig; rw [decide_eq_true c1, decide_eq_true c2]; rfl
          rw [List.filter_cons_of_pos c] at e1
          exact ⟨s ++ [t.getD i z56], e1.symm, fun r h => Ev.step (fun k => by
            rw [impl_freeLooms.l0, if_pos (by omega), if_pos (by omega), if_pos (by omega), e0, if_pos c1, if_pos c2, if_pos hlen, wrap_id ((i : Int) + 1) (by omega) (by omega)]) h⟩
        · have c : ¬ elig a (t.getD i z56) = true := by unfold elig; rw [decide_eq_false c2, Bool.and_false]; decide
          rw [List.filter_cons_of_neg c, List.filter_nil, List.append_nil] at e1
          exact ⟨s, e1.symm, fun r h => Ev.step (fun k => by
            rw [impl_freeLooms.l0, if_pos (by omega), if_pos (by omega), if_pos (by omega), e0, if_pos c1, if_neg c2, wrap_id ((i : Int) + 1) (by omega) (by omega)]) h⟩
      · have c : ¬ elig a (t.getD i z56) = true := by unfold elig; rw [decide_eq_false c1, Bool.false_and]; decide
        rw [List.filter_cons_of_neg c, List.filter_nil, List.append_nil] at e1
        exact ⟨s, e1.symm, fun r h => Ev.step (fun k => by
          rw [impl_freeLooms.l0, if_pos (by omega), if_pos (by omega), if_pos (by omega), e0, if_neg c1, wrap_id ((i : Int) + 1) (by omega) (by omega)]) h⟩) [] (by simp)
  subst hr
  exact h
def ofB (wd : Bool) (x y : LM) : Int := if wd = true then cmpW y.f1 x.f1 else cmpW x.f1 y.f1
theorem l5Best_ev (t : List LM) (hl : t.length ≤ 1000000) (a : Int) (wd : Bool) : Ev (fun k => spec_l5Best.f k t a wd) (idOf (pickB (ofB wd) a t)) := by
  unfold spec_l5Best.f
  obtain ⟨r, hr, h⟩ := Ev.loopE (fun k i (b : Int) => spec_l5Best.l0 k t a wd b i) t.length (fun i b => (b = -1 ∧ pickB (ofB wd) a (t.take i) = none) ∨ ∃ j : Nat, b = (j : Int) ∧ j < t.length ∧ pickB (ofB wd) a (t.take i) = some (t.getD j z56)) (fun r => r = idOf (pickB (ofB wd) a t))
    (fun b hb => by
      rw [List.take_length] at hb
      rcases hb with ⟨rfl, hp⟩ | ⟨j, rfl, hj, hp⟩
      · exact ⟨0, by rw [hp]; rfl, Ev.step (f := fun _ => some 0) (fun k => by rw [spec_l5Best.l0, if_neg (by omega), if_pos (by decide)]) (Ev.now _)⟩
      · exact ⟨(t.getD j z56).f0, by rw [hp]; rfl, Ev.step (f := fun _ => some (t.getD j z56).f0) (fun k => by rw [spec_l5Best.l0, if_neg (by omega), if_neg (by omega), if_pos (by omega), if_pos (by omega), rdL]) (Ev.now _)⟩)
    (fun i b hi hb => by
      have e1 := pickB_snoc (ofB wd) a t i hi
      have w1 : wrap64 ((i : Int) + 1) = (i : Int) + 1 := wrap_id _ (by omega) (by omega)
      by_cases c1 : (t.getD i z56).f4 = 0
      · by_cases c2 : (t.getD i z56).f1 ≥ a
        · have c : elig a (t.getD i z56) = true := by unfold elig; rw [decide_eq_true c1, decide_eq_true c2]; rfl
          rw [if_pos c] at e1
          rcases hb with ⟨rfl, hp⟩ | ⟨j, rfl, hj, hp⟩
          · rw [hp] at e1
            exact ⟨(i : Int), .inr ⟨i, rfl, hi, e1⟩, fun r h => Ev.step (fun k => by
              rw [spec_l5Best.l0, if_pos (by omega), if_pos (by omega), rdL, if_pos c1, if_pos c2, if_pos (by decide), w1]) h⟩
          · rw [hp] at e1
            have e2 : stepM (ofB wd) (some (t.getD j z56)) (t.getD i z56) = if ofB wd (t.getD i z56) (t.getD j z56) < 0 then some (t.getD i z56) else some (t.getD j z56) := rfl
            rw [e2] at e1
            cases wd with
            | true =>
              have hof : ofB true (t.getD i z56) (t.getD j z56) < 0 ↔ (t.getD i z56).f1 > (t.getD j z56).f1 := cmpW_neg _ _
              by_cases d : (t.getD i z56).f1 > (t.getD j z56).f1
              · rw [if_pos (hof.2 d)] at e1
                exact ⟨(i : Int), .inr ⟨i, rfl, hi, e1⟩, fun r h => Ev.step (fun k => by
                  rw [spec_l5Best.l0, if_pos (by omega), if_pos (by omega), rdL, if_pos c1, if_pos c2, if_neg (by omega), if_pos rfl, if_pos (by omega), if_pos (by omega), rdL, if_pos d, w1]) h⟩
              · rw [if_neg (fun h => d (hof.1 h))] at e1
                exact ⟨(j : Int), .inr ⟨j, rfl, hj, e1⟩, fun r h => Ev.step (fun k => by
                  rw [spec_l5Best.l0, if_pos (by omega), if_pos (by omega), rdL, if_pos c1, if_pos c2, if_neg (by omega), if_pos rfl, if_pos (by omega), if_pos (by omega), rdL, if_neg d, w1]) h⟩
            | false =>
              have hof : ofB false (t.getD i z56) (t.getD j z56) < 0 ↔ (t.getD i z56).f1 < (t.getD j z56).f1 := cmpW_neg _ _
              by_cases d : (t.getD i z56).f1 < (t.getD j z56).f1
              · rw [if_pos (hof.2 d)] at e1
                exact ⟨(i : Int), .inr ⟨i, rfl, hi, e1⟩, fun r h => Ev.step (fun k => by
                  rw [spec_l5Best.l0, if_pos (by omega), if_pos (by omega), rdL, if_pos c1, if_pos c2, if_neg (by omega), if_neg (by decide), if_pos (by omega), if_pos (by omega), rdL, if_pos d, w1]) h⟩
              · rw [if_neg (fun h => d (hof.1 h))] at e1
                exact ⟨(j : Int), .inr ⟨j, rfl, hj, e1⟩, fun r h => Ev.step (fun k => by
                  rw [spec_l5Best.l0, if_pos (by omega), if_pos (by omega), rdL, if_pos c1, if_pos c2, if_neg (by omega), if_neg (by decide), if_pos (by omega), if_pos (by omega), rdL, if_neg d, w1]) h⟩
        · have c : ¬ elig a (t.getD i z56) = true := by unfold elig; rw [decide_eq_false c2, Bool.and_false]; decide
          rw [if_neg c] at e1
          exact ⟨b, by rw [e1]; exact hb, fun r h => Ev.step (fun k => by rw [spec_l5Best.l0, if_pos (by omega), if_pos (by omega), rdL, if_pos c1, if_neg c2, w1]) h⟩
      · have c : ¬ elig a (t.getD i z56) = true := by unfold elig; rw [decide_eq_false c1, Bool.false_and]; decide
        rw [if_neg c] at e1
        exact ⟨b, by rw [e1]; exact hb, fun r h => Ev.step (fun k => by rw [spec_l5Best.l0, if_pos (by omega), if_pos (by omega), rdL, if_neg c1, w1]) h⟩) (-1) (.inl ⟨rfl, rfl⟩)
  subst hr
  exact h
theorem elig_30 (t : List LM) (h : okLooms t = true) : t.filter (elig 30) = t.filter (elig 0) := by
  obtain ⟨_, hk, _⟩ := okLooms_iff t h
  refine List.filter_congr (fun x hx => ?_)
  obtain ⟨i, hi, rfl⟩ := List.getElem_of_mem hx
  have := (okLm_iff _ (hk i hi)).2.1
  rw [getD_get t i hi]
  unfold elig
  rw [decide_eq_true (show (t.getD i z56).f1 ≥ 30 by omega), decide_eq_true (show (t.getD i z56).f1 ≥ 0 by omega)]
theorem id_pos (of : LM → LM → Int) (key : LM → Int) (hof : ∀ x m, of x m < 0 ↔ key x < key m) (a : Int) (t : List LM) (h : okLooms t = true) (h0 : 0 < (t.filter (elig a)).length) : idOf (pickB of a t) > 0 := by
  obtain ⟨_, hk, _⟩ := okLooms_iff t h
  have e := pickB_min of a t h0
  have s := pickB_spec of key hof a t t.length (Nat.le_refl _)
  rw [List.take_length] at s
  rcases s with ⟨h1, _⟩ | ⟨j, hj, h1, _⟩
  · rw [h1] at e; cases e
  · rw [h1]
    have := (okLm_iff _ (hk j hj)).1
    show (t.getD j z56).f0 > 0
    omega
theorem pick_none (of : LM → LM → Int) (a : Int) (t : List LM) (h0 : ¬ 0 < (t.filter (elig a)).length) : pickB of a t = none := by
  unfold pickB
  rw [List.eq_nil_of_length_eq_zero (show (t.filter (elig a)).length = 0 by omega)]
  rfl
theorem LoomFor_same (t : List LM) (hl : t.length ≤ 1000000) (a : Int) : ∃ r : Int × Bool, Ev (fun k => spec_LoomFor.f k t a) r ∧ Ev (fun k => impl_LoomFor.f k t a) r ∧ (r.2 = true → okLooms t = true ∧ 30 ≤ a ∧ 0 < (t.filter (elig a)).length ∧ r.1 = idOf (pickB (ofB false) a t)) := by
  have g := l5Good_ev t hl
  have fr := freeLooms_ev t hl a
  have b := l5Best_ev t hl a false
  have hof : ∀ x m : LM, ofB false x m < 0 ↔ x.f1 < m.f1 := fun x m => cmpW_neg _ _
  unfold spec_LoomFor.f impl_LoomFor.f
  simp only [AreLooms_eq, Option.bind_some, impl_isWide.f, spec_l5Wide.f, in_eq, l1In_eq]
  cases hk : okLooms t with
  | false =>
    rw [hk] at g
    exact ⟨(0, false), Ev.bind g (by simp only [Bool.false_eq_true, if_false]; exact Ev.now _), Ev.bind fr (by simp only [Bool.false_eq_true, if_false]; exact Ev.now _), fun h => by cases h⟩
  | true =>
    rw [hk] at g
    cases hw : rng a 30 600 with
    | false => exact ⟨(0, false), Ev.bind g (by simp only [Bool.false_eq_true, if_true, if_false]; exact Ev.now _), Ev.bind fr (by simp only [Bool.false_eq_true, if_true, if_false]; exact Ev.now _), fun h => by cases h⟩
    | true =>
      have ha := (rng_iff _ _ _).1 hw
      by_cases h0 : 0 < (t.filter (elig a)).length
      · have hid := id_pos (ofB false) (fun x => x.f1) hof a t hk h0
        refine ⟨(idOf (pickB (ofB false) a t), true), Ev.bind g ?_, Ev.bind fr ?_, fun _ => ⟨rfl, ha.1, h0, rfl⟩⟩
        · simp only [if_true]
          refine Ev.bind b ?_
          simp only [decide_eq_true hid]
          exact Ev.now _
        · simp only [if_true, if_neg (show ¬ ((t.filter (elig a)).length : Int) = 0 by omega)]
          unfold MinFunc_impl_LoomFor_1.f
          rw [if_pos h0, pickB_min (ofB false) a t h0]
          exact Ev.now _
      · have hp := pick_none (ofB false) a t h0
        rw [hp] at b
        refine ⟨(0, false), Ev.bind g ?_, Ev.bind fr ?_, fun h => by cases h⟩
        · simp only [if_true]
          exact Ev.bind b (Ev.now _)
        · simp only [if_true, if_pos (show ((t.filter (elig a)).length : Int) = 0 by omega)]
          exact Ev.now _
theorem WidestFree_same (t : List LM) (hl : t.length ≤ 1000000) : ∃ r : Int × Bool, Ev (fun k => spec_WidestFree.f k t) r ∧ Ev (fun k => impl_WidestFree.f k t) r ∧ (okLooms t = true → 0 < (t.filter (elig 0)).length → r = (idOf (pickB (ofB true) 0 t), true)) := by
  have g := l5Good_ev t hl
  have fr := freeLooms_ev t hl 0
  have b := l5Best_ev t hl 30 true
  have hof : ∀ x m : LM, ofB true x m < 0 ↔ -x.f1 < -m.f1 := fun x m => by
    rw [show ofB true x m = cmpW m.f1 x.f1 from rfl, cmpW_neg]
    omega
  unfold spec_WidestFree.f impl_WidestFree.f
  simp only [AreLooms_eq, Option.bind_some]
  cases hk : okLooms t with
  | false =>
    rw [hk] at g
    exact ⟨(0, false), Ev.bind g (by simp only [Bool.false_eq_true, if_false]; exact Ev.now _), Ev.bind fr (by simp only [Bool.false_eq_true, if_false]; exact Ev.now _), fun h => by cases h⟩
  | true =>
    rw [hk] at g
    have e30 : pickB (ofB true) 30 t = pickB (ofB true) 0 t := by unfold pickB; rw [elig_30 t hk]
    rw [e30] at b
    by_cases h0 : 0 < (t.filter (elig 0)).length
    · have hid := id_pos (ofB true) (fun x => -x.f1) hof 0 t hk h0
      refine ⟨(idOf (pickB (ofB true) 0 t), true), Ev.bind g ?_, Ev.bind fr ?_, fun _ _ => rfl⟩
      · simp only [if_true]
        refine Ev.bind b ?_
        simp only [decide_eq_true hid]
        exact Ev.now _
      · simp only [if_true, if_neg (show ¬ ((t.filter (elig 0)).length : Int) = 0 by omega)]
        unfold MinFunc_impl_WidestFree_1.f
        rw [if_pos h0, pickB_min (ofB true) 0 t h0]
        exact Ev.now _
    · have hp := pick_none (ofB true) 0 t h0
      rw [hp] at b
      refine ⟨(0, false), Ev.bind g ?_, Ev.bind fr ?_, fun _ h => absurd h h0⟩
      · simp only [if_true]
        exact Ev.bind b (Ev.now _)
      · simp only [if_true, if_pos (show ((t.filter (elig 0)).length : Int) = 0 by omega)]
        exact Ev.now _
theorem Tighten_same (t : List LM) (hl : t.length ≤ 1000000) (id pull : Int) : ∃ r : List LM × Bool, r.1.length ≤ t.length ∧ Ev (fun k => spec_TightenLoom.f k t id pull) r ∧ impl_TightenLoom.f t id pull = some r ∧ ∀ j, j < r.1.length → (t.getD j z56).f3 ≤ (r.1.getD j z56).f3 := by
  have F := l5Find_ev t hl id 1 2
  have st : ∀ a b c d e : Int, impl_Loom_isStretched.f a b c d e = some (decide (e = 1 ∨ e = 2)) := fun a b c d e => by
    unfold impl_Loom_isStretched.f
    by_cases h1 : e = 1
    · rw [if_pos h1, decide_eq_true (.inl h1)]
    · rw [if_neg h1]
      by_cases h2 : e = 2
      · rw [decide_eq_true (.inr h2), beq_iff_eq.2 h2]
      · rw [decide_eq_false (by omega), beq_eq_false_iff_ne.2 h2]
  unfold spec_TightenLoom.f impl_TightenLoom.f
  rcases find_cases t id with ⟨hk, i, hi, he, hok, h8, hf, hfd⟩ | ⟨hf, hfd, _⟩
  · rw [hf, Option.bind_some, if_neg (by omega), if_pos (by omega), if_pos (by omega), rdL, st, Option.bind_some]
    rw [hfd] at F
    by_cases c : (t.getD i z56).f4 = 1 ∨ (t.getD i z56).f4 = 2
    · rw [if_pos c] at F
      rw [decide_eq_true c, if_pos rfl]
      by_cases d : pull < (t.getD i z56).f3
      · rw [if_pos d]
        refine ⟨_, by simp, Ev.bind F ?_, rfl, fun j hj => absurd hj (by simp)⟩
        simp only [if_neg (show ¬ (i : Int) < 0 by omega), if_pos (show 0 ≤ (i : Int) by omega), if_pos (show (i : Int) < (t.length : Int) by omega), if_pos (show pull < (rd_T56 t (i : Int)).f3 from d)]
        exact Ev.now _
      · rw [if_neg d, withLoom_eq t i hi h8, Option.bind_some]
        refine ⟨_, withL_len t i _, Ev.bind F ?_, rfl, fun j hj => ?_⟩
        · simp only [if_neg (show ¬ (i : Int) < 0 by omega), if_pos (show 0 ≤ (i : Int) by omega), if_pos (show (i : Int) < (t.length : Int) by omega), if_neg (show ¬ pull < (rd_T56 t (i : Int)).f3 from d)]
          exact Ev.bind (l5With_ev t i hi h8 _ _ _ _ _) (Ev.now _)
        · unfold withL at hj ⊢
          split at hj
          · rename_i hg
            rw [if_pos hg]
            dsimp only at hj ⊢
            rw [List.length_set] at hj
            rw [List.getD_eq_getElem?_getD (l := t.set i _), List.getElem?_set]
            by_cases e : i = j
            · subst e
              rw [if_pos rfl, if_pos hi]
              show _ ≤ pull
              omega
            · rw [if_neg e, ← List.getD_eq_getElem?_getD]
              exact Int.le_refl _
          · exact absurd hj (by simp)
    · rw [if_neg c] at F
      rw [decide_eq_false c, if_neg (by decide)]
      refine ⟨_, by simp, Ev.bind F ?_, rfl, fun j hj => absurd hj (by simp)⟩
      simp only [if_pos (show (-1 : Int) < 0 by decide)]
      exact Ev.now _
  · rw [hf, Option.bind_some, if_pos (by decide)]
    rw [hfd] at F
    refine ⟨_, by simp, Ev.bind F ?_, rfl, fun j hj => absurd hj (by simp)⟩
    simp only [if_pos (show (-1 : Int) < 0 by decide)]
    exact Ev.now _
theorem Warp_same (t : List LM) (hl : t.length ≤ 1000000) (id a b : Int) : ∃ r : List LM × Bool, r.1.length ≤ t.length ∧ Ev (fun k => spec_WarpLoom.f k t id a b) r ∧ impl_WarpLoom.f t id a b = some r := by
  have F := l5Find_ev t hl id 0 0
  unfold spec_WarpLoom.f impl_WarpLoom.f
  rcases find_cases t id with ⟨hk, i, hi, he, hok, h8, hf, hfd⟩ | ⟨hf, hfd, _⟩
  · rw [hf, Option.bind_some, if_neg (by omega), if_pos (by omega), if_pos (by omega), rdL]
    rw [hfd] at F
    by_cases c : (t.getD i z56).f4 = 0
    · rw [if_pos (.inl c)] at F
      rw [if_pos c, withLoom_eq t i hi h8, Option.bind_some, he]
      refine ⟨_, withL_len t i _, Ev.bind F ?_, rfl⟩
      simp only [if_neg (show ¬ (i : Int) < 0 by omega), if_pos (show 0 ≤ (i : Int) by omega), if_pos (show (i : Int) < (t.length : Int) by omega), rdL]
      exact Ev.bind (l5With_ev t i hi h8 _ _ _ _ _) (Ev.now _)
    · rw [if_neg (by omega)] at F
      rw [if_neg c]
      refine ⟨_, by simp, Ev.bind F ?_, rfl⟩
      simp only [if_pos (show (-1 : Int) < 0 by decide)]
      exact Ev.now _
  · rw [hf, Option.bind_some, if_pos (by decide)]
    rw [hfd] at F
    refine ⟨_, by simp, Ev.bind F ?_, rfl⟩
    simp only [if_pos (show (-1 : Int) < 0 by decide)]
    exact Ev.now _
theorem low8 (y : Int) : 0 ≤ Go.bits .and .u64 y 255 ∧ Go.bits .and .u64 y 255 ≤ 255 := by
  have h : ((BitVec.ofInt 64 y) &&& (BitVec.ofInt 64 255)).toNat ≤ 255 := by
    rw [BitVec.toNat_and]
    exact Nat.le_trans Nat.and_le_right (by decide)
  have e : Go.bits .and .u64 y 255 = IntKind.u64.wrap ((((BitVec.ofInt 64 y) &&& (BitVec.ofInt 64 255)).toNat : Nat) : Int) := rfl
  have e2 : ∀ n : Nat, n ≤ 255 → IntKind.u64.wrap (n : Int) = (n : Int) := fun n hn => by
    show (n : Int) % 18446744073709551616 = (n : Int)
    omega
  rw [e, e2 _ h]
  omega
def codeOk (code : List Int) : Prop := code.length ≤ 70000 ∧ ∀ i : Int, 0 ≤ rd code i ∧ rd code i ≤ 255
theorem codeOk_of (code : List Int) (hl : code.length ≤ 70000) (h : ∀ x ∈ code, (Lit.int .u8 x).wf = true) : codeOk code := by
  refine ⟨hl, fun i => ?_⟩
  unfold rd
  rw [List.getD_eq_getElem?_getD]
  by_cases c : i.toNat < code.length
  · rw [List.getElem?_eq_getElem c]
    have := h _ (List.getElem_mem c)
    have h3 : (decide (IntKind.u8.min ≤ code[i.toNat]) && decide (code[i.toNat] ≤ IntKind.u8.max)) = true := this
    rw [Bool.and_eq_true, decide_eq_true_iff, decide_eq_true_iff, show IntKind.u8.min = 0 by decide, show IntKind.u8.max = 255 by decide] at h3
    exact h3
  · rw [List.getElem?_eq_none (by omega)]
    exact ⟨by decide, by decide⟩
theorem next_ok (code : List Int) (hc : codeOk code) (at_ seed : Int) (h0 : 0 ≤ at_) (h1 : at_ ≤ 1000000) : ∃ x s, spec_l1Cur_next.f code at_ seed = some (x, at_ + 1, s) ∧ 0 ≤ x ∧ x ≤ 255 := by
  have hw : wrap64 (at_ + 1) = at_ + 1 := wrap_id _ (by omega) (by omega)
  have hb := hc.2 at_
  unfold spec_l1Cur_next.f
  rw [hw]
  by_cases c : at_ < (code.length : Int)
  · rw [if_pos c, if_pos h0, if_pos (by omega)]
    exact ⟨_, _, rfl, by rw [wrap_id _ (by omega) (by omega)]; exact hb⟩
  · rw [if_neg c, if_neg (by omega)]
    refine ⟨_, _, rfl, ?_⟩
    have := low8 ((IntKind.u64.wrap ((IntKind.u64.wrap ((IntKind.u64.wrap (seed * 6364136223846793005)))) + 102323)) / 1099511627776)
    rw [wrap_id _ (by omega) (by omega)]
    exact this
theorem pick_ok (code : List Int) (hc : codeOk code) (at_ seed n : Int) (h0 : 0 ≤ at_) (h1 : at_ ≤ 900000) (hn : n ≤ 1000000) : ∃ x a s, spec_l1Cur_pick.f code at_ seed n = some (x, a, s) ∧ 0 ≤ x ∧ (x < n ∨ x = 0) ∧ at_ ≤ a ∧ a ≤ at_ + 2 := by
  unfold spec_l1Cur_pick.f
  by_cases c : n ≤ 1
  · exact ⟨0, at_, seed, by rw [if_pos c], by omega, .inr rfl, by omega, by omega⟩
  · rw [if_neg c]
    obtain ⟨x, s, e, x0, x1⟩ := next_ok code hc at_ seed h0 (by omega)
    rw [e, Option.bind_some]
    dsimp only
    by_cases c2 : n > 200
    · rw [if_pos c2]
      obtain ⟨y, s2, e2, y0, y1⟩ := next_ok code hc (at_ + 1) s (by omega) (by omega)
      rw [e2, Option.bind_some, if_neg (by omega)]
      dsimp only
      rw [wrap_id (x * 256) (by omega) (by omega), wrap_id (x * 256 + y) (by omega) (by omega)]
      exact ⟨_, _, _, rfl, Int.tmod_nonneg _ (by omega), .inl (Int.tmod_lt_of_pos _ (by omega)), by omega, by omega⟩
    · rw [if_neg c2, if_neg (by omega)]
      exact ⟨_, _, _, rfl, Int.tmod_nonneg _ x0, .inl (Int.tmod_lt_of_pos _ (by omega)), by omega, by omega⟩
theorem among_ok (code : List Int) (hc : codeOk code) (at_ seed : Int) (l : List Int) (hl : 0 < l.length ∧ l.length ≤ 1000) (h0 : 0 ≤ at_) (h1 : at_ ≤ 900000) : ∃ x a s, spec_l1Cur_among.f code at_ seed l = some (x, a, s) ∧ x ∈ l ∧ at_ ≤ a ∧ a ≤ at_ + 2 := by
  unfold spec_l1Cur_among.f
  obtain ⟨x, a, s, e, x0, x1, a0, a1⟩ := pick_ok code hc at_ seed (l.length : Int) h0 h1 (by omega)
  rw [e, Option.bind_some]
  dsimp only
  have hx : x < (l.length : Int) := by omega
  rw [if_pos x0, if_pos hx]
  refine ⟨_, a, s, rfl, ?_, a0, a1⟩
  show l.getD x.toNat 0 ∈ l
  rw [List.getD_eq_getElem?_getD, List.getElem?_eq_getElem (by omega)]
  exact List.getElem_mem (by omega)
theorem one_ok (code : List Int) (hc : codeOk code) (at_ seed n : Int) (h0 : 0 ≤ at_) (h1 : at_ ≤ 900000) (hn : n ≤ 1000000) : ∃ x a s, spec_l1Cur_one.f code at_ seed n = some (x, a, s) ∧ at_ ≤ a ∧ a ≤ at_ + 2 := by
  unfold spec_l1Cur_one.f
  obtain ⟨x, a, s, e, _, _, a0, a1⟩ := pick_ok code hc at_ seed n h0 h1 hn
  rw [e, Option.bind_some]
  exact ⟨_, a, s, rfl, a0, a1⟩
theorem cut_ok (code : List Int) (hc : codeOk code) (at_ seed : Int) (y : List Int) (b : Int) (hb : 1 ≤ b ∧ b + 2 ≤ (y.length : Int)) (hy : y.length ≤ 1000) (h0 : 0 ≤ at_) (h1 : at_ ≤ 800000) : ∃ x a s v c t, spec_l1Cur_pick.f code at_ seed 24 = some (x, a, s) ∧ wrap64 (b + wrap64 (Int.tdiv x 11)) = c ∧ 0 ≤ c ∧ c ≤ (y.length : Int) ∧ (∃ a2, spec_l1Cur_among.f code a s (y.take c.toNat) = some (v, a2, t) ∧ at_ ≤ a2 ∧ a2 ≤ at_ + 4) := by
  obtain ⟨x, a, s, e, x0, x1, a0, a1⟩ := pick_ok code hc at_ seed 24 h0 (by omega) (by omega)
  have hd0 : 0 ≤ Int.tdiv x 11 := Int.tdiv_nonneg x0 (by decide)
  have hd1 : Int.tdiv x 11 ≤ 2 := by
    rw [Int.tdiv_eq_ediv_of_nonneg x0]
    omega
  have ew : wrap64 (b + wrap64 (Int.tdiv x 11)) = b + Int.tdiv x 11 := by
    rw [wrap_id (Int.tdiv x 11) (by omega) (by omega), wrap_id _ (by omega) (by omega)]
  have hlen : (y.take (b + Int.tdiv x 11).toNat).length = (b + Int.tdiv x 11).toNat := by rw [List.length_take]; omega
  obtain ⟨v, a2, t, e2, _, b0, b1⟩ := among_ok code hc a s (y.take (b + Int.tdiv x 11).toNat) ⟨by omega, by omega⟩ (by omega) (by omega)
  exact ⟨x, a, s, v, b + Int.tdiv x 11, t, e, ew, by omega, by omega, a2, e2, by omega, by omega⟩
theorem loom_j0 (code : List Int) (hc : codeOk code) (at_ seed : Int) (a b c d e : Int) (h0 : 0 ≤ at_) (h1 : at_ ≤ 800000) : ∃ a' b' c' d' e' p s, (at_ ≤ p ∧ p ≤ at_ + 4) ∧ Ev (fun k => spec_l1Cur_loom.j0 k code at_ seed a b c d e) (a', b', c', d', e', p, s) := by
  obtain ⟨x, q, s, f, x0, x1, q0, q1⟩ := pick_ok code hc at_ seed 70 h0 (by omega) (by omega)
  obtain ⟨y0, p0, s0, e0, _, u0, v0⟩ := among_ok code hc q s [0, 99, 100] (by decide) (by omega) (by omega)
  obtain ⟨y1, p1, s1, e1, _, u1, v1⟩ := among_ok code hc q s [29, 601] (by decide) (by omega) (by omega)
  obtain ⟨y2, p2, s2, e2, _, u2, v2⟩ := among_ok code hc q s [(-1), 9, 361, 4000, 4001] (by decide) (by omega) (by omega)
  obtain ⟨y3, p3, s3, e3, _, u3, v3⟩ := among_ok code hc q s [(-1), 0, 49, 501] (by decide) (by omega) (by omega)
  obtain ⟨y4, p4, s4, e4, _, u4, v4⟩ := among_ok code hc q s [(-1), 0, 4] (by decide) (by omega) (by omega)
  by_cases c0 : x = 0
  · exact ⟨_, _, _, _, _, p0, s0, ⟨by omega, by omega⟩, Ev.step (f := fun _ => some (y0, b, c, d, e, p0, s0)) (fun k => by rw [spec_l1Cur_loom.j0, f, Option.bind_some]; dsimp only; rw [if_pos c0, e0]; rfl) (Ev.now _)⟩
  · by_cases c1 : x = 1
    · exact ⟨_, _, _, _, _, p1, s1, ⟨by omega, by omega⟩, Ev.step (f := fun _ => some (a, y1, c, d, e, p1, s1)) (fun k => by rw [spec_l1Cur_loom.j0, f, Option.bind_some]; dsimp only; rw [if_neg c0, if_pos c1, e1]; rfl) (Ev.now _)⟩
    · by_cases c2 : x = 2
      · exact ⟨_, _, _, _, _, p2, s2, ⟨by omega, by omega⟩, Ev.step (f := fun _ => some (a, b, y2, d, e, p2, s2)) (fun k => by rw [spec_l1Cur_loom.j0, f, Option.bind_some]; dsimp only; rw [if_neg c0, if_neg c1, if_pos c2, e2]; rfl) (Ev.now _)⟩
      · by_cases c3 : x = 3
        · exact ⟨_, _, _, _, _, p3, s3, ⟨by omega, by omega⟩, Ev.step (f := fun _ => some (a, b, c, y3, e, p3, s3)) (fun k => by rw [spec_l1Cur_loom.j0, f, Option.bind_some]; dsimp only; rw [if_neg c0, if_neg c1, if_neg c2, if_pos c3, e3]; rfl) (Ev.now _)⟩
        · by_cases c4 : x = 4
          · exact ⟨_, _, _, _, _, p4, s4, ⟨by omega, by omega⟩, Ev.step (f := fun _ => some (a, b, c, d, y4, p4, s4)) (fun k => by rw [spec_l1Cur_loom.j0, f, Option.bind_some]; dsimp only; rw [if_neg c0, if_neg c1, if_neg c2, if_neg c3, if_pos c4, e4]; rfl) (Ev.now _)⟩
          · exact ⟨_, _, _, _, _, q, s, ⟨by omega, by omega⟩, Ev.step (f := fun _ => some (a, b, c, d, e, q, s)) (fun k => by rw [spec_l1Cur_loom.j0, f, Option.bind_some]; dsimp only; rw [if_neg c0, if_neg c1, if_neg c2, if_neg c3, if_neg c4]) (Ev.now _)⟩
theorem least_eq (a b : Int) : spec_l1Least.f a b = some (if a < b then a else b) := by
  unfold spec_l1Least.f
  split <;> rfl
theorem loom_ok (code : List Int) (hc : codeOk code) (at_ seed id : Int) (h0 : 0 ≤ at_) (h1 : at_ ≤ 700000) : ∃ a b c d e p s, (at_ ≤ p ∧ p ≤ at_ + 12) ∧ Ev (fun k => spec_l1Cur_loom.f k code at_ seed id) (a, b, c, d, e, p, s) := by
  obtain ⟨w, p1, s1, e1, _, u1, v1⟩ := among_ok code hc at_ seed [30, 120, 120, 300, 600] (by decide) h0 (by omega)
  obtain ⟨t, p2, s2, e2, _, u2, v2⟩ := among_ok code hc p1 s1 [0, 0, 1, 2, 2, 3] (by decide) (by omega) (by omega)
  unfold spec_l1Cur_loom.f
  simp only [e1, e2, Option.bind_some]
  by_cases c0 : t = 0
  · obtain ⟨a', b', c', d', e', p, s, hp, h⟩ := loom_j0 code hc p2 s2 id w 0 0 t (by omega) (by omega)
    simp only [if_pos c0]
    exact ⟨a', b', c', d', e', p, s, ⟨by omega, by omega⟩, h⟩
  · obtain ⟨x3, p3, s3, e3, _, u3, v3⟩ := among_ok code hc p2 s2 [10, 200, 360, 400] (by decide) (by omega) (by omega)
    obtain ⟨x4, p4, s4, e4, _, u4, v4⟩ := among_ok code hc p3 s3 [50, 52, 53, 110, 200, 500] (by decide) (by omega) (by omega)
    obtain ⟨a', b', c', d', e', p, s, hp, h⟩ := loom_j0 code hc p4 s4 id w (if x3 < wrap64 (12 * w) then x3 else wrap64 (12 * w)) x4 t (by omega) (by omega)
    simp only [if_neg c0, e3, e4, least_eq, Option.bind_some]
    exact ⟨a', b', c', d', e', p, s, ⟨by omega, by omega⟩, h⟩
theorem looms_l1 (code : List Int) (hc : codeOk code) (d : Nat) : ∀ (xs : List LM) (id at_ seed : Int), xs.length ≤ 20 → 9 ≤ xs.length + d → 0 ≤ at_ → at_ + 10 * (d : Int) ≤ 500000 → ∃ (ys : List LM) (p s : Int), ys.length ≤ 20 ∧ (at_ ≤ p ∧ p ≤ at_ + 10 * (d : Int) + 10) ∧ Ev (fun k => spec_l1Cur_looms5.l1 k xs id code at_ seed) (ys, p, s) := by
  induction d with
  | zero =>
    intro xs id at_ seed hx h9 a0 a1
    obtain ⟨t, p, s, e, t0, t1, u, v⟩ := pick_ok code hc at_ seed 2 a0 (by omega) (by omega)
    refine ⟨xs, p, s, hx, ⟨by omega, by omega⟩, Ev.step (f := fun _ => some (xs, p, s)) (fun k => ?_) (Ev.now _)⟩
    rw [spec_l1Cur_looms5.l1, e, Option.bind_some]
    dsimp only
    rw [wrap_id (8 + t) (by omega) (by omega), if_neg (by omega)]
  | succ d ih =>
    intro xs id at_ seed hx h9 a0 a1
    obtain ⟨t, p, s, e, t0, t1, u, v⟩ := pick_ok code hc at_ seed 2 a0 (by omega) (by omega)
    by_cases c : (xs.length : Int) < 8 + t
    · obtain ⟨ys, p2, s2, g1, g2, g3⟩ := ih (xs ++ [⟨wrap64 (id + 1), 100, 0, 0, 0⟩]) (wrap64 (id + 1)) p s (by rw [List.length_append, List.length_singleton]; omega) (by rw [List.length_append, List.length_singleton]; omega) (by omega) (by omega)
      refine ⟨ys, p2, s2, g1, ⟨by omega, by omega⟩, Ev.step (fun k => ?_) g3⟩
      rw [spec_l1Cur_looms5.l1, e, Option.bind_some]
      dsimp only
      rw [wrap_id (8 + t) (by omega) (by omega), if_pos c, if_pos (by omega)]
    · refine ⟨xs, p, s, hx, ⟨by omega, by omega⟩, Ev.step (f := fun _ => some (xs, p, s)) (fun k => ?_) (Ev.now _)⟩
      rw [spec_l1Cur_looms5.l1, e, Option.bind_some]
      dsimp only
      rw [wrap_id (8 + t) (by omega) (by omega), if_neg c]
theorem looms_l0 (code : List Int) (hc : codeOk code) (n : Nat) : ∀ (xs : List LM) (id at_ seed : Int), xs.length + n ≤ 7 → 0 ≤ at_ → at_ + 20 * (n : Int) ≤ 1000 → ∃ (ys : List LM) (p s : Int), ys.length ≤ 20 ∧ (0 ≤ p ∧ p ≤ 2000) ∧ Ev (fun k => spec_l1Cur_looms5.l0 k xs id (n : Int) code at_ seed) (ys, p, s) := by
  induction n with
  | zero =>
    intro xs id at_ seed hx a0 a1
    obtain ⟨o, p, s, e, u, v⟩ := one_ok code hc at_ seed 24 a0 (by omega) (by omega)
    cases o with
    | true =>
      obtain ⟨ys, p2, s2, g1, g2, g3⟩ := looms_l1 code hc 9 xs id p s (by omega) (by omega) (by omega) (by omega)
      refine ⟨ys, p2, s2, g1, ⟨by omega, by omega⟩, Ev.step (fun k => ?_) g3⟩
      rw [spec_l1Cur_looms5.l0, if_neg (by omega), e, Option.bind_some]
      dsimp only
      rw [if_pos rfl]
    | false =>
      refine ⟨xs, p, s, by omega, ⟨by omega, by omega⟩, Ev.step (f := fun _ => some (xs, p, s)) (fun k => ?_) (Ev.now _)⟩
      rw [spec_l1Cur_looms5.l0, if_neg (by omega), e, Option.bind_some]
      dsimp only
      rw [if_neg (by decide)]
  | succ n ih =>
    intro xs id at_ seed hx a0 a1
    obtain ⟨x, p1, s1, e1, _, _, u1, v1⟩ := pick_ok code hc at_ seed 3 a0 (by omega) (by omega)
    obtain ⟨y, p2, s2, e2, _, _, u2, v2⟩ := pick_ok code hc p1 s1 80 (by omega) (by omega) (by omega)
    obtain ⟨a, b, c, d, e, p3, s3, hp, hl⟩ := loom_ok code hc p2 s2 (wrap64 ((wrap64 ((wrap64 (id + 1)) + x)) - (wrap64 (Int.tdiv y 79)))) (by omega) (by omega)
    obtain ⟨ys, p4, s4, g1, g2, g3⟩ := ih (xs ++ [⟨a, b, c, d, e⟩]) (wrap64 ((wrap64 ((wrap64 (id + 1)) + x)) - (wrap64 (Int.tdiv y 79)))) p3 s3 (by rw [List.length_append, List.length_singleton]; omega) (by omega) (by omega)
    refine ⟨ys, p4, s4, g1, g2, Ev.step (fun k => by rw [spec_l1Cur_looms5.l0, if_pos (by omega), e1, Option.bind_some]; dsimp only; rw [e2, Option.bind_some]) (Ev.bind hl ?_)⟩
    have en : ((n + 1 : Nat) : Int) - 1 = (n : Int) := by omega
    simp only [if_pos (show xs.length < 3518437208883 by omega)]
    rw [wrap_id (((n + 1 : Nat) : Int) - 1) (by omega) (by omega), en]
    exact g3
theorem looms_ok (code : List Int) (hc : codeOk code) : ∃ (l : List LM) (p s : Int), l.length ≤ 20 ∧ (0 ≤ p ∧ p ≤ 2000) ∧ Ev (fun k => spec_l1Cur_looms5.f k code 0 0) (l, p, s) := by
  obtain ⟨n, p, s, e, n0, n1, u, v⟩ := pick_ok code hc 0 0 7 (by omega) (by omega) (by omega)
  obtain ⟨m, rfl⟩ := Int.eq_ofNat_of_zero_le n0
  obtain ⟨l, p2, s2, g1, g2, g3⟩ := looms_l0 code hc m [] 0 p s (by simp; omega) (by omega) (by omega)
  refine ⟨l, p2, s2, g1, g2, ?_⟩
  unfold spec_l1Cur_looms5.f
  simp only [e, Option.bind_some]
  exact g3
theorem loomId_l0 (code : List Int) (hc : codeOk code) (l : List LM) (st : Int) (hl : l.length ≤ 20) (d : Nat) : ∀ (i : Nat) (xs : List Int) (at_ seed : Int), i + d = l.length → xs.length ≤ i → 0 ≤ at_ → at_ + 4 * (d : Int) ≤ 500000 → ∃ v p s : Int, (at_ ≤ p ∧ p ≤ at_ + 4 * (d : Int) + 4) ∧ Ev (fun k => spec_l1Cur_loomId.l0 k l st xs (i : Int) code at_ seed) (v, p, s) := by
  induction d with
  | zero =>
    intro i xs at_ seed hi hx a0 a1
    by_cases c : (xs.length : Int) = 0
    · obtain ⟨v, p, s, e, _, u, w⟩ := among_ok code hc at_ seed [0, 1, 2, 50] (by decide) a0 (by omega)
      refine ⟨v, p, s, ⟨by omega, by omega⟩, Ev.step (f := fun _ => some (v, p, s)) (fun k => ?_) (Ev.now _)⟩
      rw [spec_l1Cur_loomId.l0, if_neg (by omega), if_pos c, e]
      rfl
    · obtain ⟨x, p, s, e, x0, x1, u, w⟩ := pick_ok code hc at_ seed (xs.length : Int) a0 (by omega) (by omega)
      refine ⟨rd xs x, p, s, ⟨by omega, by omega⟩, Ev.step (f := fun _ => some (rd xs x, p, s)) (fun k => ?_) (Ev.now _)⟩
      have hx2 : x < (xs.length : Int) := by omega
      rw [spec_l1Cur_loomId.l0, if_neg (by omega), if_neg c, e, Option.bind_some]
      dsimp only
      rw [if_pos x0, if_pos hx2]
  | succ d ih =>
    intro i xs at_ seed hi hx a0 a1
    have e1 : ((i + 1 : Nat) : Int) = (i : Int) + 1 := by omega
    by_cases c : (rd_T56 l (i : Int)).f4 = st
    · obtain ⟨v, p, s, g1, g2⟩ := ih (i + 1) (xs ++ [(rd_T56 l (i : Int)).f0]) at_ seed (by omega) (by rw [List.length_append, List.length_singleton]; omega) a0 (by omega)
      rw [e1] at g2
      refine ⟨v, p, s, ⟨by omega, by omega⟩, Ev.step (fun k => ?_) g2⟩
      rw [spec_l1Cur_loomId.l0, if_pos (by omega), if_pos (by omega), if_pos c, if_pos (by omega), wrap_id ((i : Int) + 1) (by omega) (by omega)]
    · obtain ⟨o, p1, s1, e, u, w⟩ := one_ok code hc at_ seed 6 a0 (by omega) (by omega)
      cases o with
      | true =>
        obtain ⟨v, p, s, g1, g2⟩ := ih (i + 1) (xs ++ [(rd_T56 l (i : Int)).f0]) p1 s1 (by omega) (by rw [List.length_append, List.length_singleton]; omega) (by omega) (by omega)
        rw [e1] at g2
        refine ⟨v, p, s, ⟨by omega, by omega⟩, Ev.step (fun k => ?_) g2⟩
        rw [spec_l1Cur_loomId.l0, if_pos (by omega), if_pos (by omega), if_neg c, e, Option.bind_some]
        dsimp only
        rw [if_pos rfl, if_pos (by omega), wrap_id ((i : Int) + 1) (by omega) (by omega)]
      | false =>
        obtain ⟨v, p, s, g1, g2⟩ := ih (i + 1) xs p1 s1 (by omega) (by omega) (by omega) (by omega)
        rw [e1] at g2
        refine ⟨v, p, s, ⟨by omega, by omega⟩, Ev.step (fun k => ?_) g2⟩
        rw [spec_l1Cur_loomId.l0, if_pos (by omega), if_pos (by omega), if_neg c, e, Option.bind_some]
        dsimp only
        rw [if_neg (by decide), wrap_id ((i : Int) + 1) (by omega) (by omega)]
theorem loomId_ok (code : List Int) (hc : codeOk code) (l : List LM) (st at_ seed : Int) (hl : l.length ≤ 20) (a0 : 0 ≤ at_) (a1 : at_ ≤ 400000) : ∃ v p s : Int, (at_ ≤ p ∧ p ≤ at_ + 100) ∧ Ev (fun k => spec_l1Cur_loomId.f k code at_ seed l st) (v, p, s) := by
  obtain ⟨v, p, s, g1, g2⟩ := loomId_l0 code hc l st hl l.length 0 [] at_ seed (by omega) (by simp) a0 (by omega)
  exact ⟨v, p, s, ⟨by omega, by omega⟩, g2⟩
theorem drawFor (code : List Int) (hc : codeOk code) : ∃ (l : List LM) (a : Int), l.length ≤ 20 ∧ Ev (fun k => spec_DrawLoomFor.f k code) (l, a) := by
  obtain ⟨l, p, s, h1, h2, h3⟩ := looms_ok code hc
  obtain ⟨x, a, s3, w, c, t, e1, e2, c0, c1, ⟨a2, e3, _⟩⟩ := cut_ok code hc p s [30, 100, 121, 600, 29, 601] 4 (by decide) (by decide) h2.1 (by omega)
  refine ⟨l, w, h1, ?_⟩
  unfold spec_DrawLoomFor.f
  refine Ev.bind h3 ?_
  simp only [Option.bind_some, e1, e2, if_pos c0, if_pos c1, e3]
  exact Ev.now _
theorem drawTighten (code : List Int) (hc : codeOk code) : ∃ (l : List LM) (id a : Int), l.length ≤ 20 ∧ Ev (fun k => spec_DrawTightenLoom.f k code) (l, id, a) := by
  obtain ⟨l, p, s, h1, h2, h3⟩ := looms_ok code hc
  obtain ⟨x0, p1, s1, f1, _, _, u, v⟩ := pick_ok code hc p s 2 h2.1 (by omega) (by omega)
  obtain ⟨q, p2, s2, g1, g2⟩ := loomId_ok code hc l (wrap64 (1 + x0)) p1 s1 h1 (by omega) (by omega)
  obtain ⟨x, a, s3, w, c, t, e1, e2, c0, c1, ⟨a2, e3, _⟩⟩ := cut_ok code hc p2 s2 [50, 53, 150, 500, 501, 49] 4 (by decide) (by decide) (by omega) (by omega)
  refine ⟨l, q, w, h1, ?_⟩
  unfold spec_DrawTightenLoom.f
  refine Ev.bind h3 ?_
  simp only [Option.bind_some, f1]
  refine Ev.bind g2 ?_
  simp only [Option.bind_some, e1, e2, if_pos c0, if_pos c1, e3]
  exact Ev.now _
theorem drawWarp (code : List Int) (hc : codeOk code) : ∃ (l : List LM) (id a b : Int), l.length ≤ 20 ∧ Ev (fun k => spec_DrawWarpLoom.f k code) (l, id, a, b) := by
  obtain ⟨l, p, s, h1, h2, h3⟩ := looms_ok code hc
  obtain ⟨q, p2, s2, g1, g2⟩ := loomId_ok code hc l 0 p s h1 h2.1 (by omega)
  obtain ⟨x, a, s3, w, c, t, e1, e2, c0, c1, ⟨a2, e3, u3, v3⟩⟩ := cut_ok code hc p2 s2 [10, 300, 360, 9, 4001] 3 (by decide) (by decide) (by omega) (by omega)
  obtain ⟨y, b, s4, w2, d, t2, f1, f2, d0, d1, ⟨b2, f3, _⟩⟩ := cut_ok code hc a2 t [50, 200, 500, 49, 501] 3 (by decide) (by decide) (by omega) (by omega)
  refine ⟨l, q, w, w2, h1, ?_⟩
  unfold spec_DrawWarpLoom.f
  refine Ev.bind h3 (Ev.bind g2 ?_)
  simp only [Option.bind_some, e1, e2, if_pos c0, if_pos c1, e3, f1, f2, if_pos d0, if_pos d1, f3]
  exact Ev.now _
theorem drawIs (code : List Int) (hc : codeOk code) : ∃ x : LM, Ev (fun k => spec_DrawIsLoom.f k code) (x.f0, x.f1, x.f2, x.f3, x.f4) := by
  obtain ⟨y, p, s, e, _, u, v⟩ := among_ok code hc 0 0 [1, 42, 99] (by decide) (by omega) (by omega)
  obtain ⟨a, b, c, d, e', q, r, hp, h⟩ := loom_ok code hc p s y (by omega) (by omega)
  refine ⟨⟨a, b, c, d, e'⟩, ?_⟩
  unfold spec_DrawIsLoom.f
  simp only [e, Option.bind_some]
  exact Ev.bind h (Ev.now _)
theorem choice_inner (l0 : List Int) (t : List LM) (ht : t.length ≤ 1000) (a x y : Int) (m n : Nat) (hm : m < t.length) (hn : n < t.length) (hx : x = (t.getD m z56).f0) (hy : y = (t.getD n z56).f0)
    (uniq : ∀ i j : Nat, i < t.length → j < t.length → (t.getD i z56).f0 = (t.getD j z56).f0 → i = j) (m3 : (t.getD m z56).f4 = 0) (m5 : ¬ (t.getD m z56).f1 < a) (m4 : ¬ (t.getD n z56).f1 < (t.getD m z56).f1)
    (i : Nat) (hi : i < t.length) (hnext : Ev (fun k => laws_FnLoomChoice.l0 k l0 t a x true y ((i : Int) + 1)) true) (d : Nat) : ∀ j : Nat, j + d = t.length → Ev (fun k => laws_FnLoomChoice.l1 k l0 t a x true y (i : Int) (j : Int)) true := by
  have hi0 : (0 : Int) ≤ (i : Int) := by omega
  have hi1 : (i : Int) < (t.length : Int) := by omega
  induction d with
  | zero =>
    intro j hj
    have e0 : ¬ (j : Int) < (t.length : Int) := by omega
    exact Ev.step (fun k => by rw [laws_FnLoomChoice.l1, if_neg e0, wrap_id ((i : Int) + 1) (by omega) (by omega)]) hnext
  | succ d ih =>
    intro j hj
    have G := ih (j + 1) (by omega)
    rw [show ((j + 1 : Nat) : Int) = (j : Int) + 1 by omega] at G
    have e0 : (j : Int) < (t.length : Int) := by omega
    have e1 : (0 : Int) ≤ (j : Int) := by omega
    have b0 : (-9223372036854775808 : Int) ≤ (j : Int) + 1 := by omega
    have b1 : (j : Int) + 1 ≤ 9223372036854775807 := by omega
    by_cases c1 : (t.getD i z56).f0 = x
    · have him : i = m := uniq i m hi hm (by rw [c1, hx])
      subst him
      by_cases c2 : (t.getD j z56).f0 = y
      · have hjn : j = n := uniq j n (by omega) hn (by rw [c2, hy])
        subst hjn
        exact Ev.step (fun k => by rw [laws_FnLoomChoice.l1, if_pos e0, if_pos hi0, if_pos hi1, rdL, if_pos c1, if_neg m5, if_pos m3, if_pos e1, rdL, if_pos c2, if_neg m4, wrap_id ((j : Int) + 1) b0 b1]) G
      · exact Ev.step (fun k => by rw [laws_FnLoomChoice.l1, if_pos e0, if_pos hi0, if_pos hi1, rdL, if_pos c1, if_neg m5, if_pos m3, if_pos e1, rdL, if_neg c2, wrap_id ((j : Int) + 1) b0 b1]) G
    · exact Ev.step (fun k => by rw [laws_FnLoomChoice.l1, if_pos e0, if_pos hi0, if_pos hi1, rdL, if_neg c1, wrap_id ((j : Int) + 1) b0 b1]) G
theorem rLooms_ev (l : List LM) (hl : l.length ≤ 1000) : Ev (fun k => laws_rLooms.f k l l) true := by
  refine Ev.congr (f := fun k => laws_rLooms.l0 k l l 0) (fun k => by unfold laws_rLooms.f; rw [if_pos rfl]) ?_
  obtain ⟨r, hr, h⟩ := Ev.loopE (fun k i (_ : Unit) => laws_rLooms.l0 k l l i) l.length (fun _ _ => True) (fun r => r = true)
    (fun s _ => ⟨true, rfl, Ev.step (f := fun _ => some true) (fun k => by rw [laws_rLooms.l0, if_neg (by omega)]) (Ev.now true)⟩)
    (fun i s hi _ => ⟨(), trivial, fun r h => Ev.step (fun k => by
      rw [laws_rLooms.l0, if_pos (by omega), if_pos (by omega), if_pos (by omega)]
      simp only [beq_self_eq_true, Bool.not_true, Bool.or_self, Bool.false_eq_true, if_false]
      rw [wrap_id _ (by omega) (by omega)]) h⟩) () trivial
  subst hr
  exact h
theorem FnLoomChoice (l0 : List (Int)) (q_l0 : (l0.length ≤ maxLen ∧ ∀ q ∈ l0, (Lit.int .u8 q).wf = true)) : ∃ k, laws_FnLoomChoice.f k l0 = some true := by
  by_cases hb : (l0.length : Int) > 65536
  · refine ⟨0, ?_⟩
    unfold laws_FnLoomChoice.f laws_rBig.f
    rw [Option.bind_some, decide_eq_true hb, if_pos rfl]
  · have hc : codeOk l0 := codeOk_of l0 (by omega) q_l0.2
    have fin : Ev (fun k => laws_FnLoomChoice.f k l0) true := by
      have j7 : Ev (fun k => laws_FnLoomChoice.j7 k l0 false) true := by
        obtain ⟨x, d1⟩ := drawIs l0 hc
        refine Ev.step (fun k => by rw [laws_FnLoomChoice.j7, if_neg (by decide)]) (Ev.bind d1 ?_)
        have e1 : Ev (fun k => impl_IsLoom.f k x.f0 x.f1 x.f2 x.f3 x.f4) (okLm x) := ⟨1, fun k hk => by obtain ⟨m, rfl⟩ : ∃ m, k = m + 1 := ⟨k - 1, by omega⟩; exact IsLoom_eq m x⟩
        have e2 : Ev (fun k => spec_IsLoom.f k x.f0 x.f1 x.f2 x.f3 x.f4) (okLm x) := ⟨1, fun k hk => by obtain ⟨m, rfl⟩ : ∃ m, k = m + 1 := ⟨k - 1, by omega⟩; unfold spec_IsLoom.f; dsimp only; rw [l5One_eq m x]; rfl⟩
        refine Ev.bind e1 (Ev.bind e2 ?_)
        simp only [beq_self_eq_true]
        exact Ev.now _
      have l2e : ∀ (t u : List LM), u.length ≤ t.length → u.length ≤ 20 → (∀ j, j < u.length → (t.getD j z56).f3 ≤ (u.getD j z56).f3) → ∀ d i : Nat, i + d = u.length → Ev (fun k => laws_FnLoomChoice.l2 k l0 t u (i : Int)) true := by
        intro t u htu hu hj d
        induction d with
        | zero =>
          intro i hi
          obtain ⟨l, id, a, b, h1, d1⟩ := drawWarp l0 hc
          obtain ⟨r, r0, s1, s2⟩ := Warp_same l (by omega) id a b
          refine Ev.step (fun k => by rw [laws_FnLoomChoice.l2, if_neg (by omega)]) (Ev.bind d1 ?_)
          simp only [s2, Option.bind_some]
          refine Ev.bind s1 ?_
          simp only [bne_self_eq_false, Bool.false_eq_true, if_false]
          exact Ev.bind (rLooms_ev r.1 (by omega)) j7
        | succ d ih =>
          intro i hi
          have G := ih (i + 1) (by omega)
          rw [show ((i + 1 : Nat) : Int) = (i : Int) + 1 by omega] at G
          have := hj i (by omega)
          exact Ev.step (fun k => by rw [laws_FnLoomChoice.l2, if_pos (by omega), if_pos (by omega), if_pos (by omega), rdL, rdL, if_neg (by omega), wrap_id ((i : Int) + 1) (by omega) (by omega)]) G
      have j3f : ∀ (t : List LM) (a b : Int) (o : Bool) (c i : Int), Ev (fun k => laws_FnLoomChoice.j3 k l0 t a b o c i false) true := by
        intro t a b o c i
        obtain ⟨l, id, q, h1, d1⟩ := drawTighten l0 hc
        obtain ⟨r, r0, s1, s2, hr⟩ := Tighten_same l (by omega) id q
        refine Ev.step (fun k => by rw [laws_FnLoomChoice.j3, if_neg (by decide)]) (Ev.bind d1 ?_)
        simp only [s2, Option.bind_some]
        refine Ev.bind s1 ?_
        simp only [bne_self_eq_false, Bool.false_eq_true, if_false]
        refine Ev.bind (rLooms_ev r.1 (by omega)) (Ev.step (fun k => by rw [laws_FnLoomChoice.j5, Bool.not_true, if_neg (by decide)]) ?_)
        exact l2e l r.1 r0 (by omega) hr r.1.length 0 (by omega)
      obtain ⟨t, a, h1, d1⟩ := drawFor l0 hc
      obtain ⟨r, s1, s2, hr⟩ := LoomFor_same t (by omega) a
      obtain ⟨q, u1, u2, hq⟩ := WidestFree_same t (by omega)
      have loopF : ∀ (b c : Int) (i : Nat), Ev (fun k => laws_FnLoomChoice.l0 k l0 t a b false c (i : Int)) true := by
        intro b c i
        refine Ev.step (f := fun k => laws_FnLoomChoice.j3 k l0 t a b false c (i : Int) false) (fun k => ?_) (j3f _ _ _ _ _ _)
        rw [laws_FnLoomChoice.l0]
        split <;> rfl
      have j1 : Ev (fun k => laws_FnLoomChoice.j1 k l0 t a r.1 r.2 q.1 false) true := by
        refine Ev.step (fun k => by rw [laws_FnLoomChoice.j1, if_neg (by decide)]) ?_
        cases ho : r.2 with
        | false => exact loopF _ _ 0
        | true =>
          obtain ⟨hk, ha, hf, hid⟩ := hr ho
          obtain ⟨h8, hokl, hasc⟩ := okLooms_iff t hk
          have h0 : 0 < (t.filter (elig 0)).length := by
            obtain ⟨x, hx⟩ := List.exists_mem_of_length_pos hf
            rw [List.mem_filter] at hx
            refine List.length_pos_of_mem (a := x) (List.mem_filter.2 ⟨hx.1, ?_⟩)
            have h2 := hx.2
            unfold elig at h2 ⊢
            rw [Bool.and_eq_true, decide_eq_true_iff, decide_eq_true_iff] at h2 ⊢
            exact ⟨h2.1, by omega⟩
          have hqe := hq hk h0
          have uniq : ∀ i j : Nat, i < t.length → j < t.length → (t.getD i z56).f0 = (t.getD j z56).f0 → i = j := by
            intro i j hi hj he
            rcases Nat.lt_trichotomy i j with h | h | h
            · have := hasc i j h hj; omega
            · exact h
            · have := hasc j i h hi; omega
          have hof : ∀ x m : LM, ofB false x m < 0 ↔ x.f1 < m.f1 := fun x m => cmpW_neg _ _
          have hof2 : ∀ x m : LM, ofB true x m < 0 ↔ -x.f1 < -m.f1 := fun x m => by
            rw [show ofB true x m = cmpW m.f1 x.f1 from rfl, cmpW_neg]
            omega
          have sp := pickB_spec (ofB false) (fun x => x.f1) hof a t t.length (Nat.le_refl _)
          have sq := pickB_spec (ofB true) (fun x => -x.f1) hof2 0 t t.length (Nat.le_refl _)
          rw [List.take_length] at sp sq
          have em := pickB_min (ofB false) a t hf
          have en := pickB_min (ofB true) 0 t h0
          obtain ⟨m, hm, m1, m2, _⟩ : ∃ j, j < t.length ∧ pickB (ofB false) a t = some (t.getD j z56) ∧ elig a (t.getD j z56) = true ∧ ∀ i, i < t.length → elig a (t.getD i z56) = true → (t.getD j z56).f1 ≤ (t.getD i z56).f1 := by
            rcases sp with ⟨h1, _⟩ | h
            · rw [h1] at em; cases em
            · exact h
          obtain ⟨n, hn, n1, _, n3⟩ : ∃ j, j < t.length ∧ pickB (ofB true) 0 t = some (t.getD j z56) ∧ elig 0 (t.getD j z56) = true ∧ ∀ i, i < t.length → elig 0 (t.getD i z56) = true → -(t.getD j z56).f1 ≤ -(t.getD i z56).f1 := by
            rcases sq with ⟨h1, _⟩ | h
            · rw [h1] at en; cases en
            · exact h
          have hr1 : r.1 = (t.getD m z56).f0 := by rw [hid, m1]; rfl
          have hq1 : q.1 = (t.getD n z56).f0 := by rw [hqe, n1]; rfl
          have m3 : (t.getD m z56).f4 = 0 ∧ (t.getD m z56).f1 ≥ a := by
            unfold elig at m2
            rw [Bool.and_eq_true, decide_eq_true_iff, decide_eq_true_iff] at m2
            exact m2
          have m4 : (t.getD m z56).f1 ≤ (t.getD n z56).f1 := by
            have := n3 m hm (by unfold elig; rw [decide_eq_true m3.1, decide_eq_true (show (t.getD m z56).f1 ≥ 0 by omega)]; rfl)
            omega
          have inner := choice_inner l0 t (by omega) a r.1 q.1 m n hm hn hr1 hq1 uniq m3.1 (by omega) (by omega)
          have outer : ∀ d i : Nat, i + d = t.length → Ev (fun k => laws_FnLoomChoice.l0 k l0 t a r.1 true q.1 (i : Int)) true := by
            intro d
            induction d with
            | zero =>
              intro i hi
              exact Ev.step (fun k => by rw [laws_FnLoomChoice.l0, if_neg (by omega)]) (j3f _ _ _ _ _ _)
            | succ d ih =>
              intro i hi
              have G := ih (i + 1) (by omega)
              rw [show ((i + 1 : Nat) : Int) = (i : Int) + 1 by omega] at G
              refine Ev.step (fun k => by rw [laws_FnLoomChoice.l0, if_pos (by omega)]) (Ev.step (fun k => by rw [laws_FnLoomChoice.j3, if_pos rfl]) ?_)
              exact inner i (by omega) G t.length 0 (by omega)
          exact outer t.length 0 (by omega)
      have j0 : Ev (fun k => laws_FnLoomChoice.j0 k l0 t a r.1 r.2 false) true := by
        refine Ev.step (fun k => by rw [laws_FnLoomChoice.j0, if_neg (by decide)]) (Ev.bind u2 (Ev.bind u1 ?_))
        simp only [if_true, bne_self_eq_false, Bool.false_eq_true, if_false]
        cases ho : r.2 with
        | false =>
          simp only [Bool.false_eq_true, if_false]
          rw [ho] at j1
          exact j1
        | true =>
          obtain ⟨hk, ha, hf, hid⟩ := hr ho
          have h0 : 0 < (t.filter (elig 0)).length := by
            obtain ⟨x, hx⟩ := List.exists_mem_of_length_pos hf
            rw [List.mem_filter] at hx
            refine List.length_pos_of_mem (a := x) (List.mem_filter.2 ⟨hx.1, ?_⟩)
            have h2 := hx.2
            unfold elig at h2 ⊢
            rw [Bool.and_eq_true, decide_eq_true_iff, decide_eq_true_iff] at h2 ⊢
            exact ⟨h2.1, by omega⟩
          have hqe := hq hk h0
          have hq2 : q.2 = true := by rw [hqe]
          rw [ho] at j1
          simp only [if_true, hq2, Bool.not_true]
          exact j1
      unfold laws_FnLoomChoice.f laws_rBig.f
      simp only [Option.bind_some, decide_eq_false hb, Bool.false_eq_true, if_false]
      refine Ev.bind d1 (Ev.bind s2 (Ev.bind s1 ?_))
      simp only [if_true, bne_self_eq_false]
      exact j0
    obtain ⟨K, hK⟩ := fin
    exact ⟨K, hK K (Nat.le_refl _)⟩
end Go.Proofs.Ytplhkmeoeojinaa.Pure
