/- The plain law of FnWages: what the program's functions compute is what the reference's compute. No program and no memory in it. -/
import Derived.Test.YtffgmmfkiecheaaZ02Hx17
import Derived.Test.YtffgmmfkiecheaaZ02Lps
namespace Go.Proofs.Ytffgmmfkiecheaa.Pure
open Go.RowKit Go.Proofs.YtffgmmfkiecheaaW.PrintWords Go.Proofs.YtffgmmfkiecheaaW.PrintLast Go.Proofs.Ytffgmmfkiecheaa.H
set_option linter.unusedVariables false
set_option linter.unusedSimpArgs false
theorem l1In_eq (a b c : Int) : spec_l1In.f a b c = some (rng a b c) := spec_l1In.eq a b c
theorem in_eq (a b c : Int) : impl_in.f a b c = some (rng a b c) := impl_in.eq a b c
def okSheet (a b c d e : Int) : Bool := rng a 1 99 && (rng b 0 4000 && (rng c 0 12000 && (rng d 0 c && rng e 0 12)))
theorem l14One_eq (a b c d e : Int) : spec_l14One.f a b c d e = some (okSheet a b c d e) := by
  unfold spec_l14One.f spec_l2Day.f okSheet
  simp only [l1In_eq, Option.bind_some]
  cases rng a 1 99 <;> cases rng b 0 4000 <;> cases rng c 0 12000 <;> cases rng d 0 c <;> cases rng e 0 12 <;> rfl
theorem IsWorkSheet_eq (a b c d e : Int) : impl_IsWorkSheet.f a b c d e = some (okSheet a b c d e) := by
  unfold impl_IsWorkSheet.f impl_isDay.f impl_isId.f okSheet
  simp only [in_eq, Option.bind_some]
  cases rng a 1 99 <;> cases rng b 0 4000 <;> cases rng c 0 12000 <;> cases rng d 0 c <;> cases rng e 0 12 <;> rfl
theorem okSheet_iff (a b c d e : Int) : okSheet a b c d e = true ↔ (1 ≤ a ∧ a ≤ 99) ∧ (0 ≤ b ∧ b ≤ 4000) ∧ (0 ≤ c ∧ c ≤ 12000) ∧ (0 ≤ d ∧ d ≤ c) ∧ 0 ≤ e ∧ e ≤ 12 := by
  simp only [okSheet, Bool.and_eq_true, rng_iff]
abbrev WS := S48
def okS (x : WS) : Bool := okSheet x.f0 x.f1 x.f2 x.f3 x.f4
def lexS (x y : WS) : Bool := decide (x.f1 < y.f1 ∨ x.f1 = y.f1 ∧ x.f0 < y.f0)
def goodS (t : List WS) (i : Nat) : Bool := okS (t.getD i z48) && (decide (i = 0) || lexS (t.getD (i - 1) z48) (t.getD i z48))
theorem l14_step (t : List WS) (i : Nat) (hi : i < t.length) (hl : t.length ≤ 2000000) (k : Nat) : spec_l14Good.l0 (k + 1) t (i : Int) = spec_l14Good.j1 k t (i : Int) (!goodS t i) := by
  rw [spec_l14Good.l0, if_pos (by omega), if_pos (by omega)]
  simp only [l14One_eq, Option.bind_some]
  have e0 : rd_T48 t (i : Int) = t.getD i z48 := rfl
  rw [e0]
  obtain ⟨y, hy⟩ : ∃ y, y = t.getD i z48 := ⟨_, rfl⟩
  unfold goodS okS
  rw [← hy]
  by_cases hok : okSheet y.f0 y.f1 y.f2 y.f3 y.f4 = true
  · rw [if_pos hok, hok, Bool.true_and]
    by_cases h0 : i = 0
    · subst h0
      rw [if_neg (by omega)]
      rfl
    · have e1 : wrap64 ((i : Int) - 1) = ((i - 1 : Nat) : Int) := by rw [wrap_id _ (by omega) (by omega)]; omega
      have e2 : rd_T48 t ((i - 1 : Nat) : Int) = t.getD (i - 1) z48 := rfl
      rw [if_pos (by omega), e1, if_pos (by omega), if_pos (by omega), e2]
      obtain ⟨x, hx⟩ : ∃ x, x = t.getD (i - 1) z48 := ⟨_, rfl⟩
      rw [← hx]
      simp only [h0, decide_false, Bool.false_or]
      unfold lexS
      by_cases h1 : x.f1 > y.f1
      · rw [if_pos h1, decide_eq_false (by omega)]
        rfl
      · rw [if_neg h1]
        by_cases h2 : x.f1 = y.f1
        · rw [if_pos h2]
          congr 1
          by_cases h3 : x.f0 ≥ y.f0
          · rw [decide_eq_true h3, decide_eq_false (by omega)]
            rfl
          · rw [decide_eq_false h3, decide_eq_true (by omega)]
            rfl
        · rw [if_neg h2, decide_eq_true (by omega)]
          rfl
  · rw [if_neg hok]
    simp only [Bool.not_eq_true] at hok
    rw [hok]
    rfl
theorem l14Good_ev (t : List WS) (hl : t.length ≤ 2000000) : Ev (fun k => spec_l14Good.f k t) ((List.range t.length).all (goodS t) && decide ((t.length : Int) ≤ 12)) := by
  unfold spec_l14Good.f
  refine Ev.scan (fun k i => spec_l14Good.l0 k t i) t.length (goodS t) _ (Ev.step (fun k => by rw [spec_l14Good.l0, if_neg (by omega)]) (Ev.now _)) ?_ ?_
  · intro i hi hg
    refine Ev.step (f := fun k => spec_l14Good.j1 k t i true) (fun k => by rw [l14_step t i hi hl, hg]; rfl) ?_
    exact Ev.step (fun k => by rw [spec_l14Good.j1, if_pos rfl]) (Ev.now false)
  · intro i r hi hg h
    refine Ev.step (f := fun k => spec_l14Good.j1 k t i false) (fun k => by rw [l14_step t i hi hl, hg]; rfl) ?_
    exact Ev.step (fun k => by rw [spec_l14Good.j1, if_neg (by decide), wrap_id _ (by omega) (by omega)]) h
theorem AreSheets_eq (t : List WS) : impl_AreSheets.f t = some ((List.range t.length).all (goodS t) && decide ((t.length : Int) ≤ 12)) := by
  unfold impl_AreSheets.f
  congr 1
  simp only [IsWorkSheet_eq, Option.getD_some, impl_AreSheets_1.f]
  rw [Bool.eq_iff_iff]
  simp only [Bool.and_eq_true, all_range, decide_eq_true_eq, all_getD z48, asc_iff _ z48]
  have wr : ∀ x : WS, okSheet x.f0 x.f1 x.f2 x.f3 x.f4 = true → wrap64 (wrap64 (100 * x.f1) + x.f0) = 100 * x.f1 + x.f0 := fun x h => by
    obtain ⟨h1, h2, _⟩ := (okSheet_iff _ _ _ _ _).1 h
    rw [wrap_id (100 * x.f1) (by omega) (by omega), wrap_id _ (by omega) (by omega)]
  constructor
  · rintro ⟨hn, hok, has⟩
    refine ⟨fun i hi => ?_, hn⟩
    unfold goodS okS
    rw [hok i hi, Bool.true_and]
    by_cases h0 : i = 0
    · simp [h0]
    · simp only [h0, decide_false, Bool.false_or]
      have h := has (i - 1) (by omega)
      have e : i - 1 + 1 = i := by omega
      rw [e] at h
      have ok1 := hok (i - 1) (by omega)
      have ok2 := hok i hi
      rw [wr _ ok1, wr _ ok2] at h
      obtain ⟨h1, h2, _⟩ := (okSheet_iff _ _ _ _ _).1 ok1
      obtain ⟨h3, h4, _⟩ := (okSheet_iff _ _ _ _ _).1 ok2
      exact decide_eq_true (by omega)
  · rintro ⟨hg, hn⟩
    have hok : ∀ i, i < t.length → okSheet (t.getD i z48).f0 (t.getD i z48).f1 (t.getD i z48).f2 (t.getD i z48).f3 (t.getD i z48).f4 = true := fun i hi => by
      have := hg i hi
      unfold goodS okS at this
      exact (Bool.and_eq_true _ _ ▸ this).1
    refine ⟨hn, hok, fun i hi => ?_⟩
    have h := hg (i + 1) hi
    unfold goodS at h
    rw [Bool.and_eq_true] at h
    have h2 := h.2
    simp only [Nat.add_sub_cancel, lexS, Nat.add_eq_zero_iff, Nat.one_ne_zero, and_false, decide_false, Bool.false_or, decide_eq_true_eq] at h2
    have ok1 := hok i (by omega)
    have ok2 := hok (i + 1) hi
    rw [wr _ ok1, wr _ ok2]
    obtain ⟨h1, h4, _⟩ := (okSheet_iff _ _ _ _ _).1 ok1
    obtain ⟨h3, h5, _⟩ := (okSheet_iff _ _ _ _ _).1 ok2
    omega
def areS (t : List WS) : Bool := (List.range t.length).all (goodS t) && decide ((t.length : Int) ≤ 12)
theorem areS_iff (t : List WS) (h : areS t = true) : t.length ≤ 12 ∧ ∀ i, i < t.length → okS (t.getD i z48) = true := by
  unfold areS at h
  rw [Bool.and_eq_true, all_range] at h
  refine ⟨by have := of_decide_eq_true h.2; omega, fun i hi => ?_⟩
  have := h.1 i hi
  unfold goodS at this
  rw [Bool.and_eq_true] at this
  exact this.1
theorem asc_ext : ∀ (a b : List Int), a.Pairwise (· < ·) → b.Pairwise (· < ·) → (∀ x, x ∈ a ↔ x ∈ b) → a = b
  | [], b, _, _, h => by
    cases b with
    | nil => rfl
    | cons y t => exact absurd ((h y).2 (List.mem_cons_self ..)) (by simp)
  | x :: a, [], _, _, h => absurd ((h x).1 (List.mem_cons_self ..)) (by simp)
  | x :: a, y :: b, ha, hb, h => by
    rw [List.pairwise_cons] at ha hb
    have hx := (h x).1 (List.mem_cons_self ..)
    have hy := (h y).2 (List.mem_cons_self ..)
    have e : x = y := by
      rcases List.mem_cons.1 hx with e | hx'
      · exact e
      · rcases List.mem_cons.1 hy with e | hy'
        · exact e.symm
        · have h1 := hb.1 x hx'
          have h2 := ha.1 y hy'
          omega
    subst e
    rw [asc_ext a b ha.2 hb.2 (fun z => ?_)]
    constructor
    · intro hz
      have h1 := ha.1 z hz
      rcases List.mem_cons.1 ((h z).1 (List.mem_cons_of_mem _ hz)) with e | h2
      · omega
      · exact h2
    · intro hz
      have h1 := hb.1 z hz
      rcases List.mem_cons.1 ((h z).2 (List.mem_cons_of_mem _ hz)) with e | h2
      · omega
      · exact h2
theorem compact_asc (zs : List Int) (hs : zs.Pairwise (· ≤ ·)) : (Lib.compact zs).Pairwise (· < ·) ∧ ∀ x, x ∈ Lib.compact zs ↔ x ∈ zs := by
  have hget : ∀ j, j < zs.length → zs.toArray[j]! = zs.getD j 0 := fun j hj => by
    rw [List.getD_eq_getElem?_getD, List.getElem?_eq_getElem hj]
    simp [hj]
  have hle : ∀ i j, i < j → j < zs.length → zs.toArray[i]! ≤ zs.toArray[j]! := fun i j hij hj => by
    have := List.pairwise_iff_getElem.1 hs i j (by omega) hj hij
    rw [hget i (by omega), hget j hj, List.getD_eq_getElem?_getD, List.getD_eq_getElem?_getD, List.getElem?_eq_getElem (by omega), List.getElem?_eq_getElem hj]
    exact this
  have key : ∀ m, m ≤ zs.length → (Lib.compactUpTo zs.toArray m).Pairwise (· < ·) ∧ (∀ x, x ∈ Lib.compactUpTo zs.toArray m → ∃ j, j < m ∧ zs.toArray[j]! = x) ∧ ∀ j, j < m → zs.toArray[j]! ∈ Lib.compactUpTo zs.toArray m := by
    intro m
    induction m with
    | zero => exact fun _ => ⟨List.Pairwise.nil, (fun x hx => by cases hx), fun j hj => absurd hj (by omega)⟩
    | succ m ih =>
      intro hm
      obtain ⟨h1, h2, h3⟩ := ih (by omega)
      rw [Lib.compactUpTo_succ]
      by_cases hk : m = 0 ∨ zs.toArray[m]! ≠ zs.toArray[m - 1]!
      · have hkeep : Lib.keeps zs.toArray m = true := by unfold Lib.keeps; exact decide_eq_true hk
        rw [hkeep, if_pos rfl]
        refine ⟨List.pairwise_append.2 ⟨h1, List.pairwise_singleton _ _, fun x hx y hy => ?_⟩, fun x hx => ?_, fun j hj => ?_⟩
        · rw [List.mem_singleton.1 hy]
          obtain ⟨j, hj, rfl⟩ := h2 x hx
          have hm0 : m ≠ 0 := by omega
          have hne : zs.toArray[m]! ≠ zs.toArray[m - 1]! := by rcases hk with h | h; exact absurd h hm0; exact h
          have ha := hle (m - 1) m (by omega) (by omega)
          by_cases e : j = m - 1
          · rw [e]; omega
          · have hb := hle j (m - 1) (by omega) (by omega)
            omega
        · rcases List.mem_append.1 hx with hx | hx
          · obtain ⟨j, hj, e⟩ := h2 x hx
            exact ⟨j, by omega, e⟩
          · exact ⟨m, by omega, (List.mem_singleton.1 hx).symm⟩
        · by_cases e : j = m
          · rw [e]; exact List.mem_append.2 (.inr (List.mem_singleton.2 rfl))
          · exact List.mem_append.2 (.inl (h3 j (by omega)))
      · have hkeep : Lib.keeps zs.toArray m = false := by unfold Lib.keeps; exact decide_eq_false hk
        rw [hkeep, if_neg (by decide), List.append_nil]
        refine ⟨h1, fun x hx => ?_, fun j hj => ?_⟩
        · obtain ⟨j, hj, e⟩ := h2 x hx
          exact ⟨j, by omega, e⟩
        · by_cases e : j = m
          · have hm0 : m ≠ 0 := fun h => hk (.inl h)
            have heq : zs.toArray[m]! = zs.toArray[m - 1]! := Classical.byContradiction fun h => hk (.inr h)
            rw [e, heq]
            exact h3 (m - 1) (by omega)
          · exact h3 j (by omega)
  obtain ⟨h1, h2, h3⟩ := key zs.length (Nat.le_refl _)
  refine ⟨h1, fun x => ⟨fun hx => ?_, fun hx => ?_⟩⟩
  · obtain ⟨j, hj, e⟩ := h2 x hx
    rw [← e, hget j hj, List.getD_eq_getElem?_getD, List.getElem?_eq_getElem hj]
    exact List.getElem_mem hj
  · obtain ⟨j, hj, rfl⟩ := List.getElem_of_mem hx
    have := h3 j hj
    rw [hget j hj, List.getD_eq_getElem?_getD, List.getElem?_eq_getElem hj] at this
    exact this
theorem sortCompact (lst out : List Int) (ho : out.Pairwise (· < ·)) (hm : ∀ x, x ∈ out ↔ x ∈ lst) : Lib.compact (lst.mergeSort fun x y => decide (x ≤ y)) = out := by
  have hs : (lst.mergeSort fun x y => decide (x ≤ y)).Pairwise (· ≤ ·) := by
    have := List.pairwise_mergeSort (le := fun x y : Int => decide (x ≤ y)) (fun a b c h1 h2 => by simp only [decide_eq_true_iff] at *; omega) (fun a b => by simp only [Bool.or_eq_true, decide_eq_true_iff]; omega) lst
    exact this.imp (fun h => by simpa using h)
  obtain ⟨h1, h2⟩ := compact_asc _ hs
  refine asc_ext _ _ h1 ho (fun x => ?_)
  rw [h2, List.mem_mergeSort, hm]
theorem has_ev (l : List Int) (v : Int) (hl : l.length ≤ 2000000) : Ev (fun k => spec_l1Has.f k l v) (decide (v ∈ l)) := by
  unfold spec_l1Has.f
  have key : ∀ d i : Nat, i + d = l.length → Ev (fun k => spec_l1Has.l0 k l v (i : Int)) (decide (v ∈ l.drop i)) := by
    intro d
    induction d with
    | zero =>
      intro i hi
      rw [List.drop_of_length_le (by omega)]
      exact Ev.step (f := fun _ => some false) (fun k => by rw [spec_l1Has.l0, if_neg (by omega)]) (Ev.now _)
    | succ d ih =>
      intro i hi
      have e0 : rd l (i : Int) = l[i]'(by omega) := by
        show l.getD ((i : Int)).toNat 0 = _
        rw [Int.toNat_natCast, List.getD_eq_getElem?_getD, List.getElem?_eq_getElem (by omega)]
        rfl
      rw [List.drop_eq_getElem_cons (by omega)]
      by_cases c : l[i]'(by omega) = v
      · rw [decide_eq_true (List.mem_cons.2 (.inl c.symm))]
        exact Ev.step (f := fun _ => some true) (fun k => by rw [spec_l1Has.l0, if_pos (by omega), if_pos (by omega), e0, if_pos c]) (Ev.now _)
      · have h1 := ih (i + 1) (by omega)
        have e : ((i + 1 : Nat) : Int) = (i : Int) + 1 := by omega
        rw [e] at h1
        have e2 : decide (v ∈ l[i]'(by omega) :: l.drop (i + 1)) = decide (v ∈ l.drop (i + 1)) := by
          rw [decide_eq_decide, List.mem_cons]
          exact ⟨fun h => h.resolve_left (fun h => c h.symm), .inr⟩
        rw [e2]
        exact Ev.step (fun k => by rw [spec_l1Has.l0, if_pos (by omega), if_pos (by omega), e0, if_neg c, wrap_id _ (by omega) (by omega)]) h1
  exact key l.length 0 (by omega)
theorem put_ev (l : List Int) (v : Int) (hl : l.length ≤ 2000000) (ha : l.Pairwise (· < ·)) (hv : v ∉ l) : ∃ p : List Int, (p.Pairwise (· < ·) ∧ p.length = l.length + 1 ∧ ∀ x, x ∈ p ↔ x = v ∨ x ∈ l) ∧ Ev (fun k => spec_l1Put.f k l v) p := by
  unfold spec_l1Put.f
  have fin : ∀ i : Nat, i ≤ l.length → (∀ j (h : j < l.length), j < i → l[j] < v) → (∀ h : i < l.length, v < l[i]) → (l.take i ++ [v] ++ l.drop i).Pairwise (· < ·) ∧ (l.take i ++ [v] ++ l.drop i).length = l.length + 1 ∧ ∀ x, x ∈ l.take i ++ [v] ++ l.drop i ↔ x = v ∨ x ∈ l := by
    intro i hi h1 h2
    have ht : ∀ x ∈ l.take i, x < v := fun x hx => by
      obtain ⟨j, hj, rfl⟩ := List.getElem_of_mem hx
      rw [List.length_take] at hj
      rw [List.getElem_take]
      exact h1 j (by omega) (by omega)
    have hd : ∀ x ∈ l.drop i, v < x := fun x hx => by
      obtain ⟨j, hj, rfl⟩ := List.getElem_of_mem hx
      rw [List.length_drop] at hj
      rw [List.getElem_drop]
      have := h2 (by omega)
      by_cases e : j = 0
      · subst e; simpa using this
      · have := List.pairwise_iff_getElem.1 ha i (i + j) (by omega) (by omega) (by omega)
        omega
    refine ⟨List.pairwise_append.2 ⟨List.pairwise_append.2 ⟨ha.sublist (List.take_sublist _ _), List.pairwise_singleton _ _, fun x hx y hy => by rw [List.mem_singleton.1 hy]; exact ht x hx⟩, ha.sublist (List.drop_sublist _ _), fun x hx y hy => ?_⟩, ?_, fun x => ?_⟩
    · have h3 := hd y hy
      rcases List.mem_append.1 hx with hx | hx
      · have := ht x hx; omega
      · rw [List.mem_singleton.1 hx]; exact h3
    · simp only [List.length_append, List.length_take, List.length_drop, List.length_singleton]; omega
    · rw [List.mem_append, List.mem_append, List.mem_singleton]
      constructor
      · rintro ((h | h) | h)
        · exact .inr (List.mem_of_mem_take h)
        · exact .inl h
        · exact .inr (List.mem_of_mem_drop h)
      · rintro (h | h)
        · exact .inl (.inr h)
        · rw [← List.take_append_drop i l] at h
          rcases List.mem_append.1 h with h | h
          · exact .inl (.inl h)
          · exact .inr h
  have key : ∀ d i : Nat, i + d = l.length → (∀ j (h : j < l.length), j < i → l[j] < v) → ∃ p : List Int, (p.Pairwise (· < ·) ∧ p.length = l.length + 1 ∧ ∀ x, x ∈ p ↔ x = v ∨ x ∈ l) ∧ Ev (fun k => spec_l1Put.l0 k l v (i : Int)) p := by
    intro d
    induction d with
    | zero =>
      intro i hi h1
      refine ⟨_, fin i (by omega) h1 (fun h => absurd h (by omega)), Ev.step (f := fun _ => some (l.take i ++ [v] ++ l.drop i)) (fun k => ?_) (Ev.now _)⟩
      rw [spec_l1Put.l0, if_neg (by omega), Option.bind_some, if_pos (by omega), if_pos (by omega), if_pos (by simp; omega), Option.bind_some, Option.bind_some, if_pos (by simp; omega), Option.bind_some, if_pos (by simp; omega), Int.toNat_natCast, List.nil_append]
    | succ d ih =>
      intro i hi h1
      have hlt : i < l.length := by omega
      have e0 : rd l (i : Int) = l[i] := by
        show l.getD ((i : Int)).toNat 0 = _
        rw [Int.toNat_natCast, List.getD_eq_getElem?_getD, List.getElem?_eq_getElem hlt]
        rfl
      by_cases c : l[i] < v
      · obtain ⟨p, hp, h2⟩ := ih (i + 1) (by omega) (fun j h hj => by
          by_cases e : j = i
          · subst e; exact c
          · exact h1 j h (by omega))
        have e : ((i + 1 : Nat) : Int) = (i : Int) + 1 := by omega
        rw [e] at h2
        exact ⟨p, hp, Ev.step (fun k => by rw [spec_l1Put.l0, if_pos (by omega), if_pos (by omega), e0, if_pos c, wrap_id _ (by omega) (by omega)]) h2⟩
      · have hne : l[i] ≠ v := fun h => hv (h ▸ List.getElem_mem hlt)
        refine ⟨_, fin i (by omega) h1 (fun _ => by omega), Ev.step (f := fun _ => some (l.take i ++ [v] ++ l.drop i)) (fun k => ?_) (Ev.now _)⟩
        rw [spec_l1Put.l0, if_pos (by omega), if_pos (by omega), e0, if_neg c, if_neg hne, Option.bind_some, if_pos (by omega), if_pos (by simp; omega), Option.bind_some, Option.bind_some, if_pos (by simp; omega), Option.bind_some, if_pos (by simp; omega), Int.toNat_natCast, List.nil_append]
  exact key l.length 0 (by omega) (fun j _ h => absurd h (by omega))
def wsOf (t : List WS) : List Int := t.map fun x => x.f0
theorem wsOf_snoc (t : List WS) (i : Nat) (hi : i < t.length) : wsOf (t.take (i + 1)) = wsOf (t.take i) ++ [(t.getD i z48).f0] := by
  unfold wsOf
  rw [List.take_succ_eq_append_getElem hi, List.map_append, List.getD_eq_getElem?_getD, List.getElem?_eq_getElem hi]
  rfl
theorem weavers_two (t : List WS) (hl : t.length ≤ 1048576) : ∃ out : List Int, (out.Pairwise (· < ·) ∧ (∀ x, x ∈ out ↔ x ∈ wsOf t) ∧ out.length ≤ t.length) ∧ Ev (fun k => spec_l14Weavers.f k t) out ∧ Ev (fun k => impl_weaversOf.f k t) out := by
  obtain ⟨out, ho, h1⟩ := Ev.loopE (fun k i (s : List Int) => spec_l14Weavers.l0 k t s i) t.length (fun i s => s.Pairwise (· < ·) ∧ (∀ x, x ∈ s ↔ x ∈ wsOf (t.take i)) ∧ s.length ≤ i) (fun s => s.Pairwise (· < ·) ∧ (∀ x, x ∈ s ↔ x ∈ wsOf t) ∧ s.length ≤ t.length)
    (fun s hs => ⟨s, by rw [List.take_length] at hs; exact hs, Ev.step (f := fun _ => some s) (fun k => by rw [spec_l14Weavers.l0, if_neg (by omega)]) (Ev.now _)⟩)
    (fun i s hi hs => by
      obtain ⟨s1, s2, s3⟩ := hs
      have e0 : rd_T48 t (i : Int) = t.getD i z48 := rfl
      have e1 := wsOf_snoc t i hi
      obtain ⟨v, hv⟩ : ∃ v, v = (t.getD i z48).f0 := ⟨_, rfl⟩
      rw [← hv] at e1
      have hspec : ∀ k, spec_l14Weavers.l0 (k + 1) t s (i : Int) = (spec_l1Has.f k s v).bind fun b => if b = true then spec_l14Weavers.l0 k t s ((i : Int) + 1) else (spec_l1Put.f k s v).bind fun p => spec_l14Weavers.l0 k t p ((i : Int) + 1) := fun k => by
        rw [spec_l14Weavers.l0, if_pos (by omega), if_pos (by omega), e0, ← hv, wrap_id ((i : Int) + 1) (by omega) (by omega)]
      have hhas := has_ev s v (by omega)
      by_cases hin : v ∈ s
      · rw [decide_eq_true hin] at hhas
        refine ⟨s, ⟨s1, fun x => ?_, by omega⟩, fun r h => Ev.step hspec (Ev.bind hhas (by simp only [if_true]; exact h))⟩
        rw [e1, List.mem_append, List.mem_singleton, s2 x]
        exact ⟨.inl, fun h => h.elim id (fun h => by rw [h]; exact (s2 v).1 hin)⟩
      · rw [decide_eq_false hin] at hhas
        obtain ⟨p, ⟨p1, p2, p3⟩, hput⟩ := put_ev s v (by omega) s1 hin
        refine ⟨p, ⟨p1, fun x => ?_, by omega⟩, fun r h => Ev.step hspec (Ev.bind hhas (by simp only [Bool.false_eq_true, if_false]; exact Ev.bind hput h))⟩
        rw [e1, List.mem_append, List.mem_singleton, p3 x, s2 x]
        exact ⟨fun h => h.elim .inr .inl, fun h => h.elim .inr .inl⟩) [] ⟨List.Pairwise.nil, fun x => by simp [wsOf], by simp⟩
  refine ⟨out, ho, h1, ?_⟩
  have hsc := sortCompact (wsOf t) out ho.1 ho.2.1
  have hwl : (wsOf t).length = t.length := by unfold wsOf; rw [List.length_map]
  obtain ⟨r, hr, h2⟩ := Ev.loopE (fun k i (s : List Int) => impl_weaversOf.l0 k s t (t.length : Int) i) t.length (fun i s => s = wsOf (t.take i)) (fun s => s = out)
    (fun s hs => ⟨out, rfl, Ev.step (f := fun _ => some out) (fun k => by
      rw [List.take_length] at hs
      subst hs
      rw [impl_weaversOf.l0, if_neg (by omega)]
      unfold slices_Sort_int.f slices_Compact_int.f
      rw [if_pos (by omega), Option.bind_some, if_pos (by rw [List.length_mergeSort]; omega), Option.bind_some, hsc]) (Ev.now _)⟩)
    (fun i s hi hs => ⟨wsOf (t.take (i + 1)), rfl, fun r h => Ev.step (fun k => by
      have e0 : rd_T48 t (i : Int) = t.getD i z48 := rfl
      have e2 : s.length < 17592186044416 := by rw [hs]; unfold wsOf; rw [List.length_map, List.length_take]; omega
      rw [impl_weaversOf.l0, if_pos (by omega), if_pos (by omega), if_pos (by omega), if_pos e2, e0, wrap_id ((i : Int) + 1) (by omega) (by omega), wsOf_snoc t i hi, ← hs]) h⟩) [] (by simp [wsOf])
  subst hr
  exact h2
def okRates (a b c d e : Int) : Bool := rng a 0 10000 && (rng b 0 10000 && (rng c 0 10000 && (rng d 0 10000 && rng e 0 10000)))
theorem okRates_iff (a b c d e : Int) : okRates a b c d e = true ↔ (0 ≤ a ∧ a ≤ 10000) ∧ (0 ≤ b ∧ b ≤ 10000) ∧ (0 ≤ c ∧ c ≤ 10000) ∧ (0 ≤ d ∧ d ≤ 10000) ∧ 0 ≤ e ∧ e ≤ 10000 := by
  simp only [okRates, Bool.and_eq_true, rng_iff]
theorem l14Rates_eq (a b c d e : Int) : spec_l14Rates.f a b c d e = some (okRates a b c d e) := by
  unfold spec_l14Rates.f spec_l14Cents.f okRates
  simp only [l1In_eq, Option.bind_some]
  cases rng a 0 10000 <;> cases rng b 0 10000 <;> cases rng c 0 10000 <;> cases rng d 0 10000 <;> cases rng e 0 10000 <;> rfl
theorem AreRates_eq (a b c d e : Int) : impl_AreRates.f a b c d e = some (okRates a b c d e) := by
  unfold impl_AreRates.f impl_AreRates_1.f okRates
  simp only [in_eq, Option.bind_some, Option.getD_some, List.all_cons, List.all_nil, Bool.and_true]
theorem wage_same (a b c d e f g h i j : Int) : spec_l14Wage.f a b c d e f g h i j = impl_Rates_wage.f a b c d e f g h i j := by
  unfold spec_l14Wage.f impl_Rates_wage.f impl_WorkSheet_right.f spec_l1Most.f
  simp only [Option.bind_some]
  have hm : ∀ x y : Int, (if x > y then some x else some y) = some (mx y x) := fun x y => by unfold mx; split <;> congr 1 <;> omega
  simp only [hm, Option.bind_some]
theorem wage_some (a b c d e f g h i j : Int) : ∃ v, impl_Rates_wage.f a b c d e f g h i j = some v := by
  unfold impl_Rates_wage.f impl_WorkSheet_right.f
  simp only [Option.bind_some]
  split <;> exact ⟨_, rfl⟩
theorem Wages_loops (t : List WS) (hl : t.length ≤ 2000000) (a b c d e w f g : Int) : ∃ v : Int, Ev (fun k => spec_l14Sum.l0 k t w f g 0 0 a b c d e) v ∧ Ev (fun k => impl_WagesBetween.l0 k w f g 0 t (t.length : Int) 0 a b c d e) (v, true) := by
  obtain ⟨r, _, h1, h2⟩ := Ev.two (fun k i (q : Int) => (spec_l14Sum.l0 k t w f g q i a b c d e).map (fun v => (v, true))) (fun k i (q : Int) => impl_WagesBetween.l0 k w f g q t (t.length : Int) i a b c d e) t.length (fun _ s u => s = u) (fun _ => True)
    (fun s u hs => ⟨(s, true), trivial, Ev.step (fun k => by rw [spec_l14Sum.l0, if_neg (by omega)]; rfl) (Ev.now _), by
      subst hs; exact Ev.step (fun k => by rw [impl_WagesBetween.l0, if_neg (by omega)]) (Ev.now _)⟩)
    (fun i s u hi hs => by
      subst hs
      obtain ⟨x, hx⟩ : ∃ x, x = rd_T48 t (i : Int) := ⟨_, rfl⟩
      have w1 : wrap64 ((i : Int) + 1) = (i : Int) + 1 := wrap_id _ (by omega) (by omega)
      obtain ⟨v, hv⟩ := wage_some a b c d e x.f0 x.f1 x.f2 x.f3 x.f4
      by_cases h1 : x.f0 = w
      · by_cases h2 : rng x.f1 f g = true
        · refine .inr ⟨wrap64 (s + v), _, rfl, fun r h => Ev.step (fun k => ?_) h, fun r h => Ev.step (fun k => ?_) h⟩
          · rw [spec_l14Sum.l0, if_pos (by omega), if_pos (by omega), ← hx, if_pos h1, l1In_eq, Option.bind_some, if_pos h2, wage_same, hv, Option.bind_some, w1]
          · rw [impl_WagesBetween.l0, if_pos (by omega), if_pos (by omega), if_pos (by omega), ← hx, if_pos h1, in_eq, Option.bind_some, if_pos h2, hv, Option.bind_some, w1]
        · refine .inr ⟨s, _, rfl, fun r h => Ev.step (fun k => ?_) h, fun r h => Ev.step (fun k => ?_) h⟩
          · rw [spec_l14Sum.l0, if_pos (by omega), if_pos (by omega), ← hx, if_pos h1, l1In_eq, Option.bind_some, if_neg h2, w1]
          · rw [impl_WagesBetween.l0, if_pos (by omega), if_pos (by omega), if_pos (by omega), ← hx, if_pos h1, in_eq, Option.bind_some, if_neg h2, w1]
      · refine .inr ⟨s, _, rfl, fun r h => Ev.step (fun k => ?_) h, fun r h => Ev.step (fun k => ?_) h⟩
        · rw [spec_l14Sum.l0, if_pos (by omega), if_pos (by omega), ← hx, if_neg h1, w1]
        · rw [impl_WagesBetween.l0, if_pos (by omega), if_pos (by omega), if_pos (by omega), ← hx, if_neg h1, w1]) 0 0 rfl
  obtain ⟨K, hK⟩ := h1
  obtain ⟨v, hv, hr⟩ := Option.map_eq_some_iff.1 (hK K (Nat.le_refl _))
  refine ⟨v, ⟨K, fun k hk => ?_⟩, by rw [hr]; exact h2⟩
  obtain ⟨v', hv', hr'⟩ := Option.map_eq_some_iff.1 (hK k hk)
  have : v' = v := by have := hr'.trans hr.symm; exact (Prod.mk.inj this).1
  dsimp only
  rw [hv', this]
theorem paySum (t : List WS) (hl : t.length ≤ 1048576) (a b c d e w : Int) (hr : okRates a b c d e = true) (ht : areS t = true) (hw : rng w 1 99 = true) : ∃ v : Int, Ev (fun k => spec_l14Sum.f k a b c d e t w 0 4000) v ∧ Ev (fun k => impl_WagesBetween.f k a b c d e t w 0 4000) (v, true) := by
  obtain ⟨v, h1, K2, h2⟩ := Wages_loops t (by omega) a b c d e w 0 4000
  dsimp only at h2
  refine ⟨v, h1, K2 + 2, fun k hk => ?_⟩
  obtain ⟨m, rfl⟩ : ∃ m, k = m + 2 := ⟨k - 2, by omega⟩
  have jf : impl_WagesBetween.j0 (m + 2) t w 0 4000 false a b c d e = some (v, true) := by rw [impl_WagesBetween.j0, if_neg (by decide)]; exact h2 (m + 1) (by omega)
  have r1 : rng 0 0 4000 = true := by decide
  have r2 : rng 4000 0 4000 = true := by decide
  dsimp only
  unfold impl_WagesBetween.f impl_isId.f impl_isDay.f
  rw [AreRates_eq, AreSheets_eq]
  show (if okRates a b c d e = true then (if areS t = true then _ else _) else _) = _
  simp only [in_eq, Option.bind_some, hr, ht, hw, r1, r2, if_true, Bool.not_true]
  rw [show decide ((0 : Int) > 4000) = false by decide]
  exact jf
theorem PayRoll_same (t : List WS) (hl : t.length ≤ 1048576) (a b c d e : Int) : ∃ r : List Int × List Int × Bool, (r.1.length ≤ 12 ∧ r.2.1.length ≤ 12) ∧ Ev (fun k => spec_PayRoll.f k a b c d e t) r ∧ Ev (fun k => impl_PayRoll.f k a b c d e t) r := by
  obtain ⟨K, hg⟩ := l14Good_ev t (by omega)
  change ∀ k, K ≤ k → spec_l14Good.f k t = some (areS t) at hg
  have hgo : impl_AreSheets.f t = some (areS t) := AreSheets_eq t
  by_cases hr : okRates a b c d e = true ∧ areS t = true
  · obtain ⟨hr, ht⟩ := hr
    obtain ⟨h12, hok⟩ := areS_iff t ht
    obtain ⟨out, ⟨o1, o2, o3⟩, ⟨K1, h1⟩, K2, h2⟩ := weavers_two t hl
    dsimp only at h1 h2
    have hw : ∀ j, j < out.length → rng (out.getD j 0) 1 99 = true := fun j hj => by
      have hm : out.getD j 0 ∈ out := by
        rw [List.getD_eq_getElem?_getD, List.getElem?_eq_getElem hj]
        exact List.getElem_mem hj
      have := (o2 _).1 hm
      unfold wsOf at this
      obtain ⟨x, hx, e⟩ := List.mem_map.1 this
      obtain ⟨i, hi, e2⟩ := List.getElem_of_mem hx
      have h3 := hok i hi
      rw [List.getD_eq_getElem?_getD, List.getElem?_eq_getElem hi, Option.getD_some, e2] at h3
      rw [← e]
      unfold okS at h3
      rw [okSheet_iff] at h3
      exact (rng_iff _ _ _).2 h3.1
    obtain ⟨r, hrr, h3, h4⟩ := Ev.two (fun k i (s : List Int) => spec_PayRoll.l0 k t s out i a b c d e) (fun k i (s : List Int) => impl_PayRoll.l0 k t out s (out.length : Int) i a b c d e) out.length (fun i s u => s = u ∧ s.length = i) (fun r => r.1.length ≤ 12 ∧ r.2.1.length ≤ 12)
      (fun s u hs => by
        obtain ⟨rfl, hs⟩ := hs
        exact ⟨(out, s, true), ⟨by dsimp only; omega, by dsimp only; omega⟩, Ev.step (f := fun _ => some (out, s, true)) (fun k => by rw [spec_PayRoll.l0, if_neg (by omega)]) (Ev.now _), Ev.step (f := fun _ => some (out, s, true)) (fun k => by rw [impl_PayRoll.l0, if_neg (by omega)]) (Ev.now _)⟩)
      (fun i s u hi hs => by
        obtain ⟨rfl, hs⟩ := hs
        have e0 : rd out (i : Int) = out.getD i 0 := rfl
        obtain ⟨v, q1, q2⟩ := paySum t hl a b c d e (out.getD i 0) hr ht (hw i hi)
        refine .inr ⟨s ++ [v], s ++ [v], ⟨rfl, by rw [List.length_append, List.length_singleton, hs]⟩, fun r h => ?_, fun r h => ?_⟩
        · refine Ev.step (fun k => by rw [spec_PayRoll.l0, if_pos (by omega), if_pos (by omega), e0]) (Ev.bind q1 ?_)
          simp only [if_pos (show s.length < 17592186044416 by omega)]
          rw [wrap_id ((i : Int) + 1) (by omega) (by omega)]
          exact h
        · refine Ev.step (fun k => by rw [impl_PayRoll.l0, if_pos (by omega), if_pos (by omega), if_pos (by omega), e0]) (Ev.bind q2 ?_)
          simp only [if_pos (show s.length < 17592186044416 by omega)]
          rw [wrap_id ((i : Int) + 1) (by omega) (by omega)]
          exact h) [] [] ⟨rfl, rfl⟩
    obtain ⟨K3, h3⟩ := h3
    obtain ⟨K4, h4⟩ := h4
    dsimp only at h3 h4
    refine ⟨r, hrr, ⟨K + K1 + K3 + 1, fun k hk => ?_⟩, K2 + K4 + 1, fun k hk => ?_⟩
    · obtain ⟨m, rfl⟩ : ∃ m, k = m + 1 := ⟨k - 1, by omega⟩
      dsimp only
      unfold spec_PayRoll.f
      rw [l14Rates_eq, hr, hg (m + 1) (by omega), ht]
      simp only [Option.bind_some, if_true, Bool.not_true]
      rw [spec_PayRoll.j0, if_neg (by decide), h1 m (by omega), Option.bind_some]
      exact h3 m (by omega)
    · obtain ⟨m, rfl⟩ : ∃ m, k = m + 1 := ⟨k - 1, by omega⟩
      dsimp only
      unfold impl_PayRoll.f
      rw [AreRates_eq, hr, hgo, ht]
      simp only [Option.bind_some, if_true, Bool.not_true]
      rw [impl_PayRoll.j0, if_neg (by decide), h2 m (by omega), Option.bind_some]
      exact h4 m (by omega)
  · refine ⟨([], [], false), ⟨by simp, by simp⟩, ⟨K + 1, fun k hk => ?_⟩, 1, fun k hk => ?_⟩
    · obtain ⟨m, rfl⟩ : ∃ m, k = m + 1 := ⟨k - 1, by omega⟩
      dsimp only
      unfold spec_PayRoll.f
      rw [l14Rates_eq, hg (m + 1) (by omega)]
      simp only [Option.bind_some, spec_PayRoll.j0, if_true]
      cases h1 : okRates a b c d e
      · simp only [Bool.false_eq_true, if_false]
      · cases h2 : areS t
        · simp only [if_true, Bool.not_false]
        · exact absurd ⟨h1, h2⟩ hr
    · obtain ⟨m, rfl⟩ : ∃ m, k = m + 1 := ⟨k - 1, by omega⟩
      dsimp only
      unfold impl_PayRoll.f
      rw [AreRates_eq, hgo]
      simp only [Option.bind_some, impl_PayRoll.j0, if_true]
      cases h1 : okRates a b c d e
      · simp only [Bool.false_eq_true, if_false]
      · cases h2 : areS t
        · simp only [if_true, Bool.not_false]
        · exact absurd ⟨h1, h2⟩ hr
theorem Ev.uniq {α : Type} {g : Nat → Option α} {a b : α} (h : Ev g a) (k : Ev g b) : a = b := by
  obtain ⟨K1, h1⟩ := h
  obtain ⟨K2, h2⟩ := k
  have e1 := h1 (K1 + K2) (by omega)
  rw [h2 (K1 + K2) (by omega)] at e1
  exact (Option.some.inj e1).symm
def wV (a b c d e : Int) (x : WS) : Int := (impl_Rates_wage.f a b c d e x.f0 x.f1 x.f2 x.f3 x.f4).getD 0
theorem wV_eq (a b c d e : Int) (x : WS) : impl_Rates_wage.f a b c d e x.f0 x.f1 x.f2 x.f3 x.f4 = some (wV a b c d e x) := by
  obtain ⟨v, hv⟩ := wage_some a b c d e x.f0 x.f1 x.f2 x.f3 x.f4
  unfold wV
  rw [hv]
  rfl
theorem wV_bd (a b c d e : Int) (x : WS) (h : okRates a b c d e = true) (hx : okS x = true) : c ≤ wV a b c d e x ∧ 0 ≤ wV a b c d e x ∧ wV a b c d e x ≤ 300000 := by
  obtain ⟨ha, hb, hc, hd, he⟩ := (okRates_iff _ _ _ _ _).1 h
  unfold okS at hx
  obtain ⟨_, _, h2, h3, h4⟩ := (okSheet_iff _ _ _ _ _).1 hx
  have q := wV_eq a b c d e x
  obtain ⟨v, hv⟩ : ∃ v, v = wV a b c d e x := ⟨_, rfl⟩
  rw [← hv] at q ⊢
  unfold impl_Rates_wage.f impl_WorkSheet_right.f at q
  obtain ⟨r, hr⟩ : ∃ r, r = x.f2 - x.f3 := ⟨_, rfl⟩
  have p0 : 0 ≤ a * r := Int.mul_nonneg ha.1 (by omega)
  have p1 : a * r ≤ 10000 * 12000 := Int.mul_le_mul ha.2 (by omega) (by omega) (by omega)
  have p2 : 0 ≤ b * x.f4 := Int.mul_nonneg hb.1 (by omega)
  have p3 : b * x.f4 ≤ 10000 * 12 := Int.mul_le_mul hb.2 (by omega) (by omega) (by omega)
  obtain ⟨u, hu⟩ : ∃ u, u = x.f3 / 100 := ⟨_, rfl⟩
  have p4 : 0 ≤ e * u := Int.mul_nonneg he.1 (by omega)
  have p5 : e * u ≤ 10000 * 120 := Int.mul_le_mul he.2 (by omega) (by omega) (by omega)
  simp only [Option.bind_some] at q
  rw [← hr, wrap_id r (by omega) (by omega), wrap_id (a * r) (by omega) (by omega), Int.tdiv_eq_ediv_of_nonneg p0, wrap_id (a * r / 1000) (by omega) (by omega), wrap_id (b * x.f4) (by omega) (by omega), wrap_id (a * r / 1000 + b * x.f4) (by omega) (by omega),
    Int.tdiv_eq_ediv_of_nonneg (show 0 ≤ x.f3 by omega), ← hu, wrap_id u (by omega) (by omega), wrap_id (e * u) (by omega) (by omega), wrap_id (a * r / 1000 + b * x.f4 - e * u) (by omega) (by omega), wrap_id (a * r / 1000 + b * x.f4 - e * u + d) (by omega) (by omega)] at q
  unfold mx at q
  split at q <;> split at q <;> (have q := Option.some.inj q) <;> omega
def sumP (W : WS → Int) (p : WS → Bool) (t : List WS) : Nat → Int
  | 0 => 0
  | i + 1 => sumP W p t i + (if p (t.getD i z48) = true then W (t.getD i z48) else 0)
theorem sumP_bd (W : WS → Int) (p : WS → Bool) (t : List WS) (h : ∀ i, i < t.length → 0 ≤ W (t.getD i z48) ∧ W (t.getD i z48) ≤ 300000) : ∀ i : Nat, i ≤ t.length → 0 ≤ sumP W p t i ∧ sumP W p t i ≤ 300000 * (i : Int) := by
  intro i
  induction i with
  | zero => intro _; exact ⟨Int.le_refl _, by show (0 : Int) ≤ _; omega⟩
  | succ i ih =>
    intro hi
    have h1 := ih (by omega)
    have h2 := h i (by omega)
    rw [sumP]
    split <;> omega
theorem sumP_congr (W : WS → Int) (p q : WS → Bool) (t : List WS) (n : Nat) (h : ∀ i, i < n → p (t.getD i z48) = q (t.getD i z48)) : sumP W p t n = sumP W q t n := by
  induction n with
  | zero => rfl
  | succ n ih => rw [sumP, sumP, ih (fun i hi => h i (by omega)), h n (by omega)]
theorem sum_add (f g : Int → Int) (l : List Int) : (l.map (fun w => f w + g w)).sum = (l.map f).sum + (l.map g).sum := by
  induction l with
  | nil => rfl
  | cons x l ih => rw [List.map_cons, List.map_cons, List.map_cons, List.sum_cons, List.sum_cons, List.sum_cons, ih]; omega
theorem sum_none (a v : Int) (l : List Int) (h : a ∉ l) : (l.map (fun w => if a = w then v else 0)).sum = 0 := by
  induction l with
  | nil => rfl
  | cons x l ih =>
    rw [List.map_cons, List.sum_cons, ih (fun hm => h (List.mem_cons_of_mem _ hm)), if_neg (fun e => h (by rw [e]; exact List.mem_cons_self ..))]
    rfl
theorem sum_one (a v : Int) (l : List Int) (hp : l.Pairwise (· < ·)) (h : a ∈ l) : (l.map (fun w => if a = w then v else 0)).sum = v := by
  induction l with
  | nil => cases h
  | cons x l ih =>
    obtain ⟨h1, h2⟩ := List.pairwise_cons.1 hp
    rw [List.map_cons, List.sum_cons]
    by_cases c : a = x
    · rw [if_pos c, sum_none a v l (fun hm => by have := h1 a hm; omega)]; omega
    · rw [if_neg c, ih h2 ((List.mem_cons.1 h).resolve_left c)]; omega
theorem sum_zero (l : List Int) : (l.map (fun _ => (0 : Int))).sum = 0 := by
  induction l with
  | nil => rfl
  | cons x l ih => rw [List.map_cons, List.sum_cons, ih]; rfl
theorem sumP_all (W : WS → Int) (t : List WS) (out : List Int) (hp : out.Pairwise (· < ·)) (n : Nat) (h : ∀ i, i < n → (t.getD i z48).f0 ∈ out) : (out.map (fun w => sumP W (fun x => decide (x.f0 = w)) t n)).sum = sumP W (fun _ => true) t n := by
  induction n with
  | zero => exact sum_zero out
  | succ n ih =>
    have e : (fun w => sumP W (fun x => decide (x.f0 = w)) t (n + 1)) = fun w => sumP W (fun x => decide (x.f0 = w)) t n + (if (t.getD n z48).f0 = w then W (t.getD n z48) else 0) := by
      funext w
      rw [sumP]
      by_cases c : (t.getD n z48).f0 = w
      · rw [if_pos c, if_pos (decide_eq_true c)]
      · rw [if_neg c, if_neg (by rw [decide_eq_true_iff]; exact c)]
    rw [e, sum_add, ih (fun i hi => h i (by omega)), sum_one _ _ out hp (h n (by omega)), sumP, if_pos rfl]
theorem sum_val (t : List WS) (a b c d e w f g : Int) (hr : okRates a b c d e = true) (ht : areS t = true) : Ev (fun k => spec_l14Sum.f k a b c d e t w f g) (sumP (wV a b c d e) (fun x => decide (x.f0 = w) && rng x.f1 f g) t t.length) := by
  obtain ⟨h12, hok⟩ := areS_iff t ht
  have bd := sumP_bd (wV a b c d e) (fun x => decide (x.f0 = w) && rng x.f1 f g) t (fun i hi => (wV_bd a b c d e _ hr (hok i hi)).2)
  unfold spec_l14Sum.f
  obtain ⟨r, hrr, h⟩ := Ev.loopE (fun k i (s : Int) => spec_l14Sum.l0 k t w f g s i a b c d e) t.length (fun i s => s = sumP (wV a b c d e) (fun x => decide (x.f0 = w) && rng x.f1 f g) t i) (fun r => r = sumP (wV a b c d e) (fun x => decide (x.f0 = w) && rng x.f1 f g) t t.length)
    (fun s hs => ⟨s, hs, Ev.step (f := fun _ => some s) (fun k => by rw [spec_l14Sum.l0, if_neg (by omega)]) (Ev.now _)⟩)
    (fun i s hi hs => by
      obtain ⟨x, hx⟩ : ∃ x, x = t.getD i z48 := ⟨_, rfl⟩
      have e0 : rd_T48 t (i : Int) = x := hx.symm
      have w1 : wrap64 ((i : Int) + 1) = (i : Int) + 1 := wrap_id _ (by omega) (by omega)
      have b1 := bd i (by omega)
      have b2 := (wV_bd a b c d e _ hr (hok i hi)).2
      rw [← hx] at b2
      by_cases h1 : x.f0 = w
      · by_cases h2 : rng x.f1 f g = true
        · refine ⟨s + wV a b c d e x, by rw [sumP, ← hx, hs, if_pos (by rw [decide_eq_true h1, h2]; rfl)], fun r h => Ev.step (fun k => ?_) h⟩
          rw [spec_l14Sum.l0, if_pos (by omega), if_pos (by omega), e0, if_pos h1, l1In_eq, Option.bind_some, if_pos h2, wage_same, wV_eq, Option.bind_some, w1, wrap_id (s + wV a b c d e x) (by omega) (by omega)]
        · refine ⟨s, by rw [sumP, ← hx, hs, if_neg (by rw [decide_eq_true h1, Bool.true_and]; exact h2), Int.add_zero], fun r h => Ev.step (fun k => ?_) h⟩
          rw [spec_l14Sum.l0, if_pos (by omega), if_pos (by omega), e0, if_pos h1, l1In_eq, Option.bind_some, if_neg h2, w1]
      · refine ⟨s, by rw [sumP, ← hx, hs, if_neg (by rw [decide_eq_false h1, Bool.false_and]; decide), Int.add_zero], fun r h => Ev.step (fun k => ?_) h⟩
        rw [spec_l14Sum.l0, if_pos (by omega), if_pos (by omega), e0, if_neg h1, w1]) 0 rfl
  subst hrr
  exact h
theorem take_succ_getD {α : Type} (z : α) (a : List α) (i : Nat) (h : i < a.length) : a.take (i + 1) = a.take i ++ [a.getD i z] := by
  rw [List.take_succ_eq_append_getElem h, List.getD_eq_getElem?_getD, List.getElem?_eq_getElem h]
  rfl
theorem least {P : Nat → Prop} : ∀ N, P N → ∃ m, m ≤ N ∧ P m ∧ ∀ n, n < m → ¬ P n := by
  intro N
  induction N using Nat.strongRecOn with
  | _ N ih =>
    intro h
    by_cases hx : ∃ n, n < N ∧ P n
    · obtain ⟨n, hn, hp⟩ := hx
      obtain ⟨m, h1, h2, h3⟩ := ih n hn hp
      exact ⟨m, by omega, h2, h3⟩
    · exact ⟨N, Nat.le_refl _, h, fun n hn hp => hx ⟨n, hn, hp⟩⟩
def wageN (a c d n : Int) : Int := mx (a * n / 1000 + (if n ≥ 8000 then d else 0)) c
theorem wageN_eq (a b c d e n : Int) (h : okRates a b c d e = true) (h0 : 0 ≤ n) (h1 : n ≤ 12000) : impl_Rates_wage.f a b c d e 0 0 n 0 0 = some (wageN a c d n) := by
  obtain ⟨ha, hb, hc, hd, he⟩ := (okRates_iff _ _ _ _ _).1 h
  unfold impl_Rates_wage.f impl_WorkSheet_right.f wageN
  have p0 : 0 ≤ a * n := Int.mul_nonneg ha.1 h0
  have p1 : a * n ≤ 10000 * 12000 := Int.mul_le_mul ha.2 h1 h0 (by omega)
  simp only [Option.bind_some, Int.sub_zero]
  have z1 : Int.tdiv 0 100 = 0 := by decide
  rw [z1, wrap_id n (by omega) (by omega), wrap_id (a * n) (by omega) (by omega), Int.mul_zero, wrap_id 0 (by omega) (by omega), Int.mul_zero, wrap_id 0 (by omega) (by omega)]
  rw [Int.tdiv_eq_ediv_of_nonneg p0]
  have q0 : 0 ≤ a * n / 1000 := by omega
  have q1 : a * n / 1000 ≤ 120000 := by omega
  rw [wrap_id (a * n / 1000) (by omega) (by omega), Int.add_zero, wrap_id (a * n / 1000) (by omega) (by omega), Int.sub_zero, wrap_id (a * n / 1000) (by omega) (by omega), wrap_id (a * n / 1000 + d) (by omega) (by omega)]
  by_cases h8 : n ≥ 8000
  · rw [if_pos h8, if_pos h8]
  · rw [if_neg h8, if_neg h8, Int.add_zero]
theorem wageN_mono (a c d n m : Int) (ha : 0 ≤ a) (hd : 0 ≤ d) (h : n ≤ m) : wageN a c d n ≤ wageN a c d m := by
  unfold wageN
  have h1 : a * n ≤ a * m := Int.mul_le_mul_of_nonneg_left h ha
  have h2 : a * n / 1000 ≤ a * m / 1000 := Int.ediv_le_ediv (by omega) h1
  have h3 : (if n ≥ 8000 then d else 0) ≤ (if m ≥ 8000 then d else 0) := by split <;> split <;> omega
  unfold mx
  split <;> split <;> omega
theorem knots_bin (a b c d e q : Int) (h : okRates a b c d e = true) (m : Int) (hm0 : 0 ≤ m) (hm1 : m ≤ 12000) (hm : wageN a c d m ≥ q) (hl : ∀ n, 0 ≤ n → n < m → wageN a c d n < q) :
    ∀ (f : Nat) (lo hi : Int), hi - lo ≤ f → 0 ≤ lo → lo ≤ m → m ≤ hi → hi ≤ 12000 → Ev (fun k => spec_KnotsForWage.l0 k q lo hi a b c d e) (m, true) := by
  obtain ⟨ha, hb, hc, hd, he⟩ := (okRates_iff _ _ _ _ _).1 h
  intro f
  induction f with
  | zero =>
    intro lo hi h1 h2 h3 h4 h5
    have : lo = m := by omega
    subst this
    exact Ev.step (fun k => by rw [spec_KnotsForWage.l0, if_neg (by omega)]) (Ev.now _)
  | succ f ih =>
    intro lo hi h1 h2 h3 h4 h5
    by_cases hlt : lo < hi
    · obtain ⟨x, hx⟩ : ∃ x, x = (lo + hi) / 2 := ⟨_, rfl⟩
      have e1 : wrap64 (Int.tdiv (wrap64 (lo + hi)) 2) = x := by
        rw [wrap_id (lo + hi) (by omega) (by omega), Int.tdiv_eq_ediv_of_nonneg (by omega), ← hx, wrap_id _ (by omega) (by omega)]
      have e2 : wrap64 (x + 1) = x + 1 := wrap_id _ (by omega) (by omega)
      by_cases hq : wageN a c d x ≥ q
      · have hmx : m ≤ x := by
          rcases Int.lt_or_le x m with h6 | h6
          · have := hl x (by omega) h6
            omega
          · exact h6
        exact Ev.step (fun k => by rw [spec_KnotsForWage.l0, if_pos hlt, e1, wage_same, wageN_eq a b c d e x h (by omega) (by omega), Option.bind_some, if_pos hq]) (ih lo x (by omega) h2 h3 hmx (by omega))
      · have hmx : x + 1 ≤ m := by
          rcases Int.lt_or_le x m with h6 | h6
          · omega
          · have := wageN_mono a c d m x ha.1 hd.1 h6
            omega
        exact Ev.step (fun k => by rw [spec_KnotsForWage.l0, if_pos hlt, e1, wage_same, wageN_eq a b c d e x h (by omega) (by omega), Option.bind_some, if_neg hq, e2]) (ih (x + 1) hi (by omega) (by omega) hmx h4 h5)
    · have : lo = m := by omega
      subst this
      exact Ev.step (fun k => by rw [spec_KnotsForWage.l0, if_neg hlt]) (Ev.now _)
theorem knots_lin (a b c d e q : Int) (h : okRates a b c d e = true) (m : Int) (hm1 : m ≤ 12000) (hm : wageN a c d m ≥ q) (hl : ∀ n, 0 ≤ n → n < m → wageN a c d n < q) :
    ∀ (f : Nat) (i : Int), m - i = f → 0 ≤ i → Ev (fun k => impl_KnotsForWage.l0 k q i a b c d e) (m, true) := by
  intro f
  induction f with
  | zero =>
    intro i h1 h2
    have : i = m := by omega
    subst this
    exact Ev.step (fun k => by rw [impl_KnotsForWage.l0, if_pos (by omega), wageN_eq a b c d e i h (by omega) (by omega), Option.bind_some, if_pos hm]) (Ev.now _)
  | succ f ih =>
    intro i h1 h2
    have h3 := hl i h2 (by omega)
    exact Ev.step (fun k => by rw [impl_KnotsForWage.l0, if_pos (by omega), wageN_eq a b c d e i h (by omega) (by omega), Option.bind_some, if_neg (by omega), wrap_id _ (by omega) (by omega)]) (ih (i + 1) (by omega) (by omega))
theorem knots_none (a b c d e q : Int) (h : okRates a b c d e = true) (hl : ∀ n, 0 ≤ n → n ≤ 12000 → wageN a c d n < q) :
    ∀ (f : Nat) (i : Int), 12001 - i = f → 0 ≤ i → Ev (fun k => impl_KnotsForWage.l0 k q i a b c d e) (0, false) := by
  intro f
  induction f with
  | zero =>
    intro i h1 h2
    exact Ev.step (fun k => by rw [impl_KnotsForWage.l0, if_neg (by omega)]) (Ev.now _)
  | succ f ih =>
    intro i h1 h2
    have h3 := hl i h2 (by omega)
    exact Ev.step (fun k => by rw [impl_KnotsForWage.l0, if_pos (by omega), wageN_eq a b c d e i h (by omega) (by omega), Option.bind_some, if_neg (by omega), wrap_id _ (by omega) (by omega)]) (ih (i + 1) (by omega) (by omega))
theorem KnotsForWage_same (a b c d e q : Int) : ∃ r : Int × Bool, Ev (fun k => spec_KnotsForWage.f k a b c d e q) r ∧ Ev (fun k => impl_KnotsForWage.f k a b c d e q) r ∧ (r.2 = true → okRates a b c d e = true ∧ (0 ≤ r.1 ∧ r.1 ≤ 12000) ∧ wageN a c d r.1 ≥ q ∧ ∀ n, 0 ≤ n → n < r.1 → wageN a c d n < q) := by
  have s0 : Ev (fun k => spec_KnotsForWage.j0 k q true a b c d e) (0, false) := Ev.step (fun k => by rw [spec_KnotsForWage.j0, if_pos rfl]) (Ev.now _)
  have i0 : Ev (fun k => impl_KnotsForWage.j0 k q true a b c d e) (0, false) := Ev.step (fun k => by rw [impl_KnotsForWage.j0, if_pos rfl]) (Ev.now _)
  unfold spec_KnotsForWage.f impl_KnotsForWage.f
  simp only [l14Rates_eq, AreRates_eq, l1In_eq, in_eq, wage_same, Option.bind_some]
  by_cases h : okRates a b c d e = true
  · obtain ⟨ha, hb, hc, hd, he⟩ := (okRates_iff _ _ _ _ _).1 h
    simp only [if_pos h]
    by_cases h2 : rng q 0 1000000 = true
    · simp only [if_pos h2, wageN_eq a b c d e 12000 h (by omega) (by omega), Option.bind_some, h2, if_true]
      by_cases h3 : wageN a c d 12000 < q
      · refine ⟨(0, false), ?_, ?_, fun h => by cases h⟩
        · simp only [decide_eq_true h3]
          exact s0
        · exact Ev.step (fun k => by rw [impl_KnotsForWage.j0, if_neg (by decide)]) (knots_none a b c d e q h (fun n hn hn2 => by have := wageN_mono a c d n 12000 ha.1 hd.1 hn2; omega) 12001 0 (by omega) (by omega))
      · obtain ⟨m, hm1, hm2, hm3⟩ := least (P := fun n : Nat => wageN a c d (n : Int) ≥ q) 12000 (by show wageN a c d ((12000 : Nat) : Int) ≥ q; have : ((12000 : Nat) : Int) = 12000 := rfl; rw [this]; omega)
        have hl : ∀ n : Int, 0 ≤ n → n < (m : Int) → wageN a c d n < q := fun n hn hn2 => by
          have := hm3 n.toNat (by omega)
          have e : ((n.toNat : Nat) : Int) = n := by omega
          simp only [e] at this
          omega
        refine ⟨((m : Int), true), ?_, ?_, fun _ => ⟨h, ⟨by dsimp only; omega, by dsimp only; omega⟩, hm2, hl⟩⟩
        · rw [decide_eq_false h3]
          exact Ev.step (fun k => by rw [spec_KnotsForWage.j0, if_neg (by decide)]) (knots_bin a b c d e q h m (by omega) (by omega) hm2 hl 12000 0 12000 (by omega) (by omega) (by omega) (by omega) (by omega))
        · exact Ev.step (fun k => by rw [impl_KnotsForWage.j0, if_neg (by decide)]) (knots_lin a b c d e q h m (by omega) hm2 hl m 0 (by omega) (by omega))
    · simp only [Bool.not_eq_true] at h2
      simp only [h2]
      exact ⟨(0, false), s0, i0, fun h => by cases h⟩
  · simp only [if_neg h]
    exact ⟨(0, false), s0, i0, fun h => by cases h⟩
theorem PayRoll_val (t : List WS) (hl : t.length ≤ 1048576) (a b c d e : Int) (hr : okRates a b c d e = true) (ht : areS t = true) : ∃ out : List Int, out.length ≤ 12 ∧ out.Pairwise (· < ·) ∧ (∀ i, i < t.length → (t.getD i z48).f0 ∈ out) ∧ Ev (fun k => spec_PayRoll.f k a b c d e t) (out, out.map (fun w => sumP (wV a b c d e) (fun x => decide (x.f0 = w)) t t.length), true) := by
  obtain ⟨h12, hok⟩ := areS_iff t ht
  obtain ⟨out, ⟨o1, o2, o3⟩, h1, _⟩ := weavers_two t hl
  refine ⟨out, by omega, o1, fun i hi => (o2 _).2 ?_, ?_⟩
  · unfold wsOf
    refine List.mem_map.2 ⟨_, ?_, rfl⟩
    rw [List.getD_eq_getElem?_getD, List.getElem?_eq_getElem hi]
    exact List.getElem_mem hi
  · have hv : ∀ w : Int, Ev (fun k => spec_l14Sum.f k a b c d e t w 0 4000) (sumP (wV a b c d e) (fun x => decide (x.f0 = w)) t t.length) := fun w => by
      rw [← sumP_congr (wV a b c d e) (fun x => decide (x.f0 = w) && rng x.f1 0 4000) (fun x => decide (x.f0 = w)) t t.length (fun i hi => by
        have h3 := hok i hi
        unfold okS at h3
        rw [okSheet_iff] at h3
        rw [(rng_iff _ _ _).2 h3.2.1, Bool.and_true])]
      exact sum_val t a b c d e w 0 4000 hr ht
    obtain ⟨S, hS⟩ : ∃ S : Int → Int, S = fun w => sumP (wV a b c d e) (fun x => decide (x.f0 = w)) t t.length := ⟨_, rfl⟩
    have hv2 : ∀ w : Int, Ev (fun k => spec_l14Sum.f k a b c d e t w 0 4000) (S w) := fun w => by rw [hS]; exact hv w
    rw [← hS]
    obtain ⟨r, hrr, h3⟩ := Ev.loopE (fun k i (s : List Int) => spec_PayRoll.l0 k t s out i a b c d e) out.length (fun i s => s = (out.take i).map S) (fun r => r = (out, out.map S, true))
      (fun s hs => ⟨(out, s, true), by rw [hs, List.take_length], Ev.step (f := fun _ => some (out, s, true)) (fun k => by rw [spec_PayRoll.l0, if_neg (by omega)]) (Ev.now _)⟩)
      (fun i s hi hs => by
        have e0 : rd out (i : Int) = out.getD i 0 := rfl
        have hsl : s.length ≤ 12 := by rw [hs, List.length_map, List.length_take]; omega
        refine ⟨s ++ [S (out.getD i 0)], by rw [take_succ_getD 0 out i hi, List.map_append, hs]; rfl, fun r h => ?_⟩
        refine Ev.step (fun k => by rw [spec_PayRoll.l0, if_pos (by omega), if_pos (by omega), e0]) (Ev.bind (hv2 _) ?_)
        simp only [if_pos (show s.length < 17592186044416 by omega)]
        rw [wrap_id ((i : Int) + 1) (by omega) (by omega)]
        exact h) [] rfl
    subst hrr
    have hg : Ev (fun k => spec_l14Good.f k t) (areS t) := l14Good_ev t (by omega)
    unfold spec_PayRoll.f
    simp only [l14Rates_eq, hr, if_true, Option.bind_some]
    refine Ev.bind hg ?_
    simp only [ht, Bool.not_true]
    exact Ev.step (fun k => by rw [spec_PayRoll.j0, if_neg (by decide)]) (Ev.bind h1 h3)
theorem PayRoll_no (t : List WS) (hl : t.length ≤ 1048576) (a b c d e : Int) (h : ¬ (okRates a b c d e = true ∧ areS t = true)) : ∃ r : List Int × List Int, Ev (fun k => spec_PayRoll.f k a b c d e t) (r.1, r.2, false) := by
  have hg : Ev (fun k => spec_l14Good.f k t) (areS t) := l14Good_ev t (by omega)
  have j : ∀ x : List Int, Ev (fun k => spec_PayRoll.j0 k t x true a b c d e) ([], x, false) := fun x => Ev.step (f := fun _ => some ([], x, false)) (fun k => by rw [spec_PayRoll.j0, if_pos rfl]) (Ev.now _)
  refine ⟨([], []), ?_⟩
  unfold spec_PayRoll.f
  cases hr : okRates a b c d e with
  | false => simp only [l14Rates_eq, hr, Bool.false_eq_true, if_false, Option.bind_some]; exact j []
  | true =>
    simp only [l14Rates_eq, hr, if_true, Option.bind_some]
    refine Ev.bind hg ?_
    cases ht : areS t with
    | false => simp only [Bool.not_false]; exact j []
    | true => exact absurd ⟨hr, ht⟩ h
theorem rSum_ev (l : List Int) (hl : l.length ≤ 12) (h : ∀ x ∈ l, 0 ≤ x ∧ x ≤ 4000000) : Ev (fun k => laws_rSum.f k l) l.sum := by
  unfold laws_rSum.f
  obtain ⟨r, hr, h2⟩ := Ev.loopE (fun k i (s : Int) => laws_rSum.l0 k l s i) l.length (fun i s => s = (l.take i).sum ∧ 0 ≤ s ∧ s ≤ 4000000 * (i : Int)) (fun r => r = l.sum)
    (fun s hs => ⟨s, by rw [hs.1, List.take_length], Ev.step (f := fun _ => some s) (fun k => by rw [laws_rSum.l0, if_neg (by omega)]) (Ev.now _)⟩)
    (fun i s hi hs => by
      obtain ⟨h1, h3, h4⟩ := hs
      have e0 : rd l (i : Int) = l.getD i 0 := rfl
      have hb := h (l.getD i 0) (by rw [List.getD_eq_getElem?_getD, List.getElem?_eq_getElem hi]; exact List.getElem_mem hi)
      refine ⟨s + l.getD i 0, ⟨by rw [take_succ_getD 0 l i hi, List.sum_append, h1, List.sum_cons, List.sum_nil, Int.add_zero], by omega, by omega⟩, fun r h => Ev.step (fun k => ?_) h⟩
      rw [laws_rSum.l0, if_pos (by omega), if_pos (by omega), e0, wrap_id (s + l.getD i 0) (by omega) (by omega), wrap_id ((i : Int) + 1) (by omega) (by omega)]) 0 ⟨by rw [List.take_zero]; rfl, Int.le_refl _, by omega⟩
  subst hr
  exact h2
theorem WageOf_eq (a b c d e : Int) (x : WS) : impl_WageOf.f a b c d e x.f0 x.f1 x.f2 x.f3 x.f4 = some (if (okRates a b c d e && okS x) = true then (wV a b c d e x, true) else (0, false)) := by
  unfold impl_WageOf.f okS
  rw [AreRates_eq, IsWorkSheet_eq, Option.bind_some, Option.bind_some, wV_eq, Option.bind_some]
  cases okRates a b c d e <;> cases okSheet x.f0 x.f1 x.f2 x.f3 x.f4 <;> rfl
theorem WageOf_spec (a b c d e : Int) (x : WS) : spec_WageOf.f a b c d e x.f0 x.f1 x.f2 x.f3 x.f4 = some (if (okRates a b c d e && okS x) = true then (wV a b c d e x, true) else (0, false)) := by
  unfold spec_WageOf.f okS
  rw [l14Rates_eq, l14One_eq, Option.bind_some, Option.bind_some, wage_same, wV_eq, Option.bind_some]
  cases okRates a b c d e <;> cases okSheet x.f0 x.f1 x.f2 x.f3 x.f4 <;> rfl
theorem WageOf_n (a b c d e n : Int) (h : okRates a b c d e = true) : impl_WageOf.f a b c d e 1 0 n 0 0 = some (if 0 ≤ n ∧ n ≤ 12000 then (wageN a c d n, true) else (0, false)) := by
  have q := WageOf_eq a b c d e ⟨1, 0, n, 0, 0⟩
  dsimp only at q
  rw [q]
  by_cases hn : 0 ≤ n ∧ n ≤ 12000
  · rw [if_pos hn, if_pos (by rw [h, Bool.true_and]; show okSheet 1 0 n 0 0 = true; exact (okSheet_iff _ _ _ _ _).2 (by omega))]
    have q1 := wV_eq a b c d e ⟨1, 0, n, 0, 0⟩
    have q2 : impl_Rates_wage.f a b c d e 1 0 n 0 0 = some (wageN a c d n) := wageN_eq a b c d e n h hn.1 hn.2
    rw [Option.some.inj (q1.symm.trans q2)]
  · rw [if_neg hn, if_neg (by
      rw [h, Bool.true_and]
      show ¬ okSheet 1 0 n 0 0 = true
      intro hx
      have := (okSheet_iff _ _ _ _ _).1 hx
      exact hn ⟨this.2.2.1.1, this.2.2.1.2⟩)]
theorem low8 (y : Int) : 0 ≤ Go.bits .and .u64 y 255 ∧ Go.bits .and .u64 y 255 ≤ 255 := by
  have h : ((BitVec.ofInt 64 y) &&& (BitVec.ofInt 64 255)).toNat ≤ 255 := by
    rw [BitVec.toNat_and]
    exact Nat.le_trans Nat.and_le_right (by decide)
  have e : Go.bits .and .u64 y 255 = IntKind.u64.wrap ((((BitVec.ofInt 64 y) &&& (BitVec.ofInt 64 255)).toNat : Nat) : Int) := rfl
  have e2 : ∀ n : Nat, n ≤ 255 → IntKind.u64.wrap (n : Int) = (n : Int) := fun n hn => by
    show (n : Int) % 18446744073709551616 = (n : Int)
    omega
  rw [e, e2 _ h]
  omega
def codeOk (code : List Int) : Prop := code.length ≤ 70000 ∧ ∀ i : Int, 0 ≤ rd code i ∧ rd code i ≤ 255
theorem codeOk_of (code : List Int) (hl : code.length ≤ 70000) (h : ∀ x ∈ code, (Lit.int .u8 x).wf = true) : codeOk code := by
  refine ⟨hl, fun i => ?_⟩
  unfold rd
  rw [List.getD_eq_getElem?_getD]
  by_cases c : i.toNat < code.length
  · rw [List.getElem?_eq_getElem c]
    have := h _ (List.getElem_mem c)
    have h3 : (decide (IntKind.u8.min ≤ code[i.toNat]) && decide (code[i.toNat] ≤ IntKind.u8.max)) = true := this
    rw [Bool.and_eq_true, decide_eq_true_iff, decide_eq_true_iff, show IntKind.u8.min = 0 by decide, show IntKind.u8.max = 255 by decide] at h3
    exact h3
  · rw [List.getElem?_eq_none (by omega)]
    exact ⟨by decide, by decide⟩
theorem next_ok (code : List Int) (hc : codeOk code) (at_ seed : Int) (h0 : 0 ≤ at_) (h1 : at_ ≤ 1000000) : ∃ x s, spec_l1Cur_next.f code at_ seed = some (x, at_ + 1, s) ∧ 0 ≤ x ∧ x ≤ 255 := by
  have hw : wrap64 (at_ + 1) = at_ + 1 := wrap_id _ (by omega) (by omega)
  have hb := hc.2 at_
  unfold spec_l1Cur_next.f
  rw [hw]
  by_cases c : at_ < (code.length : Int)
  · rw [if_pos c, if_pos h0, if_pos (by omega)]
    exact ⟨_, _, rfl, by rw [wrap_id _ (by omega) (by omega)]; exact hb⟩
  · rw [if_neg c, if_neg (by omega)]
    refine ⟨_, _, rfl, ?_⟩
    have := low8 ((IntKind.u64.wrap ((IntKind.u64.wrap ((IntKind.u64.wrap (seed * 6364136223846793005)))) + 102323)) / 1099511627776)
    rw [wrap_id _ (by omega) (by omega)]
    exact this
theorem pick_ok (code : List Int) (hc : codeOk code) (at_ seed n : Int) (h0 : 0 ≤ at_) (h1 : at_ ≤ 900000) (hn : n ≤ 1000000) : ∃ x a s, spec_l1Cur_pick.f code at_ seed n = some (x, a, s) ∧ 0 ≤ x ∧ (x < n ∨ x = 0) ∧ at_ ≤ a ∧ a ≤ at_ + 2 := by
  unfold spec_l1Cur_pick.f
  by_cases c : n ≤ 1
  · exact ⟨0, at_, seed, by rw [if_pos c], by omega, .inr rfl, by omega, by omega⟩
  · rw [if_neg c]
    obtain ⟨x, s, e, x0, x1⟩ := next_ok code hc at_ seed h0 (by omega)
    rw [e, Option.bind_some]
    dsimp only
    by_cases c2 : n > 200
    · rw [if_pos c2]
      obtain ⟨y, s2, e2, y0, y1⟩ := next_ok code hc (at_ + 1) s (by omega) (by omega)
      rw [e2, Option.bind_some, if_neg (by omega)]
      dsimp only
      rw [wrap_id (x * 256) (by omega) (by omega), wrap_id (x * 256 + y) (by omega) (by omega)]
      exact ⟨_, _, _, rfl, Int.tmod_nonneg _ (by omega), .inl (Int.tmod_lt_of_pos _ (by omega)), by omega, by omega⟩
    · rw [if_neg c2, if_neg (by omega)]
      exact ⟨_, _, _, rfl, Int.tmod_nonneg _ x0, .inl (Int.tmod_lt_of_pos _ (by omega)), by omega, by omega⟩
theorem among_ok (code : List Int) (hc : codeOk code) (at_ seed : Int) (l : List Int) (hl : 0 < l.length ∧ l.length ≤ 1000) (h0 : 0 ≤ at_) (h1 : at_ ≤ 900000) : ∃ x a s, spec_l1Cur_among.f code at_ seed l = some (x, a, s) ∧ x ∈ l ∧ at_ ≤ a ∧ a ≤ at_ + 2 := by
  unfold spec_l1Cur_among.f
  obtain ⟨x, a, s, e, x0, x1, a0, a1⟩ := pick_ok code hc at_ seed (l.length : Int) h0 h1 (by omega)
  rw [e, Option.bind_some]
  dsimp only
  have hx : x < (l.length : Int) := by omega
  rw [if_pos x0, if_pos hx]
  refine ⟨_, a, s, rfl, ?_, a0, a1⟩
  show l.getD x.toNat 0 ∈ l
  rw [List.getD_eq_getElem?_getD, List.getElem?_eq_getElem (by omega)]
  exact List.getElem_mem (by omega)
theorem one_ok (code : List Int) (hc : codeOk code) (at_ seed n : Int) (h0 : 0 ≤ at_) (h1 : at_ ≤ 900000) (hn : n ≤ 1000000) : ∃ x a s, spec_l1Cur_one.f code at_ seed n = some (x, a, s) ∧ at_ ≤ a ∧ a ≤ at_ + 2 := by
  unfold spec_l1Cur_one.f
  obtain ⟨x, a, s, e, _, _, a0, a1⟩ := pick_ok code hc at_ seed n h0 h1 hn
  rw [e, Option.bind_some]
  exact ⟨_, a, s, rfl, a0, a1⟩
theorem rates_ok (code : List Int) (hc : codeOk code) (at_ seed : Int) (h0 : 0 ≤ at_) (h1 : at_ ≤ 800000) : ∃ a b c d e p s, spec_l1Cur_rates14.f code at_ seed = some (a, b, c, d, e, p, s) ∧ at_ ≤ p ∧ p ≤ at_ + 14 := by
  obtain ⟨x1, p1, s1, e1, _, u1, v1⟩ := among_ok code hc at_ seed [0, 250, 333, 10000] (by decide) h0 (by omega)
  obtain ⟨x2, p2, s2, e2, _, u2, v2⟩ := among_ok code hc p1 s1 [0, 900] (by decide) (by omega) (by omega)
  obtain ⟨x3, p3, s3, e3, _, u3, v3⟩ := among_ok code hc p2 s2 [0, 1000, 10000] (by decide) (by omega) (by omega)
  obtain ⟨x4, p4, s4, e4, _, u4, v4⟩ := among_ok code hc p3 s3 [0, 500] (by decide) (by omega) (by omega)
  obtain ⟨x5, p5, s5, e5, _, u5, v5⟩ := among_ok code hc p4 s4 [0, 100, 10000] (by decide) (by omega) (by omega)
  obtain ⟨x, q, s, f, x0, xx, q0, q1⟩ := pick_ok code hc p5 s5 60 (by omega) (by omega) (by omega)
  obtain ⟨y0, b0, t0, f0, _, w0, g0⟩ := among_ok code hc q s [(-1), 10001] (by decide) (by omega) (by omega)
  unfold spec_l1Cur_rates14.f
  simp only [e1, e2, e3, e4, e5, f, f0, Option.bind_some]
  by_cases c0 : x = 0
  · simp only [if_pos c0]
    exact ⟨_, _, _, _, _, _, _, rfl, by omega, by omega⟩
  · simp only [if_neg c0]
    by_cases c1 : x = 1
    · simp only [if_pos c1]
      exact ⟨_, _, _, _, _, _, _, rfl, by omega, by omega⟩
    · simp only [if_neg c1]
      by_cases c2 : x = 2
      · simp only [if_pos c2]
        exact ⟨_, _, _, _, _, _, _, rfl, by omega, by omega⟩
      · simp only [if_neg c2]
        by_cases c3 : x = 3
        · simp only [if_pos c3]
          exact ⟨_, _, _, _, _, _, _, rfl, by omega, by omega⟩
        · simp only [if_neg c3]
          by_cases c4 : x = 4
          · simp only [if_pos c4]
            exact ⟨_, _, _, _, _, _, _, rfl, by omega, by omega⟩
          · simp only [if_neg c4]
            exact ⟨_, _, _, _, _, _, _, rfl, by omega, by omega⟩
theorem l1Least_two (a b : Int) : spec_l1Least.f a b = some (if a < b then a else b) := by
  unfold spec_l1Least.f
  split <;> rfl
theorem sheet_ok (code : List Int) (hc : codeOk code) (at_ seed day who : Int) (h0 : 0 ≤ at_) (h1 : at_ ≤ 800000) : ∃ a b c d e p s, spec_l1Cur_workSheet.f code at_ seed day who = some (a, b, c, d, e, p, s) ∧ at_ ≤ p ∧ p ≤ at_ + 12 := by
  obtain ⟨x1, p1, s1, e1, _, u1, v1⟩ := among_ok code hc at_ seed [0, 500, 7999, 8000, 8100, 12000] (by decide) h0 (by omega)
  obtain ⟨x2, p2, s2, e2, _, u2, v2⟩ := among_ok code hc p1 s1 [0, 0, 3, 12] (by decide) (by omega) (by omega)
  obtain ⟨x3, p3, s3, e3, _, u3, v3⟩ := among_ok code hc p2 s2 [0, 0, 99, 100, 250, 12000] (by decide) (by omega) (by omega)
  obtain ⟨x, q, s, f, x0, xx, q0, q1⟩ := pick_ok code hc p3 s3 80 (by omega) (by omega) (by omega)
  obtain ⟨y0, b0, t0, f0, _, w0, g0⟩ := among_ok code hc q s [0, 99, 100] (by decide) (by omega) (by omega)
  obtain ⟨y1, b1, t1, f1, _, w1, g1⟩ := among_ok code hc q s [(-1), 4001] (by decide) (by omega) (by omega)
  obtain ⟨y2, b2, t2, f2, _, w2, g2⟩ := among_ok code hc q s [(-1), 12001] (by decide) (by omega) (by omega)
  obtain ⟨y3, b3, t3, f3, _, w3, g3⟩ := among_ok code hc q s [(-1), wrap64 (x1 + 1)] ⟨by simp, by simp⟩ (by omega) (by omega)
  obtain ⟨y4, b4, t4, f4, _, w4, g4⟩ := among_ok code hc q s [(-1), 13] (by decide) (by omega) (by omega)
  unfold spec_l1Cur_workSheet.f
  simp only [e1, e2, e3, f, l1Least_two, Option.bind_some]
  by_cases c0 : x = 0
  · simp only [if_pos c0, f0, Option.bind_some]
    exact ⟨_, _, _, _, _, _, _, rfl, by omega, by omega⟩
  · simp only [if_neg c0]
    by_cases c1 : x = 1
    · simp only [if_pos c1, f1, Option.bind_some]
      exact ⟨_, _, _, _, _, _, _, rfl, by omega, by omega⟩
    · simp only [if_neg c1]
      by_cases c2 : x = 2
      · simp only [if_pos c2, f2, Option.bind_some]
        exact ⟨_, _, _, _, _, _, _, rfl, by omega, by omega⟩
      · simp only [if_neg c2]
        by_cases c3 : x = 3
        · simp only [if_pos c3, f3, Option.bind_some]
          exact ⟨_, _, _, _, _, _, _, rfl, by omega, by omega⟩
        · simp only [if_neg c3]
          by_cases c4 : x = 4
          · simp only [if_pos c4, f4, Option.bind_some]
            exact ⟨_, _, _, _, _, _, _, rfl, by omega, by omega⟩
          · simp only [if_neg c4]
            exact ⟨_, _, _, _, _, _, _, rfl, by omega, by omega⟩
theorem sheets_l1 (code : List Int) (hc : codeOk code) (d : Nat) : ∀ (i : Nat) (xs : List WS) (at_ seed : Int), xs.length = i → i + d = 14 → 0 ≤ at_ → at_ + 10 * (d : Int) ≤ 500000 → ∃ (ys : List WS) (p s : Int), ys.length ≤ 20 ∧ (at_ ≤ p ∧ p ≤ at_ + 10 * (d : Int) + 10) ∧ Ev (fun k => spec_l1Cur_workSheets.l1 k xs (i : Int) code at_ seed) (ys, p, s) := by
  induction d with
  | zero =>
    intro i xs at_ seed hx hi a0 a1
    obtain ⟨t, p, s, e, t0, t1, u, v⟩ := pick_ok code hc at_ seed 2 a0 (by omega) (by omega)
    refine ⟨xs, p, s, by omega, ⟨by omega, by omega⟩, Ev.step (f := fun _ => some (xs, p, s)) (fun k => ?_) (Ev.now _)⟩
    rw [spec_l1Cur_workSheets.l1, e, Option.bind_some]
    dsimp only
    rw [wrap_id (12 + t) (by omega) (by omega), if_neg (by omega)]
  | succ d ih =>
    intro i xs at_ seed hx hi a0 a1
    obtain ⟨t, p, s, e, t0, t1, u, v⟩ := pick_ok code hc at_ seed 2 a0 (by omega) (by omega)
    by_cases c : (i : Int) < 12 + t
    · obtain ⟨ys, p2, s2, g1, g2, g3⟩ := ih (i + 1) (xs ++ [⟨wrap64 (1 + (i : Int)), 5, wrap64 (100 * (i : Int)), 0, 0⟩]) p s (by rw [List.length_append, List.length_singleton]; omega) (by omega) (by omega) (by omega)
      rw [show ((i + 1 : Nat) : Int) = (i : Int) + 1 by omega] at g3
      refine ⟨ys, p2, s2, g1, ⟨by omega, by omega⟩, Ev.step (fun k => ?_) g3⟩
      rw [spec_l1Cur_workSheets.l1, e, Option.bind_some]
      dsimp only
      rw [wrap_id (12 + t) (by omega) (by omega), if_pos c, if_pos (by omega), wrap_id ((i : Int) + 1) (by omega) (by omega)]
    · refine ⟨xs, p, s, by omega, ⟨by omega, by omega⟩, Ev.step (f := fun _ => some (xs, p, s)) (fun k => ?_) (Ev.now _)⟩
      rw [spec_l1Cur_workSheets.l1, e, Option.bind_some]
      dsimp only
      rw [wrap_id (12 + t) (by omega) (by omega), if_neg c]
theorem sheets_l0 (code : List Int) (hc : codeOk code) (n : Nat) : ∀ (xs : List WS) (day who at_ seed : Int), xs.length + n ≤ 9 → 0 ≤ at_ → at_ + 40 * (n : Int) ≤ 1000 → ∃ (ys : List WS) (p s : Int), ys.length ≤ 20 ∧ (0 ≤ p ∧ p ≤ 2000) ∧ Ev (fun k => spec_l1Cur_workSheets.l0 k xs day who (n : Int) code at_ seed) (ys, p, s) := by
  induction n with
  | zero =>
    intro xs day who at_ seed hx a0 a1
    obtain ⟨o, p, s, e, u, v⟩ := one_ok code hc at_ seed 24 a0 (by omega) (by omega)
    cases o with
    | true =>
      obtain ⟨ys, p2, s2, g1, g2, g3⟩ := sheets_l1 code hc 14 0 [] p s rfl (by omega) (by omega) (by omega)
      refine ⟨ys, p2, s2, g1, ⟨by omega, by omega⟩, Ev.step (fun k => ?_) g3⟩
      rw [spec_l1Cur_workSheets.l0, if_neg (by omega), e, Option.bind_some]
      dsimp only
      rw [if_pos rfl]
      rfl
    | false =>
      refine ⟨xs, p, s, by omega, ⟨by omega, by omega⟩, Ev.step (f := fun _ => some (xs, p, s)) (fun k => ?_) (Ev.now _)⟩
      rw [spec_l1Cur_workSheets.l0, if_neg (by omega), e, Option.bind_some]
      dsimp only
      rw [if_neg (by decide)]
  | succ n ih =>
    intro xs day who at_ seed hx a0 a1
    obtain ⟨a, b, c, d, e, p1, s1, e1, u1, v1⟩ := sheet_ok code hc at_ seed day who a0 (by omega)
    obtain ⟨x2, p2, s2, e2, _, _, u2, v2⟩ := pick_ok code hc p1 s1 2 (by omega) (by omega) (by omega)
    obtain ⟨x3, p3, s3, e3, _, _, u3, v3⟩ := pick_ok code hc p2 s2 80 (by omega) (by omega) (by omega)
    obtain ⟨o, p4, s4, e4, u4, v4⟩ := one_ok code hc p3 s3 2 (by omega) (by omega) (by omega)
    obtain ⟨x5, p5, s5, e5, _, u5, v5⟩ := among_ok code hc p4 s4 [1, 5] (by decide) (by omega) (by omega)
    obtain ⟨x6, p6, s6, e6, _, _, u6, v6⟩ := pick_ok code hc p5 s5 3 (by omega) (by omega) (by omega)
    have hl2 : (xs ++ [(⟨a, b, c, d, e⟩ : WS)]).length = xs.length + 1 := by rw [List.length_append, List.length_singleton]
    have en : ((n + 1 : Nat) : Int) - 1 = (n : Int) := by omega
    have ew : wrap64 (((n + 1 : Nat) : Int) - 1) = (n : Int) := by rw [wrap_id (((n + 1 : Nat) : Int) - 1) (by omega) (by omega), en]
    cases o with
    | true =>
      obtain ⟨ys, p7, s7, g1, g2, g3⟩ := ih (xs ++ [⟨a, b, c, d, e⟩]) (wrap64 (day + x5)) (wrap64 (1 + x6)) p6 s6 (by omega) (by omega) (by omega)
      refine ⟨ys, p7, s7, g1, g2, Ev.step (fun k => ?_) g3⟩
      rw [spec_l1Cur_workSheets.l0, if_pos (by omega), e1]
      simp only [Option.bind_some, if_pos (show xs.length < 3518437208883 by omega), e2, e3, e4, e5, e6, if_true, ew]
    | false =>
      obtain ⟨ys, p7, s7, g1, g2, g3⟩ := ih (xs ++ [⟨a, b, c, d, e⟩]) day (wrap64 ((wrap64 ((wrap64 (who + 1)) + x2)) - (wrap64 (Int.tdiv x3 79)))) p4 s4 (by omega) (by omega) (by omega)
      refine ⟨ys, p7, s7, g1, g2, Ev.step (fun k => ?_) g3⟩
      rw [spec_l1Cur_workSheets.l0, if_pos (by omega), e1]
      simp only [Option.bind_some, if_pos (show xs.length < 3518437208883 by omega), e2, e3, e4, Bool.false_eq_true, if_false, ew]
theorem sheets_ok (code : List Int) (hc : codeOk code) (at_ seed : Int) (a0 : 0 ≤ at_) (a1 : at_ ≤ 300) : ∃ (l : List WS) (p s : Int), l.length ≤ 20 ∧ (0 ≤ p ∧ p ≤ 2000) ∧ Ev (fun k => spec_l1Cur_workSheets.f k code at_ seed) (l, p, s) := by
  obtain ⟨x, p1, s1, e1, _, u1, v1⟩ := among_ok code hc at_ seed [0, 10, 3990] (by decide) a0 (by omega)
  obtain ⟨n, p, s, e, n0, n1, u, v⟩ := pick_ok code hc p1 s1 9 (by omega) (by omega) (by omega)
  obtain ⟨m, rfl⟩ := Int.eq_ofNat_of_zero_le n0
  obtain ⟨l, p2, s2, g1, g2, g3⟩ := sheets_l0 code hc m [] x 1 p s (by simp; omega) (by omega) (by omega)
  refine ⟨l, p2, s2, g1, g2, ?_⟩
  unfold spec_l1Cur_workSheets.f
  simp only [e1, e, Option.bind_some]
  exact g3
theorem cut_ok (code : List Int) (hc : codeOk code) (at_ seed : Int) (y : List Int) (b : Int) (hb : 1 ≤ b ∧ b + 2 ≤ (y.length : Int)) (hy : y.length ≤ 1000) (h0 : 0 ≤ at_) (h1 : at_ ≤ 800000) : ∃ x a s v c t, spec_l1Cur_pick.f code at_ seed 24 = some (x, a, s) ∧ wrap64 (b + wrap64 (Int.tdiv x 11)) = c ∧ 0 ≤ c ∧ c ≤ (y.length : Int) ∧ (∃ a2, spec_l1Cur_among.f code a s (y.take c.toNat) = some (v, a2, t) ∧ at_ ≤ a2 ∧ a2 ≤ at_ + 4) := by
  obtain ⟨x, a, s, e, x0, x1, a0, a1⟩ := pick_ok code hc at_ seed 24 h0 (by omega) (by omega)
  have hd0 : 0 ≤ Int.tdiv x 11 := Int.tdiv_nonneg x0 (by decide)
  have hd1 : Int.tdiv x 11 ≤ 2 := by
    rw [Int.tdiv_eq_ediv_of_nonneg x0]
    omega
  have ew : wrap64 (b + wrap64 (Int.tdiv x 11)) = b + Int.tdiv x 11 := by
    rw [wrap_id (Int.tdiv x 11) (by omega) (by omega), wrap_id _ (by omega) (by omega)]
  have hlen : (y.take (b + Int.tdiv x 11).toNat).length = (b + Int.tdiv x 11).toNat := by rw [List.length_take]; omega
  obtain ⟨v, a2, t, e2, _, b0, b1⟩ := among_ok code hc a s (y.take (b + Int.tdiv x 11).toNat) ⟨by omega, by omega⟩ (by omega) (by omega)
  exact ⟨x, a, s, v, b + Int.tdiv x 11, t, e, ew, by omega, by omega, a2, e2, by omega, by omega⟩
theorem cut23 (code : List Int) (hc : codeOk code) (at_ seed : Int) (y : List Int) (b : Int) (hb : 1 ≤ b ∧ b + 2 ≤ (y.length : Int) + 1) (hy : y.length ≤ 1000) (h0 : 0 ≤ at_) (h1 : at_ ≤ 800000) : ∃ x a s v c t, spec_l1Cur_pick.f code at_ seed 24 = some (x, a, s) ∧ wrap64 (b + wrap64 (Int.tdiv x 23)) = c ∧ 0 ≤ c ∧ c ≤ (y.length : Int) ∧ (∃ a2, spec_l1Cur_among.f code a s (y.take c.toNat) = some (v, a2, t) ∧ at_ ≤ a2 ∧ a2 ≤ at_ + 4) := by
  obtain ⟨x, a, s, e, x0, x1, a0, a1⟩ := pick_ok code hc at_ seed 24 h0 (by omega) (by omega)
  have hd0 : 0 ≤ Int.tdiv x 23 := Int.tdiv_nonneg x0 (by decide)
  have hd1 : Int.tdiv x 23 ≤ 1 := by
    rw [Int.tdiv_eq_ediv_of_nonneg x0]
    omega
  have ew : wrap64 (b + wrap64 (Int.tdiv x 23)) = b + Int.tdiv x 23 := by
    rw [wrap_id (Int.tdiv x 23) (by omega) (by omega), wrap_id _ (by omega) (by omega)]
  have hlen : (y.take (b + Int.tdiv x 23).toNat).length = (b + Int.tdiv x 23).toNat := by rw [List.length_take]; omega
  obtain ⟨v, a2, t, e2, _, b0, b1⟩ := among_ok code hc a s (y.take (b + Int.tdiv x 23).toNat) ⟨by omega, by omega⟩ (by omega) (by omega)
  exact ⟨x, a, s, v, b + Int.tdiv x 23, t, e, ew, by omega, by omega, a2, e2, by omega, by omega⟩
theorem drawPay (code : List Int) (hc : codeOk code) : ∃ (a b c d e : Int) (t : List WS), t.length ≤ 20 ∧ Ev (fun k => spec_DrawPayRoll.f k code) (a, b, c, d, e, t) := by
  obtain ⟨a, b, c, d, e, p, s, e1, u, v⟩ := rates_ok code hc 0 0 (by omega) (by omega)
  obtain ⟨l, p2, s2, h1, h2, h3⟩ := sheets_ok code hc p s (by omega) (by omega)
  refine ⟨a, b, c, d, e, l, h1, ?_⟩
  unfold spec_DrawPayRoll.f
  simp only [e1, Option.bind_some]
  exact Ev.bind h3 (Ev.now _)
theorem drawCents (code : List Int) (hc : codeOk code) : ∃ (a b c d e q : Int), spec_DrawKnotsForWage.f code = some (a, b, c, d, e, q) := by
  obtain ⟨a, b, c, d, e, p, s, e1, u, v⟩ := rates_ok code hc 0 0 (by omega) (by omega)
  obtain ⟨x, a', s3, w, c', t, g1, g2, c0, c1, a2, g3, _⟩ := cut_ok code hc p s [0, 1, 1000, 2500, 3000, 90000, 1000000, (-1), 1000001] 7 (by decide) (by decide) (by omega) (by omega)
  refine ⟨a, b, c, d, e, w, ?_⟩
  unfold spec_DrawKnotsForWage.f
  simp only [e1, Option.bind_some, g1, g2, if_pos c0, if_pos c1, g3]
theorem drawBetween (code : List Int) (hc : codeOk code) : ∃ (a b c d e : Int) (t : List WS) (w f g : Int), t.length ≤ 20 ∧ Ev (fun k => spec_DrawWagesBetween.f k code) (a, b, c, d, e, t, w, f, g) := by
  obtain ⟨a, b, c, d, e, p, s, e1, u, v⟩ := rates_ok code hc 0 0 (by omega) (by omega)
  obtain ⟨l, p2, s2, h1, h2, h3⟩ := sheets_ok code hc p s (by omega) (by omega)
  obtain ⟨x, q, s3, w, c', t, g1, g2, c0, c1, a2, g3, q0, q1⟩ := cut_ok code hc p2 s2 [1, 1, 2, 3, 99, 0, 100] 5 (by decide) (by decide) (by omega) (by omega)
  obtain ⟨x', q', s3', w', d', t', g1', g2', c0', c1', a2', g3', q0', q1'⟩ := cut_ok code hc a2 t [0, 0, 10, 12, (-1), 4001] 4 (by decide) (by decide) (by omega) (by omega)
  obtain ⟨y, r, s5, w2, d2, t2, k1, k2, m0, m1, a3, k3, _⟩ := cut23 code hc a2' t' [10, 20, 4000, 4000, 0, 4001] 5 (by decide) (by decide) (by omega) (by omega)
  refine ⟨a, b, c, d, e, l, w, w', w2, h1, ?_⟩
  unfold spec_DrawWagesBetween.f
  simp only [e1, Option.bind_some]
  refine Ev.bind h3 ?_
  simp only [Option.bind_some, g1, g2, if_pos c0, if_pos c1, g3, g1', g2', if_pos c0', if_pos c1', g3', k1, k2, if_pos m0, if_pos m1, k3]
  exact Ev.now _
theorem drawWage (code : List Int) (hc : codeOk code) : ∃ (a b c d e f g h i j : Int), spec_DrawWageOf.f code = some (a, b, c, d, e, f, g, h, i, j) := by
  obtain ⟨a, b, c, d, e, p, s, e1, u, v⟩ := rates_ok code hc 0 0 (by omega) (by omega)
  obtain ⟨f, g, h, i, j, p2, s2, e2, _, _⟩ := sheet_ok code hc p s 5 5 (by omega) (by omega)
  refine ⟨a, b, c, d, e, f, g, h, i, j, ?_⟩
  unfold spec_DrawWageOf.f
  rw [e1, Option.bind_some]
  dsimp only
  rw [e2]
  rfl
theorem rng_split (f g : Int) : (rng f 0 4000 && (rng g 0 4000 && !decide (f > g))) = (rng g 0 4000 && rng f 0 g) := by
  rw [Bool.eq_iff_iff]
  simp only [Bool.and_eq_true, rng_iff, Bool.not_eq_true', decide_eq_false_iff_not]
  omega
theorem Wages_same (t : List WS) (hl : t.length ≤ 2000000) (a b c d e w f g : Int) : ∃ r : Int × Bool, Ev (fun k => spec_WagesBetween.f k a b c d e t w f g) r ∧ Ev (fun k => impl_WagesBetween.f k a b c d e t w f g) r ∧ (r = (0, false) ∨ okRates a b c d e = true ∧ areS t = true ∧ Ev (fun k => spec_l14Sum.f k a b c d e t w f g) r.1) := by
  obtain ⟨K, hg⟩ := l14Good_ev t hl
  obtain ⟨v, h1, K2, h2⟩ := Wages_loops t hl a b c d e w f g
  have h1' : Ev (fun k => spec_l14Sum.f k a b c d e t w f g) v := h1
  have h1e := h1'
  obtain ⟨K1, h1'⟩ := h1'
  dsimp only at hg h1' h2
  have jt : ∀ k, impl_WagesBetween.j0 (k + 1) t w f g true a b c d e = some (0, false) := fun k => by rw [impl_WagesBetween.j0, if_pos rfl]
  have jf : ∀ k, K2 ≤ k → impl_WagesBetween.j0 (k + 1) t w f g false a b c d e = some (v, true) := fun k hk => by rw [impl_WagesBetween.j0, if_neg (by decide)]; exact h2 k hk
  have hS : ∀ k, K + K1 ≤ k → spec_WagesBetween.f k a b c d e t w f g = some (if (okRates a b c d e && (areS t && (rng w 1 99 && (rng g 0 4000 && rng f 0 g)))) = true then (v, true) else (0, false)) := fun k hk => by
    unfold spec_WagesBetween.f spec_l2Day.f
    rw [l14Rates_eq, hg k (by omega)]
    simp only [l1In_eq, Option.bind_some]
    rw [h1' k (by omega)]
    simp only [Option.bind_some]
    show (if okRates a b c d e = true then (if areS t = true then _ else _) else _) = _
    cases okRates a b c d e <;> cases areS t <;> cases rng w 1 99 <;> cases rng g 0 4000 <;> cases rng f 0 g <;> rfl
  have hI : ∀ k, K2 ≤ k → impl_WagesBetween.f (k + 1) a b c d e t w f g = some (if (okRates a b c d e && (areS t && (rng w 1 99 && (rng f 0 4000 && (rng g 0 4000 && !decide (f > g)))))) = true then (v, true) else (0, false)) := fun k hk => by
    unfold impl_WagesBetween.f impl_isId.f impl_isDay.f
    rw [AreRates_eq, AreSheets_eq]
    simp only [in_eq, Option.bind_some, jt]
    show (if okRates a b c d e = true then (if areS t = true then _ else _) else _) = _
    by_cases hfg : f > g
    · rw [decide_eq_true hfg, jt]
      cases okRates a b c d e <;> cases areS t <;> cases rng w 1 99 <;> cases rng g 0 4000 <;> cases rng f 0 4000 <;> rfl
    · rw [decide_eq_false hfg, jf k hk]
      cases okRates a b c d e <;> cases areS t <;> cases rng w 1 99 <;> cases rng g 0 4000 <;> cases rng f 0 4000 <;> rfl
  simp only [rng_split] at hI
  refine ⟨_, ⟨_, hS⟩, ⟨K2 + 1, fun k hk => by obtain ⟨m, rfl⟩ : ∃ m, k = m + 1 := ⟨k - 1, by omega⟩; exact hI m (by omega)⟩, ?_⟩
  by_cases cc : (okRates a b c d e && (areS t && (rng w 1 99 && (rng g 0 4000 && rng f 0 g)))) = true
  · rw [if_pos cc]
    rw [Bool.and_eq_true, Bool.and_eq_true] at cc
    exact .inr ⟨cc.1, cc.2.1, h1e⟩
  · rw [if_neg cc]
    exact .inl rfl
theorem rInts_ev (l : List Int) (hl : l.length ≤ 1000) : Ev (fun k => laws_rInts.f k l l) true := by
  refine Ev.congr (f := fun k => laws_rInts.l0 k l l 0) (fun k => by unfold laws_rInts.f; rw [if_pos rfl]) ?_
  obtain ⟨r, hr, h⟩ := Ev.loopE (fun k i (_ : Unit) => laws_rInts.l0 k l l i) l.length (fun _ _ => True) (fun r => r = true)
    (fun s _ => ⟨true, rfl, Ev.step (f := fun _ => some true) (fun k => by rw [laws_rInts.l0, if_neg (by omega)]) (Ev.now true)⟩)
    (fun i s hi _ => ⟨(), trivial, fun r h => Ev.step (fun k => by rw [laws_rInts.l0, if_pos (by omega), if_pos (by omega), if_pos (by omega), if_pos rfl, wrap_id _ (by omega) (by omega)]) h⟩) () trivial
  subst hr
  exact h
theorem rHas_l0 (l : List Int) (a : Int) (hl : l.length ≤ 1000) (d : Nat) : ∀ i : Nat, i + d = l.length → Ev (fun k => laws_rHas.l0 k l a (i : Int)) (decide (a ∈ l.drop i)) := by
  induction d with
  | zero =>
    intro i hi
    rw [List.drop_eq_nil_of_le (by omega), decide_eq_false (by simp)]
    exact Ev.step (f := fun _ => some false) (fun k => by rw [laws_rHas.l0, if_neg (by omega)]) (Ev.now _)
  | succ d ih =>
    intro i hi
    have e : l.drop i = rd l (i : Int) :: l.drop (i + 1) := by
      rw [List.drop_eq_getElem_cons (show i < l.length by omega)]
      show _ = l.getD i 0 :: _
      rw [List.getD_eq_getElem?_getD, List.getElem?_eq_getElem (by omega)]
      rfl
    rw [e]
    by_cases c : rd l (i : Int) = a
    · rw [decide_eq_true (by rw [c]; exact List.mem_cons_self ..)]
      exact Ev.step (f := fun _ => some true) (fun k => by rw [laws_rHas.l0, if_pos (by omega), if_pos (by omega), if_pos c]) (Ev.now _)
    · have G := ih (i + 1) (by omega)
      rw [show ((i + 1 : Nat) : Int) = (i : Int) + 1 by omega] at G
      rw [show decide (a ∈ rd l (i : Int) :: l.drop (i + 1)) = decide (a ∈ l.drop (i + 1)) from decide_eq_decide.2 ⟨fun h => (List.mem_cons.1 h).resolve_left (fun h => c h.symm), fun h => List.mem_cons_of_mem _ h⟩]
      exact Ev.step (fun k => by rw [laws_rHas.l0, if_pos (by omega), if_pos (by omega), if_neg c, wrap_id _ (by omega) (by omega)]) G
theorem rHas_ev (l : List Int) (a : Int) (hl : l.length ≤ 1000) : Ev (fun k => laws_rHas.f k l a) (decide (a ∈ l)) := rHas_l0 l a hl l.length 0 (by omega)
theorem FnWages (l0 : List (Int)) (q_l0 : (l0.length ≤ maxLen ∧ ∀ q ∈ l0, (Lit.int .u8 q).wf = true)) : ∃ k, laws_FnWages.f k l0 = some true := by
  by_cases hb : (l0.length : Int) > 65536
  · refine ⟨0, ?_⟩
    unfold laws_FnWages.f laws_rBig.f
    rw [Option.bind_some, decide_eq_true hb, if_pos rfl]
  · have hc : codeOk l0 := codeOk_of l0 (by omega) q_l0.2
    have fin : Ev (fun k => laws_FnWages.f k l0) true := by
      have j7 : Ev (fun k => laws_FnWages.j7 k l0 false) true := by
        obtain ⟨a, b, c, d, e, f, g, h, i, j, dr⟩ := drawWage l0 hc
        have q1 := WageOf_eq a b c d e ⟨f, g, h, i, j⟩
        have q2 := WageOf_spec a b c d e ⟨f, g, h, i, j⟩
        unfold okS at q1 q2
        dsimp only at q1 q2
        refine Ev.step (f := fun _ => some true) (fun k => ?_) (Ev.now _)
        rw [laws_FnWages.j7, if_neg (by decide), dr, Option.bind_some]
        simp only [q1, q2, Option.bind_some, AreRates_eq, IsWorkSheet_eq, if_true, beq_self_eq_true]
        cases okRates a b c d e <;> cases okSheet f g h i j <;> rfl
      have j6 : Ev (fun k => laws_FnWages.j6 k l0) true := by
        obtain ⟨a, b, c, d, e, t, w, f, g, h1, d1⟩ := drawBetween l0 hc
        obtain ⟨r, s1, s2, hr⟩ := Wages_same t (by omega) a b c d e w f g
        have h0 : 0 ≤ r.1 := by
          rcases hr with hr | ⟨k1, k2, k3⟩
          · rw [hr]; exact Int.le_refl _
          · have := Ev.uniq k3 (sum_val t a b c d e w f g k1 k2)
            rw [this]
            exact (sumP_bd _ _ t (fun i hi => (wV_bd a b c d e _ k1 ((areS_iff t k2).2 i hi)).2) t.length (Nat.le_refl _)).1
        refine Ev.step (fun k => by rw [laws_FnWages.j6]) (Ev.bind d1 (Ev.bind s2 (Ev.bind s1 ?_)))
        simp only [if_true, bne_self_eq_false, Bool.false_eq_true, if_false, decide_eq_false (show ¬ r.1 < 0 by omega)]
        exact j7
      have j3 : Ev (fun k => laws_FnWages.j3 k l0 false) true := by
        obtain ⟨a, b, c, d, e, q, dr⟩ := drawCents l0 hc
        obtain ⟨r, s1, s2, hr⟩ := KnotsForWage_same a b c d e q
        refine Ev.step (fun k => by rw [laws_FnWages.j3, if_neg (by decide), dr, Option.bind_some]) ?_
        refine Ev.bind s2 (Ev.bind s1 ?_)
        simp only [if_true, bne_self_eq_false]
        cases ho : r.2 with
        | false => exact Ev.step (fun k => by rw [laws_FnWages.j4, if_neg (by decide), if_neg (by decide)]) j6
        | true =>
          obtain ⟨hk, hn, h1, h2⟩ := hr ho
          have q1 := WageOf_n a b c d e r.1 hk
          rw [if_pos hn] at q1
          have q2 := WageOf_n a b c d e (r.1 - 1) hk
          refine Ev.step (fun k => by rw [laws_FnWages.j4, if_neg (by decide), if_pos rfl, q1, Option.bind_some]) ?_
          simp only [if_true, decide_eq_false (show ¬ wageN a c d r.1 < q by omega)]
          refine Ev.step (fun k => by rw [laws_FnWages.j5, if_neg (by decide), wrap_id (r.1 - 1) (by omega) (by omega), q2, Option.bind_some]) ?_
          by_cases hz : 0 ≤ r.1 - 1 ∧ r.1 - 1 ≤ 12000
          · have := h2 (r.1 - 1) hz.1 (by omega)
            simp only [if_pos hz, if_true, if_neg (show ¬ wageN a c d (r.1 - 1) ≥ q by omega)]
            exact j6
          · simp only [if_neg hz, Bool.false_eq_true, if_false]
            exact j6
      obtain ⟨a, b, c, d, e, t, h1, d1⟩ := drawPay l0 hc
      obtain ⟨r, ⟨r1, r2⟩, s1, s2⟩ := PayRoll_same t (by omega) a b c d e
      have j0 : Ev (fun k => laws_FnWages.j0 k l0 t r.1 r.2.1 r.2.2 false a b c d e) true := by
        refine Ev.step (fun k => by rw [laws_FnWages.j0, if_neg (by decide)]) ?_
        by_cases hk : okRates a b c d e = true ∧ areS t = true
        · obtain ⟨hr, ht⟩ := hk
          obtain ⟨h12, hok⟩ := areS_iff t ht
          obtain ⟨out, o1, o2, o3, o4⟩ := PayRoll_val t (by omega) a b c d e hr ht
          have er := Ev.uniq s1 o4
          subst er
          dsimp only
          have bdW : ∀ i, i < t.length → 0 ≤ wV a b c d e (t.getD i z48) ∧ wV a b c d e (t.getD i z48) ≤ 300000 := fun i hi => (wV_bd a b c d e _ hr (hok i hi)).2
          have bd := sumP_bd (wV a b c d e) (fun _ => true) t bdW
          have lp : ∀ m i : Nat, i + m = t.length → Ev (fun k => laws_FnWages.l0 k l0 t out (out.map (fun w => sumP (wV a b c d e) (fun x => decide (x.f0 = w)) t t.length)) true (sumP (wV a b c d e) (fun _ => true) t i) (i : Int) a b c d e) true := by
            intro m
            induction m with
            | zero =>
              intro i hi
              have hi : i = t.length := hi
              subst hi
              refine Ev.step (fun k => by rw [laws_FnWages.l0, if_neg (by omega)]) (Ev.step (fun k => by rw [laws_FnWages.j2, if_neg (by decide), if_pos rfl]) (Ev.bind (rSum_ev _ (by rw [List.length_map]; exact o1) (fun x hx => ?_)) ?_))
              · obtain ⟨w, _, rfl⟩ := List.mem_map.1 hx
                have := sumP_bd (wV a b c d e) (fun x => decide (x.f0 = w)) t bdW t.length (Nat.le_refl _)
                omega
              · rw [sumP_all (wV a b c d e) t out o2 t.length o3, bne_self_eq_false]
                exact j3
            | succ m ih =>
              intro i hi
              have G := ih (i + 1) (by omega)
              have b1 := bd i (by omega)
              have b2 := wV_bd a b c d e _ hr (hok i (by omega))
              rw [show ((i + 1 : Nat) : Int) = (i : Int) + 1 by omega, sumP, if_pos rfl] at G
              have e0 : rd_T48 t (i : Int) = t.getD i z48 := rfl
              refine Ev.step (fun k => by rw [laws_FnWages.l0, if_pos (by omega)]) (Ev.step (fun k => by rw [laws_FnWages.j2, if_pos rfl, if_pos (by omega), if_pos (by omega), e0, WageOf_eq, if_pos (by rw [hr, hok i (by omega)]; rfl), Option.bind_some]) ?_)
              simp only [if_true, if_neg (show ¬ wV a b c d e (t.getD i z48) < c by omega)]
              refine Ev.bind (rHas_ev out _ (by omega)) ?_
              simp only [decide_eq_true (o3 i (by omega)), if_true]
              rw [wrap_id (sumP (wV a b c d e) (fun _ => true) t i + wV a b c d e (t.getD i z48)) (by omega) (by omega), wrap_id ((i : Int) + 1) (by omega) (by omega)]
              exact G
          exact lp t.length 0 (by omega)
        · obtain ⟨r', o4⟩ := PayRoll_no t (by omega) a b c d e hk
          have er := Ev.uniq s1 o4
          subst er
          dsimp only
          refine Ev.step (f := fun k => laws_FnWages.j2 k l0 t r'.1 r'.2 false 0 0 false a b c d e) (fun k => by rw [laws_FnWages.l0]; split <;> rfl) (Ev.step (fun k => by rw [laws_FnWages.j2, if_neg (by decide), if_neg (by decide)]) j3)
      unfold laws_FnWages.f laws_rBig.f
      simp only [Option.bind_some, decide_eq_false hb, Bool.false_eq_true, if_false]
      refine Ev.bind d1 (Ev.bind s2 (Ev.bind s1 ?_))
      simp only [bne_self_eq_false, Bool.false_eq_true, if_false]
      refine Ev.bind (rInts_ev r.1 (by omega)) ?_
      simp only [if_true]
      exact Ev.bind (rInts_ev r.2.1 (by omega)) j0
    obtain ⟨K, hK⟩ := fin
    exact ⟨K, hK K (Nat.le_refl _)⟩
end Go.Proofs.Ytffgmmfkiecheaa.Pure
