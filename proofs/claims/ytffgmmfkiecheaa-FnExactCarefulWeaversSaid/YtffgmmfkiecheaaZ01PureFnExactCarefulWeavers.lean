/- The plain law of FnExactCarefulWeavers: what the program's functions compute is what the reference's compute. No program and no memory in it. -/
import Derived.Test.YtffgmmfkiecheaaZ01Hx5
import Derived.Test.YtffgmmfkiecheaaZ01Lps
namespace Go.Proofs.Ytffgmmfkiecheaa.Pure
open Go.RowKit Go.Proofs.YtffgmmfkiecheaaW.PrintWords Go.Proofs.YtffgmmfkiecheaaW.PrintLast Go.Proofs.Ytffgmmfkiecheaa.H
set_option linter.unusedVariables false
set_option linter.unusedSimpArgs false
theorem l1In_eq (a b c : Int) : spec_l1In.f a b c = some (rng a b c) := spec_l1In.eq a b c
theorem in_eq (a b c : Int) : impl_in.f a b c = some (rng a b c) := impl_in.eq a b c
def okSheet (a b c d e : Int) : Bool := rng a 1 99 && (rng b 0 4000 && (rng c 0 12000 && (rng d 0 c && rng e 0 12)))
theorem l14One_eq (a b c d e : Int) : spec_l14One.f a b c d e = some (okSheet a b c d e) := by
  unfold spec_l14One.f spec_l2Day.f okSheet
  simp only [l1In_eq, Option.bind_some]
  cases rng a 1 99 <;> cases rng b 0 4000 <;> cases rng c 0 12000 <;> cases rng d 0 c <;> cases rng e 0 12 <;> rfl
theorem IsWorkSheet_eq (a b c d e : Int) : impl_IsWorkSheet.f a b c d e = some (okSheet a b c d e) := by
  unfold impl_IsWorkSheet.f impl_isDay.f impl_isId.f okSheet
  simp only [in_eq, Option.bind_some]
  cases rng a 1 99 <;> cases rng b 0 4000 <;> cases rng c 0 12000 <;> cases rng d 0 c <;> cases rng e 0 12 <;> rfl
theorem okSheet_iff (a b c d e : Int) : okSheet a b c d e = true ↔ (1 ≤ a ∧ a ≤ 99) ∧ (0 ≤ b ∧ b ≤ 4000) ∧ (0 ≤ c ∧ c ≤ 12000) ∧ (0 ≤ d ∧ d ≤ c) ∧ 0 ≤ e ∧ e ≤ 12 := by
  simp only [okSheet, Bool.and_eq_true, rng_iff]
abbrev WS := S48
def okS (x : WS) : Bool := okSheet x.f0 x.f1 x.f2 x.f3 x.f4
def lexS (x y : WS) : Bool := decide (x.f1 < y.f1 ∨ x.f1 = y.f1 ∧ x.f0 < y.f0)
def goodS (t : List WS) (i : Nat) : Bool := okS (t.getD i z48) && (decide (i = 0) || lexS (t.getD (i - 1) z48) (t.getD i z48))
theorem l14_step (t : List WS) (i : Nat) (hi : i < t.length) (hl : t.length ≤ 2000000) (k : Nat) : spec_l14Good.l0 (k + 1) t (i : Int) = spec_l14Good.j1 k t (i : Int) (!goodS t i) := by
  rw [spec_l14Good.l0, if_pos (by omega), if_pos (by omega)]
  simp only [l14One_eq, Option.bind_some]
  have e0 : rd_T48 t (i : Int) = t.getD i z48 := rfl
  rw [e0]
  obtain ⟨y, hy⟩ : ∃ y, y = t.getD i z48 := ⟨_, rfl⟩
  unfold goodS okS
  rw [← hy]
  by_cases hok : okSheet y.f0 y.f1 y.f2 y.f3 y.f4 = true
  · rw [if_pos hok, hok, Bool.true_and]
    by_cases h0 : i = 0
    · subst h0
      rw [if_neg (by omega)]
      rfl
    · have e1 : wrap64 ((i : Int) - 1) = ((i - 1 : Nat) : Int) := by rw [wrap_id _ (by omega) (by omega)]; omega
      have e2 : rd_T48 t ((i - 1 : Nat) : Int) = t.getD (i - 1) z48 := rfl
      rw [if_pos (by omega), e1, if_pos (by omega), if_pos (by omega), e2]
      obtain ⟨x, hx⟩ : ∃ x, x = t.getD (i - 1) z48 := ⟨_, rfl⟩
      rw [← hx]
      simp only [h0, decide_false, Bool.false_or]
      unfold lexS
      by_cases h1 : x.f1 > y.f1
      · rw [if_pos h1, decide_eq_false (by omega)]
        rfl
      · rw [if_neg h1]
        by_cases h2 : x.f1 = y.f1
        · rw [if_pos h2]
          congr 1
          by_cases h3 : x.f0 ≥ y.f0
          · rw [decide_eq_true h3, decide_eq_false (by omega)]
            rfl
          · rw [decide_eq_false h3, decide_eq_true (by omega)]
            rfl
        · rw [if_neg h2, decide_eq_true (by omega)]
          rfl
  · rw [if_neg hok]
    simp only [Bool.not_eq_true] at hok
    rw [hok]
    rfl
theorem l14Good_ev (t : List WS) (hl : t.length ≤ 2000000) : Ev (fun k => spec_l14Good.f k t) ((List.range t.length).all (goodS t) && decide ((t.length : Int) ≤ 12)) := by
  unfold spec_l14Good.f
  refine Ev.scan (fun k i => spec_l14Good.l0 k t i) t.length (goodS t) _ (Ev.step (fun k => by rw [spec_l14Good.l0, if_neg (by omega)]) (Ev.now _)) ?_ ?_
  · intro i hi hg
    refine Ev.step (f := fun k => spec_l14Good.j1 k t i true) (fun k => by rw [l14_step t i hi hl, hg]; rfl) ?_
    exact Ev.step (fun k => by rw [spec_l14Good.j1, if_pos rfl]) (Ev.now false)
  · intro i r hi hg h
    refine Ev.step (f := fun k => spec_l14Good.j1 k t i false) (fun k => by rw [l14_step t i hi hl, hg]; rfl) ?_
    exact Ev.step (fun k => by rw [spec_l14Good.j1, if_neg (by decide), wrap_id _ (by omega) (by omega)]) h
theorem AreSheets_eq (t : List WS) : impl_AreSheets.f t = some ((List.range t.length).all (goodS t) && decide ((t.length : Int) ≤ 12)) := by
  unfold impl_AreSheets.f
  congr 1
  simp only [IsWorkSheet_eq, Option.getD_some, impl_AreSheets_1.f]
  rw [Bool.eq_iff_iff]
  simp only [Bool.and_eq_true, all_range, decide_eq_true_eq, all_getD z48, asc_iff _ z48]
  have wr : ∀ x : WS, okSheet x.f0 x.f1 x.f2 x.f3 x.f4 = true → wrap64 (wrap64 (100 * x.f1) + x.f0) = 100 * x.f1 + x.f0 := fun x h => by
    obtain ⟨h1, h2, _⟩ := (okSheet_iff _ _ _ _ _).1 h
    rw [wrap_id (100 * x.f1) (by omega) (by omega), wrap_id _ (by omega) (by omega)]
  constructor
  · rintro ⟨hn, hok, has⟩
    refine ⟨fun i hi => ?_, hn⟩
    unfold goodS okS
    rw [hok i hi, Bool.true_and]
    by_cases h0 : i = 0
    · simp [h0]
    · simp only [h0, decide_false, Bool.false_or]
      have h := has (i - 1) (by omega)
      have e : i - 1 + 1 = i := by omega
      rw [e] at h
      have ok1 := hok (i - 1) (by omega)
      have ok2 := hok i hi
      rw [wr _ ok1, wr _ ok2] at h
      obtain ⟨h1, h2, _⟩ := (okSheet_iff _ _ _ _ _).1 ok1
      obtain ⟨h3, h4, _⟩ := (okSheet_iff _ _ _ _ _).1 ok2
      exact decide_eq_true (by omega)
  · rintro ⟨hg, hn⟩
    have hok : ∀ i, i < t.length → okSheet (t.getD i z48).f0 (t.getD i z48).f1 (t.getD i z48).f2 (t.getD i z48).f3 (t.getD i z48).f4 = true := fun i hi => by
      have := hg i hi
      unfold goodS okS at this
      exact (Bool.and_eq_true _ _ ▸ this).1
    refine ⟨hn, hok, fun i hi => ?_⟩
    have h := hg (i + 1) hi
    unfold goodS at h
    rw [Bool.and_eq_true] at h
    have h2 := h.2
    simp only [Nat.add_sub_cancel, lexS, Nat.add_eq_zero_iff, Nat.one_ne_zero, and_false, decide_false, Bool.false_or, decide_eq_true_eq] at h2
    have ok1 := hok i (by omega)
    have ok2 := hok (i + 1) hi
    rw [wr _ ok1, wr _ ok2]
    obtain ⟨h1, h4, _⟩ := (okSheet_iff _ _ _ _ _).1 ok1
    obtain ⟨h3, h5, _⟩ := (okSheet_iff _ _ _ _ _).1 ok2
    omega
def areS (t : List WS) : Bool := (List.range t.length).all (goodS t) && decide ((t.length : Int) ≤ 12)
theorem areS_iff (t : List WS) (h : areS t = true) : t.length ≤ 12 ∧ ∀ i, i < t.length → okS (t.getD i z48) = true := by
  unfold areS at h
  rw [Bool.and_eq_true, all_range] at h
  refine ⟨by have := of_decide_eq_true h.2; omega, fun i hi => ?_⟩
  have := h.1 i hi
  unfold goodS at this
  rw [Bool.and_eq_true] at this
  exact this.1
theorem asc_ext : ∀ (a b : List Int), a.Pairwise (· < ·) → b.Pairwise (· < ·) → (∀ x, x ∈ a ↔ x ∈ b) → a = b
  | [], b, _, _, h => by
    cases b with
    | nil => rfl
    | cons y t => exact absurd ((h y).2 (List.mem_cons_self ..)) (by simp)
  | x :: a, [], _, _, h => absurd ((h x).1 (List.mem_cons_self ..)) (by simp)
  | x :: a, y :: b, ha, hb, h => by
    rw [List.pairwise_cons] at ha hb
    have hx := (h x).1 (List.mem_cons_self ..)
    have hy := (h y).2 (List.mem_cons_self ..)
    have e : x = y := by
      rcases List.mem_cons.1 hx with e | hx'
      · exact e
      · rcases List.mem_cons.1 hy with e | hy'
        · exact e.symm
        · have h1 := hb.1 x hx'
          have h2 := ha.1 y hy'
          omega
    subst e
    rw [asc_ext a b ha.2 hb.2 (fun z => ?_)]
    constructor
    · intro hz
      have h1 := ha.1 z hz
      rcases List.mem_cons.1 ((h z).1 (List.mem_cons_of_mem _ hz)) with e | h2
      · omega
      · exact h2
    · intro hz
      have h1 := hb.1 z hz
      rcases List.mem_cons.1 ((h z).2 (List.mem_cons_of_mem _ hz)) with e | h2
      · omega
      · exact h2
theorem compact_asc (zs : List Int) (hs : zs.Pairwise (· ≤ ·)) : (Lib.compact zs).Pairwise (· < ·) ∧ ∀ x, x ∈ Lib.compact zs ↔ x ∈ zs := by
  have hget : ∀ j, j < zs.length → zs.toArray[j]! = zs.getD j 0 := fun j hj => by
    rw [List.getD_eq_getElem?_getD, List.getElem?_eq_getElem hj]
    simp [hj]
  have hle : ∀ i j, i < j → j < zs.length → zs.toArray[i]! ≤ zs.toArray[j]! := fun i j hij hj => by
    have := List.pairwise_iff_getElem.1 hs i j (by omega) hj hij
    rw [hget i (by omega), hget j hj, List.getD_eq_getElem?_getD, List.getD_eq_getElem?_getD, List.getElem?_eq_getElem (by omega), List.getElem?_eq_getElem hj]
    exact this
  have key : ∀ m, m ≤ zs.length → (Lib.compactUpTo zs.toArray m).Pairwise (· < ·) ∧ (∀ x, x ∈ Lib.compactUpTo zs.toArray m → ∃ j, j < m ∧ zs.toArray[j]! = x) ∧ ∀ j, j < m → zs.toArray[j]! ∈ Lib.compactUpTo zs.toArray m := by
    intro m
    induction m with
    | zero => exact fun _ => ⟨List.Pairwise.nil, (fun x hx => by cases hx), fun j hj => absurd hj (by omega)⟩
    | succ m ih =>
      intro hm
      obtain ⟨h1, h2, h3⟩ := ih (by omega)
      rw [Lib.compactUpTo_succ]
      by_cases hk : m = 0 ∨ zs.toArray[m]! ≠ zs.toArray[m - 1]!
      · have hkeep : Lib.keeps zs.toArray m = true := by unfold Lib.keeps; exact decide_eq_true hk
        rw [hkeep, if_pos rfl]
        refine ⟨List.pairwise_append.2 ⟨h1, List.pairwise_singleton _ _, fun x hx y hy => ?_⟩, fun x hx => ?_, fun j hj => ?_⟩
        · rw [List.mem_singleton.1 hy]
          obtain ⟨j, hj, rfl⟩ := h2 x hx
          have hm0 : m ≠ 0 := by omega
          have hne : zs.toArray[m]! ≠ zs.toArray[m - 1]! := by rcases hk with h | h; exact absurd h hm0; exact h
          have ha := hle (m - 1) m (by omega) (by omega)
          by_cases e : j = m - 1
          · rw [e]; omega
          · have hb := hle j (m - 1) (by omega) (by omega)
            omega
        · rcases List.mem_append.1 hx with hx | hx
          · obtain ⟨j, hj, e⟩ := h2 x hx
            exact ⟨j, by omega, e⟩
          · exact ⟨m, by omega, (List.mem_singleton.1 hx).symm⟩
        · by_cases e : j = m
          · rw [e]; exact List.mem_append.2 (.inr (List.mem_singleton.2 rfl))
          · exact List.mem_append.2 (.inl (h3 j (by omega)))
      · have hkeep : Lib.keeps zs.toArray m = false := by unfold Lib.keeps; exact decide_eq_false hk
        rw [hkeep, if_neg (by decide), List.append_nil]
        refine ⟨h1, fun x hx => ?_, fun j hj => ?_⟩
        · obtain ⟨j, hj, e⟩ := h2 x hx
          exact ⟨j, by omega, e⟩
        · by_cases e : j = m
          · have hm0 : m ≠ 0 := fun h => hk (.inl h)
            have heq : zs.toArray[m]! = zs.toArray[m - 1]! := Classical.byContradiction fun h => hk (.inr h)
            rw [e, heq]
            exact h3 (m - 1) (by omega)
          · exact h3 j (by omega)
  obtain ⟨h1, h2, h3⟩ := key zs.length (Nat.le_refl _)
  refine ⟨h1, fun x => ⟨fun hx => ?_, fun hx => ?_⟩⟩
  · obtain ⟨j, hj, e⟩ := h2 x hx
    rw [← e, hget j hj, List.getD_eq_getElem?_getD, List.getElem?_eq_getElem hj]
    exact List.getElem_mem hj
  · obtain ⟨j, hj, rfl⟩ := List.getElem_of_mem hx
    have := h3 j hj
    rw [hget j hj, List.getD_eq_getElem?_getD, List.getElem?_eq_getElem hj] at this
    exact this
theorem sortCompact (lst out : List Int) (ho : out.Pairwise (· < ·)) (hm : ∀ x, x ∈ out ↔ x ∈ lst) : Lib.compact (lst.mergeSort fun x y => decide (x ≤ y)) = out := by
  have hs : (lst.mergeSort fun x y => decide (x ≤ y)).Pairwise (· ≤ ·) := by
    have := List.pairwise_mergeSort (le := fun x y : Int => decide (x ≤ y)) (fun a b c h1 h2 => by simp only [decide_eq_true_iff] at *; omega) (fun a b => by simp only [Bool.or_eq_true, decide_eq_true_iff]; omega) lst
    exact this.imp (fun h => by simpa using h)
  obtain ⟨h1, h2⟩ := compact_asc _ hs
  refine asc_ext _ _ h1 ho (fun x => ?_)
  rw [h2, List.mem_mergeSort, hm]
theorem has_ev (l : List Int) (v : Int) (hl : l.length ≤ 2000000) : Ev (fun k => spec_l1Has.f k l v) (decide (v ∈ l)) := by
  unfold spec_l1Has.f
  have key : ∀ d i : Nat, i + d = l.length → Ev (fun k => spec_l1Has.l0 k l v (i : Int)) (decide (v ∈ l.drop i)) := by
    intro d
    induction d with
    | zero =>
      intro i hi
      rw [List.drop_of_length_le (by omega)]
      exact Ev.step (f := fun _ => some false) (fun k => by rw [spec_l1Has.l0, if_neg (by omega)]) (Ev.now _)
    | succ d ih =>
      intro i hi
      have e0 : rd l (i : Int) = l[i]'(by omega) := by
        show l.getD ((i : Int)).toNat 0 = _
        rw [Int.toNat_natCast, List.getD_eq_getElem?_getD, List.getElem?_eq_getElem (by omega)]
        rfl
      rw [List.drop_eq_getElem_cons (by omega)]
      by_cases c : l[i]'(by omega) = v
      · rw [decide_eq_true (List.mem_cons.2 (.inl c.symm))]
        exact Ev.step (f := fun _ => some true) (fun k => by rw [spec_l1Has.l0, if_pos (by omega), if_pos (by omega), e0, if_pos c]) (Ev.now _)
      · have h1 := ih (i + 1) (by omega)
        have e : ((i + 1 : Nat) : Int) = (i : Int) + 1 := by omega
        rw [e] at h1
        have e2 : decide (v ∈ l[i]'(by omega) :: l.drop (i + 1)) = decide (v ∈ l.drop (i + 1)) := by
          rw [decide_eq_decide, List.mem_cons]
          exact ⟨fun h => h.resolve_left (fun h => c h.symm), .inr⟩
        rw [e2]
        exact Ev.step (fun k => by rw [spec_l1Has.l0, if_pos (by omega), if_pos (by omega), e0, if_neg c, wrap_id _ (by omega) (by omega)]) h1
  exact key l.length 0 (by omega)
theorem put_ev (l : List Int) (v : Int) (hl : l.length ≤ 2000000) (ha : l.Pairwise (· < ·)) (hv : v ∉ l) : ∃ p : List Int, (p.Pairwise (· < ·) ∧ p.length = l.length + 1 ∧ ∀ x, x ∈ p ↔ x = v ∨ x ∈ l) ∧ Ev (fun k => spec_l1Put.f k l v) p := by
  unfold spec_l1Put.f
  have fin : ∀ i : Nat, i ≤ l.length → (∀ j (h : j < l.length), j < i → l[j] < v) → (∀ h : i < l.length, v < l[i]) → (l.take i ++ [v] ++ l.drop i).Pairwise (· < ·) ∧ (l.take i ++ [v] ++ l.drop i).length = l.length + 1 ∧ ∀ x, x ∈ l.take i ++ [v] ++ l.drop i ↔ x = v ∨ x ∈ l := by
    intro i hi h1 h2
    have ht : ∀ x ∈ l.take i, x < v := fun x hx => by
      obtain ⟨j, hj, rfl⟩ := List.getElem_of_mem hx
      rw [List.length_take] at hj
      rw [List.getElem_take]
      exact h1 j (by omega) (by omega)
    have hd : ∀ x ∈ l.drop i, v < x := fun x hx => by
      obtain ⟨j, hj, rfl⟩ := List.getElem_of_mem hx
      rw [List.length_drop] at hj
      rw [List.getElem_drop]
      have := h2 (by omega)
      by_cases e : j = 0
      · subst e; simpa using this
      · have := List.pairwise_iff_getElem.1 ha i (i + j) (by omega) (by omega) (by omega)
        omega
    refine ⟨List.pairwise_append.2 ⟨List.pairwise_append.2 ⟨ha.sublist (List.take_sublist _ _), List.pairwise_singleton _ _, fun x hx y hy => by rw [List.mem_singleton.1 hy]; exact ht x hx⟩, ha.sublist (List.drop_sublist _ _), fun x hx y hy => ?_⟩, ?_, fun x => ?_⟩
    · have h3 := hd y hy
      rcases List.mem_append.1 hx with hx | hx
      · have := ht x hx; omega
      · rw [List.mem_singleton.1 hx]; exact h3
    · simp only [List.length_append, List.length_take, List.length_drop, List.length_singleton]; omega
    · rw [List.mem_append, List.mem_append, List.mem_singleton]
      constructor
      · rintro ((h | h) | h)
        · exact .inr (List.mem_of_mem_take h)
        · exact .inl h
        · exact .inr (List.mem_of_mem_drop h)
      · rintro (h | h)
        · exact .inl (.inr h)
        · rw [← List.take_append_drop i l] at h
          rcases List.mem_append.1 h with h | h
          · exact .inl (.inl h)
          · exact .inr h
  have key : ∀ d i : Nat, i + d = l.length → (∀ j (h : j < l.length), j < i → l[j] < v) → ∃ p : List Int, (p.Pairwise (· < ·) ∧ p.length = l.length + 1 ∧ ∀ x, x ∈ p ↔ x = v ∨ x ∈ l) ∧ Ev (fun k => spec_l1Put.l0 k l v (i : Int)) p := by
    intro d
    induction d with
    | zero =>
      intro i hi h1
      refine ⟨_, fin i (by omega) h1 (fun h => absurd h (by omega)), Ev.step (f := fun _ => some (l.take i ++ [v] ++ l.drop i)) (fun k => ?_) (Ev.now _)⟩
      rw [spec_l1Put.l0, if_neg (by omega), Option.bind_some, if_pos (by omega), if_pos (by omega), if_pos (by simp; omega), Option.bind_some, Option.bind_some, if_pos (by simp; omega), Option.bind_some, if_pos (by simp; omega), Int.toNat_natCast, List.nil_append]
    | succ d ih =>
      intro i hi h1
      have hlt : i < l.length := by omega
      have e0 : rd l (i : Int) = l[i] := by
        show l.getD ((i : Int)).toNat 0 = _
        rw [Int.toNat_natCast, List.getD_eq_getElem?_getD, List.getElem?_eq_getElem hlt]
        rfl
      by_cases c : l[i] < v
      · obtain ⟨p, hp, h2⟩ := ih (i + 1) (by omega) (fun j h hj => by
          by_cases e : j = i
          · subst e; exact c
          · exact h1 j h (by omega))
        have e : ((i + 1 : Nat) : Int) = (i : Int) + 1 := by omega
        rw [e] at h2
        exact ⟨p, hp, Ev.step (fun k => by rw [spec_l1Put.l0, if_pos (by omega), if_pos (by omega), e0, if_pos c, wrap_id _ (by omega) (by omega)]) h2⟩
      · have hne : l[i] ≠ v := fun h => hv (h ▸ List.getElem_mem hlt)
        refine ⟨_, fin i (by omega) h1 (fun _ => by omega), Ev.step (f := fun _ => some (l.take i ++ [v] ++ l.drop i)) (fun k => ?_) (Ev.now _)⟩
        rw [spec_l1Put.l0, if_pos (by omega), if_pos (by omega), e0, if_neg c, if_neg hne, Option.bind_some, if_pos (by omega), if_pos (by simp; omega), Option.bind_some, Option.bind_some, if_pos (by simp; omega), Option.bind_some, if_pos (by simp; omega), Int.toNat_natCast, List.nil_append]
  exact key l.length 0 (by omega) (fun j _ h => absurd h (by omega))
def wsOf (t : List WS) : List Int := t.map fun x => x.f0
theorem wsOf_snoc (t : List WS) (i : Nat) (hi : i < t.length) : wsOf (t.take (i + 1)) = wsOf (t.take i) ++ [(t.getD i z48).f0] := by
  unfold wsOf
  rw [List.take_succ_eq_append_getElem hi, List.map_append, List.getD_eq_getElem?_getD, List.getElem?_eq_getElem hi]
  rfl
theorem weavers_two (t : List WS) (hl : t.length ≤ 1048576) : ∃ out : List Int, (out.Pairwise (· < ·) ∧ (∀ x, x ∈ out ↔ x ∈ wsOf t) ∧ out.length ≤ t.length) ∧ Ev (fun k => spec_l14Weavers.f k t) out ∧ Ev (fun k => impl_weaversOf.f k t) out := by
  obtain ⟨out, ho, h1⟩ := Ev.loopE (fun k i (s : List Int) => spec_l14Weavers.l0 k t s i) t.length (fun i s => s.Pairwise (· < ·) ∧ (∀ x, x ∈ s ↔ x ∈ wsOf (t.take i)) ∧ s.length ≤ i) (fun s => s.Pairwise (· < ·) ∧ (∀ x, x ∈ s ↔ x ∈ wsOf t) ∧ s.length ≤ t.length)
    (fun s hs => ⟨s, by rw [List.take_length] at hs; exact hs, Ev.step (f := fun _ => some s) (fun k => by rw [spec_l14Weavers.l0, if_neg (by omega)]) (Ev.now _)⟩)
    (fun i s hi hs => by
      obtain ⟨s1, s2, s3⟩ := hs
      have e0 : rd_T48 t (i : Int) = t.getD i z48 := rfl
      have e1 := wsOf_snoc t i hi
      obtain ⟨v, hv⟩ : ∃ v, v = (t.getD i z48).f0 := ⟨_, rfl⟩
      rw [← hv] at e1
      have hspec : ∀ k, spec_l14Weavers.l0 (k + 1) t s (i : Int) = (spec_l1Has.f k s v).bind fun b => if b = true then spec_l14Weavers.l0 k t s ((i : Int) + 1) else (spec_l1Put.f k s v).bind fun p => spec_l14Weavers.l0 k t p ((i : Int) + 1) := fun k => by
        rw [spec_l14Weavers.l0, if_pos (by omega), if_pos (by omega), e0, ← hv, wrap_id ((i : Int) + 1) (by omega) (by omega)]
      have hhas := has_ev s v (by omega)
      by_cases hin : v ∈ s
      · rw [decide_eq_true hin] at hhas
        refine ⟨s, ⟨s1, fun x => ?_, by omega⟩, fun r h => Ev.step hspec (Ev.bind hhas (by simp only [if_true]; exact h))⟩
        rw [e1, List.mem_append, List.mem_singleton, s2 x]
        exact ⟨.inl, fun h => h.elim id (fun h => by rw [h]; exact (s2 v).1 hin)⟩
      · rw [decide_eq_false hin] at hhas
        obtain ⟨p, ⟨p1, p2, p3⟩, hput⟩ := put_ev s v (by omega) s1 hin
        refine ⟨p, ⟨p1, fun x => ?_, by omega⟩, fun r h => Ev.step hspec (Ev.bind hhas (by simp only [Bool.false_eq_true, if_false]; exact Ev.bind hput h))⟩
        rw [e1, List.mem_append, List.mem_singleton, p3 x, s2 x]
        exact ⟨fun h => h.elim .inr .inl, fun h => h.elim .inr .inl⟩) [] ⟨List.Pairwise.nil, fun x => by simp [wsOf], by simp⟩
  refine ⟨out, ho, h1, ?_⟩
  have hsc := sortCompact (wsOf t) out ho.1 ho.2.1
  have hwl : (wsOf t).length = t.length := by unfold wsOf; rw [List.length_map]
  obtain ⟨r, hr, h2⟩ := Ev.loopE (fun k i (s : List Int) => impl_weaversOf.l0 k s t (t.length : Int) i) t.length (fun i s => s = wsOf (t.take i)) (fun s => s = out)
    (fun s hs => ⟨out, rfl, Ev.step (f := fun _ => some out) (fun k => by
      rw [List.take_length] at hs
      subst hs
      rw [impl_weaversOf.l0, if_neg (by omega)]
      unfold slices_Sort_int.f slices_Compact_int.f
      rw [if_pos (by omega), Option.bind_some, if_pos (by rw [List.length_mergeSort]; omega), Option.bind_some, hsc]) (Ev.now _)⟩)
    (fun i s hi hs => ⟨wsOf (t.take (i + 1)), rfl, fun r h => Ev.step (fun k => by
      have e0 : rd_T48 t (i : Int) = t.getD i z48 := rfl
      have e2 : s.length < 17592186044416 := by rw [hs]; unfold wsOf; rw [List.length_map, List.length_take]; omega
      rw [impl_weaversOf.l0, if_pos (by omega), if_pos (by omega), if_pos (by omega), if_pos e2, e0, wrap_id ((i : Int) + 1) (by omega) (by omega), wsOf_snoc t i hi, ← hs]) h⟩) [] (by simp [wsOf])
  subst hr
  exact h2
theorem eqInts_ev (t : List Int) (ht : t.length ≤ 2000000) : Ev (fun k => laws_eqIntS.f k t t) true := by
  refine Ev.congr (f := fun k => laws_eqIntS.l0 k t t 0) (fun k => by unfold laws_eqIntS.f; rw [if_pos rfl]) ?_
  obtain ⟨r, hr, h⟩ := Ev.loopE (fun k i (_ : Unit) => laws_eqIntS.l0 k t t i) t.length (fun _ _ => True) (fun r => r = true)
    (fun s _ => ⟨true, rfl, Ev.step (fun k => by rw [laws_eqIntS.l0, if_neg (by omega)]) (Ev.now true)⟩)
    (fun i s hi _ => ⟨(), trivial, fun r h => Ev.step (fun k => by
      rw [laws_eqIntS.l0, if_pos (by omega), if_pos (by omega), if_pos (by omega), if_pos rfl, wrap_id _ (by omega) (by omega)]) h⟩) () trivial
  subst hr
  exact h
theorem held_ev (t : List Int) (ht : t.length ≤ 2000000) (h1 : ∀ j : Nat, j < t.length → t.getD j 0 = 1 + (j : Int)) : Ev (fun k => laws_heldIntS.f k t 1) (1 + (t.length : Int)) := by
  unfold laws_heldIntS.f
  obtain ⟨r, hr, h⟩ := Ev.loopE (fun k i (q : Int) => laws_heldIntS.l0 k t q i) t.length (fun i q => q = 1 + (i : Int)) (fun r => r = 1 + (t.length : Int))
    (fun s hs => ⟨s, hs, Ev.step (fun k => by rw [laws_heldIntS.l0, if_neg (by omega)]) (Ev.now s)⟩)
    (fun i s hi hs => ⟨s + 1, by omega, fun r h => Ev.step (fun k => by
      have hx : rd t (i : Int) = s := by rw [hs]; exact h1 i hi
      rw [laws_heldIntS.l0, if_pos (by omega), if_pos (by omega), if_pos hx, wrap_id _ (by omega) (by omega), wrap_id _ (by omega) (by omega)]) h⟩) 1 (by omega)
  subst hr
  exact h
theorem mark_ev (t : List Int) (ht : t.length ≤ 2000000) : ∃ t' : List Int, Ev (fun k => laws_markIntS.f k t 1) (1 + (t.length : Int), t') ∧ Ev (fun k => laws_heldIntS.f k t' 1) (1 + (t.length : Int)) := by
  unfold laws_markIntS.f
  obtain ⟨⟨m, t'⟩, ⟨hm, hl, hj⟩, h⟩ := Ev.loopE (fun k i (q : Int × List Int) => laws_markIntS.l0 k q.2 q.1 i) t.length
    (fun i q => q.1 = 1 + (i : Int) ∧ q.2.length = t.length ∧ ∀ j : Nat, j < i → q.2.getD j 0 = 1 + (j : Int)) (fun r => r.1 = 1 + (t.length : Int) ∧ r.2.length = t.length ∧ ∀ j : Nat, j < t.length → r.2.getD j 0 = 1 + (j : Int))
    (fun s hs => ⟨s, hs, Ev.step (fun k => by rw [laws_markIntS.l0, if_neg (by omega)]) (Ev.now s)⟩)
    (fun i s hi hs => ⟨(s.1 + 1, s.2.set i s.1), ⟨by have := hs.1; simp only; omega, by simp [hs.2.1], fun j hj => by
        have h2 := hs.2.1
        simp only [getD_set]
        by_cases e : i = j
        · subst e; rw [if_pos ⟨rfl, by omega⟩]; exact hs.1
        · rw [if_neg (fun h => e h.1)]; exact hs.2.2 j (by omega)⟩, fun r h => Ev.step (fun k => by
      have h1 := hs.1
      have h2 := hs.2.1
      rw [laws_markIntS.l0, if_pos (by omega), if_pos (by omega), wrap_id _ (by omega) (by omega), wrap_id _ (by omega) (by omega), Int.toNat_natCast]) h⟩) (1, t) ⟨by simp, rfl, fun j hj => absurd hj (by omega)⟩
  simp only at hm hl hj
  subst hm
  refine ⟨t', h, ?_⟩
  have := held_ev t' (by omega) (fun j hjj => hj j (by omega))
  rw [hl] at this
  exact this
def posN (lt : Int → Int → Bool) (P : List Int) (x : Int) : Nat → Nat
  | 0 => 0
  | j + 1 => if lt x (P.getD j 0) = true then posN lt P x j else j + 1
theorem posN_le (lt : Int → Int → Bool) (P : List Int) (x : Int) : ∀ j, posN lt P x j ≤ j := by
  intro j
  induction j with
  | zero => exact Nat.le_refl _
  | succ j ih =>
    unfold posN
    split
    · omega
    · exact Nat.le_refl _
theorem posN_append (lt : Int → Int → Bool) (P R : List Int) (x : Int) : ∀ j, j ≤ P.length → posN lt (P ++ R) x j = posN lt P x j := by
  intro j
  induction j with
  | zero => intro _; rfl
  | succ j ih =>
    intro h
    unfold posN
    rw [ih (by omega)]
    have e : (P ++ R).getD j 0 = P.getD j 0 := by
      rw [List.getD_eq_getElem?_getD, List.getD_eq_getElem?_getD, List.getElem?_append_left (by omega)]
    rw [e]
def insN (lt : Int → Int → Bool) (P : List Int) (x : Int) : List Int := P.take (posN lt P x P.length) ++ x :: P.drop (posN lt P x P.length)
theorem insN_length (lt : Int → Int → Bool) (P : List Int) (x : Int) : (insN lt P x).length = P.length + 1 := by
  have := posN_le lt P x P.length
  unfold insN
  rw [List.length_append, List.length_cons, List.length_take, List.length_drop]
  omega
theorem insInner_ins (lt : Int → Int → Bool) : ∀ (j : Nat) (P Q : List Int) (x : Int), P.length = j → Go.Sort.insInner lt 0 j (P ++ x :: Q).toArray = (P.take (posN lt P x j) ++ x :: (P.drop (posN lt P x j) ++ Q)).toArray := by
  intro j
  induction j with
  | zero =>
    intro P Q x h
    have hn : P = [] := List.eq_nil_of_length_eq_zero h
    subst hn
    rfl
  | succ j ih =>
    intro P Q x h
    obtain ⟨P', y, rfl⟩ : ∃ P' y, P = P' ++ [y] := ⟨P.dropLast, P.getLast (by intro h0; subst h0; simp at h), (List.dropLast_concat_getLast _).symm⟩
    have hl : P'.length = j := by simpa using h
    have g1 : ((P' ++ [y] ++ x :: Q).toArray)[j + 1]! = x := by
      rw [getElem!_pos _ _ (by simp; omega)]
      simp [List.getElem_append_right, hl]
    have g0 : ((P' ++ [y] ++ x :: Q).toArray)[j]! = y := by
      rw [getElem!_pos _ _ (by simp; omega)]
      simp [List.getElem_append_left, List.getElem_append_right, hl]
    have sw : Go.Sort.swp ((P' ++ [y] ++ x :: Q).toArray) (j + 1) j = (P' ++ x :: (y :: Q)).toArray := by
      unfold Go.Sort.swp
      rw [g1, g0, List.setIfInBounds_toArray, List.setIfInBounds_toArray]
      congr 1
      rw [List.append_assoc, List.set_append_right _ _ (by omega), List.set_append_right _ _ (by omega)]
      have e1 : j + 1 - P'.length = 1 := by omega
      have e2 : j - P'.length = 0 := by omega
      rw [e1, e2]
      rfl
    rw [Go.Sort.insInner, g1, g0, sw]
    have gd : (P' ++ [y]).getD j 0 = y := by
      rw [List.getD_eq_getElem?_getD, List.getElem?_append_right (by omega), hl, Nat.sub_self]
      rfl
    have e0 : (decide (j + 1 > 0) && lt x y) = lt x y := by simp
    rw [e0]
    unfold posN
    rw [gd]
    by_cases c : lt x y = true
    · have hp := posN_le lt P' x j
      rw [if_pos c, if_pos c, ih P' (y :: Q) x hl, posN_append lt P' [y] x j (by omega), List.take_append_of_le_length (by omega), List.drop_append_of_le_length (by omega)]
      simp
    · rw [if_neg c, if_neg c]
      have e1 : (P' ++ [y]).take (j + 1) = P' ++ [y] := List.take_of_length_le (by simp; omega)
      have e2 : (P' ++ [y]).drop (j + 1) = [] := List.drop_of_length_le (by simp; omega)
      rw [e1, e2]
      rfl
theorem insOuter_ins (lt : Int → Int → Bool) (n : Nat) : ∀ (R P : List Int), P.length + R.length = n → Go.Sort.insOuter lt 0 n P.length (P ++ R).toArray = (R.foldl (insN lt) P).toArray := by
  intro R
  induction R with
  | nil =>
    intro P h
    rw [Go.Sort.insOuter, if_neg (by simp at h; omega)]
    simp
  | cons x R ih =>
    intro P h
    rw [Go.Sort.insOuter, if_pos (by simp at h; omega), insInner_ins lt P.length P R x rfl, List.foldl_cons]
    have e : P.take (posN lt P x P.length) ++ x :: (P.drop (posN lt P x P.length) ++ R) = insN lt P x ++ R := by unfold insN; simp
    rw [e, show P.length + 1 = (insN lt P x).length from (insN_length lt P x).symm]
    exact ih _ (by rw [insN_length]; simp at h; omega)
theorem insS_eq (cf : Int → Int → Int) (l : List Int) : insS cf l = l.foldl (insN (ltOf cf)) [] := by
  unfold insS Go.Sort.insertionSort
  cases l with
  | nil => rw [Go.Sort.insOuter, if_neg (by simp)]; rfl
  | cons x R =>
    have h := insOuter_ins (ltOf cf) (x :: R).length R [x] (by simp; omega)
    rw [show [x] ++ R = x :: R from rfl, show ([x] : List Int).length = 0 + 1 from rfl] at h
    rw [h]
    rfl
theorem tal_snoc (t : List WS) (a : Int) (i : Nat) (hi : i < t.length) : (t.take (i + 1)).foldl (talF a) (0, 0) = talF a ((t.take i).foldl (talF a) (0, 0)) (t.getD i z48) := by
  rw [List.take_succ_eq_append_getElem hi, List.foldl_append]
  show talF a _ _ = _
  congr 1
  rw [List.getD_eq_getElem?_getD, List.getElem?_eq_getElem hi]
  rfl
theorem errors_l0 (t : List WS) (ht : t.length ≤ 2000000) (a : Int) (d : Nat) : ∀ (i : Nat) (p q : Int) (k : Nat), i + d = t.length → d + 1 ≤ k → (t.take i).foldl (talF a) (0, 0) = (q, p) → spec_l14Errors.l0 k t a p q (i : Int) = some ((talV t a).2, talK t a) := by
  induction d with
  | zero =>
    intro i p q k hi hk hf
    obtain ⟨k, rfl⟩ : ∃ m, k = m + 1 := ⟨k - 1, by omega⟩
    have e : t.take i = t := List.take_of_length_le (by omega)
    rw [e] at hf
    have hv : talV t a = (q, p) := hf
    rw [spec_l14Errors.l0, if_neg (by omega)]
    unfold spec_l1Most.f talK
    rw [hv]
    by_cases c : (1 : Int) > q
    · rw [if_pos c, Option.bind_some, Int.max_eq_right (by omega)]
    · rw [if_neg c, Option.bind_some, Int.max_eq_left (by omega)]
  | succ d ih =>
    intro i p q k hi hk hf
    obtain ⟨k, rfl⟩ : ∃ m, k = m + 1 := ⟨k - 1, by omega⟩
    have e0 : rd_T48 t (i : Int) = t.getD i z48 := rfl
    have hs := tal_snoc t a i (by omega)
    rw [hf] at hs
    have ei : ((i + 1 : Nat) : Int) = (i : Int) + 1 := by omega
    rw [spec_l14Errors.l0, if_pos (by omega), if_pos (by omega), e0, wrap_id ((i : Int) + 1) (by omega) (by omega), ← ei]
    by_cases c : (t.getD i z48).f0 = a
    · rw [if_pos c]
      refine ih (i + 1) _ _ k (by omega) (by omega) ?_
      rw [hs]
      unfold talF
      rw [if_pos c]
    · rw [if_neg c]
      refine ih (i + 1) _ _ k (by omega) (by omega) ?_
      rw [hs]
      unfold talF
      rw [if_neg c]
theorem errors_eq (t : List WS) (ht : t.length ≤ 2000000) (a : Int) (k : Nat) (hk : t.length + 1 ≤ k) : spec_l14Errors.f k t a = some ((talV t a).2, talK t a) := by
  unfold spec_l14Errors.f
  exact errors_l0 t ht a t.length 0 0 0 k (by omega) hk rfl
theorem lt_car (t : List WS) (x y : Int) : (ltOf (carF t) x y = true) ↔ ¬ (wrap64 ((talV t y).2 * talK t x) ≤ wrap64 ((talV t x).2 * talK t y)) := by
  unfold ltOf carF cmpI
  rw [decide_eq_true_iff]
  split
  · constructor
    · intro _; omega
    · intro _; decide
  · split
    · constructor
      · intro h; exact absurd h (by decide)
      · intro h; omega
    · constructor
      · intro h; exact absurd h (by decide)
      · intro h; omega
theorem posS_eq (t : List WS) (P : List Int) (x : Int) : ∀ j, posS (fun a => ((talV t a).2, talK t a)) P x j = posN (ltOf (carF t)) P x j := by
  intro j
  induction j with
  | zero => rfl
  | succ j ih =>
    unfold posS posN
    dsimp only
    by_cases c : wrap64 ((talV t (P.getD j 0)).2 * talK t x) ≤ wrap64 ((talV t x).2 * talK t (P.getD j 0))
    · rw [if_pos c, if_neg (fun h => (lt_car t x _).1 h c)]
    · rw [if_neg c, if_pos ((lt_car t x _).2 c), ih]
theorem Careful_same (t : List WS) (ht : t.length ≤ 1048576) : ∃ r : List Int × Bool, r.1.length ≤ t.length ∧ Ev (fun k => spec_CarefulWeavers.f k t) r ∧ Ev (fun k => impl_CarefulWeavers.f k t) r := by
  have hg := l14Good_ev t (by omega)
  unfold spec_CarefulWeavers.f impl_CarefulWeavers.f
  simp only [AreSheets_eq, Option.bind_some]
  by_cases h : areS t = true
  · obtain ⟨out, ⟨_, _, ho⟩, h1, h2⟩ := weavers_two t (by omega)
    have h12 := (areS_iff t h).1
    refine ⟨(insS (carF t) out, true), by rw [insS_length]; exact ho, ?_, ?_⟩
    · refine Ev.bind hg ?_
      show Ev (fun k => if areS t = true then _ else _) _
      simp only [if_pos h]
      refine Ev.bind h1 ⟨t.length + 1, fun k hk => ?_⟩
      have hE : errS k t = fun a => ((talV t a).2, talK t a) := by
        funext a
        unfold errS
        rw [errors_eq t (by omega) a k hk]
        rfl
      have hall : (out.all fun x => (spec_l14Errors.f k t x).isSome) = true := by
        rw [List.all_eq_true]
        intro a _
        rw [errors_eq t (by omega) a k hk]
        rfl
      dsimp only
      rw [if_pos (show out.length ≤ 1000 ∧ (out.all fun x => (spec_l14Errors.f k t x).isSome) = true from ⟨by omega, hall⟩), hE, insS_eq]
      congr 3
      funext P x
      unfold insE insN
      rw [posS_eq]
    · show Ev (fun k => if areS t = true then _ else _) _
      simp only [if_pos h]
      refine Ev.bind h2 ?_
      simp only [if_pos (show out.length ≤ 19 by omega)]
      exact Ev.now _
  · refine ⟨([], false), Nat.zero_le _, ?_, ?_⟩
    · refine Ev.bind hg ?_
      show Ev (fun k => if areS t = true then _ else _) _
      simp only [if_neg h]
      exact Ev.now _
    · show Ev (fun k => if areS t = true then _ else _) _
      simp only [if_neg h]
      exact Ev.now _
abbrev LS := S65
theorem szWS (l : List LS) (h : ¬ (l.length : Int) ≤ 1048576) (hm : l.length ≤ maxLen) : laws_szWorkSheetS.f l 1048576 = some (-1) := by
  have hm' : l.length ≤ 9223372036854775807 := hm
  unfold laws_szWorkSheetS.f
  rw [wrap_id _ (by omega) (by omega), if_pos (by omega)]
theorem szWS2 (l : List LS) (h : (l.length : Int) ≤ 1048576) : laws_szWorkSheetS.f l 1048576 = some (1048576 - (l.length : Int)) := by
  unfold laws_szWorkSheetS.f
  rw [wrap_id _ (by omega) (by omega), if_neg (by omega)]
theorem toWS_ev (l : List LS) (hl : (l.length : Int) ≤ 1048576) : ∃ t : List WS, t.length = l.length ∧ Ev (fun k => laws_toWorkSheetS.f k l) t := by
  obtain ⟨r, hr, h⟩ := Ev.loopE (fun k i (s : List WS) => laws_toWorkSheetS.l0 k l s i) l.length (fun _ s => s.length = l.length) (fun r => r.length = l.length)
    (fun s hs => ⟨s, hs, Ev.step (fun k => by rw [laws_toWorkSheetS.l0, if_neg (by omega)]) (Ev.now s)⟩)
    (fun i s hi hs => ⟨s.set i ⟨(rd_T65 l i).f0, (rd_T65 l i).f1, (rd_T65 l i).f2, (rd_T65 l i).f3, (rd_T65 l i).f4⟩, by simp [hs], fun r h => Ev.step (fun k => by
      rw [laws_toWorkSheetS.l0, if_pos (by omega), if_pos (by omega)]
      simp only [laws_toWorkSheet.f, Option.bind_some]
      rw [if_pos (by omega), wrap_id _ (by omega) (by omega), Int.toNat_natCast]) h⟩) (List.replicate l.length z48) (by simp)
  refine ⟨r, hr, Ev.congr (fun k => ?_) h⟩
  unfold laws_toWorkSheetS.f
  rw [if_pos (by omega), if_pos (by omega), Int.toNat_natCast]
theorem eqWS_ev (t : List WS) (ht : t.length ≤ 2000000) : Ev (fun k => laws_eqWorkSheetS.f k t t) true := by
  refine Ev.congr (f := fun k => laws_eqWorkSheetS.l0 k t t 0) (fun k => by unfold laws_eqWorkSheetS.f; rw [if_pos rfl]) ?_
  obtain ⟨r, hr, h⟩ := Ev.loopE (fun k i (_ : Unit) => laws_eqWorkSheetS.l0 k t t i) t.length (fun _ _ => True) (fun r => r = true)
    (fun s _ => ⟨true, rfl, Ev.step (fun k => by rw [laws_eqWorkSheetS.l0, if_neg (by omega)]) (Ev.now true)⟩)
    (fun i s hi _ => ⟨(), trivial, fun r h => Ev.step (fun k => by
      rw [laws_eqWorkSheetS.l0, if_pos (by omega), if_pos (by omega), if_pos (by omega)]
      simp only [laws_eqWorkSheet.f, if_true, Option.bind_some]
      rw [wrap_id _ (by omega) (by omega)]) h⟩) () trivial
  subst hr
  exact h
theorem markWS_ev (t : List WS) (ht : t.length ≤ 2000000) : ∃ (m : Int) (t' : List WS), 0 ≤ m ∧ Ev (fun k => laws_markWorkSheetS.f k t 1) (m, t') := by
  unfold laws_markWorkSheetS.f
  obtain ⟨⟨m, t'⟩, hm, h⟩ := Ev.loopE (fun k i (q : Int × List WS) => laws_markWorkSheetS.l0 k q.2 q.1 i) t.length
    (fun i q => q.1 = 1 + 5 * (i : Int) ∧ q.2.length = t.length) (fun r => 0 ≤ r.1)
    (fun s hs => ⟨s, by have := hs.1; omega, Ev.step (fun k => by rw [laws_markWorkSheetS.l0, if_neg (by omega)]) (Ev.now s)⟩)
    (fun i s hi hs => by
      refine ⟨(?a, ?b), ?inv, fun r h => Ev.step (fun k => ?eq) h⟩
      case eq =>
        have h1 := hs.1
        have h2 := hs.2
        rw [laws_markWorkSheetS.l0, if_pos (by omega), if_pos (by omega)]
        simp only [Option.bind_some]
        rw [wrap_id (s.1 + 1) (by omega) (by omega), wrap_id (s.1 + 1 + 1) (by omega) (by omega), wrap_id (s.1 + 1 + 1 + 1) (by omega) (by omega), wrap_id (s.1 + 1 + 1 + 1 + 1) (by omega) (by omega), wrap_id (s.1 + 1 + 1 + 1 + 1 + 1) (by omega) (by omega), wrap_id ((i : Int) + 1) (by omega) (by omega)]
      case inv =>
        have h1 := hs.1
        have h2 := hs.2
        exact ⟨by simp only; omega, by simp [h2]⟩) (1, t) ⟨by simp, rfl⟩
  exact ⟨m, t', hm, h⟩
theorem FnExactCarefulWeavers (l0 : List (S65)) (q_l0 : (l0.length ≤ maxLen ∧ ∀ q ∈ l0, ((Lit.int .i64 q.f0).wf = true ∧ (Lit.int .i64 q.f1).wf = true ∧ (Lit.int .i64 q.f2).wf = true ∧ (Lit.int .i64 q.f3).wf = true ∧ (Lit.int .i64 q.f4).wf = true))) : ∃ k, laws_FnExactCarefulWeavers.f k l0 = some true := by
  by_cases hl : (l0.length : Int) ≤ 1048576
  · obtain ⟨t, htl, K1, h1⟩ := toWS_ev l0 hl
    obtain ⟨r, hr, ⟨K2, h2⟩, K3, h3⟩ := Careful_same t (by omega)
    obtain ⟨K4, h4⟩ := eqWS_ev t (by omega)
    obtain ⟨m, t', hm, K5, h5⟩ := markWS_ev t (by omega)
    obtain ⟨K6, h6⟩ := eqInts_ev r.1 (by omega)
    obtain ⟨g', ⟨K7, h7⟩, K8, h8⟩ := mark_ev r.1 (by omega)
    dsimp only at h1 h2 h3 h4 h5 h6 h7 h8
    obtain ⟨N, hN⟩ : ∃ N, N = K1 + K2 + K3 + K4 + K5 + K6 + K7 + K8 := ⟨_, rfl⟩
    replace h1 := fun j => h1 (N + j) (by omega)
    replace h2 := fun j => h2 (N + j) (by omega)
    replace h3 := fun j => h3 (N + j) (by omega)
    replace h4 := fun j => h4 (N + j) (by omega)
    replace h5 := fun j => h5 (N + j) (by omega)
    replace h6 := fun j => h6 (N + j) (by omega)
    replace h7 := fun j => h7 (N + j) (by omega)
    replace h8 := fun j => h8 (N + j) (by omega)
    refine ⟨N + 4, ?_⟩
    have n1 : ¬ m < 0 := by omega
    have n2 : ¬ 1 + (r.1.length : Int) < 0 := by omega
    unfold laws_FnExactCarefulWeavers.f
    rw [szWS2 l0 hl]
    have n0 : ¬ 1048576 - (l0.length : Int) < 0 := by omega
    simp only [h1, h2, h3, h4, h5, h6, h7, h8, n0, n1, n2, laws_FnExactCarefulWeavers.j0, laws_FnExactCarefulWeavers.j1, laws_FnExactCarefulWeavers.j2, Option.bind_some, if_false, if_true, bne_self_eq_false, Bool.false_eq_true]
  · refine ⟨0, ?_⟩
    unfold laws_FnExactCarefulWeavers.f
    rw [szWS l0 hl q_l0.1]
    rfl
end Go.Proofs.Ytffgmmfkiecheaa.Pure
