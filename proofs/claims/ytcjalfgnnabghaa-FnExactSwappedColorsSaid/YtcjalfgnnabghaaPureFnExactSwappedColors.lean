/- The plain law of FnExactSwappedColors: what the program's functions compute is what the reference's compute. No program and no memory in it. -/
import Derived.Test.YtcjalfgnnabghaaHx4
import Derived.Test.YtcjalfgnnabghaaLps
namespace Go.Proofs.Ytcjalfgnnabghaa.Pure
open Go.RowKit Go.Proofs.YtcjalfgnnabghaaW.PrintWords Go.Proofs.YtcjalfgnnabghaaW.PrintLast Go.Proofs.Ytcjalfgnnabghaa.H
set_option linter.unusedVariables false
set_option linter.unusedSimpArgs false
abbrev SP := S79
theorem l1In_eq (a b c : Int) : spec_l1In.f a b c = some (rng a b c) := spec_l1In.eq a b c
theorem in_eq (a b c : Int) : impl_in.f a b c = some (rng a b c) := impl_in.eq a b c
theorem ext_getD {α : Type} (z : α) (a b : List α) (hl : a.length = b.length) (h : ∀ j, j < a.length → a.getD j z = b.getD j z) : a = b := by
  apply List.ext_getElem hl
  intro j h1 h2
  have := h j h1
  rwa [List.getD_eq_getElem?_getD, List.getD_eq_getElem?_getD, List.getElem?_eq_getElem h1, List.getElem?_eq_getElem h2] at this
theorem take_succ_getD {α : Type} (z : α) (a : List α) (i : Nat) (h : i < a.length) : a.take (i + 1) = a.take i ++ [a.getD i z] := by
  rw [List.take_succ_eq_append_getElem h, List.getD_eq_getElem?_getD, List.getElem?_eq_getElem h]
  rfl
theorem getD_map' {α β : Type} (f : α → β) (z : α) (y : β) (a : List α) (i : Nat) (h : i < a.length) : (a.map f).getD i y = f (a.getD i z) := by
  rw [List.getD_eq_getElem?_getD, List.getElem?_map, List.getD_eq_getElem?_getD, List.getElem?_eq_getElem h]
  rfl
theorem set_mid {α : Type} (f : α → α) (z : α) (a : List α) (i : Nat) (h : i < a.length) : ((a.take i).map f ++ a.drop i).set i (f (a.getD i z)) = (a.take (i + 1)).map f ++ a.drop (i + 1) := by
  have e : a.drop i = a.getD i z :: a.drop (i + 1) := by
    rw [List.drop_eq_getElem_cons h, List.getD_eq_getElem?_getD, List.getElem?_eq_getElem h]
    rfl
  rw [e, take_succ_getD z a i h, List.map_append, List.append_assoc]
  have hl : ((a.take i).map f).length = i := by rw [List.length_map, List.length_take]; omega
  rw [List.set_append_right _ _ (by omega), hl, Nat.sub_self]
  rfl
theorem mid_getD {α : Type} (f : α → α) (z : α) (a : List α) (i : Nat) (h : i < a.length) : ((a.take i).map f ++ a.drop i).getD i z = a.getD i z := by
  have hl : ((a.take i).map f).length = i := by rw [List.length_map, List.length_take]; omega
  rw [List.getD_eq_getElem?_getD, List.getElem?_append_right (by omega), hl, Nat.sub_self, List.getElem?_drop, Nat.add_zero, List.getD_eq_getElem?_getD]
theorem mid_length {α : Type} (f : α → α) (a : List α) (i : Nat) : ((a.take i).map f ++ a.drop i).length = a.length := by
  rw [List.length_append, List.length_map, List.length_take, List.length_drop]; omega
def okChart (w h : Int) (l : List Int) : Bool := (l.all fun x => rng x 0 5) && (rng w 1 8 && (rng h 1 8 && ((l.length : Int) == wrap64 (w * h))))
theorem okChart_iff (w h : Int) (l : List Int) (hk : okChart w h l = true) : (∀ i, i < l.length → 0 ≤ l.getD i 0 ∧ l.getD i 0 ≤ 5) ∧ (1 ≤ w ∧ w ≤ 8) ∧ (1 ≤ h ∧ h ≤ 8) ∧ (l.length : Int) = w * h ∧ l.length ≤ 64 := by
  unfold okChart at hk
  simp only [Bool.and_eq_true, rng_iff, beq_iff_eq] at hk
  obtain ⟨h1, h2, h3, h4⟩ := hk
  have p0 : 0 ≤ w * h := Int.mul_nonneg (by omega) (by omega)
  have p1 : w * h ≤ 8 * 8 := Int.mul_le_mul h2.2 h3.2 (by omega) (by omega)
  rw [wrap_id _ (by omega) (by omega)] at h4
  refine ⟨fun i hi => ?_, h2, h3, h4, by omega⟩
  have := (all_getD 0 l _).1 h1 i hi
  exact (rng_iff _ _ _).1 this
theorem l2Good_ev (w h : Int) (l : List Int) (hl : l.length ≤ 2000000) : Ev (fun k => spec_l2Good.f k w h l) (okChart w h l) := by
  unfold spec_l2Good.f
  have e : okChart w h l = ((List.range l.length).all (fun i => rng (l.getD i 0) 0 5) && (rng w 1 8 && (rng h 1 8 && ((l.length : Int) == wrap64 (w * h))))) := by
    unfold okChart
    congr 1
    rw [Bool.eq_iff_iff, all_getD 0, all_range]
  rw [e]
  refine Ev.scan (fun k i => spec_l2Good.l0 k i w h l) l.length _ _ (Ev.step (f := fun _ => some _) (fun k => ?_) (Ev.now _)) ?_ ?_
  · rw [spec_l2Good.l0, if_neg (by omega)]
    unfold spec_l2Side.f
    simp only [l1In_eq, Option.bind_some]
    cases rng w 1 8 <;> cases rng h 1 8 <;> rfl
  · intro i hi hg
    refine Ev.step (f := fun _ => some false) (fun k => ?_) (Ev.now _)
    rw [spec_l2Good.l0, if_pos (by omega), if_pos (by omega)]
    unfold spec_l2Color.f
    have e0 : rd l (i : Int) = l.getD i 0 := rfl
    rw [l1In_eq, e0, hg]
    rfl
  · intro i r hi hg hr
    refine Ev.step (fun k => ?_) hr
    rw [spec_l2Good.l0, if_pos (by omega), if_pos (by omega)]
    unfold spec_l2Color.f
    have e0 : rd l (i : Int) = l.getD i 0 := rfl
    rw [l1In_eq, e0, hg, wrap_id _ (by omega) (by omega)]
    rfl
theorem IsChart_eq (w h : Int) (l : List Int) : impl_IsChart.f w h l = some (okChart w h l) := by
  unfold impl_IsChart.f impl_isSide.f areAll_impl_isColor.f okChart
  simp only [in_eq, Option.bind_some]
  by_cases e : (l.length : Int) = wrap64 (w * h)
  · rw [if_pos e, beq_iff_eq.2 e]
    cases rng w 1 8 <;> cases rng h 1 8 <;> simp
  · rw [if_neg e, beq_eq_false_iff_ne.2 e]
    cases rng w 1 8 <;> cases rng h 1 8 <;> simp
theorem size_ev (w h : Int) (l : List Int) (w1 h1 : Int) (l1 : List Int) (hl : l.length ≤ 2000000) (hl1 : l1.length ≤ 2000000) : Ev (fun k => spec_l13Size.f k w h l w1 h1 l1) (okChart w h l && (okChart w1 h1 l1 && (w1 == w && h1 == h))) := by
  unfold spec_l13Size.f
  refine Ev.bind (l2Good_ev w h l hl) ?_
  cases okChart w h l with
  | false => simp only [Bool.false_eq_true, if_false, Bool.false_and]; exact Ev.now _
  | true =>
    simp only [if_true, Bool.true_and]
    refine Ev.bind (l2Good_ev w1 h1 l1 hl1) ?_
    cases okChart w1 h1 l1 with
    | false => simp only [Bool.false_eq_true, if_false, Bool.false_and]; exact Ev.now _
    | true =>
      simp only [if_true, Bool.true_and]
      by_cases e : w = w1
      · simp only [if_pos e]
        have e3 : (w1 == w && h1 == h) = (h == h1) := by
          rw [Bool.eq_iff_iff]
          simp only [Bool.and_eq_true, beq_iff_eq]
          omega
        rw [e3]
        exact Ev.now _
      · simp only [if_neg e]
        have e3 : (w1 == w && h1 == h) = false := by
          rw [beq_eq_false_iff_ne.2 (fun h => e h.symm)]
          rfl
        rw [e3]
        exact Ev.now _
def ltB (x y : SP) : Prop := x.f0 < y.f0 ∨ (x.f0 = y.f0 ∧ x.f1 < y.f1)
theorem strict_ext : ∀ (l1 l2 : List SP), l1.Pairwise ltB → l2.Pairwise ltB → (∀ x, x ∈ l1 ↔ x ∈ l2) → l1 = l2 := by
  intro l1
  induction l1 with
  | nil =>
    intro l2 _ _ h
    cases l2 with
    | nil => rfl
    | cons y r => exact absurd ((h y).2 (List.mem_cons_self ..)) (by simp)
  | cons x r ih =>
    intro l2 h1 h2 h
    cases l2 with
    | nil => exact absurd ((h x).1 (List.mem_cons_self ..)) (by simp)
    | cons y s =>
      obtain ⟨a1, a2⟩ := List.pairwise_cons.1 h1
      obtain ⟨b1, b2⟩ := List.pairwise_cons.1 h2
      have e : x = y := by
        rcases List.mem_cons.1 ((h x).1 (List.mem_cons_self ..)) with e | m
        · exact e
        · rcases List.mem_cons.1 ((h y).2 (List.mem_cons_self ..)) with e | m2
          · exact e.symm
          · have p := b1 x m
            have q := a1 y m2
            unfold ltB at p q
            omega
      subst e
      congr 1
      refine ih s a2 b2 (fun z => ⟨fun m => ?_, fun m => ?_⟩)
      · rcases List.mem_cons.1 ((h z).1 (List.mem_cons_of_mem _ m)) with e | m2
        · subst e
          have := a1 _ m
          unfold ltB at this
          omega
        · exact m2
      · rcases List.mem_cons.1 ((h z).2 (List.mem_cons_of_mem _ m)) with e | m2
        · subst e
          have := b1 _ m
          unfold ltB at this
          omega
        · exact m2
theorem getS (l : List SP) (i : Nat) (hi : i < l.length) : l.getD i z79 = l[i] := by
  rw [List.getD_eq_getElem?_getD, List.getElem?_eq_getElem hi]
  rfl
def leB (x y : SP) : Prop := x.f0 < y.f0 ∨ (x.f0 = y.f0 ∧ x.f1 ≤ y.f1)
theorem sortP_pair (l : List SP) : (sortP l).Pairwise leB := by
  have h := List.pairwise_mergeSort (le := fun x y => !ltOf cmpP y x) (fun a b c h1 h2 => by
    rw [ltP] at *
    simp only [Bool.not_eq_true', decide_eq_false_iff_not] at *
    omega) (fun a b => by
    rw [ltP, ltP]
    by_cases c : b.f0 < a.f0 ∨ b.f0 = a.f0 ∧ b.f1 < a.f1
    · rw [decide_eq_false (p := a.f0 < b.f0 ∨ a.f0 = b.f0 ∧ a.f1 < b.f1) (by omega)]; simp
    · rw [decide_eq_false c]; simp) l
  refine List.Pairwise.imp (fun {a b} hab => ?_) h
  rw [ltP] at hab
  simp only [Bool.not_eq_true', decide_eq_false_iff_not] at hab
  unfold leB
  omega
theorem sortP_mem (l : List SP) (x : SP) : x ∈ sortP l ↔ x ∈ l := (List.mergeSort_perm l _).mem_iff
theorem eqQ_iff (x y : SP) : eqQ x y = true ↔ x = y := by
  unfold eqQ
  rw [Bool.and_eq_true, beq_iff_eq, beq_iff_eq]
  constructor
  · rintro ⟨a, b⟩
    cases x; cases y
    simp only at a b
    rw [a, b]
  · rintro rfl
    exact ⟨rfl, rfl⟩
theorem compP_mem (l : List SP) (x : SP) : x ∈ compP l ↔ x ∈ l := by
  unfold compP keepP
  rw [List.mem_map]
  constructor
  · rintro ⟨i, hi, rfl⟩
    have := List.mem_range.1 (List.mem_filter.1 hi).1
    rw [getS l i this]
    exact List.getElem_mem this
  · intro hx
    obtain ⟨i, hi, rfl⟩ := List.getElem_of_mem hx
    have key : ∀ i : Nat, (h : i < l.length) → ∃ j, j ∈ (List.range l.length).filter (newAt l) ∧ l.getD j z79 = l[i] := by
      intro i
      induction i with
      | zero =>
        intro h
        exact ⟨0, List.mem_filter.2 ⟨List.mem_range.2 h, by unfold newAt; rfl⟩, getS l 0 h⟩
      | succ i ih =>
        intro h
        cases c : newAt l (i + 1) with
        | true => exact ⟨i + 1, List.mem_filter.2 ⟨List.mem_range.2 h, c⟩, getS l (i + 1) h⟩
        | false =>
          obtain ⟨j, j1, j2⟩ := ih (by omega)
          refine ⟨j, j1, ?_⟩
          unfold newAt at c
          rw [decide_eq_false (by omega), Bool.false_or, Bool.not_eq_false', eqQ_iff, Nat.add_sub_cancel, getS l (i + 1) h, getS l i (by omega)] at c
          rw [j2, c]
    exact key i hi
theorem compP_pair (l : List SP) (hp : l.Pairwise leB) : (compP l).Pairwise ltB := by
  unfold compP keepP
  rw [List.pairwise_map]
  have h0 : ((List.range l.length).filter (newAt l)).Pairwise (fun a b => a < b) := List.Pairwise.filter _ List.pairwise_lt_range
  refine List.Pairwise.imp_of_mem (fun {a b} ha hb hab => ?_) h0
  have la := List.mem_range.1 (List.mem_filter.1 ha).1
  have lb := List.mem_range.1 (List.mem_filter.1 hb).1
  have nb := (List.mem_filter.1 hb).2
  have ge := List.pairwise_iff_getElem.1 hp
  unfold newAt at nb
  rw [decide_eq_false (by omega), Bool.false_or, Bool.not_eq_true', Bool.eq_false_iff, ne_eq, eqQ_iff, getS l b lb, getS l (b - 1) (by omega)] at nb
  rw [getS l a la, getS l b lb]
  have h1 := ge (b - 1) b (by omega) lb (by omega)
  have h2 : leB l[a] l[b - 1] := by
    by_cases e : a = b - 1
    · subst e
      unfold leB
      omega
    · exact ge a (b - 1) la (by omega) (by omega)
  have h3 : ¬ (l[b].f0 = l[b - 1].f0 ∧ l[b].f1 = l[b - 1].f1) := fun h => nb (by
    cases e1 : l[b]; cases e2 : l[b - 1]
    rw [e1, e2] at h
    simp only at h
    rw [h.1, h.2])
  unfold leB at h1 h2
  unfold ltB
  omega
/-- the reference's pairs, one place after the other -/
def hasQ (t u : List Int) (n : Nat) (q : Nat) : Bool := (q / 6 != q % 6) && (List.range n).any fun i => decide (t.getD i 0 = ((q / 6 : Nat) : Int)) && decide (u.getD i 0 = ((q % 6 : Nat) : Int))
def mkQ (q : Nat) : SP := ⟨((q / 6 : Nat) : Int), ((q % 6 : Nat) : Int)⟩
def specQ (t u : List Int) (n q : Nat) : List SP := ((List.range q).filter (hasQ t u n)).map mkQ
theorem specQ_succ (t u : List Int) (n q : Nat) : specQ t u n (q + 1) = specQ t u n q ++ if hasQ t u n q = true then [mkQ q] else [] := by
  unfold specQ
  rw [List.range_succ, List.filter_append, List.map_append]
  congr 1
  by_cases c : hasQ t u n q = true
  · simp [c]
  · simp [c]
theorem specQ_len (t u : List Int) (n q : Nat) : (specQ t u n q).length ≤ q := by
  have := List.length_filter_le (hasQ t u n) (List.range q)
  unfold specQ
  rw [List.length_map]
  rwa [List.length_range] at this
theorem specQ_pair (t u : List Int) (n q : Nat) : (specQ t u n q).Pairwise ltB := by
  unfold specQ
  rw [List.pairwise_map]
  refine List.Pairwise.imp (fun {a b} hab => ?_) (List.Pairwise.filter _ List.pairwise_lt_range)
  unfold ltB mkQ
  dsimp only
  omega
theorem same_pairs (t u : List Int) (n : Nat) (hn : n = t.length) (ht : ∀ i, i < n → 0 ≤ t.getD i 0 ∧ t.getD i 0 ≤ 5) (hu : ∀ i, i < n → 0 ≤ u.getD i 0 ∧ u.getD i 0 ≤ 5) : compP (sortP (pairsTo t u n)) = specQ t u n 36 := by
  refine strict_ext _ _ (compP_pair _ (sortP_pair _)) (specQ_pair _ _ _ _) (fun x => ?_)
  rw [compP_mem, sortP_mem]
  unfold pairsTo specQ
  rw [List.mem_map, List.mem_map]
  constructor
  · rintro ⟨i, hi, rfl⟩
    obtain ⟨h1, h2⟩ := List.mem_filter.1 hi
    have h1 := List.mem_range.1 h1
    have a := ht i h1
    have b := hu i h1
    unfold swAt at h2
    have h2 : u.getD i 0 ≠ t.getD i 0 := by simpa using h2
    obtain ⟨x, hx⟩ : ∃ x, x = t.getD i 0 := ⟨_, rfl⟩
    obtain ⟨y, hy⟩ : ∃ y, y = u.getD i 0 := ⟨_, rfl⟩
    rw [← hx] at a h2 ⊢
    rw [← hy] at b h2 ⊢
    refine ⟨6 * x.toNat + y.toNat, List.mem_filter.2 ⟨List.mem_range.2 (by omega), ?_⟩, ?_⟩
    · unfold hasQ
      rw [show (6 * x.toNat + y.toNat) / 6 = x.toNat by omega, show (6 * x.toNat + y.toNat) % 6 = y.toNat by omega, Bool.and_eq_true, List.any_eq_true]
      refine ⟨by rw [bne_iff_ne]; omega, i, List.mem_range.2 h1, ?_⟩
      rw [Bool.and_eq_true, decide_eq_true_iff, decide_eq_true_iff, ← hx, ← hy]
      omega
    · unfold mkQ
      rw [show (6 * x.toNat + y.toNat) / 6 = x.toNat by omega, show (6 * x.toNat + y.toNat) % 6 = y.toNat by omega]
      congr 1 <;> omega
  · rintro ⟨q, hq, rfl⟩
    obtain ⟨h1, h2⟩ := List.mem_filter.1 hq
    unfold hasQ at h2
    rw [Bool.and_eq_true, List.any_eq_true] at h2
    obtain ⟨h2, i, h3, h4⟩ := h2
    rw [Bool.and_eq_true, decide_eq_true_iff, decide_eq_true_iff] at h4
    have h2 := bne_iff_ne.1 h2
    refine ⟨i, List.mem_filter.2 ⟨h3, ?_⟩, ?_⟩
    · unfold swAt
      rw [bne_iff_ne, h4.1, h4.2]
      omega
    · unfold mkQ
      rw [h4.1, h4.2]
theorem specSw_ev (w h : Int) (t : List Int) (w1 h1 : Int) (u : List Int) (hl : t.length = u.length) (hn : t.length ≤ 1000000) : Ev (fun k => spec_SwappedColors.l0 k [] 0 w h t w1 h1 u) (specQ t u t.length 36, true) := by
  have e0 : ∀ i : Nat, rd t (i : Int) = t.getD i 0 := fun _ => rfl
  have e1 : ∀ i : Nat, rd u (i : Int) = u.getD i 0 := fun _ => rfl
  have key : ∀ d q : Nat, q + d = 35 → Ev (fun k => spec_SwappedColors.l1 k (specQ t u t.length q) ((q / 6 : Nat) : Int) ((q % 6 : Nat) : Int) w h t w1 h1 u) (specQ t u t.length 36, true) := by
    intro d
    induction d with
    | zero =>
      intro q hq
      exact one q (by omega) (Ev.step (fun k => by rw [spec_SwappedColors.l1, if_neg (by omega)]) (Ev.step (f := fun _ => some (specQ t u t.length 36, true)) (fun k => by rw [spec_SwappedColors.l0, if_neg (by rw [wrap_id _ (by omega) (by omega)]; omega), show q + 1 = 36 by omega]) (Ev.now _)))
    | succ d ih =>
      intro q hq
      have G := ih (q + 1) (by omega)
      refine one q (by omega) ?_
      by_cases c : q % 6 = 5
      · rw [show (q + 1) / 6 = q / 6 + 1 by omega, show (q + 1) % 6 = 0 by omega] at G
        refine Ev.step (fun k => by rw [spec_SwappedColors.l1, if_neg (by omega)]) (Ev.step (fun k => by rw [spec_SwappedColors.l0, wrap_id _ (by omega) (by omega), if_pos (by omega)]) ?_)
        rw [show ((q / 6 : Nat) : Int) + 1 = ((q / 6 + 1 : Nat) : Int) by omega]
        exact G
      · rw [show (q + 1) / 6 = q / 6 by omega, show (q + 1) % 6 = q % 6 + 1 by omega] at G
        rw [show ((q % 6 : Nat) : Int) + 1 = ((q % 6 + 1 : Nat) : Int) by omega]
        exact G
  exact Ev.step (fun k => by rw [spec_SwappedColors.l0, if_pos (by decide)]; rfl) (key 35 0 rfl)
where
  one (q : Nat) (hq : q < 36) (hnext : Ev (fun k => spec_SwappedColors.l1 k (specQ t u t.length (q + 1)) ((q / 6 : Nat) : Int) (((q % 6 : Nat) : Int) + 1) w h t w1 h1 u) (specQ t u t.length 36, true)) : Ev (fun k => spec_SwappedColors.l1 k (specQ t u t.length q) ((q / 6 : Nat) : Int) ((q % 6 : Nat) : Int) w h t w1 h1 u) (specQ t u t.length 36, true) := by
    have e0 : ∀ i : Nat, rd t (i : Int) = t.getD i 0 := fun _ => rfl
    have e1 : ∀ i : Nat, rd u (i : Int) = u.getD i 0 := fun _ => rfl
    have hql := specQ_len t u t.length q
    have lp : ∀ d i : Nat, i + d = t.length → Ev (fun k => spec_SwappedColors.l2 k (specQ t u t.length q) ((q / 6 : Nat) : Int) ((q % 6 : Nat) : Int) (hasQ t u i q) (i : Int) w h t w1 h1 u) (specQ t u t.length 36, true) := by
      intro d
      induction d with
      | zero =>
        intro i hi
        have hi : i = t.length := hi
        subst hi
        rw [specQ_succ] at hnext
        cases c : hasQ t u t.length q with
        | true =>
          rw [c, if_pos rfl] at hnext
          exact Ev.step (fun k => by rw [spec_SwappedColors.l2, if_neg (by omega), if_pos rfl, if_pos (by omega), wrap_id _ (by omega) (by omega)]; rfl) hnext
        | false =>
          rw [c, if_neg (by decide), List.append_nil] at hnext
          exact Ev.step (fun k => by rw [spec_SwappedColors.l2, if_neg (by omega), if_neg (by decide), wrap_id _ (by omega) (by omega)]) hnext
      | succ d ih =>
        intro i hi
        have G := ih (i + 1) (by omega)
        rw [show ((i + 1 : Nat) : Int) = (i : Int) + 1 by omega] at G
        have hs : hasQ t u (i + 1) q = (hasQ t u i q || ((q / 6 != q % 6) && (decide (t.getD i 0 = ((q / 6 : Nat) : Int)) && decide (u.getD i 0 = ((q % 6 : Nat) : Int))))) := by
          unfold hasQ
          rw [List.range_succ, List.any_append, List.any_cons, List.any_nil, Bool.or_false]
          cases (q / 6 != q % 6) <;> simp
        rw [hs] at G
        cases c : hasQ t u i q with
        | true =>
          rw [c, Bool.true_or] at G
          exact Ev.step (fun k => by rw [spec_SwappedColors.l2, if_pos (by omega), if_pos rfl, wrap_id _ (by omega) (by omega)]) G
        | false =>
          rw [c, Bool.false_or] at G
          by_cases c1 : q / 6 = q % 6
          · rw [show (q / 6 != q % 6) = false by rw [c1]; exact bne_self_eq_false _, Bool.false_and] at G
            exact Ev.step (fun k => by rw [spec_SwappedColors.l2, if_pos (by omega), if_neg (by decide), if_pos (by omega), wrap_id _ (by omega) (by omega)]) G
          · rw [show (q / 6 != q % 6) = true from bne_iff_ne.2 c1, Bool.true_and] at G
            by_cases c2 : t.getD i 0 = ((q / 6 : Nat) : Int)
            · rw [decide_eq_true c2, Bool.true_and] at G
              refine Ev.step (fun k => by rw [spec_SwappedColors.l2, if_pos (by omega), if_neg (by decide), if_neg (by omega), if_pos (by omega), e0, if_pos c2, if_pos (by omega), e1, wrap_id _ (by omega) (by omega)]) ?_
              exact G
            · rw [decide_eq_false c2, Bool.false_and] at G
              exact Ev.step (fun k => by rw [spec_SwappedColors.l2, if_pos (by omega), if_neg (by decide), if_neg (by omega), if_pos (by omega), e0, if_neg c2, wrap_id _ (by omega) (by omega)]) G
    have h0 : hasQ t u 0 q = false := by unfold hasQ; simp
    have L := lp t.length 0 (by omega)
    rw [h0] at L
    exact Ev.step (fun k => by rw [spec_SwappedColors.l1, if_pos (by omega)]; rfl) L
theorem one_eq (w h : Int) (l : List Int) (w1 h1 : Int) (l1 : List Int) : impl_isSameSize.one w h l w1 h1 l1 = some (okChart w h l && (okChart w1 h1 l1 && (w1 == w && h1 == h))) := by
  unfold impl_isSameSize.one
  rw [IsChart_eq, IsChart_eq]
  rfl
theorem Swapped_same (w h : Int) (t : List Int) (w1 h1 : Int) (u : List Int) (hl : t.length ≤ 2000000) (hl1 : u.length ≤ 2000000) : ∃ r : List SP × Bool, r.1.length ≤ 36 ∧ Ev (fun k => spec_SwappedColors.f k w h t w1 h1 u) r ∧ impl_SwappedColors.f w h t w1 h1 u = some r ∧ (r.2 = true → okChart w h t = true ∧ okChart w1 h1 u = true ∧ w1 = w ∧ h1 = h ∧ r.1 = compP (sortP (pairsTo t u t.length))) := by
  have S := size_ev w h t w1 h1 u hl hl1
  unfold spec_SwappedColors.f impl_SwappedColors.f
  rw [one_eq, Option.bind_some]
  simp only [Option.bind_some]
  cases c : okChart w h t && (okChart w1 h1 u && (w1 == w && h1 == h)) with
  | false =>
    exact ⟨([], false), by simp, Ev.bind S (by simp only [c, Bool.false_eq_true, if_false]; exact Ev.now _), by rw [if_neg (by decide)], fun h => by cases h⟩
  | true =>
    have c' := c
    rw [Bool.and_eq_true, Bool.and_eq_true, Bool.and_eq_true, beq_iff_eq, beq_iff_eq] at c'
    obtain ⟨o1, o2, rfl, rfl⟩ := c'
    obtain ⟨a1, _, _, a4, a5⟩ := okChart_iff _ _ _ o1
    obtain ⟨b1, _, _, b4, b5⟩ := okChart_iff _ _ _ o2
    have el : t.length = u.length := by omega
    have sp := same_pairs t u t.length rfl a1 (fun i hi => b1 i (by omega))
    have sv := specSw_ev w1 h1 t w1 h1 u el (by omega)
    refine ⟨(specQ t u t.length 36, true), specQ_len _ _ _ _, Ev.bind S (by simp only [c, if_true]; exact sv), ?_, fun _ => ⟨o1, o2, rfl, rfl, sp.symm⟩⟩
    rw [if_pos rfl, if_pos ⟨el, by omega⟩, sp]
theorem eqA2_ev (t : List SP) (ht : t.length ≤ 2000000) : Ev (fun k => laws_eqIntA2S.f k t t) true := by
  obtain ⟨r, hr, h⟩ := Ev.loopE (fun k i (_ : Unit) => laws_eqIntA2S.l0 k t t i) t.length (fun _ _ => True) (fun r => r = true)
    (fun s _ => ⟨true, rfl, Ev.step (f := fun _ => some true) (fun k => by rw [laws_eqIntA2S.l0, if_neg (by omega)]) (Ev.now _)⟩)
    (fun i s hi _ => ⟨(), trivial, fun r h => Ev.step (fun k => by
      rw [laws_eqIntA2S.l0, if_pos (by omega), if_pos (by omega), if_pos (by omega)]
      unfold laws_eqIntA2.f
      simp only [decide_true, Bool.and_self, Option.bind_some, if_true]
      rw [wrap_id _ (by omega) (by omega)]) h⟩) () trivial
  subst hr
  unfold laws_eqIntA2S.f
  simp only [if_true]
  exact h
theorem markN2_get (l : List SP) (a : Int) (i : Nat) : i ≤ l.length → ∀ j, j < i → (markN2 l a i).getD j z79 = ⟨a + 2 * (j : Int), a + 2 * (j : Int) + 1⟩ := by
  induction i with
  | zero => intro _ j hj; omega
  | succ i ih =>
    intro hi j hj
    rw [markN2, getD_set]
    by_cases e : i = j
    · subst e
      rw [if_pos ⟨rfl, by rw [markN2_length]; omega⟩]
    · rw [if_neg (fun h => e h.1)]
      exact ih (by omega) j (by omega)
theorem markA2_eq (l : List SP) (hl : l.length ≤ 2000000) : laws_markIntA2S.f l 1 = some (1 + 2 * (l.length : Int), markN2 l 1 l.length) := by
  unfold laws_markIntA2S.f
  rw [if_pos ⟨by omega, by omega, by omega⟩]
theorem heldA2_eq (l : List SP) (hl : l.length ≤ 2000000) : laws_heldIntA2S.f (markN2 l 1 l.length) 1 = some (1 + 2 * (l.length : Int)) := by
  unfold laws_heldIntA2S.f
  have e : isMark2 (markN2 l 1 l.length) 1 = true := by
    unfold isMark2
    rw [List.all_eq_true]
    intro j hj
    have hj' := List.mem_range.1 hj
    rw [markN2_length] at hj'
    rw [markN2_get l 1 l.length (Nat.le_refl _) j hj']
    simp
  rw [if_pos ⟨⟨by omega, by omega, by rw [markN2_length]; omega⟩, e⟩, markN2_length]
theorem szChart1 (w h : Int) (l : List Int) (hk : ¬ (l.length : Int) ≤ 1048576) (hm : l.length ≤ maxLen) : laws_szChart.f w h l 1048576 = some (-1) := by
  have hm' : l.length ≤ 9223372036854775807 := hm
  unfold laws_szChart.f laws_szIntS.f
  rw [wrap_id _ (by omega) (by omega), if_pos (by omega)]
  rfl
theorem szChart2 (w h : Int) (l : List Int) (hk : (l.length : Int) ≤ 1048576) : laws_szChart.f w h l 1048576 = some (1048576 - (l.length : Int)) := by
  unfold laws_szChart.f laws_szIntS.f
  rw [wrap_id _ (by omega) (by omega), if_neg (by omega), Option.bind_some, if_neg (by omega)]
theorem toInts_ev (l : List Int) (hl : l.length ≤ 2000000) : ∃ t : List Int, t.length = l.length ∧ Ev (fun k => laws_toIntS.f k l) t := by
  obtain ⟨r, hr, h⟩ := Ev.loopE (fun k i (s : List Int) => laws_toIntS.l0 k l s i) l.length (fun _ s => s.length = l.length) (fun r => r.length = l.length)
    (fun s hs => ⟨s, hs, Ev.step (fun k => by rw [laws_toIntS.l0, if_neg (by omega)]) (Ev.now s)⟩)
    (fun i s hi hs => ⟨s.set i (rd l i), by simp [hs], fun r h => Ev.step (fun k => by
      rw [laws_toIntS.l0, if_pos (by omega), if_pos (by omega), if_pos (by omega), wrap_id _ (by omega) (by omega), Int.toNat_natCast]) h⟩) (List.replicate l.length 0) (by simp)
  refine ⟨r, hr, Ev.congr (fun k => ?_) h⟩
  unfold laws_toIntS.f
  rw [if_pos (by omega), if_pos (by omega), Int.toNat_natCast]
theorem toChart_ev (w h : Int) (l : List Int) (hl : l.length ≤ 2000000) : ∃ t : List Int, t.length = l.length ∧ Ev (fun k => laws_toChart.f k w h l) (w, h, t) := by
  obtain ⟨t, ht, hv⟩ := toInts_ev l hl
  exact ⟨t, ht, by unfold laws_toChart.f; exact Ev.bind hv (Ev.now _)⟩
theorem eqInts_ev (t : List Int) (ht : t.length ≤ 2000000) : Ev (fun k => laws_eqIntS.f k t t) true := by
  refine Ev.congr (f := fun k => laws_eqIntS.l0 k t t 0) (fun k => by unfold laws_eqIntS.f; rw [if_pos rfl]) ?_
  obtain ⟨r, hr, h⟩ := Ev.loopE (fun k i (_ : Unit) => laws_eqIntS.l0 k t t i) t.length (fun _ _ => True) (fun r => r = true)
    (fun s _ => ⟨true, rfl, Ev.step (fun k => by rw [laws_eqIntS.l0, if_neg (by omega)]) (Ev.now true)⟩)
    (fun i s hi _ => ⟨(), trivial, fun r h => Ev.step (fun k => by
      rw [laws_eqIntS.l0, if_pos (by omega), if_pos (by omega), if_pos (by omega), if_pos rfl, wrap_id _ (by omega) (by omega)]) h⟩) () trivial
  subst hr
  exact h
theorem eqChart_ev (w h : Int) (t : List Int) (hl : t.length ≤ 2000000) : Ev (fun k => laws_eqChart.f k w h t w h t) true := by
  unfold laws_eqChart.f
  simp only [if_true]
  exact Ev.bind (eqInts_ev t hl) (by simp only [if_true]; exact Ev.now _)
theorem szChartN (w h : Int) (l : List Int) (n : Int) (hn0 : 0 ≤ n) (hn : n ≤ 1048576) (hm : l.length ≤ maxLen) : laws_szChart.f w h l n = some (if (l.length : Int) ≤ n then n - (l.length : Int) else -1) := by
  have hm' : l.length ≤ 9223372036854775807 := hm
  unfold laws_szChart.f laws_szIntS.f
  rw [wrap_id _ (by omega) (by omega)]
  by_cases h : (l.length : Int) ≤ n
  · rw [if_pos h, if_neg (by omega), Option.bind_some, if_neg (by omega)]
  · rw [if_neg h, if_pos (by omega)]
    rfl
theorem markN_ev (t : List Int) (m0 : Int) (hm0 : 0 ≤ m0) (hm1 : m0 ≤ 8000000) (ht : t.length ≤ 2000000) : ∃ t' : List Int, Ev (fun k => laws_markIntS.f k t m0) (m0 + (t.length : Int), t') := by
  unfold laws_markIntS.f
  obtain ⟨⟨m, t'⟩, hm, h⟩ := Ev.loopE (fun k i (q : Int × List Int) => laws_markIntS.l0 k q.2 q.1 i) t.length
    (fun i q => q.1 = m0 + (i : Int) ∧ q.2.length = t.length) (fun r => r.1 = m0 + (t.length : Int))
    (fun s hs => ⟨s, hs.1, Ev.step (fun k => by rw [laws_markIntS.l0, if_neg (by omega)]) (Ev.now s)⟩)
    (fun i s hi hs => ⟨(s.1 + 1, s.2.set i s.1), ⟨by have := hs.1; simp only; omega, by simp [hs.2]⟩, fun r h => Ev.step (fun k => by
      have h1 := hs.1
      have h2 := hs.2
      rw [laws_markIntS.l0, if_pos (by omega), if_pos (by omega), wrap_id _ (by omega) (by omega), wrap_id _ (by omega) (by omega), Int.toNat_natCast]) h⟩) (m0, t) ⟨by simp, rfl⟩
  simp only at hm
  subst hm
  exact ⟨t', h⟩
theorem markChartN_ev (w h : Int) (t : List Int) (m0 : Int) (hm0 : 0 ≤ m0) (hm1 : m0 ≤ 8000000) (ht : t.length ≤ 2000000) : ∃ t' : List Int, Ev (fun k => laws_markChart.f k w h t m0) (m0 + (t.length : Int), t') := by
  obtain ⟨t', h⟩ := markN_ev t m0 hm0 hm1 ht
  exact ⟨t', by unfold laws_markChart.f; exact Ev.bind h (Ev.now _)⟩
theorem FnExactSwappedColors (a0_0 : Int) (a0_1 : Int) (l0_2 : List (Int)) (a1_0 : Int) (a1_1 : Int) (l1_2 : List (Int)) (q_a0_0 : (Lit.int .i64 a0_0).wf = true) (q_a0_1 : (Lit.int .i64 a0_1).wf = true) (q_l0_2 : (l0_2.length ≤ maxLen ∧ ∀ q ∈ l0_2, (Lit.int .i64 q).wf = true)) (q_a1_0 : (Lit.int .i64 a1_0).wf = true) (q_a1_1 : (Lit.int .i64 a1_1).wf = true) (q_l1_2 : (l1_2.length ≤ maxLen ∧ ∀ q ∈ l1_2, (Lit.int .i64 q).wf = true)) : ∃ k, laws_FnExactSwappedColors.f k a0_0 a0_1 l0_2 a1_0 a1_1 l1_2 = some true := by
  by_cases hl : (l0_2.length : Int) ≤ 1048576
  · by_cases hl2 : (l1_2.length : Int) ≤ 1048576 - (l0_2.length : Int)
    · obtain ⟨t, ht, K1, h1⟩ := toChart_ev a0_0 a0_1 l0_2 (by omega)
      obtain ⟨u, hu, K5, h5⟩ := toChart_ev a1_0 a1_1 l1_2 (by omega)
      obtain ⟨r, hr, ⟨K2, h2⟩, h3, _⟩ := Swapped_same a0_0 a0_1 t a1_0 a1_1 u (by omega) (by omega)
      obtain ⟨K4, h4⟩ := eqChart_ev a0_0 a0_1 t (by omega)
      obtain ⟨K6, h6⟩ := eqChart_ev a1_0 a1_1 u (by omega)
      obtain ⟨t', K7, h7⟩ := markChartN_ev a0_0 a0_1 t 1 (by omega) (by omega) (by omega)
      obtain ⟨u', K8, h8⟩ := markChartN_ev a1_0 a1_1 u (1 + (t.length : Int)) (by omega) (by omega) (by omega)
      obtain ⟨K9, h9⟩ := eqA2_ev r.1 (by omega)
      have h10 := markA2_eq r.1 (by omega)
      have h11 := heldA2_eq r.1 (by omega)
      obtain ⟨N, hN⟩ : ∃ N, N = K1 + K2 + K4 + K5 + K6 + K7 + K8 + K9 := ⟨_, rfl⟩
      replace h1 := fun j => h1 (N + j) (by omega)
      replace h2 := fun j => h2 (N + j) (by omega)
      replace h4 := fun j => h4 (N + j) (by omega)
      replace h5 := fun j => h5 (N + j) (by omega)
      replace h6 := fun j => h6 (N + j) (by omega)
      replace h7 := fun j => h7 (N + j) (by omega)
      replace h8 := fun j => h8 (N + j) (by omega)
      replace h9 := fun j => h9 (N + j) (by omega)
      dsimp only at h1 h2 h4 h5 h6 h7 h8 h9
      refine ⟨N + 4, ?_⟩
      have n1 : ¬ 1 + (t.length : Int) + (u.length : Int) < 0 := by omega
      have n2 : ¬ 1 + 2 * (r.1.length : Int) < 0 := by omega
      unfold laws_FnExactSwappedColors.f
      rw [szChartN _ _ _ _ (by omega) (by omega) q_l0_2.1, if_pos hl, Option.bind_some, if_neg (by omega), szChartN _ _ _ _ (by omega) (by omega) q_l1_2.1, if_pos hl2, Option.bind_some, if_neg (by omega)]
      simp only [h1, h2, h3, h4, h5, h6, h7, h8, h9, h10, h11, n1, n2, laws_FnExactSwappedColors.j0, laws_FnExactSwappedColors.j1, laws_FnExactSwappedColors.j2, Option.bind_some, if_true, if_false, bne_self_eq_false, Bool.false_eq_true]
    · refine ⟨0, ?_⟩
      unfold laws_FnExactSwappedColors.f
      rw [szChartN _ _ _ _ (by omega) (by omega) q_l0_2.1, if_pos hl, Option.bind_some, if_neg (by omega), szChartN _ _ _ _ (by omega) (by omega) q_l1_2.1, if_neg hl2]
      rfl
  · refine ⟨0, ?_⟩
    unfold laws_FnExactSwappedColors.f
    rw [szChartN _ _ _ _ (by omega) (by omega) q_l0_2.1, if_neg hl]
    rfl
end Go.Proofs.Ytcjalfgnnabghaa.Pure
