/- The plain law of FnStocks: what the program's functions compute is what the reference's compute. No program and no memory in it. -/
import Derived.Test.YtnkecgldapagcaaZ07Hx25
import Derived.Test.YtnkecgldapagcaaZ07Lps
namespace Go.Proofs.Ytnkecgldapagcaa.Pure
open Go.RowKit Go.Proofs.YtnkecgldapagcaaW.PrintWords Go.Proofs.YtnkecgldapagcaaW.PrintLast Go.Proofs.Ytnkecgldapagcaa.H
set_option linter.unusedVariables false
set_option linter.unusedSimpArgs false
theorem Ev.upto {ρ : Type} (g : Nat → Int → Option ρ) (r : ρ) (n : Nat) (hend : Ev (fun k => g k (n : Int)) r) (hstep : ∀ i : Nat, i < n → Ev (fun k => g k ((i : Int) + 1)) r → Ev (fun k => g k (i : Int)) r) : Ev (fun k => g k 0) r := by
  have key : ∀ d i : Nat, i + d = n → Ev (fun k => g k (i : Int)) r := by
    intro d
    induction d with
    | zero =>
      intro i hi
      have : i = n := by omega
      subst this
      exact hend
    | succ d ih =>
      intro i hi
      have h := ih (i + 1) (by omega)
      have e : ((i + 1 : Nat) : Int) = (i : Int) + 1 := by omega
      rw [e] at h
      exact hstep i (by omega) h
  exact key n 0 (by omega)
def okStock (l : List Int) : Bool := (l.all fun x => decide (x ≥ 0)) && ((l.length : Int) == 6)
theorem okStock_iff (l : List Int) (h : okStock l = true) : (∀ i, i < l.length → 0 ≤ l.getD i 0) ∧ l.length = 6 := by
  unfold okStock at h
  simp only [Bool.and_eq_true, beq_iff_eq] at h
  refine ⟨fun i hi => ?_, by omega⟩
  have := (all_getD 0 l _).1 h.1 i hi
  simpa using this
theorem specStock_ev (l : List Int) (hl : l.length ≤ 2000000) : Ev (fun k => spec_l10Stock.f k l) (okStock l) := by
  unfold spec_l10Stock.f
  have e : okStock l = ((List.range l.length).all (fun i => decide (l.getD i 0 ≥ 0)) && ((l.length : Int) == 6)) := by
    unfold okStock
    congr 1
    rw [Bool.eq_iff_iff, all_getD 0, all_range]
  rw [e]
  refine Ev.scan (fun k i => spec_l10Stock.l0 k l i) l.length _ _ (Ev.step (f := fun _ => some _) (fun k => ?_) (Ev.now _)) ?_ ?_
  · rw [spec_l10Stock.l0, if_neg (by omega)]
  · intro i hi hg
    have e0 : rd l (i : Int) = l.getD i 0 := rfl
    refine Ev.step (f := fun _ => some false) (fun k => ?_) (Ev.now _)
    have hg' : ¬ l.getD i 0 ≥ 0 := by simpa using hg
    rw [spec_l10Stock.l0, if_pos (by omega), if_pos (by omega), e0, if_pos (by omega)]
  · intro i r hi hg hr
    have e0 : rd l (i : Int) = l.getD i 0 := rfl
    have hg' : l.getD i 0 ≥ 0 := by simpa using hg
    refine Ev.step (fun k => ?_) hr
    rw [spec_l10Stock.l0, if_pos (by omega), if_pos (by omega), e0, if_neg (by omega), wrap_id _ (by omega) (by omega)]
theorem implStock_eq (l : List Int) : impl_isYarnStock.f l = some (okStock l) := by
  unfold impl_isYarnStock.f areAll_impl_isYarnStock_1.f okStock
  by_cases e : (l.length : Int) = 6
  · rw [if_pos e, beq_iff_eq.2 e, Bool.and_true]; rfl
  · rw [if_neg e, beq_eq_false_iff_ne.2 e, Bool.and_false]
def shortN (A B : List Int) (n : Nat) : List Int := ((List.range n).filter fun i => decide (B.getD i 0 < A.getD i 0)).map fun (i : Nat) => (i : Int)
theorem shortN_length (A B : List Int) (n : Nat) : (shortN A B n).length ≤ n := by
  unfold shortN
  rw [List.length_map]
  have := List.length_filter_le (fun i => decide (B.getD i 0 < A.getD i 0)) (List.range n)
  rwa [List.length_range] at this
theorem shortN_succ (A B : List Int) (n : Nat) : shortN A B (n + 1) = if B.getD n 0 < A.getD n 0 then shortN A B n ++ [(n : Int)] else shortN A B n := by
  unfold shortN
  rw [List.range_succ, List.filter_append, List.map_append]
  by_cases h : B.getD n 0 < A.getD n 0
  · rw [if_pos h, List.filter_cons_of_pos (by simpa using h)]
    rfl
  · rw [if_neg h, List.filter_cons_of_neg (by simpa using h)]
    simp
theorem shortN_pos (A B : List Int) (n : Nat) : 0 < (shortN A B n).length ↔ ∃ i, i < n ∧ B.getD i 0 < A.getD i 0 := by
  unfold shortN
  rw [List.length_map, List.length_pos_iff_exists_mem]
  constructor
  · rintro ⟨i, hi⟩
    rw [List.mem_filter, List.mem_range] at hi
    exact ⟨i, hi.1, by simpa using hi.2⟩
  · rintro ⟨i, h1, h2⟩
    exact ⟨i, by rw [List.mem_filter, List.mem_range]; exact ⟨h1, by simpa using h2⟩⟩
theorem implShort_ev (A B : List Int) (h : A.length ≤ B.length) (hl : A.length ≤ 2000000) : Ev (fun k => impl_short.f k A B) (shortN A B A.length) := by
  unfold impl_short.f
  obtain ⟨r, hr, h1⟩ := Ev.loopE (fun k i (s : List Int) => impl_short.l0 k B s A (A.length : Int) i) A.length (fun i s => s = shortN A B i) (fun r => r = shortN A B A.length)
    (fun s hs => ⟨s, hs, Ev.step (fun k => by rw [impl_short.l0, if_neg (by omega)]) (Ev.now _)⟩)
    (fun i s hi hs => by
      have e1 : rd A (i : Int) = A.getD i 0 := rfl
      have e2 : rd B (i : Int) = B.getD i 0 := rfl
      have hn := shortN_length A B i
      rw [← hs] at hn
      refine ⟨_, rfl, fun r h => Ev.step (fun k => ?_) h⟩
      rw [shortN_succ, ← hs, impl_short.l0, if_pos (by omega), if_pos (by omega), if_pos (by omega), if_pos (by omega), e1, e2]
      by_cases hg : B.getD i 0 < A.getD i 0
      · rw [if_pos hg, if_pos hg, if_pos (by omega), wrap_id _ (by omega) (by omega)]
      · rw [if_neg hg, if_neg hg, wrap_id _ (by omega) (by omega)]) [] rfl
  subst hr
  exact h1
theorem l1In_eq (a b c : Int) : spec_l1In.f a b c = some (rng a b c) := spec_l1In.eq a b c
theorem in_eq (a b c : Int) : impl_in.f a b c = some (rng a b c) := impl_in.eq a b c
theorem take_succ_getD {α : Type} (z : α) (a : List α) (i : Nat) (h : i < a.length) : a.take (i + 1) = a.take i ++ [a.getD i z] := by
  rw [List.take_succ_eq_append_getElem h, List.getD_eq_getElem?_getD, List.getElem?_eq_getElem h]
  rfl
theorem getD_map' {α β : Type} (f : α → β) (z : α) (y : β) (a : List α) (i : Nat) (h : i < a.length) : (a.map f).getD i y = f (a.getD i z) := by
  rw [List.getD_eq_getElem?_getD, List.getElem?_map, List.getD_eq_getElem?_getD, List.getElem?_eq_getElem h]
  rfl
theorem set_mid {α : Type} (f : α → α) (z : α) (a : List α) (i : Nat) (h : i < a.length) : ((a.take i).map f ++ a.drop i).set i (f (a.getD i z)) = (a.take (i + 1)).map f ++ a.drop (i + 1) := by
  have e : a.drop i = a.getD i z :: a.drop (i + 1) := by
    rw [List.drop_eq_getElem_cons h, List.getD_eq_getElem?_getD, List.getElem?_eq_getElem h]
    rfl
  rw [e, take_succ_getD z a i h, List.map_append, List.append_assoc]
  have hl : ((a.take i).map f).length = i := by rw [List.length_map, List.length_take]; omega
  rw [List.set_append_right _ _ (by omega), hl, Nat.sub_self]
  rfl
theorem mid_getD {α : Type} (f : α → α) (z : α) (a : List α) (i : Nat) (h : i < a.length) : ((a.take i).map f ++ a.drop i).getD i z = a.getD i z := by
  have hl : ((a.take i).map f).length = i := by rw [List.length_map, List.length_take]; omega
  rw [List.getD_eq_getElem?_getD, List.getElem?_append_right (by omega), hl, Nat.sub_self, List.getElem?_drop, Nat.add_zero, List.getD_eq_getElem?_getD]
theorem mid_length {α : Type} (f : α → α) (a : List α) (i : Nat) : ((a.take i).map f ++ a.drop i).length = a.length := by
  rw [List.length_append, List.length_map, List.length_take, List.length_drop]; omega
def okChart (w h : Int) (l : List Int) : Bool := (l.all fun x => rng x 0 5) && (rng w 1 8 && (rng h 1 8 && ((l.length : Int) == wrap64 (w * h))))
theorem okChart_iff (w h : Int) (l : List Int) (hk : okChart w h l = true) : (∀ i, i < l.length → 0 ≤ l.getD i 0 ∧ l.getD i 0 ≤ 5) ∧ (1 ≤ w ∧ w ≤ 8) ∧ (1 ≤ h ∧ h ≤ 8) ∧ (l.length : Int) = w * h ∧ l.length ≤ 64 := by
  unfold okChart at hk
  simp only [Bool.and_eq_true, rng_iff, beq_iff_eq] at hk
  obtain ⟨h1, h2, h3, h4⟩ := hk
  have p0 : 0 ≤ w * h := Int.mul_nonneg (by omega) (by omega)
  have p1 : w * h ≤ 8 * 8 := Int.mul_le_mul h2.2 h3.2 (by omega) (by omega)
  rw [wrap_id _ (by omega) (by omega)] at h4
  refine ⟨fun i hi => ?_, h2, h3, h4, by omega⟩
  have := (all_getD 0 l _).1 h1 i hi
  exact (rng_iff _ _ _).1 this
theorem l2Good_ev (w h : Int) (l : List Int) (hl : l.length ≤ 2000000) : Ev (fun k => spec_l2Good.f k w h l) (okChart w h l) := by
  unfold spec_l2Good.f
  have e : okChart w h l = ((List.range l.length).all (fun i => rng (l.getD i 0) 0 5) && (rng w 1 8 && (rng h 1 8 && ((l.length : Int) == wrap64 (w * h))))) := by
    unfold okChart
    congr 1
    rw [Bool.eq_iff_iff, all_getD 0, all_range]
  rw [e]
  refine Ev.scan (fun k i => spec_l2Good.l0 k i w h l) l.length _ _ (Ev.step (f := fun _ => some _) (fun k => ?_) (Ev.now _)) ?_ ?_
  · rw [spec_l2Good.l0, if_neg (by omega)]
    unfold spec_l2Side.f
    simp only [l1In_eq, Option.bind_some]
    cases rng w 1 8 <;> cases rng h 1 8 <;> rfl
  · intro i hi hg
    refine Ev.step (f := fun _ => some false) (fun k => ?_) (Ev.now _)
    rw [spec_l2Good.l0, if_pos (by omega), if_pos (by omega)]
    unfold spec_l2Color.f
    have e0 : rd l (i : Int) = l.getD i 0 := rfl
    rw [l1In_eq, e0, hg]
    rfl
  · intro i r hi hg hr
    refine Ev.step (fun k => ?_) hr
    rw [spec_l2Good.l0, if_pos (by omega), if_pos (by omega)]
    unfold spec_l2Color.f
    have e0 : rd l (i : Int) = l.getD i 0 := rfl
    rw [l1In_eq, e0, hg, wrap_id _ (by omega) (by omega)]
    rfl
theorem IsChart_eq (w h : Int) (l : List Int) : impl_IsChart.f w h l = some (okChart w h l) := by
  unfold impl_IsChart.f impl_isSide.f areAll_impl_isColor.f okChart
  simp only [in_eq, Option.bind_some]
  by_cases e : (l.length : Int) = wrap64 (w * h)
  · rw [if_pos e, beq_iff_eq.2 e]
    cases rng w 1 8 <;> cases rng h 1 8 <;> simp
  · rw [if_neg e, beq_eq_false_iff_ne.2 e]
    cases rng w 1 8 <;> cases rng h 1 8 <;> simp
def cntN (l : List Int) : Nat → List Int
  | 0 => List.replicate 6 0
  | i + 1 => (cntN l i).set (l.getD i 0).toNat ((cntN l i).getD (l.getD i 0).toNat 0 + 1)
theorem cntN_length (l : List Int) (i : Nat) : (cntN l i).length = 6 := by
  induction i with
  | zero => simp [cntN]
  | succ i ih => simp [cntN, ih]
theorem cntN_bd (l : List Int) (i j : Nat) : 0 ≤ (cntN l i).getD j 0 ∧ (cntN l i).getD j 0 ≤ (i : Int) := by
  induction i generalizing j with
  | zero =>
    rw [cntN, List.getD_eq_getElem?_getD, List.getElem?_replicate]
    split <;> simp
  | succ i ih =>
    have h1 := ih j
    have h2 := ih (l.getD i 0).toNat
    rw [cntN, getD_set]
    split <;> omega
theorem cnt_spec (w h : Int) (l : List Int) (hk : okChart w h l = true) : Ev (fun k => spec_CountColors.l0 k (List.replicate 6 0) 0 w h l) (cntN l l.length, true) := by
  obtain ⟨hc, hw, hh, hlen, h64⟩ := okChart_iff w h l hk
  obtain ⟨r, hr, h1⟩ := Ev.loopE (fun k i (s : List Int) => spec_CountColors.l0 k s i w h l) l.length (fun i s => s = cntN l i) (fun r => r = (cntN l l.length, true))
    (fun s hs => ⟨(s, true), by rw [hs], Ev.step (fun k => by rw [spec_CountColors.l0, if_neg (by omega)]) (Ev.now _)⟩)
    (fun i s hi hs => by
      refine ⟨_, rfl, fun r h => Ev.step (fun k => ?_) h⟩
      have hcb := hc i hi
      have hsl : s.length = 6 := by rw [hs]; exact cntN_length l i
      have hb := cntN_bd l i (l.getD i 0).toNat
      have e0 : rd l (i : Int) = l.getD i 0 := rfl
      have e1 : rd s (l.getD i 0) = s.getD (l.getD i 0).toNat 0 := rfl
      rw [← hs] at hb
      rw [spec_CountColors.l0, if_pos (by omega), if_pos (by omega), e0, if_pos (by omega), if_pos (by omega), e1, wrap_id _ (by omega) (by omega), wrap_id _ (by omega) (by omega), cntN, ← hs]) (List.replicate 6 0) rfl
  subst hr
  exact h1
theorem cnt_impl (w h : Int) (l : List Int) (hk : okChart w h l = true) : Ev (fun k => impl_Chart_colors.l0 k (List.replicate 6 0) l (l.length : Int) 0) (cntN l l.length) := by
  obtain ⟨hc, hw, hh, hlen, h64⟩ := okChart_iff w h l hk
  obtain ⟨r, hr, h1⟩ := Ev.loopE (fun k i (s : List Int) => impl_Chart_colors.l0 k s l (l.length : Int) i) l.length (fun i s => s = cntN l i) (fun r => r = cntN l l.length)
    (fun s hs => ⟨s, hs, Ev.step (fun k => by rw [impl_Chart_colors.l0, if_neg (by omega)]) (Ev.now _)⟩)
    (fun i s hi hs => by
      refine ⟨_, rfl, fun r h => Ev.step (fun k => ?_) h⟩
      have hcb := hc i hi
      have hsl : s.length = 6 := by rw [hs]; exact cntN_length l i
      have hb := cntN_bd l i (l.getD i 0).toNat
      have e0 : rd l (i : Int) = l.getD i 0 := rfl
      have e1 : rd s (l.getD i 0) = s.getD (l.getD i 0).toNat 0 := rfl
      rw [← hs] at hb
      rw [impl_Chart_colors.l0, if_pos (by omega), if_pos (by omega), if_pos (by omega), e0, if_pos (by omega), if_pos (by omega), e1, wrap_id _ (by omega) (by omega), wrap_id _ (by omega) (by omega), cntN, ← hs]) (List.replicate 6 0) rfl
  subst hr
  exact h1
theorem counts_same (w h : Int) (l : List Int) (hk : okChart w h l = true) : ∃ cs : List Int, cs.length = 6 ∧ (∀ j, 0 ≤ cs.getD j 0 ∧ cs.getD j 0 ≤ 64) ∧ Ev (fun k => spec_l10Counts.f k w h l) cs ∧ Ev (fun k => impl_Chart_colors.f k w h l) cs := by
  obtain ⟨hc, hw, hh, hlen, h64⟩ := okChart_iff w h l hk
  refine ⟨cntN l l.length, cntN_length _ _, fun j => by have := cntN_bd l l.length j; omega, ?_, ?_⟩
  · have h2 : Ev (fun k => spec_CountColors.f k w h l) (cntN l l.length, true) := by
      unfold spec_CountColors.f
      refine Ev.bind (l2Good_ev w h l (by omega)) ?_
      simp only [hk, if_true, if_pos (show 6 ≤ 35184372088832 by omega)]
      exact cnt_spec w h l hk
    unfold spec_l10Counts.f
    exact Ev.bind h2 (Ev.now _)
  · unfold impl_Chart_colors.f
    simp only [if_pos (show 6 ≤ 35184372088832 by omega)]
    exact cnt_impl w h l hk
def okYarn (p g w b : Int) : Bool := rng p 1 30 && (rng g 1 40 && (rng w 0 100 && rng b 1 1000))
theorem okYarn_iff (p g w b : Int) : okYarn p g w b = true ↔ (1 ≤ p ∧ p ≤ 30) ∧ (1 ≤ g ∧ g ≤ 40) ∧ (0 ≤ w ∧ w ≤ 100) ∧ 1 ≤ b ∧ b ≤ 1000 := by
  simp only [okYarn, Bool.and_eq_true, rng_iff]
theorem l10Good_eq (p g w b : Int) : spec_l10Good.f p g w b = some (okYarn p g w b) := by
  unfold spec_l10Good.f okYarn
  simp only [l1In_eq, Option.bind_some]
  cases rng p 1 30 <;> cases rng g 1 40 <;> cases rng w 0 100 <;> cases rng b 1 1000 <;> rfl
theorem IsYarn_eq (p g w b : Int) : impl_IsYarn.f p g w b = some (okYarn p g w b) := by
  unfold impl_IsYarn.f okYarn
  simp only [in_eq, Option.bind_some]
  cases rng p 1 30 <;> cases rng g 1 40 <;> cases rng w 0 100 <;> cases rng b 1 1000 <;> rfl
def yarnV (p g w n : Int) : Int := wrap64 (Int.tdiv (wrap64 ((wrap64 ((wrap64 (n * (wrap64 ((wrap64 (2 * p)) + g)))) * (wrap64 (100 + w)))) + 99)) 100)
theorem l10For_eq (p g w b n : Int) : spec_l10For.f p g w b n = some (yarnV p g w n) := rfl
theorem yarnV_eq (p g w b n : Int) (h : okYarn p g w b = true) (h0 : 0 ≤ n) (h1 : n ≤ 100000) : yarnV p g w n = (n * ((2 * p + g) * (100 + w)) + 99) / 100 := by
  obtain ⟨hp, hg, hw, hb⟩ := (okYarn_iff p g w b).1 h
  unfold yarnV
  have a1 : wrap64 (2 * p) = 2 * p := wrap_id _ (by omega) (by omega)
  have a2 : wrap64 (2 * p + g) = 2 * p + g := wrap_id _ (by omega) (by omega)
  have a3 : wrap64 (100 + w) = 100 + w := wrap_id _ (by omega) (by omega)
  obtain ⟨s, hs⟩ : ∃ s, s = 2 * p + g := ⟨_, rfl⟩
  obtain ⟨u, hu⟩ : ∃ u, u = 100 + w := ⟨_, rfl⟩
  rw [a1, a2, a3, ← hs, ← hu]
  have s0 : 0 ≤ s := by omega
  have s1 : s ≤ 100 := by omega
  have u0 : 0 ≤ u := by omega
  have u1 : u ≤ 200 := by omega
  have b0 : 0 ≤ s * u := Int.mul_nonneg s0 u0
  have b1 : s * u ≤ 100 * 200 := Int.mul_le_mul s1 u1 u0 (by omega)
  have c0 : 0 ≤ n * s := Int.mul_nonneg h0 s0
  have c1 : n * s ≤ 100000 * 100 := Int.mul_le_mul h1 s1 s0 (by omega)
  have d0 : 0 ≤ n * (s * u) := Int.mul_nonneg h0 b0
  have d1 : n * (s * u) ≤ 100000 * (100 * 200) := Int.mul_le_mul h1 b1 b0 (by omega)
  rw [wrap_id (n * s) (by omega) (by omega), Int.mul_assoc]
  rw [wrap_id (n * (s * u)) (by omega) (by omega), wrap_id (n * (s * u) + 99) (by omega) (by omega), Int.tdiv_eq_ediv_of_nonneg (by omega)]
  exact wrap_id _ (by omega) (by omega)
theorem yarn_eqV (p g w b n : Int) (h : okYarn p g w b = true) (h0 : 0 ≤ n) (h1 : n ≤ 100000) : impl_Yarn_yarn.f p g w b n = some (yarnV p g w n) := by
  obtain ⟨hp, hg, hw, hb⟩ := (okYarn_iff p g w b).1 h
  rw [yarnV_eq p g w b n h h0 h1]
  unfold impl_Yarn_yarn.f impl_Yarn_hundredths.f impl_ceilDiv.f
  have a1 : wrap64 (2 * p) = 2 * p := wrap_id _ (by omega) (by omega)
  have a2 : wrap64 (2 * p + g) = 2 * p + g := wrap_id _ (by omega) (by omega)
  have a3 : wrap64 (100 + w) = 100 + w := wrap_id _ (by omega) (by omega)
  obtain ⟨s, hs⟩ : ∃ s, s = 2 * p + g := ⟨_, rfl⟩
  obtain ⟨u, hu⟩ : ∃ u, u = 100 + w := ⟨_, rfl⟩
  rw [a1, a2, a3, ← hs, ← hu]
  have s0 : 0 ≤ s := by omega
  have s1 : s ≤ 100 := by omega
  have u0 : 0 ≤ u := by omega
  have u1 : u ≤ 200 := by omega
  have b0 : 0 ≤ s * u := Int.mul_nonneg s0 u0
  have b1 : s * u ≤ 100 * 200 := Int.mul_le_mul s1 u1 u0 (by omega)
  have d0 : 0 ≤ n * (s * u) := Int.mul_nonneg h0 b0
  have d1 : n * (s * u) ≤ 100000 * (100 * 200) := Int.mul_le_mul h1 b1 b0 (by omega)
  simp only [Option.bind_some]
  rw [if_neg (by omega), Option.bind_some, wrap_id (s * u) (by omega) (by omega), wrap_id (n * (s * u)) (by omega) (by omega), wrap_id (n * (s * u) + 100) (by omega) (by omega), wrap_id (n * (s * u) + 100 - 1) (by omega) (by omega), Int.tdiv_eq_ediv_of_nonneg (by omega), wrap_id _ (by omega) (by omega)]
  congr 2
  omega
theorem yarns_ev (p g w b cw ch : Int) (cl : List Int) (n : Int) (h : okYarn p g w b = true) (hk : okChart cw ch cl = true) (hn0 : 0 ≤ n) (hn1 : n ≤ 1000) (cs : List Int) (h6 : cs.length = 6) (hb : ∀ j, 0 ≤ cs.getD j 0 ∧ cs.getD j 0 ≤ 64)
    (hv : Ev (fun k => impl_Chart_colors.f k cw ch cl) cs) : Ev (fun k => impl_Yarn_yarns.f k p g w b cw ch cl n) (cs.map fun c => yarnV p g w (c * n)) := by
  unfold impl_Yarn_yarns.f
  refine Ev.bind hv ?_
  obtain ⟨r, hr, h1⟩ := Ev.loopE (fun k i (s : List Int) => impl_Yarn_yarns.l0 k n s (cs.length : Int) i p g w b) cs.length (fun i s => s = (cs.take i).map (fun c => yarnV p g w (c * n)) ++ cs.drop i) (fun r => r = cs.map fun c => yarnV p g w (c * n))
    (fun s hs => ⟨s, by rw [hs]; simp, Ev.step (fun k => by rw [impl_Yarn_yarns.l0, if_neg (by omega)]) (Ev.now s)⟩)
    (fun i s hi hs => by
      have hl : s.length = cs.length := by rw [hs]; exact mid_length _ _ _
      have e0 : rd s (i : Int) = cs.getD i 0 := by rw [hs]; exact mid_getD (fun c => yarnV p g w (c * n)) 0 cs i hi
      have hbi := hb i
      obtain ⟨c, hc⟩ : ∃ c, c = cs.getD i 0 := ⟨_, rfl⟩
      rw [← hc] at hbi e0
      have p0 : 0 ≤ c * n := Int.mul_nonneg hbi.1 hn0
      have p1 : c * n ≤ 64 * 1000 := Int.mul_le_mul hbi.2 hn1 hn0 (by omega)
      refine ⟨s.set i (yarnV p g w (c * n)), by rw [hs, hc]; exact set_mid (fun c => yarnV p g w (c * n)) 0 cs i hi, fun r h2 => Ev.step (fun k => ?_) h2⟩
      rw [impl_Yarn_yarns.l0, if_pos (by omega), if_pos (by omega), if_pos (by omega), e0, wrap_id (c * n) (by omega) (by omega), yarn_eqV p g w b _ h p0 (by omega), Option.bind_some, Int.toNat_natCast, wrap_id _ (by omega) (by omega)]) cs (by simp)
  subst hr
  exact h1
theorem yarnV_mono (p g w b m n : Int) (h : okYarn p g w b = true) (h0 : 0 ≤ m) (hmn : m ≤ n) (h1 : n ≤ 100000) : yarnV p g w m ≤ yarnV p g w n := by
  rw [yarnV_eq p g w b m h h0 (by omega), yarnV_eq p g w b n h (by omega) h1]
  obtain ⟨hp, hg, hw, hb⟩ := (okYarn_iff p g w b).1 h
  have a : 0 ≤ (2 * p + g) * (100 + w) := Int.mul_nonneg (by omega) (by omega)
  have := Int.mul_le_mul_of_nonneg_right hmn a
  omega
def badN (p g w : Int) (cs st : List Int) (n : Nat) : Prop := ∃ i, i < 6 ∧ st.getD i 0 < yarnV p g w (cs.getD i 0 * (n : Int))
theorem badN_mono (p g w b : Int) (cs st : List Int) (h : okYarn p g w b = true) (hb : ∀ j, 0 ≤ cs.getD j 0 ∧ cs.getD j 0 ≤ 64) (m n : Nat) (hmn : m ≤ n) (hn : n ≤ 1000) (hbad : badN p g w cs st m) : badN p g w cs st n := by
  obtain ⟨i, hi, h1⟩ := hbad
  refine ⟨i, hi, Int.lt_of_lt_of_le h1 (yarnV_mono p g w b _ _ h ?_ ?_ ?_)⟩
  · exact Int.mul_nonneg (hb i).1 (by omega)
  · exact Int.mul_le_mul_of_nonneg_left (by omega) (hb i).1
  · have := Int.mul_le_mul (hb i).2 (show (n : Int) ≤ 1000 by omega) (by omega) (by omega)
    omega
theorem carpets_top (p g w b : Int) (cs st : List Int) (h : okYarn p g w b = true) (hs : ∀ i, i < 6 → 0 ≤ st.getD i 0) (M : Nat) : ∃ R, R ≤ M ∧ ¬ badN p g w cs st R ∧ ∀ n, R < n → n ≤ M → badN p g w cs st n := by
  induction M with
  | zero =>
    refine ⟨0, Nat.le_refl _, ?_, fun n h1 h2 => absurd h1 (by omega)⟩
    rintro ⟨i, hi, h1⟩
    have e : yarnV p g w (cs.getD i 0 * ((0 : Nat) : Int)) = 0 := by
      rw [show ((0 : Nat) : Int) = 0 from rfl, Int.mul_zero, yarnV_eq p g w b 0 h (by omega) (by omega), Int.zero_mul]
      rfl
    rw [e] at h1
    have := hs i hi
    omega
  | succ M ih =>
    by_cases hb : badN p g w cs st (M + 1)
    · obtain ⟨R, h1, h2, h3⟩ := ih
      refine ⟨R, by omega, h2, fun n h4 h5 => ?_⟩
      by_cases e : n = M + 1
      · rw [e]; exact hb
      · exact h3 n h4 (by omega)
    · exact ⟨M + 1, Nat.le_refl _, hb, fun n h1 h2 => absurd h1 (by omega)⟩
theorem specC_good (p g w b : Int) (cs st : List Int) (h6 : cs.length = 6) (hs6 : st.length = 6) (hb : ∀ j, 0 ≤ cs.getD j 0 ∧ cs.getD j 0 ≤ 64) (n : Nat) (hn : n ≤ 1000) (hg : ¬ badN p g w cs st n) (r : Int × Bool)
    (h : Ev (fun k => spec_CarpetsFrom.l0 k st cs ((n : Int) + 1) p g w b) r) : Ev (fun k => spec_CarpetsFrom.l1 k st cs (n : Int) 0 p g w b) r := by
  refine Ev.upto (fun k i => spec_CarpetsFrom.l1 k st cs (n : Int) i p g w b) r 6 (Ev.step (fun k => ?_) h) (fun i hi h => Ev.step (fun k => ?_) h)
  · rw [spec_CarpetsFrom.l1, if_neg (by omega), wrap_id _ (by omega) (by omega)]
  · have e1 : rd cs (i : Int) = cs.getD i 0 := rfl
    have e2 : rd st (i : Int) = st.getD i 0 := rfl
    have hbi := hb i
    have p0 : 0 ≤ cs.getD i 0 * (n : Int) := Int.mul_nonneg hbi.1 (by omega)
    have p1 := Int.mul_le_mul hbi.2 (show (n : Int) ≤ 1000 by omega) (by omega) (by omega)
    have hng : ¬ yarnV p g w (cs.getD i 0 * (n : Int)) > st.getD i 0 := fun hc => hg ⟨i, hi, hc⟩
    rw [spec_CarpetsFrom.l1, if_pos (by omega), if_pos (by omega), e1, Int.mul_comm, wrap_id (cs.getD i 0 * (n : Int)) (by omega) (by omega), l10For_eq, Option.bind_some, if_pos (by omega), e2, if_neg hng, wrap_id _ (by omega) (by omega)]
theorem specC_bad (p g w b : Int) (cs st : List Int) (h6 : cs.length = 6) (hs6 : st.length = 6) (hb : ∀ j, 0 ≤ cs.getD j 0 ∧ cs.getD j 0 ≤ 64) (n : Nat) (hn : n ≤ 1000) (hn0 : 0 < n) (hg : badN p g w cs st n) : Ev (fun k => spec_CarpetsFrom.l1 k st cs (n : Int) 0 p g w b) ((n : Int) - 1, true) := by
  obtain ⟨j, hj, hjb⟩ := hg
  obtain ⟨f, hf, hfb, hfl⟩ : ∃ f, f < 6 ∧ st.getD f 0 < yarnV p g w (cs.getD f 0 * (n : Int)) ∧ ∀ i, i < f → ¬ st.getD i 0 < yarnV p g w (cs.getD i 0 * (n : Int)) := by
    have : ∀ m, (∃ i, i < m ∧ i < 6 ∧ st.getD i 0 < yarnV p g w (cs.getD i 0 * (n : Int))) → ∃ f, f < 6 ∧ st.getD f 0 < yarnV p g w (cs.getD f 0 * (n : Int)) ∧ ∀ i, i < f → ¬ st.getD i 0 < yarnV p g w (cs.getD i 0 * (n : Int)) := by
      intro m
      induction m with
      | zero => rintro ⟨i, hi, _⟩; exact absurd hi (by omega)
      | succ m ih =>
        rintro ⟨i, hi, hi6, hib⟩
        by_cases hx : ∃ i, i < m ∧ i < 6 ∧ st.getD i 0 < yarnV p g w (cs.getD i 0 * (n : Int))
        · exact ih hx
        · by_cases e : i < m
          · exact absurd ⟨i, e, hi6, hib⟩ hx
          · exact ⟨i, hi6, hib, fun q hq hqb => hx ⟨q, by omega, by omega, hqb⟩⟩
    exact this 6 ⟨j, hj, hj, hjb⟩
  have val : ∀ i : Nat, wrap64 ((n : Int) * rd cs (i : Int)) = cs.getD i 0 * (n : Int) := by
    intro i
    have e1 : rd cs (i : Int) = cs.getD i 0 := rfl
    have hbi := hb i
    have p0 : 0 ≤ cs.getD i 0 * (n : Int) := Int.mul_nonneg hbi.1 (by omega)
    have p1 := Int.mul_le_mul hbi.2 (show (n : Int) ≤ 1000 by omega) (by omega) (by omega)
    rw [e1, Int.mul_comm, wrap_id _ (by omega) (by omega)]
  refine Ev.upto (fun k i => spec_CarpetsFrom.l1 k st cs (n : Int) i p g w b) _ f (Ev.step (f := fun _ => some ((n : Int) - 1, true)) (fun k => ?_) (Ev.now _)) (fun i hi h => Ev.step (fun k => ?_) h)
  · have e2 : rd st (f : Int) = st.getD f 0 := rfl
    rw [spec_CarpetsFrom.l1, if_pos (by omega), if_pos (by omega), val, l10For_eq, Option.bind_some, if_pos (by omega), e2, if_pos hfb, wrap_id _ (by omega) (by omega)]
  · have e2 : rd st (i : Int) = st.getD i 0 := rfl
    rw [spec_CarpetsFrom.l1, if_pos (by omega), if_pos (by omega), val, l10For_eq, Option.bind_some, if_pos (by omega), e2, if_neg (hfl i hi), wrap_id _ (by omega) (by omega)]
theorem specY_ev (cw ch : Int) (cl : List Int) (p g w b : Int) (hk : okChart cw ch cl = true) (h : okYarn p g w b = true) (cs : List Int) (h6 : cs.length = 6) (hv : Ev (fun k => spec_l10Counts.f k cw ch cl) cs) :
    Ev (fun k => spec_YarnByColor.f k cw ch cl p g w b) (cs.map (yarnV p g w), true) := by
  obtain ⟨hc, _, _, _, h64⟩ := okChart_iff cw ch cl hk
  unfold spec_YarnByColor.f
  simp only [Option.bind_some, l10Good_eq]
  refine Ev.bind (l2Good_ev cw ch cl (by omega)) ?_
  simp only [hk, if_true, h]
  refine Ev.step (f := fun k => (spec_l10Counts.f k cw ch cl).bind fun t139 => spec_YarnByColor.l0 k [] t139 0 p g w b) (fun k => by rw [spec_YarnByColor.j0, if_neg (by decide)]) ?_
  refine Ev.bind hv ?_
  obtain ⟨r, hr, h1⟩ := Ev.loopE (fun k i (s : List Int) => spec_YarnByColor.l0 k s cs i p g w b) cs.length (fun i s => s = (cs.take i).map (yarnV p g w)) (fun r => r = (cs.map (yarnV p g w), true))
    (fun s hs => ⟨(s, true), by rw [hs, List.take_length], Ev.step (fun k => by rw [spec_YarnByColor.l0, if_neg (by omega)]) (Ev.now _)⟩)
    (fun i s hi hs => by
      have hl : s.length ≤ i := by rw [hs, List.length_map, List.length_take]; omega
      have e0 : rd cs (i : Int) = cs.getD i 0 := rfl
      refine ⟨s ++ [yarnV p g w (cs.getD i 0)], by rw [hs, take_succ_getD 0 cs i hi, List.map_append]; rfl, fun r h2 => Ev.step (fun k => ?_) h2⟩
      rw [spec_YarnByColor.l0, if_pos (by omega), if_pos (by omega), e0, l10For_eq, Option.bind_some, if_pos (by omega), wrap_id _ (by omega) (by omega)]) [] (by simp)
  subst hr
  exact h1
theorem specY_no (cw ch : Int) (cl : List Int) (p g w b : Int) (hl : cl.length ≤ 2000000) (h : (okChart cw ch cl && okYarn p g w b) = false) : Ev (fun k => spec_YarnByColor.f k cw ch cl p g w b) ([], false) := by
  unfold spec_YarnByColor.f
  simp only [Option.bind_some, l10Good_eq]
  refine Ev.bind (l2Good_ev cw ch cl hl) ?_
  have hj : Ev (fun k => spec_YarnByColor.j0 k [] true cw ch cl p g w b) ([], false) := Ev.step (fun k => by rw [spec_YarnByColor.j0, if_pos rfl]) (Ev.now _)
  cases h1 : okChart cw ch cl with
  | true =>
    rw [h1, Bool.true_and] at h
    simp only [if_true, h, Bool.not_false]
    exact hj
  | false => simp only [Bool.false_eq_true, if_false]; exact hj
theorem specShort_ev (A B : List Int) (h : A.length ≤ B.length) (hl : A.length ≤ 2000000) : Ev (fun k => spec_ShortColors.l0 k B [] A 0) (shortN A B A.length, true) := by
  obtain ⟨r, hr, h1⟩ := Ev.loopE (fun k i (s : List Int) => spec_ShortColors.l0 k B s A i) A.length (fun i s => s = shortN A B i) (fun r => r = (shortN A B A.length, true))
    (fun s hs => ⟨(s, true), by rw [hs], Ev.step (fun k => by rw [spec_ShortColors.l0, if_neg (by omega)]) (Ev.now _)⟩)
    (fun i s hi hs => by
      have e1 : rd A (i : Int) = A.getD i 0 := rfl
      have e2 : rd B (i : Int) = B.getD i 0 := rfl
      have hn := shortN_length A B i
      rw [← hs] at hn
      refine ⟨_, rfl, fun r h => Ev.step (fun k => ?_) h⟩
      rw [shortN_succ, ← hs, spec_ShortColors.l0, if_pos (by omega), if_pos (by omega), if_pos (by omega), e1, e2]
      by_cases hg : B.getD i 0 < A.getD i 0
      · rw [if_pos hg, if_pos hg, if_pos (by omega), wrap_id _ (by omega) (by omega)]
      · rw [if_neg hg, if_neg hg, wrap_id _ (by omega) (by omega)]) [] rfl
  subst hr
  exact h1
theorem Carpets_no (cw ch : Int) (cl : List Int) (p g w b : Int) (st : List Int) (hl : cl.length ≤ 2000000) (hl2 : st.length ≤ 2000000) (hno : ¬ (okChart cw ch cl = true ∧ okYarn p g w b = true ∧ okStock st = true)) : Ev (fun k => spec_CarpetsFrom.f k cw ch cl p g w b st) (0, false) ∧ Ev (fun k => impl_CarpetsFrom.f k cw ch cl p g w b st) (0, false) := by
  unfold spec_CarpetsFrom.f impl_CarpetsFrom.f
  simp only [IsChart_eq, IsYarn_eq, l10Good_eq, implStock_eq, Option.bind_some]
  have no1 : Ev (fun k => spec_CarpetsFrom.j0 k st true cw ch cl p g w b) (0, false) := Ev.step (fun k => by rw [spec_CarpetsFrom.j0, if_pos rfl]) (Ev.now _)
  have no2 : Ev (fun k => impl_CarpetsFrom.j0 k st true cw ch cl p g w b) (0, false) := Ev.step (fun k => by rw [impl_CarpetsFrom.j0, if_pos rfl]) (Ev.now _)
  cases hk : okChart cw ch cl with
  | false =>
    refine ⟨Ev.bind (l2Good_ev cw ch cl hl) ?_, ?_⟩
    · simp only [hk, Bool.false_eq_true, if_false]; exact no1
    · simp only [Bool.false_eq_true, if_false]; exact no2
  | true =>
    cases hy : okYarn p g w b with
    | false =>
      refine ⟨Ev.bind (l2Good_ev cw ch cl hl) ?_, ?_⟩
      · simp only [hk, Bool.false_eq_true, if_false, if_true]; exact no1
      · simp only [Bool.false_eq_true, if_false, if_true]; exact no2
    | true =>
      cases ht : okStock st with
      | false =>
        refine ⟨Ev.bind (l2Good_ev cw ch cl hl) ?_, ?_⟩
        · simp only [hk, if_true]; exact Ev.bind (specStock_ev st hl2) (by rw [ht]; exact no1)
        · simp only [if_true]; exact no2
      | true =>
        exact absurd ⟨hk, hy, ht⟩ hno
theorem Carpets_of (cw ch : Int) (cl : List Int) (p g w b : Int) (st : List Int) (hl : cl.length ≤ 2000000) (hl2 : st.length ≤ 2000000) (hk : okChart cw ch cl = true) (hy : okYarn p g w b = true) (ht : okStock st = true) (cs : List Int) (h6 : cs.length = 6) (hb : ∀ j, 0 ≤ cs.getD j 0 ∧ cs.getD j 0 ≤ 64) (hc1 : Ev (fun k => spec_l10Counts.f k cw ch cl) cs) (hc2 : Ev (fun k => impl_Chart_colors.f k cw ch cl) cs) :
    ∃ R : Nat, (0 < R ↔ ¬ badN p g w cs st 1) ∧ Ev (fun k => spec_CarpetsFrom.f k cw ch cl p g w b st) ((R : Int), true) ∧ Ev (fun k => impl_CarpetsFrom.f k cw ch cl p g w b st) ((R : Int), true) := by
  unfold spec_CarpetsFrom.f impl_CarpetsFrom.f
  simp only [IsChart_eq, IsYarn_eq, l10Good_eq, implStock_eq, Option.bind_some, hy, ht]
  obtain ⟨hs0, hs6⟩ := okStock_iff st ht
  obtain ⟨R, hR, hRg, hRb⟩ := carpets_top p g w b cs st hy (fun i hi => hs0 i (by omega)) 1000
  have spec : Ev (fun k => spec_CarpetsFrom.l0 k st cs 1 p g w b) ((R : Int), true) := by
    refine Ev.upto (fun k i => spec_CarpetsFrom.l0 k st cs (i + 1) p g w b) _ R ?_ (fun i hi h => ?_)
    · by_cases e : R = 1000
      · subst e
        exact Ev.step (f := fun _ => some (1000, true)) (fun k => by rw [spec_CarpetsFrom.l0, if_neg (by omega)]) (Ev.now _)
      · refine Ev.step (f := fun k => spec_CarpetsFrom.l1 k st cs ((R : Int) + 1) 0 p g w b) (fun k => by rw [spec_CarpetsFrom.l0, if_pos (by omega)]) ?_
        have := specC_bad p g w b cs st h6 hs6 hb (R + 1) (by omega) (by omega) (hRb (R + 1) (by omega) (by omega))
        have e2 : ((R + 1 : Nat) : Int) = (R : Int) + 1 := by omega
        rw [e2, Int.add_sub_cancel] at this
        exact this
    · refine Ev.step (f := fun k => spec_CarpetsFrom.l1 k st cs ((i : Int) + 1) 0 p g w b) (fun k => by rw [spec_CarpetsFrom.l0, if_pos (by omega)]) ?_
      have := specC_good p g w b cs st h6 hs6 hb (i + 1) (by omega) (fun hbad => hRg (badN_mono p g w b cs st hy hb (i + 1) R (by omega) hR hbad)) ((R : Int), true)
      have e2 : ((i + 1 : Nat) : Int) = (i : Int) + 1 := by omega
      rw [e2] at this
      exact this h
  have impl : ∀ d n : Nat, n = R + d → n ≤ 1000 → Ev (fun k => impl_CarpetsFrom.l0 k st (n : Int) cw ch cl p g w b) ((R : Int), true) := by
    intro d
    have step : ∀ n : Nat, n ≤ 1000 → ∀ r, (badN p g w cs st n → Ev (fun k => impl_CarpetsFrom.l0 k st ((n : Int) - 1) cw ch cl p g w b) r) → (¬ badN p g w cs st n → r = ((n : Int), true)) → Ev (fun k => impl_CarpetsFrom.l0 k st (n : Int) cw ch cl p g w b) r := by
      intro n hn r h1 h2
      refine Ev.step (fun k => by rw [impl_CarpetsFrom.l0]) ?_
      have hy1 := yarns_ev p g w b cw ch cl (n : Int) hy hk (by omega) (by omega) cs h6 hb hc2
      refine Ev.bind hy1 (Ev.bind (implShort_ev _ st (by rw [List.length_map]; omega) (by rw [List.length_map]; omega)) ?_)
      have hiff : (0 < (shortN (cs.map fun c => yarnV p g w (c * (n : Int))) st (cs.map fun c => yarnV p g w (c * (n : Int))).length).length) ↔ badN p g w cs st n := by
        rw [shortN_pos, List.length_map, h6]
        constructor
        · rintro ⟨i, hi, h⟩
          rw [getD_map' _ 0 0 cs i (by omega)] at h
          exact ⟨i, hi, h⟩
        · rintro ⟨i, hi, h⟩
          exact ⟨i, hi, by rw [getD_map' _ 0 0 cs i (by omega)]; exact h⟩
      by_cases hbn : badN p g w cs st n
      · have := hiff.2 hbn
        simp only [if_pos (show ((shortN (cs.map fun c => yarnV p g w (c * (n : Int))) st (cs.map fun c => yarnV p g w (c * (n : Int))).length).length : Int) > 0 by omega)]
        rw [wrap_id _ (by omega) (by omega)]
        exact h1 hbn
      · have : ¬ 0 < (shortN (cs.map fun c => yarnV p g w (c * (n : Int))) st (cs.map fun c => yarnV p g w (c * (n : Int))).length).length := fun h => hbn (hiff.1 h)
        simp only [if_neg (show ¬ ((shortN (cs.map fun c => yarnV p g w (c * (n : Int))) st (cs.map fun c => yarnV p g w (c * (n : Int))).length).length : Int) > 0 by omega)]
        rw [h2 hbn]
        exact Ev.now _
    induction d with
    | zero =>
      intro n hn hn1
      have : n = R := by omega
      subst this
      exact step n hn1 _ (fun hbad => absurd hbad hRg) (fun _ => rfl)
    | succ d ih =>
      intro n hn hn1
      refine step n hn1 _ (fun _ => ?_) (fun hng => absurd (hRb n (by omega) hn1) hng)
      have := ih (n - 1) (by omega) (by omega)
      rwa [show ((n - 1 : Nat) : Int) = (n : Int) - 1 by omega] at this
  refine ⟨R, ⟨fun h0 hbad => hRg (badN_mono p g w b cs st hy hb 1 R h0 hR hbad), fun hn => ?_⟩, Ev.bind (l2Good_ev cw ch cl hl) ?_, ?_⟩
  · by_cases e : R = 0
    · exact absurd (hRb 1 (by omega) (by omega)) hn
    · omega
  · simp only [hk, if_true]
    refine Ev.bind (specStock_ev st hl2) ?_
    rw [ht]
    exact Ev.step (fun k => by rw [spec_CarpetsFrom.j0, if_neg (by decide)]) (Ev.bind hc1 spec)
  · simp only [hk, if_true]
    exact Ev.step (fun k => by rw [impl_CarpetsFrom.j0, if_neg (by decide)]; rfl) (impl (1000 - R) 1000 (by omega) (by omega))
theorem Short_no (cw ch : Int) (cl : List Int) (p g w b : Int) (st : List Int) (hl : cl.length ≤ 2000000) (hl2 : st.length ≤ 2000000) (hno : ¬ (okChart cw ch cl = true ∧ okYarn p g w b = true ∧ okStock st = true)) : Ev (fun k => spec_ShortColors.f k cw ch cl p g w b st) ([], false) ∧ Ev (fun k => impl_ShortColors.f k cw ch cl p g w b st) ([], false) := by
  unfold spec_ShortColors.f impl_ShortColors.f
  simp only [IsChart_eq, IsYarn_eq, implStock_eq, Option.bind_some]
  have no1 : ∀ x, Ev (fun k => spec_ShortColors.j0 k st [] x true) ([], false) := fun x => Ev.step (fun k => by rw [spec_ShortColors.j0, if_pos rfl]) (Ev.now _)
  have no2 : Ev (fun k => impl_ShortColors.j0 k st true cw ch cl p g w b) ([], false) := Ev.step (fun k => by rw [impl_ShortColors.j0, if_pos rfl]) (Ev.now _)
  cases hh : (okChart cw ch cl && okYarn p g w b) with
  | false =>
    refine ⟨Ev.bind (specY_no cw ch cl p g w b hl hh) ?_, ?_⟩
    · simp only [Bool.false_eq_true, if_false]; exact no1 _
    · cases h1 : okChart cw ch cl with
      | true =>
        rw [h1, Bool.true_and] at hh
        simp only [hh, Bool.false_eq_true, if_false, if_true]; exact no2
      | false => simp only [Bool.false_eq_true, if_false]; exact no2
  | true =>
    have h1 := hh
    rw [Bool.and_eq_true] at h1
    obtain ⟨cs, h6, hb, hs, hi⟩ := counts_same cw ch cl h1.1
    have a1 := specY_ev cw ch cl p g w b h1.1 h1.2 cs h6 hs
    have a2 := yarns_ev p g w b cw ch cl 1 h1.2 h1.1 (by omega) (by omega) cs h6 hb hi
    simp only [Int.mul_one] at a2
    obtain ⟨ys, hys⟩ : ∃ ys, ys = cs.map (yarnV p g w) := ⟨_, rfl⟩
    have y6 : ys.length = 6 := by rw [hys, List.length_map, h6]
    rw [← hys] at a1
    have a2' : Ev (fun k => impl_Yarn_yarns.f k p g w b cw ch cl 1) ys := by rw [hys]; exact a2
    cases ht : okStock st with
    | false =>
      refine ⟨Ev.bind a1 ?_, ?_⟩
      · simp only [if_true]; exact Ev.bind (specStock_ev st hl2) (by rw [ht]; exact no1 _)
      · simp only [h1.1, h1.2, if_true]; exact no2
    | true => exact absurd ⟨h1.1, h1.2, ht⟩ hno
theorem Short_of (cw ch : Int) (cl : List Int) (p g w b : Int) (st : List Int) (hl : cl.length ≤ 2000000) (hl2 : st.length ≤ 2000000) (h1 : okChart cw ch cl = true ∧ okYarn p g w b = true) (ht : okStock st = true) (cs : List Int) (h6 : cs.length = 6) (hb : ∀ j, 0 ≤ cs.getD j 0 ∧ cs.getD j 0 ≤ 64) (hs : Ev (fun k => spec_l10Counts.f k cw ch cl) cs) (hi : Ev (fun k => impl_Chart_colors.f k cw ch cl) cs) :
    ∃ sh : List Int, sh.length ≤ 6 ∧ (0 < sh.length ↔ badN p g w cs st 1) ∧ Ev (fun k => spec_ShortColors.f k cw ch cl p g w b st) (sh, true) ∧ Ev (fun k => impl_ShortColors.f k cw ch cl p g w b st) (sh, true) := by
  unfold spec_ShortColors.f impl_ShortColors.f
  simp only [IsChart_eq, IsYarn_eq, implStock_eq, Option.bind_some]
  have no1 : ∀ x, Ev (fun k => spec_ShortColors.j0 k st [] x true) ([], false) := fun x => Ev.step (fun k => by rw [spec_ShortColors.j0, if_pos rfl]) (Ev.now _)
  have no2 : Ev (fun k => impl_ShortColors.j0 k st true cw ch cl p g w b) ([], false) := Ev.step (fun k => by rw [impl_ShortColors.j0, if_pos rfl]) (Ev.now _)
  have a1 := specY_ev cw ch cl p g w b h1.1 h1.2 cs h6 hs
  have a2 := yarns_ev p g w b cw ch cl 1 h1.2 h1.1 (by omega) (by omega) cs h6 hb hi
  simp only [Int.mul_one] at a2
  obtain ⟨ys, hys⟩ : ∃ ys, ys = cs.map (yarnV p g w) := ⟨_, rfl⟩
  have y6 : ys.length = 6 := by rw [hys, List.length_map, h6]
  rw [← hys] at a1
  have a2' : Ev (fun k => impl_Yarn_yarns.f k p g w b cw ch cl 1) ys := by rw [hys]; exact a2
  obtain ⟨hs0, hs6⟩ := okStock_iff st ht
  have hn := shortN_length ys st ys.length
  refine ⟨shortN ys st ys.length, by omega, ?_, Ev.bind a1 ?_, ?_⟩
  · rw [shortN_pos, y6]
    unfold badN
    constructor
    · rintro ⟨i, hi', h⟩
      rw [hys, getD_map' _ 0 0 cs i (by omega)] at h
      exact ⟨i, hi', by rw [Int.natCast_one, Int.mul_one]; exact h⟩
    · rintro ⟨i, hi', h⟩
      exact ⟨i, hi', by rw [hys, getD_map' _ 0 0 cs i (by omega)]; rw [Int.natCast_one, Int.mul_one] at h; exact h⟩
  · simp only [h1.1, h1.2, Bool.and_self, if_true]
    refine Ev.bind (specStock_ev st hl2) ?_
    rw [ht]
    exact Ev.step (fun k => by rw [spec_ShortColors.j0, if_neg (by decide)]) (specShort_ev ys st (by omega) (by omega))
  · simp only [h1.1, h1.2, ht, if_true, Bool.not_true]
    exact Ev.step (fun k => by rw [impl_ShortColors.j0, if_neg (by decide)]) (Ev.bind a2' (Ev.bind (implShort_ev ys st (by omega) (by omega)) (Ev.now (shortN ys st ys.length, true))))
theorem stocks_same (cw ch : Int) (cl : List Int) (p g w b : Int) (st : List Int) (hl : cl.length ≤ 2000000) (hl2 : st.length ≤ 2000000) : ∃ (n : Int) (ok : Bool) (sh : List Int), sh.length ≤ 6 ∧ (ok = true → decide (n > 0) = ((sh.length : Int) == 0)) ∧ Ev (fun k => spec_CarpetsFrom.f k cw ch cl p g w b st) (n, ok) ∧ Ev (fun k => impl_CarpetsFrom.f k cw ch cl p g w b st) (n, ok) ∧ Ev (fun k => spec_ShortColors.f k cw ch cl p g w b st) (sh, ok) ∧ Ev (fun k => impl_ShortColors.f k cw ch cl p g w b st) (sh, ok) := by
  by_cases h : okChart cw ch cl = true ∧ okYarn p g w b = true ∧ okStock st = true
  · obtain ⟨hk, hy, ht⟩ := h
    obtain ⟨cs, h6, hb, hc1, hc2⟩ := counts_same cw ch cl hk
    obtain ⟨R, r1, r2, r3⟩ := Carpets_of cw ch cl p g w b st hl hl2 hk hy ht cs h6 hb hc1 hc2
    obtain ⟨sh, s1, s2, s3, s4⟩ := Short_of cw ch cl p g w b st hl hl2 ⟨hk, hy⟩ ht cs h6 hb hc1 hc2
    refine ⟨(R : Int), true, sh, s1, fun _ => ?_, r2, r3, s3, s4⟩
    by_cases hbad : badN p g w cs st 1
    · have h1 := s2.2 hbad
      have h2 : ¬ 0 < R := fun h => r1.1 h hbad
      rw [decide_eq_false (by omega), beq_eq_false_iff_ne.2 (by omega)]
    · have h1 := r1.2 hbad
      have h2 : ¬ 0 < sh.length := fun h => hbad (s2.1 h)
      rw [decide_eq_true (by omega), beq_iff_eq.2 (show (sh.length : Int) = 0 by omega)]
  · obtain ⟨c1, c2⟩ := Carpets_no cw ch cl p g w b st hl hl2 h
    obtain ⟨d1, d2⟩ := Short_no cw ch cl p g w b st hl hl2 h
    exact ⟨0, false, [], by simp, fun h => (by cases h), c1, c2, d1, d2⟩
theorem share_most (n : Int) (h : 0 ≤ n ∧ n ≤ 100) : spec_l1Most.f n (wrap64 (-n)) = some n := by
  unfold spec_l1Most.f
  rw [wrap_id (-n) (by omega) (by omega)]
  by_cases c : n > -n
  · rw [if_pos c]
  · rw [if_neg c]
    exact congrArg some (by omega)
theorem share_abs (n : Int) (h : 0 ≤ n ∧ n ≤ 100) : impl_abs.f n = some n := by
  unfold impl_abs.f
  rw [wrap_id (-n) (by omega) (by omega)]
  have e : mx n (-n) = n := by unfold mx; split <;> omega
  first
  | rw [e]
  | (simp only [e, Option.bind_some])
theorem share_gcd (d : Nat) : ∀ (b : Nat) (a : Int), b ≤ d → 0 ≤ a → 0 < a + (b : Int) → ∃ g : Int, 0 < g ∧ Ev (fun k => impl_gcd.l0 k a (b : Int)) g ∧ ∀ n m : Int, Ev (fun k => spec_l2Reduce.l0 k n m a (b : Int)) (wrap64 (Int.tdiv n g), wrap64 (Int.tdiv m g)) := by
  induction d with
  | zero =>
    intro b a hb ha h
    have e : b = 0 := by omega
    subst e
    exact ⟨a, by omega, Ev.step (f := fun _ => some a) (fun k => by rw [impl_gcd.l0, if_pos (by omega)]) (Ev.now _), fun n m => Ev.step (f := fun _ => some (wrap64 (Int.tdiv n a), wrap64 (Int.tdiv m a))) (fun k => by rw [spec_l2Reduce.l0, if_pos (by omega), if_neg (by omega)]) (Ev.now _)⟩
  | succ d ih =>
    intro b a hb ha h
    by_cases c : b = 0
    · subst c
      exact ⟨a, by omega, Ev.step (f := fun _ => some a) (fun k => by rw [impl_gcd.l0, if_pos (by omega)]) (Ev.now _), fun n m => Ev.step (f := fun _ => some (wrap64 (Int.tdiv n a), wrap64 (Int.tdiv m a))) (fun k => by rw [spec_l2Reduce.l0, if_pos (by omega), if_neg (by omega)]) (Ev.now _)⟩
    · have h0 : 0 ≤ Int.tmod a (b : Int) := Int.tmod_nonneg _ ha
      have h1 : Int.tmod a (b : Int) < (b : Int) := Int.tmod_lt_of_pos _ (by omega)
      obtain ⟨g, hg, h2, h3⟩ := ih (Int.tmod a (b : Int)).toNat (b : Int) (by omega) (by omega) (by omega)
      rw [Int.toNat_of_nonneg h0] at h2 h3
      exact ⟨g, hg, Ev.step (fun k => by rw [impl_gcd.l0, if_neg (by omega)]) h2, fun n m => Ev.step (fun k => by rw [spec_l2Reduce.l0, if_neg (by omega)]) (h3 n m)⟩
theorem ColorShare_same (cw ch : Int) (cl : List Int) (c : Int) (hl : cl.length ≤ 2000000) : ∃ r : Int × Int × Bool, Ev (fun k => spec_ColorShare.f k cw ch cl c) r ∧ Ev (fun k => impl_ColorShare.f k cw ch cl c) r := by
  unfold spec_ColorShare.f impl_ColorShare.f
  have no1 : Ev (fun k => spec_ColorShare.j0 k c true cw ch cl) (0, 0, false) := Ev.step (fun k => by rw [spec_ColorShare.j0, if_pos rfl]) (Ev.now _)
  have no2 : Ev (fun k => impl_ColorShare.j0 k c true cw ch cl) (0, 0, false) := Ev.step (fun k => by rw [impl_ColorShare.j0, if_pos rfl]) (Ev.now _)
  have e1 : spec_l2Color.f c = some (rng c 0 5) := by unfold spec_l2Color.f; rw [l1In_eq]; rfl
  have e2 : impl_isColor.f c = some (rng c 0 5) := by unfold impl_isColor.f; rw [in_eq]; rfl
  cases hk : okChart cw ch cl with
  | false =>
    refine ⟨(0, 0, false), Ev.bind (l2Good_ev cw ch cl hl) ?_, ?_⟩
    · simp only [hk, Bool.false_eq_true, if_false]; exact no1
    · simp only [IsChart_eq, hk, Bool.false_eq_true, if_false, Option.bind_some]; exact no2
  | true =>
    cases hc : rng c 0 5 with
    | false =>
      refine ⟨(0, 0, false), Ev.bind (l2Good_ev cw ch cl hl) ?_, ?_⟩
      · simp only [hk, if_true, e1, hc, Option.bind_some, Bool.not_false]; exact no1
      · simp only [IsChart_eq, hk, if_true, Option.bind_some, e2, hc, Bool.not_false]; exact no2
    | true =>
      have hcr := (rng_iff _ _ _).1 hc
      obtain ⟨cs, h6, hb, hs, hi⟩ := counts_same cw ch cl hk
      obtain ⟨_, hw, hh, hlen, h64⟩ := okChart_iff cw ch cl hk
      have hpos : 0 < cw * ch := Int.mul_pos (by omega) (by omega)
      have e3 : rd cs c = cs.getD c.toNat 0 := rfl
      have hn := hb c.toNat
      rw [← e3] at hn
      obtain ⟨g, hg, h2, h3⟩ := share_gcd cl.length cl.length (rd cs c) (Nat.le_refl _) hn.1 (by omega)
      refine ⟨(wrap64 (Int.tdiv (rd cs c) g), wrap64 (Int.tdiv (cl.length : Int) g), true), Ev.bind (l2Good_ev cw ch cl hl) ?_, ?_⟩
      · simp only [hk, if_true, e1, hc, Option.bind_some, Bool.not_true]
        refine Ev.step (fun k => by rw [spec_ColorShare.j0, if_neg (by decide)]) (Ev.bind hs ?_)
        simp only [if_pos (show 0 ≤ c by omega), if_pos (show c < (cs.length : Int) by omega)]
        have h4 : Ev (fun k => spec_l2Reduce.f k (rd cs c) (cl.length : Int)) (wrap64 (Int.tdiv (rd cs c) g), wrap64 (Int.tdiv (cl.length : Int) g)) := by
          unfold spec_l2Reduce.f
          simp only [share_most (rd cs c) ⟨hn.1, by omega⟩, Option.bind_some]
          exact h3 _ _
        exact Ev.bind h4 (Ev.now _)
      · simp only [IsChart_eq, hk, if_true, Option.bind_some, e2, hc, Bool.not_true]
        refine Ev.step (fun k => by rw [impl_ColorShare.j0, if_neg (by decide)]) (Ev.bind hi ?_)
        simp only [if_pos (show 0 ≤ c by omega), if_pos (show c < (cs.length : Int) by omega)]
        have h4 : Ev (fun k => impl_fraction.f k (rd cs c) (cl.length : Int)) (wrap64 (Int.tdiv (rd cs c) g), wrap64 (Int.tdiv (cl.length : Int) g)) := by
          unfold impl_fraction.f impl_gcd.f
          simp only [share_abs (rd cs c) ⟨hn.1, by omega⟩, Option.bind_some]
          refine Ev.bind h2 ?_
          simp only [if_neg (show ¬ g = 0 by omega)]
          exact Ev.now _
        exact Ev.bind h4 (Ev.now _)
theorem hung_spec (cs : List Int) (h1 : 1 ≤ cs.length) (hl : cs.length ≤ 1000) : ∃ p : Nat, p < cs.length ∧ (∀ j, j < p → cs.getD j 0 < cs.getD p 0) ∧ (∀ j, j < cs.length → cs.getD j 0 ≤ cs.getD p 0) ∧ Ev (fun k => spec_HungriestColor.l0 k cs 0 1) ((p : Int), true) := by
  obtain ⟨r, ⟨p, hp, hq, hall, rfl⟩, h⟩ := Ev.loopE (fun k i (s : Nat) => spec_HungriestColor.l0 k cs (s : Int) (i + 1)) (cs.length - 1) (fun i p => p < i + 1 ∧ (∀ j, j < p → cs.getD j 0 < cs.getD p 0) ∧ (∀ j, j < i + 1 → cs.getD j 0 ≤ cs.getD p 0))
    (fun r => ∃ p : Nat, p < cs.length ∧ (∀ j, j < p → cs.getD j 0 < cs.getD p 0) ∧ (∀ j, j < cs.length → cs.getD j 0 ≤ cs.getD p 0) ∧ r = ((p : Int), true))
    (fun s hs => ⟨((s : Int), true), ⟨s, by omega, hs.2.1, fun j hj => hs.2.2 j (by omega), rfl⟩, Ev.step (fun k => by rw [spec_HungriestColor.l0, if_neg (by omega)]) (Ev.now _)⟩)
    (fun i s hi hs => by
      have e1 : rd cs ((i : Int) + 1) = cs.getD (i + 1) 0 := rfl
      have e2 : rd cs (s : Int) = cs.getD s 0 := rfl
      by_cases hg : cs.getD (i + 1) 0 > cs.getD s 0
      · refine ⟨i + 1, ⟨by omega, fun j hj => ?_, fun j hj => ?_⟩, fun r h => Ev.step (fun k => ?_) h⟩
        · have := hs.2.2 j (by omega); omega
        · by_cases hj2 : j = i + 1
          · rw [hj2]; exact Int.le_refl _
          · have := hs.2.2 j (by omega); omega
        · rw [spec_HungriestColor.l0, if_pos (by omega), if_pos (by omega), if_pos (by omega), if_pos (by omega), e1, e2, if_pos hg, wrap_id _ (by omega) (by omega)]
          rfl
      · refine ⟨s, ⟨by omega, hs.2.1, fun j hj => ?_⟩, fun r h => Ev.step (fun k => ?_) h⟩
        · by_cases hj2 : j = i + 1
          · rw [hj2]; omega
          · exact hs.2.2 j (by omega)
        · rw [spec_HungriestColor.l0, if_pos (by omega), if_pos (by omega), if_pos (by omega), if_pos (by omega), e1, e2, if_neg hg, wrap_id _ (by omega) (by omega)]) 0 ⟨by omega, fun j hj => absurd hj (by omega), fun j hj => by
      have : j = 0 := by omega
      rw [this]; exact Int.le_refl _⟩
  exact ⟨p, hp, hq, hall, h⟩
theorem hung_max (cs : List Int) (p : Nat) (hp : p < cs.length) (hl : cs.length ≤ 1000) (hall : ∀ j, j < cs.length → cs.getD j 0 ≤ cs.getD p 0) : Ev (fun k => slices_Max_int_int.f k cs) (cs.getD p 0) := by
  unfold slices_Max_int_int.f
  refine Ev.congr (f := fun k => slices_Max_int_int.l0 k cs (rd cs 0) 1) (fun k => by rw [if_neg (by omega), if_pos (by omega)]) ?_
  obtain ⟨r, hr, h⟩ := Ev.loopE (fun k i (m : Int) => slices_Max_int_int.l0 k cs m (i + 1)) (cs.length - 1) (fun i m => (∃ j, j < cs.length ∧ m = cs.getD j 0) ∧ ∀ j, j < i + 1 → cs.getD j 0 ≤ m) (fun r => r = cs.getD p 0)
    (fun m hm => by
      obtain ⟨⟨j, hj, rfl⟩, h2⟩ := hm
      refine ⟨_, ?_, Ev.step (fun k => by rw [slices_Max_int_int.l0, if_neg (by omega)]) (Ev.now _)⟩
      have a := h2 p (by omega)
      have b := hall j hj
      omega)
    (fun i m hi hm => by
      obtain ⟨⟨j, hj, hjm⟩, h2⟩ := hm
      have e1 : rd cs ((i : Int) + 1) = cs.getD (i + 1) 0 := rfl
      have hmx : mx m (cs.getD (i + 1) 0) = m ∧ cs.getD (i + 1) 0 ≤ m ∨ mx m (cs.getD (i + 1) 0) = cs.getD (i + 1) 0 ∧ m ≤ cs.getD (i + 1) 0 := by
        simp only [mx]
        split <;> omega
      refine ⟨mx m (cs.getD (i + 1) 0), ⟨?_, fun q hq => ?_⟩, fun r h => Ev.step (fun k => ?_) h⟩
      · rcases hmx with ⟨h3, _⟩ | ⟨h3, _⟩
        · exact ⟨j, hj, by rw [h3, hjm]⟩
        · exact ⟨i + 1, by omega, h3⟩
      · by_cases hq2 : q = i + 1
        · rw [hq2]; omega
        · have := h2 q (by omega); omega
      · rw [slices_Max_int_int.l0, if_pos (by omega), if_pos (by omega), e1, wrap_id _ (by omega) (by omega)]) (rd cs 0) ⟨⟨0, by omega, rfl⟩, fun j hj => by
      have : j = 0 := by omega
      rw [this]; exact Int.le_refl _⟩
  subst hr
  exact h
theorem hung_index (cs : List Int) (p : Nat) (hp : p < cs.length) (hl : cs.length ≤ 1000) (hlt : ∀ j, j < p → cs.getD j 0 < cs.getD p 0) : Ev (fun k => slices_Index_int_int.f k cs (cs.getD p 0)) (p : Int) := by
  unfold slices_Index_int_int.f
  obtain ⟨r, hr, h⟩ := Ev.loopE (fun k i (_ : Unit) => slices_Index_int_int.l0 k cs (cs.getD p 0) (cs.length : Int) i) p (fun _ _ => True) (fun r => r = (p : Int))
    (fun _ _ => ⟨_, rfl, Ev.step (f := fun k => some (p : Int)) (fun k => by
      have e1 : rd cs (p : Int) = cs.getD p 0 := rfl
      rw [slices_Index_int_int.l0, if_pos (by omega), if_pos (by omega), if_pos (by omega), e1, if_pos rfl]) (Ev.now _)⟩)
    (fun i _ hi _ => ⟨(), trivial, fun r h => Ev.step (fun k => by
      have e1 : rd cs (i : Int) = cs.getD i 0 := rfl
      have := hlt i hi
      rw [slices_Index_int_int.l0, if_pos (by omega), if_pos (by omega), if_pos (by omega), e1, if_neg (by omega), wrap_id _ (by omega) (by omega)]) h⟩) () trivial
  subst hr
  exact h
theorem share_gcd2 (d : Nat) : ∀ (b : Nat) (a : Int), b ≤ d → 0 ≤ a → 0 < a + (b : Int) → ∃ g : Int, 0 < g ∧ g ∣ a ∧ g ∣ (b : Int) ∧ Ev (fun k => impl_gcd.l0 k a (b : Int)) g := by
  induction d with
  | zero =>
    intro b a hb ha h
    have e : b = 0 := by omega
    subst e
    exact ⟨a, by omega, Int.dvd_refl a, Int.dvd_zero a, Ev.step (f := fun _ => some a) (fun k => by rw [impl_gcd.l0, if_pos (by omega)]) (Ev.now _)⟩
  | succ d ih =>
    intro b a hb ha h
    by_cases c : b = 0
    · subst c
      exact ⟨a, by omega, Int.dvd_refl a, Int.dvd_zero a, Ev.step (f := fun _ => some a) (fun k => by rw [impl_gcd.l0, if_pos (by omega)]) (Ev.now _)⟩
    · have h0 : 0 ≤ Int.tmod a (b : Int) := Int.tmod_nonneg _ ha
      have h1 : Int.tmod a (b : Int) < (b : Int) := Int.tmod_lt_of_pos _ (by omega)
      obtain ⟨g, hg, d1, d2, h2⟩ := ih (Int.tmod a (b : Int)).toNat (b : Int) (by omega) (by omega) (by omega)
      rw [Int.toNat_of_nonneg h0] at h2 d2
      have e := Int.emod_def a (b : Int)
      rw [← Int.tmod_eq_emod_of_nonneg ha] at e
      have ea : a = Int.tmod a (b : Int) + (b : Int) * (a / (b : Int)) := by omega
      have da : g ∣ a := by rw [ea]; exact Int.dvd_add d2 (Int.dvd_mul_of_dvd_left d1)
      exact ⟨g, hg, da, d1, Ev.step (fun k => by rw [impl_gcd.l0, if_neg (by omega)]) h2⟩
theorem share_val (cw ch : Int) (cl : List Int) (hk : okChart cw ch cl = true) (cs : List Int) (h6 : cs.length = 6) (hb : ∀ j, 0 ≤ cs.getD j 0 ∧ cs.getD j 0 ≤ 64) (hi : Ev (fun k => impl_Chart_colors.f k cw ch cl) cs) (c : Int) (hc : 0 ≤ c ∧ c ≤ 5) :
    ∃ p q g : Int, 0 < g ∧ p * g = cs.getD c.toNat 0 ∧ q * g = (cl.length : Int) ∧ (0 ≤ p ∧ p ≤ 64) ∧ (0 ≤ q ∧ q ≤ 64) ∧ Ev (fun k => impl_ColorShare.f k cw ch cl c) (p, q, true) := by
  obtain ⟨_, hw, hh, hlen, h64⟩ := okChart_iff cw ch cl hk
  have hpos : 0 < cw * ch := Int.mul_pos (by omega) (by omega)
  have hn := hb c.toNat
  have e3 : rd cs c = cs.getD c.toNat 0 := rfl
  obtain ⟨g, hg, d1, d2, h2⟩ := share_gcd2 cl.length cl.length (rd cs c) (Nat.le_refl _) (by rw [e3]; exact hn.1) (by rw [e3]; omega)
  have e2 : impl_isColor.f c = some (rng c 0 5) := by unfold impl_isColor.f; rw [in_eq]; rfl
  have hcr : rng c 0 5 = true := (rng_iff _ _ _).2 hc
  rw [e3] at d1 h2
  obtain ⟨p, hp⟩ := d1
  obtain ⟨q, hq⟩ := d2
  have p0 : 0 ≤ p := Int.nonneg_of_mul_nonneg_right (by rw [← hp]; exact hn.1) hg
  have q0 : 0 ≤ q := Int.nonneg_of_mul_nonneg_right (by rw [← hq]; omega) hg
  have p1 : p ≤ g * p := by
    have := Int.mul_le_mul_of_nonneg_right (show 1 ≤ g by omega) p0
    rwa [Int.one_mul] at this
  have q1 : q ≤ g * q := by
    have := Int.mul_le_mul_of_nonneg_right (show 1 ≤ g by omega) q0
    rwa [Int.one_mul] at this
  have t1 : wrap64 (Int.tdiv (cs.getD c.toNat 0) g) = p := by
    rw [hp, Int.mul_tdiv_cancel_left _ (by omega)]
    exact wrap_id _ (by omega) (by omega)
  have t2 : wrap64 (Int.tdiv (cl.length : Int) g) = q := by
    rw [hq, Int.mul_tdiv_cancel_left _ (by omega)]
    exact wrap_id _ (by omega) (by omega)
  refine ⟨p, q, g, hg, by rw [hp, Int.mul_comm], by rw [hq, Int.mul_comm], ⟨p0, by omega⟩, ⟨q0, by omega⟩, ?_⟩
  unfold impl_ColorShare.f
  simp only [IsChart_eq, hk, if_true, Option.bind_some, e2, hcr, Bool.not_true]
  refine Ev.step (fun k => by rw [impl_ColorShare.j0, if_neg (by decide)]) (Ev.bind hi ?_)
  simp only [if_pos (show 0 ≤ c by omega), if_pos (show c < (cs.length : Int) by omega)]
  have h4 : Ev (fun k => impl_fraction.f k (rd cs c) (cl.length : Int)) (p, q) := by
    unfold impl_fraction.f impl_gcd.f
    rw [e3]
    simp only [share_abs (cs.getD c.toNat 0) ⟨hn.1, by omega⟩, Option.bind_some]
    refine Ev.bind h2 ?_
    simp only [if_neg (show ¬ g = 0 by omega), t1, t2]
    exact Ev.now _
  exact Ev.bind h4 (Ev.now _)
theorem share_le (p q g a b f n m L : Int) (hg : 0 < g) (hf : 0 < f) (h1 : p * g = n) (h2 : q * g = L) (h3 : a * f = m) (h4 : b * f = L) (hL : 0 ≤ L) (hnm : n ≤ m) : p * b ≤ a * q := by
  have e1 : p * b * (g * f) = n * L := by rw [← h1, ← h4]; simp only [Int.mul_assoc, Int.mul_left_comm, Int.mul_comm]
  have e2 : a * q * (g * f) = m * L := by rw [← h3, ← h2]; simp only [Int.mul_assoc, Int.mul_left_comm, Int.mul_comm]
  have h := Int.mul_le_mul_of_nonneg_right hnm hL
  rw [← e1, ← e2] at h
  exact Int.le_of_mul_le_mul_right h (Int.mul_pos hg hf)
theorem hungry_all (cw ch : Int) (cl : List Int) (hl : cl.length ≤ 2000000) : ∃ (c : Int) (fine : Bool), Ev (fun k => spec_HungriestColor.f k cw ch cl) (c, fine) ∧ Ev (fun k => impl_HungriestColor.f k cw ch cl) (c, fine) ∧
    (fine = true → ∃ a b : Int, Ev (fun k => impl_ColorShare.f k cw ch cl c) (a, b, true) ∧ ∀ i : Int, 0 ≤ i → i < 6 → ∃ p q : Int, Ev (fun k => impl_ColorShare.f k cw ch cl i) (p, q, true) ∧ ¬ wrap64 (p * b) > wrap64 (a * q)) := by
  unfold spec_HungriestColor.f impl_HungriestColor.f
  cases hk : okChart cw ch cl with
  | true =>
    obtain ⟨cs, h6, hb, hs, hi⟩ := counts_same cw ch cl hk
    obtain ⟨x, hx, hlt, hall, h⟩ := hung_spec cs (by omega) (by omega)
    refine ⟨(x : Int), true, Ev.bind (l2Good_ev cw ch cl hl) ?_, ?_, fun _ => ?_⟩
    · simp only [hk, if_true]
      exact Ev.bind hs h
    · simp only [IsChart_eq, hk, if_true, Option.bind_some]
      exact Ev.bind hi (Ev.bind (hung_max cs x hx (by omega) hall) (Ev.bind (hung_index cs x hx (by omega) hlt) (Ev.now _)))
    · obtain ⟨a, b, f, hf, a1, a2, a3, a4, a5⟩ := share_val cw ch cl hk cs h6 hb hi (x : Int) ⟨by omega, by omega⟩
      refine ⟨a, b, a5, fun i i0 i1 => ?_⟩
      obtain ⟨p, q, g, hg, b1, b2, b3, b4, b5⟩ := share_val cw ch cl hk cs h6 hb hi i ⟨i0, by omega⟩
      refine ⟨p, q, b5, ?_⟩
      have hle := share_le p q g a b f _ _ _ hg hf b1 b2 a1 a2 (by omega) (by rw [Int.toNat_natCast]; exact hall i.toNat (by omega))
      have m1 : 0 ≤ p * b := Int.mul_nonneg b3.1 a4.1
      have m2 : p * b ≤ 64 * 64 := Int.mul_le_mul b3.2 a4.2 a4.1 (by decide)
      have m3 : 0 ≤ a * q := Int.mul_nonneg a3.1 b4.1
      have m4 : a * q ≤ 64 * 64 := Int.mul_le_mul a3.2 b4.2 b4.1 (by decide)
      rw [wrap_id (p * b) (by omega) (by omega), wrap_id (a * q) (by omega) (by omega)]
      omega
  | false =>
    refine ⟨0, false, Ev.bind (l2Good_ev cw ch cl hl) ?_, ?_, fun h => by cases h⟩
    · simp only [hk, Bool.false_eq_true, if_false]
      exact Ev.now _
    · simp only [IsChart_eq, hk, Bool.false_eq_true, if_false, Option.bind_some]
      exact Ev.now _
theorem low8 (y : Int) : 0 ≤ Go.bits .and .u64 y 255 ∧ Go.bits .and .u64 y 255 ≤ 255 := by
  have h : ((BitVec.ofInt 64 y) &&& (BitVec.ofInt 64 255)).toNat ≤ 255 := by
    rw [BitVec.toNat_and]
    exact Nat.le_trans Nat.and_le_right (by decide)
  have e : Go.bits .and .u64 y 255 = IntKind.u64.wrap ((((BitVec.ofInt 64 y) &&& (BitVec.ofInt 64 255)).toNat : Nat) : Int) := rfl
  have e2 : ∀ n : Nat, n ≤ 255 → IntKind.u64.wrap (n : Int) = (n : Int) := fun n hn => by
    show (n : Int) % 18446744073709551616 = (n : Int)
    omega
  rw [e, e2 _ h]
  omega
def codeOk (code : List Int) : Prop := code.length ≤ 70000 ∧ ∀ i : Int, 0 ≤ rd code i ∧ rd code i ≤ 255
theorem codeOk_of (code : List Int) (hl : code.length ≤ 70000) (h : ∀ x ∈ code, (Lit.int .u8 x).wf = true) : codeOk code := by
  refine ⟨hl, fun i => ?_⟩
  unfold rd
  rw [List.getD_eq_getElem?_getD]
  by_cases c : i.toNat < code.length
  · rw [List.getElem?_eq_getElem c]
    have := h _ (List.getElem_mem c)
    have h3 : (decide (IntKind.u8.min ≤ code[i.toNat]) && decide (code[i.toNat] ≤ IntKind.u8.max)) = true := this
    rw [Bool.and_eq_true, decide_eq_true_iff, decide_eq_true_iff, show IntKind.u8.min = 0 by decide, show IntKind.u8.max = 255 by decide] at h3
    exact h3
  · rw [List.getElem?_eq_none (by omega)]
    exact ⟨by decide, by decide⟩
theorem next_ok (code : List Int) (hc : codeOk code) (at_ seed : Int) (h0 : 0 ≤ at_) (h1 : at_ ≤ 1000000) : ∃ x s, spec_l1Cur_next.f code at_ seed = some (x, at_ + 1, s) ∧ 0 ≤ x ∧ x ≤ 255 := by
  have hw : wrap64 (at_ + 1) = at_ + 1 := wrap_id _ (by omega) (by omega)
  have hb := hc.2 at_
  unfold spec_l1Cur_next.f
  rw [hw]
  by_cases c : at_ < (code.length : Int)
  · rw [if_pos c, if_pos h0, if_pos (by omega)]
    exact ⟨_, _, rfl, by rw [wrap_id _ (by omega) (by omega)]; exact hb⟩
  · rw [if_neg c, if_neg (by omega)]
    refine ⟨_, _, rfl, ?_⟩
    have := low8 ((IntKind.u64.wrap ((IntKind.u64.wrap ((IntKind.u64.wrap (seed * 6364136223846793005)))) + 102323)) / 1099511627776)
    rw [wrap_id _ (by omega) (by omega)]
    exact this
theorem pick_ok (code : List Int) (hc : codeOk code) (at_ seed n : Int) (h0 : 0 ≤ at_) (h1 : at_ ≤ 900000) (hn : n ≤ 1000000) : ∃ x a s, spec_l1Cur_pick.f code at_ seed n = some (x, a, s) ∧ 0 ≤ x ∧ (x < n ∨ x = 0) ∧ at_ ≤ a ∧ a ≤ at_ + 2 := by
  unfold spec_l1Cur_pick.f
  by_cases c : n ≤ 1
  · exact ⟨0, at_, seed, by rw [if_pos c], by omega, .inr rfl, by omega, by omega⟩
  · rw [if_neg c]
    obtain ⟨x, s, e, x0, x1⟩ := next_ok code hc at_ seed h0 (by omega)
    rw [e, Option.bind_some]
    dsimp only
    by_cases c2 : n > 200
    · rw [if_pos c2]
      obtain ⟨y, s2, e2, y0, y1⟩ := next_ok code hc (at_ + 1) s (by omega) (by omega)
      rw [e2, Option.bind_some, if_neg (by omega)]
      dsimp only
      rw [wrap_id (x * 256) (by omega) (by omega), wrap_id (x * 256 + y) (by omega) (by omega)]
      exact ⟨_, _, _, rfl, Int.tmod_nonneg _ (by omega), .inl (Int.tmod_lt_of_pos _ (by omega)), by omega, by omega⟩
    · rw [if_neg c2, if_neg (by omega)]
      exact ⟨_, _, _, rfl, Int.tmod_nonneg _ x0, .inl (Int.tmod_lt_of_pos _ (by omega)), by omega, by omega⟩
theorem among_ok (code : List Int) (hc : codeOk code) (at_ seed : Int) (l : List Int) (hl : 0 < l.length ∧ l.length ≤ 1000) (h0 : 0 ≤ at_) (h1 : at_ ≤ 900000) : ∃ x a s, spec_l1Cur_among.f code at_ seed l = some (x, a, s) ∧ x ∈ l ∧ at_ ≤ a ∧ a ≤ at_ + 2 := by
  unfold spec_l1Cur_among.f
  obtain ⟨x, a, s, e, x0, x1, a0, a1⟩ := pick_ok code hc at_ seed (l.length : Int) h0 h1 (by omega)
  rw [e, Option.bind_some]
  dsimp only
  have hx : x < (l.length : Int) := by omega
  rw [if_pos x0, if_pos hx]
  refine ⟨_, a, s, rfl, ?_, a0, a1⟩
  show l.getD x.toNat 0 ∈ l
  rw [List.getD_eq_getElem?_getD, List.getElem?_eq_getElem (by omega)]
  exact List.getElem_mem (by omega)
theorem one_ok (code : List Int) (hc : codeOk code) (at_ seed n : Int) (h0 : 0 ≤ at_) (h1 : at_ ≤ 900000) (hn : n ≤ 1000000) : ∃ x a s, spec_l1Cur_one.f code at_ seed n = some (x, a, s) ∧ at_ ≤ a ∧ a ≤ at_ + 2 := by
  unfold spec_l1Cur_one.f
  obtain ⟨x, a, s, e, _, _, a0, a1⟩ := pick_ok code hc at_ seed n h0 h1 hn
  rw [e, Option.bind_some]
  exact ⟨_, a, s, rfl, a0, a1⟩
theorem color_ok (code : List Int) (hc : codeOk code) (at_ seed : Int) (h0 : 0 ≤ at_) (h1 : at_ ≤ 900000) : ∃ x a s, spec_l1Cur_color.f code at_ seed = some (x, a, s) ∧ at_ ≤ a ∧ a ≤ at_ + 2 := by
  unfold spec_l1Cur_color.f
  obtain ⟨x, a, s, e, _, a0, a1⟩ := among_ok code hc at_ seed [0, 0, 1, 1, 2, 3, 5, 6, (-1)] (by decide) h0 h1
  rw [e, Option.bind_some]
  exact ⟨_, a, s, rfl, a0, a1⟩
theorem yarn_ok (code : List Int) (hc : codeOk code) (at_ seed : Int) (h0 : 0 ≤ at_) (h1 : at_ ≤ 800000) : ∃ p g w b a s, spec_l1Cur_yarn.f code at_ seed = some (p, g, w, b, a, s) ∧ at_ ≤ a ∧ a ≤ at_ + 12 := by
  unfold spec_l1Cur_yarn.f
  obtain ⟨x1, a1, s1, e1, _, q1, r1⟩ := among_ok code hc at_ seed [1, 5, 8, 12, 30] (by decide) h0 (by omega)
  obtain ⟨x2, a2, s2, e2, _, q2, r2⟩ := among_ok code hc a1 s1 [1, 6, 10, 40] (by decide) (by omega) (by omega)
  obtain ⟨x3, a3, s3, e3, _, q3, r3⟩ := among_ok code hc a2 s2 [0, 5, 7, 33, 100] (by decide) (by omega) (by omega)
  obtain ⟨x4, a4, s4, e4, _, q4, r4⟩ := among_ok code hc a3 s3 [1, 10, 50, 1000] (by decide) (by omega) (by omega)
  obtain ⟨x5, a5, s5, e5, _, _, q5, r5⟩ := pick_ok code hc a4 s4 32 (by omega) (by omega) (by omega)
  obtain ⟨y1, b1, t1, f1, _, u1, v1⟩ := among_ok code hc a5 s5 [0, 31] (by decide) (by omega) (by omega)
  obtain ⟨y2, b2, t2, f2, _, u2, v2⟩ := among_ok code hc a5 s5 [0, 41] (by decide) (by omega) (by omega)
  obtain ⟨y3, b3, t3, f3, _, u3, v3⟩ := among_ok code hc a5 s5 [(-1), 101] (by decide) (by omega) (by omega)
  obtain ⟨y4, b4, t4, f4, _, u4, v4⟩ := among_ok code hc a5 s5 [0, 1001] (by decide) (by omega) (by omega)
  simp only [e1, e2, e3, e4, e5, Option.bind_some]
  by_cases c0 : x5 = 0
  · simp only [if_pos c0, f1, Option.bind_some]
    exact ⟨_, _, _, _, b1, t1, rfl, by omega, by omega⟩
  · by_cases c1 : x5 = 1
    · simp only [if_neg c0, if_pos c1, f2, Option.bind_some]
      exact ⟨_, _, _, _, b2, t2, rfl, by omega, by omega⟩
    · by_cases c2 : x5 = 2
      · simp only [if_neg c0, if_neg c1, if_pos c2, f3, Option.bind_some]
        exact ⟨_, _, _, _, b3, t3, rfl, by omega, by omega⟩
      · by_cases c3 : x5 = 3
        · simp only [if_neg c0, if_neg c1, if_neg c2, if_pos c3, f4, Option.bind_some]
          exact ⟨_, _, _, _, b4, t4, rfl, by omega, by omega⟩
        · simp only [if_neg c0, if_neg c1, if_neg c2, if_neg c3]
          exact ⟨_, _, _, _, a5, s5, rfl, by omega, by omega⟩
theorem plain_l0 (B : Int) (hB : 0 ≤ B ∧ B ≤ 100000) (code : List Int) (hc : codeOk code) (w h cw ch : Int) (hw : 0 ≤ w ∧ w ≤ 9) (hh : 0 ≤ h ∧ h ≤ 9) (d : Nat) : ∀ (i at_ seed : Int) (xs : List Int), 0 ≤ i → i + (d : Int) = w * h → (xs.length : Int) = i → 0 ≤ at_ → at_ ≤ B + 4 * i →
    ∃ (ys : List Int) (a s : Int), (ys.length : Int) = w * h ∧ (0 ≤ a ∧ a ≤ B + 400) ∧ Ev (fun k => spec_l1Cur_plain.l0 k w h i code at_ seed cw ch xs) (cw, ch, ys, a, s) := by
  have p0 : 0 ≤ w * h := Int.mul_nonneg hw.1 hh.1
  have p1 : w * h ≤ 9 * 9 := Int.mul_le_mul hw.2 hh.2 hh.1 (by decide)
  have pw : wrap64 (w * h) = w * h := wrap_id _ (by omega) (by omega)
  induction d with
  | zero =>
    intro i at_ seed xs h0 hi hx a0 a1
    exact ⟨xs, at_, seed, by omega, ⟨a0, by omega⟩, Ev.step (f := fun _ => some (cw, ch, xs, at_, seed)) (fun k => by rw [spec_l1Cur_plain.l0, pw, if_neg (by omega)]) (Ev.now _)⟩
  | succ d ih =>
    intro i at_ seed xs h0 hi hx a0 a1
    obtain ⟨x, b, s, e, _, b0, b1⟩ := among_ok code hc at_ seed [0, 0, 0, 1, 1, 2, 5] (by decide) a0 (by omega)
    have hn : ∀ (v bb ss : Int), b ≤ bb → bb ≤ b + 2 → ∃ (ys : List Int) (a s : Int), (ys.length : Int) = w * h ∧ (0 ≤ a ∧ a ≤ B + 400) ∧ Ev (fun k => spec_l1Cur_plain.l0 k w h (i + 1) code bb ss cw ch (xs ++ [v])) (cw, ch, ys, a, s) := fun v bb ss g0 g1 =>
      ih (i + 1) bb ss (xs ++ [v]) (by omega) (by omega) (by rw [List.length_append, List.length_singleton]; omega) (by omega) (by omega)
    have wi : wrap64 (i + 1) = i + 1 := wrap_id _ (by omega) (by omega)
    have hwp : w ≠ 0 := fun e => by rw [e, Int.zero_mul] at hi; omega
    by_cases c : i ≥ w
    · obtain ⟨o, bb, ss, e2, g0, g1⟩ := one_ok code hc b s 3 (by omega) (by omega) (by omega)
      have wx : wrap64 (i - w) = i - w := wrap_id _ (by omega) (by omega)
      cases o with
      | true =>
        obtain ⟨ys, a, s', h1, h2, h3⟩ := hn (rd xs (i - w)) bb ss g0 g1
        refine ⟨ys, a, s', h1, h2, Ev.step (fun k => ?_) h3⟩
        rw [spec_l1Cur_plain.l0, pw, if_pos (by omega), e, Option.bind_some]
        dsimp only
        by_cases cz : i - w < (xs.length : Int)
        · rw [if_pos c, e2, Option.bind_some]
          dsimp only
          rw [if_pos rfl, wx, if_pos (by omega), if_pos cz, if_pos (by omega), wi]
        · exact absurd hwp (by omega)
      | false =>
        obtain ⟨ys, a, s', h1, h2, h3⟩ := hn x bb ss g0 g1
        refine ⟨ys, a, s', h1, h2, Ev.step (fun k => ?_) h3⟩
        rw [spec_l1Cur_plain.l0, pw, if_pos (by omega), e, Option.bind_some]
        dsimp only
        rw [if_pos c, e2, Option.bind_some]
        dsimp only
        rw [if_neg (by decide), if_pos (by omega), wi]
    · obtain ⟨ys, a, s', h1, h2, h3⟩ := hn x b s (by omega) (by omega)
      refine ⟨ys, a, s', h1, h2, Ev.step (fun k => ?_) h3⟩
      rw [spec_l1Cur_plain.l0, pw, if_pos (by omega), e, Option.bind_some]
      dsimp only
      rw [if_neg c, if_pos (by omega), wi]
theorem plain_ok (code : List Int) (hc : codeOk code) (w h at_ seed : Int) (hw : 0 ≤ w ∧ w ≤ 9) (hh : 0 ≤ h ∧ h ≤ 9) (a0 : 0 ≤ at_) (a1 : at_ ≤ 100000) : ∃ (ys : List Int) (a s : Int), (ys.length : Int) = w * h ∧ ys.length ≤ 81 ∧ (0 ≤ a ∧ a ≤ at_ + 400) ∧ Ev (fun k => spec_l1Cur_plain.f k code at_ seed w h) (w, h, ys, a, s) := by
  have p0 : 0 ≤ w * h := Int.mul_nonneg hw.1 hh.1
  have p1 : w * h ≤ 9 * 9 := Int.mul_le_mul hw.2 hh.2 hh.1 (by decide)
  obtain ⟨ys, a, s, h1, h2, h3⟩ := plain_l0 at_ ⟨a0, a1⟩ code hc w h w h hw hh (w * h).toNat 0 at_ seed [] (by omega) (by omega) (by simp) a0 (by omega)
  exact ⟨ys, a, s, h1, by omega, h2, h3⟩
theorem chart_ok (code : List Int) (hc : codeOk code) (at_ seed : Int) (a0 : 0 ≤ at_) (a1 : at_ ≤ 9000) : ∃ (w h : Int) (ys : List Int) (a s : Int), ys.length ≤ 82 ∧ (0 ≤ a ∧ a ≤ 12000) ∧ Ev (fun k => spec_l1Cur_chart.f k code at_ seed) (w, h, ys, a, s) := by
  obtain ⟨w, b1, s1, e1, m1, u1, v1⟩ := among_ok code hc at_ seed [1, 2, 3, 3, 4, 4, 5, 6, 8] (by decide) a0 (by omega)
  obtain ⟨h, b2, s2, e2, m2, u2, v2⟩ := among_ok code hc b1 s1 [1, 2, 3, 3, 4, 5, 8] (by decide) (by omega) (by omega)
  have hw : 1 ≤ w ∧ w ≤ 8 := by simp only [List.mem_cons, List.not_mem_nil, or_false] at m1; omega
  have hh : 1 ≤ h ∧ h ≤ 8 := by simp only [List.mem_cons, List.not_mem_nil, or_false] at m2; omega
  obtain ⟨ys, b3, s3, hy, hy2, ha, he⟩ := plain_ok code hc w h b2 s2 ⟨by omega, by omega⟩ ⟨by omega, by omega⟩ (by omega) (by omega)
  have hpos : 0 < w * h := Int.mul_pos (by omega) (by omega)
  obtain ⟨x, b4, s4, e4, x0, x1, u4, v4⟩ := pick_ok code hc b3 s3 40 (by omega) (by omega) (by omega)
  unfold spec_l1Cur_chart.f
  simp only [e1, e2, Option.bind_some]
  by_cases c0 : x = 0
  · obtain ⟨y, b5, s5, e5, y0, y1, u5, v5⟩ := pick_ok code hc b4 s4 (ys.length : Int) (by omega) (by omega) (by omega)
    obtain ⟨z, b6, s6, e6, _, u6, v6⟩ := among_ok code hc b5 s5 [(-1), 6] (by decide) (by omega) (by omega)
    refine ⟨w, h, ys.set y.toNat z, b6, s6, by rw [List.length_set]; omega, ⟨by omega, by omega⟩, Ev.bind he ?_⟩
    have hy3 : y < (ys.length : Int) := by omega
    simp only [e4, Option.bind_some, if_pos c0, e5, e6, if_pos y0, if_pos hy3]
    exact Ev.now _
  · by_cases c1 : x = 1
    · refine ⟨w, h, ys ++ [0], b4, s4, by rw [List.length_append, List.length_singleton]; omega, ⟨by omega, by omega⟩, Ev.bind he ?_⟩
      simp only [e4, Option.bind_some, if_neg c0, if_pos c1, if_pos (show ys.length < 17592186044416 by omega)]
      exact Ev.now _
    · by_cases c2 : x = 2
      · obtain ⟨v, b5, s5, e5, m5, u5, v5⟩ := among_ok code hc b4 s4 [0, 9] (by decide) (by omega) (by omega)
        have hv : 0 ≤ v ∧ v ≤ 9 := by simp only [List.mem_cons, List.not_mem_nil, or_false] at m5; omega
        obtain ⟨zs, b6, s6, hz, hz2, hb, hf⟩ := plain_ok code hc v 1 b5 s5 hv ⟨by omega, by omega⟩ (by omega) (by omega)
        refine ⟨v, 1, zs, b6, s6, by omega, ⟨by omega, by omega⟩, Ev.bind he ?_⟩
        simp only [e4, Option.bind_some, if_neg c0, if_neg c1, if_pos c2, e5]
        exact Ev.bind hf (Ev.now _)
      · refine ⟨w, h, ys, b4, s4, by omega, ⟨by omega, by omega⟩, Ev.bind he ?_⟩
        simp only [e4, Option.bind_some, if_neg c0, if_neg c1, if_neg c2]
        exact Ev.now _
theorem stock_l1 (code : List Int) (at_ seed : Int) (d : Nat) : ∀ (i : Nat) (xs : List Int), i + d = 6 → xs.length = 6 → ∃ ys : List Int, ys.length = 6 ∧ Ev (fun k => spec_l1Cur_stock10.l1 k xs (i : Int) code at_ seed) (ys, at_, seed) := by
  induction d with
  | zero =>
    intro i xs hi hx
    exact ⟨xs, hx, Ev.step (f := fun _ => some (xs, at_, seed)) (fun k => by rw [spec_l1Cur_stock10.l1, if_neg (by omega)]) (Ev.now _)⟩
  | succ d ih =>
    intro i xs hi hx
    obtain ⟨ys, h1, h2⟩ := ih (i + 1) (xs.set ((i : Int)).toNat 100000000) (by omega) (by rw [List.length_set]; exact hx)
    have e1 : ((i + 1 : Nat) : Int) = (i : Int) + 1 := by omega
    rw [e1] at h2
    exact ⟨ys, h1, Ev.step (fun k => by rw [spec_l1Cur_stock10.l1, if_pos (by omega), if_pos (by omega), if_pos (by omega), wrap_id ((i : Int) + 1) (by omega) (by omega)]) h2⟩
theorem stock_l0 (code : List Int) (hc : codeOk code) (d : Nat) : ∀ (i : Nat) (at_ seed : Int) (xs : List Int), i + d = 6 → xs.length = i → 0 ≤ at_ → at_ ≤ 100000 + 2 * (i : Int) → ∃ (ys : List Int) (a s : Int), ys.length ≤ 6 ∧ Ev (fun k => spec_l1Cur_stock10.l0 k xs (i : Int) code at_ seed) (ys, a, s) := by
  induction d with
  | zero =>
    intro i at_ seed xs hi hx a0 a1
    obtain ⟨x, b, s, e, _, _, b0, b1⟩ := pick_ok code hc at_ seed 24 a0 (by omega) (by omega)
    by_cases c0 : x = 0
    · refine ⟨xs.drop (1 : Int).toNat, b, s, by rw [List.length_drop]; omega, Ev.step (f := fun _ => some (xs.drop (1 : Int).toNat, b, s)) (fun k => ?_) (Ev.now _)⟩
      rw [spec_l1Cur_stock10.l0, if_neg (by omega), e, Option.bind_some]
      dsimp only
      rw [if_pos c0, if_pos (by omega)]
    · by_cases c1 : x = 1
      · obtain ⟨y, b2, s2, e2, y0, y1, _, _⟩ := pick_ok code hc b s 6 (by omega) (by omega) (by omega)
        refine ⟨xs.set y.toNat (-1), b2, s2, by rw [List.length_set]; omega, Ev.step (f := fun _ => some (xs.set y.toNat (-1), b2, s2)) (fun k => ?_) (Ev.now _)⟩
        rw [spec_l1Cur_stock10.l0, if_neg (by omega), e, Option.bind_some]
        dsimp only
        rw [if_neg c0, if_pos c1, e2, Option.bind_some]
        dsimp only
        rw [if_pos y0, if_pos (by omega)]
      · by_cases c2 : x = 2
        · obtain ⟨ys, h1, h2⟩ := stock_l1 code b s 6 0 xs (by omega) (by omega)
          refine ⟨ys, b, s, by omega, Ev.step (fun k => ?_) h2⟩
          rw [spec_l1Cur_stock10.l0, if_neg (by omega), e, Option.bind_some]
          dsimp only
          rw [if_neg c0, if_neg c1, if_pos c2]
          rfl
        · refine ⟨xs, b, s, by omega, Ev.step (f := fun _ => some (xs, b, s)) (fun k => ?_) (Ev.now _)⟩
          rw [spec_l1Cur_stock10.l0, if_neg (by omega), e, Option.bind_some]
          dsimp only
          rw [if_neg c0, if_neg c1, if_neg c2]
  | succ d ih =>
    intro i at_ seed xs hi hx a0 a1
    obtain ⟨x, b, s, e, _, b0, b1⟩ := among_ok code hc at_ seed [0, 100, 500, 2000, 10000, 1000000] (by decide) a0 (by omega)
    obtain ⟨ys, a, s2, h1, h2⟩ := ih (i + 1) b s (xs ++ [x]) (by omega) (by rw [List.length_append, List.length_singleton]; omega) (by omega) (by omega)
    have e1 : ((i + 1 : Nat) : Int) = (i : Int) + 1 := by omega
    rw [e1] at h2
    refine ⟨ys, a, s2, h1, Ev.step (fun k => ?_) h2⟩
    rw [spec_l1Cur_stock10.l0, if_pos (by omega), e, Option.bind_some]
    dsimp only
    rw [if_pos (by omega), wrap_id ((i : Int) + 1) (by omega) (by omega)]
theorem stocks_drawn (code : List Int) (hc : codeOk code) : ∃ (w h : Int) (l : List Int) (p g y b : Int) (st : List Int), l.length ≤ 82 ∧ st.length ≤ 6 ∧ Ev (fun k => spec_DrawCarpetsFrom.f k code) (w, h, l, p, g, y, b, st) := by
  obtain ⟨w, h, l, a, s, h1, h2, h3⟩ := chart_ok code hc 0 0 (by omega) (by omega)
  obtain ⟨p, g, y, b, a2, s2, e2, q0, q1⟩ := yarn_ok code hc a s (by omega) (by omega)
  obtain ⟨st, a3, s3, g1, g2⟩ := stock_l0 code hc 6 0 a2 s2 [] (by omega) (by simp) (by omega) (by omega)
  have g3 : Ev (fun k => spec_l1Cur_stock10.f k code a2 s2) (st, a3, s3) := g2
  have d1 : Ev (fun k => spec_DrawShortColors.f k code) (w, h, l, p, g, y, b, st) := by
    unfold spec_DrawShortColors.f
    refine Ev.bind h3 ?_
    simp only [e2, Option.bind_some]
    exact Ev.bind g3 (Ev.now _)
  refine ⟨w, h, l, p, g, y, b, st, h1, g1, ?_⟩
  unfold spec_DrawCarpetsFrom.f
  exact Ev.bind d1 (Ev.now _)
theorem hungry_drawn (code : List Int) (hc : codeOk code) : ∃ (w h : Int) (l : List Int), l.length ≤ 82 ∧ Ev (fun k => spec_DrawHungriestColor.f k code) (w, h, l) := by
  obtain ⟨w, h, l, a, s, h1, _, h3⟩ := chart_ok code hc 0 0 (by omega) (by omega)
  have d1 : Ev (fun k => spec_DrawIsChart.f k code) (w, h, l) := by unfold spec_DrawIsChart.f; exact Ev.bind h3 (Ev.now _)
  exact ⟨w, h, l, h1, by unfold spec_DrawHungriestColor.f; exact Ev.bind d1 (Ev.now _)⟩
theorem share_drawn (code : List Int) (hc : codeOk code) : ∃ (w h : Int) (l : List Int) (c : Int), l.length ≤ 82 ∧ Ev (fun k => spec_DrawColorShare.f k code) (w, h, l, c) := by
  obtain ⟨w, h, l, a, s, h1, h2, h3⟩ := chart_ok code hc 0 0 (by omega) (by omega)
  obtain ⟨c, a2, s2, e2, _, _⟩ := color_ok code hc a s (by omega) (by omega)
  refine ⟨w, h, l, c, h1, ?_⟩
  unfold spec_DrawColorShare.f
  refine Ev.bind h3 ?_
  simp only [e2, Option.bind_some]
  exact Ev.now _
theorem vInts_ev (l : List Int) (hl : l.length ≤ 1000) : Ev (fun k => laws_vInts.f k l l) true := by
  refine Ev.congr (f := fun k => laws_vInts.l0 k l l 0) (fun k => by unfold laws_vInts.f; rw [if_pos rfl]) ?_
  obtain ⟨r, hr, h⟩ := Ev.loopE (fun k i (_ : Unit) => laws_vInts.l0 k l l i) l.length (fun _ _ => True) (fun r => r = true)
    (fun s _ => ⟨true, rfl, Ev.step (f := fun _ => some true) (fun k => by rw [laws_vInts.l0, if_neg (by omega)]) (Ev.now true)⟩)
    (fun i s hi _ => ⟨(), trivial, fun r h => Ev.step (fun k => by rw [laws_vInts.l0, if_pos (by omega), if_pos (by omega), if_pos (by omega), if_pos rfl, wrap_id _ (by omega) (by omega)]) h⟩) () trivial
  subst hr
  exact h
theorem FnStocks (l0 : List (Int)) (q_l0 : (l0.length ≤ maxLen ∧ ∀ q ∈ l0, (Lit.int .u8 q).wf = true)) : ∃ k, laws_FnStocks.f k l0 = some true := by
  by_cases hb : (l0.length : Int) > 65536
  · refine ⟨0, ?_⟩
    unfold laws_FnStocks.f laws_vBig.f
    rw [Option.bind_some, decide_eq_true hb, if_pos rfl]
  · have hc : codeOk l0 := codeOk_of l0 (by omega) q_l0.2
    have fin : Ev (fun k => laws_FnStocks.f k l0) true := by
      obtain ⟨w, h, l, p, g, y, b, st, q1, q2, d1⟩ := stocks_drawn l0 hc
      obtain ⟨n, ok, sh, s1, s2, s3, s4, s5, s6⟩ := stocks_same w h l p g y b st (by omega) (by omega)
      obtain ⟨w2, h2, l2, q3, d2⟩ := hungry_drawn l0 hc
      obtain ⟨c, fine, t1, t2, t3⟩ := hungry_all w2 h2 l2 (by omega)
      obtain ⟨w3, h3, l3, c3, q4, d3⟩ := share_drawn l0 hc
      obtain ⟨r, u1, u2⟩ := ColorShare_same w3 h3 l3 c3 (by omega)
      have tail := Ev.bind d3 (f := fun k v => (impl_ColorShare.f k v.1 v.2.1 v.2.2.1 v.2.2.2).bind fun bt1036 => ((spec_ColorShare.f k v.1 v.2.1 v.2.2.1 v.2.2.2).bind fun bt1039 => (if bt1036.1 = bt1039.1 then (if bt1036.2.1 = bt1039.2.1 then (some (bt1036.2.2 == bt1039.2.2)) else (none)) else (none)))) (r := true)
        (Ev.bind u2 (Ev.bind u1 (by simp only [if_true, beq_self_eq_true]; exact Ev.now true)))
      have loop : ∀ a b : Int, (∀ i : Int, 0 ≤ i → i < 6 → ∃ p q : Int, Ev (fun k => impl_ColorShare.f k w2 h2 l2 i) (p, q, true) ∧ ¬ wrap64 (p * b) > wrap64 (a * q)) → ∀ (d i : Nat), i + d = 6 → Ev (fun k => laws_FnStocks.l0 k l0 a b true (i : Int) w2 h2 l2) true := by
        intro a b hab d
        induction d with
        | zero =>
          intro i hi
          exact Ev.step (fun k => by rw [laws_FnStocks.l0, if_neg (by omega)]) (Ev.step (fun k => by rw [laws_FnStocks.j4, if_neg (by decide), if_pos rfl]) tail)
        | succ d ih =>
          intro i hi
          obtain ⟨p, q, e1, e2⟩ := hab (i : Int) (by omega) (by omega)
          have G := ih (i + 1) (by omega)
          have e3 : ((i + 1 : Nat) : Int) = (i : Int) + 1 := by omega
          rw [e3] at G
          refine Ev.step (fun k => by rw [laws_FnStocks.l0, if_pos (by omega)]) (Ev.step (fun k => by rw [laws_FnStocks.j4, if_pos rfl, wrap_id ((i : Int) + 1) (by omega) (by omega)]) (Ev.bind e1 ?_))
          simp only [if_true, if_neg e2]
          exact G
      have j2 : Ev (fun k => laws_FnStocks.j2 k l0 c fine false w2 h2 l2) true := by
        cases fine with
        | true =>
          obtain ⟨a, b, v1, v2⟩ := t3 rfl
          exact Ev.step (fun k => by rw [laws_FnStocks.j2, if_neg (by decide), if_pos rfl]) (Ev.bind v1 (loop a b v2 6 0 (by omega)))
        | false => exact Ev.step (fun k => by rw [laws_FnStocks.j2, if_neg (by decide), if_neg (by decide)]) tail
      have j1 : Ev (fun k => laws_FnStocks.j1 k l0 false) true := by
        refine Ev.step (fun k => by rw [laws_FnStocks.j1, if_neg (by decide)]) (Ev.bind d2 (Ev.bind t2 (Ev.bind t1 ?_)))
        simp only [if_true, bne_self_eq_false]
        exact j2
      have j0 : Ev (fun k => laws_FnStocks.j0 k l0 st n ok false w h l p g y b) true := by
        refine Ev.step (fun k => by rw [laws_FnStocks.j0, if_neg (by decide)]) (Ev.bind s6 (Ev.bind s5 ?_))
        simp only [bne_self_eq_false, Bool.false_eq_true, if_false]
        refine Ev.bind (vInts_ev sh (by omega)) ?_
        simp only [if_true]
        cases ok with
        | true =>
          have e := s2 rfl
          simp only [if_true, e, bne_self_eq_false]
          exact j1
        | false =>
          simp only [Bool.false_eq_true, if_false]
          exact j1
      unfold laws_FnStocks.f laws_vBig.f
      simp only [Option.bind_some, decide_eq_false hb, Bool.false_eq_true, if_false]
      refine Ev.bind d1 (Ev.bind s4 (Ev.bind s3 ?_))
      simp only [if_true, bne_self_eq_false]
      exact j0
    obtain ⟨K, hK⟩ := fin
    exact ⟨K, hK K (Nat.le_refl _)⟩
end Go.Proofs.Ytnkecgldapagcaa.Pure
