/- The plain law of FnExactCarpetsFrom: what the program's functions compute is what the reference's compute. No program and no memory in it. -/
import Derived.Test.YtnkecgldapagcaaHx15
import Derived.Test.YtnkecgldapagcaaLps
namespace Go.Proofs.Ytnkecgldapagcaa.Pure
open Go.RowKit Go.Proofs.YtnkecgldapagcaaW.PrintWords Go.Proofs.YtnkecgldapagcaaW.PrintLast Go.Proofs.Ytnkecgldapagcaa.H
set_option linter.unusedVariables false
set_option linter.unusedSimpArgs false
theorem Ev.upto {ρ : Type} (g : Nat → Int → Option ρ) (r : ρ) (n : Nat) (hend : Ev (fun k => g k (n : Int)) r) (hstep : ∀ i : Nat, i < n → Ev (fun k => g k ((i : Int) + 1)) r → Ev (fun k => g k (i : Int)) r) : Ev (fun k => g k 0) r := by
  have key : ∀ d i : Nat, i + d = n → Ev (fun k => g k (i : Int)) r := by
    intro d
    induction d with
    | zero =>
      intro i hi
      have : i = n := by omega
      subst this
      exact hend
    | succ d ih =>
      intro i hi
      have h := ih (i + 1) (by omega)
      have e : ((i + 1 : Nat) : Int) = (i : Int) + 1 := by omega
      rw [e] at h
      exact hstep i (by omega) h
  exact key n 0 (by omega)
def okStock (l : List Int) : Bool := (l.all fun x => decide (x ≥ 0)) && ((l.length : Int) == 6)
theorem okStock_iff (l : List Int) (h : okStock l = true) : (∀ i, i < l.length → 0 ≤ l.getD i 0) ∧ l.length = 6 := by
  unfold okStock at h
  simp only [Bool.and_eq_true, beq_iff_eq] at h
  refine ⟨fun i hi => ?_, by omega⟩
  have := (all_getD 0 l _).1 h.1 i hi
  simpa using this
theorem specStock_ev (l : List Int) (hl : l.length ≤ 2000000) : Ev (fun k => spec_l10Stock.f k l) (okStock l) := by
  unfold spec_l10Stock.f
  have e : okStock l = ((List.range l.length).all (fun i => decide (l.getD i 0 ≥ 0)) && ((l.length : Int) == 6)) := by
    unfold okStock
    congr 1
    rw [Bool.eq_iff_iff, all_getD 0, all_range]
  rw [e]
  refine Ev.scan (fun k i => spec_l10Stock.l0 k l i) l.length _ _ (Ev.step (f := fun _ => some _) (fun k => ?_) (Ev.now _)) ?_ ?_
  · rw [spec_l10Stock.l0, if_neg (by omega)]
  · intro i hi hg
    have e0 : rd l (i : Int) = l.getD i 0 := rfl
    refine Ev.step (f := fun _ => some false) (fun k => ?_) (Ev.now _)
    have hg' : ¬ l.getD i 0 ≥ 0 := by simpa using hg
    rw [spec_l10Stock.l0, if_pos (by omega), if_pos (by omega), e0, if_pos (by omega)]
  · intro i r hi hg hr
    have e0 : rd l (i : Int) = l.getD i 0 := rfl
    have hg' : l.getD i 0 ≥ 0 := by simpa using hg
    refine Ev.step (fun k => ?_) hr
    rw [spec_l10Stock.l0, if_pos (by omega), if_pos (by omega), e0, if_neg (by omega), wrap_id _ (by omega) (by omega)]
theorem implStock_eq (l : List Int) : impl_isYarnStock.f l = some (okStock l) := by
  unfold impl_isYarnStock.f areAll_impl_isYarnStock_1.f okStock
  by_cases e : (l.length : Int) = 6
  · rw [if_pos e, beq_iff_eq.2 e, Bool.and_true]; rfl
  · rw [if_neg e, beq_eq_false_iff_ne.2 e, Bool.and_false]
def shortN (A B : List Int) (n : Nat) : List Int := ((List.range n).filter fun i => decide (B.getD i 0 < A.getD i 0)).map fun (i : Nat) => (i : Int)
theorem shortN_length (A B : List Int) (n : Nat) : (shortN A B n).length ≤ n := by
  unfold shortN
  rw [List.length_map]
  have := List.length_filter_le (fun i => decide (B.getD i 0 < A.getD i 0)) (List.range n)
  rwa [List.length_range] at this
theorem shortN_succ (A B : List Int) (n : Nat) : shortN A B (n + 1) = if B.getD n 0 < A.getD n 0 then shortN A B n ++ [(n : Int)] else shortN A B n := by
  unfold shortN
  rw [List.range_succ, List.filter_append, List.map_append]
  by_cases h : B.getD n 0 < A.getD n 0
  · rw [if_pos h, List.filter_cons_of_pos (by simpa using h)]
    rfl
  · rw [if_neg h, List.filter_cons_of_neg (by simpa using h)]
    simp
theorem shortN_pos (A B : List Int) (n : Nat) : 0 < (shortN A B n).length ↔ ∃ i, i < n ∧ B.getD i 0 < A.getD i 0 := by
  unfold shortN
  rw [List.length_map, List.length_pos_iff_exists_mem]
  constructor
  · rintro ⟨i, hi⟩
    rw [List.mem_filter, List.mem_range] at hi
    exact ⟨i, hi.1, by simpa using hi.2⟩
  · rintro ⟨i, h1, h2⟩
    exact ⟨i, by rw [List.mem_filter, List.mem_range]; exact ⟨h1, by simpa using h2⟩⟩
theorem implShort_ev (A B : List Int) (h : A.length ≤ B.length) (hl : A.length ≤ 2000000) : Ev (fun k => impl_short.f k A B) (shortN A B A.length) := by
  unfold impl_short.f
  obtain ⟨r, hr, h1⟩ := Ev.loopE (fun k i (s : List Int) => impl_short.l0 k B s A (A.length : Int) i) A.length (fun i s => s = shortN A B i) (fun r => r = shortN A B A.length)
    (fun s hs => ⟨s, hs, Ev.step (fun k => by rw [impl_short.l0, if_neg (by omega)]) (Ev.now _)⟩)
    (fun i s hi hs => by
      have e1 : rd A (i : Int) = A.getD i 0 := rfl
      have e2 : rd B (i : Int) = B.getD i 0 := rfl
      have hn := shortN_length A B i
      rw [← hs] at hn
      refine ⟨_, rfl, fun r h => Ev.step (fun k => ?_) h⟩
      rw [shortN_succ, ← hs, impl_short.l0, if_pos (by omega), if_pos (by omega), if_pos (by omega), if_pos (by omega), e1, e2]
      by_cases hg : B.getD i 0 < A.getD i 0
      · rw [if_pos hg, if_pos hg, if_pos (by omega), wrap_id _ (by omega) (by omega)]
      · rw [if_neg hg, if_neg hg, wrap_id _ (by omega) (by omega)]) [] rfl
  subst hr
  exact h1
theorem l1In_eq (a b c : Int) : spec_l1In.f a b c = some (rng a b c) := spec_l1In.eq a b c
theorem in_eq (a b c : Int) : impl_in.f a b c = some (rng a b c) := impl_in.eq a b c
theorem ext_getD {α : Type} (z : α) (a b : List α) (hl : a.length = b.length) (h : ∀ j, j < a.length → a.getD j z = b.getD j z) : a = b := by
  apply List.ext_getElem hl
  intro j h1 h2
  have := h j h1
  rwa [List.getD_eq_getElem?_getD, List.getD_eq_getElem?_getD, List.getElem?_eq_getElem h1, List.getElem?_eq_getElem h2] at this
theorem take_succ_getD {α : Type} (z : α) (a : List α) (i : Nat) (h : i < a.length) : a.take (i + 1) = a.take i ++ [a.getD i z] := by
  rw [List.take_succ_eq_append_getElem h, List.getD_eq_getElem?_getD, List.getElem?_eq_getElem h]
  rfl
theorem getD_map' {α β : Type} (f : α → β) (z : α) (y : β) (a : List α) (i : Nat) (h : i < a.length) : (a.map f).getD i y = f (a.getD i z) := by
  rw [List.getD_eq_getElem?_getD, List.getElem?_map, List.getD_eq_getElem?_getD, List.getElem?_eq_getElem h]
  rfl
theorem set_mid {α : Type} (f : α → α) (z : α) (a : List α) (i : Nat) (h : i < a.length) : ((a.take i).map f ++ a.drop i).set i (f (a.getD i z)) = (a.take (i + 1)).map f ++ a.drop (i + 1) := by
  have e : a.drop i = a.getD i z :: a.drop (i + 1) := by
    rw [List.drop_eq_getElem_cons h, List.getD_eq_getElem?_getD, List.getElem?_eq_getElem h]
    rfl
  rw [e, take_succ_getD z a i h, List.map_append, List.append_assoc]
  have hl : ((a.take i).map f).length = i := by rw [List.length_map, List.length_take]; omega
  rw [List.set_append_right _ _ (by omega), hl, Nat.sub_self]
  rfl
theorem mid_getD {α : Type} (f : α → α) (z : α) (a : List α) (i : Nat) (h : i < a.length) : ((a.take i).map f ++ a.drop i).getD i z = a.getD i z := by
  have hl : ((a.take i).map f).length = i := by rw [List.length_map, List.length_take]; omega
  rw [List.getD_eq_getElem?_getD, List.getElem?_append_right (by omega), hl, Nat.sub_self, List.getElem?_drop, Nat.add_zero, List.getD_eq_getElem?_getD]
theorem mid_length {α : Type} (f : α → α) (a : List α) (i : Nat) : ((a.take i).map f ++ a.drop i).length = a.length := by
  rw [List.length_append, List.length_map, List.length_take, List.length_drop]; omega
def okChart (w h : Int) (l : List Int) : Bool := (l.all fun x => rng x 0 5) && (rng w 1 8 && (rng h 1 8 && ((l.length : Int) == wrap64 (w * h))))
theorem okChart_iff (w h : Int) (l : List Int) (hk : okChart w h l = true) : (∀ i, i < l.length → 0 ≤ l.getD i 0 ∧ l.getD i 0 ≤ 5) ∧ (1 ≤ w ∧ w ≤ 8) ∧ (1 ≤ h ∧ h ≤ 8) ∧ (l.length : Int) = w * h ∧ l.length ≤ 64 := by
  unfold okChart at hk
  simp only [Bool.and_eq_true, rng_iff, beq_iff_eq] at hk
  obtain ⟨h1, h2, h3, h4⟩ := hk
  have p0 : 0 ≤ w * h := Int.mul_nonneg (by omega) (by omega)
  have p1 : w * h ≤ 8 * 8 := Int.mul_le_mul h2.2 h3.2 (by omega) (by omega)
  rw [wrap_id _ (by omega) (by omega)] at h4
  refine ⟨fun i hi => ?_, h2, h3, h4, by omega⟩
  have := (all_getD 0 l _).1 h1 i hi
  exact (rng_iff _ _ _).1 this
theorem l2Good_ev (w h : Int) (l : List Int) (hl : l.length ≤ 2000000) : Ev (fun k => spec_l2Good.f k w h l) (okChart w h l) := by
  unfold spec_l2Good.f
  have e : okChart w h l = ((List.range l.length).all (fun i => rng (l.getD i 0) 0 5) && (rng w 1 8 && (rng h 1 8 && ((l.length : Int) == wrap64 (w * h))))) := by
    unfold okChart
    congr 1
    rw [Bool.eq_iff_iff, all_getD 0, all_range]
  rw [e]
  refine Ev.scan (fun k i => spec_l2Good.l0 k i w h l) l.length _ _ (Ev.step (f := fun _ => some _) (fun k => ?_) (Ev.now _)) ?_ ?_
  · rw [spec_l2Good.l0, if_neg (by omega)]
    unfold spec_l2Side.f
    simp only [l1In_eq, Option.bind_some]
    cases rng w 1 8 <;> cases rng h 1 8 <;> rfl
  · intro i hi hg
    refine Ev.step (f := fun _ => some false) (fun k => ?_) (Ev.now _)
    rw [spec_l2Good.l0, if_pos (by omega), if_pos (by omega)]
    unfold spec_l2Color.f
    have e0 : rd l (i : Int) = l.getD i 0 := rfl
    rw [l1In_eq, e0, hg]
    rfl
  · intro i r hi hg hr
    refine Ev.step (fun k => ?_) hr
    rw [spec_l2Good.l0, if_pos (by omega), if_pos (by omega)]
    unfold spec_l2Color.f
    have e0 : rd l (i : Int) = l.getD i 0 := rfl
    rw [l1In_eq, e0, hg, wrap_id _ (by omega) (by omega)]
    rfl
theorem IsChart_eq (w h : Int) (l : List Int) : impl_IsChart.f w h l = some (okChart w h l) := by
  unfold impl_IsChart.f impl_isSide.f areAll_impl_isColor.f okChart
  simp only [in_eq, Option.bind_some]
  by_cases e : (l.length : Int) = wrap64 (w * h)
  · rw [if_pos e, beq_iff_eq.2 e]
    cases rng w 1 8 <;> cases rng h 1 8 <;> simp
  · rw [if_neg e, beq_eq_false_iff_ne.2 e]
    cases rng w 1 8 <;> cases rng h 1 8 <;> simp
theorem szChart1 (w h : Int) (l : List Int) (hk : ¬ (l.length : Int) ≤ 1048576) (hm : l.length ≤ maxLen) : laws_szChart.f w h l 1048576 = some (-1) := by
  have hm' : l.length ≤ 9223372036854775807 := hm
  unfold laws_szChart.f laws_szIntS.f
  rw [wrap_id _ (by omega) (by omega), if_pos (by omega)]
  rfl
theorem szChart2 (w h : Int) (l : List Int) (hk : (l.length : Int) ≤ 1048576) : laws_szChart.f w h l 1048576 = some (1048576 - (l.length : Int)) := by
  unfold laws_szChart.f laws_szIntS.f
  rw [wrap_id _ (by omega) (by omega), if_neg (by omega), Option.bind_some, if_neg (by omega)]
theorem toInts_ev (l : List Int) (hl : l.length ≤ 2000000) : ∃ t : List Int, t.length = l.length ∧ Ev (fun k => laws_toIntS.f k l) t := by
  obtain ⟨r, hr, h⟩ := Ev.loopE (fun k i (s : List Int) => laws_toIntS.l0 k l s i) l.length (fun _ s => s.length = l.length) (fun r => r.length = l.length)
    (fun s hs => ⟨s, hs, Ev.step (fun k => by rw [laws_toIntS.l0, if_neg (by omega)]) (Ev.now s)⟩)
    (fun i s hi hs => ⟨s.set i (rd l i), by simp [hs], fun r h => Ev.step (fun k => by
      rw [laws_toIntS.l0, if_pos (by omega), if_pos (by omega), if_pos (by omega), wrap_id _ (by omega) (by omega), Int.toNat_natCast]) h⟩) (List.replicate l.length 0) (by simp)
  refine ⟨r, hr, Ev.congr (fun k => ?_) h⟩
  unfold laws_toIntS.f
  rw [if_pos (by omega), if_pos (by omega), Int.toNat_natCast]
theorem toChart_ev (w h : Int) (l : List Int) (hl : l.length ≤ 2000000) : ∃ t : List Int, t.length = l.length ∧ Ev (fun k => laws_toChart.f k w h l) (w, h, t) := by
  obtain ⟨t, ht, hv⟩ := toInts_ev l hl
  exact ⟨t, ht, by unfold laws_toChart.f; exact Ev.bind hv (Ev.now _)⟩
def cntN (l : List Int) : Nat → List Int
  | 0 => List.replicate 6 0
  | i + 1 => (cntN l i).set (l.getD i 0).toNat ((cntN l i).getD (l.getD i 0).toNat 0 + 1)
theorem cntN_length (l : List Int) (i : Nat) : (cntN l i).length = 6 := by
  induction i with
  | zero => simp [cntN]
  | succ i ih => simp [cntN, ih]
theorem cntN_bd (l : List Int) (i j : Nat) : 0 ≤ (cntN l i).getD j 0 ∧ (cntN l i).getD j 0 ≤ (i : Int) := by
  induction i generalizing j with
  | zero =>
    rw [cntN, List.getD_eq_getElem?_getD, List.getElem?_replicate]
    split <;> simp
  | succ i ih =>
    have h1 := ih j
    have h2 := ih (l.getD i 0).toNat
    rw [cntN, getD_set]
    split <;> omega
theorem cnt_spec (w h : Int) (l : List Int) (hk : okChart w h l = true) : Ev (fun k => spec_CountColors.l0 k (List.replicate 6 0) 0 w h l) (cntN l l.length, true) := by
  obtain ⟨hc, hw, hh, hlen, h64⟩ := okChart_iff w h l hk
  obtain ⟨r, hr, h1⟩ := Ev.loopE (fun k i (s : List Int) => spec_CountColors.l0 k s i w h l) l.length (fun i s => s = cntN l i) (fun r => r = (cntN l l.length, true))
    (fun s hs => ⟨(s, true), by rw [hs], Ev.step (fun k => by rw [spec_CountColors.l0, if_neg (by omega)]) (Ev.now _)⟩)
    (fun i s hi hs => by
      refine ⟨_, rfl, fun r h => Ev.step (fun k => ?_) h⟩
      have hcb := hc i hi
      have hsl : s.length = 6 := by rw [hs]; exact cntN_length l i
      have hb := cntN_bd l i (l.getD i 0).toNat
      have e0 : rd l (i : Int) = l.getD i 0 := rfl
      have e1 : rd s (l.getD i 0) = s.getD (l.getD i 0).toNat 0 := rfl
      rw [← hs] at hb
      rw [spec_CountColors.l0, if_pos (by omega), if_pos (by omega), e0, if_pos (by omega), if_pos (by omega), e1, wrap_id _ (by omega) (by omega), wrap_id _ (by omega) (by omega), cntN, ← hs]) (List.replicate 6 0) rfl
  subst hr
  exact h1
theorem cnt_impl (w h : Int) (l : List Int) (hk : okChart w h l = true) : Ev (fun k => impl_Chart_colors.l0 k (List.replicate 6 0) l (l.length : Int) 0) (cntN l l.length) := by
  obtain ⟨hc, hw, hh, hlen, h64⟩ := okChart_iff w h l hk
  obtain ⟨r, hr, h1⟩ := Ev.loopE (fun k i (s : List Int) => impl_Chart_colors.l0 k s l (l.length : Int) i) l.length (fun i s => s = cntN l i) (fun r => r = cntN l l.length)
    (fun s hs => ⟨s, hs, Ev.step (fun k => by rw [impl_Chart_colors.l0, if_neg (by omega)]) (Ev.now _)⟩)
    (fun i s hi hs => by
      refine ⟨_, rfl, fun r h => Ev.step (fun k => ?_) h⟩
      have hcb := hc i hi
      have hsl : s.length = 6 := by rw [hs]; exact cntN_length l i
      have hb := cntN_bd l i (l.getD i 0).toNat
      have e0 : rd l (i : Int) = l.getD i 0 := rfl
      have e1 : rd s (l.getD i 0) = s.getD (l.getD i 0).toNat 0 := rfl
      rw [← hs] at hb
      rw [impl_Chart_colors.l0, if_pos (by omega), if_pos (by omega), if_pos (by omega), e0, if_pos (by omega), if_pos (by omega), e1, wrap_id _ (by omega) (by omega), wrap_id _ (by omega) (by omega), cntN, ← hs]) (List.replicate 6 0) rfl
  subst hr
  exact h1
theorem counts_same (w h : Int) (l : List Int) (hk : okChart w h l = true) : ∃ cs : List Int, cs.length = 6 ∧ (∀ j, 0 ≤ cs.getD j 0 ∧ cs.getD j 0 ≤ 64) ∧ Ev (fun k => spec_l10Counts.f k w h l) cs ∧ Ev (fun k => impl_Chart_colors.f k w h l) cs := by
  obtain ⟨hc, hw, hh, hlen, h64⟩ := okChart_iff w h l hk
  refine ⟨cntN l l.length, cntN_length _ _, fun j => by have := cntN_bd l l.length j; omega, ?_, ?_⟩
  · have h2 : Ev (fun k => spec_CountColors.f k w h l) (cntN l l.length, true) := by
      unfold spec_CountColors.f
      refine Ev.bind (l2Good_ev w h l (by omega)) ?_
      simp only [hk, if_true, if_pos (show 6 ≤ 35184372088832 by omega)]
      exact cnt_spec w h l hk
    unfold spec_l10Counts.f
    exact Ev.bind h2 (Ev.now _)
  · unfold impl_Chart_colors.f
    simp only [if_pos (show 6 ≤ 35184372088832 by omega)]
    exact cnt_impl w h l hk
def okYarn (p g w b : Int) : Bool := rng p 1 30 && (rng g 1 40 && (rng w 0 100 && rng b 1 1000))
theorem okYarn_iff (p g w b : Int) : okYarn p g w b = true ↔ (1 ≤ p ∧ p ≤ 30) ∧ (1 ≤ g ∧ g ≤ 40) ∧ (0 ≤ w ∧ w ≤ 100) ∧ 1 ≤ b ∧ b ≤ 1000 := by
  simp only [okYarn, Bool.and_eq_true, rng_iff]
theorem l10Good_eq (p g w b : Int) : spec_l10Good.f p g w b = some (okYarn p g w b) := by
  unfold spec_l10Good.f okYarn
  simp only [l1In_eq, Option.bind_some]
  cases rng p 1 30 <;> cases rng g 1 40 <;> cases rng w 0 100 <;> cases rng b 1 1000 <;> rfl
theorem IsYarn_eq (p g w b : Int) : impl_IsYarn.f p g w b = some (okYarn p g w b) := by
  unfold impl_IsYarn.f okYarn
  simp only [in_eq, Option.bind_some]
  cases rng p 1 30 <;> cases rng g 1 40 <;> cases rng w 0 100 <;> cases rng b 1 1000 <;> rfl
def yarnV (p g w n : Int) : Int := wrap64 (Int.tdiv (wrap64 ((wrap64 ((wrap64 (n * (wrap64 ((wrap64 (2 * p)) + g)))) * (wrap64 (100 + w)))) + 99)) 100)
theorem l10For_eq (p g w b n : Int) : spec_l10For.f p g w b n = some (yarnV p g w n) := rfl
theorem yarnV_eq (p g w b n : Int) (h : okYarn p g w b = true) (h0 : 0 ≤ n) (h1 : n ≤ 100000) : yarnV p g w n = (n * ((2 * p + g) * (100 + w)) + 99) / 100 := by
  obtain ⟨hp, hg, hw, hb⟩ := (okYarn_iff p g w b).1 h
  unfold yarnV
  have a1 : wrap64 (2 * p) = 2 * p := wrap_id _ (by omega) (by omega)
  have a2 : wrap64 (2 * p + g) = 2 * p + g := wrap_id _ (by omega) (by omega)
  have a3 : wrap64 (100 + w) = 100 + w := wrap_id _ (by omega) (by omega)
  obtain ⟨s, hs⟩ : ∃ s, s = 2 * p + g := ⟨_, rfl⟩
  obtain ⟨u, hu⟩ : ∃ u, u = 100 + w := ⟨_, rfl⟩
  rw [a1, a2, a3, ← hs, ← hu]
  have s0 : 0 ≤ s := by omega
  have s1 : s ≤ 100 := by omega
  have u0 : 0 ≤ u := by omega
  have u1 : u ≤ 200 := by omega
  have b0 : 0 ≤ s * u := Int.mul_nonneg s0 u0
  have b1 : s * u ≤ 100 * 200 := Int.mul_le_mul s1 u1 u0 (by omega)
  have c0 : 0 ≤ n * s := Int.mul_nonneg h0 s0
  have c1 : n * s ≤ 100000 * 100 := Int.mul_le_mul h1 s1 s0 (by omega)
  have d0 : 0 ≤ n * (s * u) := Int.mul_nonneg h0 b0
  have d1 : n * (s * u) ≤ 100000 * (100 * 200) := Int.mul_le_mul h1 b1 b0 (by omega)
  rw [wrap_id (n * s) (by omega) (by omega), Int.mul_assoc]
  rw [wrap_id (n * (s * u)) (by omega) (by omega), wrap_id (n * (s * u) + 99) (by omega) (by omega), Int.tdiv_eq_ediv_of_nonneg (by omega)]
  exact wrap_id _ (by omega) (by omega)
theorem yarn_eqV (p g w b n : Int) (h : okYarn p g w b = true) (h0 : 0 ≤ n) (h1 : n ≤ 100000) : impl_Yarn_yarn.f p g w b n = some (yarnV p g w n) := by
  obtain ⟨hp, hg, hw, hb⟩ := (okYarn_iff p g w b).1 h
  rw [yarnV_eq p g w b n h h0 h1]
  unfold impl_Yarn_yarn.f impl_Yarn_hundredths.f impl_ceilDiv.f
  have a1 : wrap64 (2 * p) = 2 * p := wrap_id _ (by omega) (by omega)
  have a2 : wrap64 (2 * p + g) = 2 * p + g := wrap_id _ (by omega) (by omega)
  have a3 : wrap64 (100 + w) = 100 + w := wrap_id _ (by omega) (by omega)
  obtain ⟨s, hs⟩ : ∃ s, s = 2 * p + g := ⟨_, rfl⟩
  obtain ⟨u, hu⟩ : ∃ u, u = 100 + w := ⟨_, rfl⟩
  rw [a1, a2, a3, ← hs, ← hu]
  have s0 : 0 ≤ s := by omega
  have s1 : s ≤ 100 := by omega
  have u0 : 0 ≤ u := by omega
  have u1 : u ≤ 200 := by omega
  have b0 : 0 ≤ s * u := Int.mul_nonneg s0 u0
  have b1 : s * u ≤ 100 * 200 := Int.mul_le_mul s1 u1 u0 (by omega)
  have d0 : 0 ≤ n * (s * u) := Int.mul_nonneg h0 b0
  have d1 : n * (s * u) ≤ 100000 * (100 * 200) := Int.mul_le_mul h1 b1 b0 (by omega)
  simp only [Option.bind_some]
  rw [if_neg (by omega), Option.bind_some, wrap_id (s * u) (by omega) (by omega), wrap_id (n * (s * u)) (by omega) (by omega), wrap_id (n * (s * u) + 100) (by omega) (by omega), wrap_id (n * (s * u) + 100 - 1) (by omega) (by omega), Int.tdiv_eq_ediv_of_nonneg (by omega), wrap_id _ (by omega) (by omega)]
  congr 2
  omega
theorem yarns_ev (p g w b cw ch : Int) (cl : List Int) (n : Int) (h : okYarn p g w b = true) (hk : okChart cw ch cl = true) (hn0 : 0 ≤ n) (hn1 : n ≤ 1000) (cs : List Int) (h6 : cs.length = 6) (hb : ∀ j, 0 ≤ cs.getD j 0 ∧ cs.getD j 0 ≤ 64)
    (hv : Ev (fun k => impl_Chart_colors.f k cw ch cl) cs) : Ev (fun k => impl_Yarn_yarns.f k p g w b cw ch cl n) (cs.map fun c => yarnV p g w (c * n)) := by
  unfold impl_Yarn_yarns.f
  refine Ev.bind hv ?_
  obtain ⟨r, hr, h1⟩ := Ev.loopE (fun k i (s : List Int) => impl_Yarn_yarns.l0 k n s (cs.length : Int) i p g w b) cs.length (fun i s => s = (cs.take i).map (fun c => yarnV p g w (c * n)) ++ cs.drop i) (fun r => r = cs.map fun c => yarnV p g w (c * n))
    (fun s hs => ⟨s, by rw [hs]; simp, Ev.step (fun k => by rw [impl_Yarn_yarns.l0, if_neg (by omega)]) (Ev.now s)⟩)
    (fun i s hi hs => by
      have hl : s.length = cs.length := by rw [hs]; exact mid_length _ _ _
      have e0 : rd s (i : Int) = cs.getD i 0 := by rw [hs]; exact mid_getD (fun c => yarnV p g w (c * n)) 0 cs i hi
      have hbi := hb i
      obtain ⟨c, hc⟩ : ∃ c, c = cs.getD i 0 := ⟨_, rfl⟩
      rw [← hc] at hbi e0
      have p0 : 0 ≤ c * n := Int.mul_nonneg hbi.1 hn0
      have p1 : c * n ≤ 64 * 1000 := Int.mul_le_mul hbi.2 hn1 hn0 (by omega)
      refine ⟨s.set i (yarnV p g w (c * n)), by rw [hs, hc]; exact set_mid (fun c => yarnV p g w (c * n)) 0 cs i hi, fun r h2 => Ev.step (fun k => ?_) h2⟩
      rw [impl_Yarn_yarns.l0, if_pos (by omega), if_pos (by omega), if_pos (by omega), e0, wrap_id (c * n) (by omega) (by omega), yarn_eqV p g w b _ h p0 (by omega), Option.bind_some, Int.toNat_natCast, wrap_id _ (by omega) (by omega)]) cs (by simp)
  subst hr
  exact h1
theorem yarnV_mono (p g w b m n : Int) (h : okYarn p g w b = true) (h0 : 0 ≤ m) (hmn : m ≤ n) (h1 : n ≤ 100000) : yarnV p g w m ≤ yarnV p g w n := by
  rw [yarnV_eq p g w b m h h0 (by omega), yarnV_eq p g w b n h (by omega) h1]
  obtain ⟨hp, hg, hw, hb⟩ := (okYarn_iff p g w b).1 h
  have a : 0 ≤ (2 * p + g) * (100 + w) := Int.mul_nonneg (by omega) (by omega)
  have := Int.mul_le_mul_of_nonneg_right hmn a
  omega
def badN (p g w : Int) (cs st : List Int) (n : Nat) : Prop := ∃ i, i < 6 ∧ st.getD i 0 < yarnV p g w (cs.getD i 0 * (n : Int))
theorem badN_mono (p g w b : Int) (cs st : List Int) (h : okYarn p g w b = true) (hb : ∀ j, 0 ≤ cs.getD j 0 ∧ cs.getD j 0 ≤ 64) (m n : Nat) (hmn : m ≤ n) (hn : n ≤ 1000) (hbad : badN p g w cs st m) : badN p g w cs st n := by
  obtain ⟨i, hi, h1⟩ := hbad
  refine ⟨i, hi, Int.lt_of_lt_of_le h1 (yarnV_mono p g w b _ _ h ?_ ?_ ?_)⟩
  · exact Int.mul_nonneg (hb i).1 (by omega)
  · exact Int.mul_le_mul_of_nonneg_left (by omega) (hb i).1
  · have := Int.mul_le_mul (hb i).2 (show (n : Int) ≤ 1000 by omega) (by omega) (by omega)
    omega
theorem carpets_top (p g w b : Int) (cs st : List Int) (h : okYarn p g w b = true) (hs : ∀ i, i < 6 → 0 ≤ st.getD i 0) (M : Nat) : ∃ R, R ≤ M ∧ ¬ badN p g w cs st R ∧ ∀ n, R < n → n ≤ M → badN p g w cs st n := by
  induction M with
  | zero =>
    refine ⟨0, Nat.le_refl _, ?_, fun n h1 h2 => absurd h1 (by omega)⟩
    rintro ⟨i, hi, h1⟩
    have e : yarnV p g w (cs.getD i 0 * ((0 : Nat) : Int)) = 0 := by
      rw [show ((0 : Nat) : Int) = 0 from rfl, Int.mul_zero, yarnV_eq p g w b 0 h (by omega) (by omega), Int.zero_mul]
      rfl
    rw [e] at h1
    have := hs i hi
    omega
  | succ M ih =>
    by_cases hb : badN p g w cs st (M + 1)
    · obtain ⟨R, h1, h2, h3⟩ := ih
      refine ⟨R, by omega, h2, fun n h4 h5 => ?_⟩
      by_cases e : n = M + 1
      · rw [e]; exact hb
      · exact h3 n h4 (by omega)
    · exact ⟨M + 1, Nat.le_refl _, hb, fun n h1 h2 => absurd h1 (by omega)⟩
theorem specC_good (p g w b : Int) (cs st : List Int) (h6 : cs.length = 6) (hs6 : st.length = 6) (hb : ∀ j, 0 ≤ cs.getD j 0 ∧ cs.getD j 0 ≤ 64) (n : Nat) (hn : n ≤ 1000) (hg : ¬ badN p g w cs st n) (r : Int × Bool)
    (h : Ev (fun k => spec_CarpetsFrom.l0 k st cs ((n : Int) + 1) p g w b) r) : Ev (fun k => spec_CarpetsFrom.l1 k st cs (n : Int) 0 p g w b) r := by
  refine Ev.upto (fun k i => spec_CarpetsFrom.l1 k st cs (n : Int) i p g w b) r 6 (Ev.step (fun k => ?_) h) (fun i hi h => Ev.step (fun k => ?_) h)
  · rw [spec_CarpetsFrom.l1, if_neg (by omega), wrap_id _ (by omega) (by omega)]
  · have e1 : rd cs (i : Int) = cs.getD i 0 := rfl
    have e2 : rd st (i : Int) = st.getD i 0 := rfl
    have hbi := hb i
    have p0 : 0 ≤ cs.getD i 0 * (n : Int) := Int.mul_nonneg hbi.1 (by omega)
    have p1 := Int.mul_le_mul hbi.2 (show (n : Int) ≤ 1000 by omega) (by omega) (by omega)
    have hng : ¬ yarnV p g w (cs.getD i 0 * (n : Int)) > st.getD i 0 := fun hc => hg ⟨i, hi, hc⟩
    rw [spec_CarpetsFrom.l1, if_pos (by omega), if_pos (by omega), e1, Int.mul_comm, wrap_id (cs.getD i 0 * (n : Int)) (by omega) (by omega), l10For_eq, Option.bind_some, if_pos (by omega), e2, if_neg hng, wrap_id _ (by omega) (by omega)]
theorem specC_bad (p g w b : Int) (cs st : List Int) (h6 : cs.length = 6) (hs6 : st.length = 6) (hb : ∀ j, 0 ≤ cs.getD j 0 ∧ cs.getD j 0 ≤ 64) (n : Nat) (hn : n ≤ 1000) (hn0 : 0 < n) (hg : badN p g w cs st n) : Ev (fun k => spec_CarpetsFrom.l1 k st cs (n : Int) 0 p g w b) ((n : Int) - 1, true) := by
  obtain ⟨j, hj, hjb⟩ := hg
  obtain ⟨f, hf, hfb, hfl⟩ : ∃ f, f < 6 ∧ st.getD f 0 < yarnV p g w (cs.getD f 0 * (n : Int)) ∧ ∀ i, i < f → ¬ st.getD i 0 < yarnV p g w (cs.getD i 0 * (n : Int)) := by
    have : ∀ m, (∃ i, i < m ∧ i < 6 ∧ st.getD i 0 < yarnV p g w (cs.getD i 0 * (n : Int))) → ∃ f, f < 6 ∧ st.getD f 0 < yarnV p g w (cs.getD f 0 * (n : Int)) ∧ ∀ i, i < f → ¬ st.getD i 0 < yarnV p g w (cs.getD i 0 * (n : Int)) := by
      intro m
      induction m with
      | zero => rintro ⟨i, hi, _⟩; exact absurd hi (by omega)
      | succ m ih =>
        rintro ⟨i, hi, hi6, hib⟩
        by_cases hx : ∃ i, i < m ∧ i < 6 ∧ st.getD i 0 < yarnV p g w (cs.getD i 0 * (n : Int))
        · exact ih hx
        · by_cases e : i < m
          · exact absurd ⟨i, e, hi6, hib⟩ hx
          · exact ⟨i, hi6, hib, fun q hq hqb => hx ⟨q, by omega, by omega, hqb⟩⟩
    exact this 6 ⟨j, hj, hj, hjb⟩
  have val : ∀ i : Nat, wrap64 ((n : Int) * rd cs (i : Int)) = cs.getD i 0 * (n : Int) := by
    intro i
    have e1 : rd cs (i : Int) = cs.getD i 0 := rfl
    have hbi := hb i
    have p0 : 0 ≤ cs.getD i 0 * (n : Int) := Int.mul_nonneg hbi.1 (by omega)
    have p1 := Int.mul_le_mul hbi.2 (show (n : Int) ≤ 1000 by omega) (by omega) (by omega)
    rw [e1, Int.mul_comm, wrap_id _ (by omega) (by omega)]
  refine Ev.upto (fun k i => spec_CarpetsFrom.l1 k st cs (n : Int) i p g w b) _ f (Ev.step (f := fun _ => some ((n : Int) - 1, true)) (fun k => ?_) (Ev.now _)) (fun i hi h => Ev.step (fun k => ?_) h)
  · have e2 : rd st (f : Int) = st.getD f 0 := rfl
    rw [spec_CarpetsFrom.l1, if_pos (by omega), if_pos (by omega), val, l10For_eq, Option.bind_some, if_pos (by omega), e2, if_pos hfb, wrap_id _ (by omega) (by omega)]
  · have e2 : rd st (i : Int) = st.getD i 0 := rfl
    rw [spec_CarpetsFrom.l1, if_pos (by omega), if_pos (by omega), val, l10For_eq, Option.bind_some, if_pos (by omega), e2, if_neg (hfl i hi), wrap_id _ (by omega) (by omega)]
theorem Carpets_same (cw ch : Int) (cl : List Int) (p g w b : Int) (st : List Int) (hl : cl.length ≤ 2000000) (hl2 : st.length ≤ 2000000) : ∃ r : Int × Bool, Ev (fun k => spec_CarpetsFrom.f k cw ch cl p g w b st) r ∧ Ev (fun k => impl_CarpetsFrom.f k cw ch cl p g w b st) r := by
  unfold spec_CarpetsFrom.f impl_CarpetsFrom.f
  simp only [IsChart_eq, IsYarn_eq, l10Good_eq, implStock_eq, Option.bind_some]
  have no1 : Ev (fun k => spec_CarpetsFrom.j0 k st true cw ch cl p g w b) (0, false) := Ev.step (fun k => by rw [spec_CarpetsFrom.j0, if_pos rfl]) (Ev.now _)
  have no2 : Ev (fun k => impl_CarpetsFrom.j0 k st true cw ch cl p g w b) (0, false) := Ev.step (fun k => by rw [impl_CarpetsFrom.j0, if_pos rfl]) (Ev.now _)
  cases hk : okChart cw ch cl with
  | false =>
    refine ⟨(0, false), Ev.bind (l2Good_ev cw ch cl hl) ?_, ?_⟩
    · simp only [hk, Bool.false_eq_true, if_false]; exact no1
    · simp only [Bool.false_eq_true, if_false]; exact no2
  | true =>
    cases hy : okYarn p g w b with
    | false =>
      refine ⟨(0, false), Ev.bind (l2Good_ev cw ch cl hl) ?_, ?_⟩
      · simp only [hk, Bool.false_eq_true, if_false, if_true]; exact no1
      · simp only [Bool.false_eq_true, if_false, if_true]; exact no2
    | true =>
      cases ht : okStock st with
      | false =>
        refine ⟨(0, false), Ev.bind (l2Good_ev cw ch cl hl) ?_, ?_⟩
        · simp only [hk, if_true]; exact Ev.bind (specStock_ev st hl2) (by rw [ht]; exact no1)
        · simp only [if_true]; exact no2
      | true =>
        obtain ⟨hs0, hs6⟩ := okStock_iff st ht
        obtain ⟨cs, h6, hb, hc1, hc2⟩ := counts_same cw ch cl hk
        obtain ⟨R, hR, hRg, hRb⟩ := carpets_top p g w b cs st hy (fun i hi => hs0 i (by omega)) 1000
        have spec : Ev (fun k => spec_CarpetsFrom.l0 k st cs 1 p g w b) ((R : Int), true) := by
          refine Ev.upto (fun k i => spec_CarpetsFrom.l0 k st cs (i + 1) p g w b) _ R ?_ (fun i hi h => ?_)
          · by_cases e : R = 1000
            · subst e
              exact Ev.step (f := fun _ => some (1000, true)) (fun k => by rw [spec_CarpetsFrom.l0, if_neg (by omega)]) (Ev.now _)
            · refine Ev.step (f := fun k => spec_CarpetsFrom.l1 k st cs ((R : Int) + 1) 0 p g w b) (fun k => by rw [spec_CarpetsFrom.l0, if_pos (by omega)]) ?_
              have := specC_bad p g w b cs st h6 hs6 hb (R + 1) (by omega) (by omega) (hRb (R + 1) (by omega) (by omega))
              have e2 : ((R + 1 : Nat) : Int) = (R : Int) + 1 := by omega
              rw [e2, Int.add_sub_cancel] at this
              exact this
          · refine Ev.step (f := fun k => spec_CarpetsFrom.l1 k st cs ((i : Int) + 1) 0 p g w b) (fun k => by rw [spec_CarpetsFrom.l0, if_pos (by omega)]) ?_
            have := specC_good p g w b cs st h6 hs6 hb (i + 1) (by omega) (fun hbad => hRg (badN_mono p g w b cs st hy hb (i + 1) R (by omega) hR hbad)) ((R : Int), true)
            have e2 : ((i + 1 : Nat) : Int) = (i : Int) + 1 := by omega
            rw [e2] at this
            exact this h
        have impl : ∀ d n : Nat, n = R + d → n ≤ 1000 → Ev (fun k => impl_CarpetsFrom.l0 k st (n : Int) cw ch cl p g w b) ((R : Int), true) := by
          intro d
          have step : ∀ n : Nat, n ≤ 1000 → ∀ r, (badN p g w cs st n → Ev (fun k => impl_CarpetsFrom.l0 k st ((n : Int) - 1) cw ch cl p g w b) r) → (¬ badN p g w cs st n → r = ((n : Int), true)) → Ev (fun k => impl_CarpetsFrom.l0 k st (n : Int) cw ch cl p g w b) r := by
            intro n hn r h1 h2
            refine Ev.step (fun k => by rw [impl_CarpetsFrom.l0]) ?_
            have hy1 := yarns_ev p g w b cw ch cl (n : Int) hy hk (by omega) (by omega) cs h6 hb hc2
            refine Ev.bind hy1 (Ev.bind (implShort_ev _ st (by rw [List.length_map]; omega) (by rw [List.length_map]; omega)) ?_)
            have hiff : (0 < (shortN (cs.map fun c => yarnV p g w (c * (n : Int))) st (cs.map fun c => yarnV p g w (c * (n : Int))).length).length) ↔ badN p g w cs st n := by
              rw [shortN_pos, List.length_map, h6]
              constructor
              · rintro ⟨i, hi, h⟩
                rw [getD_map' _ 0 0 cs i (by omega)] at h
                exact ⟨i, hi, h⟩
              · rintro ⟨i, hi, h⟩
                exact ⟨i, hi, by rw [getD_map' _ 0 0 cs i (by omega)]; exact h⟩
            by_cases hbn : badN p g w cs st n
            · have := hiff.2 hbn
              simp only [if_pos (show ((shortN (cs.map fun c => yarnV p g w (c * (n : Int))) st (cs.map fun c => yarnV p g w (c * (n : Int))).length).length : Int) > 0 by omega)]
              rw [wrap_id _ (by omega) (by omega)]
              exact h1 hbn
            · have : ¬ 0 < (shortN (cs.map fun c => yarnV p g w (c * (n : Int))) st (cs.map fun c => yarnV p g w (c * (n : Int))).length).length := fun h => hbn (hiff.1 h)
              simp only [if_neg (show ¬ ((shortN (cs.map fun c => yarnV p g w (c * (n : Int))) st (cs.map fun c => yarnV p g w (c * (n : Int))).length).length : Int) > 0 by omega)]
              rw [h2 hbn]
              exact Ev.now _
          induction d with
          | zero =>
            intro n hn hn1
            have : n = R := by omega
            subst this
            exact step n hn1 _ (fun hbad => absurd hbad hRg) (fun _ => rfl)
          | succ d ih =>
            intro n hn hn1
            refine step n hn1 _ (fun _ => ?_) (fun hng => absurd (hRb n (by omega) hn1) hng)
            have := ih (n - 1) (by omega) (by omega)
            rwa [show ((n - 1 : Nat) : Int) = (n : Int) - 1 by omega] at this
        refine ⟨((R : Int), true), Ev.bind (l2Good_ev cw ch cl hl) ?_, ?_⟩
        · simp only [hk, if_true]
          refine Ev.bind (specStock_ev st hl2) ?_
          rw [ht]
          exact Ev.step (fun k => by rw [spec_CarpetsFrom.j0, if_neg (by decide)]) (Ev.bind hc1 spec)
        · simp only [if_true]
          exact Ev.step (fun k => by rw [impl_CarpetsFrom.j0, if_neg (by decide)]; rfl) (impl (1000 - R) 1000 (by omega) (by omega))
theorem eqInts_ev (t : List Int) (ht : t.length ≤ 2000000) : Ev (fun k => laws_eqIntS.f k t t) true := by
  refine Ev.congr (f := fun k => laws_eqIntS.l0 k t t 0) (fun k => by unfold laws_eqIntS.f; rw [if_pos rfl]) ?_
  obtain ⟨r, hr, h⟩ := Ev.loopE (fun k i (_ : Unit) => laws_eqIntS.l0 k t t i) t.length (fun _ _ => True) (fun r => r = true)
    (fun s _ => ⟨true, rfl, Ev.step (fun k => by rw [laws_eqIntS.l0, if_neg (by omega)]) (Ev.now true)⟩)
    (fun i s hi _ => ⟨(), trivial, fun r h => Ev.step (fun k => by
      rw [laws_eqIntS.l0, if_pos (by omega), if_pos (by omega), if_pos (by omega), if_pos rfl, wrap_id _ (by omega) (by omega)]) h⟩) () trivial
  subst hr
  exact h
theorem eqChart_ev (w h : Int) (t : List Int) (hl : t.length ≤ 2000000) : Ev (fun k => laws_eqChart.f k w h t w h t) true := by
  unfold laws_eqChart.f
  simp only [if_true]
  exact Ev.bind (eqInts_ev t hl) (by simp only [if_true]; exact Ev.now _)
theorem FnExactCarpetsFrom (a0_0 : Int) (a0_1 : Int) (l0_2 : List (Int)) (a1_0 : Int) (a1_1 : Int) (a1_2 : Int) (a1_3 : Int) (l2 : List (Int)) (q_a0_0 : (Lit.int .i64 a0_0).wf = true) (q_a0_1 : (Lit.int .i64 a0_1).wf = true) (q_l0_2 : (l0_2.length ≤ maxLen ∧ ∀ q ∈ l0_2, (Lit.int .i64 q).wf = true)) (q_a1_0 : (Lit.int .i64 a1_0).wf = true) (q_a1_1 : (Lit.int .i64 a1_1).wf = true) (q_a1_2 : (Lit.int .i64 a1_2).wf = true) (q_a1_3 : (Lit.int .i64 a1_3).wf = true) (q_l2 : (l2.length ≤ maxLen ∧ ∀ q ∈ l2, (Lit.int .i64 q).wf = true)) : ∃ k, laws_FnExactCarpetsFrom.f k a0_0 a0_1 l0_2 a1_0 a1_1 a1_2 a1_3 l2 = some true := by
  by_cases hl2 : (l2.length : Int) > 1048576
  · refine ⟨0, ?_⟩
    unfold laws_FnExactCarpetsFrom.f
    rw [if_pos hl2]
  by_cases hl : (l0_2.length : Int) ≤ 1048576
  · obtain ⟨t, ht, K1, h1⟩ := toChart_ev a0_0 a0_1 l0_2 (by omega)
    obtain ⟨u, hu, K5, h5⟩ := toInts_ev l2 (by omega)
    obtain ⟨r, ⟨K2, h2⟩, K3, h3⟩ := Carpets_same a0_0 a0_1 t a1_0 a1_1 a1_2 a1_3 u (by omega) (by omega)
    obtain ⟨K4, h4⟩ := eqChart_ev a0_0 a0_1 t (by omega)
    obtain ⟨K6, h6⟩ := eqInts_ev u (by omega)
    obtain ⟨N, hN⟩ : ∃ N, N = K1 + K2 + K3 + K4 + K5 + K6 := ⟨_, rfl⟩
    replace h1 := h1 N (by omega)
    replace h2 := h2 N (by omega)
    replace h3 := h3 N (by omega)
    replace h4 := h4 N (by omega)
    replace h5 := h5 N (by omega)
    replace h6 := h6 N (by omega)
    dsimp only at h1 h2 h3 h4 h5 h6
    refine ⟨N, ?_⟩
    unfold laws_FnExactCarpetsFrom.f laws_toYarn.f
    rw [if_neg hl2, szChart2 a0_0 a0_1 l0_2 hl, Option.bind_some, if_neg (by omega)]
    simp only [h1, h2, h3, h4, h5, h6, Option.bind_some, if_true, if_false, bne_self_eq_false, Bool.false_eq_true]
  · refine ⟨0, ?_⟩
    unfold laws_FnExactCarpetsFrom.f
    rw [if_neg hl2, szChart1 a0_0 a0_1 l0_2 hl q_l0_2.1]
    rfl
end Go.Proofs.Ytnkecgldapagcaa.Pure
