/- The plain law of FnExactShortColors: what the program's functions compute is what the reference's compute. No program and no memory in it. -/
import Derived.Test.YtnkecgldapagcaaHx13
import Derived.Test.YtnkecgldapagcaaLps
namespace Go.Proofs.Ytnkecgldapagcaa.Pure
open Go.RowKit Go.Proofs.YtnkecgldapagcaaW.PrintWords Go.Proofs.YtnkecgldapagcaaW.PrintLast Go.Proofs.Ytnkecgldapagcaa.H
set_option linter.unusedVariables false
set_option linter.unusedSimpArgs false
theorem l1In_eq (a b c : Int) : spec_l1In.f a b c = some (rng a b c) := spec_l1In.eq a b c
theorem in_eq (a b c : Int) : impl_in.f a b c = some (rng a b c) := impl_in.eq a b c
theorem ext_getD {α : Type} (z : α) (a b : List α) (hl : a.length = b.length) (h : ∀ j, j < a.length → a.getD j z = b.getD j z) : a = b := by
  apply List.ext_getElem hl
  intro j h1 h2
  have := h j h1
  rwa [List.getD_eq_getElem?_getD, List.getD_eq_getElem?_getD, List.getElem?_eq_getElem h1, List.getElem?_eq_getElem h2] at this
theorem take_succ_getD {α : Type} (z : α) (a : List α) (i : Nat) (h : i < a.length) : a.take (i + 1) = a.take i ++ [a.getD i z] := by
  rw [List.take_succ_eq_append_getElem h, List.getD_eq_getElem?_getD, List.getElem?_eq_getElem h]
  rfl
theorem getD_map' {α β : Type} (f : α → β) (z : α) (y : β) (a : List α) (i : Nat) (h : i < a.length) : (a.map f).getD i y = f (a.getD i z) := by
  rw [List.getD_eq_getElem?_getD, List.getElem?_map, List.getD_eq_getElem?_getD, List.getElem?_eq_getElem h]
  rfl
theorem set_mid {α : Type} (f : α → α) (z : α) (a : List α) (i : Nat) (h : i < a.length) : ((a.take i).map f ++ a.drop i).set i (f (a.getD i z)) = (a.take (i + 1)).map f ++ a.drop (i + 1) := by
  have e : a.drop i = a.getD i z :: a.drop (i + 1) := by
    rw [List.drop_eq_getElem_cons h, List.getD_eq_getElem?_getD, List.getElem?_eq_getElem h]
    rfl
  rw [e, take_succ_getD z a i h, List.map_append, List.append_assoc]
  have hl : ((a.take i).map f).length = i := by rw [List.length_map, List.length_take]; omega
  rw [List.set_append_right _ _ (by omega), hl, Nat.sub_self]
  rfl
theorem mid_getD {α : Type} (f : α → α) (z : α) (a : List α) (i : Nat) (h : i < a.length) : ((a.take i).map f ++ a.drop i).getD i z = a.getD i z := by
  have hl : ((a.take i).map f).length = i := by rw [List.length_map, List.length_take]; omega
  rw [List.getD_eq_getElem?_getD, List.getElem?_append_right (by omega), hl, Nat.sub_self, List.getElem?_drop, Nat.add_zero, List.getD_eq_getElem?_getD]
theorem mid_length {α : Type} (f : α → α) (a : List α) (i : Nat) : ((a.take i).map f ++ a.drop i).length = a.length := by
  rw [List.length_append, List.length_map, List.length_take, List.length_drop]; omega
def okChart (w h : Int) (l : List Int) : Bool := (l.all fun x => rng x 0 5) && (rng w 1 8 && (rng h 1 8 && ((l.length : Int) == wrap64 (w * h))))
theorem okChart_iff (w h : Int) (l : List Int) (hk : okChart w h l = true) : (∀ i, i < l.length → 0 ≤ l.getD i 0 ∧ l.getD i 0 ≤ 5) ∧ (1 ≤ w ∧ w ≤ 8) ∧ (1 ≤ h ∧ h ≤ 8) ∧ (l.length : Int) = w * h ∧ l.length ≤ 64 := by
  unfold okChart at hk
  simp only [Bool.and_eq_true, rng_iff, beq_iff_eq] at hk
  obtain ⟨h1, h2, h3, h4⟩ := hk
  have p0 : 0 ≤ w * h := Int.mul_nonneg (by omega) (by omega)
  have p1 : w * h ≤ 8 * 8 := Int.mul_le_mul h2.2 h3.2 (by omega) (by omega)
  rw [wrap_id _ (by omega) (by omega)] at h4
  refine ⟨fun i hi => ?_, h2, h3, h4, by omega⟩
  have := (all_getD 0 l _).1 h1 i hi
  exact (rng_iff _ _ _).1 this
theorem l2Good_ev (w h : Int) (l : List Int) (hl : l.length ≤ 2000000) : Ev (fun k => spec_l2Good.f k w h l) (okChart w h l) := by
  unfold spec_l2Good.f
  have e : okChart w h l = ((List.range l.length).all (fun i => rng (l.getD i 0) 0 5) && (rng w 1 8 && (rng h 1 8 && ((l.length : Int) == wrap64 (w * h))))) := by
    unfold okChart
    congr 1
    rw [Bool.eq_iff_iff, all_getD 0, all_range]
  rw [e]
  refine Ev.scan (fun k i => spec_l2Good.l0 k i w h l) l.length _ _ (Ev.step (f := fun _ => some _) (fun k => ?_) (Ev.now _)) ?_ ?_
  · rw [spec_l2Good.l0, if_neg (by omega)]
    unfold spec_l2Side.f
    simp only [l1In_eq, Option.bind_some]
    cases rng w 1 8 <;> cases rng h 1 8 <;> rfl
  · intro i hi hg
    refine Ev.step (f := fun _ => some false) (fun k => ?_) (Ev.now _)
    rw [spec_l2Good.l0, if_pos (by omega), if_pos (by omega)]
    unfold spec_l2Color.f
    have e0 : rd l (i : Int) = l.getD i 0 := rfl
    rw [l1In_eq, e0, hg]
    rfl
  · intro i r hi hg hr
    refine Ev.step (fun k => ?_) hr
    rw [spec_l2Good.l0, if_pos (by omega), if_pos (by omega)]
    unfold spec_l2Color.f
    have e0 : rd l (i : Int) = l.getD i 0 := rfl
    rw [l1In_eq, e0, hg, wrap_id _ (by omega) (by omega)]
    rfl
theorem IsChart_eq (w h : Int) (l : List Int) : impl_IsChart.f w h l = some (okChart w h l) := by
  unfold impl_IsChart.f impl_isSide.f areAll_impl_isColor.f okChart
  simp only [in_eq, Option.bind_some]
  by_cases e : (l.length : Int) = wrap64 (w * h)
  · rw [if_pos e, beq_iff_eq.2 e]
    cases rng w 1 8 <;> cases rng h 1 8 <;> simp
  · rw [if_neg e, beq_eq_false_iff_ne.2 e]
    cases rng w 1 8 <;> cases rng h 1 8 <;> simp
theorem szChart1 (w h : Int) (l : List Int) (hk : ¬ (l.length : Int) ≤ 1048576) (hm : l.length ≤ maxLen) : laws_szChart.f w h l 1048576 = some (-1) := by
  have hm' : l.length ≤ 9223372036854775807 := hm
  unfold laws_szChart.f laws_szIntS.f
  rw [wrap_id _ (by omega) (by omega), if_pos (by omega)]
  rfl
theorem szChart2 (w h : Int) (l : List Int) (hk : (l.length : Int) ≤ 1048576) : laws_szChart.f w h l 1048576 = some (1048576 - (l.length : Int)) := by
  unfold laws_szChart.f laws_szIntS.f
  rw [wrap_id _ (by omega) (by omega), if_neg (by omega), Option.bind_some, if_neg (by omega)]
theorem toInts_ev (l : List Int) (hl : l.length ≤ 2000000) : ∃ t : List Int, t.length = l.length ∧ Ev (fun k => laws_toIntS.f k l) t := by
  obtain ⟨r, hr, h⟩ := Ev.loopE (fun k i (s : List Int) => laws_toIntS.l0 k l s i) l.length (fun _ s => s.length = l.length) (fun r => r.length = l.length)
    (fun s hs => ⟨s, hs, Ev.step (fun k => by rw [laws_toIntS.l0, if_neg (by omega)]) (Ev.now s)⟩)
    (fun i s hi hs => ⟨s.set i (rd l i), by simp [hs], fun r h => Ev.step (fun k => by
      rw [laws_toIntS.l0, if_pos (by omega), if_pos (by omega), if_pos (by omega), wrap_id _ (by omega) (by omega), Int.toNat_natCast]) h⟩) (List.replicate l.length 0) (by simp)
  refine ⟨r, hr, Ev.congr (fun k => ?_) h⟩
  unfold laws_toIntS.f
  rw [if_pos (by omega), if_pos (by omega), Int.toNat_natCast]
theorem toChart_ev (w h : Int) (l : List Int) (hl : l.length ≤ 2000000) : ∃ t : List Int, t.length = l.length ∧ Ev (fun k => laws_toChart.f k w h l) (w, h, t) := by
  obtain ⟨t, ht, hv⟩ := toInts_ev l hl
  exact ⟨t, ht, by unfold laws_toChart.f; exact Ev.bind hv (Ev.now _)⟩
def cntN (l : List Int) : Nat → List Int
  | 0 => List.replicate 6 0
  | i + 1 => (cntN l i).set (l.getD i 0).toNat ((cntN l i).getD (l.getD i 0).toNat 0 + 1)
theorem cntN_length (l : List Int) (i : Nat) : (cntN l i).length = 6 := by
  induction i with
  | zero => simp [cntN]
  | succ i ih => simp [cntN, ih]
theorem cntN_bd (l : List Int) (i j : Nat) : 0 ≤ (cntN l i).getD j 0 ∧ (cntN l i).getD j 0 ≤ (i : Int) := by
  induction i generalizing j with
  | zero =>
    rw [cntN, List.getD_eq_getElem?_getD, List.getElem?_replicate]
    split <;> simp
  | succ i ih =>
    have h1 := ih j
    have h2 := ih (l.getD i 0).toNat
    rw [cntN, getD_set]
    split <;> omega
theorem cnt_spec (w h : Int) (l : List Int) (hk : okChart w h l = true) : Ev (fun k => spec_CountColors.l0 k (List.replicate 6 0) 0 w h l) (cntN l l.length, true) := by
  obtain ⟨hc, hw, hh, hlen, h64⟩ := okChart_iff w h l hk
  obtain ⟨r, hr, h1⟩ := Ev.loopE (fun k i (s : List Int) => spec_CountColors.l0 k s i w h l) l.length (fun i s => s = cntN l i) (fun r => r = (cntN l l.length, true))
    (fun s hs => ⟨(s, true), by rw [hs], Ev.step (fun k => by rw [spec_CountColors.l0, if_neg (by omega)]) (Ev.now _)⟩)
    (fun i s hi hs => by
      refine ⟨_, rfl, fun r h => Ev.step (fun k => ?_) h⟩
      have hcb := hc i hi
      have hsl : s.length = 6 := by rw [hs]; exact cntN_length l i
      have hb := cntN_bd l i (l.getD i 0).toNat
      have e0 : rd l (i : Int) = l.getD i 0 := rfl
      have e1 : rd s (l.getD i 0) = s.getD (l.getD i 0).toNat 0 := rfl
      rw [← hs] at hb
      rw [spec_CountColors.l0, if_pos (by omega), if_pos (by omega), e0, if_pos (by omega), if_pos (by omega), e1, wrap_id _ (by omega) (by omega), wrap_id _ (by omega) (by omega), cntN, ← hs]) (List.replicate 6 0) rfl
  subst hr
  exact h1
theorem cnt_impl (w h : Int) (l : List Int) (hk : okChart w h l = true) : Ev (fun k => impl_Chart_colors.l0 k (List.replicate 6 0) l (l.length : Int) 0) (cntN l l.length) := by
  obtain ⟨hc, hw, hh, hlen, h64⟩ := okChart_iff w h l hk
  obtain ⟨r, hr, h1⟩ := Ev.loopE (fun k i (s : List Int) => impl_Chart_colors.l0 k s l (l.length : Int) i) l.length (fun i s => s = cntN l i) (fun r => r = cntN l l.length)
    (fun s hs => ⟨s, hs, Ev.step (fun k => by rw [impl_Chart_colors.l0, if_neg (by omega)]) (Ev.now _)⟩)
    (fun i s hi hs => by
      refine ⟨_, rfl, fun r h => Ev.step (fun k => ?_) h⟩
      have hcb := hc i hi
      have hsl : s.length = 6 := by rw [hs]; exact cntN_length l i
      have hb := cntN_bd l i (l.getD i 0).toNat
      have e0 : rd l (i : Int) = l.getD i 0 := rfl
      have e1 : rd s (l.getD i 0) = s.getD (l.getD i 0).toNat 0 := rfl
      rw [← hs] at hb
      rw [impl_Chart_colors.l0, if_pos (by omega), if_pos (by omega), if_pos (by omega), e0, if_pos (by omega), if_pos (by omega), e1, wrap_id _ (by omega) (by omega), wrap_id _ (by omega) (by omega), cntN, ← hs]) (List.replicate 6 0) rfl
  subst hr
  exact h1
theorem counts_same (w h : Int) (l : List Int) (hk : okChart w h l = true) : ∃ cs : List Int, cs.length = 6 ∧ (∀ j, 0 ≤ cs.getD j 0 ∧ cs.getD j 0 ≤ 64) ∧ Ev (fun k => spec_l10Counts.f k w h l) cs ∧ Ev (fun k => impl_Chart_colors.f k w h l) cs := by
  obtain ⟨hc, hw, hh, hlen, h64⟩ := okChart_iff w h l hk
  refine ⟨cntN l l.length, cntN_length _ _, fun j => by have := cntN_bd l l.length j; omega, ?_, ?_⟩
  · have h2 : Ev (fun k => spec_CountColors.f k w h l) (cntN l l.length, true) := by
      unfold spec_CountColors.f
      refine Ev.bind (l2Good_ev w h l (by omega)) ?_
      simp only [hk, if_true, if_pos (show 6 ≤ 35184372088832 by omega)]
      exact cnt_spec w h l hk
    unfold spec_l10Counts.f
    exact Ev.bind h2 (Ev.now _)
  · unfold impl_Chart_colors.f
    simp only [if_pos (show 6 ≤ 35184372088832 by omega)]
    exact cnt_impl w h l hk
def okYarn (p g w b : Int) : Bool := rng p 1 30 && (rng g 1 40 && (rng w 0 100 && rng b 1 1000))
theorem okYarn_iff (p g w b : Int) : okYarn p g w b = true ↔ (1 ≤ p ∧ p ≤ 30) ∧ (1 ≤ g ∧ g ≤ 40) ∧ (0 ≤ w ∧ w ≤ 100) ∧ 1 ≤ b ∧ b ≤ 1000 := by
  simp only [okYarn, Bool.and_eq_true, rng_iff]
theorem l10Good_eq (p g w b : Int) : spec_l10Good.f p g w b = some (okYarn p g w b) := by
  unfold spec_l10Good.f okYarn
  simp only [l1In_eq, Option.bind_some]
  cases rng p 1 30 <;> cases rng g 1 40 <;> cases rng w 0 100 <;> cases rng b 1 1000 <;> rfl
theorem IsYarn_eq (p g w b : Int) : impl_IsYarn.f p g w b = some (okYarn p g w b) := by
  unfold impl_IsYarn.f okYarn
  simp only [in_eq, Option.bind_some]
  cases rng p 1 30 <;> cases rng g 1 40 <;> cases rng w 0 100 <;> cases rng b 1 1000 <;> rfl
def yarnV (p g w n : Int) : Int := wrap64 (Int.tdiv (wrap64 ((wrap64 ((wrap64 (n * (wrap64 ((wrap64 (2 * p)) + g)))) * (wrap64 (100 + w)))) + 99)) 100)
theorem l10For_eq (p g w b n : Int) : spec_l10For.f p g w b n = some (yarnV p g w n) := rfl
theorem yarnV_eq (p g w b n : Int) (h : okYarn p g w b = true) (h0 : 0 ≤ n) (h1 : n ≤ 100000) : yarnV p g w n = (n * ((2 * p + g) * (100 + w)) + 99) / 100 := by
  obtain ⟨hp, hg, hw, hb⟩ := (okYarn_iff p g w b).1 h
  unfold yarnV
  have a1 : wrap64 (2 * p) = 2 * p := wrap_id _ (by omega) (by omega)
  have a2 : wrap64 (2 * p + g) = 2 * p + g := wrap_id _ (by omega) (by omega)
  have a3 : wrap64 (100 + w) = 100 + w := wrap_id _ (by omega) (by omega)
  obtain ⟨s, hs⟩ : ∃ s, s = 2 * p + g := ⟨_, rfl⟩
  obtain ⟨u, hu⟩ : ∃ u, u = 100 + w := ⟨_, rfl⟩
  rw [a1, a2, a3, ← hs, ← hu]
  have s0 : 0 ≤ s := by omega
  have s1 : s ≤ 100 := by omega
  have u0 : 0 ≤ u := by omega
  have u1 : u ≤ 200 := by omega
  have b0 : 0 ≤ s * u := Int.mul_nonneg s0 u0
  have b1 : s * u ≤ 100 * 200 := Int.mul_le_mul s1 u1 u0 (by omega)
  have c0 : 0 ≤ n * s := Int.mul_nonneg h0 s0
  have c1 : n * s ≤ 100000 * 100 := Int.mul_le_mul h1 s1 s0 (by omega)
  have d0 : 0 ≤ n * (s * u) := Int.mul_nonneg h0 b0
  have d1 : n * (s * u) ≤ 100000 * (100 * 200) := Int.mul_le_mul h1 b1 b0 (by omega)
  rw [wrap_id (n * s) (by omega) (by omega), Int.mul_assoc]
  rw [wrap_id (n * (s * u)) (by omega) (by omega), wrap_id (n * (s * u) + 99) (by omega) (by omega), Int.tdiv_eq_ediv_of_nonneg (by omega)]
  exact wrap_id _ (by omega) (by omega)
theorem yarn_eqV (p g w b n : Int) (h : okYarn p g w b = true) (h0 : 0 ≤ n) (h1 : n ≤ 100000) : impl_Yarn_yarn.f p g w b n = some (yarnV p g w n) := by
  obtain ⟨hp, hg, hw, hb⟩ := (okYarn_iff p g w b).1 h
  rw [yarnV_eq p g w b n h h0 h1]
  unfold impl_Yarn_yarn.f impl_Yarn_hundredths.f impl_ceilDiv.f
  have a1 : wrap64 (2 * p) = 2 * p := wrap_id _ (by omega) (by omega)
  have a2 : wrap64 (2 * p + g) = 2 * p + g := wrap_id _ (by omega) (by omega)
  have a3 : wrap64 (100 + w) = 100 + w := wrap_id _ (by omega) (by omega)
  obtain ⟨s, hs⟩ : ∃ s, s = 2 * p + g := ⟨_, rfl⟩
  obtain ⟨u, hu⟩ : ∃ u, u = 100 + w := ⟨_, rfl⟩
  rw [a1, a2, a3, ← hs, ← hu]
  have s0 : 0 ≤ s := by omega
  have s1 : s ≤ 100 := by omega
  have u0 : 0 ≤ u := by omega
  have u1 : u ≤ 200 := by omega
  have b0 : 0 ≤ s * u := Int.mul_nonneg s0 u0
  have b1 : s * u ≤ 100 * 200 := Int.mul_le_mul s1 u1 u0 (by omega)
  have d0 : 0 ≤ n * (s * u) := Int.mul_nonneg h0 b0
  have d1 : n * (s * u) ≤ 100000 * (100 * 200) := Int.mul_le_mul h1 b1 b0 (by omega)
  simp only [Option.bind_some]
  rw [if_neg (by omega), Option.bind_some, wrap_id (s * u) (by omega) (by omega), wrap_id (n * (s * u)) (by omega) (by omega), wrap_id (n * (s * u) + 100) (by omega) (by omega), wrap_id (n * (s * u) + 100 - 1) (by omega) (by omega), Int.tdiv_eq_ediv_of_nonneg (by omega), wrap_id _ (by omega) (by omega)]
  congr 2
  omega
theorem yarns_ev (p g w b cw ch : Int) (cl : List Int) (n : Int) (h : okYarn p g w b = true) (hk : okChart cw ch cl = true) (hn0 : 0 ≤ n) (hn1 : n ≤ 1000) (cs : List Int) (h6 : cs.length = 6) (hb : ∀ j, 0 ≤ cs.getD j 0 ∧ cs.getD j 0 ≤ 64)
    (hv : Ev (fun k => impl_Chart_colors.f k cw ch cl) cs) : Ev (fun k => impl_Yarn_yarns.f k p g w b cw ch cl n) (cs.map fun c => yarnV p g w (c * n)) := by
  unfold impl_Yarn_yarns.f
  refine Ev.bind hv ?_
  obtain ⟨r, hr, h1⟩ := Ev.loopE (fun k i (s : List Int) => impl_Yarn_yarns.l0 k n s (cs.length : Int) i p g w b) cs.length (fun i s => s = (cs.take i).map (fun c => yarnV p g w (c * n)) ++ cs.drop i) (fun r => r = cs.map fun c => yarnV p g w (c * n))
    (fun s hs => ⟨s, by rw [hs]; simp, Ev.step (fun k => by rw [impl_Yarn_yarns.l0, if_neg (by omega)]) (Ev.now s)⟩)
    (fun i s hi hs => by
      have hl : s.length = cs.length := by rw [hs]; exact mid_length _ _ _
      have e0 : rd s (i : Int) = cs.getD i 0 := by rw [hs]; exact mid_getD (fun c => yarnV p g w (c * n)) 0 cs i hi
      have hbi := hb i
      obtain ⟨c, hc⟩ : ∃ c, c = cs.getD i 0 := ⟨_, rfl⟩
      rw [← hc] at hbi e0
      have p0 : 0 ≤ c * n := Int.mul_nonneg hbi.1 hn0
      have p1 : c * n ≤ 64 * 1000 := Int.mul_le_mul hbi.2 hn1 hn0 (by omega)
      refine ⟨s.set i (yarnV p g w (c * n)), by rw [hs, hc]; exact set_mid (fun c => yarnV p g w (c * n)) 0 cs i hi, fun r h2 => Ev.step (fun k => ?_) h2⟩
      rw [impl_Yarn_yarns.l0, if_pos (by omega), if_pos (by omega), if_pos (by omega), e0, wrap_id (c * n) (by omega) (by omega), yarn_eqV p g w b _ h p0 (by omega), Option.bind_some, Int.toNat_natCast, wrap_id _ (by omega) (by omega)]) cs (by simp)
  subst hr
  exact h1
theorem specY_ev (cw ch : Int) (cl : List Int) (p g w b : Int) (hk : okChart cw ch cl = true) (h : okYarn p g w b = true) (cs : List Int) (h6 : cs.length = 6) (hv : Ev (fun k => spec_l10Counts.f k cw ch cl) cs) :
    Ev (fun k => spec_YarnByColor.f k cw ch cl p g w b) (cs.map (yarnV p g w), true) := by
  obtain ⟨hc, _, _, _, h64⟩ := okChart_iff cw ch cl hk
  unfold spec_YarnByColor.f
  simp only [Option.bind_some, l10Good_eq]
  refine Ev.bind (l2Good_ev cw ch cl (by omega)) ?_
  simp only [hk, if_true, h]
  refine Ev.step (f := fun k => (spec_l10Counts.f k cw ch cl).bind fun t139 => spec_YarnByColor.l0 k [] t139 0 p g w b) (fun k => by rw [spec_YarnByColor.j0, if_neg (by decide)]) ?_
  refine Ev.bind hv ?_
  obtain ⟨r, hr, h1⟩ := Ev.loopE (fun k i (s : List Int) => spec_YarnByColor.l0 k s cs i p g w b) cs.length (fun i s => s = (cs.take i).map (yarnV p g w)) (fun r => r = (cs.map (yarnV p g w), true))
    (fun s hs => ⟨(s, true), by rw [hs, List.take_length], Ev.step (fun k => by rw [spec_YarnByColor.l0, if_neg (by omega)]) (Ev.now _)⟩)
    (fun i s hi hs => by
      have hl : s.length ≤ i := by rw [hs, List.length_map, List.length_take]; omega
      have e0 : rd cs (i : Int) = cs.getD i 0 := rfl
      refine ⟨s ++ [yarnV p g w (cs.getD i 0)], by rw [hs, take_succ_getD 0 cs i hi, List.map_append]; rfl, fun r h2 => Ev.step (fun k => ?_) h2⟩
      rw [spec_YarnByColor.l0, if_pos (by omega), if_pos (by omega), e0, l10For_eq, Option.bind_some, if_pos (by omega), wrap_id _ (by omega) (by omega)]) [] (by simp)
  subst hr
  exact h1
theorem specY_no (cw ch : Int) (cl : List Int) (p g w b : Int) (hl : cl.length ≤ 2000000) (h : (okChart cw ch cl && okYarn p g w b) = false) : Ev (fun k => spec_YarnByColor.f k cw ch cl p g w b) ([], false) := by
  unfold spec_YarnByColor.f
  simp only [Option.bind_some, l10Good_eq]
  refine Ev.bind (l2Good_ev cw ch cl hl) ?_
  have hj : Ev (fun k => spec_YarnByColor.j0 k [] true cw ch cl p g w b) ([], false) := Ev.step (fun k => by rw [spec_YarnByColor.j0, if_pos rfl]) (Ev.now _)
  cases h1 : okChart cw ch cl with
  | true =>
    rw [h1, Bool.true_and] at h
    simp only [if_true, h, Bool.not_false]
    exact hj
  | false => simp only [Bool.false_eq_true, if_false]; exact hj
def okStock (l : List Int) : Bool := (l.all fun x => decide (x ≥ 0)) && ((l.length : Int) == 6)
theorem okStock_iff (l : List Int) (h : okStock l = true) : (∀ i, i < l.length → 0 ≤ l.getD i 0) ∧ l.length = 6 := by
  unfold okStock at h
  simp only [Bool.and_eq_true, beq_iff_eq] at h
  refine ⟨fun i hi => ?_, by omega⟩
  have := (all_getD 0 l _).1 h.1 i hi
  simpa using this
theorem specStock_ev (l : List Int) (hl : l.length ≤ 2000000) : Ev (fun k => spec_l10Stock.f k l) (okStock l) := by
  unfold spec_l10Stock.f
  have e : okStock l = ((List.range l.length).all (fun i => decide (l.getD i 0 ≥ 0)) && ((l.length : Int) == 6)) := by
    unfold okStock
    congr 1
    rw [Bool.eq_iff_iff, all_getD 0, all_range]
  rw [e]
  refine Ev.scan (fun k i => spec_l10Stock.l0 k l i) l.length _ _ (Ev.step (f := fun _ => some _) (fun k => ?_) (Ev.now _)) ?_ ?_
  · rw [spec_l10Stock.l0, if_neg (by omega)]
  · intro i hi hg
    have e0 : rd l (i : Int) = l.getD i 0 := rfl
    refine Ev.step (f := fun _ => some false) (fun k => ?_) (Ev.now _)
    have hg' : ¬ l.getD i 0 ≥ 0 := by simpa using hg
    rw [spec_l10Stock.l0, if_pos (by omega), if_pos (by omega), e0, if_pos (by omega)]
  · intro i r hi hg hr
    have e0 : rd l (i : Int) = l.getD i 0 := rfl
    have hg' : l.getD i 0 ≥ 0 := by simpa using hg
    refine Ev.step (fun k => ?_) hr
    rw [spec_l10Stock.l0, if_pos (by omega), if_pos (by omega), e0, if_neg (by omega), wrap_id _ (by omega) (by omega)]
theorem implStock_eq (l : List Int) : impl_isYarnStock.f l = some (okStock l) := by
  unfold impl_isYarnStock.f areAll_impl_isYarnStock_1.f okStock
  by_cases e : (l.length : Int) = 6
  · rw [if_pos e, beq_iff_eq.2 e, Bool.and_true]; rfl
  · rw [if_neg e, beq_eq_false_iff_ne.2 e, Bool.and_false]
def shortN (A B : List Int) (n : Nat) : List Int := ((List.range n).filter fun i => decide (B.getD i 0 < A.getD i 0)).map fun (i : Nat) => (i : Int)
theorem shortN_length (A B : List Int) (n : Nat) : (shortN A B n).length ≤ n := by
  unfold shortN
  rw [List.length_map]
  have := List.length_filter_le (fun i => decide (B.getD i 0 < A.getD i 0)) (List.range n)
  rwa [List.length_range] at this
theorem shortN_succ (A B : List Int) (n : Nat) : shortN A B (n + 1) = if B.getD n 0 < A.getD n 0 then shortN A B n ++ [(n : Int)] else shortN A B n := by
  unfold shortN
  rw [List.range_succ, List.filter_append, List.map_append]
  by_cases h : B.getD n 0 < A.getD n 0
  · rw [if_pos h, List.filter_cons_of_pos (by simpa using h)]
    rfl
  · rw [if_neg h, List.filter_cons_of_neg (by simpa using h)]
    simp
theorem shortN_pos (A B : List Int) (n : Nat) : 0 < (shortN A B n).length ↔ ∃ i, i < n ∧ B.getD i 0 < A.getD i 0 := by
  unfold shortN
  rw [List.length_map, List.length_pos_iff_exists_mem]
  constructor
  · rintro ⟨i, hi⟩
    rw [List.mem_filter, List.mem_range] at hi
    exact ⟨i, hi.1, by simpa using hi.2⟩
  · rintro ⟨i, h1, h2⟩
    exact ⟨i, by rw [List.mem_filter, List.mem_range]; exact ⟨h1, by simpa using h2⟩⟩
theorem implShort_ev (A B : List Int) (h : A.length ≤ B.length) (hl : A.length ≤ 2000000) : Ev (fun k => impl_short.f k A B) (shortN A B A.length) := by
  unfold impl_short.f
  obtain ⟨r, hr, h1⟩ := Ev.loopE (fun k i (s : List Int) => impl_short.l0 k B s A (A.length : Int) i) A.length (fun i s => s = shortN A B i) (fun r => r = shortN A B A.length)
    (fun s hs => ⟨s, hs, Ev.step (fun k => by rw [impl_short.l0, if_neg (by omega)]) (Ev.now _)⟩)
    (fun i s hi hs => by
      have e1 : rd A (i : Int) = A.getD i 0 := rfl
      have e2 : rd B (i : Int) = B.getD i 0 := rfl
      have hn := shortN_length A B i
      rw [← hs] at hn
      refine ⟨_, rfl, fun r h => Ev.step (fun k => ?_) h⟩
      rw [shortN_succ, ← hs, impl_short.l0, if_pos (by omega), if_pos (by omega), if_pos (by omega), if_pos (by omega), e1, e2]
      by_cases hg : B.getD i 0 < A.getD i 0
      · rw [if_pos hg, if_pos hg, if_pos (by omega), wrap_id _ (by omega) (by omega)]
      · rw [if_neg hg, if_neg hg, wrap_id _ (by omega) (by omega)]) [] rfl
  subst hr
  exact h1
theorem specShort_ev (A B : List Int) (h : A.length ≤ B.length) (hl : A.length ≤ 2000000) : Ev (fun k => spec_ShortColors.l0 k B [] A 0) (shortN A B A.length, true) := by
  obtain ⟨r, hr, h1⟩ := Ev.loopE (fun k i (s : List Int) => spec_ShortColors.l0 k B s A i) A.length (fun i s => s = shortN A B i) (fun r => r = (shortN A B A.length, true))
    (fun s hs => ⟨(s, true), by rw [hs], Ev.step (fun k => by rw [spec_ShortColors.l0, if_neg (by omega)]) (Ev.now _)⟩)
    (fun i s hi hs => by
      have e1 : rd A (i : Int) = A.getD i 0 := rfl
      have e2 : rd B (i : Int) = B.getD i 0 := rfl
      have hn := shortN_length A B i
      rw [← hs] at hn
      refine ⟨_, rfl, fun r h => Ev.step (fun k => ?_) h⟩
      rw [shortN_succ, ← hs, spec_ShortColors.l0, if_pos (by omega), if_pos (by omega), if_pos (by omega), e1, e2]
      by_cases hg : B.getD i 0 < A.getD i 0
      · rw [if_pos hg, if_pos hg, if_pos (by omega), wrap_id _ (by omega) (by omega)]
      · rw [if_neg hg, if_neg hg, wrap_id _ (by omega) (by omega)]) [] rfl
  subst hr
  exact h1
theorem Short_same (cw ch : Int) (cl : List Int) (p g w b : Int) (st : List Int) (hl : cl.length ≤ 2000000) (hl2 : st.length ≤ 2000000) : ∃ r : List Int × Bool, r.1.length ≤ 6 ∧ Ev (fun k => spec_ShortColors.f k cw ch cl p g w b st) r ∧ Ev (fun k => impl_ShortColors.f k cw ch cl p g w b st) r := by
  unfold spec_ShortColors.f impl_ShortColors.f
  simp only [IsChart_eq, IsYarn_eq, implStock_eq, Option.bind_some]
  have no1 : ∀ x, Ev (fun k => spec_ShortColors.j0 k st [] x true) ([], false) := fun x => Ev.step (fun k => by rw [spec_ShortColors.j0, if_pos rfl]) (Ev.now _)
  have no2 : Ev (fun k => impl_ShortColors.j0 k st true cw ch cl p g w b) ([], false) := Ev.step (fun k => by rw [impl_ShortColors.j0, if_pos rfl]) (Ev.now _)
  cases hh : (okChart cw ch cl && okYarn p g w b) with
  | false =>
    refine ⟨([], false), Nat.zero_le _, Ev.bind (specY_no cw ch cl p g w b hl hh) ?_, ?_⟩
    · simp only [Bool.false_eq_true, if_false]; exact no1 _
    · cases h1 : okChart cw ch cl with
      | true =>
        rw [h1, Bool.true_and] at hh
        simp only [hh, Bool.false_eq_true, if_false, if_true]; exact no2
      | false => simp only [Bool.false_eq_true, if_false]; exact no2
  | true =>
    have h1 := hh
    rw [Bool.and_eq_true] at h1
    obtain ⟨cs, h6, hb, hs, hi⟩ := counts_same cw ch cl h1.1
    have a1 := specY_ev cw ch cl p g w b h1.1 h1.2 cs h6 hs
    have a2 := yarns_ev p g w b cw ch cl 1 h1.2 h1.1 (by omega) (by omega) cs h6 hb hi
    simp only [Int.mul_one] at a2
    obtain ⟨ys, hys⟩ : ∃ ys, ys = cs.map (yarnV p g w) := ⟨_, rfl⟩
    have y6 : ys.length = 6 := by rw [hys, List.length_map, h6]
    rw [← hys] at a1
    have a2' : Ev (fun k => impl_Yarn_yarns.f k p g w b cw ch cl 1) ys := by rw [hys]; exact a2
    cases ht : okStock st with
    | false =>
      refine ⟨([], false), Nat.zero_le _, Ev.bind a1 ?_, ?_⟩
      · simp only [if_true]; exact Ev.bind (specStock_ev st hl2) (by rw [ht]; exact no1 _)
      · simp only [h1.1, h1.2, if_true]; exact no2
    | true =>
      obtain ⟨hs0, hs6⟩ := okStock_iff st ht
      have hn := shortN_length ys st ys.length
      refine ⟨(shortN ys st ys.length, true), by dsimp only; omega, Ev.bind a1 ?_, ?_⟩
      · simp only [if_true]
        refine Ev.bind (specStock_ev st hl2) ?_
        rw [ht]
        exact Ev.step (fun k => by rw [spec_ShortColors.j0, if_neg (by decide)]) (specShort_ev ys st (by omega) (by omega))
      · simp only [h1.1, h1.2, if_true]
        exact Ev.step (fun k => by rw [impl_ShortColors.j0, if_neg (by decide)]) (Ev.bind a2' (Ev.bind (implShort_ev ys st (by omega) (by omega)) (Ev.now (shortN ys st ys.length, true))))
theorem eqInts_ev (t : List Int) (ht : t.length ≤ 2000000) : Ev (fun k => laws_eqIntS.f k t t) true := by
  refine Ev.congr (f := fun k => laws_eqIntS.l0 k t t 0) (fun k => by unfold laws_eqIntS.f; rw [if_pos rfl]) ?_
  obtain ⟨r, hr, h⟩ := Ev.loopE (fun k i (_ : Unit) => laws_eqIntS.l0 k t t i) t.length (fun _ _ => True) (fun r => r = true)
    (fun s _ => ⟨true, rfl, Ev.step (fun k => by rw [laws_eqIntS.l0, if_neg (by omega)]) (Ev.now true)⟩)
    (fun i s hi _ => ⟨(), trivial, fun r h => Ev.step (fun k => by
      rw [laws_eqIntS.l0, if_pos (by omega), if_pos (by omega), if_pos (by omega), if_pos rfl, wrap_id _ (by omega) (by omega)]) h⟩) () trivial
  subst hr
  exact h
theorem eqChart_ev (w h : Int) (t : List Int) (hl : t.length ≤ 2000000) : Ev (fun k => laws_eqChart.f k w h t w h t) true := by
  unfold laws_eqChart.f
  simp only [if_true]
  exact Ev.bind (eqInts_ev t hl) (by simp only [if_true]; exact Ev.now _)
theorem held_ev (t : List Int) (ht : t.length ≤ 2000000) (h1 : ∀ j : Nat, j < t.length → t.getD j 0 = 1 + (j : Int)) : Ev (fun k => laws_heldIntS.f k t 1) (1 + (t.length : Int)) := by
  unfold laws_heldIntS.f
  obtain ⟨r, hr, h⟩ := Ev.loopE (fun k i (q : Int) => laws_heldIntS.l0 k t q i) t.length (fun i q => q = 1 + (i : Int)) (fun r => r = 1 + (t.length : Int))
    (fun s hs => ⟨s, hs, Ev.step (fun k => by rw [laws_heldIntS.l0, if_neg (by omega)]) (Ev.now s)⟩)
    (fun i s hi hs => ⟨s + 1, by omega, fun r h => Ev.step (fun k => by
      have hx : rd t (i : Int) = s := by rw [hs]; exact h1 i hi
      rw [laws_heldIntS.l0, if_pos (by omega), if_pos (by omega), if_pos hx, wrap_id _ (by omega) (by omega), wrap_id _ (by omega) (by omega)]) h⟩) 1 (by omega)
  subst hr
  exact h
theorem mark_ev (t : List Int) (ht : t.length ≤ 2000000) : ∃ t' : List Int, Ev (fun k => laws_markIntS.f k t 1) (1 + (t.length : Int), t') ∧ Ev (fun k => laws_heldIntS.f k t' 1) (1 + (t.length : Int)) := by
  unfold laws_markIntS.f
  obtain ⟨⟨m, t'⟩, ⟨hm, hl, hj⟩, h⟩ := Ev.loopE (fun k i (q : Int × List Int) => laws_markIntS.l0 k q.2 q.1 i) t.length
    (fun i q => q.1 = 1 + (i : Int) ∧ q.2.length = t.length ∧ ∀ j : Nat, j < i → q.2.getD j 0 = 1 + (j : Int)) (fun r => r.1 = 1 + (t.length : Int) ∧ r.2.length = t.length ∧ ∀ j : Nat, j < t.length → r.2.getD j 0 = 1 + (j : Int))
    (fun s hs => ⟨s, hs, Ev.step (fun k => by rw [laws_markIntS.l0, if_neg (by omega)]) (Ev.now s)⟩)
    (fun i s hi hs => ⟨(s.1 + 1, s.2.set i s.1), ⟨by have := hs.1; simp only; omega, by simp [hs.2.1], fun j hj => by
        have h2 := hs.2.1
        simp only [getD_set]
        by_cases e : i = j
        · subst e; rw [if_pos ⟨rfl, by omega⟩]; exact hs.1
        · rw [if_neg (fun h => e h.1)]; exact hs.2.2 j (by omega)⟩, fun r h => Ev.step (fun k => by
      have h1 := hs.1
      have h2 := hs.2.1
      rw [laws_markIntS.l0, if_pos (by omega), if_pos (by omega), wrap_id _ (by omega) (by omega), wrap_id _ (by omega) (by omega), Int.toNat_natCast]) h⟩) (1, t) ⟨by simp, rfl, fun j hj => absurd hj (by omega)⟩
  simp only at hm hl hj
  subst hm
  refine ⟨t', h, ?_⟩
  have := held_ev t' (by omega) (fun j hjj => hj j (by omega))
  rw [hl] at this
  exact this
theorem markChart_ev (w h : Int) (t : List Int) (hl : t.length ≤ 2000000) : ∃ (m : Int) (t' : List Int), 0 ≤ m ∧ Ev (fun k => laws_markChart.f k w h t 1) (m, t') := by
  obtain ⟨t', h1, _⟩ := mark_ev t hl
  exact ⟨1 + (t.length : Int), t', by omega, by unfold laws_markChart.f; exact Ev.bind h1 (Ev.now _)⟩
theorem markChart_evB (w h : Int) (t : List Int) (hl : t.length ≤ 2000000) : ∃ (t' : List Int), Ev (fun k => laws_markChart.f k w h t 1) (1 + (t.length : Int), t') := by
  obtain ⟨t', h1, _⟩ := mark_ev t hl
  exact ⟨t', by unfold laws_markChart.f; exact Ev.bind h1 (Ev.now _)⟩
theorem mark0_ev (t : List Int) (m0 : Int) (hm0 : 0 ≤ m0) (hm1 : m0 ≤ 4000000) (ht : t.length ≤ 2000000) : ∃ (m : Int) (t' : List Int), 0 ≤ m ∧ Ev (fun k => laws_markIntS.f k t m0) (m, t') := by
  unfold laws_markIntS.f
  obtain ⟨⟨m, t'⟩, hm, h⟩ := Ev.loopE (fun k i (q : Int × List Int) => laws_markIntS.l0 k q.2 q.1 i) t.length
    (fun i q => q.1 = m0 + (i : Int) ∧ q.2.length = t.length) (fun r => 0 ≤ r.1)
    (fun s hs => ⟨s, by omega, Ev.step (fun k => by rw [laws_markIntS.l0, if_neg (by omega)]) (Ev.now s)⟩)
    (fun i s hi hs => ⟨(s.1 + 1, s.2.set i s.1), ⟨by have := hs.1; simp only; omega, by simp [hs.2]⟩, fun r h => Ev.step (fun k => by
      have h1 := hs.1
      have h2 := hs.2
      rw [laws_markIntS.l0, if_pos (by omega), if_pos (by omega), wrap_id _ (by omega) (by omega), wrap_id _ (by omega) (by omega), Int.toNat_natCast]) h⟩) (m0, t) ⟨by simp, rfl⟩
  exact ⟨m, t', hm, h⟩
theorem FnExactShortColors (a0_0 : Int) (a0_1 : Int) (l0_2 : List (Int)) (a1_0 : Int) (a1_1 : Int) (a1_2 : Int) (a1_3 : Int) (l2 : List (Int)) (q_a0_0 : (Lit.int .i64 a0_0).wf = true) (q_a0_1 : (Lit.int .i64 a0_1).wf = true) (q_l0_2 : (l0_2.length ≤ maxLen ∧ ∀ q ∈ l0_2, (Lit.int .i64 q).wf = true)) (q_a1_0 : (Lit.int .i64 a1_0).wf = true) (q_a1_1 : (Lit.int .i64 a1_1).wf = true) (q_a1_2 : (Lit.int .i64 a1_2).wf = true) (q_a1_3 : (Lit.int .i64 a1_3).wf = true) (q_l2 : (l2.length ≤ maxLen ∧ ∀ q ∈ l2, (Lit.int .i64 q).wf = true)) : ∃ k, laws_FnExactShortColors.f k a0_0 a0_1 l0_2 a1_0 a1_1 a1_2 a1_3 l2 = some true := by
  by_cases hl2 : (l2.length : Int) > 1048576
  · refine ⟨0, ?_⟩
    unfold laws_FnExactShortColors.f
    rw [if_pos hl2]
  by_cases hl : (l0_2.length : Int) ≤ 1048576
  · obtain ⟨t, ht, K1, h1⟩ := toChart_ev a0_0 a0_1 l0_2 (by omega)
    obtain ⟨u, hu, K9, h9⟩ := toInts_ev l2 (by omega)
    obtain ⟨r, hr, ⟨K2, h2⟩, K3, h3⟩ := Short_same a0_0 a0_1 t a1_0 a1_1 a1_2 a1_3 u (by omega) (by omega)
    obtain ⟨K4, h4⟩ := eqChart_ev a0_0 a0_1 t (by omega)
    obtain ⟨t', K5, h5⟩ := markChart_evB a0_0 a0_1 t (by omega)
    obtain ⟨K10, h10⟩ := eqInts_ev u (by omega)
    obtain ⟨m, u', hm, K11, h11⟩ := mark0_ev u (1 + (t.length : Int)) (by omega) (by omega) (by omega)
    obtain ⟨K6, h6⟩ := eqInts_ev r.1 (by omega)
    obtain ⟨g', ⟨K7, h7⟩, K8, h8⟩ := mark_ev r.1 (by omega)
    obtain ⟨N, hN⟩ : ∃ N, N = K1 + K2 + K3 + K4 + K5 + K6 + K7 + K8 + K9 + K10 + K11 := ⟨_, rfl⟩
    replace h1 := fun j => h1 (N + j) (by omega)
    replace h2 := fun j => h2 (N + j) (by omega)
    replace h3 := fun j => h3 (N + j) (by omega)
    replace h4 := fun j => h4 (N + j) (by omega)
    replace h5 := fun j => h5 (N + j) (by omega)
    replace h6 := fun j => h6 (N + j) (by omega)
    replace h7 := fun j => h7 (N + j) (by omega)
    replace h8 := fun j => h8 (N + j) (by omega)
    replace h9 := fun j => h9 (N + j) (by omega)
    replace h10 := fun j => h10 (N + j) (by omega)
    replace h11 := fun j => h11 (N + j) (by omega)
    dsimp only at h1 h2 h3 h4 h5 h6 h7 h8 h9 h10 h11
    refine ⟨N + 4, ?_⟩
    have n1 : ¬ m < 0 := by omega
    have n2 : ¬ 1 + (r.1.length : Int) < 0 := by omega
    unfold laws_FnExactShortColors.f laws_toYarn.f
    rw [if_neg hl2, szChart2 a0_0 a0_1 l0_2 hl, Option.bind_some, if_neg (by omega)]
    simp only [h1, h2, h3, h4, h5, h6, h7, h8, h9, h10, h11, n1, n2, laws_FnExactShortColors.j0, laws_FnExactShortColors.j1, laws_FnExactShortColors.j2, laws_toYarn.f, Option.bind_some, if_true, if_false, bne_self_eq_false, Bool.false_eq_true]
  · refine ⟨0, ?_⟩
    unfold laws_FnExactShortColors.f
    rw [if_neg hl2, szChart1 a0_0 a0_1 l0_2 hl q_l0_2.1]
    rfl
end Go.Proofs.Ytnkecgldapagcaa.Pure
