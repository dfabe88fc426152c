/- The plain law of FnExactColorShare: what the program's functions compute is what the reference's compute. No program and no memory in it. -/
import Derived.Test.YtnkecgldapagcaaHx19
import Derived.Test.YtnkecgldapagcaaLps
namespace Go.Proofs.Ytnkecgldapagcaa.Pure
open Go.RowKit Go.Proofs.YtnkecgldapagcaaW.PrintWords Go.Proofs.YtnkecgldapagcaaW.PrintLast Go.Proofs.Ytnkecgldapagcaa.H
set_option linter.unusedVariables false
set_option linter.unusedSimpArgs false
theorem l1In_eq (a b c : Int) : spec_l1In.f a b c = some (rng a b c) := spec_l1In.eq a b c
theorem in_eq (a b c : Int) : impl_in.f a b c = some (rng a b c) := impl_in.eq a b c
theorem ext_getD {α : Type} (z : α) (a b : List α) (hl : a.length = b.length) (h : ∀ j, j < a.length → a.getD j z = b.getD j z) : a = b := by
  apply List.ext_getElem hl
  intro j h1 h2
  have := h j h1
  rwa [List.getD_eq_getElem?_getD, List.getD_eq_getElem?_getD, List.getElem?_eq_getElem h1, List.getElem?_eq_getElem h2] at this
theorem take_succ_getD {α : Type} (z : α) (a : List α) (i : Nat) (h : i < a.length) : a.take (i + 1) = a.take i ++ [a.getD i z] := by
  rw [List.take_succ_eq_append_getElem h, List.getD_eq_getElem?_getD, List.getElem?_eq_getElem h]
  rfl
theorem getD_map' {α β : Type} (f : α → β) (z : α) (y : β) (a : List α) (i : Nat) (h : i < a.length) : (a.map f).getD i y = f (a.getD i z) := by
  rw [List.getD_eq_getElem?_getD, List.getElem?_map, List.getD_eq_getElem?_getD, List.getElem?_eq_getElem h]
  rfl
theorem set_mid {α : Type} (f : α → α) (z : α) (a : List α) (i : Nat) (h : i < a.length) : ((a.take i).map f ++ a.drop i).set i (f (a.getD i z)) = (a.take (i + 1)).map f ++ a.drop (i + 1) := by
  have e : a.drop i = a.getD i z :: a.drop (i + 1) := by
    rw [List.drop_eq_getElem_cons h, List.getD_eq_getElem?_getD, List.getElem?_eq_getElem h]
    rfl
  rw [e, take_succ_getD z a i h, List.map_append, List.append_assoc]
  have hl : ((a.take i).map f).length = i := by rw [List.length_map, List.length_take]; omega
  rw [List.set_append_right _ _ (by omega), hl, Nat.sub_self]
  rfl
theorem mid_getD {α : Type} (f : α → α) (z : α) (a : List α) (i : Nat) (h : i < a.length) : ((a.take i).map f ++ a.drop i).getD i z = a.getD i z := by
  have hl : ((a.take i).map f).length = i := by rw [List.length_map, List.length_take]; omega
  rw [List.getD_eq_getElem?_getD, List.getElem?_append_right (by omega), hl, Nat.sub_self, List.getElem?_drop, Nat.add_zero, List.getD_eq_getElem?_getD]
theorem mid_length {α : Type} (f : α → α) (a : List α) (i : Nat) : ((a.take i).map f ++ a.drop i).length = a.length := by
  rw [List.length_append, List.length_map, List.length_take, List.length_drop]; omega
def okChart (w h : Int) (l : List Int) : Bool := (l.all fun x => rng x 0 5) && (rng w 1 8 && (rng h 1 8 && ((l.length : Int) == wrap64 (w * h))))
theorem okChart_iff (w h : Int) (l : List Int) (hk : okChart w h l = true) : (∀ i, i < l.length → 0 ≤ l.getD i 0 ∧ l.getD i 0 ≤ 5) ∧ (1 ≤ w ∧ w ≤ 8) ∧ (1 ≤ h ∧ h ≤ 8) ∧ (l.length : Int) = w * h ∧ l.length ≤ 64 := by
  unfold okChart at hk
  simp only [Bool.and_eq_true, rng_iff, beq_iff_eq] at hk
  obtain ⟨h1, h2, h3, h4⟩ := hk
  have p0 : 0 ≤ w * h := Int.mul_nonneg (by omega) (by omega)
  have p1 : w * h ≤ 8 * 8 := Int.mul_le_mul h2.2 h3.2 (by omega) (by omega)
  rw [wrap_id _ (by omega) (by omega)] at h4
  refine ⟨fun i hi => ?_, h2, h3, h4, by omega⟩
  have := (all_getD 0 l _).1 h1 i hi
  exact (rng_iff _ _ _).1 this
theorem l2Good_ev (w h : Int) (l : List Int) (hl : l.length ≤ 2000000) : Ev (fun k => spec_l2Good.f k w h l) (okChart w h l) := by
  unfold spec_l2Good.f
  have e : okChart w h l = ((List.range l.length).all (fun i => rng (l.getD i 0) 0 5) && (rng w 1 8 && (rng h 1 8 && ((l.length : Int) == wrap64 (w * h))))) := by
    unfold okChart
    congr 1
    rw [Bool.eq_iff_iff, all_getD 0, all_range]
  rw [e]
  refine Ev.scan (fun k i => spec_l2Good.l0 k i w h l) l.length _ _ (Ev.step (f := fun _ => some _) (fun k => ?_) (Ev.now _)) ?_ ?_
  · rw [spec_l2Good.l0, if_neg (by omega)]
    unfold spec_l2Side.f
    simp only [l1In_eq, Option.bind_some]
    cases rng w 1 8 <;> cases rng h 1 8 <;> rfl
  · intro i hi hg
    refine Ev.step (f := fun _ => some false) (fun k => ?_) (Ev.now _)
    rw [spec_l2Good.l0, if_pos (by omega), if_pos (by omega)]
    unfold spec_l2Color.f
    have e0 : rd l (i : Int) = l.getD i 0 := rfl
    rw [l1In_eq, e0, hg]
    rfl
  · intro i r hi hg hr
    refine Ev.step (fun k => ?_) hr
    rw [spec_l2Good.l0, if_pos (by omega), if_pos (by omega)]
    unfold spec_l2Color.f
    have e0 : rd l (i : Int) = l.getD i 0 := rfl
    rw [l1In_eq, e0, hg, wrap_id _ (by omega) (by omega)]
    rfl
theorem IsChart_eq (w h : Int) (l : List Int) : impl_IsChart.f w h l = some (okChart w h l) := by
  unfold impl_IsChart.f impl_isSide.f areAll_impl_isColor.f okChart
  simp only [in_eq, Option.bind_some]
  by_cases e : (l.length : Int) = wrap64 (w * h)
  · rw [if_pos e, beq_iff_eq.2 e]
    cases rng w 1 8 <;> cases rng h 1 8 <;> simp
  · rw [if_neg e, beq_eq_false_iff_ne.2 e]
    cases rng w 1 8 <;> cases rng h 1 8 <;> simp
theorem szChart1 (w h : Int) (l : List Int) (hk : ¬ (l.length : Int) ≤ 1048576) (hm : l.length ≤ maxLen) : laws_szChart.f w h l 1048576 = some (-1) := by
  have hm' : l.length ≤ 9223372036854775807 := hm
  unfold laws_szChart.f laws_szIntS.f
  rw [wrap_id _ (by omega) (by omega), if_pos (by omega)]
  rfl
theorem szChart2 (w h : Int) (l : List Int) (hk : (l.length : Int) ≤ 1048576) : laws_szChart.f w h l 1048576 = some (1048576 - (l.length : Int)) := by
  unfold laws_szChart.f laws_szIntS.f
  rw [wrap_id _ (by omega) (by omega), if_neg (by omega), Option.bind_some, if_neg (by omega)]
theorem toInts_ev (l : List Int) (hl : l.length ≤ 2000000) : ∃ t : List Int, t.length = l.length ∧ Ev (fun k => laws_toIntS.f k l) t := by
  obtain ⟨r, hr, h⟩ := Ev.loopE (fun k i (s : List Int) => laws_toIntS.l0 k l s i) l.length (fun _ s => s.length = l.length) (fun r => r.length = l.length)
    (fun s hs => ⟨s, hs, Ev.step (fun k => by rw [laws_toIntS.l0, if_neg (by omega)]) (Ev.now s)⟩)
    (fun i s hi hs => ⟨s.set i (rd l i), by simp [hs], fun r h => Ev.step (fun k => by
      rw [laws_toIntS.l0, if_pos (by omega), if_pos (by omega), if_pos (by omega), wrap_id _ (by omega) (by omega), Int.toNat_natCast]) h⟩) (List.replicate l.length 0) (by simp)
  refine ⟨r, hr, Ev.congr (fun k => ?_) h⟩
  unfold laws_toIntS.f
  rw [if_pos (by omega), if_pos (by omega), Int.toNat_natCast]
theorem toChart_ev (w h : Int) (l : List Int) (hl : l.length ≤ 2000000) : ∃ t : List Int, t.length = l.length ∧ Ev (fun k => laws_toChart.f k w h l) (w, h, t) := by
  obtain ⟨t, ht, hv⟩ := toInts_ev l hl
  exact ⟨t, ht, by unfold laws_toChart.f; exact Ev.bind hv (Ev.now _)⟩
def cntN (l : List Int) : Nat → List Int
  | 0 => List.replicate 6 0
  | i + 1 => (cntN l i).set (l.getD i 0).toNat ((cntN l i).getD (l.getD i 0).toNat 0 + 1)
theorem cntN_length (l : List Int) (i : Nat) : (cntN l i).length = 6 := by
  induction i with
  | zero => simp [cntN]
  | succ i ih => simp [cntN, ih]
theorem cntN_bd (l : List Int) (i j : Nat) : 0 ≤ (cntN l i).getD j 0 ∧ (cntN l i).getD j 0 ≤ (i : Int) := by
  induction i generalizing j with
  | zero =>
    rw [cntN, List.getD_eq_getElem?_getD, List.getElem?_replicate]
    split <;> simp
  | succ i ih =>
    have h1 := ih j
    have h2 := ih (l.getD i 0).toNat
    rw [cntN, getD_set]
    split <;> omega
theorem cnt_spec (w h : Int) (l : List Int) (hk : okChart w h l = true) : Ev (fun k => spec_CountColors.l0 k (List.replicate 6 0) 0 w h l) (cntN l l.length, true) := by
  obtain ⟨hc, hw, hh, hlen, h64⟩ := okChart_iff w h l hk
  obtain ⟨r, hr, h1⟩ := Ev.loopE (fun k i (s : List Int) => spec_CountColors.l0 k s i w h l) l.length (fun i s => s = cntN l i) (fun r => r = (cntN l l.length, true))
    (fun s hs => ⟨(s, true), by rw [hs], Ev.step (fun k => by rw [spec_CountColors.l0, if_neg (by omega)]) (Ev.now _)⟩)
    (fun i s hi hs => by
      refine ⟨_, rfl, fun r h => Ev.step (fun k => ?_) h⟩
      have hcb := hc i hi
      have hsl : s.length = 6 := by rw [hs]; exact cntN_length l i
      have hb := cntN_bd l i (l.getD i 0).toNat
      have e0 : rd l (i : Int) = l.getD i 0 := rfl
      have e1 : rd s (l.getD i 0) = s.getD (l.getD i 0).toNat 0 := rfl
      rw [← hs] at hb
      rw [spec_CountColors.l0, if_pos (by omega), if_pos (by omega), e0, if_pos (by omega), if_pos (by omega), e1, wrap_id _ (by omega) (by omega), wrap_id _ (by omega) (by omega), cntN, ← hs]) (List.replicate 6 0) rfl
  subst hr
  exact h1
theorem cnt_impl (w h : Int) (l : List Int) (hk : okChart w h l = true) : Ev (fun k => impl_Chart_colors.l0 k (List.replicate 6 0) l (l.length : Int) 0) (cntN l l.length) := by
  obtain ⟨hc, hw, hh, hlen, h64⟩ := okChart_iff w h l hk
  obtain ⟨r, hr, h1⟩ := Ev.loopE (fun k i (s : List Int) => impl_Chart_colors.l0 k s l (l.length : Int) i) l.length (fun i s => s = cntN l i) (fun r => r = cntN l l.length)
    (fun s hs => ⟨s, hs, Ev.step (fun k => by rw [impl_Chart_colors.l0, if_neg (by omega)]) (Ev.now _)⟩)
    (fun i s hi hs => by
      refine ⟨_, rfl, fun r h => Ev.step (fun k => ?_) h⟩
      have hcb := hc i hi
      have hsl : s.length = 6 := by rw [hs]; exact cntN_length l i
      have hb := cntN_bd l i (l.getD i 0).toNat
      have e0 : rd l (i : Int) = l.getD i 0 := rfl
      have e1 : rd s (l.getD i 0) = s.getD (l.getD i 0).toNat 0 := rfl
      rw [← hs] at hb
      rw [impl_Chart_colors.l0, if_pos (by omega), if_pos (by omega), if_pos (by omega), e0, if_pos (by omega), if_pos (by omega), e1, wrap_id _ (by omega) (by omega), wrap_id _ (by omega) (by omega), cntN, ← hs]) (List.replicate 6 0) rfl
  subst hr
  exact h1
theorem counts_same (w h : Int) (l : List Int) (hk : okChart w h l = true) : ∃ cs : List Int, cs.length = 6 ∧ (∀ j, 0 ≤ cs.getD j 0 ∧ cs.getD j 0 ≤ 64) ∧ Ev (fun k => spec_l10Counts.f k w h l) cs ∧ Ev (fun k => impl_Chart_colors.f k w h l) cs := by
  obtain ⟨hc, hw, hh, hlen, h64⟩ := okChart_iff w h l hk
  refine ⟨cntN l l.length, cntN_length _ _, fun j => by have := cntN_bd l l.length j; omega, ?_, ?_⟩
  · have h2 : Ev (fun k => spec_CountColors.f k w h l) (cntN l l.length, true) := by
      unfold spec_CountColors.f
      refine Ev.bind (l2Good_ev w h l (by omega)) ?_
      simp only [hk, if_true, if_pos (show 6 ≤ 35184372088832 by omega)]
      exact cnt_spec w h l hk
    unfold spec_l10Counts.f
    exact Ev.bind h2 (Ev.now _)
  · unfold impl_Chart_colors.f
    simp only [if_pos (show 6 ≤ 35184372088832 by omega)]
    exact cnt_impl w h l hk
theorem share_most (n : Int) (h : 0 ≤ n ∧ n ≤ 100) : spec_l1Most.f n (wrap64 (-n)) = some n := by
  unfold spec_l1Most.f
  rw [wrap_id (-n) (by omega) (by omega)]
  by_cases c : n > -n
  · rw [if_pos c]
  · rw [if_neg c]
    exact congrArg some (by omega)
theorem share_abs (n : Int) (h : 0 ≤ n ∧ n ≤ 100) : impl_abs.f n = some n := by
  unfold impl_abs.f
  rw [wrap_id (-n) (by omega) (by omega)]
  have e : mx n (-n) = n := by unfold mx; split <;> omega
  first
  | rw [e]
  | (simp only [e, Option.bind_some])
theorem share_gcd (d : Nat) : ∀ (b : Nat) (a : Int), b ≤ d → 0 ≤ a → 0 < a + (b : Int) → ∃ g : Int, 0 < g ∧ Ev (fun k => impl_gcd.l0 k a (b : Int)) g ∧ ∀ n m : Int, Ev (fun k => spec_l2Reduce.l0 k n m a (b : Int)) (wrap64 (Int.tdiv n g), wrap64 (Int.tdiv m g)) := by
  induction d with
  | zero =>
    intro b a hb ha h
    have e : b = 0 := by omega
    subst e
    exact ⟨a, by omega, Ev.step (f := fun _ => some a) (fun k => by rw [impl_gcd.l0, if_pos (by omega)]) (Ev.now _), fun n m => Ev.step (f := fun _ => some (wrap64 (Int.tdiv n a), wrap64 (Int.tdiv m a))) (fun k => by rw [spec_l2Reduce.l0, if_pos (by omega), if_neg (by omega)]) (Ev.now _)⟩
  | succ d ih =>
    intro b a hb ha h
    by_cases c : b = 0
    · subst c
      exact ⟨a, by omega, Ev.step (f := fun _ => some a) (fun k => by rw [impl_gcd.l0, if_pos (by omega)]) (Ev.now _), fun n m => Ev.step (f := fun _ => some (wrap64 (Int.tdiv n a), wrap64 (Int.tdiv m a))) (fun k => by rw [spec_l2Reduce.l0, if_pos (by omega), if_neg (by omega)]) (Ev.now _)⟩
    · have h0 : 0 ≤ Int.tmod a (b : Int) := Int.tmod_nonneg _ ha
      have h1 : Int.tmod a (b : Int) < (b : Int) := Int.tmod_lt_of_pos _ (by omega)
      obtain ⟨g, hg, h2, h3⟩ := ih (Int.tmod a (b : Int)).toNat (b : Int) (by omega) (by omega) (by omega)
      rw [Int.toNat_of_nonneg h0] at h2 h3
      exact ⟨g, hg, Ev.step (fun k => by rw [impl_gcd.l0, if_neg (by omega)]) h2, fun n m => Ev.step (fun k => by rw [spec_l2Reduce.l0, if_neg (by omega)]) (h3 n m)⟩
theorem ColorShare_same (cw ch : Int) (cl : List Int) (c : Int) (hl : cl.length ≤ 2000000) : ∃ r : Int × Int × Bool, Ev (fun k => spec_ColorShare.f k cw ch cl c) r ∧ Ev (fun k => impl_ColorShare.f k cw ch cl c) r := by
  unfold spec_ColorShare.f impl_ColorShare.f
  have no1 : Ev (fun k => spec_ColorShare.j0 k c true cw ch cl) (0, 0, false) := Ev.step (fun k => by rw [spec_ColorShare.j0, if_pos rfl]) (Ev.now _)
  have no2 : Ev (fun k => impl_ColorShare.j0 k c true cw ch cl) (0, 0, false) := Ev.step (fun k => by rw [impl_ColorShare.j0, if_pos rfl]) (Ev.now _)
  have e1 : spec_l2Color.f c = some (rng c 0 5) := by unfold spec_l2Color.f; rw [l1In_eq]; rfl
  have e2 : impl_isColor.f c = some (rng c 0 5) := by unfold impl_isColor.f; rw [in_eq]; rfl
  cases hk : okChart cw ch cl with
  | false =>
    refine ⟨(0, 0, false), Ev.bind (l2Good_ev cw ch cl hl) ?_, ?_⟩
    · simp only [hk, Bool.false_eq_true, if_false]; exact no1
    · simp only [IsChart_eq, hk, Bool.false_eq_true, if_false, Option.bind_some]; exact no2
  | true =>
    cases hc : rng c 0 5 with
    | false =>
      refine ⟨(0, 0, false), Ev.bind (l2Good_ev cw ch cl hl) ?_, ?_⟩
      · simp only [hk, if_true, e1, hc, Option.bind_some, Bool.not_false]; exact no1
      · simp only [IsChart_eq, hk, if_true, Option.bind_some, e2, hc, Bool.not_false]; exact no2
    | true =>
      have hcr := (rng_iff _ _ _).1 hc
      obtain ⟨cs, h6, hb, hs, hi⟩ := counts_same cw ch cl hk
      obtain ⟨_, hw, hh, hlen, h64⟩ := okChart_iff cw ch cl hk
      have hpos : 0 < cw * ch := Int.mul_pos (by omega) (by omega)
      have e3 : rd cs c = cs.getD c.toNat 0 := rfl
      have hn := hb c.toNat
      rw [← e3] at hn
      obtain ⟨g, hg, h2, h3⟩ := share_gcd cl.length cl.length (rd cs c) (Nat.le_refl _) hn.1 (by omega)
      refine ⟨(wrap64 (Int.tdiv (rd cs c) g), wrap64 (Int.tdiv (cl.length : Int) g), true), Ev.bind (l2Good_ev cw ch cl hl) ?_, ?_⟩
      · simp only [hk, if_true, e1, hc, Option.bind_some, Bool.not_true]
        refine Ev.step (fun k => by rw [spec_ColorShare.j0, if_neg (by decide)]) (Ev.bind hs ?_)
        simp only [if_pos (show 0 ≤ c by omega), if_pos (show c < (cs.length : Int) by omega)]
        have h4 : Ev (fun k => spec_l2Reduce.f k (rd cs c) (cl.length : Int)) (wrap64 (Int.tdiv (rd cs c) g), wrap64 (Int.tdiv (cl.length : Int) g)) := by
          unfold spec_l2Reduce.f
          simp only [share_most (rd cs c) ⟨hn.1, by omega⟩, Option.bind_some]
          exact h3 _ _
        exact Ev.bind h4 (Ev.now _)
      · simp only [IsChart_eq, hk, if_true, Option.bind_some, e2, hc, Bool.not_true]
        refine Ev.step (fun k => by rw [impl_ColorShare.j0, if_neg (by decide)]) (Ev.bind hi ?_)
        simp only [if_pos (show 0 ≤ c by omega), if_pos (show c < (cs.length : Int) by omega)]
        have h4 : Ev (fun k => impl_fraction.f k (rd cs c) (cl.length : Int)) (wrap64 (Int.tdiv (rd cs c) g), wrap64 (Int.tdiv (cl.length : Int) g)) := by
          unfold impl_fraction.f impl_gcd.f
          simp only [share_abs (rd cs c) ⟨hn.1, by omega⟩, Option.bind_some]
          refine Ev.bind h2 ?_
          simp only [if_neg (show ¬ g = 0 by omega)]
          exact Ev.now _
        exact Ev.bind h4 (Ev.now _)
theorem eqInts_ev (t : List Int) (ht : t.length ≤ 2000000) : Ev (fun k => laws_eqIntS.f k t t) true := by
  refine Ev.congr (f := fun k => laws_eqIntS.l0 k t t 0) (fun k => by unfold laws_eqIntS.f; rw [if_pos rfl]) ?_
  obtain ⟨r, hr, h⟩ := Ev.loopE (fun k i (_ : Unit) => laws_eqIntS.l0 k t t i) t.length (fun _ _ => True) (fun r => r = true)
    (fun s _ => ⟨true, rfl, Ev.step (fun k => by rw [laws_eqIntS.l0, if_neg (by omega)]) (Ev.now true)⟩)
    (fun i s hi _ => ⟨(), trivial, fun r h => Ev.step (fun k => by
      rw [laws_eqIntS.l0, if_pos (by omega), if_pos (by omega), if_pos (by omega), if_pos rfl, wrap_id _ (by omega) (by omega)]) h⟩) () trivial
  subst hr
  exact h
theorem eqChart_ev (w h : Int) (t : List Int) (hl : t.length ≤ 2000000) : Ev (fun k => laws_eqChart.f k w h t w h t) true := by
  unfold laws_eqChart.f
  simp only [if_true]
  exact Ev.bind (eqInts_ev t hl) (by simp only [if_true]; exact Ev.now _)
theorem FnExactColorShare (a0_0 : Int) (a0_1 : Int) (l0_2 : List (Int)) (a1 : Int) (q_a0_0 : (Lit.int .i64 a0_0).wf = true) (q_a0_1 : (Lit.int .i64 a0_1).wf = true) (q_l0_2 : (l0_2.length ≤ maxLen ∧ ∀ q ∈ l0_2, (Lit.int .i64 q).wf = true)) (q_a1 : (Lit.int .i64 a1).wf = true) : ∃ k, laws_FnExactColorShare.f k a0_0 a0_1 l0_2 a1 = some true := by
  by_cases hl : (l0_2.length : Int) ≤ 1048576
  · obtain ⟨t, ht, K1, h1⟩ := toChart_ev a0_0 a0_1 l0_2 (by omega)
    obtain ⟨r, ⟨K2, h2⟩, K3, h3⟩ := ColorShare_same a0_0 a0_1 t a1 (by omega)
    obtain ⟨K4, h4⟩ := eqChart_ev a0_0 a0_1 t (by omega)
    obtain ⟨N, hN⟩ : ∃ N, N = K1 + K2 + K3 + K4 := ⟨_, rfl⟩
    replace h1 := h1 N (by omega)
    replace h2 := h2 N (by omega)
    replace h3 := h3 N (by omega)
    replace h4 := h4 N (by omega)
    dsimp only at h1 h2 h3 h4
    refine ⟨N, ?_⟩
    unfold laws_FnExactColorShare.f
    rw [szChart2 a0_0 a0_1 l0_2 hl, Option.bind_some, if_neg (by omega)]
    simp only [h1, h2, h3, h4, Option.bind_some, if_true, if_false, bne_self_eq_false, Bool.false_eq_true]
  · refine ⟨0, ?_⟩
    unfold laws_FnExactColorShare.f
    rw [szChart1 a0_0 a0_1 l0_2 hl q_l0_2.1]
    rfl
end Go.Proofs.Ytnkecgldapagcaa.Pure
