/- The plain law of FnExactKnotsForWage: what the program's functions compute is what the reference's compute. No program and no memory in it. -/
import Derived.Test.YtccpiiladdiocaaHx5
import Derived.Test.YtccpiiladdiocaaLps
namespace Go.Proofs.Ytccpiiladdiocaa.Pure
open Go.RowKit Go.Proofs.YtccpiiladdiocaaW.PrintWords Go.Proofs.YtccpiiladdiocaaW.PrintLast Go.Proofs.Ytccpiiladdiocaa.H
set_option linter.unusedVariables false
set_option linter.unusedSimpArgs false
theorem l1In_eq (a b c : Int) : spec_l1In.f a b c = some (rng a b c) := spec_l1In.eq a b c
theorem in_eq (a b c : Int) : impl_in.f a b c = some (rng a b c) := impl_in.eq a b c
def okRates (a b c d e : Int) : Bool := rng a 0 10000 && (rng b 0 10000 && (rng c 0 10000 && (rng d 0 10000 && rng e 0 10000)))
theorem okRates_iff (a b c d e : Int) : okRates a b c d e = true ↔ (0 ≤ a ∧ a ≤ 10000) ∧ (0 ≤ b ∧ b ≤ 10000) ∧ (0 ≤ c ∧ c ≤ 10000) ∧ (0 ≤ d ∧ d ≤ 10000) ∧ 0 ≤ e ∧ e ≤ 10000 := by
  simp only [okRates, Bool.and_eq_true, rng_iff]
theorem l14Rates_eq (a b c d e : Int) : spec_l14Rates.f a b c d e = some (okRates a b c d e) := by
  unfold spec_l14Rates.f spec_l14Cents.f okRates
  simp only [l1In_eq, Option.bind_some]
  cases rng a 0 10000 <;> cases rng b 0 10000 <;> cases rng c 0 10000 <;> cases rng d 0 10000 <;> cases rng e 0 10000 <;> rfl
theorem AreRates_eq (a b c d e : Int) : impl_AreRates.f a b c d e = some (okRates a b c d e) := by
  unfold impl_AreRates.f impl_AreRates_1.f okRates
  simp only [in_eq, Option.bind_some, Option.getD_some, List.all_cons, List.all_nil, Bool.and_true]
theorem wage_same (a b c d e f g h i j : Int) : spec_l14Wage.f a b c d e f g h i j = impl_Rates_wage.f a b c d e f g h i j := by
  unfold spec_l14Wage.f impl_Rates_wage.f impl_WorkSheet_right.f spec_l1Most.f
  simp only [Option.bind_some]
  have hm : ∀ x y : Int, (if x > y then some x else some y) = some (mx y x) := fun x y => by unfold mx; split <;> congr 1 <;> omega
  simp only [hm, Option.bind_some]
theorem wage_some (a b c d e f g h i j : Int) : ∃ v, impl_Rates_wage.f a b c d e f g h i j = some v := by
  unfold impl_Rates_wage.f impl_WorkSheet_right.f
  simp only [Option.bind_some]
  split <;> exact ⟨_, rfl⟩
theorem least {P : Nat → Prop} : ∀ N, P N → ∃ m, m ≤ N ∧ P m ∧ ∀ n, n < m → ¬ P n := by
  intro N
  induction N using Nat.strongRecOn with
  | _ N ih =>
    intro h
    by_cases hx : ∃ n, n < N ∧ P n
    · obtain ⟨n, hn, hp⟩ := hx
      obtain ⟨m, h1, h2, h3⟩ := ih n hn hp
      exact ⟨m, by omega, h2, h3⟩
    · exact ⟨N, Nat.le_refl _, h, fun n hn hp => hx ⟨n, hn, hp⟩⟩
def wageN (a c d n : Int) : Int := mx (a * n / 1000 + (if n ≥ 8000 then d else 0)) c
theorem wageN_eq (a b c d e n : Int) (h : okRates a b c d e = true) (h0 : 0 ≤ n) (h1 : n ≤ 12000) : impl_Rates_wage.f a b c d e 0 0 n 0 0 = some (wageN a c d n) := by
  obtain ⟨ha, hb, hc, hd, he⟩ := (okRates_iff _ _ _ _ _).1 h
  unfold impl_Rates_wage.f impl_WorkSheet_right.f wageN
  have p0 : 0 ≤ a * n := Int.mul_nonneg ha.1 h0
  have p1 : a * n ≤ 10000 * 12000 := Int.mul_le_mul ha.2 h1 h0 (by omega)
  simp only [Option.bind_some, Int.sub_zero]
  have z1 : Int.tdiv 0 100 = 0 := by decide
  rw [z1, wrap_id n (by omega) (by omega), wrap_id (a * n) (by omega) (by omega), Int.mul_zero, wrap_id 0 (by omega) (by omega), Int.mul_zero, wrap_id 0 (by omega) (by omega)]
  rw [Int.tdiv_eq_ediv_of_nonneg p0]
  have q0 : 0 ≤ a * n / 1000 := by omega
  have q1 : a * n / 1000 ≤ 120000 := by omega
  rw [wrap_id (a * n / 1000) (by omega) (by omega), Int.add_zero, wrap_id (a * n / 1000) (by omega) (by omega), Int.sub_zero, wrap_id (a * n / 1000) (by omega) (by omega), wrap_id (a * n / 1000 + d) (by omega) (by omega)]
  by_cases h8 : n ≥ 8000
  · rw [if_pos h8, if_pos h8]
  · rw [if_neg h8, if_neg h8, Int.add_zero]
theorem wageN_mono (a c d n m : Int) (ha : 0 ≤ a) (hd : 0 ≤ d) (h : n ≤ m) : wageN a c d n ≤ wageN a c d m := by
  unfold wageN
  have h1 : a * n ≤ a * m := Int.mul_le_mul_of_nonneg_left h ha
  have h2 : a * n / 1000 ≤ a * m / 1000 := Int.ediv_le_ediv (by omega) h1
  have h3 : (if n ≥ 8000 then d else 0) ≤ (if m ≥ 8000 then d else 0) := by split <;> split <;> omega
  unfold mx
  split <;> split <;> omega
theorem knots_bin (a b c d e q : Int) (h : okRates a b c d e = true) (m : Int) (hm0 : 0 ≤ m) (hm1 : m ≤ 12000) (hm : wageN a c d m ≥ q) (hl : ∀ n, 0 ≤ n → n < m → wageN a c d n < q) :
    ∀ (f : Nat) (lo hi : Int), hi - lo ≤ f → 0 ≤ lo → lo ≤ m → m ≤ hi → hi ≤ 12000 → Ev (fun k => spec_KnotsForWage.l0 k q lo hi a b c d e) (m, true) := by
  obtain ⟨ha, hb, hc, hd, he⟩ := (okRates_iff _ _ _ _ _).1 h
  intro f
  induction f with
  | zero =>
    intro lo hi h1 h2 h3 h4 h5
    have : lo = m := by omega
    subst this
    exact Ev.step (fun k => by rw [spec_KnotsForWage.l0, if_neg (by omega)]) (Ev.now _)
  | succ f ih =>
    intro lo hi h1 h2 h3 h4 h5
    by_cases hlt : lo < hi
    · obtain ⟨x, hx⟩ : ∃ x, x = (lo + hi) / 2 := ⟨_, rfl⟩
      have e1 : wrap64 (Int.tdiv (wrap64 (lo + hi)) 2) = x := by
        rw [wrap_id (lo + hi) (by omega) (by omega), Int.tdiv_eq_ediv_of_nonneg (by omega), ← hx, wrap_id _ (by omega) (by omega)]
      have e2 : wrap64 (x + 1) = x + 1 := wrap_id _ (by omega) (by omega)
      by_cases hq : wageN a c d x ≥ q
      · have hmx : m ≤ x := by
          rcases Int.lt_or_le x m with h6 | h6
          · have := hl x (by omega) h6
            omega
          · exact h6
        exact Ev.step (fun k => by rw [spec_KnotsForWage.l0, if_pos hlt, e1, wage_same, wageN_eq a b c d e x h (by omega) (by omega), Option.bind_some, if_pos hq]) (ih lo x (by omega) h2 h3 hmx (by omega))
      · have hmx : x + 1 ≤ m := by
          rcases Int.lt_or_le x m with h6 | h6
          · omega
          · have := wageN_mono a c d m x ha.1 hd.1 h6
            omega
        exact Ev.step (fun k => by rw [spec_KnotsForWage.l0, if_pos hlt, e1, wage_same, wageN_eq a b c d e x h (by omega) (by omega), Option.bind_some, if_neg hq, e2]) (ih (x + 1) hi (by omega) (by omega) hmx h4 h5)
    · have : lo = m := by omega
      subst this
      exact Ev.step (fun k => by rw [spec_KnotsForWage.l0, if_neg hlt]) (Ev.now _)
theorem knots_lin (a b c d e q : Int) (h : okRates a b c d e = true) (m : Int) (hm1 : m ≤ 12000) (hm : wageN a c d m ≥ q) (hl : ∀ n, 0 ≤ n → n < m → wageN a c d n < q) :
    ∀ (f : Nat) (i : Int), m - i = f → 0 ≤ i → Ev (fun k => impl_KnotsForWage.l0 k q i a b c d e) (m, true) := by
  intro f
  induction f with
  | zero =>
    intro i h1 h2
    have : i = m := by omega
    subst this
    exact Ev.step (fun k => by rw [impl_KnotsForWage.l0, if_pos (by omega), wageN_eq a b c d e i h (by omega) (by omega), Option.bind_some, if_pos hm]) (Ev.now _)
  | succ f ih =>
    intro i h1 h2
    have h3 := hl i h2 (by omega)
    exact Ev.step (fun k => by rw [impl_KnotsForWage.l0, if_pos (by omega), wageN_eq a b c d e i h (by omega) (by omega), Option.bind_some, if_neg (by omega), wrap_id _ (by omega) (by omega)]) (ih (i + 1) (by omega) (by omega))
theorem knots_none (a b c d e q : Int) (h : okRates a b c d e = true) (hl : ∀ n, 0 ≤ n → n ≤ 12000 → wageN a c d n < q) :
    ∀ (f : Nat) (i : Int), 12001 - i = f → 0 ≤ i → Ev (fun k => impl_KnotsForWage.l0 k q i a b c d e) (0, false) := by
  intro f
  induction f with
  | zero =>
    intro i h1 h2
    exact Ev.step (fun k => by rw [impl_KnotsForWage.l0, if_neg (by omega)]) (Ev.now _)
  | succ f ih =>
    intro i h1 h2
    have h3 := hl i h2 (by omega)
    exact Ev.step (fun k => by rw [impl_KnotsForWage.l0, if_pos (by omega), wageN_eq a b c d e i h (by omega) (by omega), Option.bind_some, if_neg (by omega), wrap_id _ (by omega) (by omega)]) (ih (i + 1) (by omega) (by omega))
theorem KnotsForWage_same (a b c d e q : Int) : ∃ r : Int × Bool, Ev (fun k => spec_KnotsForWage.f k a b c d e q) r ∧ Ev (fun k => impl_KnotsForWage.f k a b c d e q) r := by
  have s0 : Ev (fun k => spec_KnotsForWage.j0 k q true a b c d e) (0, false) := Ev.step (fun k => by rw [spec_KnotsForWage.j0, if_pos rfl]) (Ev.now _)
  have i0 : Ev (fun k => impl_KnotsForWage.j0 k q true a b c d e) (0, false) := Ev.step (fun k => by rw [impl_KnotsForWage.j0, if_pos rfl]) (Ev.now _)
  unfold spec_KnotsForWage.f impl_KnotsForWage.f
  simp only [l14Rates_eq, AreRates_eq, l1In_eq, in_eq, wage_same, Option.bind_some]
  by_cases h : okRates a b c d e = true
  · obtain ⟨ha, hb, hc, hd, he⟩ := (okRates_iff _ _ _ _ _).1 h
    simp only [if_pos h]
    by_cases h2 : rng q 0 1000000 = true
    · simp only [if_pos h2, wageN_eq a b c d e 12000 h (by omega) (by omega), Option.bind_some, h2, if_true]
      by_cases h3 : wageN a c d 12000 < q
      · refine ⟨(0, false), ?_, ?_⟩
        · simp only [decide_eq_true h3]
          exact s0
        · exact Ev.step (fun k => by rw [impl_KnotsForWage.j0, if_neg (by decide)]) (knots_none a b c d e q h (fun n hn hn2 => by have := wageN_mono a c d n 12000 ha.1 hd.1 hn2; omega) 12001 0 (by omega) (by omega))
      · obtain ⟨m, hm1, hm2, hm3⟩ := least (P := fun n : Nat => wageN a c d (n : Int) ≥ q) 12000 (by show wageN a c d ((12000 : Nat) : Int) ≥ q; have : ((12000 : Nat) : Int) = 12000 := rfl; rw [this]; omega)
        have hl : ∀ n : Int, 0 ≤ n → n < (m : Int) → wageN a c d n < q := fun n hn hn2 => by
          have := hm3 n.toNat (by omega)
          have e : ((n.toNat : Nat) : Int) = n := by omega
          simp only [e] at this
          omega
        refine ⟨((m : Int), true), ?_, ?_⟩
        · rw [decide_eq_false h3]
          exact Ev.step (fun k => by rw [spec_KnotsForWage.j0, if_neg (by decide)]) (knots_bin a b c d e q h m (by omega) (by omega) hm2 hl 12000 0 12000 (by omega) (by omega) (by omega) (by omega) (by omega))
        · exact Ev.step (fun k => by rw [impl_KnotsForWage.j0, if_neg (by decide)]) (knots_lin a b c d e q h m (by omega) hm2 hl m 0 (by omega) (by omega))
    · simp only [Bool.not_eq_true] at h2
      simp only [h2]
      exact ⟨(0, false), s0, i0⟩
  · simp only [if_neg h]
    exact ⟨(0, false), s0, i0⟩
theorem FnExactKnotsForWage (a0_0 : Int) (a0_1 : Int) (a0_2 : Int) (a0_3 : Int) (a0_4 : Int) (a1 : Int) (q_a0_0 : (Lit.int .i64 a0_0).wf = true) (q_a0_1 : (Lit.int .i64 a0_1).wf = true) (q_a0_2 : (Lit.int .i64 a0_2).wf = true) (q_a0_3 : (Lit.int .i64 a0_3).wf = true) (q_a0_4 : (Lit.int .i64 a0_4).wf = true) (q_a1 : (Lit.int .i64 a1).wf = true) : ∃ k, laws_FnExactKnotsForWage.f k a0_0 a0_1 a0_2 a0_3 a0_4 a1 = some true := by
  obtain ⟨r, ⟨K1, h1⟩, K2, h2⟩ := KnotsForWage_same a0_0 a0_1 a0_2 a0_3 a0_4 a1
  dsimp only at h1 h2
  refine ⟨K1 + K2, ?_⟩
  unfold laws_FnExactKnotsForWage.f laws_toRates.f
  simp only [Option.bind_some]
  rw [h1 _ (by omega), Option.bind_some, h2 _ (by omega), Option.bind_some, if_pos rfl, bne_self_eq_false]
  rfl
end Go.Proofs.Ytccpiiladdiocaa.Pure
