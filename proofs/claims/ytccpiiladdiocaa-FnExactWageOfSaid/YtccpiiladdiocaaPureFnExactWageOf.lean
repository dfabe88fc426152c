/- The plain law of FnExactWageOf: what the program's functions compute is what the reference's compute. No program and no memory in it. -/
import Derived.Test.YtccpiiladdiocaaHx7
import Derived.Test.YtccpiiladdiocaaLps
namespace Go.Proofs.Ytccpiiladdiocaa.Pure
open Go.RowKit Go.Proofs.YtccpiiladdiocaaW.PrintWords Go.Proofs.YtccpiiladdiocaaW.PrintLast Go.Proofs.Ytccpiiladdiocaa.H
set_option linter.unusedVariables false
set_option linter.unusedSimpArgs false
theorem l1In_eq (a b c : Int) : spec_l1In.f a b c = some (rng a b c) := spec_l1In.eq a b c
theorem in_eq (a b c : Int) : impl_in.f a b c = some (rng a b c) := impl_in.eq a b c
def okRates (a b c d e : Int) : Bool := rng a 0 10000 && (rng b 0 10000 && (rng c 0 10000 && (rng d 0 10000 && rng e 0 10000)))
theorem okRates_iff (a b c d e : Int) : okRates a b c d e = true ↔ (0 ≤ a ∧ a ≤ 10000) ∧ (0 ≤ b ∧ b ≤ 10000) ∧ (0 ≤ c ∧ c ≤ 10000) ∧ (0 ≤ d ∧ d ≤ 10000) ∧ 0 ≤ e ∧ e ≤ 10000 := by
  simp only [okRates, Bool.and_eq_true, rng_iff]
theorem l14Rates_eq (a b c d e : Int) : spec_l14Rates.f a b c d e = some (okRates a b c d e) := by
  unfold spec_l14Rates.f spec_l14Cents.f okRates
  simp only [l1In_eq, Option.bind_some]
  cases rng a 0 10000 <;> cases rng b 0 10000 <;> cases rng c 0 10000 <;> cases rng d 0 10000 <;> cases rng e 0 10000 <;> rfl
theorem AreRates_eq (a b c d e : Int) : impl_AreRates.f a b c d e = some (okRates a b c d e) := by
  unfold impl_AreRates.f impl_AreRates_1.f okRates
  simp only [in_eq, Option.bind_some, Option.getD_some, List.all_cons, List.all_nil, Bool.and_true]
def okSheet (a b c d e : Int) : Bool := rng a 1 99 && (rng b 0 4000 && (rng c 0 12000 && (rng d 0 c && rng e 0 12)))
theorem l14One_eq (a b c d e : Int) : spec_l14One.f a b c d e = some (okSheet a b c d e) := by
  unfold spec_l14One.f spec_l2Day.f okSheet
  simp only [l1In_eq, Option.bind_some]
  cases rng a 1 99 <;> cases rng b 0 4000 <;> cases rng c 0 12000 <;> cases rng d 0 c <;> cases rng e 0 12 <;> rfl
theorem IsWorkSheet_eq (a b c d e : Int) : impl_IsWorkSheet.f a b c d e = some (okSheet a b c d e) := by
  unfold impl_IsWorkSheet.f impl_isDay.f impl_isId.f okSheet
  simp only [in_eq, Option.bind_some]
  cases rng a 1 99 <;> cases rng b 0 4000 <;> cases rng c 0 12000 <;> cases rng d 0 c <;> cases rng e 0 12 <;> rfl
theorem okSheet_iff (a b c d e : Int) : okSheet a b c d e = true ↔ (1 ≤ a ∧ a ≤ 99) ∧ (0 ≤ b ∧ b ≤ 4000) ∧ (0 ≤ c ∧ c ≤ 12000) ∧ (0 ≤ d ∧ d ≤ c) ∧ 0 ≤ e ∧ e ≤ 12 := by
  simp only [okSheet, Bool.and_eq_true, rng_iff]
theorem wage_same (a b c d e f g h i j : Int) : spec_l14Wage.f a b c d e f g h i j = impl_Rates_wage.f a b c d e f g h i j := by
  unfold spec_l14Wage.f impl_Rates_wage.f impl_WorkSheet_right.f spec_l1Most.f
  simp only [Option.bind_some]
  have hm : ∀ x y : Int, (if x > y then some x else some y) = some (mx y x) := fun x y => by unfold mx; split <;> congr 1 <;> omega
  simp only [hm, Option.bind_some]
theorem wage_some (a b c d e f g h i j : Int) : ∃ v, impl_Rates_wage.f a b c d e f g h i j = some v := by
  unfold impl_Rates_wage.f impl_WorkSheet_right.f
  simp only [Option.bind_some]
  split <;> exact ⟨_, rfl⟩
theorem FnExactWageOf (a0_0 : Int) (a0_1 : Int) (a0_2 : Int) (a0_3 : Int) (a0_4 : Int) (a1_0 : Int) (a1_1 : Int) (a1_2 : Int) (a1_3 : Int) (a1_4 : Int) (q_a0_0 : (Lit.int .i64 a0_0).wf = true) (q_a0_1 : (Lit.int .i64 a0_1).wf = true) (q_a0_2 : (Lit.int .i64 a0_2).wf = true) (q_a0_3 : (Lit.int .i64 a0_3).wf = true) (q_a0_4 : (Lit.int .i64 a0_4).wf = true) (q_a1_0 : (Lit.int .i64 a1_0).wf = true) (q_a1_1 : (Lit.int .i64 a1_1).wf = true) (q_a1_2 : (Lit.int .i64 a1_2).wf = true) (q_a1_3 : (Lit.int .i64 a1_3).wf = true) (q_a1_4 : (Lit.int .i64 a1_4).wf = true) : laws_FnExactWageOf.f a0_0 a0_1 a0_2 a0_3 a0_4 a1_0 a1_1 a1_2 a1_3 a1_4 = some true := by
  unfold laws_FnExactWageOf.f laws_toRates.f laws_toWorkSheet.f spec_WageOf.f impl_WageOf.f
  obtain ⟨v, hv⟩ := wage_some a0_0 a0_1 a0_2 a0_3 a0_4 a1_0 a1_1 a1_2 a1_3 a1_4
  simp only [Option.bind_some, l14Rates_eq, AreRates_eq, l14One_eq, IsWorkSheet_eq, wage_same, hv]
  cases okRates a0_0 a0_1 a0_2 a0_3 a0_4 <;> cases okSheet a1_0 a1_1 a1_2 a1_3 a1_4 <;> simp
end Go.Proofs.Ytccpiiladdiocaa.Pure
