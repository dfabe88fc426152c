/- The plain law of FnExactAreRates: what the program's functions compute is what the reference's compute. No program and no memory in it. -/
import Derived.Test.YtccpiiladdiocaaHx2
import Derived.Test.YtccpiiladdiocaaLps
namespace Go.Proofs.Ytccpiiladdiocaa.Pure
open Go.RowKit Go.Proofs.YtccpiiladdiocaaW.PrintWords Go.Proofs.YtccpiiladdiocaaW.PrintLast Go.Proofs.Ytccpiiladdiocaa.H
set_option linter.unusedVariables false
set_option linter.unusedSimpArgs false
theorem l1In_eq (a b c : Int) : spec_l1In.f a b c = some (rng a b c) := spec_l1In.eq a b c
theorem in_eq (a b c : Int) : impl_in.f a b c = some (rng a b c) := impl_in.eq a b c
def okRates (a b c d e : Int) : Bool := rng a 0 10000 && (rng b 0 10000 && (rng c 0 10000 && (rng d 0 10000 && rng e 0 10000)))
theorem okRates_iff (a b c d e : Int) : okRates a b c d e = true ↔ (0 ≤ a ∧ a ≤ 10000) ∧ (0 ≤ b ∧ b ≤ 10000) ∧ (0 ≤ c ∧ c ≤ 10000) ∧ (0 ≤ d ∧ d ≤ 10000) ∧ 0 ≤ e ∧ e ≤ 10000 := by
  simp only [okRates, Bool.and_eq_true, rng_iff]
theorem l14Rates_eq (a b c d e : Int) : spec_l14Rates.f a b c d e = some (okRates a b c d e) := by
  unfold spec_l14Rates.f spec_l14Cents.f okRates
  simp only [l1In_eq, Option.bind_some]
  cases rng a 0 10000 <;> cases rng b 0 10000 <;> cases rng c 0 10000 <;> cases rng d 0 10000 <;> cases rng e 0 10000 <;> rfl
theorem AreRates_eq (a b c d e : Int) : impl_AreRates.f a b c d e = some (okRates a b c d e) := by
  unfold impl_AreRates.f impl_AreRates_1.f okRates
  simp only [in_eq, Option.bind_some, Option.getD_some, List.all_cons, List.all_nil, Bool.and_true]
theorem FnExactAreRates (a0_0 : Int) (a0_1 : Int) (a0_2 : Int) (a0_3 : Int) (a0_4 : Int) (q_a0_0 : (Lit.int .i64 a0_0).wf = true) (q_a0_1 : (Lit.int .i64 a0_1).wf = true) (q_a0_2 : (Lit.int .i64 a0_2).wf = true) (q_a0_3 : (Lit.int .i64 a0_3).wf = true) (q_a0_4 : (Lit.int .i64 a0_4).wf = true) : laws_FnExactAreRates.f a0_0 a0_1 a0_2 a0_3 a0_4 = some true := by
  unfold laws_FnExactAreRates.f laws_toRates.f spec_AreRates.f
  simp only [Option.bind_some, l14Rates_eq, AreRates_eq]
  simp
end Go.Proofs.Ytccpiiladdiocaa.Pure
