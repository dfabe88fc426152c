/- The plain law of FnExactIsWorkSheet: what the program's functions compute is what the reference's compute. No program and no memory in it. -/
import Derived.Test.YtgplnlolgobmoaaPFnExactIsWorkSheetx0
import Derived.Test.YtgplnlolgobmoaaPFnExactIsWorkSheetx1
namespace Go.Proofs.Ytgplnlolgobmoaa.Pure
open Go.RowKit Go.Proofs.YtgplnlolgobmoaaW.PrintWords Go.Proofs.YtgplnlolgobmoaaW.PrintLast Go.Proofs.Ytgplnlolgobmoaa.PFnExactIsWorkSheet
set_option linter.unusedVariables false
set_option linter.unusedSimpArgs false
def rng (a lo hi : Int) : Bool := decide (lo ≤ a ∧ a ≤ hi)
theorem rng_iff (a lo hi : Int) : rng a lo hi = true ↔ lo ≤ a ∧ a ≤ hi := by simp [rng]
theorem l1In_eq (a b c : Int) : spec_l1In.f a b c = some (rng a b c) := by
  unfold spec_l1In.f rng; by_cases h : b ≤ a <;> simp [h]
theorem in_eq (a b c : Int) : impl_in.f a b c = some (rng a b c) := by
  unfold impl_in.f rng; by_cases h : b ≤ a <;> simp [h]
def okSheet (a b c d e : Int) : Bool := rng a 1 99 && (rng b 0 4000 && (rng c 0 12000 && (rng d 0 c && rng e 0 12)))
theorem l14One_eq (a b c d e : Int) : spec_l14One.f a b c d e = some (okSheet a b c d e) := by
  unfold spec_l14One.f spec_l2Day.f okSheet
  simp only [l1In_eq, Option.bind_some]
  cases rng a 1 99 <;> cases rng b 0 4000 <;> cases rng c 0 12000 <;> cases rng d 0 c <;> cases rng e 0 12 <;> rfl
theorem IsWorkSheet_eq (a b c d e : Int) : impl_IsWorkSheet.f a b c d e = some (okSheet a b c d e) := by
  unfold impl_IsWorkSheet.f impl_isDay.f impl_isId.f okSheet
  simp only [in_eq, Option.bind_some]
  cases rng a 1 99 <;> cases rng b 0 4000 <;> cases rng c 0 12000 <;> cases rng d 0 c <;> cases rng e 0 12 <;> rfl
theorem FnExactIsWorkSheet (a0_0 : Int) (a0_1 : Int) (a0_2 : Int) (a0_3 : Int) (a0_4 : Int) (q_a0_0 : (Lit.int .i64 a0_0).wf = true) (q_a0_1 : (Lit.int .i64 a0_1).wf = true) (q_a0_2 : (Lit.int .i64 a0_2).wf = true) (q_a0_3 : (Lit.int .i64 a0_3).wf = true) (q_a0_4 : (Lit.int .i64 a0_4).wf = true) : laws_FnExactIsWorkSheet.f a0_0 a0_1 a0_2 a0_3 a0_4 = some true := by
  unfold laws_FnExactIsWorkSheet.f laws_toWorkSheet.f spec_IsWorkSheet.f
  simp only [Option.bind_some, l14One_eq, IsWorkSheet_eq]
  simp
end Go.Proofs.Ytgplnlolgobmoaa.Pure
