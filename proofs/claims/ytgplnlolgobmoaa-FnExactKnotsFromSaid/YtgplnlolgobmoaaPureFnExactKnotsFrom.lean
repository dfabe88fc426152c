/- The plain law of FnExactKnotsFrom: what the program's functions compute is what the reference's compute. No program and no memory in it. -/
import Derived.Test.YtgplnlolgobmoaaPFnExactKnotsFromx0
import Derived.Test.YtgplnlolgobmoaaPFnExactKnotsFromx1
namespace Go.Proofs.Ytgplnlolgobmoaa.Pure
open Go.RowKit Go.Proofs.YtgplnlolgobmoaaW.PrintWords Go.Proofs.YtgplnlolgobmoaaW.PrintLast Go.Proofs.Ytgplnlolgobmoaa.PFnExactKnotsFrom
set_option linter.unusedVariables false
set_option linter.unusedSimpArgs false
def rng (a lo hi : Int) : Bool := decide (lo ≤ a ∧ a ≤ hi)
theorem rng_iff (a lo hi : Int) : rng a lo hi = true ↔ lo ≤ a ∧ a ≤ hi := by simp [rng]
theorem l1In_eq (a b c : Int) : spec_l1In.f a b c = some (rng a b c) := by
  unfold spec_l1In.f rng; by_cases h : b ≤ a <;> simp [h]
theorem in_eq (a b c : Int) : impl_in.f a b c = some (rng a b c) := by
  unfold impl_in.f rng; by_cases h : b ≤ a <;> simp [h]
def okYarn (p g w b : Int) : Bool := rng p 1 30 && (rng g 1 40 && (rng w 0 100 && rng b 1 1000))
theorem okYarn_iff (p g w b : Int) : okYarn p g w b = true ↔ (1 ≤ p ∧ p ≤ 30) ∧ (1 ≤ g ∧ g ≤ 40) ∧ (0 ≤ w ∧ w ≤ 100) ∧ 1 ≤ b ∧ b ≤ 1000 := by
  simp only [okYarn, Bool.and_eq_true, rng_iff]
theorem l10Good_eq (p g w b : Int) : spec_l10Good.f p g w b = some (okYarn p g w b) := by
  unfold spec_l10Good.f okYarn
  simp only [l1In_eq, Option.bind_some]
  cases rng p 1 30 <;> cases rng g 1 40 <;> cases rng w 0 100 <;> cases rng b 1 1000 <;> rfl
theorem IsYarn_eq (p g w b : Int) : impl_IsYarn.f p g w b = some (okYarn p g w b) := by
  unfold impl_IsYarn.f okYarn
  simp only [in_eq, Option.bind_some]
  cases rng p 1 30 <;> cases rng g 1 40 <;> cases rng w 0 100 <;> cases rng b 1 1000 <;> rfl
theorem wrap_id (x : Int) (h : -9223372036854775808 ≤ x) (h2 : x ≤ 9223372036854775807) : wrap64 x = x := by unfold wrap64; omega
theorem FnExactKnotsFrom (a0_0 : Int) (a0_1 : Int) (a0_2 : Int) (a0_3 : Int) (a1 : Int) (q_a0_0 : (Lit.int .i64 a0_0).wf = true) (q_a0_1 : (Lit.int .i64 a0_1).wf = true) (q_a0_2 : (Lit.int .i64 a0_2).wf = true) (q_a0_3 : (Lit.int .i64 a0_3).wf = true) (q_a1 : (Lit.int .i64 a1).wf = true) : laws_FnExactKnotsFrom.f a0_0 a0_1 a0_2 a0_3 a1 = some true := by
  unfold laws_FnExactKnotsFrom.f laws_toYarn.f spec_KnotsFrom.f impl_KnotsFrom.f impl_Yarn_hundredths.f
  simp only [Option.bind_some, l10Good_eq, IsYarn_eq, l1In_eq, in_eq]
  by_cases h : okYarn a0_0 a0_1 a0_2 a0_3 = true
  · by_cases h2 : rng a1 0 100000 = true
    · obtain ⟨hp, hg, hw, hb⟩ := (okYarn_iff _ _ _ _).1 h
      have e : wrap64 (wrap64 (wrap64 (2 * a0_0) + a0_1) * wrap64 (100 + a0_2)) ≠ 0 := by
        rw [wrap_id (2 * a0_0) (by omega) (by omega), wrap_id (2 * a0_0 + a0_1) (by omega) (by omega), wrap_id (100 + a0_2) (by omega) (by omega)]
        obtain ⟨s, hs⟩ : ∃ s, s = 2 * a0_0 + a0_1 := ⟨_, rfl⟩
        obtain ⟨u, hu⟩ : ∃ u, u = 100 + a0_2 := ⟨_, rfl⟩
        rw [← hs, ← hu]
        have b0 : 0 < s * u := Int.mul_pos (by omega) (by omega)
        have b1 : s * u ≤ 100 * 200 := Int.mul_le_mul (by omega) (by omega) (by omega) (by omega)
        rw [wrap_id (s * u) (by omega) (by omega)]
        omega
      simp [h, h2, e]
    · simp [h, h2]
  · simp [h]
end Go.Proofs.Ytgplnlolgobmoaa.Pure
