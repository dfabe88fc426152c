/- The plain law of FnExactYarnFor: what the program's functions compute is what the reference's compute. No program and no memory in it. -/
import Derived.Test.YtgplnlolgobmoaaPFnExactYarnForx0
import Derived.Test.YtgplnlolgobmoaaPFnExactYarnForx1
namespace Go.Proofs.Ytgplnlolgobmoaa.Pure
open Go.RowKit Go.Proofs.YtgplnlolgobmoaaW.PrintWords Go.Proofs.YtgplnlolgobmoaaW.PrintLast Go.Proofs.Ytgplnlolgobmoaa.PFnExactYarnFor
set_option linter.unusedVariables false
set_option linter.unusedSimpArgs false
def rng (a lo hi : Int) : Bool := decide (lo ≤ a ∧ a ≤ hi)
theorem rng_iff (a lo hi : Int) : rng a lo hi = true ↔ lo ≤ a ∧ a ≤ hi := by simp [rng]
theorem l1In_eq (a b c : Int) : spec_l1In.f a b c = some (rng a b c) := by
  unfold spec_l1In.f rng; by_cases h : b ≤ a <;> simp [h]
theorem in_eq (a b c : Int) : impl_in.f a b c = some (rng a b c) := by
  unfold impl_in.f rng; by_cases h : b ≤ a <;> simp [h]
def okYarn (p g w b : Int) : Bool := rng p 1 30 && (rng g 1 40 && (rng w 0 100 && rng b 1 1000))
theorem okYarn_iff (p g w b : Int) : okYarn p g w b = true ↔ (1 ≤ p ∧ p ≤ 30) ∧ (1 ≤ g ∧ g ≤ 40) ∧ (0 ≤ w ∧ w ≤ 100) ∧ 1 ≤ b ∧ b ≤ 1000 := by
  simp only [okYarn, Bool.and_eq_true, rng_iff]
theorem l10Good_eq (p g w b : Int) : spec_l10Good.f p g w b = some (okYarn p g w b) := by
  unfold spec_l10Good.f okYarn
  simp only [l1In_eq, Option.bind_some]
  cases rng p 1 30 <;> cases rng g 1 40 <;> cases rng w 0 100 <;> cases rng b 1 1000 <;> rfl
theorem IsYarn_eq (p g w b : Int) : impl_IsYarn.f p g w b = some (okYarn p g w b) := by
  unfold impl_IsYarn.f okYarn
  simp only [in_eq, Option.bind_some]
  cases rng p 1 30 <;> cases rng g 1 40 <;> cases rng w 0 100 <;> cases rng b 1 1000 <;> rfl
theorem wrap_id (x : Int) (h : -9223372036854775808 ≤ x) (h2 : x ≤ 9223372036854775807) : wrap64 x = x := by unfold wrap64; omega
theorem yarn_eq (p g w b n : Int) : impl_Yarn_yarn.f p g w b n = some (wrap64 (Int.tdiv (wrap64 ((wrap64 ((wrap64 (n * (wrap64 ((wrap64 ((wrap64 (2 * p)) + g)) * (wrap64 (100 + w)))))) + 100)) - 1)) 100)) := by
  unfold impl_Yarn_yarn.f impl_Yarn_hundredths.f impl_ceilDiv.f
  simp
theorem same_yarn (p g w b n : Int) (h : okYarn p g w b = true) (h0 : 0 ≤ n) (h1 : n ≤ 100000) : spec_l10For.f p g w b n = impl_Yarn_yarn.f p g w b n := by
  obtain ⟨hp, hg, hw, hb⟩ := (okYarn_iff p g w b).1 h
  rw [yarn_eq]
  unfold spec_l10For.f
  have a1 : wrap64 (2 * p) = 2 * p := wrap_id _ (by omega) (by omega)
  have a2 : wrap64 (2 * p + g) = 2 * p + g := wrap_id _ (by omega) (by omega)
  have a3 : wrap64 (100 + w) = 100 + w := wrap_id _ (by omega) (by omega)
  obtain ⟨s, hs⟩ : ∃ s, s = 2 * p + g := ⟨_, rfl⟩
  obtain ⟨u, hu⟩ : ∃ u, u = 100 + w := ⟨_, rfl⟩
  rw [a1, a2, a3, ← hs, ← hu]
  have s0 : 0 ≤ s := by omega
  have s1 : s ≤ 100 := by omega
  have u0 : 0 ≤ u := by omega
  have u1 : u ≤ 200 := by omega
  have b0 : 0 ≤ s * u := Int.mul_nonneg s0 u0
  have b1 : s * u ≤ 100 * 200 := Int.mul_le_mul s1 u1 u0 (by omega)
  have c0 : 0 ≤ n * s := Int.mul_nonneg h0 s0
  have c1 : n * s ≤ 100000 * 100 := Int.mul_le_mul h1 s1 s0 (by omega)
  have d0 : 0 ≤ n * (s * u) := Int.mul_nonneg h0 b0
  have d1 : n * (s * u) ≤ 100000 * (100 * 200) := Int.mul_le_mul h1 b1 b0 (by omega)
  rw [wrap_id (s * u) (by omega) (by omega), wrap_id (n * s) (by omega) (by omega), wrap_id (n * (s * u)) (by omega) (by omega), Int.mul_assoc]
  rw [wrap_id (n * (s * u)) (by omega) (by omega), wrap_id (n * (s * u) + 99) (by omega) (by omega), wrap_id (n * (s * u) + 100) (by omega) (by omega), wrap_id (n * (s * u) + 100 - 1) (by omega) (by omega)]
  congr 3
  omega
theorem FnExactYarnFor (a0_0 : Int) (a0_1 : Int) (a0_2 : Int) (a0_3 : Int) (a1 : Int) (q_a0_0 : (Lit.int .i64 a0_0).wf = true) (q_a0_1 : (Lit.int .i64 a0_1).wf = true) (q_a0_2 : (Lit.int .i64 a0_2).wf = true) (q_a0_3 : (Lit.int .i64 a0_3).wf = true) (q_a1 : (Lit.int .i64 a1).wf = true) : laws_FnExactYarnFor.f a0_0 a0_1 a0_2 a0_3 a1 = some true := by
  unfold laws_FnExactYarnFor.f laws_toYarn.f spec_YarnFor.f impl_YarnFor.f
  simp only [Option.bind_some, l10Good_eq, IsYarn_eq, l1In_eq, in_eq]
  by_cases h : okYarn a0_0 a0_1 a0_2 a0_3 = true
  · by_cases h2 : rng a1 0 100000 = true
    · simp only [h, h2, if_true]
      rw [same_yarn _ _ _ _ _ h ((rng_iff _ _ _).1 h2).1 ((rng_iff _ _ _).1 h2).2, yarn_eq]
      simp
    · simp [h, h2]
  · simp [h]
end Go.Proofs.Ytgplnlolgobmoaa.Pure
