/- The law FnExactRingPeriod answers true for every input, and its arguments read afterwards as before: the row, out of the contract of the printed texts and the pure theorem. No further condition. -/
import Derived.Test.YtplhkmeoeojinaaRows
import Derived.Test.YtplhkmeoeojinaaHx7
import Derived.Test.YtplhkmeoeojinaaPureFnExactRingPeriod
import Derived.Test.YtplhkmeoeojinaaOpen
import Derived.WalkKit
import Derived.ProofKit
import Derived.OpenShut
import Derived.ShutString
import Derived.ChangeOld
import Derived.Below
import Derived.SizedLaws
namespace Go.Proofs.Ytplhkmeoeojinaa.fnExactRingPeriod
open Go.ChangeShapes Go.WideShapes Go.ChangeAt Go.RowKit Go.Proofs.YtplhkmeoeojinaaW.PrintWords Go.Proofs.Ytplhkmeoeojinaa.H Go.Proofs.Ytplhkmeoeojinaa.Opening
open Go.ChangeMaps (open_string shut_string)
set_option linter.unusedVariables false
theorem own : ownKnob Try.prog.godebug = none := by kernel_rfl
theorem laidOut : laidOutB Try.prog = true := by kernel_rfl

set_option maxRecDepth 100000 in
theorem lifted (os : Os) (started : os.Started) (H : Type) (enc : TypeId × Value → H) :
    ReturnsInHanded {} Try.checked os 4 .any (Rows.fnExactRingPeriodSpec.pre6 enc Try.prog Try.f4 Rows.fnExactRingPeriodRow.domain false) (Rows.fnExactRingPeriodSpec.post enc Try.prog Try.f4 false true false false) := by
  refine returnsInHanded_of_change_sized (C := Try.checked) own started (by kernel_rfl) Try.func4
    (ChangeSpec.witness6 (enc := enc) (C := Try.checked) false ⟨#[], #[.agg #[.int .i64 0, .int .i64 0, .slice none 0 0]], []⟩ 8 (by kernel_rfl) (by kernel_rfl) (by kernel_rfl) (by kernel_rfl)) ?_
  intro W base args ds gs before hval0 hW hcnd hsz0 _
  have hval : ∀ (j : Nat) t v, Try.f4.params[j]? = some t → args[j]? = some v → Value.okWide Try.prog W .any base t v := hval0
  have hW' := hW
  obtain ⟨p, q, hA0, hV, rfl, hfz, hnd⟩ := hW
  have hA : DataW.TrodAll enc Try.prog W 0 (fun _ => true) true Try.f4.params.toList args.toList ds p := hA0
  rw [Try.params4] at hA hval
  obtain ⟨v0, vs0, d0, ds0, p0, q0, hargs, rfl, rfl, h0, r0⟩ := trodAll_cons hA
  obtain ⟨rfl, rfl, rfl⟩ := trodAll_nil r0
  obtain rfl : args = #[v0] := by cases args; simp_all
  obtain ⟨rfl, rfl⟩ := trodVars_none hV
  have lt0 : ∀ x ∈ p0, x.block < W.heap.size := by obtain ⟨m, hm⟩ := h0; exact DataW.trod_lt m _ _ _ hm
  have t0 := h0
  obtain ⟨⟨a0_0, a0_1, l0_2⟩, cs0, rfl, hK0, hQ0⟩ := agg_of Try.underlying24 (opn_struct Try.underlying24 (by kernel_rfl) (opnF_cons rfl (by kernel_rfl) (opn_int Try.underlying3) (opnF_cons rfl (by kernel_rfl) (opn_int Try.underlying3) (opnF_one rfl (by kernel_rfl) (opn_slice Try.underlying22 (by kernel_rfl) (opn_int Try.underlying3)))))) (hval 0 24 v0 rfl rfl) h0
  obtain ⟨_, _, rfl, rfl, ⟨_, _, rfl, rfl, ⟨A0_2, c0_2, rfl, hc0_2, hr0_2⟩⟩⟩ := hK0
  obtain ⟨q_a0_0, q_a0_1, q_l0_2⟩ := hQ0
  have h := Pure.FnExactRingPeriod a0_0 a0_1 l0_2 q_a0_0 q_a0_1 q_l0_2
  obtain ⟨k, h⟩ := h
  clear hA0 hval0 hsz0
  refine (laws_FnExactRingPeriod.calls k a0_0 a0_1 A0_2 c0_2 l0_2 true W hr0_2 hc0_2 h).mono fun e W' ⟨he, bel0⟩ => ?_
  have bel : Below W.heap.size W W' := bel0
  subst he
  exact ⟨_, rfl, _, _, _, [], _, [], hW', trodAll_mk1 (shut_bool Try.underlying4 _), (trodAll_cons_mk (Below.trod laidOut (by kernel_rfl) (of_decide_eq_true (by kernel_rfl)) t0 bel lt0) trodAll_mk0), rfl, bel.frame _, fun h => by cases h⟩
theorem over : Rows.fnExactRingPeriodRow.holds Try.pinned (OpenSpec.ofChange Rows.fnExactRingPeriodSpec) :=
  OpenClaim.holds_of_wide 4 Try.f4 rfl rfl rfl rfl rfl rfl rfl ⟨rfl, rfl, rfl, rfl, rfl⟩ rfl rfl rfl rfl rfl (by kernel_rfl) Try.func4 (by kernel_rfl)
    (of_decide_eq_true (by kernel_rfl)) (by unfold Func.isWrapper; first | (rw [if_pos (by decide +kernel)]; kernel_rfl) | (rw [if_neg (by decide +kernel)]; exact ⟨rfl, rfl⟩))
    (fun os started H enc _ => lifted os started H enc)
theorem proved : Rows.FnExactRingPeriodSaid := over
#print axioms proved
end Go.Proofs.Ytplhkmeoeojinaa.fnExactRingPeriod
namespace Go.Proofs.Ytplhkmeoeojinaa
/-- The row, under a short name, for the claim. -/
theorem fnExactRingPeriod_holds : Rows.FnExactRingPeriodSaid := fnExactRingPeriod.proved
end Go.Proofs.Ytplhkmeoeojinaa
