/- The law FnExactSwappedColors answers true for every input, and its arguments read afterwards as before: the row, out of the contract of the printed texts and the pure theorem. No further condition. -/
import Derived.Test.YtcjalfgnnabghaaRows
import Derived.Test.YtcjalfgnnabghaaHx4
import Derived.Test.YtcjalfgnnabghaaPureFnExactSwappedColors
import Derived.Test.YtcjalfgnnabghaaOpen
import Derived.WalkKit
import Derived.ProofKit
import Derived.OpenShut
import Derived.ShutString
import Derived.ChangeOld
import Derived.Below
import Derived.SizedLaws
namespace Go.Proofs.Ytcjalfgnnabghaa.fnExactSwappedColors
open Go.ChangeShapes Go.WideShapes Go.ChangeAt Go.RowKit Go.Proofs.YtcjalfgnnabghaaW.PrintWords Go.Proofs.Ytcjalfgnnabghaa.H Go.Proofs.Ytcjalfgnnabghaa.Opening
open Go.ChangeMaps (open_string shut_string)
set_option linter.unusedVariables false
theorem own : ownKnob Try.prog.godebug = none := by kernel_rfl
theorem laidOut : laidOutB Try.prog = true := by kernel_rfl


set_option maxRecDepth 100000 in
theorem lifted (os : Os) (started : os.Started) (H : Type) (enc : TypeId × Value → H) :
    ReturnsInHanded {} Try.checked os 10 .any (Rows.fnExactSwappedColorsSpec.pre6 enc Try.prog Try.f10 Rows.fnExactSwappedColorsRow.domain false) (Rows.fnExactSwappedColorsSpec.post enc Try.prog Try.f10 false true false false) := by
  refine returnsInHanded_of_change_sized (C := Try.checked) own started (by kernel_rfl) Try.func10
    (ChangeSpec.witness6 (enc := enc) (C := Try.checked) false ⟨#[], #[.agg #[.int .i64 0, .int .i64 0, .slice none 0 0], .agg #[.int .i64 0, .int .i64 0, .slice none 0 0]], []⟩ 8 (by kernel_rfl) (by kernel_rfl) (by kernel_rfl) (by kernel_rfl)) ?_
  intro W base args ds gs before hval0 hW hcnd hsz0 _
  have hval : ∀ (j : Nat) t v, Try.f10.params[j]? = some t → args[j]? = some v → Value.okWide Try.prog W .any base t v := hval0
  have hW' := hW
  obtain ⟨p, q, hA0, hV, rfl, hfz, hnd⟩ := hW
  have hA : DataW.TrodAll enc Try.prog W 0 (fun _ => true) true Try.f10.params.toList args.toList ds p := hA0
  rw [Try.params10] at hA hval
  obtain ⟨v0, vs0, d0, ds0, p0, q0, hargs, rfl, rfl, h0, r0⟩ := trodAll_cons hA
  obtain ⟨v1, vs1, d1, ds1, p1, q1, rfl, rfl, rfl, h1, r1⟩ := trodAll_cons r0
  obtain ⟨rfl, rfl, rfl⟩ := trodAll_nil r1
  obtain rfl : args = #[v0, v1] := by cases args; simp_all
  obtain ⟨rfl, rfl⟩ := trodVars_none hV
  have lt0 : ∀ x ∈ p0, x.block < W.heap.size := by obtain ⟨m, hm⟩ := h0; exact DataW.trod_lt m _ _ _ hm
  have t0 := h0
  obtain ⟨⟨a0_0, a0_1, l0_2⟩, cs0, rfl, hK0, hQ0⟩ := agg_of Try.underlying24 (opn_struct Try.underlying24 (by kernel_rfl) (opnF_cons rfl (by kernel_rfl) (opn_int Try.underlying3) (opnF_cons rfl (by kernel_rfl) (opn_int Try.underlying3) (opnF_one rfl (by kernel_rfl) (opn_slice Try.underlying22 (by kernel_rfl) (opn_int Try.underlying3)))))) (hval 0 24 v0 rfl rfl) h0
  obtain ⟨_, _, rfl, rfl, ⟨_, _, rfl, rfl, ⟨A0_2, c0_2, rfl, hc0_2, hr0_2⟩⟩⟩ := hK0
  obtain ⟨q_a0_0, q_a0_1, q_l0_2⟩ := hQ0
  have lt1 : ∀ x ∈ p1, x.block < W.heap.size := by obtain ⟨m, hm⟩ := h1; exact DataW.trod_lt m _ _ _ hm
  have t1 := h1
  obtain ⟨⟨a1_0, a1_1, l1_2⟩, cs1, rfl, hK1, hQ1⟩ := agg_of Try.underlying24 (opn_struct Try.underlying24 (by kernel_rfl) (opnF_cons rfl (by kernel_rfl) (opn_int Try.underlying3) (opnF_cons rfl (by kernel_rfl) (opn_int Try.underlying3) (opnF_one rfl (by kernel_rfl) (opn_slice Try.underlying22 (by kernel_rfl) (opn_int Try.underlying3)))))) (hval 1 24 v1 rfl rfl) h1
  obtain ⟨_, _, rfl, rfl, ⟨_, _, rfl, rfl, ⟨A1_2, c1_2, rfl, hc1_2, hr1_2⟩⟩⟩ := hK1
  obtain ⟨q_a1_0, q_a1_1, q_l1_2⟩ := hQ1
  have h := Pure.FnExactSwappedColors a0_0 a0_1 l0_2 a1_0 a1_1 l1_2 q_a0_0 q_a0_1 q_l0_2 q_a1_0 q_a1_1 q_l1_2
  obtain ⟨k, h⟩ := h
  clear hA0 hval0 hsz0
  refine (laws_FnExactSwappedColors.calls k a0_0 a0_1 A0_2 c0_2 l0_2 a1_0 a1_1 A1_2 c1_2 l1_2 true W hr0_2 hc0_2 hr1_2 hc1_2 h).mono fun e W' ⟨he, bel0⟩ => ?_
  have bel : Below W.heap.size W W' := bel0
  subst he
  exact ⟨_, rfl, _, _, _, [], _, [], hW', trodAll_mk1 (shut_bool Try.underlying4 _), (trodAll_cons_mk (Below.trod laidOut (by kernel_rfl) (of_decide_eq_true (by kernel_rfl)) t0 bel lt0) (trodAll_cons_mk (Below.trod laidOut (by kernel_rfl) (of_decide_eq_true (by kernel_rfl)) t1 bel lt1) trodAll_mk0)), rfl, bel.frame _, fun h => by cases h⟩
theorem over : Rows.fnExactSwappedColorsRow.holds Try.pinned (OpenSpec.ofChange Rows.fnExactSwappedColorsSpec) :=
  OpenClaim.holds_of_wide 10 Try.f10 rfl rfl rfl rfl rfl rfl rfl ⟨rfl, rfl, rfl, rfl, rfl⟩ rfl rfl rfl rfl rfl (by kernel_rfl) Try.func10 (by kernel_rfl)
    (of_decide_eq_true (by kernel_rfl)) (by unfold Func.isWrapper; first | (rw [if_pos (by decide +kernel)]; kernel_rfl) | (rw [if_neg (by decide +kernel)]; exact ⟨rfl, rfl⟩))
    (fun os started H enc _ => lifted os started H enc)
theorem proved : Rows.FnExactSwappedColorsSaid := over
#print axioms proved
end Go.Proofs.Ytcjalfgnnabghaa.fnExactSwappedColors
namespace Go.Proofs.Ytcjalfgnnabghaa
/-- The row, under a short name, for the claim. -/
theorem fnExactSwappedColors_holds : Rows.FnExactSwappedColorsSaid := fnExactSwappedColors.proved
end Go.Proofs.Ytcjalfgnnabghaa
