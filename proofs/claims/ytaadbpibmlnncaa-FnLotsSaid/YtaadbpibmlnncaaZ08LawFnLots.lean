/- The law FnLots answers true for every input, and its arguments read afterwards as before: the row, out of the contract of the printed texts and the pure theorem. No further condition. -/
import Derived.Test.YtaadbpibmlnncaaRows
import Derived.Test.YtaadbpibmlnncaaZ08Hx11
import Derived.Test.YtaadbpibmlnncaaZ08PureFnLots
import Derived.Test.YtaadbpibmlnncaaZ08Open
import Derived.WalkKit
import Derived.ProofKit
import Derived.OpenShut
import Derived.ShutString
import Derived.ChangeOld
import Derived.Below
import Derived.SizedLaws
namespace Go.Proofs.Ytaadbpibmlnncaa.fnLots
open Go.ChangeShapes Go.WideShapes Go.ChangeAt Go.RowKit Go.Proofs.YtaadbpibmlnncaaW.PrintWords Go.Proofs.Ytaadbpibmlnncaa.H Go.Proofs.Ytaadbpibmlnncaa.Opening
open Go.ChangeMaps (open_string shut_string)
set_option linter.unusedVariables false
theorem own : ownKnob Try.prog.godebug = none := by kernel_rfl
theorem laidOut : laidOutB Try.prog = true := by kernel_rfl
set_option maxRecDepth 100000 in
theorem lifted (os : Os) (started : os.Started) (H : Type) (enc : TypeId × Value → H) :
    ReturnsInHanded {} Try.checked os 11 .any (Rows.fnLotsSpec.pre6 enc Try.prog Try.f11 Rows.fnLotsRow.domain false) (Rows.fnLotsSpec.post enc Try.prog Try.f11 false true false false) := by
  refine returnsInHanded_of_change_sized (C := Try.checked) own started (by kernel_rfl) Try.func11
    (ChangeSpec.witness6 (enc := enc) (C := Try.checked) false ⟨#[], #[.slice none 0 0], []⟩ 8 (by kernel_rfl) (by kernel_rfl) (by kernel_rfl) (by kernel_rfl)) ?_
  intro W base args ds gs before hval0 hW hcnd hsz0 _
  have hval : ∀ (j : Nat) t v, Try.f11.params[j]? = some t → args[j]? = some v → Value.okWide Try.prog W .any base t v := hval0
  have hW' := hW
  obtain ⟨p, q, hA0, hV, rfl, hfz, hnd⟩ := hW
  have hA : DataW.TrodAll enc Try.prog W 0 (fun _ => true) true Try.f11.params.toList args.toList ds p := hA0
  rw [Try.params11] at hA hval
  obtain ⟨v0, vs0, d0, ds0, p0, q0, hargs, rfl, rfl, h0, r0⟩ := trodAll_cons hA
  obtain ⟨rfl, rfl, rfl⟩ := trodAll_nil r0
  obtain rfl : args = #[v0] := by cases args; simp_all
  obtain ⟨rfl, rfl⟩ := trodVars_none hV
  have lt0 : ∀ x ∈ p0, x.block < W.heap.size := by obtain ⟨m, hm⟩ := h0; exact DataW.trod_lt m _ _ _ hm
  have t0 := h0
  obtain ⟨l0, hK0, q_l0⟩ := slice_of Try.underlying48 (opn_slice Try.underlying48 (by kernel_rfl) (opn_int Try.underlying5)) (hval 0 48 v0 rfl rfl) h0
  obtain ⟨A0, c0, hv0, hc0, hr0⟩ := hK0
  obtain rfl : v0 = .slice A0 l0.length c0 := by simpa using hv0
  have h := Pure.FnLots l0 q_l0
  obtain ⟨k, h⟩ := h
  clear hA0 hval0 hsz0
  refine (laws_FnLots.calls k A0 c0 l0 true W hr0 hc0 h).mono fun e W' ⟨he, bel0⟩ => ?_
  have bel : Below W.heap.size W W' := bel0
  subst he
  exact ⟨_, rfl, _, _, _, [], _, [], hW', trodAll_mk1 (shut_bool Try.underlying4 _), (trodAll_cons_mk (Below.trod laidOut (by kernel_rfl) (of_decide_eq_true (by kernel_rfl)) t0 bel lt0) trodAll_mk0), rfl, bel.frame _, fun h => by cases h⟩
theorem over : Rows.fnLotsRow.holds Try.pinned (OpenSpec.ofChange Rows.fnLotsSpec) :=
  OpenClaim.holds_of_wide 11 Try.f11 rfl rfl rfl rfl rfl rfl rfl ⟨rfl, rfl, rfl, rfl, rfl⟩ rfl rfl rfl rfl rfl (by kernel_rfl) Try.func11 (by kernel_rfl)
    (of_decide_eq_true (by kernel_rfl)) (by unfold Func.isWrapper; first | (rw [if_pos (by decide +kernel)]; kernel_rfl) | (rw [if_neg (by decide +kernel)]; exact ⟨rfl, rfl⟩))
    (fun os started H enc _ => lifted os started H enc)
theorem proved : Rows.FnLotsSaid := over
#print axioms proved
end Go.Proofs.Ytaadbpibmlnncaa.fnLots
namespace Go.Proofs.Ytaadbpibmlnncaa
theorem fnLots_holds : Rows.FnLotsSaid := fnLots.proved
end Go.Proofs.Ytaadbpibmlnncaa
