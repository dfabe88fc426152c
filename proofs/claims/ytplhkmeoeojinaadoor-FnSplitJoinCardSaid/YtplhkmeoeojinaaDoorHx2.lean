-- Written by wip/hook.py of this repo: the kit's print over all of the seat's laws, with texts of this repo for what it does not take. Lean checks it.
import Derived.Test.YtplhkmeoeojinaaDoorHx0
import Derived.Test.YtplhkmeoeojinaaDoorHx1
import Derived.Test.YtplhkmeoeojinaaDoorWLast
import Derived.Test.YtplhkmeoeojinaaDoorWMore
import Derived.Test.YtplhkmeoeojinaaDoorWWords
namespace Go.Proofs.YtplhkmeoeojinaaDoor.H
open Go.RowKit Go.Proofs.YtplhkmeoeojinaaDoorW.PrintWords Go.Proofs.YtplhkmeoeojinaaDoorW.PrintLast Go.Proofs.YtplhkmeoeojinaaDoorW.PrintMore
attribute [local go_sem] max2_int min2_int max_two min_two max_three min_three max_four min_four   -- for this text's walks alone
set_option linter.unusedVariables false
set_option linter.unusedSimpArgs false

/-! ### impl_LessString: function 11 -/
def impl_LessString.f (a0 : ByteArray) (a1 : ByteArray) : Option (Bool) := some (Op.bytesLess a0.toList a1.toList)
set_option maxHeartbeats 8000000 in
set_option maxRecDepth 100000 in
theorem impl_LessString.calls (a0 : ByteArray) (a1 : ByteArray) (r : Bool) (w : World) (h : impl_LessString.f a0 a1 = some r) :
  Calls Tryd.prog 11 #[.string a0, .string a1] w fun e w' => e = .returned (.bool r) ∧ Drawn0 w w' := by
 have H : (some (Op.bytesLess a0.toList a1.toList)) = some r := h
 clear h
 obtain rfl := Option.some.inj H
 go_enter Tryd.func11, Tryd.ntmps11
 go_wp2
 go_ret
 exact ⟨by first | rfl | (simp; done) | (simp [*]; done), by repeat (first | exact Drawn0.refl _ | apply Drawn0.step)⟩

/-! ### spec_LessString: function 12 -/
def spec_LessString.f (a0 : ByteArray) (a1 : ByteArray) : Option (Bool) := some (Op.bytesLess a0.toList a1.toList)
set_option maxHeartbeats 8000000 in
set_option maxRecDepth 100000 in
theorem spec_LessString.calls (a0 : ByteArray) (a1 : ByteArray) (r : Bool) (w : World) (h : spec_LessString.f a0 a1 = some r) :
  Calls Tryd.prog 12 #[.string a0, .string a1] w fun e w' => e = .returned (.bool r) ∧ Drawn0 w w' := by
 have H : (some (Op.bytesLess a0.toList a1.toList)) = some r := h
 clear h
 obtain rfl := Option.some.inj H
 go_enter Tryd.func12, Tryd.ntmps12
 go_wp2
 go_ret
 exact ⟨by first | rfl | (simp; done) | (simp [*]; done), by repeat (first | exact Drawn0.refl _ | apply Drawn0.step)⟩

/-! ### laws_FnSplitJoin: function 3 -/
def laws_FnSplitJoin.j0 : Nat → ByteArray → ByteArray → List ByteArray → Bool → Bool → Option (Bool)
 | 0, _, _, _, _, _ => none
 | k + 1, x3, x4, x5, x6, x78 => if x78 = true then (none) else (if (x4.size : Int) = 1 then ((impl_JoinStrings.f k x5 x4).bind fun bt206 => (if x6 = true then (if bt206.2 = true then (some (bt206.1.toList == x3.toList)) else (none)) else (none))) else (if x6 = true then (none) else (some ((x5.length : Int) == 0))))
def laws_FnSplitJoin.f (k : Nat) (l0 : List Int) : Option (Bool) := (laws_vBig.f l0).bind fun t185 => (if t185 = true then (some true) else ((spec_DrawSplitString.f l0).bind fun bt186 => ((impl_SplitString.f bt186.1 bt186.2).bind fun bt188 => ((spec_DrawJoinStrings.f k l0).bind fun bt192 => ((impl_JoinStrings.f k bt192.1 bt192.2).bind fun bt196 => ((spec_JoinStrings.f k bt192.1 bt192.2).bind fun bt198 => ((spec_DrawLessString.f l0).bind fun bt200 => (if bt196.1.toList = bt198.1.toList then (if (bt196.2 != bt198.2) = true then (laws_FnSplitJoin.j0 k bt186.1 bt186.2 bt188.1 bt188.2 true) else ((impl_LessString.f bt200.1 bt200.2).bind fun t202 => ((spec_LessString.f bt200.1 bt200.2).bind fun t203 => (if (t202 != t203) = true then (laws_FnSplitJoin.j0 k bt186.1 bt186.2 bt188.1 bt188.2 true) else ((impl_LessString.f bt200.1 bt200.2).bind fun t204 => (if t204 = true then ((impl_LessString.f bt200.2 bt200.1).bind fun t205 => (laws_FnSplitJoin.j0 k bt186.1 bt186.2 bt188.1 bt188.2 t205)) else (laws_FnSplitJoin.j0 k bt186.1 bt186.2 bt188.1 bt188.2 false))))))) else (laws_FnSplitJoin.j0 k bt186.1 bt186.2 bt188.1 bt188.2 true)))))))))

set_option maxHeartbeats 8000000 in
set_option maxRecDepth 100000 in
theorem laws_FnSplitJoin.calls (k : Nat) (A0 : Option Addr) (c0 : Nat) (l0 : List Int) (r : Bool) (w : World) (hr0 : Kd.C (Kd.int .u8) w A0 l0.length l0) (hc0 : l0.length ≤ c0) (h : laws_FnSplitJoin.f k l0 = some r) :
  Calls Tryd.prog 3 #[.slice A0 l0.length c0] w fun e w' => e = .returned (.bool r) ∧ Below w.heap.size w w' := by
 have HR0 := Aside0.mk hr0
 have HC0 := Aside0.mk hc0
 clear hr0 hc0
 have HB := Aside0.mk (Below.refl w.heap.size w)
 have H : ((laws_vBig.f l0).bind fun t185 => (if t185 = true then (some true) else ((spec_DrawSplitString.f l0).bind fun bt186 => ((impl_SplitString.f bt186.1 bt186.2).bind fun bt188 => ((spec_DrawJoinStrings.f k l0).bind fun bt192 => ((impl_JoinStrings.f k bt192.1 bt192.2).bind fun bt196 => ((spec_JoinStrings.f k bt192.1 bt192.2).bind fun bt198 => ((spec_DrawLessString.f l0).bind fun bt200 => (if bt196.1.toList = bt198.1.toList then (if (bt196.2 != bt198.2) = true then (laws_FnSplitJoin.j0 k bt186.1 bt186.2 bt188.1 bt188.2 true) else ((impl_LessString.f bt200.1 bt200.2).bind fun t202 => ((spec_LessString.f bt200.1 bt200.2).bind fun t203 => (if (t202 != t203) = true then (laws_FnSplitJoin.j0 k bt186.1 bt186.2 bt188.1 bt188.2 true) else ((impl_LessString.f bt200.1 bt200.2).bind fun t204 => (if t204 = true then ((impl_LessString.f bt200.2 bt200.1).bind fun t205 => (laws_FnSplitJoin.j0 k bt186.1 bt186.2 bt188.1 bt188.2 t205)) else (laws_FnSplitJoin.j0 k bt186.1 bt186.2 bt188.1 bt188.2 false))))))) else (laws_FnSplitJoin.j0 k bt186.1 bt186.2 bt188.1 bt188.2 true)))))))))) = some r := h
 clear h
 replace H := Option.bind_eq_some_iff.mp H
 obtain ⟨t185, A20, H⟩ := H
 replace H : (if t185 = true then (some true) else ((spec_DrawSplitString.f l0).bind fun bt186 => ((impl_SplitString.f bt186.1 bt186.2).bind fun bt188 => ((spec_DrawJoinStrings.f k l0).bind fun bt192 => ((impl_JoinStrings.f k bt192.1 bt192.2).bind fun bt196 => ((spec_JoinStrings.f k bt192.1 bt192.2).bind fun bt198 => ((spec_DrawLessString.f l0).bind fun bt200 => (if bt196.1.toList = bt198.1.toList then (if (bt196.2 != bt198.2) = true then (laws_FnSplitJoin.j0 k bt186.1 bt186.2 bt188.1 bt188.2 true) else ((impl_LessString.f bt200.1 bt200.2).bind fun t202 => ((spec_LessString.f bt200.1 bt200.2).bind fun t203 => (if (t202 != t203) = true then (laws_FnSplitJoin.j0 k bt186.1 bt186.2 bt188.1 bt188.2 true) else ((impl_LessString.f bt200.1 bt200.2).bind fun t204 => (if t204 = true then ((impl_LessString.f bt200.2 bt200.1).bind fun t205 => (laws_FnSplitJoin.j0 k bt186.1 bt186.2 bt188.1 bt188.2 t205)) else (laws_FnSplitJoin.j0 k bt186.1 bt186.2 bt188.1 bt188.2 false))))))) else (laws_FnSplitJoin.j0 k bt186.1 bt186.2 bt188.1 bt188.2 true))))))))) = some r := H
 have A2 := Aside0.mk A20
 clear A20
 by_cases c3 : t185 = true
 ·subst c3
  have H1 : (some true) = some r := by rw [if_pos rfl] at H; exact H
  clear H
  have H := H1
  clear H1
  obtain rfl := Option.some.inj H
  go_enter Tryd.func3, Tryd.ntmps3
  go_wp2_with (first | ((with_reducible refine gate_callee (f := 4) rfl ?_); refine goesL_ (some 18) rfl rfl Tryd.func4 (by kernel_rfl) rfl #[.slice A0 l0.length c0] rfl (by (try simp only [List.map_toArray, List.map_cons, List.map_nil]); first | done | rfl | (simp only [List.length_drop, List.length_take]; rfl)) ?_; (with_reducible refine (laws_vBig.calls _ _ l0 true _ ?side1 ?side2 A2.out).mono ?_); (case side1 => repeat (first | exact HR0.out | (with_reducible refine Kd.C_alloc ?_ _) | (with_reducible refine Kd.C_drewN ?_ _) | (with_reducible refine Kd.C_drew ?_))); (case side2 => exact HC0.out); rintro e w' ⟨rfl, ⟨nd, rfl⟩⟩; refine ⟨_, rfl, ?_⟩))
  go_ret
  exact ⟨by first | rfl | (simp [errW_none, errW_some] <;> rfl) | (simp [*, errW_none, errW_some] <;> rfl), by repeat (first | (with_reducible first | exact HB.out | apply below_alloc | apply pw_below_drewN | apply below_drew1) | exact HB.out)⟩
 ·replace c3 := Bool.eq_false_iff.mpr c3
  subst c3
  have H1 : ((spec_DrawSplitString.f l0).bind fun bt186 => ((impl_SplitString.f bt186.1 bt186.2).bind fun bt188 => ((spec_DrawJoinStrings.f k l0).bind fun bt192 => ((impl_JoinStrings.f k bt192.1 bt192.2).bind fun bt196 => ((spec_JoinStrings.f k bt192.1 bt192.2).bind fun bt198 => ((spec_DrawLessString.f l0).bind fun bt200 => (if bt196.1.toList = bt198.1.toList then (if (bt196.2 != bt198.2) = true then (laws_FnSplitJoin.j0 k bt186.1 bt186.2 bt188.1 bt188.2 true) else ((impl_LessString.f bt200.1 bt200.2).bind fun t202 => ((spec_LessString.f bt200.1 bt200.2).bind fun t203 => (if (t202 != t203) = true then (laws_FnSplitJoin.j0 k bt186.1 bt186.2 bt188.1 bt188.2 true) else ((impl_LessString.f bt200.1 bt200.2).bind fun t204 => (if t204 = true then ((impl_LessString.f bt200.2 bt200.1).bind fun t205 => (laws_FnSplitJoin.j0 k bt186.1 bt186.2 bt188.1 bt188.2 t205)) else (laws_FnSplitJoin.j0 k bt186.1 bt186.2 bt188.1 bt188.2 false))))))) else (laws_FnSplitJoin.j0 k bt186.1 bt186.2 bt188.1 bt188.2 true)))))))) = some r := by rw [if_neg (show ¬ (false = true) by decide)] at H; exact H
  clear H
  have H := H1
  clear H1
  replace H := Option.bind_eq_some_iff.mp H
  obtain ⟨⟨t186, t187⟩, A40, H⟩ := H
  replace H : ((impl_SplitString.f t186 t187).bind fun bt188 => ((spec_DrawJoinStrings.f k l0).bind fun bt192 => ((impl_JoinStrings.f k bt192.1 bt192.2).bind fun bt196 => ((spec_JoinStrings.f k bt192.1 bt192.2).bind fun bt198 => ((spec_DrawLessString.f l0).bind fun bt200 => (if bt196.1.toList = bt198.1.toList then (if (bt196.2 != bt198.2) = true then (laws_FnSplitJoin.j0 k t186 t187 bt188.1 bt188.2 true) else ((impl_LessString.f bt200.1 bt200.2).bind fun t202 => ((spec_LessString.f bt200.1 bt200.2).bind fun t203 => (if (t202 != t203) = true then (laws_FnSplitJoin.j0 k t186 t187 bt188.1 bt188.2 true) else ((impl_LessString.f bt200.1 bt200.2).bind fun t204 => (if t204 = true then ((impl_LessString.f bt200.2 bt200.1).bind fun t205 => (laws_FnSplitJoin.j0 k t186 t187 bt188.1 bt188.2 t205)) else (laws_FnSplitJoin.j0 k t186 t187 bt188.1 bt188.2 false))))))) else (laws_FnSplitJoin.j0 k t186 t187 bt188.1 bt188.2 true))))))) = some r := H
  have A4 := Aside0.mk A40
  clear A40
  replace H := Option.bind_eq_some_iff.mp H
  obtain ⟨⟨t188, t189⟩, A50, H⟩ := H
  replace H : ((spec_DrawJoinStrings.f k l0).bind fun bt192 => ((impl_JoinStrings.f k bt192.1 bt192.2).bind fun bt196 => ((spec_JoinStrings.f k bt192.1 bt192.2).bind fun bt198 => ((spec_DrawLessString.f l0).bind fun bt200 => (if bt196.1.toList = bt198.1.toList then (if (bt196.2 != bt198.2) = true then (laws_FnSplitJoin.j0 k t186 t187 t188 t189 true) else ((impl_LessString.f bt200.1 bt200.2).bind fun t202 => ((spec_LessString.f bt200.1 bt200.2).bind fun t203 => (if (t202 != t203) = true then (laws_FnSplitJoin.j0 k t186 t187 t188 t189 true) else ((impl_LessString.f bt200.1 bt200.2).bind fun t204 => (if t204 = true then ((impl_LessString.f bt200.2 bt200.1).bind fun t205 => (laws_FnSplitJoin.j0 k t186 t187 t188 t189 t205)) else (laws_FnSplitJoin.j0 k t186 t187 t188 t189 false))))))) else (laws_FnSplitJoin.j0 k t186 t187 t188 t189 true)))))) = some r := H
  have A5 := Aside0.mk A50
  clear A50
  replace H := Option.bind_eq_some_iff.mp H
  obtain ⟨⟨t192, t193⟩, A60, H⟩ := H
  replace H : ((impl_JoinStrings.f k t192 t193).bind fun bt196 => ((spec_JoinStrings.f k t192 t193).bind fun bt198 => ((spec_DrawLessString.f l0).bind fun bt200 => (if bt196.1.toList = bt198.1.toList then (if (bt196.2 != bt198.2) = true then (laws_FnSplitJoin.j0 k t186 t187 t188 t189 true) else ((impl_LessString.f bt200.1 bt200.2).bind fun t202 => ((spec_LessString.f bt200.1 bt200.2).bind fun t203 => (if (t202 != t203) = true then (laws_FnSplitJoin.j0 k t186 t187 t188 t189 true) else ((impl_LessString.f bt200.1 bt200.2).bind fun t204 => (if t204 = true then ((impl_LessString.f bt200.2 bt200.1).bind fun t205 => (laws_FnSplitJoin.j0 k t186 t187 t188 t189 t205)) else (laws_FnSplitJoin.j0 k t186 t187 t188 t189 false))))))) else (laws_FnSplitJoin.j0 k t186 t187 t188 t189 true))))) = some r := H
  have A6 := Aside0.mk A60
  clear A60
  replace H := Option.bind_eq_some_iff.mp H
  obtain ⟨⟨t196, t197⟩, A70, H⟩ := H
  replace H : ((spec_JoinStrings.f k t192 t193).bind fun bt198 => ((spec_DrawLessString.f l0).bind fun bt200 => (if t196.toList = bt198.1.toList then (if (t197 != bt198.2) = true then (laws_FnSplitJoin.j0 k t186 t187 t188 t189 true) else ((impl_LessString.f bt200.1 bt200.2).bind fun t202 => ((spec_LessString.f bt200.1 bt200.2).bind fun t203 => (if (t202 != t203) = true then (laws_FnSplitJoin.j0 k t186 t187 t188 t189 true) else ((impl_LessString.f bt200.1 bt200.2).bind fun t204 => (if t204 = true then ((impl_LessString.f bt200.2 bt200.1).bind fun t205 => (laws_FnSplitJoin.j0 k t186 t187 t188 t189 t205)) else (laws_FnSplitJoin.j0 k t186 t187 t188 t189 false))))))) else (laws_FnSplitJoin.j0 k t186 t187 t188 t189 true)))) = some r := H
  have A7 := Aside0.mk A70
  clear A70
  replace H := Option.bind_eq_some_iff.mp H
  obtain ⟨⟨t198, t199⟩, A80, H⟩ := H
  replace H : ((spec_DrawLessString.f l0).bind fun bt200 => (if t196.toList = t198.toList then (if (t197 != t199) = true then (laws_FnSplitJoin.j0 k t186 t187 t188 t189 true) else ((impl_LessString.f bt200.1 bt200.2).bind fun t202 => ((spec_LessString.f bt200.1 bt200.2).bind fun t203 => (if (t202 != t203) = true then (laws_FnSplitJoin.j0 k t186 t187 t188 t189 true) else ((impl_LessString.f bt200.1 bt200.2).bind fun t204 => (if t204 = true then ((impl_LessString.f bt200.2 bt200.1).bind fun t205 => (laws_FnSplitJoin.j0 k t186 t187 t188 t189 t205)) else (laws_FnSplitJoin.j0 k t186 t187 t188 t189 false))))))) else (laws_FnSplitJoin.j0 k t186 t187 t188 t189 true))) = some r := H
  have A8 := Aside0.mk A80
  clear A80
  replace H := Option.bind_eq_some_iff.mp H
  obtain ⟨⟨t200, t201⟩, A90, H⟩ := H
  replace H : (if t196.toList = t198.toList then (if (t197 != t199) = true then (laws_FnSplitJoin.j0 k t186 t187 t188 t189 true) else ((impl_LessString.f t200 t201).bind fun t202 => ((spec_LessString.f t200 t201).bind fun t203 => (if (t202 != t203) = true then (laws_FnSplitJoin.j0 k t186 t187 t188 t189 true) else ((impl_LessString.f t200 t201).bind fun t204 => (if t204 = true then ((impl_LessString.f t201 t200).bind fun t205 => (laws_FnSplitJoin.j0 k t186 t187 t188 t189 t205)) else (laws_FnSplitJoin.j0 k t186 t187 t188 t189 false))))))) else (laws_FnSplitJoin.j0 k t186 t187 t188 t189 true)) = some r := H
  have A9 := Aside0.mk A90
  clear A90
  have HC10 := Aside0.mk H
  clear H
  go_enter Tryd.func3, Tryd.ntmps3
  go_upto_region 9 with (first | ((with_reducible refine gate_callee (f := 4) rfl ?_); refine goesL_ (some 18) rfl rfl Tryd.func4 (by kernel_rfl) rfl #[.slice A0 l0.length c0] rfl (by (try simp only [List.map_toArray, List.map_cons, List.map_nil]); first | done | rfl | (simp only [List.length_drop, List.length_take]; rfl)) ?_; (with_reducible refine (laws_vBig.calls _ _ l0 false _ ?side1 ?side2 A2.out).mono ?_); (case side1 => repeat (first | exact HR0.out | (with_reducible refine Kd.C_alloc ?_ _) | (with_reducible refine Kd.C_drewN ?_ _) | (with_reducible refine Kd.C_drew ?_))); (case side2 => exact HC0.out); rintro e w' ⟨rfl, ⟨nd, rfl⟩⟩; refine ⟨_, rfl, ?_⟩) | ((with_reducible refine gate_callee (f := 5) rfl ?_); refine goesL_ (some 21) rfl rfl Tryd.func5 (by kernel_rfl) rfl #[.slice A0 l0.length c0] rfl (by (try simp only [List.map_toArray, List.map_cons, List.map_nil]); first | done | rfl | (simp only [List.length_drop, List.length_take]; rfl)) ?_; (with_reducible refine (spec_DrawSplitString.calls _ _ l0 t186 t187 _ ?side1 ?side2 A4.out).mono ?_); (case side1 => repeat (first | exact HR0.out | (with_reducible refine Kd.C_alloc ?_ _) | (with_reducible refine Kd.C_drewN ?_ _) | (with_reducible refine Kd.C_drew ?_))); (case side2 => exact HC0.out); rintro e w11 ⟨rfl, hb⟩; refine ⟨_, rfl, ?_⟩; have n0_ := Aside0.mk (below_step (by repeat (first | (with_reducible first | exact HB.out | apply below_alloc | apply pw_below_drewN | apply below_drew1) | exact HB.out)) hb); clear HB; have HB := n0_; clear n0_; (try clear hb); (try clear hb2); (try clear hk); (try clear hi)) | ((with_reducible refine gate_callee (f := 6) rfl ?_); refine goesL_ (some 27) rfl rfl Tryd.func6 (by kernel_rfl) rfl #[.string t186, .string t187] rfl (by (try simp only [List.map_toArray, List.map_cons, List.map_nil]); first | done | rfl | (simp only [List.length_drop, List.length_take]; rfl)) ?_; (with_reducible refine (impl_SplitString.calls t186 t187 t188 t189 _ A5.out).mono ?_); rintro e w12 ⟨v190, rfl, ho0, hb⟩; refine ⟨_, rfl, ?_⟩; have n0_ := Aside0.mk (Kd.R_lower ho0 (below_size (by repeat (first | (with_reducible first | exact HB.out | apply below_alloc | apply pw_below_drewN | apply below_drew1) | exact HB.out)))); have n1_ := Aside0.mk (below_step (by repeat (first | (with_reducible first | exact HB.out | apply below_alloc | apply pw_below_drewN | apply below_drew1) | exact HB.out)) hb); clear HB; have HO191 := n0_; have HB := n1_; clear n0_ n1_; (try clear hb); (try clear hb2); (try clear hk); (try clear hi); (try clear ho0)) | ((with_reducible refine gate_callee (f := 7) rfl ?_); refine goesL_ (some 32) rfl rfl Tryd.func7 (by kernel_rfl) rfl #[.slice A0 l0.length c0] rfl (by (try simp only [List.map_toArray, List.map_cons, List.map_nil]); first | done | rfl | (simp only [List.length_drop, List.length_take]; rfl)) ?_; (with_reducible refine (spec_DrawJoinStrings.calls k _ _ l0 t192 t193 _ ?side1 ?side2 A6.out).mono ?_); (case side1 => repeat (first | exact (Kd.C_below HR0.out HB.out) | (with_reducible refine Kd.C_alloc ?_ _) | (with_reducible refine Kd.C_drewN ?_ _) | (with_reducible refine Kd.C_drew ?_))); (case side2 => exact HC0.out); rintro e w13 ⟨v194, rfl, ho0, hb⟩; refine ⟨_, rfl, ?_⟩; have n0_ := Aside0.mk (Kd.R_elder' (by (with_reducible repeat (first | apply Kd.R_alloc | apply Kd.R_drewN | apply Kd.R_drew)); exact HO191.out) (Kd.R_base ho0) hb); have n1_ := Aside0.mk (Kd.R_lower (Kd.R_new' ho0 (Kd.R_lt (by (with_reducible repeat (first | apply Kd.R_alloc | apply Kd.R_drewN | apply Kd.R_drew)); exact HO191.out))) (below_size (by repeat (first | (with_reducible first | exact HB.out | apply below_alloc | apply pw_below_drewN | apply below_drew1) | exact HB.out)))); have n2_ := Aside0.mk (below_step (by repeat (first | (with_reducible first | exact HB.out | apply below_alloc | apply pw_below_drewN | apply below_drew1) | exact HB.out)) hb); clear HO191; clear HB; have HO191 := n0_; have HO195 := n1_; have HB := n2_; clear n0_ n1_ n2_; (try clear hb); (try clear hb2); (try clear hk); (try clear hi); (try clear ho0); obtain ⟨Ao14, co14, eo14⟩ := Kd.R_slice HO195.out; subst eo14) | ((with_reducible refine gate_callee (f := 8) rfl ?_); refine goesL_ (some 38) rfl rfl Tryd.func8 (by kernel_rfl) rfl #[.slice Ao14 t192.length co14, .string t193] rfl (by (try simp only [List.map_toArray, List.map_cons, List.map_nil]); first | done | rfl | (simp only [List.length_drop, List.length_take]; rfl)) ?_; (with_reducible refine (impl_JoinStrings.calls k _ _ t192 t193 t196 t197 _ ?side1 ?side2 A7.out).mono ?_); (case side1 => repeat (first | exact (Kd.R_reads' HO195.out).2.2 | (with_reducible refine Kd.C_alloc ?_ _) | (with_reducible refine Kd.C_drewN ?_ _) | (with_reducible refine Kd.C_drew ?_))); (case side2 => exact (Kd.R_reads' HO195.out).2.1); rintro e w15 ⟨rfl, hb⟩; refine ⟨_, rfl, ?_⟩; have n0_ := Aside0.mk (Kd.R_below (by (with_reducible repeat (first | apply Kd.R_alloc | apply Kd.R_drewN | apply Kd.R_drew)); exact HO191.out) hb); have n1_ := Aside0.mk (Kd.R_below (by (with_reducible repeat (first | apply Kd.R_alloc | apply Kd.R_drewN | apply Kd.R_drew)); exact HO195.out) hb); have n2_ := Aside0.mk (below_step (by repeat (first | (with_reducible first | exact HB.out | apply below_alloc | apply pw_below_drewN | apply below_drew1) | exact HB.out)) hb); clear HO191; clear HO195; clear HB; have HO191 := n0_; have HO195 := n1_; have HB := n2_; clear n0_ n1_ n2_; (try clear hb); (try clear hb2); (try clear hk); (try clear hi)) | ((with_reducible refine gate_callee (f := 9) rfl ?_); refine goesL_ (some 44) rfl rfl Tryd.func9 (by kernel_rfl) rfl #[.slice Ao14 t192.length co14, .string t193] rfl (by (try simp only [List.map_toArray, List.map_cons, List.map_nil]); first | done | rfl | (simp only [List.length_drop, List.length_take]; rfl)) ?_; (with_reducible refine (spec_JoinStrings.calls k _ _ t192 t193 t198 t199 _ ?side1 ?side2 A8.out).mono ?_); (case side1 => repeat (first | exact (Kd.R_reads' HO195.out).2.2 | (with_reducible refine Kd.C_alloc ?_ _) | (with_reducible refine Kd.C_drewN ?_ _) | (with_reducible refine Kd.C_drew ?_))); (case side2 => exact (Kd.R_reads' HO195.out).2.1); rintro e w' ⟨rfl, ⟨nd, rfl⟩⟩; refine ⟨_, rfl, ?_⟩) | ((with_reducible refine gate_callee (f := 10) rfl ?_); refine goesL_ (some 49) rfl rfl Tryd.func10 (by kernel_rfl) rfl #[.slice A0 l0.length c0] rfl (by (try simp only [List.map_toArray, List.map_cons, List.map_nil]); first | done | rfl | (simp only [List.length_drop, List.length_take]; rfl)) ?_; (with_reducible refine (spec_DrawLessString.calls _ _ l0 t200 t201 _ ?side1 ?side2 A9.out).mono ?_); (case side1 => repeat (first | exact (Kd.C_below HR0.out (by repeat (first | (with_reducible first | exact HB.out | apply below_alloc | apply pw_below_drewN | apply below_drew1) | exact HB.out))) | (with_reducible refine Kd.C_alloc ?_ _) | (with_reducible refine Kd.C_drewN ?_ _) | (with_reducible refine Kd.C_drew ?_))); (case side2 => exact HC0.out); rintro e w16 ⟨rfl, hb⟩; refine ⟨_, rfl, ?_⟩; have n0_ := Aside0.mk (Kd.R_below (by (with_reducible repeat (first | apply Kd.R_alloc | apply Kd.R_drewN | apply Kd.R_drew)); exact HO191.out) hb); have n1_ := Aside0.mk (Kd.R_below (by (with_reducible repeat (first | apply Kd.R_alloc | apply Kd.R_drewN | apply Kd.R_drew)); exact HO195.out) hb); have n2_ := Aside0.mk (below_step (by repeat (first | (with_reducible first | exact HB.out | apply below_alloc | apply pw_below_drewN | apply below_drew1) | exact HB.out)) hb); clear HO191; clear HO195; clear HB; have HO191 := n0_; have HO195 := n1_; have HB := n2_; clear n0_ n1_ n2_; (try clear hb); (try clear hb2); (try clear hk); (try clear hi)))
  (try simp only [Act.put, List.setIfInBounds_toArray, List.set_cons_zero, List.set_cons_succ])
  go_cut [78] (fun v78 wc => ∃ (kq : Nat) (x78_9 : Bool), v78 = .bool x78_9 ∧ Aside0 (laws_FnSplitJoin.j0 kq t186 t187 t188 t189 x78_9 = some r) ∧ Aside0 (kq ≤ k) ∧ Aside0 (Kd.R Kd.string 9 wc w.heap.size (fun _ => True) v190 t188) ∧ Aside0 (Below w.heap.size w wc))
  case first =>
   have H := HC10.out
   clear HC10
   by_cases c17 : t196.toList = t198.toList
   ·rw [if_pos c17] at H
    have c17b0 : (t196.toList == t198.toList) = true := beq_iff_eq.mpr c17
    have c17b1 : (t196.toList != t198.toList) = false := bne_eq_false_iff_eq.mpr c17
    clear c17
    (first | rw [c17b0] | (simp only [i64_w, i32_w]; rw [c17b0]) | skip)
    by_cases c18 : (t197 != t199) = true
    ·rw [if_pos c18] at H
     have c18b0 : (t197 != t199) = true := c18
     (try (have c18b1 : decide (t197 = t199) = false := by simpa using c18))
     (try (have c18b2 : (t197 == t199) = false := by simpa using c18))
     (try (have c18b3 : ¬ (t197 = t199) := by simpa using c18))
     clear c18
     have H' := Aside0.mk H
     clear H
     go_wp2
     go_meet
     case rel => exact ⟨_, (true), (by first | rfl | (simp; done) | (simp [*]; done)), H', ⟨by first | omega | exact Nat.le_refl _⟩, ⟨by (with_reducible repeat (first | apply Kd.R_alloc | apply Kd.R_drewN | apply Kd.R_drew)); exact Kd.R_mono HO191.out (fun _ hk => trivial)⟩, ⟨by repeat (first | (with_reducible first | exact HB.out | apply below_alloc | apply pw_below_drewN | apply below_drew1) | exact HB.out)⟩⟩
    ·rw [if_neg c18] at H
     have c18b0 : (t197 != t199) = false := by simpa using c18
     (try (have c18b1 : decide (t197 = t199) = true := by simpa using c18))
     (try (have c18b2 : (t197 == t199) = true := by simpa using c18))
     clear c18
     replace H := Option.bind_eq_some_iff.mp H
     obtain ⟨t202, A190, H⟩ := H
     replace H : ((spec_LessString.f t200 t201).bind fun t203 => (if (t202 != t203) = true then (laws_FnSplitJoin.j0 k t186 t187 t188 t189 true) else ((impl_LessString.f t200 t201).bind fun t204 => (if t204 = true then ((impl_LessString.f t201 t200).bind fun t205 => (laws_FnSplitJoin.j0 k t186 t187 t188 t189 t205)) else (laws_FnSplitJoin.j0 k t186 t187 t188 t189 false))))) = some r := H
     have A19 := Aside0.mk A190
     clear A190
     replace H := Option.bind_eq_some_iff.mp H
     obtain ⟨t203, A200, H⟩ := H
     replace H : (if (t202 != t203) = true then (laws_FnSplitJoin.j0 k t186 t187 t188 t189 true) else ((impl_LessString.f t200 t201).bind fun t204 => (if t204 = true then ((impl_LessString.f t201 t200).bind fun t205 => (laws_FnSplitJoin.j0 k t186 t187 t188 t189 t205)) else (laws_FnSplitJoin.j0 k t186 t187 t188 t189 false)))) = some r := H
     have A20 := Aside0.mk A200
     clear A200
     by_cases c21 : (t202 != t203) = true
     ·rw [if_pos c21] at H
      have c21b0 : (t202 != t203) = true := c21
      (try (have c21b1 : decide (t202 = t203) = false := by simpa using c21))
      (try (have c21b2 : (t202 == t203) = false := by simpa using c21))
      (try (have c21b3 : ¬ (t202 = t203) := by simpa using c21))
      clear c21
      have H' := Aside0.mk H
      clear H
      go_wp2_with (first | (go_at_call 11; (with_reducible refine (impl_LessString.calls t200 t201 t202 _ A19.out).mono ?_); rintro e w' ⟨rfl, ⟨nd, rfl⟩⟩) | (go_at_call 12; (with_reducible refine (spec_LessString.calls t200 t201 t203 _ A20.out).mono ?_); rintro e w' ⟨rfl, ⟨nd, rfl⟩⟩))
      go_meet
      case rel => exact ⟨_, (true), (by first | rfl | (simp; done) | (simp [*]; done)), H', ⟨by first | omega | exact Nat.le_refl _⟩, ⟨by (with_reducible repeat (first | apply Kd.R_alloc | apply Kd.R_drewN | apply Kd.R_drew)); exact Kd.R_mono HO191.out (fun _ hk => trivial)⟩, ⟨by repeat (first | (with_reducible first | exact HB.out | apply below_alloc | apply pw_below_drewN | apply below_drew1) | exact HB.out)⟩⟩
     ·rw [if_neg c21] at H
      have c21b0 : (t202 != t203) = false := by simpa using c21
      (try (have c21b1 : decide (t202 = t203) = true := by simpa using c21))
      (try (have c21b2 : (t202 == t203) = true := by simpa using c21))
      clear c21
      replace H := Option.bind_eq_some_iff.mp H
      obtain ⟨t204, A220, H⟩ := H
      replace H : (if t204 = true then ((impl_LessString.f t201 t200).bind fun t205 => (laws_FnSplitJoin.j0 k t186 t187 t188 t189 t205)) else (laws_FnSplitJoin.j0 k t186 t187 t188 t189 false)) = some r := H
      have A22 := Aside0.mk A220
      clear A220
      by_cases c23 : t204 = true
      ·subst c23
       have H1 : ((impl_LessString.f t201 t200).bind fun t205 => (laws_FnSplitJoin.j0 k t186 t187 t188 t189 t205)) = some r := by rw [if_pos rfl] at H; exact H
       clear H
       have H := H1
       clear H1
       replace H := Option.bind_eq_some_iff.mp H
       obtain ⟨t205, A240, H⟩ := H
       replace H : (laws_FnSplitJoin.j0 k t186 t187 t188 t189 t205) = some r := H
       have A24 := Aside0.mk A240
       clear A240
       have H' := Aside0.mk H
       clear H
       have A20b_ : Aside0 (spec_LessString.f t200 t201 = some true) := ⟨by have e1_ := Option.some.inj (A19.out.symm.trans A22.out); have e2_ : t202 = t203 := (show ∀ a b : Bool, (a != b) = false → a = b from by decide) _ _ c21b0; rw [A20.out, ← e2_, e1_]⟩
       go_wp2_with (first | (go_at_call 11; (with_reducible refine (impl_LessString.calls t200 t201 true _ A22.out).mono ?_); rintro e w' ⟨rfl, ⟨nd, rfl⟩⟩) | (go_at_call 12; (with_reducible refine (spec_LessString.calls t200 t201 true _ A20b_.out).mono ?_); rintro e w' ⟨rfl, ⟨nd, rfl⟩⟩) | (go_at_call 11; (with_reducible refine (impl_LessString.calls t200 t201 true _ A22.out).mono ?_); rintro e w' ⟨rfl, ⟨nd, rfl⟩⟩) | (go_at_call 11; (with_reducible refine (impl_LessString.calls t201 t200 t205 _ A24.out).mono ?_); rintro e w' ⟨rfl, ⟨nd, rfl⟩⟩))
       go_meet
       case rel => exact ⟨_, (t205), (by first | rfl | (simp; done) | (simp [*]; done)), H', ⟨by first | omega | exact Nat.le_refl _⟩, ⟨by (with_reducible repeat (first | apply Kd.R_alloc | apply Kd.R_drewN | apply Kd.R_drew)); exact Kd.R_mono HO191.out (fun _ hk => trivial)⟩, ⟨by repeat (first | (with_reducible first | exact HB.out | apply below_alloc | apply pw_below_drewN | apply below_drew1) | exact HB.out)⟩⟩
      ·replace c23 := Bool.eq_false_iff.mpr c23
       subst c23
       have H1 : (laws_FnSplitJoin.j0 k t186 t187 t188 t189 false) = some r := by rw [if_neg (show ¬ (false = true) by decide)] at H; exact H
       clear H
       have H := H1
       clear H1
       have H' := Aside0.mk H
       clear H
       have A20b_ : Aside0 (spec_LessString.f t200 t201 = some false) := ⟨by have e1_ := Option.some.inj (A19.out.symm.trans A22.out); have e2_ : t202 = t203 := (show ∀ a b : Bool, (a != b) = false → a = b from by decide) _ _ c21b0; rw [A20.out, ← e2_, e1_]⟩
       go_wp2_with (first | (go_at_call 11; (with_reducible refine (impl_LessString.calls t200 t201 false _ A22.out).mono ?_); rintro e w' ⟨rfl, ⟨nd, rfl⟩⟩) | (go_at_call 12; (with_reducible refine (spec_LessString.calls t200 t201 false _ A20b_.out).mono ?_); rintro e w' ⟨rfl, ⟨nd, rfl⟩⟩) | (go_at_call 11; (with_reducible refine (impl_LessString.calls t200 t201 false _ A22.out).mono ?_); rintro e w' ⟨rfl, ⟨nd, rfl⟩⟩))
       go_meet
       case rel => exact ⟨_, (false), (by first | rfl | (simp; done) | (simp [*]; done)), H', ⟨by first | omega | exact Nat.le_refl _⟩, ⟨by (with_reducible repeat (first | apply Kd.R_alloc | apply Kd.R_drewN | apply Kd.R_drew)); exact Kd.R_mono HO191.out (fun _ hk => trivial)⟩, ⟨by repeat (first | (with_reducible first | exact HB.out | apply below_alloc | apply pw_below_drewN | apply below_drew1) | exact HB.out)⟩⟩
   ·rw [if_neg c17] at H
    have c17b0 : (t196.toList == t198.toList) = false := beq_eq_false_iff_ne.mpr c17
    have c17b1 : (t196.toList != t198.toList) = true := bne_iff_ne.mpr c17
    (first | rw [c17b0] | (simp only [i64_w, i32_w]; rw [c17b0]) | skip)
    have H' := Aside0.mk H
    clear H
    go_wp2
    go_meet
    case rel => exact ⟨_, (true), (by first | rfl | (simp; done) | (simp [*]; done)), H', ⟨by first | omega | exact Nat.le_refl _⟩, ⟨by (with_reducible repeat (first | apply Kd.R_alloc | apply Kd.R_drewN | apply Kd.R_drew)); exact Kd.R_mono HO191.out (fun _ hk => trivial)⟩, ⟨by repeat (first | (with_reducible first | exact HB.out | apply below_alloc | apply pw_below_drewN | apply below_drew1) | exact HB.out)⟩⟩
  case rest =>
   clear HC10
   try clear c1
   try clear c2
   try clear p2
   try clear c3
   try clear c4
   try clear c5
   try clear c6
   try clear c7
   try clear c8
   try clear c9
   try clear c10
   try clear c17
   try clear c17b0
   try clear c17b1
   try clear c18
   try clear c18b0
   try clear c18b1
   try clear c18b2
   try clear c21
   try clear c21b0
   try clear c21b1
   try clear c21b2
   try clear c23
   obtain ⟨kq, x78_9, rfl, HA, HJ9, HO_5, HB⟩ := hcut
   cases kq with
   | zero => exact absurd HA.out (by simp [laws_FnSplitJoin.j0])
   | succ kj9 =>
    have H := HA.out
    clear HA
    simp only [laws_FnSplitJoin.j0] at H
    by_cases c25 : x78_9 = true
    ·subst c25
     have H1 : (none) = some r := by rw [if_pos rfl] at H; exact H
     clear H
     have H := H1
     clear H1
     exact absurd H (by simp)
    ·replace c25 := Bool.eq_false_iff.mpr c25
     subst c25
     have H1 : (if (t187.size : Int) = 1 then ((impl_JoinStrings.f kj9 t188 t187).bind fun bt206 => (if t189 = true then (if bt206.2 = true then (some (bt206.1.toList == t186.toList)) else (none)) else (none))) else (if t189 = true then (none) else (some ((t188.length : Int) == 0)))) = some r := by rw [if_neg (show ¬ (false = true) by decide)] at H; exact H
     clear H
     have H := H1
     clear H1
     by_cases c26 : (t187.size : Int) = 1
     ·rw [if_pos c26] at H
      have c26b0 : ((t187.size : Int) == 1) = true := beq_iff_eq.mpr c26
      have c26b1 : ((t187.size : Int) != 1) = false := bne_eq_false_iff_eq.mpr c26
      clear c26
      replace H := Option.bind_eq_some_iff.mp H
      obtain ⟨⟨t206, t207⟩, A270, H⟩ := H
      replace H : (if t189 = true then (if t207 = true then (some (t206.toList == t186.toList)) else (none)) else (none)) = some r := H
      have A27 := Aside0.mk A270
      clear A270
      by_cases c28 : t189 = true
      ·subst c28
       have H1 : (if t207 = true then (some (t206.toList == t186.toList)) else (none)) = some r := by rw [if_pos rfl] at H; exact H
       clear H
       have H := H1
       clear H1
       by_cases c29 : t207 = true
       ·subst c29
        have H1 : (some (t206.toList == t186.toList)) = some r := by rw [if_pos rfl] at H; exact H
        clear H
        have H := H1
        clear H1
        obtain rfl := Option.some.inj H
        obtain ⟨Ao30, co30, eo30⟩ := Kd.R_slice HO_5.out
        subst eo30
        go_wp2_with (first | ((with_reducible refine gate_callee (f := 8) rfl ?_); refine goesL_ (some 92) rfl rfl Tryd.func8 (by kernel_rfl) rfl #[.slice Ao30 t188.length co30, .string t187] rfl (by (try simp only [List.map_toArray, List.map_cons, List.map_nil]); first | done | rfl | (simp only [List.length_drop, List.length_take]; rfl)) ?_; (with_reducible refine (impl_JoinStrings.calls kj9 _ _ t188 t187 t206 true _ ?side1 ?side2 A27.out).mono ?_); (case side1 => repeat (first | exact (Kd.R_reads' HO_5.out).2.2 | (with_reducible refine Kd.C_alloc ?_ _) | (with_reducible refine Kd.C_drewN ?_ _) | (with_reducible refine Kd.C_drew ?_))); (case side2 => exact (Kd.R_reads' HO_5.out).2.1); rintro e w31 ⟨rfl, hb⟩; refine ⟨_, rfl, ?_⟩; have n0_ := Aside0.mk (Kd.R_below (by (with_reducible repeat (first | apply Kd.R_alloc | apply Kd.R_drewN | apply Kd.R_drew)); exact HO_5.out) hb); have n1_ := Aside0.mk (below_step (by repeat (first | (with_reducible first | exact HB.out | apply below_alloc | apply pw_below_drewN | apply below_drew1) | exact HB.out)) hb); clear HO_5; clear HB; have HO_5 := n0_; have HB := n1_; clear n0_ n1_; (try clear hb); (try clear hb2); (try clear hk); (try clear hi)))
        go_ret
        exact ⟨by first | rfl | (simp [errW_none, errW_some] <;> rfl) | (simp [*, errW_none, errW_some] <;> rfl), by repeat (first | (with_reducible first | exact HB.out | apply below_alloc | apply pw_below_drewN | apply below_drew1) | exact HB.out)⟩
       ·replace c29 := Bool.eq_false_iff.mpr c29
        subst c29
        have H1 : (none) = some r := by rw [if_neg (show ¬ (false = true) by decide)] at H; exact H
        clear H
        have H := H1
        clear H1
        exact absurd H (by simp)
      ·replace c28 := Bool.eq_false_iff.mpr c28
       subst c28
       have H1 : (none) = some r := by rw [if_neg (show ¬ (false = true) by decide)] at H; exact H
       clear H
       have H := H1
       clear H1
       exact absurd H (by simp)
     ·rw [if_neg c26] at H
      have c26b0 : ((t187.size : Int) == 1) = false := beq_eq_false_iff_ne.mpr c26
      have c26b1 : ((t187.size : Int) != 1) = true := bne_iff_ne.mpr c26
      by_cases c32 : t189 = true
      ·subst c32
       have H1 : (none) = some r := by rw [if_pos rfl] at H; exact H
       clear H
       have H := H1
       clear H1
       exact absurd H (by simp)
      ·replace c32 := Bool.eq_false_iff.mpr c32
       subst c32
       have H1 : (some ((t188.length : Int) == 0)) = some r := by rw [if_neg (show ¬ (false = true) by decide)] at H; exact H
       clear H
       have H := H1
       clear H1
       obtain rfl := Option.some.inj H
       obtain ⟨Ao33, co33, eo33⟩ := Kd.R_slice HO_5.out
       subst eo33
       go_wp2
       go_ret
       exact ⟨by first | rfl | (simp [errW_none, errW_some] <;> rfl) | (simp [*, errW_none, errW_some] <;> rfl), by repeat (first | (with_reducible first | exact HB.out | apply below_alloc | apply pw_below_drewN | apply below_drew1) | exact HB.out)⟩

/-- THE ONE PURE STATEMENT of laws_FnSplitJoin: yours. -/
def laws_FnSplitJoin.Pure : Prop := ∀ (l0 : List Int), l0.length ≤ maxLen → l0.length * 1 ≤ 140737488351232 → (∀ x ∈ l0, (Lit.int .u8 x).wf = true) → ∃ k, laws_FnSplitJoin.f k l0 = some true
theorem laws_FnSplitJoin.walk (P : laws_FnSplitJoin.Pure) (a0 : Option Addr) (len0 cap0 : Nat) (z0 : List Int) (w : World) (w0 : (a0 = none ∧ len0 = 0 ∧ cap0 = 0 ∧ z0 = []) ∨ ∃ x, a0 = some x ∧ len0 ≤ cap0 ∧ cap0 ≤ maxLen ∧ z0.length = cap0 ∧ (∀ i, i < z0.length → w.cell? (x.add i) = some (.int .u8 (z0.getD i 0))) ∧ ∀ n ∈ z0, (Lit.int .u8 n).wf = true) (y0 : len0 * 1 ≤ 140737488351232) :
  Calls Tryd.prog 3 #[.slice a0 len0 cap0] w fun e w' => e = .returned (.bool true) ∧ Below w.heap.size w w' := by
 obtain ⟨l0, rfl, hr0, hm0, hw0, hc0⟩ := ReadsInt.ofRowC w0
 obtain ⟨k, h⟩ := P l0 hm0 y0 hw0
 refine (laws_FnSplitJoin.calls k _ _ l0 true w (Kd.C_of_reads (d := (0 : Int)) (h1 := fun _ => rfl) hr0) hc0 h).mono ?_
 rintro e w' ⟨rfl, hd⟩
 exact ⟨rfl, hd⟩

end Go.Proofs.YtplhkmeoeojinaaDoor.H
