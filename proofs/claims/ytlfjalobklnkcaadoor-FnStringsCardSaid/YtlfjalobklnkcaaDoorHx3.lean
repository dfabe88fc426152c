-- Written by wip/hook.py of this repo: the kit's print over all of the seat's laws, with texts of this repo for what it does not take. Lean checks it.
import Derived.Test.YtlfjalobklnkcaaDoorHx0
import Derived.Test.YtlfjalobklnkcaaDoorHx1
import Derived.Test.YtlfjalobklnkcaaDoorHx2
import Derived.Test.YtlfjalobklnkcaaDoorWLast
import Derived.Test.YtlfjalobklnkcaaDoorWMore
import Derived.Test.YtlfjalobklnkcaaDoorWWords
namespace Go.Proofs.YtlfjalobklnkcaaDoor.H
open Go.RowKit Go.Proofs.YtlfjalobklnkcaaDoorW.PrintWords Go.Proofs.YtlfjalobklnkcaaDoorW.PrintLast Go.Proofs.YtlfjalobklnkcaaDoorW.PrintMore
attribute [local go_sem] max2_int min2_int max_two min_two max_three min_three max_four min_four   -- for this text's walks alone
set_option linter.unusedVariables false
set_option linter.unusedSimpArgs false

/-! ### laws_FnStrings: function 3 -/
mutual
def laws_FnStrings.j0 : Nat → List Int → Int → ByteArray → Bool → ByteArray → ByteArray → Bool → Bool → Option (Bool)
 | 0, _, _, _, _, _, _, _, _ => none
 | k + 1, x0, x3, x4, x5, x13, x14, x15, x91 => if x91 = true then (none) else ((impl_ParseInt.f x4).bind fun bt204 => (if x5 = true then (if bt204.2 = true then (laws_FnStrings.j1 k x0 x13 x14 x15 (bt204.1 != x3)) else (laws_FnStrings.j1 k x0 x13 x14 x15 true)) else (laws_FnStrings.j1 k x0 x13 x14 x15 false)))
def laws_FnStrings.j1 : Nat → List Int → ByteArray → ByteArray → Bool → Bool → Option (Bool)
 | 0, _, _, _, _, _ => none
 | k + 1, x0, x13, x14, x15, x106 => if x106 = true then (none) else (if x15 = true then ((impl_VerifyChecksum.f k x14).bind fun bt206 => ((laws_vAt.f x0 9).bind fun t208 => (if (x14.size : Int) = 0 then (none) else ((laws_vAt.f x0 10).bind fun t209 => ((flipByte.f x14 (Int.tmod t208 (x14.size : Int)) ((wrap64 (1 + (Int.tmod t209 255))) % 256)).bind fun t210 => ((impl_VerifyChecksum.f k t210).bind fun bt211 => (if bt206.2 = true then (if bt206.1.toList = x13.toList then (some (!bt211.2)) else (none)) else (none)))))))) else (some (x14.toList == ([] : List UInt8))))
end
def laws_FnStrings.f (k : Nat) (l0 : List Int) : Option (Bool) := (laws_vBig.f l0).bind fun t188 => (if t188 = true then (some true) else ((spec_DrawFormatInt.f l0).bind fun t189 => ((impl_FormatInt.f t189).bind fun bt190 => ((spec_FormatInt.f k t189).bind fun bt192 => ((spec_DrawParseInt.f k l0).bind fun t194 => ((impl_ParseInt.f t194).bind fun bt195 => ((spec_ParseInt.f k t194).bind fun bt197 => ((spec_DrawAppendChecksum.f l0).bind fun t199 => ((impl_AppendChecksum.f k t199).bind fun bt200 => ((spec_AppendChecksum.f k t199).bind fun bt202 => (if bt190.1.toList = bt192.1.toList then (if (bt190.2 != bt192.2) = true then (laws_FnStrings.j0 k l0 t189 bt190.1 bt190.2 t199 bt200.1 bt200.2 true) else (if bt195.1 = bt197.1 then (if (bt195.2 != bt197.2) = true then (laws_FnStrings.j0 k l0 t189 bt190.1 bt190.2 t199 bt200.1 bt200.2 true) else (if bt200.1.toList = bt202.1.toList then (laws_FnStrings.j0 k l0 t189 bt190.1 bt190.2 t199 bt200.1 bt200.2 (bt200.2 != bt202.2)) else (laws_FnStrings.j0 k l0 t189 bt190.1 bt190.2 t199 bt200.1 bt200.2 true))) else (laws_FnStrings.j0 k l0 t189 bt190.1 bt190.2 t199 bt200.1 bt200.2 true))) else (laws_FnStrings.j0 k l0 t189 bt190.1 bt190.2 t199 bt200.1 bt200.2 true))))))))))))

set_option maxHeartbeats 8000000 in
set_option maxRecDepth 100000 in
theorem laws_FnStrings.calls (k : Nat) (A0 : Option Addr) (c0 : Nat) (l0 : List Int) (r : Bool) (w : World) (hr0 : Kd.C (Kd.int .u8) w A0 l0.length l0) (hc0 : l0.length ≤ c0) (h : laws_FnStrings.f k l0 = some r) (hT_ : TABF w) :
  Calls Tryd.prog 3 #[.slice A0 l0.length c0] w fun e w' => e = .returned (.bool r) ∧ Below w.heap.size w w' := by
 have HT_ : Aside0 (∀ W, Below w.heap.size w W → TABF W) := ⟨fun W hb => TABF_below hT_ hb⟩
 clear hT_
 have HR0 := Aside0.mk hr0
 have HC0 := Aside0.mk hc0
 clear hr0 hc0
 have HB := Aside0.mk (Below.refl w.heap.size w)
 have H : ((laws_vBig.f l0).bind fun t188 => (if t188 = true then (some true) else ((spec_DrawFormatInt.f l0).bind fun t189 => ((impl_FormatInt.f t189).bind fun bt190 => ((spec_FormatInt.f k t189).bind fun bt192 => ((spec_DrawParseInt.f k l0).bind fun t194 => ((impl_ParseInt.f t194).bind fun bt195 => ((spec_ParseInt.f k t194).bind fun bt197 => ((spec_DrawAppendChecksum.f l0).bind fun t199 => ((impl_AppendChecksum.f k t199).bind fun bt200 => ((spec_AppendChecksum.f k t199).bind fun bt202 => (if bt190.1.toList = bt192.1.toList then (if (bt190.2 != bt192.2) = true then (laws_FnStrings.j0 k l0 t189 bt190.1 bt190.2 t199 bt200.1 bt200.2 true) else (if bt195.1 = bt197.1 then (if (bt195.2 != bt197.2) = true then (laws_FnStrings.j0 k l0 t189 bt190.1 bt190.2 t199 bt200.1 bt200.2 true) else (if bt200.1.toList = bt202.1.toList then (laws_FnStrings.j0 k l0 t189 bt190.1 bt190.2 t199 bt200.1 bt200.2 (bt200.2 != bt202.2)) else (laws_FnStrings.j0 k l0 t189 bt190.1 bt190.2 t199 bt200.1 bt200.2 true))) else (laws_FnStrings.j0 k l0 t189 bt190.1 bt190.2 t199 bt200.1 bt200.2 true))) else (laws_FnStrings.j0 k l0 t189 bt190.1 bt190.2 t199 bt200.1 bt200.2 true))))))))))))) = some r := h
 clear h
 replace H := Option.bind_eq_some_iff.mp H
 obtain ⟨t188, A20, H⟩ := H
 replace H : (if t188 = true then (some true) else ((spec_DrawFormatInt.f l0).bind fun t189 => ((impl_FormatInt.f t189).bind fun bt190 => ((spec_FormatInt.f k t189).bind fun bt192 => ((spec_DrawParseInt.f k l0).bind fun t194 => ((impl_ParseInt.f t194).bind fun bt195 => ((spec_ParseInt.f k t194).bind fun bt197 => ((spec_DrawAppendChecksum.f l0).bind fun t199 => ((impl_AppendChecksum.f k t199).bind fun bt200 => ((spec_AppendChecksum.f k t199).bind fun bt202 => (if bt190.1.toList = bt192.1.toList then (if (bt190.2 != bt192.2) = true then (laws_FnStrings.j0 k l0 t189 bt190.1 bt190.2 t199 bt200.1 bt200.2 true) else (if bt195.1 = bt197.1 then (if (bt195.2 != bt197.2) = true then (laws_FnStrings.j0 k l0 t189 bt190.1 bt190.2 t199 bt200.1 bt200.2 true) else (if bt200.1.toList = bt202.1.toList then (laws_FnStrings.j0 k l0 t189 bt190.1 bt190.2 t199 bt200.1 bt200.2 (bt200.2 != bt202.2)) else (laws_FnStrings.j0 k l0 t189 bt190.1 bt190.2 t199 bt200.1 bt200.2 true))) else (laws_FnStrings.j0 k l0 t189 bt190.1 bt190.2 t199 bt200.1 bt200.2 true))) else (laws_FnStrings.j0 k l0 t189 bt190.1 bt190.2 t199 bt200.1 bt200.2 true)))))))))))) = some r := H
 have A2 := Aside0.mk A20
 clear A20
 by_cases c3 : t188 = true
 ·subst c3
  have H1 : (some true) = some r := by rw [if_pos rfl] at H; exact H
  clear H
  have H := H1
  clear H1
  obtain rfl := Option.some.inj H
  go_enter Tryd.func3, Tryd.ntmps3
  go_wp2_with (first | ((with_reducible refine gate_callee (f := 4) rfl ?_); refine goesL_ (some 27) rfl rfl Tryd.func4 (by kernel_rfl) rfl #[.slice A0 l0.length c0] rfl (by (try simp only [List.map_toArray, List.map_cons, List.map_nil]); first | done | rfl | (simp only [List.length_drop, List.length_take]; rfl)) ?_; (with_reducible refine (laws_vBig.calls _ _ l0 true _ ?side1 ?side2 A2.out).mono ?_); (case side1 => repeat (first | exact HR0.out | (with_reducible refine Kd.C_alloc ?_ _) | (with_reducible refine Kd.C_drewN ?_ _) | (with_reducible refine Kd.C_drew ?_))); (case side2 => exact HC0.out); rintro e w' ⟨rfl, ⟨nd, rfl⟩⟩; refine ⟨_, rfl, ?_⟩))
  go_ret
  exact ⟨by first | rfl | (simp [errW_none, errW_some] <;> rfl) | (simp [*, errW_none, errW_some] <;> rfl), by repeat (first | (with_reducible first | exact HB.out | apply below_alloc | apply pw_below_drewN | apply below_drew1) | exact HB.out)⟩
 ·replace c3 := Bool.eq_false_iff.mpr c3
  subst c3
  have H1 : ((spec_DrawFormatInt.f l0).bind fun t189 => ((impl_FormatInt.f t189).bind fun bt190 => ((spec_FormatInt.f k t189).bind fun bt192 => ((spec_DrawParseInt.f k l0).bind fun t194 => ((impl_ParseInt.f t194).bind fun bt195 => ((spec_ParseInt.f k t194).bind fun bt197 => ((spec_DrawAppendChecksum.f l0).bind fun t199 => ((impl_AppendChecksum.f k t199).bind fun bt200 => ((spec_AppendChecksum.f k t199).bind fun bt202 => (if bt190.1.toList = bt192.1.toList then (if (bt190.2 != bt192.2) = true then (laws_FnStrings.j0 k l0 t189 bt190.1 bt190.2 t199 bt200.1 bt200.2 true) else (if bt195.1 = bt197.1 then (if (bt195.2 != bt197.2) = true then (laws_FnStrings.j0 k l0 t189 bt190.1 bt190.2 t199 bt200.1 bt200.2 true) else (if bt200.1.toList = bt202.1.toList then (laws_FnStrings.j0 k l0 t189 bt190.1 bt190.2 t199 bt200.1 bt200.2 (bt200.2 != bt202.2)) else (laws_FnStrings.j0 k l0 t189 bt190.1 bt190.2 t199 bt200.1 bt200.2 true))) else (laws_FnStrings.j0 k l0 t189 bt190.1 bt190.2 t199 bt200.1 bt200.2 true))) else (laws_FnStrings.j0 k l0 t189 bt190.1 bt190.2 t199 bt200.1 bt200.2 true))))))))))) = some r := by rw [if_neg (show ¬ (false = true) by decide)] at H; exact H
  clear H
  have H := H1
  clear H1
  replace H := Option.bind_eq_some_iff.mp H
  obtain ⟨t189, A40, H⟩ := H
  replace H : ((impl_FormatInt.f t189).bind fun bt190 => ((spec_FormatInt.f k t189).bind fun bt192 => ((spec_DrawParseInt.f k l0).bind fun t194 => ((impl_ParseInt.f t194).bind fun bt195 => ((spec_ParseInt.f k t194).bind fun bt197 => ((spec_DrawAppendChecksum.f l0).bind fun t199 => ((impl_AppendChecksum.f k t199).bind fun bt200 => ((spec_AppendChecksum.f k t199).bind fun bt202 => (if bt190.1.toList = bt192.1.toList then (if (bt190.2 != bt192.2) = true then (laws_FnStrings.j0 k l0 t189 bt190.1 bt190.2 t199 bt200.1 bt200.2 true) else (if bt195.1 = bt197.1 then (if (bt195.2 != bt197.2) = true then (laws_FnStrings.j0 k l0 t189 bt190.1 bt190.2 t199 bt200.1 bt200.2 true) else (if bt200.1.toList = bt202.1.toList then (laws_FnStrings.j0 k l0 t189 bt190.1 bt190.2 t199 bt200.1 bt200.2 (bt200.2 != bt202.2)) else (laws_FnStrings.j0 k l0 t189 bt190.1 bt190.2 t199 bt200.1 bt200.2 true))) else (laws_FnStrings.j0 k l0 t189 bt190.1 bt190.2 t199 bt200.1 bt200.2 true))) else (laws_FnStrings.j0 k l0 t189 bt190.1 bt190.2 t199 bt200.1 bt200.2 true)))))))))) = some r := H
  have A4 := Aside0.mk A40
  clear A40
  replace H := Option.bind_eq_some_iff.mp H
  obtain ⟨⟨t190, t191⟩, A50, H⟩ := H
  replace H : ((spec_FormatInt.f k t189).bind fun bt192 => ((spec_DrawParseInt.f k l0).bind fun t194 => ((impl_ParseInt.f t194).bind fun bt195 => ((spec_ParseInt.f k t194).bind fun bt197 => ((spec_DrawAppendChecksum.f l0).bind fun t199 => ((impl_AppendChecksum.f k t199).bind fun bt200 => ((spec_AppendChecksum.f k t199).bind fun bt202 => (if t190.toList = bt192.1.toList then (if (t191 != bt192.2) = true then (laws_FnStrings.j0 k l0 t189 t190 t191 t199 bt200.1 bt200.2 true) else (if bt195.1 = bt197.1 then (if (bt195.2 != bt197.2) = true then (laws_FnStrings.j0 k l0 t189 t190 t191 t199 bt200.1 bt200.2 true) else (if bt200.1.toList = bt202.1.toList then (laws_FnStrings.j0 k l0 t189 t190 t191 t199 bt200.1 bt200.2 (bt200.2 != bt202.2)) else (laws_FnStrings.j0 k l0 t189 t190 t191 t199 bt200.1 bt200.2 true))) else (laws_FnStrings.j0 k l0 t189 t190 t191 t199 bt200.1 bt200.2 true))) else (laws_FnStrings.j0 k l0 t189 t190 t191 t199 bt200.1 bt200.2 true))))))))) = some r := H
  have A5 := Aside0.mk A50
  clear A50
  replace H := Option.bind_eq_some_iff.mp H
  obtain ⟨⟨t192, t193⟩, A60, H⟩ := H
  replace H : ((spec_DrawParseInt.f k l0).bind fun t194 => ((impl_ParseInt.f t194).bind fun bt195 => ((spec_ParseInt.f k t194).bind fun bt197 => ((spec_DrawAppendChecksum.f l0).bind fun t199 => ((impl_AppendChecksum.f k t199).bind fun bt200 => ((spec_AppendChecksum.f k t199).bind fun bt202 => (if t190.toList = t192.toList then (if (t191 != t193) = true then (laws_FnStrings.j0 k l0 t189 t190 t191 t199 bt200.1 bt200.2 true) else (if bt195.1 = bt197.1 then (if (bt195.2 != bt197.2) = true then (laws_FnStrings.j0 k l0 t189 t190 t191 t199 bt200.1 bt200.2 true) else (if bt200.1.toList = bt202.1.toList then (laws_FnStrings.j0 k l0 t189 t190 t191 t199 bt200.1 bt200.2 (bt200.2 != bt202.2)) else (laws_FnStrings.j0 k l0 t189 t190 t191 t199 bt200.1 bt200.2 true))) else (laws_FnStrings.j0 k l0 t189 t190 t191 t199 bt200.1 bt200.2 true))) else (laws_FnStrings.j0 k l0 t189 t190 t191 t199 bt200.1 bt200.2 true)))))))) = some r := H
  have A6 := Aside0.mk A60
  clear A60
  replace H := Option.bind_eq_some_iff.mp H
  obtain ⟨t194, A70, H⟩ := H
  replace H : ((impl_ParseInt.f t194).bind fun bt195 => ((spec_ParseInt.f k t194).bind fun bt197 => ((spec_DrawAppendChecksum.f l0).bind fun t199 => ((impl_AppendChecksum.f k t199).bind fun bt200 => ((spec_AppendChecksum.f k t199).bind fun bt202 => (if t190.toList = t192.toList then (if (t191 != t193) = true then (laws_FnStrings.j0 k l0 t189 t190 t191 t199 bt200.1 bt200.2 true) else (if bt195.1 = bt197.1 then (if (bt195.2 != bt197.2) = true then (laws_FnStrings.j0 k l0 t189 t190 t191 t199 bt200.1 bt200.2 true) else (if bt200.1.toList = bt202.1.toList then (laws_FnStrings.j0 k l0 t189 t190 t191 t199 bt200.1 bt200.2 (bt200.2 != bt202.2)) else (laws_FnStrings.j0 k l0 t189 t190 t191 t199 bt200.1 bt200.2 true))) else (laws_FnStrings.j0 k l0 t189 t190 t191 t199 bt200.1 bt200.2 true))) else (laws_FnStrings.j0 k l0 t189 t190 t191 t199 bt200.1 bt200.2 true))))))) = some r := H
  have A7 := Aside0.mk A70
  clear A70
  replace H := Option.bind_eq_some_iff.mp H
  obtain ⟨⟨t195, t196⟩, A80, H⟩ := H
  replace H : ((spec_ParseInt.f k t194).bind fun bt197 => ((spec_DrawAppendChecksum.f l0).bind fun t199 => ((impl_AppendChecksum.f k t199).bind fun bt200 => ((spec_AppendChecksum.f k t199).bind fun bt202 => (if t190.toList = t192.toList then (if (t191 != t193) = true then (laws_FnStrings.j0 k l0 t189 t190 t191 t199 bt200.1 bt200.2 true) else (if t195 = bt197.1 then (if (t196 != bt197.2) = true then (laws_FnStrings.j0 k l0 t189 t190 t191 t199 bt200.1 bt200.2 true) else (if bt200.1.toList = bt202.1.toList then (laws_FnStrings.j0 k l0 t189 t190 t191 t199 bt200.1 bt200.2 (bt200.2 != bt202.2)) else (laws_FnStrings.j0 k l0 t189 t190 t191 t199 bt200.1 bt200.2 true))) else (laws_FnStrings.j0 k l0 t189 t190 t191 t199 bt200.1 bt200.2 true))) else (laws_FnStrings.j0 k l0 t189 t190 t191 t199 bt200.1 bt200.2 true)))))) = some r := H
  have A8 := Aside0.mk A80
  clear A80
  replace H := Option.bind_eq_some_iff.mp H
  obtain ⟨⟨t197, t198⟩, A90, H⟩ := H
  replace H : ((spec_DrawAppendChecksum.f l0).bind fun t199 => ((impl_AppendChecksum.f k t199).bind fun bt200 => ((spec_AppendChecksum.f k t199).bind fun bt202 => (if t190.toList = t192.toList then (if (t191 != t193) = true then (laws_FnStrings.j0 k l0 t189 t190 t191 t199 bt200.1 bt200.2 true) else (if t195 = t197 then (if (t196 != t198) = true then (laws_FnStrings.j0 k l0 t189 t190 t191 t199 bt200.1 bt200.2 true) else (if bt200.1.toList = bt202.1.toList then (laws_FnStrings.j0 k l0 t189 t190 t191 t199 bt200.1 bt200.2 (bt200.2 != bt202.2)) else (laws_FnStrings.j0 k l0 t189 t190 t191 t199 bt200.1 bt200.2 true))) else (laws_FnStrings.j0 k l0 t189 t190 t191 t199 bt200.1 bt200.2 true))) else (laws_FnStrings.j0 k l0 t189 t190 t191 t199 bt200.1 bt200.2 true))))) = some r := H
  have A9 := Aside0.mk A90
  clear A90
  replace H := Option.bind_eq_some_iff.mp H
  obtain ⟨t199, A100, H⟩ := H
  replace H : ((impl_AppendChecksum.f k t199).bind fun bt200 => ((spec_AppendChecksum.f k t199).bind fun bt202 => (if t190.toList = t192.toList then (if (t191 != t193) = true then (laws_FnStrings.j0 k l0 t189 t190 t191 t199 bt200.1 bt200.2 true) else (if t195 = t197 then (if (t196 != t198) = true then (laws_FnStrings.j0 k l0 t189 t190 t191 t199 bt200.1 bt200.2 true) else (if bt200.1.toList = bt202.1.toList then (laws_FnStrings.j0 k l0 t189 t190 t191 t199 bt200.1 bt200.2 (bt200.2 != bt202.2)) else (laws_FnStrings.j0 k l0 t189 t190 t191 t199 bt200.1 bt200.2 true))) else (laws_FnStrings.j0 k l0 t189 t190 t191 t199 bt200.1 bt200.2 true))) else (laws_FnStrings.j0 k l0 t189 t190 t191 t199 bt200.1 bt200.2 true)))) = some r := H
  have A10 := Aside0.mk A100
  clear A100
  replace H := Option.bind_eq_some_iff.mp H
  obtain ⟨⟨t200, t201⟩, A110, H⟩ := H
  replace H : ((spec_AppendChecksum.f k t199).bind fun bt202 => (if t190.toList = t192.toList then (if (t191 != t193) = true then (laws_FnStrings.j0 k l0 t189 t190 t191 t199 t200 t201 true) else (if t195 = t197 then (if (t196 != t198) = true then (laws_FnStrings.j0 k l0 t189 t190 t191 t199 t200 t201 true) else (if t200.toList = bt202.1.toList then (laws_FnStrings.j0 k l0 t189 t190 t191 t199 t200 t201 (t201 != bt202.2)) else (laws_FnStrings.j0 k l0 t189 t190 t191 t199 t200 t201 true))) else (laws_FnStrings.j0 k l0 t189 t190 t191 t199 t200 t201 true))) else (laws_FnStrings.j0 k l0 t189 t190 t191 t199 t200 t201 true))) = some r := H
  have A11 := Aside0.mk A110
  clear A110
  replace H := Option.bind_eq_some_iff.mp H
  obtain ⟨⟨t202, t203⟩, A120, H⟩ := H
  replace H : (if t190.toList = t192.toList then (if (t191 != t193) = true then (laws_FnStrings.j0 k l0 t189 t190 t191 t199 t200 t201 true) else (if t195 = t197 then (if (t196 != t198) = true then (laws_FnStrings.j0 k l0 t189 t190 t191 t199 t200 t201 true) else (if t200.toList = t202.toList then (laws_FnStrings.j0 k l0 t189 t190 t191 t199 t200 t201 (t201 != t203)) else (laws_FnStrings.j0 k l0 t189 t190 t191 t199 t200 t201 true))) else (laws_FnStrings.j0 k l0 t189 t190 t191 t199 t200 t201 true))) else (laws_FnStrings.j0 k l0 t189 t190 t191 t199 t200 t201 true)) = some r := H
  have A12 := Aside0.mk A120
  clear A120
  have HC13 := Aside0.mk H
  clear H
  go_enter Tryd.func3, Tryd.ntmps3
  go_upto_region 12 with (first | ((with_reducible refine gate_callee (f := 4) rfl ?_); refine goesL_ (some 27) rfl rfl Tryd.func4 (by kernel_rfl) rfl #[.slice A0 l0.length c0] rfl (by (try simp only [List.map_toArray, List.map_cons, List.map_nil]); first | done | rfl | (simp only [List.length_drop, List.length_take]; rfl)) ?_; (with_reducible refine (laws_vBig.calls _ _ l0 false _ ?side1 ?side2 A2.out).mono ?_); (case side1 => repeat (first | exact HR0.out | (with_reducible refine Kd.C_alloc ?_ _) | (with_reducible refine Kd.C_drewN ?_ _) | (with_reducible refine Kd.C_drew ?_))); (case side2 => exact HC0.out); rintro e w' ⟨rfl, ⟨nd, rfl⟩⟩; refine ⟨_, rfl, ?_⟩) | ((with_reducible refine gate_callee (f := 5) rfl ?_); refine goesL_ (some 29) rfl rfl Tryd.func5 (by kernel_rfl) rfl #[.slice A0 l0.length c0] rfl (by (try simp only [List.map_toArray, List.map_cons, List.map_nil]); first | done | rfl | (simp only [List.length_drop, List.length_take]; rfl)) ?_; (with_reducible refine (spec_DrawFormatInt.calls _ _ l0 t189 _ ?side1 ?side2 A4.out).mono ?_); (case side1 => repeat (first | exact HR0.out | (with_reducible refine Kd.C_alloc ?_ _) | (with_reducible refine Kd.C_drewN ?_ _) | (with_reducible refine Kd.C_drew ?_))); (case side2 => exact HC0.out); rintro e w14 ⟨rfl, hb⟩; refine ⟨_, rfl, ?_⟩; have n0_ := Aside0.mk (below_step (by repeat (first | (with_reducible first | exact HB.out | apply below_alloc | apply pw_below_drewN | apply below_drew1) | exact HB.out)) hb); clear HB; have HB := n0_; clear n0_; (try clear hb); (try clear hb2); (try clear hk); (try clear hi)) | ((with_reducible refine gate_callee (f := 6) rfl ?_); refine goesL_ (some 32) rfl rfl Tryd.func6 (by kernel_rfl) rfl #[.int .i64 t189] rfl (by (try simp only [List.map_toArray, List.map_cons, List.map_nil]); first | done | rfl | (simp only [List.length_drop, List.length_take]; rfl)) ?_; (with_reducible refine (impl_FormatInt.calls t189 t190 t191 _ A5.out ?sideT).mono ?_); (case sideT => exact HT_.out _ (by repeat (first | (with_reducible first | exact HB.out | apply below_alloc | apply pw_below_drewN | apply below_drew1) | exact HB.out))); rintro e w15 ⟨rfl, hb⟩; refine ⟨_, rfl, ?_⟩; have n0_ := Aside0.mk (below_step (by repeat (first | (with_reducible first | exact HB.out | apply below_alloc | apply pw_below_drewN | apply below_drew1) | exact HB.out)) hb); clear HB; have HB := n0_; clear n0_; (try clear hb); (try clear hb2); (try clear hk); (try clear hi)) | ((with_reducible refine gate_callee (f := 7) rfl ?_); refine goesL_ (some 37) rfl rfl Tryd.func7 (by kernel_rfl) rfl #[.int .i64 t189] rfl (by (try simp only [List.map_toArray, List.map_cons, List.map_nil]); first | done | rfl | (simp only [List.length_drop, List.length_take]; rfl)) ?_; (with_reducible refine (spec_FormatInt.calls k t189 t192 t193 _ A6.out).mono ?_); rintro e w16 ⟨rfl, hb⟩; refine ⟨_, rfl, ?_⟩; have n0_ := Aside0.mk (below_step (by repeat (first | (with_reducible first | exact HB.out | apply below_alloc | apply pw_below_drewN | apply below_drew1) | exact HB.out)) hb); clear HB; have HB := n0_; clear n0_; (try clear hb); (try clear hb2); (try clear hk); (try clear hi)) | ((with_reducible refine gate_callee (f := 8) rfl ?_); refine goesL_ (some 41) rfl rfl Tryd.func8 (by kernel_rfl) rfl #[.slice A0 l0.length c0] rfl (by (try simp only [List.map_toArray, List.map_cons, List.map_nil]); first | done | rfl | (simp only [List.length_drop, List.length_take]; rfl)) ?_; (with_reducible refine (spec_DrawParseInt.calls k _ _ l0 t194 _ ?side1 ?side2 A7.out).mono ?_); (case side1 => repeat (first | exact (Kd.C_below HR0.out HB.out) | (with_reducible refine Kd.C_alloc ?_ _) | (with_reducible refine Kd.C_drewN ?_ _) | (with_reducible refine Kd.C_drew ?_))); (case side2 => exact HC0.out); rintro e w17 ⟨rfl, hb⟩; refine ⟨_, rfl, ?_⟩; have n0_ := Aside0.mk (below_step (by repeat (first | (with_reducible first | exact HB.out | apply below_alloc | apply pw_below_drewN | apply below_drew1) | exact HB.out)) hb); clear HB; have HB := n0_; clear n0_; (try clear hb); (try clear hb2); (try clear hk); (try clear hi)) | ((with_reducible refine gate_callee (f := 9) rfl ?_); refine goesL_ (some 44) rfl rfl Tryd.func9 (by kernel_rfl) rfl #[.string t194] rfl (by (try simp only [List.map_toArray, List.map_cons, List.map_nil]); first | done | rfl | (simp only [List.length_drop, List.length_take]; rfl)) ?_; (with_reducible refine (impl_ParseInt.calls t194 t195 t196 _ A8.out ?sideT).mono ?_); (case sideT => exact HT_.out _ (by repeat (first | (with_reducible first | exact HB.out | apply below_alloc | apply pw_below_drewN | apply below_drew1) | exact HB.out))); rintro e w18 ⟨rfl, hb⟩; refine ⟨_, rfl, ?_⟩; have n0_ := Aside0.mk (below_step (by repeat (first | (with_reducible first | exact HB.out | apply below_alloc | apply pw_below_drewN | apply below_drew1) | exact HB.out)) hb); clear HB; have HB := n0_; clear n0_; (try clear hb); (try clear hb2); (try clear hk); (try clear hi)) | ((with_reducible refine gate_callee (f := 10) rfl ?_); refine goesL_ (some 49) rfl rfl Tryd.func10 (by kernel_rfl) rfl #[.string t194] rfl (by (try simp only [List.map_toArray, List.map_cons, List.map_nil]); first | done | rfl | (simp only [List.length_drop, List.length_take]; rfl)) ?_; (with_reducible refine (spec_ParseInt.calls k t194 t197 t198 _ A9.out).mono ?_); rintro e w19 ⟨rfl, hb⟩; refine ⟨_, rfl, ?_⟩; have n0_ := Aside0.mk (below_step (by repeat (first | (with_reducible first | exact HB.out | apply below_alloc | apply pw_below_drewN | apply below_drew1) | exact HB.out)) hb); clear HB; have HB := n0_; clear n0_; (try clear hb); (try clear hb2); (try clear hk); (try clear hi)) | ((with_reducible refine gate_callee (f := 11) rfl ?_); refine goesL_ (some 53) rfl rfl Tryd.func11 (by kernel_rfl) rfl #[.slice A0 l0.length c0] rfl (by (try simp only [List.map_toArray, List.map_cons, List.map_nil]); first | done | rfl | (simp only [List.length_drop, List.length_take]; rfl)) ?_; (with_reducible refine (spec_DrawAppendChecksum.calls _ _ l0 t199 _ ?side1 ?side2 A10.out).mono ?_); (case side1 => repeat (first | exact (Kd.C_below HR0.out HB.out) | (with_reducible refine Kd.C_alloc ?_ _) | (with_reducible refine Kd.C_drewN ?_ _) | (with_reducible refine Kd.C_drew ?_))); (case side2 => exact HC0.out); rintro e w20 ⟨rfl, hb⟩; refine ⟨_, rfl, ?_⟩; have n0_ := Aside0.mk (below_step (by repeat (first | (with_reducible first | exact HB.out | apply below_alloc | apply pw_below_drewN | apply below_drew1) | exact HB.out)) hb); clear HB; have HB := n0_; clear n0_; (try clear hb); (try clear hb2); (try clear hk); (try clear hi)) | ((with_reducible refine gate_callee (f := 12) rfl ?_); refine goesL_ (some 56) rfl rfl Tryd.func12 (by kernel_rfl) rfl #[.string t199] rfl (by (try simp only [List.map_toArray, List.map_cons, List.map_nil]); first | done | rfl | (simp only [List.length_drop, List.length_take]; rfl)) ?_; (with_reducible refine (impl_AppendChecksum.calls k t199 t200 t201 _ A11.out ?sideT).mono ?_); (case sideT => exact HT_.out _ (by repeat (first | (with_reducible first | exact HB.out | apply below_alloc | apply pw_below_drewN | apply below_drew1) | exact HB.out))); rintro e w21 ⟨rfl, hb⟩; refine ⟨_, rfl, ?_⟩; have n0_ := Aside0.mk (below_step (by repeat (first | (with_reducible first | exact HB.out | apply below_alloc | apply pw_below_drewN | apply below_drew1) | exact HB.out)) hb); clear HB; have HB := n0_; clear n0_; (try clear hb); (try clear hb2); (try clear hk); (try clear hi)) | ((with_reducible refine gate_callee (f := 13) rfl ?_); refine goesL_ (some 61) rfl rfl Tryd.func13 (by kernel_rfl) rfl #[.string t199] rfl (by (try simp only [List.map_toArray, List.map_cons, List.map_nil]); first | done | rfl | (simp only [List.length_drop, List.length_take]; rfl)) ?_; (with_reducible refine (spec_AppendChecksum.calls k t199 t202 t203 _ A12.out).mono ?_); rintro e w22 ⟨rfl, hb⟩; refine ⟨_, rfl, ?_⟩; have n0_ := Aside0.mk (below_step (by repeat (first | (with_reducible first | exact HB.out | apply below_alloc | apply pw_below_drewN | apply below_drew1) | exact HB.out)) hb); clear HB; have HB := n0_; clear n0_; (try clear hb); (try clear hb2); (try clear hk); (try clear hi)))
  (try simp only [Act.put, List.setIfInBounds_toArray, List.set_cons_zero, List.set_cons_succ])
  go_cut [91] (fun v91 wc => ∃ (kq : Nat) (x91_12 : Bool), v91 = .bool x91_12 ∧ Aside0 (laws_FnStrings.j0 kq l0 t189 t190 t191 t199 t200 t201 x91_12 = some r) ∧ Aside0 (kq ≤ k) ∧ Aside0 (Below w.heap.size w wc))
  case first =>
   have H := HC13.out
   clear HC13
   by_cases c23 : t190.toList = t192.toList
   ·rw [if_pos c23] at H
    have c23b0 : (t190.toList == t192.toList) = true := beq_iff_eq.mpr c23
    have c23b1 : (t190.toList != t192.toList) = false := bne_eq_false_iff_eq.mpr c23
    clear c23
    (first | rw [c23b0] | (simp only [i64_w, i32_w]; rw [c23b0]) | skip)
    by_cases c24 : (t191 != t193) = true
    ·rw [if_pos c24] at H
     have c24b0 : (t191 != t193) = true := c24
     (try (have c24b1 : decide (t191 = t193) = false := by simpa using c24))
     (try (have c24b2 : (t191 == t193) = false := by simpa using c24))
     (try (have c24b3 : ¬ (t191 = t193) := by simpa using c24))
     clear c24
     have H' := Aside0.mk H
     clear H
     go_wp2
     go_meet
     case rel => exact ⟨_, (true), (by first | rfl | (simp; done) | (simp [*]; done)), H', ⟨by first | omega | exact Nat.le_refl _⟩, ⟨by repeat (first | (with_reducible first | exact HB.out | apply below_alloc | apply pw_below_drewN | apply below_drew1) | exact HB.out)⟩⟩
    ·rw [if_neg c24] at H
     have c24b0 : (t191 != t193) = false := by simpa using c24
     (try (have c24b1 : decide (t191 = t193) = true := by simpa using c24))
     (try (have c24b2 : (t191 == t193) = true := by simpa using c24))
     clear c24
     by_cases c25 : t195 = t197
     ·rw [if_pos c25] at H
      have c25b0 : (t195 == t197) = true := beq_iff_eq.mpr c25
      have c25b1 : (t195 != t197) = false := bne_eq_false_iff_eq.mpr c25
      clear c25
      by_cases c26 : (t196 != t198) = true
      ·rw [if_pos c26] at H
       have c26b0 : (t196 != t198) = true := c26
       (try (have c26b1 : decide (t196 = t198) = false := by simpa using c26))
       (try (have c26b2 : (t196 == t198) = false := by simpa using c26))
       (try (have c26b3 : ¬ (t196 = t198) := by simpa using c26))
       clear c26
       have H' := Aside0.mk H
       clear H
       go_wp2
       go_meet
       case rel => exact ⟨_, (true), (by first | rfl | (simp; done) | (simp [*]; done)), H', ⟨by first | omega | exact Nat.le_refl _⟩, ⟨by repeat (first | (with_reducible first | exact HB.out | apply below_alloc | apply pw_below_drewN | apply below_drew1) | exact HB.out)⟩⟩
      ·rw [if_neg c26] at H
       have c26b0 : (t196 != t198) = false := by simpa using c26
       (try (have c26b1 : decide (t196 = t198) = true := by simpa using c26))
       (try (have c26b2 : (t196 == t198) = true := by simpa using c26))
       clear c26
       by_cases c27 : t200.toList = t202.toList
       ·rw [if_pos c27] at H
        have c27b0 : (t200.toList == t202.toList) = true := beq_iff_eq.mpr c27
        have c27b1 : (t200.toList != t202.toList) = false := bne_eq_false_iff_eq.mpr c27
        clear c27
        have H' := Aside0.mk H
        clear H
        go_wp2
        go_meet
        case rel => exact ⟨_, ((t201 != t203)), (by first | rfl | (simp; done) | (simp [*]; done)), H', ⟨by first | omega | exact Nat.le_refl _⟩, ⟨by repeat (first | (with_reducible first | exact HB.out | apply below_alloc | apply pw_below_drewN | apply below_drew1) | exact HB.out)⟩⟩
       ·rw [if_neg c27] at H
        have c27b0 : (t200.toList == t202.toList) = false := beq_eq_false_iff_ne.mpr c27
        have c27b1 : (t200.toList != t202.toList) = true := bne_iff_ne.mpr c27
        have H' := Aside0.mk H
        clear H
        go_wp2
        go_meet
        case rel => exact ⟨_, (true), (by first | rfl | (simp; done) | (simp [*]; done)), H', ⟨by first | omega | exact Nat.le_refl _⟩, ⟨by repeat (first | (with_reducible first | exact HB.out | apply below_alloc | apply pw_below_drewN | apply below_drew1) | exact HB.out)⟩⟩
     ·rw [if_neg c25] at H
      have c25b0 : (t195 == t197) = false := beq_eq_false_iff_ne.mpr c25
      have c25b1 : (t195 != t197) = true := bne_iff_ne.mpr c25
      have H' := Aside0.mk H
      clear H
      go_wp2
      go_meet
      case rel => exact ⟨_, (true), (by first | rfl | (simp; done) | (simp [*]; done)), H', ⟨by first | omega | exact Nat.le_refl _⟩, ⟨by repeat (first | (with_reducible first | exact HB.out | apply below_alloc | apply pw_below_drewN | apply below_drew1) | exact HB.out)⟩⟩
   ·rw [if_neg c23] at H
    have c23b0 : (t190.toList == t192.toList) = false := beq_eq_false_iff_ne.mpr c23
    have c23b1 : (t190.toList != t192.toList) = true := bne_iff_ne.mpr c23
    (first | rw [c23b0] | (simp only [i64_w, i32_w]; rw [c23b0]) | skip)
    have H' := Aside0.mk H
    clear H
    go_wp2
    go_meet
    case rel => exact ⟨_, (true), (by first | rfl | (simp; done) | (simp [*]; done)), H', ⟨by first | omega | exact Nat.le_refl _⟩, ⟨by repeat (first | (with_reducible first | exact HB.out | apply below_alloc | apply pw_below_drewN | apply below_drew1) | exact HB.out)⟩⟩
  case rest =>
   clear HC13
   try clear c1
   try clear c2
   try clear p2
   try clear c3
   try clear c4
   try clear c5
   try clear c6
   try clear c7
   try clear c8
   try clear c9
   try clear c10
   try clear c11
   try clear c12
   try clear c13
   try clear c23
   try clear c23b0
   try clear c23b1
   try clear c24
   try clear c24b0
   try clear c24b1
   try clear c24b2
   try clear c25
   try clear c25b0
   try clear c25b1
   try clear c26
   try clear c26b0
   try clear c26b1
   try clear c26b2
   try clear c27
   try clear c27b0
   try clear c27b1
   obtain ⟨kq, x91_12, rfl, HA, HJ12, HB⟩ := hcut
   cases kq with
   | zero => exact absurd HA.out (by simp [laws_FnStrings.j0])
   | succ kj12 =>
    have H := HA.out
    clear HA
    simp only [laws_FnStrings.j0] at H
    by_cases c28 : x91_12 = true
    ·subst c28
     have H1 : (none) = some r := by rw [if_pos rfl] at H; exact H
     clear H
     have H := H1
     clear H1
     exact absurd H (by simp)
    ·replace c28 := Bool.eq_false_iff.mpr c28
     subst c28
     have H1 : ((impl_ParseInt.f t190).bind fun bt204 => (if t191 = true then (if bt204.2 = true then (laws_FnStrings.j1 kj12 l0 t199 t200 t201 (bt204.1 != t189)) else (laws_FnStrings.j1 kj12 l0 t199 t200 t201 true)) else (laws_FnStrings.j1 kj12 l0 t199 t200 t201 false))) = some r := by rw [if_neg (show ¬ (false = true) by decide)] at H; exact H
     clear H
     have H := H1
     clear H1
     replace H := Option.bind_eq_some_iff.mp H
     obtain ⟨⟨t204, t205⟩, A290, H⟩ := H
     replace H : (if t191 = true then (if t205 = true then (laws_FnStrings.j1 kj12 l0 t199 t200 t201 (t204 != t189)) else (laws_FnStrings.j1 kj12 l0 t199 t200 t201 true)) else (laws_FnStrings.j1 kj12 l0 t199 t200 t201 false)) = some r := H
     have A29 := Aside0.mk A290
     clear A290
     have HC30 := Aside0.mk H
     clear H
     go_upto_region 15 with (first | ((with_reducible refine gate_callee (f := 9) rfl ?_); refine goesL_ (some 94) rfl rfl Tryd.func9 (by kernel_rfl) rfl #[.string t190] rfl (by (try simp only [List.map_toArray, List.map_cons, List.map_nil]); first | done | rfl | (simp only [List.length_drop, List.length_take]; rfl)) ?_; (with_reducible refine (impl_ParseInt.calls t190 t204 t205 _ A29.out ?sideT).mono ?_); (case sideT => exact HT_.out _ (by repeat (first | (with_reducible first | exact HB.out | apply below_alloc | apply pw_below_drewN | apply below_drew1) | exact HB.out))); rintro e w31 ⟨rfl, hb⟩; refine ⟨_, rfl, ?_⟩; have n0_ := Aside0.mk (below_step (by repeat (first | (with_reducible first | exact HB.out | apply below_alloc | apply pw_below_drewN | apply below_drew1) | exact HB.out)) hb); clear HB; have HB := n0_; clear n0_; (try clear hb); (try clear hb2); (try clear hk); (try clear hi)))
     (try simp only [Act.put, List.setIfInBounds_toArray, List.set_cons_zero, List.set_cons_succ])
     go_cut [106] (fun v106 wc => ∃ (kq : Nat) (x106_29 : Bool), v106 = .bool x106_29 ∧ Aside0 (laws_FnStrings.j1 kq l0 t199 t200 t201 x106_29 = some r) ∧ Aside0 (kq ≤ kj12) ∧ Aside0 (Below w.heap.size w wc))
     case first =>
      have H := HC30.out
      clear HC30
      by_cases c32 : t191 = true
      ·subst c32
       have H1 : (if t205 = true then (laws_FnStrings.j1 kj12 l0 t199 t200 t201 (t204 != t189)) else (laws_FnStrings.j1 kj12 l0 t199 t200 t201 true)) = some r := by rw [if_pos rfl] at H; exact H
       clear H
       have H := H1
       clear H1
       by_cases c33 : t205 = true
       ·subst c33
        have H1 : (laws_FnStrings.j1 kj12 l0 t199 t200 t201 (t204 != t189)) = some r := by rw [if_pos rfl] at H; exact H
        clear H
        have H := H1
        clear H1
        have H' := Aside0.mk H
        clear H
        go_wp2
        go_meet
        case rel => exact ⟨_, ((t204 != t189)), (by first | rfl | (simp; done) | (simp [*]; done)), H', ⟨by have := HJ12.out; first | omega | exact Nat.le_refl _⟩, ⟨by repeat (first | (with_reducible first | exact HB.out | apply below_alloc | apply pw_below_drewN | apply below_drew1) | exact HB.out)⟩⟩
       ·replace c33 := Bool.eq_false_iff.mpr c33
        subst c33
        have H1 : (laws_FnStrings.j1 kj12 l0 t199 t200 t201 true) = some r := by rw [if_neg (show ¬ (false = true) by decide)] at H; exact H
        clear H
        have H := H1
        clear H1
        have H' := Aside0.mk H
        clear H
        go_wp2
        go_meet
        case rel => exact ⟨_, (true), (by first | rfl | (simp; done) | (simp [*]; done)), H', ⟨by have := HJ12.out; first | omega | exact Nat.le_refl _⟩, ⟨by repeat (first | (with_reducible first | exact HB.out | apply below_alloc | apply pw_below_drewN | apply below_drew1) | exact HB.out)⟩⟩
      ·replace c32 := Bool.eq_false_iff.mpr c32
       subst c32
       have H1 : (laws_FnStrings.j1 kj12 l0 t199 t200 t201 false) = some r := by rw [if_neg (show ¬ (false = true) by decide)] at H; exact H
       clear H
       have H := H1
       clear H1
       have H' := Aside0.mk H
       clear H
       go_wp2
       go_meet
       case rel => exact ⟨_, (false), (by first | rfl | (simp; done) | (simp [*]; done)), H', ⟨by have := HJ12.out; first | omega | exact Nat.le_refl _⟩, ⟨by repeat (first | (with_reducible first | exact HB.out | apply below_alloc | apply pw_below_drewN | apply below_drew1) | exact HB.out)⟩⟩
     case rest =>
      clear HC30
      try clear c1
      try clear c2
      try clear p2
      try clear c3
      try clear c4
      try clear c5
      try clear c6
      try clear c7
      try clear c8
      try clear c9
      try clear c10
      try clear c11
      try clear c12
      try clear c13
      try clear c23
      try clear c23b0
      try clear c23b1
      try clear c24
      try clear c24b0
      try clear c24b1
      try clear c24b2
      try clear c25
      try clear c25b0
      try clear c25b1
      try clear c26
      try clear c26b0
      try clear c26b1
      try clear c26b2
      try clear c27
      try clear c27b0
      try clear c27b1
      try clear c28
      try clear c32
      try clear c33
      try clear p2
      obtain ⟨kq, x106_29, rfl, HA, HJ29, HB⟩ := hcut
      cases kq with
      | zero => exact absurd HA.out (by simp [laws_FnStrings.j1])
      | succ kj29 =>
       have H := HA.out
       clear HA
       simp only [laws_FnStrings.j1] at H
       by_cases c34 : x106_29 = true
       ·subst c34
        have H1 : (none) = some r := by rw [if_pos rfl] at H; exact H
        clear H
        have H := H1
        clear H1
        exact absurd H (by simp)
       ·replace c34 := Bool.eq_false_iff.mpr c34
        subst c34
        have H1 : (if t201 = true then ((impl_VerifyChecksum.f kj29 t200).bind fun bt206 => ((laws_vAt.f l0 9).bind fun t208 => (if (t200.size : Int) = 0 then (none) else ((laws_vAt.f l0 10).bind fun t209 => ((flipByte.f t200 (Int.tmod t208 (t200.size : Int)) ((wrap64 (1 + (Int.tmod t209 255))) % 256)).bind fun t210 => ((impl_VerifyChecksum.f kj29 t210).bind fun bt211 => (if bt206.2 = true then (if bt206.1.toList = t199.toList then (some (!bt211.2)) else (none)) else (none)))))))) else (some (t200.toList == ([] : List UInt8)))) = some r := by rw [if_neg (show ¬ (false = true) by decide)] at H; exact H
        clear H
        have H := H1
        clear H1
        by_cases c35 : t201 = true
        ·subst c35
         have H1 : ((impl_VerifyChecksum.f kj29 t200).bind fun bt206 => ((laws_vAt.f l0 9).bind fun t208 => (if (t200.size : Int) = 0 then (none) else ((laws_vAt.f l0 10).bind fun t209 => ((flipByte.f t200 (Int.tmod t208 (t200.size : Int)) ((wrap64 (1 + (Int.tmod t209 255))) % 256)).bind fun t210 => ((impl_VerifyChecksum.f kj29 t210).bind fun bt211 => (if bt206.2 = true then (if bt206.1.toList = t199.toList then (some (!bt211.2)) else (none)) else (none)))))))) = some r := by rw [if_pos rfl] at H; exact H
         clear H
         have H := H1
         clear H1
         replace H := Option.bind_eq_some_iff.mp H
         obtain ⟨⟨t206, t207⟩, A360, H⟩ := H
         replace H : ((laws_vAt.f l0 9).bind fun t208 => (if (t200.size : Int) = 0 then (none) else ((laws_vAt.f l0 10).bind fun t209 => ((flipByte.f t200 (Int.tmod t208 (t200.size : Int)) ((wrap64 (1 + (Int.tmod t209 255))) % 256)).bind fun t210 => ((impl_VerifyChecksum.f kj29 t210).bind fun bt211 => (if t207 = true then (if t206.toList = t199.toList then (some (!bt211.2)) else (none)) else (none))))))) = some r := H
         have A36 := Aside0.mk A360
         clear A360
         replace H := Option.bind_eq_some_iff.mp H
         obtain ⟨t208, A370, H⟩ := H
         replace H : (if (t200.size : Int) = 0 then (none) else ((laws_vAt.f l0 10).bind fun t209 => ((flipByte.f t200 (Int.tmod t208 (t200.size : Int)) ((wrap64 (1 + (Int.tmod t209 255))) % 256)).bind fun t210 => ((impl_VerifyChecksum.f kj29 t210).bind fun bt211 => (if t207 = true then (if t206.toList = t199.toList then (some (!bt211.2)) else (none)) else (none)))))) = some r := H
         have A37 := Aside0.mk A370
         clear A370
         by_cases c38 : (t200.size : Int) = 0
         ·rw [if_pos c38] at H
          exact absurd H (by simp)
         ·rw [if_neg c38] at H
          have c38b0 : ((t200.size : Int) == 0) = false := beq_eq_false_iff_ne.mpr c38
          have c38b1 : ((t200.size : Int) != 0) = true := bne_iff_ne.mpr c38
          replace H := Option.bind_eq_some_iff.mp H
          obtain ⟨t209, A390, H⟩ := H
          replace H : ((flipByte.f t200 (Int.tmod t208 (t200.size : Int)) ((wrap64 (1 + (Int.tmod t209 255))) % 256)).bind fun t210 => ((impl_VerifyChecksum.f kj29 t210).bind fun bt211 => (if t207 = true then (if t206.toList = t199.toList then (some (!bt211.2)) else (none)) else (none)))) = some r := H
          have A39 := Aside0.mk A390
          clear A390
          replace H := Option.bind_eq_some_iff.mp H
          obtain ⟨t210, A400, H⟩ := H
          replace H : ((impl_VerifyChecksum.f kj29 t210).bind fun bt211 => (if t207 = true then (if t206.toList = t199.toList then (some (!bt211.2)) else (none)) else (none))) = some r := H
          have A40 := Aside0.mk A400
          clear A400
          replace H := Option.bind_eq_some_iff.mp H
          obtain ⟨⟨t211, t212⟩, A410, H⟩ := H
          replace H : (if t207 = true then (if t206.toList = t199.toList then (some (!t212)) else (none)) else (none)) = some r := H
          have A41 := Aside0.mk A410
          clear A410
          by_cases c42 : t207 = true
          ·subst c42
           have H1 : (if t206.toList = t199.toList then (some (!t212)) else (none)) = some r := by rw [if_pos rfl] at H; exact H
           clear H
           have H := H1
           clear H1
           by_cases c43 : t206.toList = t199.toList
           ·rw [if_pos c43] at H
            have c43b0 : (t206.toList == t199.toList) = true := beq_iff_eq.mpr c43
            have c43b1 : (t206.toList != t199.toList) = false := bne_eq_false_iff_eq.mpr c43
            clear c43
            obtain rfl := Option.some.inj H
            have F0 := A40.out
            obtain ⟨q, hq⟩ : ∃ q, q = Int.tmod t208 (t200.size : Int) := ⟨_, rfl⟩
            obtain ⟨v, hv⟩ : ∃ v, v = (wrap64 (1 + (Int.tmod t209 255))) % 256 := ⟨_, rfl⟩
            rw [← hq, ← hv] at F0
            unfold flipByte.f at F0
            by_cases hg : 0 ≤ q ∧ q < (t200.size : Int) ∧ 0 ≤ v ∧ v < 256
            case neg => rw [if_neg hg] at F0; cases F0
            rw [if_pos hg] at F0
            have hF := Option.some.inj F0
            have HG := Aside0.mk hg
            have HF := Aside0.mk hF
            have HQ := Aside0.mk hq
            have HVV := Aside0.mk hv
            clear F0 hg hF hq hv
            go_wp2_with fail
            refine (impl_VerifyChecksum.calls kj29 t200 t206 true _ A36.out (HT_.out _ (by repeat (first | (with_reducible first | exact HB.out | apply below_alloc | apply pw_below_drewN | apply below_drew1) | exact HB.out)))).mono ?_
            rintro e wA ⟨rfl, hbA⟩
            have HBA := Aside0.mk (below_step (by repeat (first | (with_reducible first | exact HB.out | apply below_alloc | apply pw_below_drewN | apply below_drew1) | exact HB.out)) hbA)
            clear hbA HB
            obtain ⟨c, hcp⟩ : ∃ c, c = grownCap wA t200.size 0 5 := ⟨_, rfl⟩
            obtain ⟨WB, hWB⟩ : ∃ W, W = Lib.bytesWorld wA 5 t200 := ⟨_, rfl⟩
            obtain ⟨g, hgg⟩ : ∃ g, g = wA.heap.size := ⟨_, rfl⟩
            have hconv : (convert 9 22 (.string t200)).run Tryd.prog wA = .ok (.slice (some ⟨g, 0, none⟩) t200.size c) WB := by rw [hcp, hWB, hgg]; exact Lib.run_convert_string_bytes wA 9 22 5 t200 Tryd.underlying9 Tryd.underlying22 Tryd.underlying5
            have HBB : Aside0 (Below w.heap.size w WB) := ⟨by rw [hWB]; exact below_step HBA.out (Go.Joins.below_bytesWorld _ _ _ _ (Nat.le_refl _))⟩
            have HBL : Aside0 (WB.heap[g]? = some (.cells (Lib.bytesCells wA 5 t200) 5 ((Lib.bytesCells wA 5 t200).size, (Lib.bytesCells wA 5 t200).size + 1))) := ⟨by rw [hWB, hgg]; exact Lib.bytesWorld_at_new wA 5 t200⟩
            have HGE : Aside0 (w.heap.size ≤ g) := ⟨by rw [hgg]; exact HBA.out.size⟩
            have HLT : Aside0 (g < WB.heap.size) := ⟨by rw [hWB, hgg, Lib.bytesWorld_size]; exact Nat.lt_succ_self _⟩
            clear hcp hWB hgg
            go_wp2_with fail
            refine (laws_vAt.calls _ _ l0 9 t208 _ (Kd.C_below HR0.out HBB.out) HC0.out A37.out).mono ?_
            rintro e wC ⟨rfl, hd⟩
            have HVC := Aside0.mk hd.below
            have HBC := Aside0.mk (below_step HBB.out hd.below)
            clear hd
            have hq' := HQ.out.symm
            go_wp2_with fail
            have hj0 : q.toNat < t200.size := by have := HG.out; omega
            obtain ⟨b0, hb0⟩ : ∃ b0 : Int, b0 = ((t200.data.toList.getD q.toNat 0).toNat : Int) := ⟨_, rfl⟩
            have KEY : Aside0 (∀ W', Below wC.heap.size wC W' → Below wC.heap.size wC W' ∧ W'.cell? ⟨g, q.toNat, none⟩ = some (.int .u8 b0) ∧ W'.frozen? ⟨g, q.toNat, none⟩ = false) := ⟨fun W' h => by
             have hb := HVC.out.trans (h.mono HVC.out.size)
             have hk := (hb.block g HLT.out).trans HBL.out
             exact ⟨h, by rw [hb0]; exact by_cell hk _ hj0, by_frozen hk _ hj0⟩⟩
            have HB0 := Aside0.mk hb0
            have HJ0 := Aside0.mk hj0
            have p0 := eq_true HG.out.1
            have p1 := eq_true HG.out.2.1
            obtain ⟨K0, K1, K2⟩ := KEY.out _ (Below.refl _ _)
            clear hb0 hj0 hconv
            refine start_ (n := 14) (S := fun W' => Below wC.heap.size wC W' ∧ W'.cell? ⟨g, q.toNat, none⟩ = some (.int .u8 b0) ∧ W'.frozen? ⟨g, q.toNat, none⟩ = false) (ds := [13]) #[false, false, false, false, false, false, false, false, false, false, false, false, false, false] (by kernel_rfl) rfl rfl (KEY.out _ (below_drew1 (Below.refl _ _))) (fun hHeld => ?_)
            clear K0 K1 K2
            generalize wC.drew = wD at hHeld ⊢
            refine pure_ (i := 0) (N := some 123) (v := ?_) (a' := ?_) #[true, false, false, false, false, false, false, false, false, false, false, false, false, false] rfl rfl (by kernel_rfl) (fun _ _ _ h => h) (Or.inl ⟨by rfl, ?_⟩) ?_ ?_
            rotate_left
            ·intro w'
             go_simp
             with_reducible rfl
            rotate_left
            ·simp only [Act.put, List.setIfInBounds_toArray, List.set_cons_zero, List.set_cons_succ, i64_w, i32_w]
             rfl
            refine pure_ (i := 1) (N := some 124) (v := ?_) (a' := ?_) #[true, true, false, false, false, false, false, false, false, false, false, false, false, false] rfl rfl (by kernel_rfl) (fun _ _ _ h => h) (Or.inl ⟨by rfl, ?_⟩) ?_ ?_
            rotate_left
            ·intro w'
             go_simp
             with_reducible rfl
            rotate_left
            ·simp only [Act.put, List.setIfInBounds_toArray, List.set_cons_zero, List.set_cons_succ, i64_w, i32_w]
             rfl
            refine pure_ (i := 2) (N := some 125) (v := ?_) (a' := ?_) #[true, true, true, false, false, false, false, false, false, false, false, false, false, false] rfl rfl (by kernel_rfl) (fun _ _ _ h => h) (Or.inl ⟨by rfl, ?_⟩) ?_ ?_
            rotate_left
            ·intro w'
             go_simp
             with_reducible rfl
            rotate_left
            ·simp only [Act.put, List.setIfInBounds_toArray, List.set_cons_zero, List.set_cons_succ, i64_w, i32_w]
             rfl
            refine pure_ (i := 3) (N := some 126) (v := ?_) (a' := ?_) #[true, true, true, true, false, false, false, false, false, false, false, false, false, false] rfl rfl (by kernel_rfl) (fun _ _ _ h => h) (Or.inl ⟨by rfl, ?_⟩) ?_ ?_
            rotate_left
            ·intro w'
             go_simp
             with_reducible rfl
            rotate_left
            ·simp only [Act.put, List.setIfInBounds_toArray, List.set_cons_zero, List.set_cons_succ, i64_w, i32_w]
             rfl
            refine pure_ (i := 4) (N := some 127) (v := ?_) (a' := ?_) #[true, true, true, true, true, false, false, false, false, false, false, false, false, false] rfl rfl (by kernel_rfl) (fun _ _ _ h => h) (Or.inl ⟨by rfl, ?_⟩) ?_ ?_
            rotate_left
            ·intro w'
             go_simp
             with_reducible rfl
            rotate_left
            ·simp only [Act.put, List.setIfInBounds_toArray, List.set_cons_zero, List.set_cons_succ, i64_w, i32_w]
             rfl
            refine pure_ (i := 6) (N := some 129) (v := ?_) (a' := ?_) #[true, true, true, true, true, false, true, false, false, false, false, false, false, false] rfl rfl (by kernel_rfl) (fun _ _ _ h => h) (Or.inl ⟨by rfl, ?_⟩) ?_ ?_
            rotate_left
            ·intro w'
             go_simp
             with_reducible rfl
            rotate_left
            ·simp only [Act.put, List.setIfInBounds_toArray, List.set_cons_zero, List.set_cons_succ, i64_w, i32_w]
             rfl
            refine take_ (i := 5) (N := some 128) (v := ?_) (a' := ?_) #[true, true, true, true, true, true, true, false, false, false, false, false, false, false] rfl rfl (by kernel_rfl) (fun _ _ _ h => h) (Or.inl ⟨by rfl, ?_⟩) hHeld ?_ ?_
            rotate_left
            ·rintro w' ⟨s0, s1, s2⟩
             go_simp
             with_reducible rfl
            rotate_left
            ·simp only [Act.put, List.setIfInBounds_toArray, List.set_cons_zero, List.set_cons_succ, i64_w, i32_w]
             rfl
            refine one_ (i := 7) (N := some 130) #[true, true, true, true, true, true, true, true, false, false, false, false, false, false] rfl rfl (by kernel_rfl) (by decide) (fun K hK => ?_)
            refine goes_ Tryd.func15 (by kernel_rfl) rfl #[.slice A0 l0.length c0, .int .i64 10] (by rfl) rfl rfl (by (try simp only [List.map_toArray, List.map_cons, List.map_nil]); first | done | rfl | (simp only [List.length_drop, List.length_take]; rfl)) ?_
            with_reducible refine (laws_vAt.calls _ _ l0 10 t209 _ ?side1 ?side2 A39.out).mono ?_
            (case side1 => exact Kd.C_below (Kd.C_below HR0.out HBC.out) hHeld.1)
            (case side2 => exact HC0.out)
            rintro e w' ⟨rfl, hd⟩
            have hbD := below_step hHeld.1 hd.below
            clear hd hHeld
            refine ⟨_, rfl, ?_⟩
            refine hK.out _ _ (KEY.out _ hbD) (fun hHeld => ?_)
            clear hK K hbD
            refine norm_ (a' := ?_) ?_ ?_
            rotate_left
            ·show Act.put _ (some 130) _ = _
             simp only [Act.put, List.setIfInBounds_toArray, List.set_cons_zero, List.set_cons_succ, i64_w, i32_w]
             rfl
            refine pure_ (i := 8) (N := some 131) (v := ?_) (a' := ?_) #[true, true, true, true, true, true, true, true, true, false, false, false, false, false] rfl rfl (by kernel_rfl) (fun _ _ _ h => h) (Or.inl ⟨by rfl, ?_⟩) ?_ ?_
            rotate_left
            ·intro w'
             go_simp
             with_reducible rfl
            rotate_left
            ·simp only [Act.put, List.setIfInBounds_toArray, List.set_cons_zero, List.set_cons_succ, i64_w, i32_w]
             rfl
            refine pure_ (i := 9) (N := some 132) (v := ?_) (a' := ?_) #[true, true, true, true, true, true, true, true, true, true, false, false, false, false] rfl rfl (by kernel_rfl) (fun _ _ _ h => h) (Or.inl ⟨by rfl, ?_⟩) ?_ ?_
            rotate_left
            ·intro w'
             go_simp
             with_reducible rfl
            rotate_left
            ·simp only [Act.put, List.setIfInBounds_toArray, List.set_cons_zero, List.set_cons_succ, i64_w, i32_w]
             rfl
            refine pure_ (i := 10) (N := some 133) (v := ?_) (a' := ?_) #[true, true, true, true, true, true, true, true, true, true, true, false, false, false] rfl rfl (by kernel_rfl) (fun _ _ _ h => h) (Or.inl ⟨by rfl, ?_⟩) ?_ ?_
            rotate_left
            ·intro w'
             go_simp
             with_reducible rfl
            rotate_left
            ·simp only [Act.put, List.setIfInBounds_toArray, List.set_cons_zero, List.set_cons_succ, i64_w, i32_w]
             rfl
            refine pure_ (i := 11) (N := some 134) (v := ?_) (a' := ?_) #[true, true, true, true, true, true, true, true, true, true, true, true, false, false] rfl rfl (by kernel_rfl) (fun _ _ _ h => h) (Or.inl ⟨by rfl, ?_⟩) ?_ ?_
            rotate_left
            ·intro w'
             go_simp
             with_reducible rfl
            rotate_left
            ·simp only [Act.put, List.setIfInBounds_toArray, List.set_cons_zero, List.set_cons_succ, i64_w, i32_w]
             rfl
            refine pure_ (i := 12) (N := some 135) (v := ?_) (a' := ?_) #[true, true, true, true, true, true, true, true, true, true, true, true, true, false] rfl rfl (by kernel_rfl) (fun _ _ _ h => h) (Or.inl ⟨by rfl, ?_⟩) ?_ ?_
            rotate_left
            ·intro w'
             go_simp
             with_reducible rfl
            rotate_left
            ·simp only [Act.put, List.setIfInBounds_toArray, List.set_cons_zero, List.set_cons_succ, i64_w, i32_w]
             rfl
            obtain ⟨hE1, hE2, hE3⟩ := hHeld
            refine last_ (i := 13) (N := none) #[true, true, true, true, true, true, true, true, true, true, true, true, true, true] rfl rfl (by kernel_rfl) (by decide) (fun K hK => ?_)
            refine skip_ (w1 := ?_) (by rfl) rfl ?_ ?_
            rotate_left
            ·go_simp
             with_reducible rfl
            refine hK.out _ _ ?_
            clear hK K
            refine norm_ (a' := ?_) ?_ ?_
            rotate_left
            ·show Act.put _ none _ = _
             simp only [Act.put]
             rfl
            obtain ⟨WF, hWF⟩ : ∃ W, W = w'.setCell ⟨g, q.toNat, none⟩ (.int .u8 (Go.bits .xor .u8 b0 (IntKind.u8.wrap (wrap64 (1 + (Int.tmod t209 255)))))) := ⟨_, rfl⟩
            rw [← hWF]
            have HBF : Aside0 (Below w.heap.size w WF) := ⟨by rw [hWF]; exact below_set (below_step HBC.out hE1) HGE.out⟩
            have hkF := ((HVC.out.trans (hE1.mono HVC.out.size)).block g HLT.out).trans HBL.out
            have hBY : Lib.Bytes WF g 0 t210 := by
             rw [hWF, ← HF.out, u8_wrap, ← HVV.out, HB0.out]
             exact by_flip hkF q v ⟨HG.out.1, HG.out.2.1⟩ HG.out.2.2
            have hsz : t210.size = t200.size := by rw [← HF.out]; exact flipB_size _ _ _
            have hconv2 : (convert 22 9 (.slice (some ⟨g, 0, none⟩) t200.size c)).run Tryd.prog WF = .ok (.string t210) WF := by
             rw [← hsz]
             exact Lib.run_convert_whole WF 22 5 9 Tryd.underlying22 Tryd.underlying5 Tryd.underlying9 g 0 t210 hBY c
            clear hWF hkF hBY hsz hE1 hE2 hE3
            refine done_ (by kernel_rfl) ?_
            go_wp2_with fail
            refine (impl_VerifyChecksum.calls kj29 t210 t211 t212 _ A41.out (HT_.out _ HBF.out)).mono ?_
            rintro e wG ⟨rfl, hbG⟩
            have HBG := Aside0.mk (below_step HBF.out hbG)
            clear hbG
            go_wp2
            go_ret
            exact ⟨by first | rfl | (simp [errW_none, errW_some] <;> rfl) | (simp [*, errW_none, errW_some] <;> rfl), HBG.out⟩
           ·rw [if_neg c43] at H
            exact absurd H (by simp)
          ·replace c42 := Bool.eq_false_iff.mpr c42
           subst c42
           have H1 : (none) = some r := by rw [if_neg (show ¬ (false = true) by decide)] at H; exact H
           clear H
           have H := H1
           clear H1
           exact absurd H (by simp)
        ·replace c35 := Bool.eq_false_iff.mpr c35
         subst c35
         have H1 : (some (t200.toList == ([] : List UInt8))) = some r := by rw [if_neg (show ¬ (false = true) by decide)] at H; exact H
         clear H
         have H := H1
         clear H1
         obtain rfl := Option.some.inj H
         go_wp2
         go_ret
         exact ⟨by first | rfl | (simp [errW_none, errW_some] <;> rfl) | (simp [*, errW_none, errW_some] <;> rfl), by repeat (first | (with_reducible first | exact HB.out | apply below_alloc | apply pw_below_drewN | apply below_drew1) | exact HB.out)⟩

/-- THE ONE PURE STATEMENT of laws_FnStrings: yours. -/
def laws_FnStrings.Pure : Prop := ∀ (l0 : List Int), l0.length ≤ maxLen → l0.length * 1 ≤ 140737488351232 → (∀ x ∈ l0, (Lit.int .u8 x).wf = true) → ∃ k, laws_FnStrings.f k l0 = some true

end Go.Proofs.YtlfjalobklnkcaaDoor.H
