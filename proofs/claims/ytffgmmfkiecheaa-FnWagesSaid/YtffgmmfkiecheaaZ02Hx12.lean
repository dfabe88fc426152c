-- by wip/pack.py of this repo
import Derived.Test.YtffgmmfkiecheaaZ02Hx0
import Derived.Test.YtffgmmfkiecheaaZ02Hx10
import Derived.Test.YtffgmmfkiecheaaZ02WTab
import Derived.Test.YtffgmmfkiecheaaZ02WWords
import Derived.Test.YtffgmmfkiecheaaZ02Short
namespace Go.Proofs.Ytffgmmfkiecheaa.H
open Go.RowKit Go.Proofs.YtffgmmfkiecheaaW.PrintWords Go.Proofs.YtffgmmfkiecheaaW.PrintLast
set_option maxHeartbeats 8000000
set_option maxRecDepth 100000
set_option linter.unusedVariables false
set_option linter.unusedSimpArgs false
def spec_l1Least.f (a0 : Int) (a1 : Int) : Option (Int) := if a0 < a1 then (some a0) else (some a1)
theorem spec_l1Least.calls (a0 : Int) (a1 : Int) (r : Int) (w : World) (h : spec_l1Least.f a0 a1 = some r) :
  Calls Try.prog 76 #[.int .i64 a0, .int .i64 a1] w fun e w' => e = .returned (.int .i64 r) ∧ Drawn0 w w' := by
 have H : (if a0 < a1 then (some a0) else (some a1)) = some r := h; clear h
 by_cases c3 : a0 < a1
 ·rw [if_pos c3] at H
  have c3b0 : decide (a0 < a1) = true := decide_eq_true c3; clear c3; obtain rfl := Option.some.inj H
  go_enter Try.func76, Try.ntmps76
  go_wp2
  go_ret
  exact ⟨Z30, Z58⟩
 ·rw [if_neg c3] at H
  have c3b0 : decide (a0 < a1) = false := decide_eq_false c3; clear c3; obtain rfl := Option.some.inj H
  go_enter Try.func76, Try.ntmps76
  go_wp2
  go_ret
  exact ⟨Z30, Z58⟩
def spec_l1Cur_workSheet.f (s0_0 : List Int) (s0_1 : Int) (s0_2 : Int) (a1 : Int) (a2 : Int) : Option (Int × Int × Int × Int × Int × Int × Int) := (spec_l1Cur_among.f s0_0 s0_1 s0_2 (([0, 500, 7999, 8000, 8100, 12000] : List Int))).bind fun bt494 => ((spec_l1Cur_among.f s0_0 bt494.2.1 bt494.2.2 (([0, 0, 3, 12] : List Int))).bind fun bt500 => ((spec_l1Cur_among.f s0_0 bt500.2.1 bt500.2.2 (([0, 0, 99, 100, 250, 12000] : List Int))).bind fun bt507 => ((spec_l1Least.f bt494.1 bt507.1).bind fun t510 => ((spec_l1Cur_pick.f s0_0 bt507.2.1 bt507.2.2 80).bind fun bt511 => (if bt511.1 = 0 then ((spec_l1Cur_among.f s0_0 bt511.2.1 bt511.2.2 (([0, 99, 100] : List Int))).bind fun bt517 => (some (bt517.1, a1, bt494.1, t510, bt500.1, bt517.2.1, bt517.2.2))) else (if bt511.1 = 1 then ((spec_l1Cur_among.f s0_0 bt511.2.1 bt511.2.2 (([(-1), 4001] : List Int))).bind fun bt523 => (some (a2, bt523.1, bt494.1, t510, bt500.1, bt523.2.1, bt523.2.2))) else (if bt511.1 = 2 then ((spec_l1Cur_among.f s0_0 bt511.2.1 bt511.2.2 (([(-1), 12001] : List Int))).bind fun bt529 => (some (a2, a1, bt529.1, t510, bt500.1, bt529.2.1, bt529.2.2))) else (if bt511.1 = 3 then ((spec_l1Cur_among.f s0_0 bt511.2.1 bt511.2.2 (([(-1), wrap64 (bt494.1 + 1)] : List Int))).bind fun bt535 => (some (a2, a1, bt494.1, bt535.1, bt500.1, bt535.2.1, bt535.2.2))) else (if bt511.1 = 4 then ((spec_l1Cur_among.f s0_0 bt511.2.1 bt511.2.2 (([(-1), 13] : List Int))).bind fun bt541 => (some (a2, a1, bt494.1, t510, bt541.1, bt541.2.1, bt541.2.2))) else (some (a2, a1, bt494.1, t510, bt500.1, bt511.2.1, bt511.2.2)))))))))))
def spec_l1Cur_workSheet.T2 : Bool × List (List Nat × List Nat) := (true, [([], []), ([0], [0]), ([], []), ([], []), ([2, 3], [2, 3]), ([1, 4, 4], [1, 4]), ([0, 1, 2, 3, 4, 5], []), ([6, 5, 5, 0, 1, 2, 3, 4, 5], [5, 6])])
def spec_l1Cur_workSheet.B2 : List Nat := [0, 1, 0, 0, 12, 31, 63, 127]
theorem spec_l1Cur_workSheet.tab2 : rtab .any (opsOf Try.f58 2) = spec_l1Cur_workSheet.T2 := by kernel_rfl
theorem spec_l1Cur_workSheet.bits2 : waitsOk spec_l1Cur_workSheet.T2.2 spec_l1Cur_workSheet.B2 = true := by kernel_rfl
end Go.Proofs.Ytffgmmfkiecheaa.H
