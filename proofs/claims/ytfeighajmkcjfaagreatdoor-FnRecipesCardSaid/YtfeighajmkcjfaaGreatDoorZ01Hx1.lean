-- by wip/pack.py of this repo
import Derived.Test.YtfeighajmkcjfaaGreatDoorZ01Hx0
import Derived.Test.YtfeighajmkcjfaaGreatDoorZ01WEqStruct
import Derived.Test.YtfeighajmkcjfaaGreatDoorZ01WWords
import Derived.Test.YtfeighajmkcjfaaGreatDoorZ01Short
namespace Go.Proofs.YtfeighajmkcjfaaGreatDoor.H
open Go.RowKit Go.Proofs.YtfeighajmkcjfaaGreatDoorW.PrintWords
set_option maxHeartbeats 8000000
set_option maxRecDepth 100000
set_option linter.unusedVariables false
set_option linter.unusedSimpArgs false
theorem eqA53 (d : Nat) (w : World) (x0 y0 : ByteArray) (x1 y1 : Int) :
  (Op.equalIn (d + 2) 53 (.agg #[.string x0, .int .i64 x1]) (.agg #[.string y0, .int .i64 y1])).run Tryz.prog w = .ok (x0.toList == y0.toList && (x1 == y1)) w := by
 refine eqA_of Tryz.underlying53 Z21 ?_; refine eqf_cons (by rfl) (by go_simp; rfl) (by go_simp; rfl) (by go_simp) ?_
 exact eqf_last (by rfl) (by go_simp; rfl) (by go_simp; rfl) (by go_simp)
end Go.Proofs.YtfeighajmkcjfaaGreatDoor.H
