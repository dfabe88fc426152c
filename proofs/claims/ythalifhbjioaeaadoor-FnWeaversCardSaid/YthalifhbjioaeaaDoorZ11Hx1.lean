-- by wip/pack.py of this repo
import Derived.Test.YthalifhbjioaeaaDoorZ11Hx0
import Derived.Test.YthalifhbjioaeaaDoorZ11WEqStruct
import Derived.Test.YthalifhbjioaeaaDoorZ11WWords
import Derived.Test.YthalifhbjioaeaaDoorZ11Short
namespace Go.Proofs.YthalifhbjioaeaaDoor.H
open Go.RowKit Go.Proofs.YthalifhbjioaeaaDoorW.PrintWords
set_option maxHeartbeats 8000000
set_option maxRecDepth 100000
set_option linter.unusedVariables false
set_option linter.unusedSimpArgs false
theorem eqA26 (d : Nat) (w : World) (x0 y0 : Int) (x1 y1 : ByteArray) (x2 y2 : Int) (x3 y3 : Int) (x4 y4 : Int) :
  (Op.equalIn (d + 2) 26 (.agg #[.int .i64 x0, .string x1, .int .i64 x2, .int .i64 x3, .int .i64 x4]) (.agg #[.int .i64 y0, .string y1, .int .i64 y2, .int .i64 y3, .int .i64 y4])).run Tryd.prog w = .ok (x0 == y0 && (x1.toList == y1.toList && (x2 == y2 && (x3 == y3 && (x4 == y4))))) w := by
 refine eqA_of Tryd.underlying26 Z32 ?_; refine eqf_cons (by rfl) Z111 Z111 (by go_simp) ?_; refine eqf_cons (by rfl) Z111 Z111 (by go_simp) ?_; refine eqf_cons (by rfl) Z111 Z111 (by go_simp) ?_; refine eqf_cons (by rfl) Z111 Z111 (by go_simp) ?_
 exact eqf_last (by rfl) Z111 Z111 (by go_simp)
end Go.Proofs.YthalifhbjioaeaaDoor.H
