-- by wip/pack.py of this repo
import Derived.Test.YtplhkmeoeojinaaZ04Hx0
import Derived.Test.YtplhkmeoeojinaaZ04WEqStruct
import Derived.Test.YtplhkmeoeojinaaZ04WWords
import Derived.Test.YtplhkmeoeojinaaZ04Short
namespace Go.Proofs.Ytplhkmeoeojinaa.H
open Go.RowKit Go.Proofs.YtplhkmeoeojinaaW.PrintWords
set_option maxHeartbeats 8000000
set_option maxRecDepth 100000
set_option linter.unusedVariables false
set_option linter.unusedSimpArgs false
theorem eqA56 (d : Nat) (w : World) (x0 y0 : Int) (x1 y1 : Int) (x2 y2 : Int) (x3 y3 : Int) (x4 y4 : Int) :
  (Op.equalIn (d + 2) 56 (.agg #[.int .i64 x0, .int .i64 x1, .int .i64 x2, .int .i64 x3, .int .i64 x4]) (.agg #[.int .i64 y0, .int .i64 y1, .int .i64 y2, .int .i64 y3, .int .i64 y4])).run Try.prog w = .ok (x0 == y0 && (x1 == y1 && (x2 == y2 && (x3 == y3 && (x4 == y4))))) w := by
 refine eqA_of Try.underlying56 Z31 ?_; refine eqf_cons (by rfl) Z103 Z103 (by go_simp) ?_; refine eqf_cons (by rfl) Z103 Z103 (by go_simp) ?_; refine eqf_cons (by rfl) Z103 Z103 (by go_simp) ?_; refine eqf_cons (by rfl) Z103 Z103 (by go_simp) ?_
 exact eqf_last (by rfl) Z103 Z103 (by go_simp)
end Go.Proofs.Ytplhkmeoeojinaa.H
