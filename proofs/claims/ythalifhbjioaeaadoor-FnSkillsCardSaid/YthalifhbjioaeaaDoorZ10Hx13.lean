-- by wip/pack.py of this repo
import Derived.Test.YthalifhbjioaeaaDoorZ10Hx0
import Derived.Test.YthalifhbjioaeaaDoorZ10WWords
import Derived.Test.YthalifhbjioaeaaDoorZ10Short
namespace Go.Proofs.YthalifhbjioaeaaDoor.H
open Go.RowKit Go.Proofs.YthalifhbjioaeaaDoorW.PrintWords
set_option maxHeartbeats 8000000
set_option maxRecDepth 100000
set_option linter.unusedVariables false
set_option linter.unusedSimpArgs false
def impl_Weaver_has.f (a0_0 : Int) (a0_1 : ByteArray) (a0_2 : Int) (a0_3 : Int) (a0_4 : Int) (a1 : Int) : Option (Bool) := some ((Go.bits .and .i64 a0_2 a1) == a1)
theorem impl_Weaver_has.calls (Ac : Int) (Ad : ByteArray) (Aa : Int) (Ae : Int) (Af : Int) (a1 : Int) (r : Bool) (w : World) (h : impl_Weaver_has.f Ac Ad Aa Ae Af a1 = some r) :
  Calls Tryd.prog 76 #[.agg #[.int .i64 Ac, .string Ad, .int .i64 Aa, .int .i64 Ae, .int .i64 Af], .int .i64 a1] w fun e w' => e = .returned (.bool r) ∧ Below w.heap.size w w' := by
 have hu26 := Tryd.underlying26; have HB := aM (Below.refl w.heap.size w); have H : (some ((Go.bits .and .i64 Aa a1) == a1)) = some r := h; clear h; obtain rfl := Option.some.inj H
 go_enter Tryd.func76, Tryd.ntmps76
 go_wp2_with (first | ((with_reducible refine gate_dst (N := 2) rfl ?_); refine bxE 2 #[.int .i64 Ac, .string Ad, .int .i64 Aa, .int .i64 Ae, .int .i64 Af] 26 ?_; intro Ar hg w3 hbox hb; have Ab := aM (hbox); have Au := gwS hg Z0; have Ag := gwS hg Z0; replace HB := hbS Z0 hb; clear hb hbox hg; obtain ⟨Ah, Ai, Aj, Ak, Al⟩ := bz5 Ab; obtain ⟨Am, An, Ao, Ap, Aq⟩ := fz5 Ab))
 go_ret
 exact ⟨Z14, Z87⟩
end Go.Proofs.YthalifhbjioaeaaDoor.H
