-- by wip/pack.py of this repo
import Derived.Test.YthalifhbjioaeaaDoorZ10Hx0
import Derived.Test.YthalifhbjioaeaaDoorZ10Hx3
import Derived.Test.YthalifhbjioaeaaDoorZ10WLast
import Derived.Test.YthalifhbjioaeaaDoorZ10WMore
import Derived.Test.YthalifhbjioaeaaDoorZ10WWords
import Derived.Test.YthalifhbjioaeaaDoorZ10Short
namespace Go.Proofs.YthalifhbjioaeaaDoor.H
open Go.RowKit Go.Proofs.YthalifhbjioaeaaDoorW.PrintWords Go.Proofs.YthalifhbjioaeaaDoorW.PrintLast Go.Proofs.YthalifhbjioaeaaDoorW.PrintMore
attribute [local go_sem] max2_int min2_int max_two min_two max_three min_three max_four min_four
set_option maxHeartbeats 8000000
set_option maxRecDepth 100000
set_option linter.unusedVariables false
set_option linter.unusedSimpArgs false
def spec_IsWeaver.f (k : Nat) (a0_0 : Int) (a0_1 : ByteArray) (a0_2 : Int) (a0_3 : Int) (a0_4 : Int) : Option (Bool) := (spec_l11One.f k a0_0 a0_1 a0_2 a0_3 a0_4).bind fun t111 => (some t111)
theorem spec_IsWeaver.calls (k : Nat) (Ab : Int) (Ac : ByteArray) (Ad : Int) (Ae : Int) (Af : Int) (r : Bool) (w : World) (h : spec_IsWeaver.f k Ab Ac Ad Ae Af = some r) :
  Calls Tryd.prog 16 #[.agg #[.int .i64 Ab, .string Ac, .int .i64 Ad, .int .i64 Ae, .int .i64 Af]] w fun e w' => e = .returned (.bool r) ∧ Below w.heap.size w w' := by
 have hu26 := Tryd.underlying26; have HB := aM (Below.refl w.heap.size w); have H : ((spec_l11One.f k Ab Ac Ad Ae Af).bind fun Ag => (some Ag)) = some r := h; clear h; replace H := Option.bind_eq_some_iff.mp H; obtain ⟨Ag, Au, H⟩ := H; replace H : (some Ag) = some r := H; have A2 := Aside0.mk Au; clear Au; obtain rfl := Option.some.inj H
 go_enter Tryd.func16, Tryd.ntmps16
 go_wp2_with (first | ((with_reducible refine gate_dst (N := 1) rfl ?_); refine bxE 1 #[.int .i64 Ab, .string Ac, .int .i64 Ad, .int .i64 Ae, .int .i64 Af] 26 ?_; intro Av hg w3 hbox hb; have Aa := aM (hbox); have Aw := gwS hg Z0; have Ah := gwS hg Z0; replace HB := hbS Z0 hb; clear hb hbox hg; obtain ⟨Ai, Aj, Ak, Al, Am⟩ := bz5 Aa; obtain ⟨An, Ao, Ap, Aq, Ar⟩ := fz5 Aa) | ((with_reducible refine gate_callee (f := 56) rfl ?_); refine glE (some 4) Tryd.func56 #[.agg #[.int .i64 Ab, .string Ac, .int .i64 Ad, .int .i64 Ae, .int .i64 Af]] ?_; (with_reducible refine (spec_l11One.calls k Ab Ac Ad Ae Af Ag _ A2.out).mono ?_); rintro e w5 ⟨rfl, hb⟩; refine ⟨_, rfl, ?_⟩; replace Aa := bkB Aa hb; replace HB := hbS Z86 hb; (try clear hb)))
 go_ret
 exact ⟨Z14, Z86⟩
end Go.Proofs.YthalifhbjioaeaaDoor.H
