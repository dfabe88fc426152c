-- by wip/pack.py of this repo
import Derived.Test.YthalifhbjioaeaaDoorZ10Hx0
import Derived.Test.YthalifhbjioaeaaDoorZ10Hx1
import Derived.Test.YthalifhbjioaeaaDoorZ10Hx8
import Derived.Test.YthalifhbjioaeaaDoorZ10Hx34
import Derived.Test.YthalifhbjioaeaaDoorZ10Hx35
import Derived.Test.YthalifhbjioaeaaDoorZ10WFoot
import Derived.Test.YthalifhbjioaeaaDoorZ10WLast
import Derived.Test.YthalifhbjioaeaaDoorZ10WMore
import Derived.Test.YthalifhbjioaeaaDoorZ10WRepsOne
import Derived.Test.YthalifhbjioaeaaDoorZ10WWords
import Derived.Test.YthalifhbjioaeaaDoorZ10Short
namespace Go.Proofs.YthalifhbjioaeaaDoor.H
open Go.RowKit Go.Proofs.YthalifhbjioaeaaDoorW.PrintWords Go.Proofs.YthalifhbjioaeaaDoorW.PrintLast Go.Proofs.YthalifhbjioaeaaDoorW.PrintMore
attribute [local go_sem] max2_int min2_int max_two min_two max_three min_three max_four min_four
set_option maxHeartbeats 8000000
set_option maxRecDepth 100000
set_option linter.unusedVariables false
set_option linter.unusedSimpArgs false
attribute [local go_sem high] eqA26
def spec_l1Cur_one.f (s0_0 : List Int) (s0_1 : Int) (s0_2 : Int) (a1 : Int) : Option (Bool × Int × Int) := (spec_l1Cur_pick.f s0_0 s0_1 s0_2 a1).bind fun bt732 => (some ((bt732.1 == 0), bt732.2.1, bt732.2.2))
theorem spec_l1Cur_one.calls (g : Nat) (Aa : List Int) (Ac : Int) (Ad : Int) (a1 : Int) (r1 : Bool) (r2 : Int) (r3 : Int) (w0 w : World) (hI : IsS85 w0 w g Aa Ac Ad) (hB : Below w0.heap.size w0 w) (h : spec_l1Cur_one.f Aa Ac Ad a1 = some (r1, r2, r3)) :
  Calls Tryd.prog 104 #[.pointer (some ⟨g, 0, none⟩), .int .i64 a1] w fun e w' => e = .returned (.bool r1) ∧ IsS85 w0 w' g Aa r2 r3 ∧ Below w0.heap.size w0 w' ∧ KeepBut w w' g none := by
 have HI0 := Aside0.mk hI; have HK := aM (KeepBut.refl w g none); have HL := Aside0.mk hB.size; clear hI; have Ai := Aside0.mk hB.size; have HB := Aside0.mk hB; clear hB; have H : ((spec_l1Cur_pick.f Aa Ac Ad a1).bind fun Ab => (some ((Ab.1 == 0), Ab.2.1, Ab.2.2))) = some (r1, r2, r3) := h; clear h; replace H := Option.bind_eq_some_iff.mp H; obtain ⟨⟨Ae, Af, Ag⟩, Ah, H⟩ := H; replace H : (some ((Ae == 0), Af, Ag)) = some (r1, r2, r3) := H; have A3 := Aside0.mk Ah; clear Ah
 simp only [Option.some.injEq, Prod.mk.injEq] at H
 obtain ⟨rfl, rfl, rfl⟩ := H
 go_enter Tryd.func104, Tryd.ntmps104
 go_wp2_with (first | ((with_reducible refine gate_callee (f := 93) rfl ?_); refine glE (some 7) Tryd.func93 #[.pointer (some ⟨g, 0, none⟩), .int .i64 a1] ?_; (with_reducible refine (spec_l1Cur_pick.calls g Aa Ac Ad a1 Ae Af Ag w0 _ ?side1 ?side2 A3.out).mono ?_); (case side1 => exact Z2); (case side2 => exact Z7); rintro e w4 ⟨rfl, hi, hb, hk⟩; refine ⟨_, rfl, ?_⟩; replace HK := aM (KeepBut.trans Z6 hk (.inl rfl)); replace HB := aM (hb); replace HI0 := aM (hi); (try clear hb); (try clear hk); (try clear hi)))
 go_ret
 exact ⟨Z14, Z2, Z7, Z6⟩
mutual
def spec_l1Cur_weavers.l0 : Nat → List (S26) → Int → Int → List Int → Int → Int → Option ((List (S26)) × Int × Int)
 | 0, _, _, _, _, _, _ => none
 | k + 1, x3, x4, x5, x1000, x1001, x1002 => if x5 > 0 then ((spec_l1Cur_pick.f x1000 x1001 x1002 3).bind fun bt741 => ((some (([] : List (S26)) : List (S26))).bind fun y744 => (if y744.length + x3.length < 2932031007402 then ((some (y744 ++ x3 : List (S26))).bind fun y747 => ((spec_l1Cur_weaver.f x1000 bt741.2.1 bt741.2.2 (wrap64 ((wrap64 (x4 + 1)) + bt741.1))).bind fun bt750 => (if y747.length < 2932031007402 then ((some (y747 ++ [(⟨bt750.1, bt750.2.1, bt750.2.2.1, bt750.2.2.2.1, bt750.2.2.2.2.1⟩ : S26)] : List (S26))).bind fun y757 => ((spec_l11Good.f k y757).bind fun t760 => (if t760 = true then (spec_l1Cur_weavers.l0 k y757 (wrap64 ((wrap64 (x4 + 1)) + bt741.1)) (wrap64 (x5 - 1)) x1000 bt750.2.2.2.2.2.1 bt750.2.2.2.2.2.2) else ((spec_l1Cur_one.f x1000 bt750.2.2.2.2.2.1 bt750.2.2.2.2.2.2 30).bind fun bt761 => (if bt761.1 = true then (spec_l1Cur_weavers.l0 k y757 (wrap64 ((wrap64 (x4 + 1)) + bt741.1)) (wrap64 (x5 - 1)) x1000 bt761.2.1 bt761.2.2) else (spec_l1Cur_weavers.l0 k x3 (wrap64 ((wrap64 (x4 + 1)) + bt741.1)) (wrap64 (x5 - 1)) x1000 bt761.2.1 bt761.2.2)))))) else (none)))) else (none)))) else ((spec_l1Cur_one.f x1000 x1001 x1002 24).bind fun bt764 => (if bt764.1 = true then (spec_l1Cur_weavers.l1 k (([] : List (S26))) 0 x1000 bt764.2.1 bt764.2.2) else (some (x3, bt764.2.1, bt764.2.2))))
def spec_l1Cur_weavers.l1 : Nat → List (S26) → Int → List Int → Int → Int → Option ((List (S26)) × Int × Int)
 | 0, _, _, _, _, _ => none
 | k + 1, x3, x7, x1000, x1001, x1002 => (spec_l1Cur_pick.f x1000 x1001 x1002 2).bind fun bt770 => (if x7 < (wrap64 (8 + bt770.1)) then (if x3.length < 2932031007402 then (spec_l1Cur_weavers.l1 k (x3 ++ [(⟨wrap64 (x7 + 1), (⟨#[120]⟩ : ByteArray), 1, 500, 0⟩ : S26)]) (wrap64 (x7 + 1)) x1000 bt770.2.1 bt770.2.2) else (none)) else (some (x3, bt770.2.1, bt770.2.2)))
end
def spec_l1Cur_weavers.f (k : Nat) (s0_0 : List Int) (s0_1 : Int) (s0_2 : Int) : Option ((List (S26)) × Int × Int) := (spec_l1Cur_pick.f s0_0 s0_1 s0_2 7).bind fun bt738 => (spec_l1Cur_weavers.l0 k (([] : List (S26))) 0 bt738.1 s0_0 bt738.2.1 bt738.2.2)
theorem spec_l1Cur_weavers.calls (k : Nat) (g : Nat) (Aa : List Int) (Bt : Int) (Bu : Int) (r1 : List (S26)) (r2 : Int) (r3 : Int) (w0 w : World) (hI : IsS85 w0 w g Aa Bt Bu) (hB : Below w0.heap.size w0 w) (h : spec_l1Cur_weavers.f k Aa Bt Bu = some (r1, r2, r3)) :
  Calls Tryd.prog 90 #[.pointer (some ⟨g, 0, none⟩)] w fun e w' => ∃ v0_ : Value, e = .returned (v0_) ∧ Kd.R k26 26 w' w.heap.size (fun _ => True) v0_ r1 ∧ IsS85 w0 w' g Aa r2 r3 ∧ Below w0.heap.size w0 w' ∧ KeepBut w w' g none := by
 have hu26 := Tryd.underlying26; have HI0 := Aside0.mk hI; have HK := aM (KeepBut.refl w g none); have HL := Aside0.mk hB.size; clear hI; have Dr := Aside0.mk hB.size; have HB := Aside0.mk hB; clear hB; have H : ((spec_l1Cur_pick.f Aa Bt Bu 7).bind fun Bf => (spec_l1Cur_weavers.l0 k (([] : List (S26))) 0 Bf.1 Aa Bf.2.1 Bf.2.2)) = some (r1, r2, r3) := h; clear h; obtain ⟨Cb, Bj⟩ : ∃ y_ : List (S26), y_ = (([] : List (S26))) := ⟨_, rfl⟩
 replace H : ((spec_l1Cur_pick.f Aa Bt Bu 7).bind fun Bf => (spec_l1Cur_weavers.l0 k Cb 0 Bf.1 Aa Bf.2.1 Bf.2.2)) = some (r1, r2, r3) := by first | (rw [Bj]; with_reducible exact H) | (have H2_ := (Option.bind_some _ _).symm.trans H; rw [Bj]; with_reducible exact H2_) | (have H2_ := (Option.bind_some _ _).symm.trans H; with_reducible exact H2_) | with_reducible exact H | (rw [Bj]; exact H) | exact H
 have B9 := Aside0.mk Bj; clear Bj; replace H := Option.bind_eq_some_iff.mp H; obtain ⟨⟨Cc, Cd, Ce⟩, Dh, H⟩ := H; replace H : (spec_l1Cur_weavers.l0 k Cb 0 Cc Aa Cd Ce) = some (r1, r2, r3) := H; have A2 := Aside0.mk Dh; clear Dh; have H' := Aside0.mk H; clear H
 go_enter Tryd.func90, Tryd.ntmps90
 go_wp2_with (first | ((with_reducible refine gate_dst (N := 8) rfl ?_); refine Kd.R_lit k26 _ 26 ?hg (N := 8) ?hd (xs := ([] : List (S26))) (inner := []) (ok := fun _ => True) (okp := fun _ => True) ?hr ?hp (fun _ hk => hk) trivial (Below.refl _ _) (Nat.le_refl _) (by simp) ?_; (case hd => rfl); (case hg => rfl); (case hr => first | (go_simp; done) | (go_simp; rfl)); (case hp => exact (Reps.none _ _)); intro Dn w3 Cg hb hg_ hnew_; clear hg_ hnew_; (first | rw [← B9.out] at Cg | (simp only [Int.reduceToNat] at Cg; rw [← B9.out] at Cg)); have B3 := aM (Kd.R_lower Cg (keep_size (w := w) (g := g) (row := none) Z6)); replace HK := aM (KeepBut.trans Z6 (KeepBut.of_below hb g none) (.inl rfl)); replace HB := aM (below_step Z7 hb); replace HI0 := aM (IsS85.below Z2 hb); clear hb Cg) | ((with_reducible refine gate_callee (f := 93) rfl ?_); refine glE (some 10) Tryd.func93 #[.pointer (some ⟨g, 0, none⟩), .int .i64 7] ?_; (with_reducible refine (spec_l1Cur_pick.calls g Aa Bt Bu 7 Cc Cd Ce w0 _ ?side1 ?side2 A2.out).mono ?_); (case side1 => exact Z2); (case side2 => exact Z7); rintro e w5 ⟨rfl, hi, hb, hk⟩; refine ⟨_, rfl, ?_⟩; replace B3 := aM (Kd.R_mono (Kd.R_keep (IsS85.apart (show IsS85 w0 _ g Aa Bt Bu from Z2) Z98 (by decide)) hk (fun _ h => h.2)) (fun _ h => h.1)); replace HK := aM (KeepBut.trans Z6 hk (.inl rfl)); replace HB := aM (hb); replace HI0 := aM (hi); (try clear hb); (try clear hk); (try clear hi)))
 go_loopg [3, 4, 5] k (fun kq v3 v4 v5 w' => ∃ (Am : List (S26)) (Ae : Int) (Ah : Int) (Ai : Int) (Aj : Int), v4 = .int .i64 Ae ∧ v5 = .int .i64 Ah ∧ Aside0 (spec_l1Cur_weavers.l0 kq Am Ae Ah Aa Ai Aj = some (r1, r2, r3)) ∧ Aside0 (kq ≤ k) ∧ Aside0 (Kd.R k26 26 w' w.heap.size (fun _ => True) v3 Am) ∧ Aside0 (IsS85 w0 w' g Aa Ai Aj) ∧ Aside0 (KeepBut w w' g none) ∧ Aside0 (Below w0.heap.size w0 w'))
 case atStart => exact ⟨(Cb), (0), (Cc), (Cd), (Ce), Z15, Z15, H', ⟨Nat.le_refl _⟩, ⟨Z98⟩, ⟨Z2⟩, ⟨Z6⟩, ⟨Z7⟩⟩
 case round =>
  clear H'; (try clear p2); obtain ⟨Am, Ae, Ah, Ai, Aj, rfl, rfl, HA, HK1, Ab, HI0, HK, HB⟩ := hrel; cases gk with
  | zero => exact absurd HA.out (by simp [spec_l1Cur_weavers.l0])
  | succ k1 =>
   have H := HA.out; clear HA
   simp only [spec_l1Cur_weavers.l0] at H
   by_cases c6 : Ah > 0
   ·rw [if_pos c6] at H
    have c6b0 : decide (0 < Ah) = true := decide_eq_true c6; clear c6; replace H := Option.bind_eq_some_iff.mp H; obtain ⟨⟨Af, Au, Av⟩, Di, H⟩ := H; replace H : ((some (([] : List (S26)) : List (S26))).bind fun Bg => (if Bg.length + Am.length < 2932031007402 then ((some (Bg ++ Am : List (S26))).bind fun Aw => ((spec_l1Cur_weaver.f Aa Au Av (wrap64 ((wrap64 (Ae + 1)) + Af))).bind fun Ad => (if Aw.length < 2932031007402 then ((some (Aw ++ [(⟨Ad.1, Ad.2.1, Ad.2.2.1, Ad.2.2.2.1, Ad.2.2.2.2.1⟩ : S26)] : List (S26))).bind fun Ak => ((spec_l11Good.f k1 Ak).bind fun Bd => (if Bd = true then (spec_l1Cur_weavers.l0 k1 Ak (wrap64 ((wrap64 (Ae + 1)) + Af)) (wrap64 (Ah - 1)) Aa Ad.2.2.2.2.2.1 Ad.2.2.2.2.2.2) else ((spec_l1Cur_one.f Aa Ad.2.2.2.2.2.1 Ad.2.2.2.2.2.2 30).bind fun Ac => (if Ac.1 = true then (spec_l1Cur_weavers.l0 k1 Ak (wrap64 ((wrap64 (Ae + 1)) + Af)) (wrap64 (Ah - 1)) Aa Ac.2.1 Ac.2.2) else (spec_l1Cur_weavers.l0 k1 Am (wrap64 ((wrap64 (Ae + 1)) + Af)) (wrap64 (Ah - 1)) Aa Ac.2.1 Ac.2.2)))))) else (none)))) else (none))) = some (r1, r2, r3) := H; have A7 := Aside0.mk Di; clear Di; obtain ⟨Bg, Bk⟩ : ∃ y_ : List (S26), y_ = (([] : List (S26))) := ⟨_, rfl⟩
    replace H : (if Bg.length + Am.length < 2932031007402 then ((some (Bg ++ Am : List (S26))).bind fun Aw => ((spec_l1Cur_weaver.f Aa Au Av (wrap64 ((wrap64 (Ae + 1)) + Af))).bind fun Ad => (if Aw.length < 2932031007402 then ((some (Aw ++ [(⟨Ad.1, Ad.2.1, Ad.2.2.1, Ad.2.2.2.1, Ad.2.2.2.2.1⟩ : S26)] : List (S26))).bind fun Ak => ((spec_l11Good.f k1 Ak).bind fun Bd => (if Bd = true then (spec_l1Cur_weavers.l0 k1 Ak (wrap64 ((wrap64 (Ae + 1)) + Af)) (wrap64 (Ah - 1)) Aa Ad.2.2.2.2.2.1 Ad.2.2.2.2.2.2) else ((spec_l1Cur_one.f Aa Ad.2.2.2.2.2.1 Ad.2.2.2.2.2.2 30).bind fun Ac => (if Ac.1 = true then (spec_l1Cur_weavers.l0 k1 Ak (wrap64 ((wrap64 (Ae + 1)) + Af)) (wrap64 (Ah - 1)) Aa Ac.2.1 Ac.2.2) else (spec_l1Cur_weavers.l0 k1 Am (wrap64 ((wrap64 (Ae + 1)) + Af)) (wrap64 (Ah - 1)) Aa Ac.2.1 Ac.2.2)))))) else (none)))) else (none)) = some (r1, r2, r3) := by first | (rw [Bk]; with_reducible exact H) | (have H2_ := (Option.bind_some _ _).symm.trans H; rw [Bk]; with_reducible exact H2_) | (have H2_ := (Option.bind_some _ _).symm.trans H; with_reducible exact H2_) | with_reducible exact H | (rw [Bk]; exact H) | exact H
    have Bh := Aside0.mk Bk; clear Bk
    by_cases c8 : Bg.length + Am.length < 2932031007402
    ·rw [if_pos c8] at H
     have LMc8 := Aside0.mk c8; clear c8; obtain ⟨Aw, Bl⟩ : ∃ y_ : List (S26), y_ = (Bg ++ Am) := ⟨_, rfl⟩
     replace H : ((spec_l1Cur_weaver.f Aa Au Av (wrap64 ((wrap64 (Ae + 1)) + Af))).bind fun Ad => (if Aw.length < 2932031007402 then ((some (Aw ++ [(⟨Ad.1, Ad.2.1, Ad.2.2.1, Ad.2.2.2.1, Ad.2.2.2.2.1⟩ : S26)] : List (S26))).bind fun Ak => ((spec_l11Good.f k1 Ak).bind fun Bd => (if Bd = true then (spec_l1Cur_weavers.l0 k1 Ak (wrap64 ((wrap64 (Ae + 1)) + Af)) (wrap64 (Ah - 1)) Aa Ad.2.2.2.2.2.1 Ad.2.2.2.2.2.2) else ((spec_l1Cur_one.f Aa Ad.2.2.2.2.2.1 Ad.2.2.2.2.2.2 30).bind fun Ac => (if Ac.1 = true then (spec_l1Cur_weavers.l0 k1 Ak (wrap64 ((wrap64 (Ae + 1)) + Af)) (wrap64 (Ah - 1)) Aa Ac.2.1 Ac.2.2) else (spec_l1Cur_weavers.l0 k1 Am (wrap64 ((wrap64 (Ae + 1)) + Af)) (wrap64 (Ah - 1)) Aa Ac.2.1 Ac.2.2)))))) else (none))) = some (r1, r2, r3) := by first | (rw [Bl]; with_reducible exact H) | (have H2_ := (Option.bind_some _ _).symm.trans H; rw [Bl]; with_reducible exact H2_) | (have H2_ := (Option.bind_some _ _).symm.trans H; with_reducible exact H2_) | with_reducible exact H | (rw [Bl]; exact H) | exact H
     have B4 := Aside0.mk Bl; clear Bl; replace H := Option.bind_eq_some_iff.mp H; obtain ⟨⟨Ay, Az, Ba, Bb, Bc, Aq, Ar⟩, Dj, H⟩ := H; replace H : (if Aw.length < 2932031007402 then ((some (Aw ++ [(⟨Ay, Az, Ba, Bb, Bc⟩ : S26)] : List (S26))).bind fun Ak => ((spec_l11Good.f k1 Ak).bind fun Bd => (if Bd = true then (spec_l1Cur_weavers.l0 k1 Ak (wrap64 ((wrap64 (Ae + 1)) + Af)) (wrap64 (Ah - 1)) Aa Aq Ar) else ((spec_l1Cur_one.f Aa Aq Ar 30).bind fun Ac => (if Ac.1 = true then (spec_l1Cur_weavers.l0 k1 Ak (wrap64 ((wrap64 (Ae + 1)) + Af)) (wrap64 (Ah - 1)) Aa Ac.2.1 Ac.2.2) else (spec_l1Cur_weavers.l0 k1 Am (wrap64 ((wrap64 (Ae + 1)) + Af)) (wrap64 (Ah - 1)) Aa Ac.2.1 Ac.2.2)))))) else (none)) = some (r1, r2, r3) := H; have A9 := Aside0.mk Dj; clear Dj
     by_cases Ch : Aw.length < 2932031007402
     ·rw [if_pos Ch] at H
      have LMc10 := Aside0.mk Ch; clear Ch; obtain ⟨Ak, Bm⟩ : ∃ y_ : List (S26), y_ = (Aw ++ [(⟨Ay, Az, Ba, Bb, Bc⟩ : S26)]) := ⟨_, rfl⟩
      replace H : ((spec_l11Good.f k1 Ak).bind fun Bd => (if Bd = true then (spec_l1Cur_weavers.l0 k1 Ak (wrap64 ((wrap64 (Ae + 1)) + Af)) (wrap64 (Ah - 1)) Aa Aq Ar) else ((spec_l1Cur_one.f Aa Aq Ar 30).bind fun Ac => (if Ac.1 = true then (spec_l1Cur_weavers.l0 k1 Ak (wrap64 ((wrap64 (Ae + 1)) + Af)) (wrap64 (Ah - 1)) Aa Ac.2.1 Ac.2.2) else (spec_l1Cur_weavers.l0 k1 Am (wrap64 ((wrap64 (Ae + 1)) + Af)) (wrap64 (Ah - 1)) Aa Ac.2.1 Ac.2.2))))) = some (r1, r2, r3) := by first | (rw [Bm]; with_reducible exact H) | (have H2_ := (Option.bind_some _ _).symm.trans H; rw [Bm]; with_reducible exact H2_) | (have H2_ := (Option.bind_some _ _).symm.trans H; with_reducible exact H2_) | with_reducible exact H | (rw [Bm]; exact H) | exact H
      have B6 := Aside0.mk Bm; clear Bm; replace H := Option.bind_eq_some_iff.mp H; obtain ⟨Bd, Ci, H⟩ := H; replace H : (if Bd = true then (spec_l1Cur_weavers.l0 k1 Ak (wrap64 ((wrap64 (Ae + 1)) + Af)) (wrap64 (Ah - 1)) Aa Aq Ar) else ((spec_l1Cur_one.f Aa Aq Ar 30).bind fun Ac => (if Ac.1 = true then (spec_l1Cur_weavers.l0 k1 Ak (wrap64 ((wrap64 (Ae + 1)) + Af)) (wrap64 (Ah - 1)) Aa Ac.2.1 Ac.2.2) else (spec_l1Cur_weavers.l0 k1 Am (wrap64 ((wrap64 (Ae + 1)) + Af)) (wrap64 (Ah - 1)) Aa Ac.2.1 Ac.2.2)))) = some (r1, r2, r3) := H; have C4 := Aside0.mk Ci; clear Ci
      by_cases Cj : Bd = true
      ·subst Cj
       have H1 : (spec_l1Cur_weavers.l0 k1 Ak (wrap64 ((wrap64 (Ae + 1)) + Af)) (wrap64 (Ah - 1)) Aa Aq Ar) = some (r1, r2, r3) := by rw [if_pos rfl] at H; exact H
       clear H; have H := H1; clear H1; have H' := Aside0.mk H; clear H
       go_wp2_with (first | ((with_reducible refine gate_callee (f := 93) rfl ?_); refine glE (some 18) Tryd.func93 #[.pointer (some ⟨g, 0, none⟩), .int .i64 3] ?_; (with_reducible refine (spec_l1Cur_pick.calls g Aa Ai Aj 3 Af Au Av w0 _ ?side1 ?side2 A7.out).mono ?_); (case side1 => exact Z2); (case side2 => exact Z7); rintro e Ds ⟨rfl, hi, hb, hk⟩; refine ⟨_, rfl, ?_⟩; replace Ab := aM (Kd.R_mono (Kd.R_keep (IsS85.apart (show IsS85 w0 _ g Aa Ai Aj from Z2) Z24 (by decide)) hk (fun _ h => h.2)) (fun _ h => h.1)); replace HK := aM (KeepBut.trans Z6 hk (.inl rfl)); replace HB := aM (hb); replace HI0 := aM (hi); (try clear hb); (try clear hk); (try clear hi)) | ((with_reducible refine gate_dst (N := 20) rfl ?_); refine Kd.R_lit k26 _ 26 ?hg (N := 20) ?hd (xs := ([] : List (S26))) (inner := []) (ok := fun _ => True) (okp := fun _ => True) ?hr ?hp (fun _ hk => hk) trivial (Below.refl _ _) (Nat.le_refl _) (by simp) ?_; (case hd => rfl); (case hg => rfl); (case hr => first | (go_simp; done) | (go_simp; rfl)); (case hp => exact (Reps.none _ _)); intro B7 Dt Bv hb hg_ hnew_; clear hg_ hnew_; (first | rw [← Bh.out] at Bv | (simp only [Int.reduceToNat] at Bv; rw [← Bh.out] at Bv)); have An := aM (Kd.R_lower (Kd.R_new' Bv (Kd.R_lt Z24)) (keep_size (w := w) (g := g) (row := none) Z6)); replace Ab := aM (Kd.R_elder' Z24 (Kd.R_base Bv) hb); replace HK := aM (KeepBut.trans Z6 (KeepBut.of_below hb g none) (.inl rfl)); replace HB := aM (below_step Z7 hb); replace HI0 := aM (IsS85.below Z2 hb); clear hb Bv; obtain ⟨Ck, Cl, C5⟩ := Kd.R_slice Ab.out; subst C5) | ((with_reducible refine gate_builtin (b := .append) (xs := #[.tmp 20, .tmp 21]) rfl ?_); at_builtin; refine Kd.R_append_rows k26 w.heap.size rfl (.tmp 20) (.tmp 21) 32 26 (.agg #[(.int .i64 0), (.string ⟨#[]⟩), (.int .i64 0), (.int .i64 0), (.int .i64 0)]) 48 rfl Tryd.underlying32 info26 rfl (by decide) (by omega) B7 Bg Am _ _ _ (fun k_ => nS k_ Ck Am.length Cl) (fun _ => False) rfl rfl ?aO ?aR (fun _ _ h => h) (fun _ h => h.elim) ?aF (Below.refl _ _) ?aS ?aL ?_; (case aR => repeat (first | exact (Kd.R_reads' Ab.out).2.2 | (with_reducible refine Kd.C_alloc ?_ _) | (with_reducible refine Kd.C_drewN ?_ _) | (with_reducible refine Kd.C_drew ?_))); (case aF => exact (fun k_ hk => Kd.fresh' (Kd.R_lt Z24) k_ hk)); (case aO => exact Z74); (case aS => exact (keep_size (w := w) (g := g) (row := none) Z6)); (case aL => have := LMc8.out; omega); intro B8 Du ho hb hg hat; rw [← B4.out] at ho; replace Ab := aM (Kd.R_after (ok := (fun _ => True)) Z24 hg hat); replace HB := aM (below_weaken Z7 HL.out hb); replace HI0 := aM (IsS85.grown Z2 hg (IsS85.own_ne HI0.out An.out (by decide))); replace HK := aM (KeepBut.trans Z6 (KeepBut.of_grown hg g) (Kd.R_base2 An.out)); have Al := aM (ho); clear An; clear ho hb hg hat) | ((with_reducible refine gate_callee (f := 94) rfl ?_); refine glE (some 25) Tryd.func94 #[.pointer (some ⟨g, 0, none⟩), .int .i64 (wrap64 ((wrap64 (Ae + 1)) + Af))] ?_; (with_reducible refine (spec_l1Cur_weaver.calls g Aa Au Av (wrap64 ((wrap64 (Ae + 1)) + Af)) Ay Az Ba Bb Bc Aq Ar w0 _ ?side1 ?side2 A9.out).mono ?_); (case side1 => exact Z2); (case side2 => exact Z7); rintro e Dv ⟨rfl, hi, hb, hk⟩; refine ⟨_, rfl, ?_⟩; replace Ab := aM (Kd.R_mono (Kd.R_keep (IsS85.apart (show IsS85 w0 _ g Aa Au Av from Z2) Z24 (by decide)) hk (fun _ h => h.2)) (fun _ h => h.1)); replace Al := aM (Kd.R_mono (Kd.R_keep (IsS85.apart (show IsS85 w0 _ g Aa Au Av from Z2) Z60 (by decide)) hk (fun _ h => h.2)) (fun _ h => h.1)); replace HK := aM (KeepBut.trans Z6 hk (.inl rfl)); replace HB := aM (hb); replace HI0 := aM (hi); (try clear hb); (try clear hk); (try clear hi)) | ((with_reducible refine gate_builtin (b := .append) (xs := #[.tmp 22, .tmp 26]) rfl ?_); at_builtin; refine Kd.R_append k26 w.heap.size rfl (.tmp 22) (.tmp 26) 32 26 (.agg #[(.int .i64 0), (.string ⟨#[]⟩), (.int .i64 0), (.int .i64 0), (.int .i64 0)]) 48 rfl Tryd.underlying32 info26 rfl (by decide) (by omega) B8 Aw (⟨Ay, Az, Ba, Bb, Bc⟩ : S26) [.int .i64 Ay, .string Az, .int .i64 Ba, .int .i64 Bb, .int .i64 Bc] (fun k_ => nS k_ Ck Am.length Cl) (fun _ => False) rfl rfl ?aP (fun _ hk => hk.elim) ?aF ?aO (Below.refl _ _) ?aS ?aL ?_; (case aP => exact k26_mkM _ _ _ (⟨Ay, Az, Ba, Bb, Bc⟩ : S26)); (case aF => exact (fun k_ hk => Kd.fresh' (Kd.R_lt Z24) k_ hk)); (case aO => exact Z60); (case aS => exact (keep_size (w := w) (g := g) (row := none) Z6)); (case aL => have := LMc10.out; omega); intro Cm Dw ho hb hg hat; rw [← B6.out] at ho; replace Ab := aM (Kd.R_after (ok := (fun _ => True)) Z24 hg hat); replace HB := aM (below_weaken Z7 HL.out hb); replace HI0 := aM (IsS85.grown Z2 hg (IsS85.own_ne HI0.out Al.out (by decide))); replace HK := aM (KeepBut.trans Z6 (KeepBut.of_grown hg g) (Kd.R_base2 Al.out)); have Ag := aM (ho); clear Al; clear ho hb hg hat; obtain ⟨C6, C7, C8⟩ := Kd.R_slice Ag.out; subst C8) | ((with_reducible refine gate_callee (f := 61) rfl ?_); refine glE (some 29) Tryd.func61 #[.slice C6 Ak.length C7] ?_; (with_reducible refine (spec_l11Good.calls k1 _ _ Ak true _ ?side1 ?side2 C4.out).mono ?_); (case side1 => exact Z25); (case side2 => exact (Kd.R_reads' Ag.out).2.1); rintro e Dx ⟨rfl, hb⟩; refine ⟨_, rfl, ?_⟩; replace Ab := roB Ab hb; replace Ag := roB Ag hb; replace HK := aM (KeepBut.trans Z6 (KeepBut.of_below hb g none) (.inl rfl)); replace HB := aM (below_step Z7 hb); replace HI0 := aM (IsS85.below Z2 hb); (try clear hb)))
       go_roundg k1
       case measure => have := HK1.out; omega
       case rel => exact ⟨(Ak), (wrap64 ((wrap64 (Ae + 1)) + Af)), (wrap64 (Ah - 1)), (Aq), (Ar), Z15, Z15, H', ⟨Z66⟩, ⟨Z42⟩, ⟨Z2⟩, ⟨Z6⟩, ⟨Z7⟩⟩
      ·replace Cj := Bool.eq_false_iff.mpr Cj
       subst Cj
       have H1 : ((spec_l1Cur_one.f Aa Aq Ar 30).bind fun Ac => (if Ac.1 = true then (spec_l1Cur_weavers.l0 k1 Ak (wrap64 ((wrap64 (Ae + 1)) + Af)) (wrap64 (Ah - 1)) Aa Ac.2.1 Ac.2.2) else (spec_l1Cur_weavers.l0 k1 Am (wrap64 ((wrap64 (Ae + 1)) + Af)) (wrap64 (Ah - 1)) Aa Ac.2.1 Ac.2.2))) = some (r1, r2, r3) := by rw [if_neg (show ¬ (false = true) by decide)] at H; exact H
       clear H; have H := H1; clear H1; replace H := Option.bind_eq_some_iff.mp H; obtain ⟨⟨Cn, Bn, Bo⟩, Co, H⟩ := H; replace H : (if Cn = true then (spec_l1Cur_weavers.l0 k1 Ak (wrap64 ((wrap64 (Ae + 1)) + Af)) (wrap64 (Ah - 1)) Aa Bn Bo) else (spec_l1Cur_weavers.l0 k1 Am (wrap64 ((wrap64 (Ae + 1)) + Af)) (wrap64 (Ah - 1)) Aa Bn Bo)) = some (r1, r2, r3) := H; have Dk := Aside0.mk Co; clear Co
       by_cases Cp : Cn = true
       ·subst Cp
        have H1 : (spec_l1Cur_weavers.l0 k1 Ak (wrap64 ((wrap64 (Ae + 1)) + Af)) (wrap64 (Ah - 1)) Aa Bn Bo) = some (r1, r2, r3) := by rw [if_pos rfl] at H; exact H
        clear H; have H := H1; clear H1; have H' := Aside0.mk H; clear H
        go_wp2_with (first | ((with_reducible refine gate_callee (f := 93) rfl ?_); refine glE (some 18) Tryd.func93 #[.pointer (some ⟨g, 0, none⟩), .int .i64 3] ?_; (with_reducible refine (spec_l1Cur_pick.calls g Aa Ai Aj 3 Af Au Av w0 _ ?side1 ?side2 A7.out).mono ?_); (case side1 => exact Z2); (case side2 => exact Z7); rintro e Dy ⟨rfl, hi, hb, hk⟩; refine ⟨_, rfl, ?_⟩; replace Ab := aM (Kd.R_mono (Kd.R_keep (IsS85.apart (show IsS85 w0 _ g Aa Ai Aj from Z2) Z24 (by decide)) hk (fun _ h => h.2)) (fun _ h => h.1)); replace HK := aM (KeepBut.trans Z6 hk (.inl rfl)); replace HB := aM (hb); replace HI0 := aM (hi); (try clear hb); (try clear hk); (try clear hi)) | ((with_reducible refine gate_dst (N := 20) rfl ?_); refine Kd.R_lit k26 _ 26 ?hg (N := 20) ?hd (xs := ([] : List (S26))) (inner := []) (ok := fun _ => True) (okp := fun _ => True) ?hr ?hp (fun _ hk => hk) trivial (Below.refl _ _) (Nat.le_refl _) (by simp) ?_; (case hd => rfl); (case hg => rfl); (case hr => first | (go_simp; done) | (go_simp; rfl)); (case hp => exact (Reps.none _ _)); intro B7 Dz Bw hb hg_ hnew_; clear hg_ hnew_; (first | rw [← Bh.out] at Bw | (simp only [Int.reduceToNat] at Bw; rw [← Bh.out] at Bw)); have An := aM (Kd.R_lower (Kd.R_new' Bw (Kd.R_lt Z24)) (keep_size (w := w) (g := g) (row := none) Z6)); replace Ab := aM (Kd.R_elder' Z24 (Kd.R_base Bw) hb); replace HK := aM (KeepBut.trans Z6 (KeepBut.of_below hb g none) (.inl rfl)); replace HB := aM (below_step Z7 hb); replace HI0 := aM (IsS85.below Z2 hb); clear hb Bw; obtain ⟨Cq, Cr, C9⟩ := Kd.R_slice Ab.out; subst C9) | ((with_reducible refine gate_builtin (b := .append) (xs := #[.tmp 20, .tmp 21]) rfl ?_); at_builtin; refine Kd.R_append_rows k26 w.heap.size rfl (.tmp 20) (.tmp 21) 32 26 (.agg #[(.int .i64 0), (.string ⟨#[]⟩), (.int .i64 0), (.int .i64 0), (.int .i64 0)]) 48 rfl Tryd.underlying32 info26 rfl (by decide) (by omega) B7 Bg Am _ _ _ (fun k_ => nS k_ Cq Am.length Cr) (fun _ => False) rfl rfl ?aO ?aR (fun _ _ h => h) (fun _ h => h.elim) ?aF (Below.refl _ _) ?aS ?aL ?_; (case aR => repeat (first | exact (Kd.R_reads' Ab.out).2.2 | (with_reducible refine Kd.C_alloc ?_ _) | (with_reducible refine Kd.C_drewN ?_ _) | (with_reducible refine Kd.C_drew ?_))); (case aF => exact (fun k_ hk => Kd.fresh' (Kd.R_lt Z24) k_ hk)); (case aO => exact Z74); (case aS => exact (keep_size (w := w) (g := g) (row := none) Z6)); (case aL => have := LMc8.out; omega); intro B8 D0 ho hb hg hat; rw [← B4.out] at ho; replace Ab := aM (Kd.R_after (ok := (fun _ => True)) Z24 hg hat); replace HB := aM (below_weaken Z7 HL.out hb); replace HI0 := aM (IsS85.grown Z2 hg (IsS85.own_ne HI0.out An.out (by decide))); replace HK := aM (KeepBut.trans Z6 (KeepBut.of_grown hg g) (Kd.R_base2 An.out)); have Al := aM (ho); clear An; clear ho hb hg hat) | ((with_reducible refine gate_callee (f := 94) rfl ?_); refine glE (some 25) Tryd.func94 #[.pointer (some ⟨g, 0, none⟩), .int .i64 (wrap64 ((wrap64 (Ae + 1)) + Af))] ?_; (with_reducible refine (spec_l1Cur_weaver.calls g Aa Au Av (wrap64 ((wrap64 (Ae + 1)) + Af)) Ay Az Ba Bb Bc Aq Ar w0 _ ?side1 ?side2 A9.out).mono ?_); (case side1 => exact Z2); (case side2 => exact Z7); rintro e D1 ⟨rfl, hi, hb, hk⟩; refine ⟨_, rfl, ?_⟩; replace Ab := aM (Kd.R_mono (Kd.R_keep (IsS85.apart (show IsS85 w0 _ g Aa Au Av from Z2) Z24 (by decide)) hk (fun _ h => h.2)) (fun _ h => h.1)); replace Al := aM (Kd.R_mono (Kd.R_keep (IsS85.apart (show IsS85 w0 _ g Aa Au Av from Z2) Z60 (by decide)) hk (fun _ h => h.2)) (fun _ h => h.1)); replace HK := aM (KeepBut.trans Z6 hk (.inl rfl)); replace HB := aM (hb); replace HI0 := aM (hi); (try clear hb); (try clear hk); (try clear hi)) | ((with_reducible refine gate_builtin (b := .append) (xs := #[.tmp 22, .tmp 26]) rfl ?_); at_builtin; refine Kd.R_append k26 w.heap.size rfl (.tmp 22) (.tmp 26) 32 26 (.agg #[(.int .i64 0), (.string ⟨#[]⟩), (.int .i64 0), (.int .i64 0), (.int .i64 0)]) 48 rfl Tryd.underlying32 info26 rfl (by decide) (by omega) B8 Aw (⟨Ay, Az, Ba, Bb, Bc⟩ : S26) [.int .i64 Ay, .string Az, .int .i64 Ba, .int .i64 Bb, .int .i64 Bc] (fun k_ => nS k_ Cq Am.length Cr) (fun _ => False) rfl rfl ?aP (fun _ hk => hk.elim) ?aF ?aO (Below.refl _ _) ?aS ?aL ?_; (case aP => exact k26_mkM _ _ _ (⟨Ay, Az, Ba, Bb, Bc⟩ : S26)); (case aF => exact (fun k_ hk => Kd.fresh' (Kd.R_lt Z24) k_ hk)); (case aO => exact Z60); (case aS => exact (keep_size (w := w) (g := g) (row := none) Z6)); (case aL => have := LMc10.out; omega); intro Cm D2 ho hb hg hat; rw [← B6.out] at ho; replace Ab := aM (Kd.R_after (ok := (fun _ => True)) Z24 hg hat); replace HB := aM (below_weaken Z7 HL.out hb); replace HI0 := aM (IsS85.grown Z2 hg (IsS85.own_ne HI0.out Al.out (by decide))); replace HK := aM (KeepBut.trans Z6 (KeepBut.of_grown hg g) (Kd.R_base2 Al.out)); have Ag := aM (ho); clear Al; clear ho hb hg hat; obtain ⟨Da, Db, Dc⟩ := Kd.R_slice Ag.out; subst Dc) | ((with_reducible refine gate_callee (f := 61) rfl ?_); refine glE (some 29) Tryd.func61 #[.slice Da Ak.length Db] ?_; (with_reducible refine (spec_l11Good.calls k1 _ _ Ak false _ ?side1 ?side2 C4.out).mono ?_); (case side1 => exact Z25); (case side2 => exact (Kd.R_reads' Ag.out).2.1); rintro e D3 ⟨rfl, hb⟩; refine ⟨_, rfl, ?_⟩; replace Ab := roB Ab hb; replace Ag := roB Ag hb; replace HK := aM (KeepBut.trans Z6 (KeepBut.of_below hb g none) (.inl rfl)); replace HB := aM (below_step Z7 hb); replace HI0 := aM (IsS85.below Z2 hb); (try clear hb)) | (go_at_call 104; (with_reducible refine (spec_l1Cur_one.calls g Aa Aq Ar 30 true Bn Bo w0 _ ?side1 ?side2 Dk.out).mono ?_); (case side1 => exact Z2); (case side2 => exact Z7); rintro e D4 ⟨rfl, hi, hb, hk⟩; replace Ab := aM (Kd.R_mono (Kd.R_keep (IsS85.apart (show IsS85 w0 _ g Aa Aq Ar from Z2) Z24 (by decide)) hk (fun _ h => h.2)) (fun _ h => h.1)); replace Ag := aM (Kd.R_mono (Kd.R_keep (IsS85.apart (show IsS85 w0 _ g Aa Aq Ar from Z2) Z12 (by decide)) hk (fun _ h => h.2)) (fun _ h => h.1)); replace HK := aM (KeepBut.trans Z6 hk (.inl rfl)); replace HB := aM (hb); replace HI0 := aM (hi); (try clear hb); (try clear hk); (try clear hi)))
        go_roundg k1
        case measure => have := HK1.out; omega
        case rel => exact ⟨(Ak), (wrap64 ((wrap64 (Ae + 1)) + Af)), (wrap64 (Ah - 1)), (Bn), (Bo), Z15, Z15, H', ⟨Z66⟩, ⟨Z42⟩, ⟨Z2⟩, ⟨Z6⟩, ⟨Z7⟩⟩
       ·replace Cp := Bool.eq_false_iff.mpr Cp
        subst Cp
        have H1 : (spec_l1Cur_weavers.l0 k1 Am (wrap64 ((wrap64 (Ae + 1)) + Af)) (wrap64 (Ah - 1)) Aa Bn Bo) = some (r1, r2, r3) := by rw [if_neg (show ¬ (false = true) by decide)] at H; exact H
        clear H; have H := H1; clear H1; have H' := Aside0.mk H; clear H
        go_wp2_with (first | ((with_reducible refine gate_callee (f := 93) rfl ?_); refine glE (some 18) Tryd.func93 #[.pointer (some ⟨g, 0, none⟩), .int .i64 3] ?_; (with_reducible refine (spec_l1Cur_pick.calls g Aa Ai Aj 3 Af Au Av w0 _ ?side1 ?side2 A7.out).mono ?_); (case side1 => exact Z2); (case side2 => exact Z7); rintro e D5 ⟨rfl, hi, hb, hk⟩; refine ⟨_, rfl, ?_⟩; replace Ab := aM (Kd.R_mono (Kd.R_keep (IsS85.apart (show IsS85 w0 _ g Aa Ai Aj from Z2) Z24 (by decide)) hk (fun _ h => h.2)) (fun _ h => h.1)); replace HK := aM (KeepBut.trans Z6 hk (.inl rfl)); replace HB := aM (hb); replace HI0 := aM (hi); (try clear hb); (try clear hk); (try clear hi)) | ((with_reducible refine gate_dst (N := 20) rfl ?_); refine Kd.R_lit k26 _ 26 ?hg (N := 20) ?hd (xs := ([] : List (S26))) (inner := []) (ok := fun _ => True) (okp := fun _ => True) ?hr ?hp (fun _ hk => hk) trivial (Below.refl _ _) (Nat.le_refl _) (by simp) ?_; (case hd => rfl); (case hg => rfl); (case hr => first | (go_simp; done) | (go_simp; rfl)); (case hp => exact (Reps.none _ _)); intro B7 D6 Bx hb hg_ hnew_; clear hg_ hnew_; (first | rw [← Bh.out] at Bx | (simp only [Int.reduceToNat] at Bx; rw [← Bh.out] at Bx)); have An := aM (Kd.R_lower (Kd.R_new' Bx (Kd.R_lt Z24)) (keep_size (w := w) (g := g) (row := none) Z6)); replace Ab := aM (Kd.R_elder' Z24 (Kd.R_base Bx) hb); replace HK := aM (KeepBut.trans Z6 (KeepBut.of_below hb g none) (.inl rfl)); replace HB := aM (below_step Z7 hb); replace HI0 := aM (IsS85.below Z2 hb); clear hb Bx; obtain ⟨Cs, Ct, Dd⟩ := Kd.R_slice Ab.out; subst Dd) | ((with_reducible refine gate_builtin (b := .append) (xs := #[.tmp 20, .tmp 21]) rfl ?_); at_builtin; refine Kd.R_append_rows k26 w.heap.size rfl (.tmp 20) (.tmp 21) 32 26 (.agg #[(.int .i64 0), (.string ⟨#[]⟩), (.int .i64 0), (.int .i64 0), (.int .i64 0)]) 48 rfl Tryd.underlying32 info26 rfl (by decide) (by omega) B7 Bg Am _ _ _ (fun k_ => nS k_ Cs Am.length Ct) (fun _ => False) rfl rfl ?aO ?aR (fun _ _ h => h) (fun _ h => h.elim) ?aF (Below.refl _ _) ?aS ?aL ?_; (case aR => repeat (first | exact (Kd.R_reads' Ab.out).2.2 | (with_reducible refine Kd.C_alloc ?_ _) | (with_reducible refine Kd.C_drewN ?_ _) | (with_reducible refine Kd.C_drew ?_))); (case aF => exact (fun k_ hk => Kd.fresh' (Kd.R_lt Z24) k_ hk)); (case aO => exact Z74); (case aS => exact (keep_size (w := w) (g := g) (row := none) Z6)); (case aL => have := LMc8.out; omega); intro B8 D7 ho hb hg hat; rw [← B4.out] at ho; replace Ab := aM (Kd.R_after (ok := (fun _ => True)) Z24 hg hat); replace HB := aM (below_weaken Z7 HL.out hb); replace HI0 := aM (IsS85.grown Z2 hg (IsS85.own_ne HI0.out An.out (by decide))); replace HK := aM (KeepBut.trans Z6 (KeepBut.of_grown hg g) (Kd.R_base2 An.out)); have Al := aM (ho); clear An; clear ho hb hg hat) | ((with_reducible refine gate_callee (f := 94) rfl ?_); refine glE (some 25) Tryd.func94 #[.pointer (some ⟨g, 0, none⟩), .int .i64 (wrap64 ((wrap64 (Ae + 1)) + Af))] ?_; (with_reducible refine (spec_l1Cur_weaver.calls g Aa Au Av (wrap64 ((wrap64 (Ae + 1)) + Af)) Ay Az Ba Bb Bc Aq Ar w0 _ ?side1 ?side2 A9.out).mono ?_); (case side1 => exact Z2); (case side2 => exact Z7); rintro e D8 ⟨rfl, hi, hb, hk⟩; refine ⟨_, rfl, ?_⟩; replace Ab := aM (Kd.R_mono (Kd.R_keep (IsS85.apart (show IsS85 w0 _ g Aa Au Av from Z2) Z24 (by decide)) hk (fun _ h => h.2)) (fun _ h => h.1)); replace Al := aM (Kd.R_mono (Kd.R_keep (IsS85.apart (show IsS85 w0 _ g Aa Au Av from Z2) Z60 (by decide)) hk (fun _ h => h.2)) (fun _ h => h.1)); replace HK := aM (KeepBut.trans Z6 hk (.inl rfl)); replace HB := aM (hb); replace HI0 := aM (hi); (try clear hb); (try clear hk); (try clear hi)) | ((with_reducible refine gate_builtin (b := .append) (xs := #[.tmp 22, .tmp 26]) rfl ?_); at_builtin; refine Kd.R_append k26 w.heap.size rfl (.tmp 22) (.tmp 26) 32 26 (.agg #[(.int .i64 0), (.string ⟨#[]⟩), (.int .i64 0), (.int .i64 0), (.int .i64 0)]) 48 rfl Tryd.underlying32 info26 rfl (by decide) (by omega) B8 Aw (⟨Ay, Az, Ba, Bb, Bc⟩ : S26) [.int .i64 Ay, .string Az, .int .i64 Ba, .int .i64 Bb, .int .i64 Bc] (fun k_ => nS k_ Cs Am.length Ct) (fun _ => False) rfl rfl ?aP (fun _ hk => hk.elim) ?aF ?aO (Below.refl _ _) ?aS ?aL ?_; (case aP => exact k26_mkM _ _ _ (⟨Ay, Az, Ba, Bb, Bc⟩ : S26)); (case aF => exact (fun k_ hk => Kd.fresh' (Kd.R_lt Z24) k_ hk)); (case aO => exact Z60); (case aS => exact (keep_size (w := w) (g := g) (row := none) Z6)); (case aL => have := LMc10.out; omega); intro Cm D9 ho hb hg hat; rw [← B6.out] at ho; replace Ab := aM (Kd.R_after (ok := (fun _ => True)) Z24 hg hat); replace HB := aM (below_weaken Z7 HL.out hb); replace HI0 := aM (IsS85.grown Z2 hg (IsS85.own_ne HI0.out Al.out (by decide))); replace HK := aM (KeepBut.trans Z6 (KeepBut.of_grown hg g) (Kd.R_base2 Al.out)); have Ag := aM (ho); clear Al; clear ho hb hg hat; obtain ⟨De, Df, Dg⟩ := Kd.R_slice Ag.out; subst Dg) | ((with_reducible refine gate_callee (f := 61) rfl ?_); refine glE (some 29) Tryd.func61 #[.slice De Ak.length Df] ?_; (with_reducible refine (spec_l11Good.calls k1 _ _ Ak false _ ?side1 ?side2 C4.out).mono ?_); (case side1 => exact Z25); (case side2 => exact (Kd.R_reads' Ag.out).2.1); rintro e Ea ⟨rfl, hb⟩; refine ⟨_, rfl, ?_⟩; replace Ab := roB Ab hb; replace Ag := roB Ag hb; replace HK := aM (KeepBut.trans Z6 (KeepBut.of_below hb g none) (.inl rfl)); replace HB := aM (below_step Z7 hb); replace HI0 := aM (IsS85.below Z2 hb); (try clear hb)) | (go_at_call 104; (with_reducible refine (spec_l1Cur_one.calls g Aa Aq Ar 30 false Bn Bo w0 _ ?side1 ?side2 Dk.out).mono ?_); (case side1 => exact Z2); (case side2 => exact Z7); rintro e Eb ⟨rfl, hi, hb, hk⟩; replace Ab := aM (Kd.R_mono (Kd.R_keep (IsS85.apart (show IsS85 w0 _ g Aa Aq Ar from Z2) Z24 (by decide)) hk (fun _ h => h.2)) (fun _ h => h.1)); replace Ag := aM (Kd.R_mono (Kd.R_keep (IsS85.apart (show IsS85 w0 _ g Aa Aq Ar from Z2) Z12 (by decide)) hk (fun _ h => h.2)) (fun _ h => h.1)); replace HK := aM (KeepBut.trans Z6 hk (.inl rfl)); replace HB := aM (hb); replace HI0 := aM (hi); (try clear hb); (try clear hk); (try clear hi)))
        go_roundg k1
        case measure => have := HK1.out; omega
        case rel => exact ⟨(Am), (wrap64 ((wrap64 (Ae + 1)) + Af)), (wrap64 (Ah - 1)), (Bn), (Bo), Z15, Z15, H', ⟨Z66⟩, ⟨by (with_reducible repeat (first | apply Kd.R_alloc | apply Kd.R_drewN | apply Kd.R_drew)); exact Kd.R_mono Ab.out (fun _ hk => trivial)⟩, ⟨Z2⟩, ⟨Z6⟩, ⟨Z7⟩⟩
     ·rw [if_neg Ch] at H
      exact absurd H (by simp)
    ·rw [if_neg c8] at H
     exact absurd H (by simp)
   ·rw [if_neg c6] at H
    have c6b0 : decide (0 < Ah) = false := decide_eq_false c6; clear c6; replace H := Option.bind_eq_some_iff.mp H; obtain ⟨⟨Cu, Bp, Bq⟩, Cv, H⟩ := H; replace H : (if Cu = true then (spec_l1Cur_weavers.l1 k1 (([] : List (S26))) 0 Aa Bp Bq) else (some (Am, Bp, Bq))) = some (r1, r2, r3) := H; have Dl := Aside0.mk Cv; clear Cv
    by_cases Cw : Cu = true
    ·subst Cw
     have H1 : (spec_l1Cur_weavers.l1 k1 (([] : List (S26))) 0 Aa Bp Bq) = some (r1, r2, r3) := by rw [if_pos rfl] at H; exact H
     clear H; have H := H1; clear H1; obtain ⟨Cx, Br⟩ : ∃ y_ : List (S26), y_ = (([] : List (S26))) := ⟨_, rfl⟩
     replace H : (spec_l1Cur_weavers.l1 k1 Cx 0 Aa Bp Bq) = some (r1, r2, r3) := by first | (rw [Br]; with_reducible exact H) | (have H2_ := (Option.bind_some _ _).symm.trans H; rw [Br]; with_reducible exact H2_) | (have H2_ := (Option.bind_some _ _).symm.trans H; with_reducible exact H2_) | with_reducible exact H | (rw [Br]; exact H) | exact H
     have Ca := Aside0.mk Br; clear Br; have H' := Aside0.mk H; clear H
     go_wp2_with (first | ((with_reducible refine gate_callee (f := 104) rfl ?_); refine glE (some 36) Tryd.func104 #[.pointer (some ⟨g, 0, none⟩), .int .i64 24] ?_; (with_reducible refine (spec_l1Cur_one.calls g Aa Ai Aj 24 true Bp Bq w0 _ ?side1 ?side2 Dl.out).mono ?_); (case side1 => exact Z2); (case side2 => exact Z7); rintro e Ec ⟨rfl, hi, hb, hk⟩; refine ⟨_, rfl, ?_⟩; replace Ab := aM (Kd.R_mono (Kd.R_keep (IsS85.apart (show IsS85 w0 _ g Aa Ai Aj from Z2) Z24 (by decide)) hk (fun _ h => h.2)) (fun _ h => h.1)); replace HK := aM (KeepBut.trans Z6 hk (.inl rfl)); replace HB := aM (hb); replace HI0 := aM (hi); (try clear hb); (try clear hk); (try clear hi)) | ((with_reducible refine gate_dst (N := 37) rfl ?_); refine Kd.R_lit k26 _ 26 ?hg (N := 37) ?hd (xs := ([] : List (S26))) (inner := []) (ok := fun _ => True) (okp := fun _ => True) ?hr ?hp (fun _ hk => hk) trivial (Below.refl _ _) (Nat.le_refl _) (by simp) ?_; (case hd => rfl); (case hg => rfl); (case hr => first | (go_simp; done) | (go_simp; rfl)); (case hp => exact (Reps.none _ _)); intro Dp Ed Bz hb hg_ hnew_; clear hg_ hnew_; (first | rw [← Ca.out] at Bz | (simp only [Int.reduceToNat] at Bz; rw [← Ca.out] at Bz)); have Cy := aM (Kd.R_lower (Kd.R_new' Bz (Kd.R_lt Z24)) (keep_size (w := w) (g := g) (row := none) Z6)); replace Ab := aM (Kd.R_elder' Z24 (Kd.R_base Bz) hb); replace HK := aM (KeepBut.trans Z6 (KeepBut.of_below hb g none) (.inl rfl)); replace HB := aM (below_step Z7 hb); replace HI0 := aM (IsS85.below Z2 hb); clear hb Bz))
     go_loopg [3, 7] k1 (fun kq v3 v7 w' => ∃ (Bi : List (S26)) (Ax : Int) (Ao : Int) (Ap : Int), v7 = .int .i64 Ax ∧ Aside0 (spec_l1Cur_weavers.l1 kq Bi Ax Aa Ao Ap = some (r1, r2, r3)) ∧ Aside0 (kq ≤ k1) ∧ Aside0 (Kd.R k26 26 w' w.heap.size (fun _ => True) v3 Bi) ∧ Aside0 (IsS85 w0 w' g Aa Ao Ap) ∧ Aside0 (KeepBut w w' g none) ∧ Aside0 (Below w0.heap.size w0 w'))
     case atStart => exact ⟨(Cx), (0), (Bp), (Bq), Z15, H', ⟨Nat.le_refl _⟩, ⟨by (with_reducible repeat (first | apply Kd.R_alloc | apply Kd.R_drewN | apply Kd.R_drew)); exact Kd.R_mono Cy.out (fun _ hk => trivial)⟩, ⟨Z2⟩, ⟨Z6⟩, ⟨Z7⟩⟩
     case round =>
      clear H'; (try clear c1); (try clear c2); (try clear p2); (try clear c4); (try clear c6); (try clear c6b0); (try clear p6); (try clear c8); (try clear c9); (try clear Ch); (try clear Cj); (try clear Cp); (try clear Cw); (try clear p2); obtain ⟨Bi, Ax, Ao, Ap, rfl, HA, HK2, Ab, HI0, HK, HB⟩ := hrel; cases gk with
      | zero => exact absurd HA.out (by simp [spec_l1Cur_weavers.l1])
      | succ k2 =>
       have H := HA.out; clear HA
       simp only [spec_l1Cur_weavers.l1] at H
       replace H := Option.bind_eq_some_iff.mp H; obtain ⟨⟨B0, B1, B2⟩, Cz, H⟩ := H; replace H : (if Ax < (wrap64 (8 + B0)) then (if Bi.length < 2932031007402 then (spec_l1Cur_weavers.l1 k2 (Bi ++ [(⟨wrap64 (Ax + 1), (⟨#[120]⟩ : ByteArray), 1, 500, 0⟩ : S26)]) (wrap64 (Ax + 1)) Aa B1 B2) else (none)) else (some (Bi, B1, B2))) = some (r1, r2, r3) := H; have Dm := Aside0.mk Cz; clear Cz
       by_cases Cf : Ax < (wrap64 (8 + B0))
       ·rw [if_pos Cf] at H
        have c50b0 : decide (Ax < (wrap64 (8 + B0))) = true := decide_eq_true Cf; clear Cf
        by_cases C3 : Bi.length < 2932031007402
        ·rw [if_pos C3] at H
         have LMc51 := Aside0.mk C3; clear C3; obtain ⟨C0, Bs⟩ : ∃ y_ : List (S26), y_ = (Bi ++ [(⟨wrap64 (Ax + 1), (⟨#[120]⟩ : ByteArray), 1, 500, 0⟩ : S26)]) := ⟨_, rfl⟩
         replace H : (spec_l1Cur_weavers.l1 k2 C0 (wrap64 (Ax + 1)) Aa B1 B2) = some (r1, r2, r3) := by first | (rw [Bs]; with_reducible exact H) | (have H2_ := (Option.bind_some _ _).symm.trans H; rw [Bs]; with_reducible exact H2_) | (have H2_ := (Option.bind_some _ _).symm.trans H; with_reducible exact H2_) | with_reducible exact H | (rw [Bs]; exact H) | exact H
         have C1 := Aside0.mk Bs; clear Bs; have H' := Aside0.mk H; clear H
         go_wp2_with (first | ((with_reducible refine gate_callee (f := 93) rfl ?_); refine glE (some 40) Tryd.func93 #[.pointer (some ⟨g, 0, none⟩), .int .i64 2] ?_; (with_reducible refine (spec_l1Cur_pick.calls g Aa Ao Ap 2 B0 B1 B2 w0 _ ?side1 ?side2 Dm.out).mono ?_); (case side1 => exact Z2); (case side2 => exact Z7); rintro e Ee ⟨rfl, hi, hb, hk⟩; refine ⟨_, rfl, ?_⟩; replace Ab := aM (Kd.R_mono (Kd.R_keep (IsS85.apart (show IsS85 w0 _ g Aa Ao Ap from Z2) Z24 (by decide)) hk (fun _ h => h.2)) (fun _ h => h.1)); replace HK := aM (KeepBut.trans Z6 hk (.inl rfl)); replace HB := aM (hb); replace HI0 := aM (hi); (try clear hb); (try clear hk); (try clear hi)) | ((with_reducible refine gate_builtin (b := .append) (xs := #[.tmp 45, .tmp 49]) rfl ?_); at_builtin; refine Kd.R_append k26 w.heap.size rfl (.tmp 45) (.tmp 49) 32 26 (.agg #[(.int .i64 0), (.string ⟨#[]⟩), (.int .i64 0), (.int .i64 0), (.int .i64 0)]) 48 rfl Tryd.underlying32 info26 rfl (by decide) (by omega) u3 Bi (⟨wrap64 (Ax + 1), (⟨#[120]⟩ : ByteArray), 1, 500, 0⟩ : S26) [.int .i64 (wrap64 (Ax + 1)), .string (⟨#[120]⟩ : ByteArray), .int .i64 1, .int .i64 500, .int .i64 0] (fun _ => True) (fun _ => False) rfl rfl ?aP (fun _ hk => hk.elim) ?aF ?aO (Below.refl _ _) ?aS ?aL ?_; (case aP => exact k26_mkM _ _ _ (⟨wrap64 (Ax + 1), (⟨#[120]⟩ : ByteArray), 1, 500, 0⟩ : S26)); (case aF => exact (fun _ _ => trivial)); (case aO => exact Z24); (case aS => exact (keep_size (w := w) (g := g) (row := none) Z6)); (case aL => have := LMc51.out; omega); intro Dq Ef ho hb hg hat; rw [← C1.out] at ho; replace HB := aM (below_weaken Z7 HL.out hb); replace HI0 := aM (IsS85.grown Z2 hg (IsS85.own_ne HI0.out Ab.out (by decide))); replace HK := aM (KeepBut.trans Z6 (KeepBut.of_grown hg g) (Kd.R_base2 Ab.out)); have C2 := aM (ho); clear Ab; clear ho hb hg hat))
         go_roundg k2
         case measure => have := HK1.out; have := HK2.out; omega
         case rel => exact ⟨(C0), (wrap64 (Ax + 1)), (B1), (B2), Z15, H', ⟨by have := HK1.out; have := HK2.out; omega⟩, ⟨by (with_reducible repeat (first | apply Kd.R_alloc | apply Kd.R_drewN | apply Kd.R_drew)); exact C2.out⟩, ⟨Z2⟩, ⟨Z6⟩, ⟨Z7⟩⟩
        ·rw [if_neg C3] at H
         exact absurd H (by simp)
       ·rw [if_neg Cf] at H
        have c50b0 : decide (Ax < (wrap64 (8 + B0))) = false := decide_eq_false Cf; clear Cf
        simp only [Option.some.injEq, Prod.mk.injEq] at H
        obtain ⟨rfl, rfl, rfl⟩ := H
        go_wp2_with (first | ((with_reducible refine gate_callee (f := 93) rfl ?_); refine glE (some 40) Tryd.func93 #[.pointer (some ⟨g, 0, none⟩), .int .i64 2] ?_; (with_reducible refine (spec_l1Cur_pick.calls g Aa Ao Ap 2 B0 B1 B2 w0 _ ?side1 ?side2 Dm.out).mono ?_); (case side1 => exact Z2); (case side2 => exact Z7); rintro e Eg ⟨rfl, hi, hb, hk⟩; refine ⟨_, rfl, ?_⟩; replace Ab := aM (Kd.R_mono (Kd.R_keep (IsS85.apart (show IsS85 w0 _ g Aa Ao Ap from Z2) Z24 (by decide)) hk (fun _ h => h.2)) (fun _ h => h.1)); replace HK := aM (KeepBut.trans Z6 hk (.inl rfl)); replace HB := aM (hb); replace HI0 := aM (hi); (try clear hb); (try clear hk); (try clear hi)))
        go_ret
        exact ⟨_, Z14, Z24, Z2, Z7, Z6⟩
    ·replace Cw := Bool.eq_false_iff.mpr Cw
     subst Cw
     have H1 : (some (Am, Bp, Bq)) = some (r1, r2, r3) := by rw [if_neg (show ¬ (false = true) by decide)] at H; exact H
     clear H; have H := H1; clear H1
     simp only [Option.some.injEq, Prod.mk.injEq] at H
     obtain ⟨rfl, rfl, rfl⟩ := H
     go_wp2_with (first | ((with_reducible refine gate_callee (f := 104) rfl ?_); refine glE (some 36) Tryd.func104 #[.pointer (some ⟨g, 0, none⟩), .int .i64 24] ?_; (with_reducible refine (spec_l1Cur_one.calls g Aa Ai Aj 24 false Bp Bq w0 _ ?side1 ?side2 Dl.out).mono ?_); (case side1 => exact Z2); (case side2 => exact Z7); rintro e Eh ⟨rfl, hi, hb, hk⟩; refine ⟨_, rfl, ?_⟩; replace Ab := aM (Kd.R_mono (Kd.R_keep (IsS85.apart (show IsS85 w0 _ g Aa Ai Aj from Z2) Z24 (by decide)) hk (fun _ h => h.2)) (fun _ h => h.1)); replace HK := aM (KeepBut.trans Z6 hk (.inl rfl)); replace HB := aM (hb); replace HI0 := aM (hi); (try clear hb); (try clear hk); (try clear hi)))
     go_ret
     exact ⟨_, Z14, Z24, Z2, Z7, Z6⟩
def laws_rInts.l0 : Nat → List Int → List Int → Int → Option (Bool)
 | 0, _, _, _ => none
 | k + 1, x0, x1, x5 => if x5 < (x0.length : Int) then (if 0 ≤ x5 then (if x5 < (x1.length : Int) then (if (rd x0 x5) = (rd x1 x5) then (laws_rInts.l0 k x0 x1 (wrap64 (x5 + 1))) else (some false)) else (none)) else (none)) else (some true)
def laws_rInts.f (k : Nat) (l0 : List Int) (l1 : List Int) : Option (Bool) := if (l0.length : Int) = (l1.length : Int) then (laws_rInts.l0 k l0 l1 0) else (some false)
theorem laws_rInts.calls (k : Nat) (A0 : Option Addr) (c0 : Nat) (l0 : List Int) (A1 : Option Addr) (c1 : Nat) (l1 : List Int) (r : Bool) (w : World) (Ah : Kd.C (Kd.int .i64) w A0 l0.length l0) (Ai : l0.length ≤ c0) (Aj : Kd.C (Kd.int .i64) w A1 l1.length l1) (Ak : l1.length ≤ c1) (h : laws_rInts.f k l0 l1 = some r) :
  Calls Tryd.prog 47 #[.slice A0 l0.length c0, .slice A1 l1.length c1] w fun e w' => e = .returned (.bool r) ∧ Drawn0 w w' := by
 have Al := Aside0.mk Ah; have An := Aside0.mk Ai; clear Ah Ai; have Am := Aside0.mk Aj; have Ao := Aside0.mk Ak; clear Aj Ak; have H : (if (l0.length : Int) = (l1.length : Int) then (laws_rInts.l0 k l0 l1 0) else (some false)) = some r := h; clear h
 by_cases c3 : (l0.length : Int) = (l1.length : Int)
 ·rw [if_pos c3] at H
  have c3b0 : ((l0.length : Int) == (l1.length : Int)) = true := beq_iff_eq.mpr c3; have c3b1 : ((l0.length : Int) != (l1.length : Int)) = false := bne_eq_false_iff_eq.mpr c3
  have c3b2 : (l0.length == l1.length) = true := by first | simpa using c3 | (simp at c3 ⊢; omega)
  clear c3; have H' := Aside0.mk H; clear H
  go_enter Tryd.func47, Tryd.ntmps47
  go_wp2
  repeat (go_quiet (fail); try go_wp2)
  go_loopg [5] k (fun kq v5 w' => ∃ (Aa : Int), v5 = .int .i64 Aa ∧ Aside0 (laws_rInts.l0 kq l0 l1 Aa = some r) ∧ Aside0 (kq ≤ k) ∧ Drawn0 w w')
  case atStart => exact ⟨(0), Z15, H', ⟨Nat.le_refl _⟩, Z27⟩
  case round =>
   clear H'; (try clear c1); (try clear p2); (try clear c3); (try clear c3b0); (try clear c3b1); (try clear c3b2); obtain ⟨Aa, rfl, HA, HK1, ⟨m1, rfl⟩⟩ := hrel; cases gk with
   | zero => exact absurd HA.out (by simp [laws_rInts.l0])
   | succ k1 =>
    have H := HA.out; clear HA
    simp only [laws_rInts.l0] at H
    by_cases c4 : Aa < (l0.length : Int)
    ·rw [if_pos c4] at H
     have c4b0 : decide (Aa < (l0.length : Int)) = true := decide_eq_true c4; clear c4
     by_cases c5 : 0 ≤ Aa
     ·rw [if_pos c5] at H
      have c5b0 : decide (0 ≤ Aa) = true := decide_eq_true c5; clear c5
      by_cases c6 : Aa < (l1.length : Int)
      ·rw [if_pos c6] at H
       have c6b0 : decide (Aa < (l1.length : Int)) = true := decide_eq_true c6; clear c6
       by_cases c7 : (rd l0 Aa) = (rd l1 Aa)
       ·rw [if_pos c7] at H
        have c7b0 : ((rd l0 Aa) == (rd l1 Aa)) = true := beq_iff_eq.mpr c7; have c7b1 : ((rd l0 Aa) != (rd l1 Aa)) = false := bne_eq_false_iff_eq.mpr c7; clear c7; have H' := Aside0.mk H; clear H; have Ab : 0 ≤ (Aa : Int) := of_decide_eq_true Z10; have Ac : Aa < (l0.length : Int) := of_decide_eq_true Z10; obtain ⟨ad799, e799, Af⟩ := Kd.at_int Al.out Aa Ab Ac; cases e799; replace Ab := eq_true Ab; replace Ac := eq_true Ac; have Ad : 0 ≤ (Aa : Int) := of_decide_eq_true Z10; have Ae : Aa < (l1.length : Int) := of_decide_eq_true Z10; obtain ⟨ad800, e800, Ag⟩ := Kd.at_int Am.out Aa Ad Ae; cases e800; replace Ad := eq_true Ad; replace Ae := eq_true Ae
        go_wp2
        repeat (go_quiet (fail); try go_wp2)
        go_roundg k1
        case measure => have := HK1.out; omega
        case rel => exact ⟨(wrap64 (Aa + 1)), Z15, H', ⟨Z66⟩, Z27⟩
       ·rw [if_neg c7] at H
        have c7b0 : ((rd l0 Aa) == (rd l1 Aa)) = false := beq_eq_false_iff_ne.mpr c7; have c7b1 : ((rd l0 Aa) != (rd l1 Aa)) = true := bne_iff_ne.mpr c7; obtain rfl := Option.some.inj H; have Ab : 0 ≤ (Aa : Int) := of_decide_eq_true Z10; have Ac : Aa < (l0.length : Int) := of_decide_eq_true Z10; obtain ⟨ad799, e799, Af⟩ := Kd.at_int Al.out Aa Ab Ac; cases e799; replace Ab := eq_true Ab; replace Ac := eq_true Ac; have Ad : 0 ≤ (Aa : Int) := of_decide_eq_true Z10; have Ae : Aa < (l1.length : Int) := of_decide_eq_true Z10; obtain ⟨ad800, e800, Ag⟩ := Kd.at_int Am.out Aa Ad Ae; cases e800; replace Ad := eq_true Ad; replace Ae := eq_true Ae
        go_wp2
        repeat (go_quiet (fail); try go_wp2)
        go_ret
        exact ⟨Z15, Z27⟩
      ·rw [if_neg c6] at H
       exact absurd H (by simp)
     ·rw [if_neg c5] at H
      exact absurd H (by simp)
    ·rw [if_neg c4] at H
     have c4b0 : decide (Aa < (l0.length : Int)) = false := decide_eq_false c4; clear c4; obtain rfl := Option.some.inj H
     go_wp2
     repeat (go_quiet (fail); try go_wp2)
     go_ret
     exact ⟨Z15, Z27⟩
 ·rw [if_neg c3] at H
  have c3b0 : ((l0.length : Int) == (l1.length : Int)) = false := beq_eq_false_iff_ne.mpr c3; have c3b1 : ((l0.length : Int) != (l1.length : Int)) = true := bne_iff_ne.mpr c3
  have c3b2 : (l0.length == l1.length) = false := by first | simpa using c3 | (simp at c3 ⊢; omega)
  obtain rfl := Option.some.inj H
  go_enter Tryd.func47, Tryd.ntmps47
  go_wp2
  repeat (go_quiet (fail); try go_wp2)
  go_ret
  exact ⟨Z15, Z27⟩
def laws_rHas.l0 : Nat → List Int → Int → Int → Option (Bool)
 | 0, _, _, _ => none
 | k + 1, x0, x1, x5 => if x5 < (x0.length : Int) then (if 0 ≤ x5 then (if (rd x0 x5) = x1 then (some true) else (laws_rHas.l0 k x0 x1 (wrap64 (x5 + 1)))) else (none)) else (some false)
def laws_rHas.f (k : Nat) (l0 : List Int) (a1 : Int) : Option (Bool) := laws_rHas.l0 k l0 a1 0
theorem laws_rHas.calls (k : Nat) (A0 : Option Addr) (c0 : Nat) (l0 : List Int) (a1 : Int) (r : Bool) (w : World) (Ae : Kd.C (Kd.int .i64) w A0 l0.length l0) (Af : l0.length ≤ c0) (h : laws_rHas.f k l0 a1 = some r) :
  Calls Tryd.prog 48 #[.slice A0 l0.length c0, .int .i64 a1] w fun e w' => e = .returned (.bool r) ∧ Drawn0 w w' := by
 have Ag := Aside0.mk Ae; have Ah := Aside0.mk Af; clear Ae Af; have H : (laws_rHas.l0 k l0 a1 0) = some r := h; clear h; have H' := Aside0.mk H; clear H
 go_enter Tryd.func48, Tryd.ntmps48
 go_wp2
 go_loopg [5] k (fun kq v5 w' => ∃ (Aa : Int), v5 = .int .i64 Aa ∧ Aside0 (laws_rHas.l0 kq l0 a1 Aa = some r) ∧ Aside0 (kq ≤ k) ∧ Drawn0 w w')
 case atStart => exact ⟨(0), Z15, H', ⟨Nat.le_refl _⟩, Z27⟩
 case round =>
  clear H'; (try clear p2); obtain ⟨Aa, rfl, HA, HK1, ⟨m1, rfl⟩⟩ := hrel; cases gk with
  | zero => exact absurd HA.out (by simp [laws_rHas.l0])
  | succ k1 =>
   have H := HA.out; clear HA
   simp only [laws_rHas.l0] at H
   by_cases c3 : Aa < (l0.length : Int)
   ·rw [if_pos c3] at H
    have c3b0 : decide (Aa < (l0.length : Int)) = true := decide_eq_true c3; clear c3
    by_cases c4 : 0 ≤ Aa
    ·rw [if_pos c4] at H
     have c4b0 : decide (0 ≤ Aa) = true := decide_eq_true c4; clear c4
     by_cases c5 : (rd l0 Aa) = a1
     ·rw [if_pos c5] at H
      have c5b0 : ((rd l0 Aa) == a1) = true := beq_iff_eq.mpr c5; have c5b1 : ((rd l0 Aa) != a1) = false := bne_eq_false_iff_eq.mpr c5; clear c5; obtain rfl := Option.some.inj H; have Ab : 0 ≤ (Aa : Int) := of_decide_eq_true Z10; have Ac : Aa < (l0.length : Int) := of_decide_eq_true Z10; obtain ⟨ad801, e801, Ad⟩ := Kd.at_int Ag.out Aa Ab Ac; cases e801; replace Ab := eq_true Ab; replace Ac := eq_true Ac
      go_wp2
      go_ret
      exact ⟨Z15, Z27⟩
     ·rw [if_neg c5] at H
      have c5b0 : ((rd l0 Aa) == a1) = false := beq_eq_false_iff_ne.mpr c5; have c5b1 : ((rd l0 Aa) != a1) = true := bne_iff_ne.mpr c5; have H' := Aside0.mk H; clear H; have Ab : 0 ≤ (Aa : Int) := of_decide_eq_true Z10; have Ac : Aa < (l0.length : Int) := of_decide_eq_true Z10; obtain ⟨ad801, e801, Ad⟩ := Kd.at_int Ag.out Aa Ab Ac; cases e801; replace Ab := eq_true Ab; replace Ac := eq_true Ac
      go_wp2
      go_roundg k1
      case measure => have := HK1.out; omega
      case rel => exact ⟨(wrap64 (Aa + 1)), Z15, H', ⟨Z66⟩, Z27⟩
    ·rw [if_neg c4] at H
     exact absurd H (by simp)
   ·rw [if_neg c3] at H
    have c3b0 : decide (Aa < (l0.length : Int)) = false := decide_eq_false c3; clear c3; obtain rfl := Option.some.inj H
    go_wp2
    go_ret
    exact ⟨Z15, Z27⟩
def spec_l1Cur_weaverId.j0 : Nat → List (S26) → Bool → List Int → Int → Int → Option (Int × Int × Int)
 | 0, _, _, _, _, _ => none
 | k + 1, x1, x11, x1000, x1001, x1002 => if x11 = true then ((spec_l1Cur_among.f x1000 x1001 x1002 (([0, 1, 50] : List Int))).bind fun bt808 => (some (bt808.1, bt808.2.1, bt808.2.2))) else ((spec_l1Cur_pick.f x1000 x1001 x1002 (x1.length : Int)).bind fun bt811 => (if 0 ≤ bt811.1 then (if bt811.1 < (x1.length : Int) then (some ((rd_T26 x1 bt811.1).f0, bt811.2.1, bt811.2.2)) else (none)) else (none)))
def spec_l1Cur_weaverId.f (k : Nat) (s0_0 : List Int) (s0_1 : Int) (s0_2 : Int) (l1 : List (S26)) : Option (Int × Int × Int) := if (l1.length : Int) = 0 then (spec_l1Cur_weaverId.j0 k l1 true s0_0 s0_1 s0_2) else ((spec_l1Cur_one.f s0_0 s0_1 s0_2 10).bind fun bt802 => (spec_l1Cur_weaverId.j0 k l1 bt802.1 s0_0 bt802.2.1 bt802.2.2))
theorem spec_l1Cur_weaverId.calls (k : Nat) (g : Nat) (Ac : List Int) (Aj : Int) (Ak : Int) (A1 : Option Addr) (c1 : Nat) (l1 : List (S26)) (r1 : Int) (r2 : Int) (r3 : Int) (w0 w : World) (hI : IsS85 w0 w g Ac Aj Ak) (hB : Below w0.heap.size w0 w) (Bo : ∀ W_, KeepBut w W_ g none → Kd.C k26 W_ A1 l1.length l1) (Bp : l1.length ≤ c1) (h : spec_l1Cur_weaverId.f k Ac Aj Ak l1 = some (r1, r2, r3)) :
  Calls Tryd.prog 91 #[.pointer (some ⟨g, 0, none⟩), .slice A1 l1.length c1] w fun e w' => e = .returned (.int .i64 r1) ∧ IsS85 w0 w' g Ac r2 r3 ∧ Below w0.heap.size w0 w' ∧ KeepBut w w' g none := by
 have Bs := Aside0.mk Bo; have Bw := Aside0.mk Bp; clear Bo Bp; have HI0 := Aside0.mk hI; have HK := aM (KeepBut.refl w g none); have HL := Aside0.mk hB.size; clear hI; have Bx := Aside0.mk hB.size; have HB := Aside0.mk hB; clear hB; have H : (if (l1.length : Int) = 0 then (spec_l1Cur_weaverId.j0 k l1 true Ac Aj Ak) else ((spec_l1Cur_one.f Ac Aj Ak 10).bind fun Al => (spec_l1Cur_weaverId.j0 k l1 Al.1 Ac Al.2.1 Al.2.2))) = some (r1, r2, r3) := h; clear h; have Bk := Aside0.mk H; clear H
 go_enter Tryd.func91, Tryd.ntmps91
 go_upto_region 1 with (fail)
 go_cut [11] (fun Bt wc => ∃ (kq : Nat) (Ai : Bool) (Aa : Int) (Ab : Int), Bt = .bool Ai ∧ Aside0 (spec_l1Cur_weaverId.j0 kq l1 Ai Ac Aa Ab = some (r1, r2, r3)) ∧ Aside0 (kq ≤ k) ∧ Aside0 (IsS85 w0 wc g Ac Aa Ab) ∧ Aside0 (KeepBut w wc g none) ∧ Aside0 (Below w0.heap.size w0 wc))
 case first =>
  have H := Bk.out; clear Bk
  by_cases c4 : (l1.length : Int) = 0
  ·rw [if_pos c4] at H
   have c4b0 : ((l1.length : Int) == 0) = true := beq_iff_eq.mpr c4; have c4b1 : ((l1.length : Int) != 0) = false := bne_eq_false_iff_eq.mpr c4; clear c4
   (first | rw [c4b0] | (simp only [i64_w, i32_w]; rw [c4b0]) | skip)
   have H' := Aside0.mk H; clear H
   go_wp2
   go_meet
   case rel => exact ⟨_, (true), (Aj), (Ak), Z15, H', ⟨Z69⟩, ⟨Z2⟩, ⟨Z6⟩, ⟨Z7⟩⟩
  ·rw [if_neg c4] at H
   have c4b0 : ((l1.length : Int) == 0) = false := beq_eq_false_iff_ne.mpr c4; have c4b1 : ((l1.length : Int) != 0) = true := bne_iff_ne.mpr c4
   have c4b2 : ¬ (l1 = []) := fun h_ => c4 (by rw [h_]; rfl)
   (first | rw [c4b0] | (simp only [i64_w, i32_w]; rw [c4b0]) | skip)
   replace H := Option.bind_eq_some_iff.mp H; obtain ⟨⟨Ao, Ap, Aq⟩, Bq, H⟩ := H; replace H : (spec_l1Cur_weaverId.j0 k l1 Ao Ac Ap Aq) = some (r1, r2, r3) := H; have A5 := Aside0.mk Bq; clear Bq; have H' := Aside0.mk H; clear H
   go_wp2_with (first | (go_at_call 104; (with_reducible refine (spec_l1Cur_one.calls g Ac Aj Ak 10 Ao Ap Aq w0 _ ?side1 ?side2 A5.out).mono ?_); (case side1 => exact Z2); (case side2 => exact Z7); rintro e w6 ⟨rfl, hi, hb, hk⟩; replace HK := aM (KeepBut.trans Z6 hk (.inl rfl)); replace HB := aM (hb); replace HI0 := aM (hi); (try clear hb); (try clear hk); (try clear hi)))
   go_meet
   case rel => exact ⟨_, (Ao), (Ap), (Aq), Z15, H', ⟨Z69⟩, ⟨Z2⟩, ⟨Z6⟩, ⟨Z7⟩⟩
 case rest =>
  clear Bk; (try clear c1); (try clear p2); (try clear c4); (try clear c4b0); (try clear c4b1); (try clear c4b2); obtain ⟨kq, Ai, Aa, Ab, rfl, HA, HJ2, HI0, HK, HB⟩ := hcut; cases kq with
  | zero => exact absurd HA.out (by simp [spec_l1Cur_weaverId.j0])
  | succ Bz =>
   have H := HA.out; clear HA
   simp only [spec_l1Cur_weaverId.j0] at H
   by_cases c7 : Ai = true
   ·subst c7
    have H1 : ((spec_l1Cur_among.f Ac Aa Ab (([0, 1, 50] : List Int))).bind fun Ad => (some (Ad.1, Ad.2.1, Ad.2.2))) = some (r1, r2, r3) := by rw [if_pos rfl] at H; exact H
    clear H; have H := H1; clear H1; obtain ⟨Ar, Ag⟩ : ∃ y_ : List Int, y_ = (([0, 1, 50] : List Int)) := ⟨_, rfl⟩
    replace H : ((spec_l1Cur_among.f Ac Aa Ab Ar).bind fun Ad => (some (Ad.1, Ad.2.1, Ad.2.2))) = some (r1, r2, r3) := by first | (rw [Ag]; with_reducible exact H) | (have H2_ := (Option.bind_some _ _).symm.trans H; rw [Ag]; with_reducible exact H2_) | (have H2_ := (Option.bind_some _ _).symm.trans H; with_reducible exact H2_) | with_reducible exact H | (rw [Ag]; exact H) | exact H
    have An := Aside0.mk Ag; clear Ag; replace H := Option.bind_eq_some_iff.mp H; obtain ⟨⟨Aw, Ax, Ay⟩, Br, H⟩ := H; replace H : (some (Aw, Ax, Ay)) = some (r1, r2, r3) := H; have A8 := Aside0.mk Br; clear Br
    simp only [Option.some.injEq, Prod.mk.injEq] at H
    obtain ⟨rfl, rfl, rfl⟩ := H
    go_wp2_with (first | ((with_reducible refine gate_dst (N := 13) rfl ?_); refine Kd.R_lit (Kd.int .i64) _ 3 ?hg (N := 13) ?hd (xs := ([0, 1, 50] : List Int)) (inner := [.int .i64 0, .int .i64 1, .int .i64 50]) (ok := fun _ => True) (okp := fun _ => True) ?hr ?hp (fun _ hk => hk) trivial (Below.refl _ _) (Nat.le_refl _) (by simp) ?_; (case hd => rfl); (case hg => rfl); (case hr => first | (go_simp; done) | (go_simp; rfl)); (case hp => exact (Reps.one (show Kd.M (Kd.int .i64) _ _ _ 0 [.int .i64 0] from rfl) (Reps.one (show Kd.M (Kd.int .i64) _ _ _ 1 [.int .i64 1] from rfl) (Reps.one (show Kd.M (Kd.int .i64) _ _ _ 50 [.int .i64 50] from rfl) (Reps.none _ _))))); intro Bu w9 Am hb hg_ hnew_; clear hg_ hnew_; (first | rw [← An.out] at Am | (simp only [Int.reduceToNat] at Am; rw [← An.out] at Am)); have Af := aM (Kd.R_lower Am (keep_size (w := w) (g := g) (row := none) Z6)); replace HK := aM (KeepBut.trans Z6 (KeepBut.of_below hb g none) (.inl rfl)); replace HB := aM (below_step Z7 hb); replace HI0 := aM (IsS85.below Z2 hb); clear hb Am; obtain ⟨Bl, Bm, Bn⟩ := Kd.R_slice Af.out; subst Bn) | ((with_reducible refine gate_callee (f := 92) rfl ?_); refine glE (some 14) Tryd.func92 #[.pointer (some ⟨g, 0, none⟩), .slice Bl Ar.length Bm] ?_; (with_reducible refine (spec_l1Cur_among.calls g Ac Aa Ab _ _ Ar Aw Ax Ay w0 _ ?side1 ?side2 ?side3 ?side4 ?side5 A8.out).mono ?_); (case side1 => exact Z2); (case side2 => exact Z7); (case side3 => exact Z39); (case side4 => exact (Kd.R_reads' Af.out).2.1); (case side5 => exact far_slice (IsS85.own_ne HI0.out Af.out (by decide))); rintro e B0 ⟨rfl, hi, hb, hk⟩; refine ⟨_, rfl, ?_⟩; replace Af := aM (Kd.R_mono (Kd.R_keep (IsS85.apart (show IsS85 w0 _ g Ac Aa Ab from Z2) Z23 (by decide)) hk (fun _ h => h.2)) (fun _ h => h.1)); replace HK := aM (KeepBut.trans Z6 hk (.inl rfl)); replace HB := aM (hb); replace HI0 := aM (hi); (try clear hb); (try clear hk); (try clear hi)))
    go_ret
    exact ⟨Z14, Z2, Z7, Z6⟩
   ·replace c7 := Bool.eq_false_iff.mpr c7
    subst c7
    have H1 : ((spec_l1Cur_pick.f Ac Aa Ab (l1.length : Int)).bind fun Ah => (if 0 ≤ Ah.1 then (if Ah.1 < (l1.length : Int) then (some ((rd_T26 l1 Ah.1).f0, Ah.2.1, Ah.2.2)) else (none)) else (none))) = some (r1, r2, r3) := by rw [if_neg (show ¬ (false = true) by decide)] at H; exact H
    clear H; have H := H1; clear H1; replace H := Option.bind_eq_some_iff.mp H; obtain ⟨⟨Ae, Az, Ba⟩, Bb, H⟩ := H; replace H : (if 0 ≤ Ae then (if Ae < (l1.length : Int) then (some ((rd_T26 l1 Ae).f0, Az, Ba)) else (none)) else (none)) = some (r1, r2, r3) := H; have Bv := Aside0.mk Bb; clear Bb
    by_cases Bc : 0 ≤ Ae
    ·rw [if_pos Bc] at H
     have c14b0 : decide (0 ≤ Ae) = true := decide_eq_true Bc; clear Bc
     by_cases Bd : Ae < (l1.length : Int)
     ·rw [if_pos Bd] at H
      have c15b0 : decide (Ae < (l1.length : Int)) = true := decide_eq_true Bd; clear Bd
      simp only [Option.some.injEq, Prod.mk.injEq] at H
      obtain ⟨rfl, rfl, rfl⟩ := H
      go_wp2_with (first | ((with_reducible refine gate_callee (f := 93) rfl ?_); refine glE (some 19) Tryd.func93 #[.pointer (some ⟨g, 0, none⟩), .int .i64 (l1.length : Int)] ?_; (with_reducible refine (spec_l1Cur_pick.calls g Ac Aa Ab (l1.length : Int) Ae Az Ba w0 _ ?side1 ?side2 Bv.out).mono ?_); (case side1 => exact Z2); (case side2 => exact Z7); rintro e B1 ⟨rfl, hi, hb, hk⟩; refine ⟨_, rfl, ?_⟩; replace HK := aM (KeepBut.trans Z6 hk (.inl rfl)); replace HB := aM (hb); replace HI0 := aM (hi); (try clear hb); (try clear hk); (try clear hi); have Au : 0 ≤ (Ae : Int) := of_decide_eq_true Z10; have Av : Ae < (l1.length : Int) := of_decide_eq_true Z10; obtain ⟨ad814, e814, Bf, Bg, Bh, Bi, Bj⟩ := at_T26 (Kd.C_foot_now Bs.out HK.out) Ae Au Av; cases e814; replace Au := eq_true Au; replace Av := eq_true Av))
      go_ret
      exact ⟨Z14, Z2, Z7, Z6⟩
     ·rw [if_neg Bd] at H
      exact absurd H (by simp)
    ·rw [if_neg Bc] at H
     exact absurd H (by simp)
def laws_rWeavers.l0 : Nat → List (S26) → List (S26) → Int → Option (Bool)
 | 0, _, _, _ => none
 | k + 1, x0, x1, x5 => if x5 < (x0.length : Int) then (if 0 ≤ x5 then (if x5 < (x1.length : Int) then (if (!(((rd_T26 x0 x5).f0) == ((rd_T26 x1 x5).f0)) || (!((((rd_T26 x0 x5).f1).toList) == (((rd_T26 x1 x5).f1).toList)) || (!(((rd_T26 x0 x5).f2) == ((rd_T26 x1 x5).f2)) || (!(((rd_T26 x0 x5).f3) == ((rd_T26 x1 x5).f3)) || (!(((rd_T26 x0 x5).f4) == ((rd_T26 x1 x5).f4))))))) = true then (some false) else (laws_rWeavers.l0 k x0 x1 (wrap64 (x5 + 1)))) else (none)) else (none)) else (some true)
def laws_rWeavers.f (k : Nat) (l0 : List (S26)) (l1 : List (S26)) : Option (Bool) := if (l0.length : Int) = (l1.length : Int) then (laws_rWeavers.l0 k l0 l1 0) else (some false)
theorem laws_rWeavers.calls (k : Nat) (A0 : Option Addr) (c0 : Nat) (l0 : List (S26)) (A1 : Option Addr) (c1 : Nat) (l1 : List (S26)) (r : Bool) (w : World) (Ap : Kd.C k26 w A0 l0.length l0) (Aq : l0.length ≤ c0) (Ar : Kd.C k26 w A1 l1.length l1) (Au : l1.length ≤ c1) (h : laws_rWeavers.f k l0 l1 = some r) :
  Calls Tryd.prog 50 #[.slice A0 l0.length c0, .slice A1 l1.length c1] w fun e w' => e = .returned (.bool r) ∧ Drawn0 w w' := by
 have hu26 := Tryd.underlying26; have Av := Aside0.mk Ap; have Ax := Aside0.mk Aq; clear Ap Aq; have Aw := Aside0.mk Ar; have Ay := Aside0.mk Au; clear Ar Au; have H : (if (l0.length : Int) = (l1.length : Int) then (laws_rWeavers.l0 k l0 l1 0) else (some false)) = some r := h; clear h
 by_cases c3 : (l0.length : Int) = (l1.length : Int)
 ·rw [if_pos c3] at H
  have c3b0 : ((l0.length : Int) == (l1.length : Int)) = true := beq_iff_eq.mpr c3; have c3b1 : ((l0.length : Int) != (l1.length : Int)) = false := bne_eq_false_iff_eq.mpr c3
  have c3b2 : (l0.length == l1.length) = true := by first | simpa using c3 | (simp at c3 ⊢; omega)
  clear c3; have H' := Aside0.mk H; clear H
  go_enter Tryd.func50, Tryd.ntmps50
  go_wp2
  repeat (go_quiet (fail); try go_wp2)
  go_loopg [5] k (fun kq v5 w' => ∃ (Aa : Int), v5 = .int .i64 Aa ∧ Aside0 (laws_rWeavers.l0 kq l0 l1 Aa = some r) ∧ Aside0 (kq ≤ k) ∧ Drawn0 w w')
  case atStart => exact ⟨(0), Z15, H', ⟨Nat.le_refl _⟩, Z27⟩
  case round =>
   clear H'; (try clear c1); (try clear p2); (try clear c3); (try clear c3b0); (try clear c3b1); (try clear c3b2); obtain ⟨Aa, rfl, HA, HK1, ⟨m1, rfl⟩⟩ := hrel; cases gk with
   | zero => exact absurd HA.out (by simp [laws_rWeavers.l0])
   | succ k1 =>
    have H := HA.out; clear HA
    simp only [laws_rWeavers.l0] at H
    by_cases c4 : Aa < (l0.length : Int)
    ·rw [if_pos c4] at H
     have c4b0 : decide (Aa < (l0.length : Int)) = true := decide_eq_true c4; clear c4
     by_cases c5 : 0 ≤ Aa
     ·rw [if_pos c5] at H
      have c5b0 : decide (0 ≤ Aa) = true := decide_eq_true c5; clear c5
      by_cases c6 : Aa < (l1.length : Int)
      ·rw [if_pos c6] at H
       have c6b0 : decide (Aa < (l1.length : Int)) = true := decide_eq_true c6; clear c6
       by_cases c7 : (!(((rd_T26 l0 Aa).f0) == ((rd_T26 l1 Aa).f0)) || (!((((rd_T26 l0 Aa).f1).toList) == (((rd_T26 l1 Aa).f1).toList)) || (!(((rd_T26 l0 Aa).f2) == ((rd_T26 l1 Aa).f2)) || (!(((rd_T26 l0 Aa).f3) == ((rd_T26 l1 Aa).f3)) || (!(((rd_T26 l0 Aa).f4) == ((rd_T26 l1 Aa).f4))))))) = true
       ·rw [if_pos c7] at H
        have c7b0 : (!(((rd_T26 l0 Aa).f0) == ((rd_T26 l1 Aa).f0)) || (!((((rd_T26 l0 Aa).f1).toList) == (((rd_T26 l1 Aa).f1).toList)) || (!(((rd_T26 l0 Aa).f2) == ((rd_T26 l1 Aa).f2)) || (!(((rd_T26 l0 Aa).f3) == ((rd_T26 l1 Aa).f3)) || (!(((rd_T26 l0 Aa).f4) == ((rd_T26 l1 Aa).f4))))))) = true := c7; clear c7; obtain rfl := Option.some.inj H; have Ab : 0 ≤ (Aa : Int) := of_decide_eq_true Z10; have Ac : Aa < (l0.length : Int) := of_decide_eq_true Z10; obtain ⟨ad840, e840, Af, Ag, Ah, Ai, Aj⟩ := at_T26 Av.out Aa Ab Ac; cases e840; replace Ab := eq_true Ab; replace Ac := eq_true Ac; have Ad : 0 ≤ (Aa : Int) := of_decide_eq_true Z10; have Ae : Aa < (l1.length : Int) := of_decide_eq_true Z10; obtain ⟨ad841, e841, Ak, Al, Am, An, Ao⟩ := at_T26 Aw.out Aa Ad Ae; cases e841; replace Ad := eq_true Ad; replace Ae := eq_true Ae
        go_wp2
        repeat (go_quiet (fail); try go_wp2)
        go_ret
        exact ⟨Z15, Z27⟩
       ·rw [if_neg c7] at H
        have c7b0 : (!(((rd_T26 l0 Aa).f0) == ((rd_T26 l1 Aa).f0)) || (!((((rd_T26 l0 Aa).f1).toList) == (((rd_T26 l1 Aa).f1).toList)) || (!(((rd_T26 l0 Aa).f2) == ((rd_T26 l1 Aa).f2)) || (!(((rd_T26 l0 Aa).f3) == ((rd_T26 l1 Aa).f3)) || (!(((rd_T26 l0 Aa).f4) == ((rd_T26 l1 Aa).f4))))))) = false := by simpa using c7
        clear c7; have H' := Aside0.mk H; clear H; have Ab : 0 ≤ (Aa : Int) := of_decide_eq_true Z10; have Ac : Aa < (l0.length : Int) := of_decide_eq_true Z10; obtain ⟨ad840, e840, Af, Ag, Ah, Ai, Aj⟩ := at_T26 Av.out Aa Ab Ac; cases e840; replace Ab := eq_true Ab; replace Ac := eq_true Ac; have Ad : 0 ≤ (Aa : Int) := of_decide_eq_true Z10; have Ae : Aa < (l1.length : Int) := of_decide_eq_true Z10; obtain ⟨ad841, e841, Ak, Al, Am, An, Ao⟩ := at_T26 Aw.out Aa Ad Ae; cases e841; replace Ad := eq_true Ad; replace Ae := eq_true Ae
        go_wp2
        repeat (go_quiet (fail); try go_wp2)
        go_roundg k1
        case measure => have := HK1.out; omega
        case rel => exact ⟨(wrap64 (Aa + 1)), Z15, H', ⟨Z66⟩, Z27⟩
      ·rw [if_neg c6] at H
       exact absurd H (by simp)
     ·rw [if_neg c5] at H
      exact absurd H (by simp)
    ·rw [if_neg c4] at H
     have c4b0 : decide (Aa < (l0.length : Int)) = false := decide_eq_false c4; clear c4; obtain rfl := Option.some.inj H
     go_wp2
     repeat (go_quiet (fail); try go_wp2)
     go_ret
     exact ⟨Z15, Z27⟩
 ·rw [if_neg c3] at H
  have c3b0 : ((l0.length : Int) == (l1.length : Int)) = false := beq_eq_false_iff_ne.mpr c3; have c3b1 : ((l0.length : Int) != (l1.length : Int)) = true := bne_iff_ne.mpr c3
  have c3b2 : (l0.length == l1.length) = false := by first | simpa using c3 | (simp at c3 ⊢; omega)
  obtain rfl := Option.some.inj H
  go_enter Tryd.func50, Tryd.ntmps50
  go_wp2
  repeat (go_quiet (fail); try go_wp2)
  go_ret
  exact ⟨Z15, Z27⟩
end Go.Proofs.YthalifhbjioaeaaDoor.H
