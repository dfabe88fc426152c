-- by wip/pack.py of this repo
import Derived.Test.YthalifhbjioaeaaDoorZ11Hx0
import Derived.Test.YthalifhbjioaeaaDoorZ11Hx2
import Derived.Test.YthalifhbjioaeaaDoorZ11Hx3
import Derived.Test.YthalifhbjioaeaaDoorZ11Hx4
import Derived.Test.YthalifhbjioaeaaDoorZ11Hx5
import Derived.Test.YthalifhbjioaeaaDoorZ11Hx6
import Derived.Test.YthalifhbjioaeaaDoorZ11Hx7
import Derived.Test.YthalifhbjioaeaaDoorZ11WFoot
import Derived.Test.YthalifhbjioaeaaDoorZ11WLast
import Derived.Test.YthalifhbjioaeaaDoorZ11WMore
import Derived.Test.YthalifhbjioaeaaDoorZ11WRepsOne
import Derived.Test.YthalifhbjioaeaaDoorZ11WWords
import Derived.Test.YthalifhbjioaeaaDoorZ11Short
namespace Go.Proofs.YthalifhbjioaeaaDoor.H
open Go.RowKit Go.Proofs.YthalifhbjioaeaaDoorW.PrintWords Go.Proofs.YthalifhbjioaeaaDoorW.PrintLast Go.Proofs.YthalifhbjioaeaaDoorW.PrintMore
attribute [local go_sem] max2_int min2_int max_two min_two max_three min_three max_four min_four
set_option maxHeartbeats 80000000
set_option maxRecDepth 100000
set_option linter.unusedVariables false
set_option linter.unusedSimpArgs false
def spec_l1Cur_one.f (s0_0 : List Int) (s0_1 : Int) (s0_2 : Int) (a1 : Int) : Option (Bool × Int × Int) := (spec_l1Cur_pick.f s0_0 s0_1 s0_2 a1).bind fun bt292 => (some ((bt292.1 == 0), bt292.2.1, bt292.2.2))
theorem spec_l1Cur_one.calls (g : Nat) (Aa : List Int) (Ac : Int) (Ad : Int) (a1 : Int) (r1 : Bool) (r2 : Int) (r3 : Int) (w0 w : World) (hI : IsS85 w0 w g Aa Ac Ad) (hB : Below w0.heap.size w0 w) (h : spec_l1Cur_one.f Aa Ac Ad a1 = some (r1, r2, r3)) :
  Calls Tryd.prog 104 #[.pointer (some ⟨g, 0, none⟩), .int .i64 a1] w fun e w' => e = .returned (.bool r1) ∧ IsS85 w0 w' g Aa r2 r3 ∧ Below w0.heap.size w0 w' ∧ KeepBut w w' g none := by
 have HI0 := Aside0.mk hI; have HK := aM (KeepBut.refl w g none); have HL := Aside0.mk hB.size; clear hI; have Ai := Aside0.mk hB.size; have HB := Aside0.mk hB; clear hB; have H : ((spec_l1Cur_pick.f Aa Ac Ad a1).bind fun Ab => (some ((Ab.1 == 0), Ab.2.1, Ab.2.2))) = some (r1, r2, r3) := h; clear h; replace H := Option.bind_eq_some_iff.mp H; obtain ⟨⟨Ae, Af, Ag⟩, Ah, H⟩ := H; replace H : (some ((Ae == 0), Af, Ag)) = some (r1, r2, r3) := H; have A3 := Aside0.mk Ah; clear Ah
 simp only [Option.some.injEq, Prod.mk.injEq] at H
 obtain ⟨rfl, rfl, rfl⟩ := H
 go_enter Tryd.func104, Tryd.ntmps104
 go_wp2_with (first | ((with_reducible refine gate_callee (f := 93) rfl ?_); refine glE (some 7) Tryd.func93 #[.pointer (some ⟨g, 0, none⟩), .int .i64 a1] ?_; (with_reducible refine (spec_l1Cur_pick.calls g Aa Ac Ad a1 Ae Af Ag w0 _ ?side1 ?side2 A3.out).mono ?_); (case side1 => exact Z2); (case side2 => exact Z6); rintro e w4 ⟨rfl, hi, hb, hk⟩; refine ⟨_, rfl, ?_⟩; replace HK := aM (KeepBut.trans Z5 hk (.inl rfl)); replace HB := aM (hb); replace HI0 := aM (hi); (try clear hb); (try clear hk); (try clear hi)))
 go_ret
 exact ⟨Z13, Z2, Z6, Z5⟩
mutual
def spec_l1Cur_weavers.l0 : Nat → List (S26) → Int → Int → List Int → Int → Int → Option ((List (S26)) × Int × Int)
 | 0, _, _, _, _, _, _ => none
 | k + 1, x3, x4, x5, x1000, x1001, x1002 => if x5 > 0 then ((spec_l1Cur_pick.f x1000 x1001 x1002 3).bind fun bt301 => ((some (([] : List (S26)) : List (S26))).bind fun y304 => (if y304.length + x3.length < 2932031007402 then ((some (y304 ++ x3 : List (S26))).bind fun y307 => ((spec_l1Cur_weaver.f x1000 bt301.2.1 bt301.2.2 (wrap64 ((wrap64 (x4 + 1)) + bt301.1))).bind fun bt310 => (if y307.length < 2932031007402 then ((some (y307 ++ [(⟨bt310.1, bt310.2.1, bt310.2.2.1, bt310.2.2.2.1, bt310.2.2.2.2.1⟩ : S26)] : List (S26))).bind fun y317 => ((spec_l11Good.f k y317).bind fun t320 => (if t320 = true then (spec_l1Cur_weavers.l0 k y317 (wrap64 ((wrap64 (x4 + 1)) + bt301.1)) (wrap64 (x5 - 1)) x1000 bt310.2.2.2.2.2.1 bt310.2.2.2.2.2.2) else ((spec_l1Cur_one.f x1000 bt310.2.2.2.2.2.1 bt310.2.2.2.2.2.2 30).bind fun bt321 => (if bt321.1 = true then (spec_l1Cur_weavers.l0 k y317 (wrap64 ((wrap64 (x4 + 1)) + bt301.1)) (wrap64 (x5 - 1)) x1000 bt321.2.1 bt321.2.2) else (spec_l1Cur_weavers.l0 k x3 (wrap64 ((wrap64 (x4 + 1)) + bt301.1)) (wrap64 (x5 - 1)) x1000 bt321.2.1 bt321.2.2)))))) else (none)))) else (none)))) else ((spec_l1Cur_one.f x1000 x1001 x1002 24).bind fun bt324 => (if bt324.1 = true then (spec_l1Cur_weavers.l1 k (([] : List (S26))) 0 x1000 bt324.2.1 bt324.2.2) else (some (x3, bt324.2.1, bt324.2.2))))
def spec_l1Cur_weavers.l1 : Nat → List (S26) → Int → List Int → Int → Int → Option ((List (S26)) × Int × Int)
 | 0, _, _, _, _, _ => none
 | k + 1, x3, x7, x1000, x1001, x1002 => (spec_l1Cur_pick.f x1000 x1001 x1002 2).bind fun bt330 => (if x7 < (wrap64 (8 + bt330.1)) then (if x3.length < 2932031007402 then (spec_l1Cur_weavers.l1 k (x3 ++ [(⟨wrap64 (x7 + 1), (⟨#[120]⟩ : ByteArray), 1, 500, 0⟩ : S26)]) (wrap64 (x7 + 1)) x1000 bt330.2.1 bt330.2.2) else (none)) else (some (x3, bt330.2.1, bt330.2.2)))
end
def spec_l1Cur_weavers.f (k : Nat) (s0_0 : List Int) (s0_1 : Int) (s0_2 : Int) : Option ((List (S26)) × Int × Int) := (spec_l1Cur_pick.f s0_0 s0_1 s0_2 7).bind fun bt298 => (spec_l1Cur_weavers.l0 k (([] : List (S26))) 0 bt298.1 s0_0 bt298.2.1 bt298.2.2)
theorem spec_l1Cur_weavers.calls (k : Nat) (g : Nat) (Aa : List Int) (Bt : Int) (Bu : Int) (r1 : List (S26)) (r2 : Int) (r3 : Int) (w0 w : World) (hI : IsS85 w0 w g Aa Bt Bu) (hB : Below w0.heap.size w0 w) (h : spec_l1Cur_weavers.f k Aa Bt Bu = some (r1, r2, r3)) :
  Calls Tryd.prog 90 #[.pointer (some ⟨g, 0, none⟩)] w fun e w' => ∃ v0_ : Value, e = .returned (v0_) ∧ Kd.R k26 26 w' w.heap.size (fun _ => True) v0_ r1 ∧ IsS85 w0 w' g Aa r2 r3 ∧ Below w0.heap.size w0 w' ∧ KeepBut w w' g none := by
 have hu26 := Tryd.underlying26; have HI0 := Aside0.mk hI; have HK := aM (KeepBut.refl w g none); have HL := Aside0.mk hB.size; clear hI; have Dr := Aside0.mk hB.size; have HB := Aside0.mk hB; clear hB; have H : ((spec_l1Cur_pick.f Aa Bt Bu 7).bind fun Bf => (spec_l1Cur_weavers.l0 k (([] : List (S26))) 0 Bf.1 Aa Bf.2.1 Bf.2.2)) = some (r1, r2, r3) := h; clear h; obtain ⟨Cb, Bj⟩ : ∃ y_ : List (S26), y_ = (([] : List (S26))) := ⟨_, rfl⟩
 replace H : ((spec_l1Cur_pick.f Aa Bt Bu 7).bind fun Bf => (spec_l1Cur_weavers.l0 k Cb 0 Bf.1 Aa Bf.2.1 Bf.2.2)) = some (r1, r2, r3) := by first | (rw [Bj]; with_reducible exact H) | (have H2_ := (Option.bind_some _ _).symm.trans H; rw [Bj]; with_reducible exact H2_) | (have H2_ := (Option.bind_some _ _).symm.trans H; with_reducible exact H2_) | with_reducible exact H | (rw [Bj]; exact H) | exact H
 have B9 := Aside0.mk Bj; clear Bj; replace H := Option.bind_eq_some_iff.mp H; obtain ⟨⟨Cc, Cd, Ce⟩, Dh, H⟩ := H; replace H : (spec_l1Cur_weavers.l0 k Cb 0 Cc Aa Cd Ce) = some (r1, r2, r3) := H; have A2 := Aside0.mk Dh; clear Dh; have H' := Aside0.mk H; clear H
 go_enter Tryd.func90, Tryd.ntmps90
 go_wp2_with (first | ((with_reducible refine gate_dst (N := 8) rfl ?_); refine Kd.R_lit k26 _ 26 ?hg (N := 8) ?hd (xs := ([] : List (S26))) (inner := []) (ok := fun _ => True) (okp := fun _ => True) ?hr ?hp (fun _ hk => hk) trivial (Below.refl _ _) (Nat.le_refl _) (by simp) ?_; (case hd => rfl); (case hg => rfl); (case hr => first | (go_simp; done) | (go_simp; rfl)); (case hp => exact (Reps.none _ _)); intro Dn w3 Cg hb hg_ hnew_; clear hg_ hnew_; (first | rw [← B9.out] at Cg | (simp only [Int.reduceToNat] at Cg; rw [← B9.out] at Cg)); have B3 := aM (Kd.R_lower Cg (keep_size (w := w) (g := g) (row := none) Z5)); replace HK := aM (KeepBut.trans Z5 (KeepBut.of_below hb g none) (.inl rfl)); replace HB := aM (below_step Z6 hb); replace HI0 := aM (IsS85.below Z2 hb); clear hb Cg) | ((with_reducible refine gate_callee (f := 93) rfl ?_); refine glE (some 10) Tryd.func93 #[.pointer (some ⟨g, 0, none⟩), .int .i64 7] ?_; (with_reducible refine (spec_l1Cur_pick.calls g Aa Bt Bu 7 Cc Cd Ce w0 _ ?side1 ?side2 A2.out).mono ?_); (case side1 => exact Z2); (case side2 => exact Z6); rintro e w5 ⟨rfl, hi, hb, hk⟩; refine ⟨_, rfl, ?_⟩; replace B3 := aM (Kd.R_mono (Kd.R_keep (IsS85.apart (show IsS85 w0 _ g Aa Bt Bu from Z2) Z102 (by decide)) hk (fun _ h => h.2)) (fun _ h => h.1)); replace HK := aM (KeepBut.trans Z5 hk (.inl rfl)); replace HB := aM (hb); replace HI0 := aM (hi); (try clear hb); (try clear hk); (try clear hi)))
 go_loopg [3, 4, 5] k (fun kq v3 v4 v5 w' => ∃ (Am : List (S26)) (Ae : Int) (Ah : Int) (Ai : Int) (Aj : Int), v4 = .int .i64 Ae ∧ v5 = .int .i64 Ah ∧ Aside0 (spec_l1Cur_weavers.l0 kq Am Ae Ah Aa Ai Aj = some (r1, r2, r3)) ∧ Aside0 (kq ≤ k) ∧ Aside0 (Kd.R k26 26 w' w.heap.size (fun _ => True) v3 Am) ∧ Aside0 (IsS85 w0 w' g Aa Ai Aj) ∧ Aside0 (KeepBut w w' g none) ∧ Aside0 (Below w0.heap.size w0 w'))
 case atStart => exact ⟨(Cb), (0), (Cc), (Cd), (Ce), Z15, Z15, H', ⟨Nat.le_refl _⟩, ⟨Z102⟩, ⟨Z2⟩, ⟨Z5⟩, ⟨Z6⟩⟩
 case round =>
  clear H'; (try clear p2); obtain ⟨Am, Ae, Ah, Ai, Aj, rfl, rfl, HA, HK1, Ab, HI0, HK, HB⟩ := hrel; cases gk with
  | zero => exact absurd HA.out (by simp [spec_l1Cur_weavers.l0])
  | succ k1 =>
   have H := HA.out; clear HA
   simp only [spec_l1Cur_weavers.l0] at H
   by_cases c6 : Ah > 0
   ·rw [if_pos c6] at H
    have c6b0 : decide (0 < Ah) = true := decide_eq_true c6; clear c6; replace H := Option.bind_eq_some_iff.mp H; obtain ⟨⟨Af, Au, Av⟩, Di, H⟩ := H; replace H : ((some (([] : List (S26)) : List (S26))).bind fun Bg => (if Bg.length + Am.length < 2932031007402 then ((some (Bg ++ Am : List (S26))).bind fun Aw => ((spec_l1Cur_weaver.f Aa Au Av (wrap64 ((wrap64 (Ae + 1)) + Af))).bind fun Ad => (if Aw.length < 2932031007402 then ((some (Aw ++ [(⟨Ad.1, Ad.2.1, Ad.2.2.1, Ad.2.2.2.1, Ad.2.2.2.2.1⟩ : S26)] : List (S26))).bind fun Ak => ((spec_l11Good.f k1 Ak).bind fun Bd => (if Bd = true then (spec_l1Cur_weavers.l0 k1 Ak (wrap64 ((wrap64 (Ae + 1)) + Af)) (wrap64 (Ah - 1)) Aa Ad.2.2.2.2.2.1 Ad.2.2.2.2.2.2) else ((spec_l1Cur_one.f Aa Ad.2.2.2.2.2.1 Ad.2.2.2.2.2.2 30).bind fun Ac => (if Ac.1 = true then (spec_l1Cur_weavers.l0 k1 Ak (wrap64 ((wrap64 (Ae + 1)) + Af)) (wrap64 (Ah - 1)) Aa Ac.2.1 Ac.2.2) else (spec_l1Cur_weavers.l0 k1 Am (wrap64 ((wrap64 (Ae + 1)) + Af)) (wrap64 (Ah - 1)) Aa Ac.2.1 Ac.2.2)))))) else (none)))) else (none))) = some (r1, r2, r3) := H; have A7 := Aside0.mk Di; clear Di; obtain ⟨Bg, Bk⟩ : ∃ y_ : List (S26), y_ = (([] : List (S26))) := ⟨_, rfl⟩
    replace H : (if Bg.length + Am.length < 2932031007402 then ((some (Bg ++ Am : List (S26))).bind fun Aw => ((spec_l1Cur_weaver.f Aa Au Av (wrap64 ((wrap64 (Ae + 1)) + Af))).bind fun Ad => (if Aw.length < 2932031007402 then ((some (Aw ++ [(⟨Ad.1, Ad.2.1, Ad.2.2.1, Ad.2.2.2.1, Ad.2.2.2.2.1⟩ : S26)] : List (S26))).bind fun Ak => ((spec_l11Good.f k1 Ak).bind fun Bd => (if Bd = true then (spec_l1Cur_weavers.l0 k1 Ak (wrap64 ((wrap64 (Ae + 1)) + Af)) (wrap64 (Ah - 1)) Aa Ad.2.2.2.2.2.1 Ad.2.2.2.2.2.2) else ((spec_l1Cur_one.f Aa Ad.2.2.2.2.2.1 Ad.2.2.2.2.2.2 30).bind fun Ac => (if Ac.1 = true then (spec_l1Cur_weavers.l0 k1 Ak (wrap64 ((wrap64 (Ae + 1)) + Af)) (wrap64 (Ah - 1)) Aa Ac.2.1 Ac.2.2) else (spec_l1Cur_weavers.l0 k1 Am (wrap64 ((wrap64 (Ae + 1)) + Af)) (wrap64 (Ah - 1)) Aa Ac.2.1 Ac.2.2)))))) else (none)))) else (none)) = some (r1, r2, r3) := by first | (rw [Bk]; with_reducible exact H) | (have H2_ := (Option.bind_some _ _).symm.trans H; rw [Bk]; with_reducible exact H2_) | (have H2_ := (Option.bind_some _ _).symm.trans H; with_reducible exact H2_) | with_reducible exact H | (rw [Bk]; exact H) | exact H
    have Bh := Aside0.mk Bk; clear Bk
    by_cases c8 : Bg.length + Am.length < 2932031007402
    ·rw [if_pos c8] at H
     have LMc8 := Aside0.mk c8; clear c8; obtain ⟨Aw, Bl⟩ : ∃ y_ : List (S26), y_ = (Bg ++ Am) := ⟨_, rfl⟩
     replace H : ((spec_l1Cur_weaver.f Aa Au Av (wrap64 ((wrap64 (Ae + 1)) + Af))).bind fun Ad => (if Aw.length < 2932031007402 then ((some (Aw ++ [(⟨Ad.1, Ad.2.1, Ad.2.2.1, Ad.2.2.2.1, Ad.2.2.2.2.1⟩ : S26)] : List (S26))).bind fun Ak => ((spec_l11Good.f k1 Ak).bind fun Bd => (if Bd = true then (spec_l1Cur_weavers.l0 k1 Ak (wrap64 ((wrap64 (Ae + 1)) + Af)) (wrap64 (Ah - 1)) Aa Ad.2.2.2.2.2.1 Ad.2.2.2.2.2.2) else ((spec_l1Cur_one.f Aa Ad.2.2.2.2.2.1 Ad.2.2.2.2.2.2 30).bind fun Ac => (if Ac.1 = true then (spec_l1Cur_weavers.l0 k1 Ak (wrap64 ((wrap64 (Ae + 1)) + Af)) (wrap64 (Ah - 1)) Aa Ac.2.1 Ac.2.2) else (spec_l1Cur_weavers.l0 k1 Am (wrap64 ((wrap64 (Ae + 1)) + Af)) (wrap64 (Ah - 1)) Aa Ac.2.1 Ac.2.2)))))) else (none))) = some (r1, r2, r3) := by first | (rw [Bl]; with_reducible exact H) | (have H2_ := (Option.bind_some _ _).symm.trans H; rw [Bl]; with_reducible exact H2_) | (have H2_ := (Option.bind_some _ _).symm.trans H; with_reducible exact H2_) | with_reducible exact H | (rw [Bl]; exact H) | exact H
     have B4 := Aside0.mk Bl; clear Bl; replace H := Option.bind_eq_some_iff.mp H; obtain ⟨⟨Ay, Az, Ba, Bb, Bc, Aq, Ar⟩, Dj, H⟩ := H; replace H : (if Aw.length < 2932031007402 then ((some (Aw ++ [(⟨Ay, Az, Ba, Bb, Bc⟩ : S26)] : List (S26))).bind fun Ak => ((spec_l11Good.f k1 Ak).bind fun Bd => (if Bd = true then (spec_l1Cur_weavers.l0 k1 Ak (wrap64 ((wrap64 (Ae + 1)) + Af)) (wrap64 (Ah - 1)) Aa Aq Ar) else ((spec_l1Cur_one.f Aa Aq Ar 30).bind fun Ac => (if Ac.1 = true then (spec_l1Cur_weavers.l0 k1 Ak (wrap64 ((wrap64 (Ae + 1)) + Af)) (wrap64 (Ah - 1)) Aa Ac.2.1 Ac.2.2) else (spec_l1Cur_weavers.l0 k1 Am (wrap64 ((wrap64 (Ae + 1)) + Af)) (wrap64 (Ah - 1)) Aa Ac.2.1 Ac.2.2)))))) else (none)) = some (r1, r2, r3) := H; have A9 := Aside0.mk Dj; clear Dj
     by_cases Ch : Aw.length < 2932031007402
     ·rw [if_pos Ch] at H
      have LMc10 := Aside0.mk Ch; clear Ch; obtain ⟨Ak, Bm⟩ : ∃ y_ : List (S26), y_ = (Aw ++ [(⟨Ay, Az, Ba, Bb, Bc⟩ : S26)]) := ⟨_, rfl⟩
      replace H : ((spec_l11Good.f k1 Ak).bind fun Bd => (if Bd = true then (spec_l1Cur_weavers.l0 k1 Ak (wrap64 ((wrap64 (Ae + 1)) + Af)) (wrap64 (Ah - 1)) Aa Aq Ar) else ((spec_l1Cur_one.f Aa Aq Ar 30).bind fun Ac => (if Ac.1 = true then (spec_l1Cur_weavers.l0 k1 Ak (wrap64 ((wrap64 (Ae + 1)) + Af)) (wrap64 (Ah - 1)) Aa Ac.2.1 Ac.2.2) else (spec_l1Cur_weavers.l0 k1 Am (wrap64 ((wrap64 (Ae + 1)) + Af)) (wrap64 (Ah - 1)) Aa Ac.2.1 Ac.2.2))))) = some (r1, r2, r3) := by first | (rw [Bm]; with_reducible exact H) | (have H2_ := (Option.bind_some _ _).symm.trans H; rw [Bm]; with_reducible exact H2_) | (have H2_ := (Option.bind_some _ _).symm.trans H; with_reducible exact H2_) | with_reducible exact H | (rw [Bm]; exact H) | exact H
      have B6 := Aside0.mk Bm; clear Bm; replace H := Option.bind_eq_some_iff.mp H; obtain ⟨Bd, Ci, H⟩ := H; replace H : (if Bd = true then (spec_l1Cur_weavers.l0 k1 Ak (wrap64 ((wrap64 (Ae + 1)) + Af)) (wrap64 (Ah - 1)) Aa Aq Ar) else ((spec_l1Cur_one.f Aa Aq Ar 30).bind fun Ac => (if Ac.1 = true then (spec_l1Cur_weavers.l0 k1 Ak (wrap64 ((wrap64 (Ae + 1)) + Af)) (wrap64 (Ah - 1)) Aa Ac.2.1 Ac.2.2) else (spec_l1Cur_weavers.l0 k1 Am (wrap64 ((wrap64 (Ae + 1)) + Af)) (wrap64 (Ah - 1)) Aa Ac.2.1 Ac.2.2)))) = some (r1, r2, r3) := H; have C4 := Aside0.mk Ci; clear Ci
      by_cases Cj : Bd = true
      ·subst Cj
       have H1 : (spec_l1Cur_weavers.l0 k1 Ak (wrap64 ((wrap64 (Ae + 1)) + Af)) (wrap64 (Ah - 1)) Aa Aq Ar) = some (r1, r2, r3) := by rw [if_pos rfl] at H; exact H
       clear H; have H := H1; clear H1; have H' := Aside0.mk H; clear H
       go_wp2_with (first | ((with_reducible refine gate_callee (f := 93) rfl ?_); refine glE (some 18) Tryd.func93 #[.pointer (some ⟨g, 0, none⟩), .int .i64 3] ?_; (with_reducible refine (spec_l1Cur_pick.calls g Aa Ai Aj 3 Af Au Av w0 _ ?side1 ?side2 A7.out).mono ?_); (case side1 => exact Z2); (case side2 => exact Z6); rintro e Ds ⟨rfl, hi, hb, hk⟩; refine ⟨_, rfl, ?_⟩; replace Ab := aM (Kd.R_mono (Kd.R_keep (IsS85.apart (show IsS85 w0 _ g Aa Ai Aj from Z2) Z19 (by decide)) hk (fun _ h => h.2)) (fun _ h => h.1)); replace HK := aM (KeepBut.trans Z5 hk (.inl rfl)); replace HB := aM (hb); replace HI0 := aM (hi); (try clear hb); (try clear hk); (try clear hi)) | ((with_reducible refine gate_dst (N := 20) rfl ?_); refine Kd.R_lit k26 _ 26 ?hg (N := 20) ?hd (xs := ([] : List (S26))) (inner := []) (ok := fun _ => True) (okp := fun _ => True) ?hr ?hp (fun _ hk => hk) trivial (Below.refl _ _) (Nat.le_refl _) (by simp) ?_; (case hd => rfl); (case hg => rfl); (case hr => first | (go_simp; done) | (go_simp; rfl)); (case hp => exact (Reps.none _ _)); intro B7 Dt Bv hb hg_ hnew_; clear hg_ hnew_; (first | rw [← Bh.out] at Bv | (simp only [Int.reduceToNat] at Bv; rw [← Bh.out] at Bv)); have An := aM (Kd.R_lower (Kd.R_new' Bv (Kd.R_lt Z19)) (keep_size (w := w) (g := g) (row := none) Z5)); replace Ab := aM (Kd.R_elder' Z19 (Kd.R_base Bv) hb); replace HK := aM (KeepBut.trans Z5 (KeepBut.of_below hb g none) (.inl rfl)); replace HB := aM (below_step Z6 hb); replace HI0 := aM (IsS85.below Z2 hb); clear hb Bv; obtain ⟨Ck, Cl, C5⟩ := Kd.R_slice Ab.out; subst C5) | ((with_reducible refine gate_builtin (b := .append) (xs := #[.tmp 20, .tmp 21]) rfl ?_); at_builtin; refine Kd.R_append_rows k26 w.heap.size rfl (.tmp 20) (.tmp 21) 32 26 (.agg #[(.int .i64 0), (.string ⟨#[]⟩), (.int .i64 0), (.int .i64 0), (.int .i64 0)]) 48 rfl Tryd.underlying32 info26 rfl (by decide) (by omega) B7 Bg Am _ _ _ (fun k_ => nS k_ Ck Am.length Cl) (fun _ => False) rfl rfl ?aO ?aR (fun _ _ h => h) (fun _ h => h.elim) ?aF (Below.refl _ _) ?aS ?aL ?_; (case aR => repeat (first | exact (Kd.R_reads' Ab.out).2.2 | (with_reducible refine Kd.C_alloc ?_ _) | (with_reducible refine Kd.C_drewN ?_ _) | (with_reducible refine Kd.C_drew ?_))); (case aF => exact (fun k_ hk => Kd.fresh' (Kd.R_lt Z19) k_ hk)); (case aO => exact Z61); (case aS => exact (keep_size (w := w) (g := g) (row := none) Z5)); (case aL => have := LMc8.out; omega); intro B8 Du ho hb hg hat; rw [← B4.out] at ho; replace Ab := aM (Kd.R_after (ok := (fun _ => True)) Z19 hg hat); replace HB := aM (below_weaken Z6 HL.out hb); replace HI0 := aM (IsS85.grown Z2 hg (IsS85.own_ne HI0.out An.out (by decide))); replace HK := aM (KeepBut.trans Z5 (KeepBut.of_grown hg g) (Kd.R_base2 An.out)); have Al := aM (ho); clear An; clear ho hb hg hat) | ((with_reducible refine gate_callee (f := 94) rfl ?_); refine glE (some 25) Tryd.func94 #[.pointer (some ⟨g, 0, none⟩), .int .i64 (wrap64 ((wrap64 (Ae + 1)) + Af))] ?_; (with_reducible refine (spec_l1Cur_weaver.calls g Aa Au Av (wrap64 ((wrap64 (Ae + 1)) + Af)) Ay Az Ba Bb Bc Aq Ar w0 _ ?side1 ?side2 A9.out).mono ?_); (case side1 => exact Z2); (case side2 => exact Z6); rintro e Dv ⟨rfl, hi, hb, hk⟩; refine ⟨_, rfl, ?_⟩; replace Ab := aM (Kd.R_mono (Kd.R_keep (IsS85.apart (show IsS85 w0 _ g Aa Au Av from Z2) Z19 (by decide)) hk (fun _ h => h.2)) (fun _ h => h.1)); replace Al := aM (Kd.R_mono (Kd.R_keep (IsS85.apart (show IsS85 w0 _ g Aa Au Av from Z2) Z49 (by decide)) hk (fun _ h => h.2)) (fun _ h => h.1)); replace HK := aM (KeepBut.trans Z5 hk (.inl rfl)); replace HB := aM (hb); replace HI0 := aM (hi); (try clear hb); (try clear hk); (try clear hi)) | ((with_reducible refine gate_builtin (b := .append) (xs := #[.tmp 22, .tmp 26]) rfl ?_); at_builtin; refine Kd.R_append k26 w.heap.size rfl (.tmp 22) (.tmp 26) 32 26 (.agg #[(.int .i64 0), (.string ⟨#[]⟩), (.int .i64 0), (.int .i64 0), (.int .i64 0)]) 48 rfl Tryd.underlying32 info26 rfl (by decide) (by omega) B8 Aw (⟨Ay, Az, Ba, Bb, Bc⟩ : S26) [.int .i64 Ay, .string Az, .int .i64 Ba, .int .i64 Bb, .int .i64 Bc] (fun k_ => nS k_ Ck Am.length Cl) (fun _ => False) rfl rfl ?aP (fun _ hk => hk.elim) ?aF ?aO (Below.refl _ _) ?aS ?aL ?_; (case aP => exact k26_mkM _ _ _ (⟨Ay, Az, Ba, Bb, Bc⟩ : S26)); (case aF => exact (fun k_ hk => Kd.fresh' (Kd.R_lt Z19) k_ hk)); (case aO => exact Z49); (case aS => exact (keep_size (w := w) (g := g) (row := none) Z5)); (case aL => have := LMc10.out; omega); intro Cm Dw ho hb hg hat; rw [← B6.out] at ho; replace Ab := aM (Kd.R_after (ok := (fun _ => True)) Z19 hg hat); replace HB := aM (below_weaken Z6 HL.out hb); replace HI0 := aM (IsS85.grown Z2 hg (IsS85.own_ne HI0.out Al.out (by decide))); replace HK := aM (KeepBut.trans Z5 (KeepBut.of_grown hg g) (Kd.R_base2 Al.out)); have Ag := aM (ho); clear Al; clear ho hb hg hat; obtain ⟨C6, C7, C8⟩ := Kd.R_slice Ag.out; subst C8) | ((with_reducible refine gate_callee (f := 61) rfl ?_); refine glE (some 29) Tryd.func61 #[.slice C6 Ak.length C7] ?_; (with_reducible refine (spec_l11Good.calls k1 _ _ Ak true _ ?side1 ?side2 C4.out).mono ?_); (case side1 => exact Z31); (case side2 => exact (Kd.R_reads' Ag.out).2.1); rintro e Dx ⟨rfl, hb⟩; refine ⟨_, rfl, ?_⟩; replace Ab := roB Ab hb; replace Ag := roB Ag hb; replace HK := aM (KeepBut.trans Z5 (KeepBut.of_below hb g none) (.inl rfl)); replace HB := aM (below_step Z6 hb); replace HI0 := aM (IsS85.below Z2 hb); (try clear hb)))
       go_roundg k1
       case measure => have := HK1.out; omega
       case rel => exact ⟨(Ak), (wrap64 ((wrap64 (Ae + 1)) + Af)), (wrap64 (Ah - 1)), (Aq), (Ar), Z15, Z15, H', ⟨Z50⟩, ⟨Z94⟩, ⟨Z2⟩, ⟨Z5⟩, ⟨Z6⟩⟩
      ·replace Cj := Bool.eq_false_iff.mpr Cj
       subst Cj
       have H1 : ((spec_l1Cur_one.f Aa Aq Ar 30).bind fun Ac => (if Ac.1 = true then (spec_l1Cur_weavers.l0 k1 Ak (wrap64 ((wrap64 (Ae + 1)) + Af)) (wrap64 (Ah - 1)) Aa Ac.2.1 Ac.2.2) else (spec_l1Cur_weavers.l0 k1 Am (wrap64 ((wrap64 (Ae + 1)) + Af)) (wrap64 (Ah - 1)) Aa Ac.2.1 Ac.2.2))) = some (r1, r2, r3) := by rw [if_neg (show ¬ (false = true) by decide)] at H; exact H
       clear H; have H := H1; clear H1; replace H := Option.bind_eq_some_iff.mp H; obtain ⟨⟨Cn, Bn, Bo⟩, Co, H⟩ := H; replace H : (if Cn = true then (spec_l1Cur_weavers.l0 k1 Ak (wrap64 ((wrap64 (Ae + 1)) + Af)) (wrap64 (Ah - 1)) Aa Bn Bo) else (spec_l1Cur_weavers.l0 k1 Am (wrap64 ((wrap64 (Ae + 1)) + Af)) (wrap64 (Ah - 1)) Aa Bn Bo)) = some (r1, r2, r3) := H; have Dk := Aside0.mk Co; clear Co
       by_cases Cp : Cn = true
       ·subst Cp
        have H1 : (spec_l1Cur_weavers.l0 k1 Ak (wrap64 ((wrap64 (Ae + 1)) + Af)) (wrap64 (Ah - 1)) Aa Bn Bo) = some (r1, r2, r3) := by rw [if_pos rfl] at H; exact H
        clear H; have H := H1; clear H1; have H' := Aside0.mk H; clear H
        go_wp2_with (first | ((with_reducible refine gate_callee (f := 93) rfl ?_); refine glE (some 18) Tryd.func93 #[.pointer (some ⟨g, 0, none⟩), .int .i64 3] ?_; (with_reducible refine (spec_l1Cur_pick.calls g Aa Ai Aj 3 Af Au Av w0 _ ?side1 ?side2 A7.out).mono ?_); (case side1 => exact Z2); (case side2 => exact Z6); rintro e Dy ⟨rfl, hi, hb, hk⟩; refine ⟨_, rfl, ?_⟩; replace Ab := aM (Kd.R_mono (Kd.R_keep (IsS85.apart (show IsS85 w0 _ g Aa Ai Aj from Z2) Z19 (by decide)) hk (fun _ h => h.2)) (fun _ h => h.1)); replace HK := aM (KeepBut.trans Z5 hk (.inl rfl)); replace HB := aM (hb); replace HI0 := aM (hi); (try clear hb); (try clear hk); (try clear hi)) | ((with_reducible refine gate_dst (N := 20) rfl ?_); refine Kd.R_lit k26 _ 26 ?hg (N := 20) ?hd (xs := ([] : List (S26))) (inner := []) (ok := fun _ => True) (okp := fun _ => True) ?hr ?hp (fun _ hk => hk) trivial (Below.refl _ _) (Nat.le_refl _) (by simp) ?_; (case hd => rfl); (case hg => rfl); (case hr => first | (go_simp; done) | (go_simp; rfl)); (case hp => exact (Reps.none _ _)); intro B7 Dz Bw hb hg_ hnew_; clear hg_ hnew_; (first | rw [← Bh.out] at Bw | (simp only [Int.reduceToNat] at Bw; rw [← Bh.out] at Bw)); have An := aM (Kd.R_lower (Kd.R_new' Bw (Kd.R_lt Z19)) (keep_size (w := w) (g := g) (row := none) Z5)); replace Ab := aM (Kd.R_elder' Z19 (Kd.R_base Bw) hb); replace HK := aM (KeepBut.trans Z5 (KeepBut.of_below hb g none) (.inl rfl)); replace HB := aM (below_step Z6 hb); replace HI0 := aM (IsS85.below Z2 hb); clear hb Bw; obtain ⟨Cq, Cr, C9⟩ := Kd.R_slice Ab.out; subst C9) | ((with_reducible refine gate_builtin (b := .append) (xs := #[.tmp 20, .tmp 21]) rfl ?_); at_builtin; refine Kd.R_append_rows k26 w.heap.size rfl (.tmp 20) (.tmp 21) 32 26 (.agg #[(.int .i64 0), (.string ⟨#[]⟩), (.int .i64 0), (.int .i64 0), (.int .i64 0)]) 48 rfl Tryd.underlying32 info26 rfl (by decide) (by omega) B7 Bg Am _ _ _ (fun k_ => nS k_ Cq Am.length Cr) (fun _ => False) rfl rfl ?aO ?aR (fun _ _ h => h) (fun _ h => h.elim) ?aF (Below.refl _ _) ?aS ?aL ?_; (case aR => repeat (first | exact (Kd.R_reads' Ab.out).2.2 | (with_reducible refine Kd.C_alloc ?_ _) | (with_reducible refine Kd.C_drewN ?_ _) | (with_reducible refine Kd.C_drew ?_))); (case aF => exact (fun k_ hk => Kd.fresh' (Kd.R_lt Z19) k_ hk)); (case aO => exact Z61); (case aS => exact (keep_size (w := w) (g := g) (row := none) Z5)); (case aL => have := LMc8.out; omega); intro B8 D0 ho hb hg hat; rw [← B4.out] at ho; replace Ab := aM (Kd.R_after (ok := (fun _ => True)) Z19 hg hat); replace HB := aM (below_weaken Z6 HL.out hb); replace HI0 := aM (IsS85.grown Z2 hg (IsS85.own_ne HI0.out An.out (by decide))); replace HK := aM (KeepBut.trans Z5 (KeepBut.of_grown hg g) (Kd.R_base2 An.out)); have Al := aM (ho); clear An; clear ho hb hg hat) | ((with_reducible refine gate_callee (f := 94) rfl ?_); refine glE (some 25) Tryd.func94 #[.pointer (some ⟨g, 0, none⟩), .int .i64 (wrap64 ((wrap64 (Ae + 1)) + Af))] ?_; (with_reducible refine (spec_l1Cur_weaver.calls g Aa Au Av (wrap64 ((wrap64 (Ae + 1)) + Af)) Ay Az Ba Bb Bc Aq Ar w0 _ ?side1 ?side2 A9.out).mono ?_); (case side1 => exact Z2); (case side2 => exact Z6); rintro e D1 ⟨rfl, hi, hb, hk⟩; refine ⟨_, rfl, ?_⟩; replace Ab := aM (Kd.R_mono (Kd.R_keep (IsS85.apart (show IsS85 w0 _ g Aa Au Av from Z2) Z19 (by decide)) hk (fun _ h => h.2)) (fun _ h => h.1)); replace Al := aM (Kd.R_mono (Kd.R_keep (IsS85.apart (show IsS85 w0 _ g Aa Au Av from Z2) Z49 (by decide)) hk (fun _ h => h.2)) (fun _ h => h.1)); replace HK := aM (KeepBut.trans Z5 hk (.inl rfl)); replace HB := aM (hb); replace HI0 := aM (hi); (try clear hb); (try clear hk); (try clear hi)) | ((with_reducible refine gate_builtin (b := .append) (xs := #[.tmp 22, .tmp 26]) rfl ?_); at_builtin; refine Kd.R_append k26 w.heap.size rfl (.tmp 22) (.tmp 26) 32 26 (.agg #[(.int .i64 0), (.string ⟨#[]⟩), (.int .i64 0), (.int .i64 0), (.int .i64 0)]) 48 rfl Tryd.underlying32 info26 rfl (by decide) (by omega) B8 Aw (⟨Ay, Az, Ba, Bb, Bc⟩ : S26) [.int .i64 Ay, .string Az, .int .i64 Ba, .int .i64 Bb, .int .i64 Bc] (fun k_ => nS k_ Cq Am.length Cr) (fun _ => False) rfl rfl ?aP (fun _ hk => hk.elim) ?aF ?aO (Below.refl _ _) ?aS ?aL ?_; (case aP => exact k26_mkM _ _ _ (⟨Ay, Az, Ba, Bb, Bc⟩ : S26)); (case aF => exact (fun k_ hk => Kd.fresh' (Kd.R_lt Z19) k_ hk)); (case aO => exact Z49); (case aS => exact (keep_size (w := w) (g := g) (row := none) Z5)); (case aL => have := LMc10.out; omega); intro Cm D2 ho hb hg hat; rw [← B6.out] at ho; replace Ab := aM (Kd.R_after (ok := (fun _ => True)) Z19 hg hat); replace HB := aM (below_weaken Z6 HL.out hb); replace HI0 := aM (IsS85.grown Z2 hg (IsS85.own_ne HI0.out Al.out (by decide))); replace HK := aM (KeepBut.trans Z5 (KeepBut.of_grown hg g) (Kd.R_base2 Al.out)); have Ag := aM (ho); clear Al; clear ho hb hg hat; obtain ⟨Da, Db, Dc⟩ := Kd.R_slice Ag.out; subst Dc) | ((with_reducible refine gate_callee (f := 61) rfl ?_); refine glE (some 29) Tryd.func61 #[.slice Da Ak.length Db] ?_; (with_reducible refine (spec_l11Good.calls k1 _ _ Ak false _ ?side1 ?side2 C4.out).mono ?_); (case side1 => exact Z31); (case side2 => exact (Kd.R_reads' Ag.out).2.1); rintro e D3 ⟨rfl, hb⟩; refine ⟨_, rfl, ?_⟩; replace Ab := roB Ab hb; replace Ag := roB Ag hb; replace HK := aM (KeepBut.trans Z5 (KeepBut.of_below hb g none) (.inl rfl)); replace HB := aM (below_step Z6 hb); replace HI0 := aM (IsS85.below Z2 hb); (try clear hb)) | (go_at_call 104; (with_reducible refine (spec_l1Cur_one.calls g Aa Aq Ar 30 true Bn Bo w0 _ ?side1 ?side2 Dk.out).mono ?_); (case side1 => exact Z2); (case side2 => exact Z6); rintro e D4 ⟨rfl, hi, hb, hk⟩; replace Ab := aM (Kd.R_mono (Kd.R_keep (IsS85.apart (show IsS85 w0 _ g Aa Aq Ar from Z2) Z19 (by decide)) hk (fun _ h => h.2)) (fun _ h => h.1)); replace Ag := aM (Kd.R_mono (Kd.R_keep (IsS85.apart (show IsS85 w0 _ g Aa Aq Ar from Z2) Z14 (by decide)) hk (fun _ h => h.2)) (fun _ h => h.1)); replace HK := aM (KeepBut.trans Z5 hk (.inl rfl)); replace HB := aM (hb); replace HI0 := aM (hi); (try clear hb); (try clear hk); (try clear hi)))
        go_roundg k1
        case measure => have := HK1.out; omega
        case rel => exact ⟨(Ak), (wrap64 ((wrap64 (Ae + 1)) + Af)), (wrap64 (Ah - 1)), (Bn), (Bo), Z15, Z15, H', ⟨Z50⟩, ⟨Z94⟩, ⟨Z2⟩, ⟨Z5⟩, ⟨Z6⟩⟩
       ·replace Cp := Bool.eq_false_iff.mpr Cp
        subst Cp
        have H1 : (spec_l1Cur_weavers.l0 k1 Am (wrap64 ((wrap64 (Ae + 1)) + Af)) (wrap64 (Ah - 1)) Aa Bn Bo) = some (r1, r2, r3) := by rw [if_neg (show ¬ (false = true) by decide)] at H; exact H
        clear H; have H := H1; clear H1; have H' := Aside0.mk H; clear H
        go_wp2_with (first | ((with_reducible refine gate_callee (f := 93) rfl ?_); refine glE (some 18) Tryd.func93 #[.pointer (some ⟨g, 0, none⟩), .int .i64 3] ?_; (with_reducible refine (spec_l1Cur_pick.calls g Aa Ai Aj 3 Af Au Av w0 _ ?side1 ?side2 A7.out).mono ?_); (case side1 => exact Z2); (case side2 => exact Z6); rintro e D5 ⟨rfl, hi, hb, hk⟩; refine ⟨_, rfl, ?_⟩; replace Ab := aM (Kd.R_mono (Kd.R_keep (IsS85.apart (show IsS85 w0 _ g Aa Ai Aj from Z2) Z19 (by decide)) hk (fun _ h => h.2)) (fun _ h => h.1)); replace HK := aM (KeepBut.trans Z5 hk (.inl rfl)); replace HB := aM (hb); replace HI0 := aM (hi); (try clear hb); (try clear hk); (try clear hi)) | ((with_reducible refine gate_dst (N := 20) rfl ?_); refine Kd.R_lit k26 _ 26 ?hg (N := 20) ?hd (xs := ([] : List (S26))) (inner := []) (ok := fun _ => True) (okp := fun _ => True) ?hr ?hp (fun _ hk => hk) trivial (Below.refl _ _) (Nat.le_refl _) (by simp) ?_; (case hd => rfl); (case hg => rfl); (case hr => first | (go_simp; done) | (go_simp; rfl)); (case hp => exact (Reps.none _ _)); intro B7 D6 Bx hb hg_ hnew_; clear hg_ hnew_; (first | rw [← Bh.out] at Bx | (simp only [Int.reduceToNat] at Bx; rw [← Bh.out] at Bx)); have An := aM (Kd.R_lower (Kd.R_new' Bx (Kd.R_lt Z19)) (keep_size (w := w) (g := g) (row := none) Z5)); replace Ab := aM (Kd.R_elder' Z19 (Kd.R_base Bx) hb); replace HK := aM (KeepBut.trans Z5 (KeepBut.of_below hb g none) (.inl rfl)); replace HB := aM (below_step Z6 hb); replace HI0 := aM (IsS85.below Z2 hb); clear hb Bx; obtain ⟨Cs, Ct, Dd⟩ := Kd.R_slice Ab.out; subst Dd) | ((with_reducible refine gate_builtin (b := .append) (xs := #[.tmp 20, .tmp 21]) rfl ?_); at_builtin; refine Kd.R_append_rows k26 w.heap.size rfl (.tmp 20) (.tmp 21) 32 26 (.agg #[(.int .i64 0), (.string ⟨#[]⟩), (.int .i64 0), (.int .i64 0), (.int .i64 0)]) 48 rfl Tryd.underlying32 info26 rfl (by decide) (by omega) B7 Bg Am _ _ _ (fun k_ => nS k_ Cs Am.length Ct) (fun _ => False) rfl rfl ?aO ?aR (fun _ _ h => h) (fun _ h => h.elim) ?aF (Below.refl _ _) ?aS ?aL ?_; (case aR => repeat (first | exact (Kd.R_reads' Ab.out).2.2 | (with_reducible refine Kd.C_alloc ?_ _) | (with_reducible refine Kd.C_drewN ?_ _) | (with_reducible refine Kd.C_drew ?_))); (case aF => exact (fun k_ hk => Kd.fresh' (Kd.R_lt Z19) k_ hk)); (case aO => exact Z61); (case aS => exact (keep_size (w := w) (g := g) (row := none) Z5)); (case aL => have := LMc8.out; omega); intro B8 D7 ho hb hg hat; rw [← B4.out] at ho; replace Ab := aM (Kd.R_after (ok := (fun _ => True)) Z19 hg hat); replace HB := aM (below_weaken Z6 HL.out hb); replace HI0 := aM (IsS85.grown Z2 hg (IsS85.own_ne HI0.out An.out (by decide))); replace HK := aM (KeepBut.trans Z5 (KeepBut.of_grown hg g) (Kd.R_base2 An.out)); have Al := aM (ho); clear An; clear ho hb hg hat) | ((with_reducible refine gate_callee (f := 94) rfl ?_); refine glE (some 25) Tryd.func94 #[.pointer (some ⟨g, 0, none⟩), .int .i64 (wrap64 ((wrap64 (Ae + 1)) + Af))] ?_; (with_reducible refine (spec_l1Cur_weaver.calls g Aa Au Av (wrap64 ((wrap64 (Ae + 1)) + Af)) Ay Az Ba Bb Bc Aq Ar w0 _ ?side1 ?side2 A9.out).mono ?_); (case side1 => exact Z2); (case side2 => exact Z6); rintro e D8 ⟨rfl, hi, hb, hk⟩; refine ⟨_, rfl, ?_⟩; replace Ab := aM (Kd.R_mono (Kd.R_keep (IsS85.apart (show IsS85 w0 _ g Aa Au Av from Z2) Z19 (by decide)) hk (fun _ h => h.2)) (fun _ h => h.1)); replace Al := aM (Kd.R_mono (Kd.R_keep (IsS85.apart (show IsS85 w0 _ g Aa Au Av from Z2) Z49 (by decide)) hk (fun _ h => h.2)) (fun _ h => h.1)); replace HK := aM (KeepBut.trans Z5 hk (.inl rfl)); replace HB := aM (hb); replace HI0 := aM (hi); (try clear hb); (try clear hk); (try clear hi)) | ((with_reducible refine gate_builtin (b := .append) (xs := #[.tmp 22, .tmp 26]) rfl ?_); at_builtin; refine Kd.R_append k26 w.heap.size rfl (.tmp 22) (.tmp 26) 32 26 (.agg #[(.int .i64 0), (.string ⟨#[]⟩), (.int .i64 0), (.int .i64 0), (.int .i64 0)]) 48 rfl Tryd.underlying32 info26 rfl (by decide) (by omega) B8 Aw (⟨Ay, Az, Ba, Bb, Bc⟩ : S26) [.int .i64 Ay, .string Az, .int .i64 Ba, .int .i64 Bb, .int .i64 Bc] (fun k_ => nS k_ Cs Am.length Ct) (fun _ => False) rfl rfl ?aP (fun _ hk => hk.elim) ?aF ?aO (Below.refl _ _) ?aS ?aL ?_; (case aP => exact k26_mkM _ _ _ (⟨Ay, Az, Ba, Bb, Bc⟩ : S26)); (case aF => exact (fun k_ hk => Kd.fresh' (Kd.R_lt Z19) k_ hk)); (case aO => exact Z49); (case aS => exact (keep_size (w := w) (g := g) (row := none) Z5)); (case aL => have := LMc10.out; omega); intro Cm D9 ho hb hg hat; rw [← B6.out] at ho; replace Ab := aM (Kd.R_after (ok := (fun _ => True)) Z19 hg hat); replace HB := aM (below_weaken Z6 HL.out hb); replace HI0 := aM (IsS85.grown Z2 hg (IsS85.own_ne HI0.out Al.out (by decide))); replace HK := aM (KeepBut.trans Z5 (KeepBut.of_grown hg g) (Kd.R_base2 Al.out)); have Ag := aM (ho); clear Al; clear ho hb hg hat; obtain ⟨De, Df, Dg⟩ := Kd.R_slice Ag.out; subst Dg) | ((with_reducible refine gate_callee (f := 61) rfl ?_); refine glE (some 29) Tryd.func61 #[.slice De Ak.length Df] ?_; (with_reducible refine (spec_l11Good.calls k1 _ _ Ak false _ ?side1 ?side2 C4.out).mono ?_); (case side1 => exact Z31); (case side2 => exact (Kd.R_reads' Ag.out).2.1); rintro e Ea ⟨rfl, hb⟩; refine ⟨_, rfl, ?_⟩; replace Ab := roB Ab hb; replace Ag := roB Ag hb; replace HK := aM (KeepBut.trans Z5 (KeepBut.of_below hb g none) (.inl rfl)); replace HB := aM (below_step Z6 hb); replace HI0 := aM (IsS85.below Z2 hb); (try clear hb)) | (go_at_call 104; (with_reducible refine (spec_l1Cur_one.calls g Aa Aq Ar 30 false Bn Bo w0 _ ?side1 ?side2 Dk.out).mono ?_); (case side1 => exact Z2); (case side2 => exact Z6); rintro e Eb ⟨rfl, hi, hb, hk⟩; replace Ab := aM (Kd.R_mono (Kd.R_keep (IsS85.apart (show IsS85 w0 _ g Aa Aq Ar from Z2) Z19 (by decide)) hk (fun _ h => h.2)) (fun _ h => h.1)); replace Ag := aM (Kd.R_mono (Kd.R_keep (IsS85.apart (show IsS85 w0 _ g Aa Aq Ar from Z2) Z14 (by decide)) hk (fun _ h => h.2)) (fun _ h => h.1)); replace HK := aM (KeepBut.trans Z5 hk (.inl rfl)); replace HB := aM (hb); replace HI0 := aM (hi); (try clear hb); (try clear hk); (try clear hi)))
        go_roundg k1
        case measure => have := HK1.out; omega
        case rel => exact ⟨(Am), (wrap64 ((wrap64 (Ae + 1)) + Af)), (wrap64 (Ah - 1)), (Bn), (Bo), Z15, Z15, H', ⟨Z50⟩, ⟨by (with_reducible repeat (first | apply Kd.R_alloc | apply Kd.R_drewN | apply Kd.R_drew)); exact Kd.R_mono Ab.out (fun _ hk => trivial)⟩, ⟨Z2⟩, ⟨Z5⟩, ⟨Z6⟩⟩
     ·rw [if_neg Ch] at H
      exact absurd H (by simp)
    ·rw [if_neg c8] at H
     exact absurd H (by simp)
   ·rw [if_neg c6] at H
    have c6b0 : decide (0 < Ah) = false := decide_eq_false c6; clear c6; replace H := Option.bind_eq_some_iff.mp H; obtain ⟨⟨Cu, Bp, Bq⟩, Cv, H⟩ := H; replace H : (if Cu = true then (spec_l1Cur_weavers.l1 k1 (([] : List (S26))) 0 Aa Bp Bq) else (some (Am, Bp, Bq))) = some (r1, r2, r3) := H; have Dl := Aside0.mk Cv; clear Cv
    by_cases Cw : Cu = true
    ·subst Cw
     have H1 : (spec_l1Cur_weavers.l1 k1 (([] : List (S26))) 0 Aa Bp Bq) = some (r1, r2, r3) := by rw [if_pos rfl] at H; exact H
     clear H; have H := H1; clear H1; obtain ⟨Cx, Br⟩ : ∃ y_ : List (S26), y_ = (([] : List (S26))) := ⟨_, rfl⟩
     replace H : (spec_l1Cur_weavers.l1 k1 Cx 0 Aa Bp Bq) = some (r1, r2, r3) := by first | (rw [Br]; with_reducible exact H) | (have H2_ := (Option.bind_some _ _).symm.trans H; rw [Br]; with_reducible exact H2_) | (have H2_ := (Option.bind_some _ _).symm.trans H; with_reducible exact H2_) | with_reducible exact H | (rw [Br]; exact H) | exact H
     have Ca := Aside0.mk Br; clear Br; have H' := Aside0.mk H; clear H
     go_wp2_with (first | ((with_reducible refine gate_callee (f := 104) rfl ?_); refine glE (some 36) Tryd.func104 #[.pointer (some ⟨g, 0, none⟩), .int .i64 24] ?_; (with_reducible refine (spec_l1Cur_one.calls g Aa Ai Aj 24 true Bp Bq w0 _ ?side1 ?side2 Dl.out).mono ?_); (case side1 => exact Z2); (case side2 => exact Z6); rintro e Ec ⟨rfl, hi, hb, hk⟩; refine ⟨_, rfl, ?_⟩; replace Ab := aM (Kd.R_mono (Kd.R_keep (IsS85.apart (show IsS85 w0 _ g Aa Ai Aj from Z2) Z19 (by decide)) hk (fun _ h => h.2)) (fun _ h => h.1)); replace HK := aM (KeepBut.trans Z5 hk (.inl rfl)); replace HB := aM (hb); replace HI0 := aM (hi); (try clear hb); (try clear hk); (try clear hi)) | ((with_reducible refine gate_dst (N := 37) rfl ?_); refine Kd.R_lit k26 _ 26 ?hg (N := 37) ?hd (xs := ([] : List (S26))) (inner := []) (ok := fun _ => True) (okp := fun _ => True) ?hr ?hp (fun _ hk => hk) trivial (Below.refl _ _) (Nat.le_refl _) (by simp) ?_; (case hd => rfl); (case hg => rfl); (case hr => first | (go_simp; done) | (go_simp; rfl)); (case hp => exact (Reps.none _ _)); intro Dp Ed Bz hb hg_ hnew_; clear hg_ hnew_; (first | rw [← Ca.out] at Bz | (simp only [Int.reduceToNat] at Bz; rw [← Ca.out] at Bz)); have Cy := aM (Kd.R_lower (Kd.R_new' Bz (Kd.R_lt Z19)) (keep_size (w := w) (g := g) (row := none) Z5)); replace Ab := aM (Kd.R_elder' Z19 (Kd.R_base Bz) hb); replace HK := aM (KeepBut.trans Z5 (KeepBut.of_below hb g none) (.inl rfl)); replace HB := aM (below_step Z6 hb); replace HI0 := aM (IsS85.below Z2 hb); clear hb Bz))
     go_loopg [3, 7] k1 (fun kq v3 v7 w' => ∃ (Bi : List (S26)) (Ax : Int) (Ao : Int) (Ap : Int), v7 = .int .i64 Ax ∧ Aside0 (spec_l1Cur_weavers.l1 kq Bi Ax Aa Ao Ap = some (r1, r2, r3)) ∧ Aside0 (kq ≤ k1) ∧ Aside0 (Kd.R k26 26 w' w.heap.size (fun _ => True) v3 Bi) ∧ Aside0 (IsS85 w0 w' g Aa Ao Ap) ∧ Aside0 (KeepBut w w' g none) ∧ Aside0 (Below w0.heap.size w0 w'))
     case atStart => exact ⟨(Cx), (0), (Bp), (Bq), Z15, H', ⟨Nat.le_refl _⟩, ⟨by (with_reducible repeat (first | apply Kd.R_alloc | apply Kd.R_drewN | apply Kd.R_drew)); exact Kd.R_mono Cy.out (fun _ hk => trivial)⟩, ⟨Z2⟩, ⟨Z5⟩, ⟨Z6⟩⟩
     case round =>
      clear H'; (try clear c1); (try clear c2); (try clear p2); (try clear c4); (try clear c6); (try clear c6b0); (try clear p6); (try clear c8); (try clear c9); (try clear Ch); (try clear Cj); (try clear Cp); (try clear Cw); (try clear p2); obtain ⟨Bi, Ax, Ao, Ap, rfl, HA, HK2, Ab, HI0, HK, HB⟩ := hrel; cases gk with
      | zero => exact absurd HA.out (by simp [spec_l1Cur_weavers.l1])
      | succ k2 =>
       have H := HA.out; clear HA
       simp only [spec_l1Cur_weavers.l1] at H
       replace H := Option.bind_eq_some_iff.mp H; obtain ⟨⟨B0, B1, B2⟩, Cz, H⟩ := H; replace H : (if Ax < (wrap64 (8 + B0)) then (if Bi.length < 2932031007402 then (spec_l1Cur_weavers.l1 k2 (Bi ++ [(⟨wrap64 (Ax + 1), (⟨#[120]⟩ : ByteArray), 1, 500, 0⟩ : S26)]) (wrap64 (Ax + 1)) Aa B1 B2) else (none)) else (some (Bi, B1, B2))) = some (r1, r2, r3) := H; have Dm := Aside0.mk Cz; clear Cz
       by_cases Cf : Ax < (wrap64 (8 + B0))
       ·rw [if_pos Cf] at H
        have c50b0 : decide (Ax < (wrap64 (8 + B0))) = true := decide_eq_true Cf; clear Cf
        by_cases C3 : Bi.length < 2932031007402
        ·rw [if_pos C3] at H
         have LMc51 := Aside0.mk C3; clear C3; obtain ⟨C0, Bs⟩ : ∃ y_ : List (S26), y_ = (Bi ++ [(⟨wrap64 (Ax + 1), (⟨#[120]⟩ : ByteArray), 1, 500, 0⟩ : S26)]) := ⟨_, rfl⟩
         replace H : (spec_l1Cur_weavers.l1 k2 C0 (wrap64 (Ax + 1)) Aa B1 B2) = some (r1, r2, r3) := by first | (rw [Bs]; with_reducible exact H) | (have H2_ := (Option.bind_some _ _).symm.trans H; rw [Bs]; with_reducible exact H2_) | (have H2_ := (Option.bind_some _ _).symm.trans H; with_reducible exact H2_) | with_reducible exact H | (rw [Bs]; exact H) | exact H
         have C1 := Aside0.mk Bs; clear Bs; have H' := Aside0.mk H; clear H
         go_wp2_with (first | ((with_reducible refine gate_callee (f := 93) rfl ?_); refine glE (some 40) Tryd.func93 #[.pointer (some ⟨g, 0, none⟩), .int .i64 2] ?_; (with_reducible refine (spec_l1Cur_pick.calls g Aa Ao Ap 2 B0 B1 B2 w0 _ ?side1 ?side2 Dm.out).mono ?_); (case side1 => exact Z2); (case side2 => exact Z6); rintro e Ee ⟨rfl, hi, hb, hk⟩; refine ⟨_, rfl, ?_⟩; replace Ab := aM (Kd.R_mono (Kd.R_keep (IsS85.apart (show IsS85 w0 _ g Aa Ao Ap from Z2) Z19 (by decide)) hk (fun _ h => h.2)) (fun _ h => h.1)); replace HK := aM (KeepBut.trans Z5 hk (.inl rfl)); replace HB := aM (hb); replace HI0 := aM (hi); (try clear hb); (try clear hk); (try clear hi)) | ((with_reducible refine gate_builtin (b := .append) (xs := #[.tmp 45, .tmp 49]) rfl ?_); at_builtin; refine Kd.R_append k26 w.heap.size rfl (.tmp 45) (.tmp 49) 32 26 (.agg #[(.int .i64 0), (.string ⟨#[]⟩), (.int .i64 0), (.int .i64 0), (.int .i64 0)]) 48 rfl Tryd.underlying32 info26 rfl (by decide) (by omega) u3 Bi (⟨wrap64 (Ax + 1), (⟨#[120]⟩ : ByteArray), 1, 500, 0⟩ : S26) [.int .i64 (wrap64 (Ax + 1)), .string (⟨#[120]⟩ : ByteArray), .int .i64 1, .int .i64 500, .int .i64 0] (fun _ => True) (fun _ => False) rfl rfl ?aP (fun _ hk => hk.elim) ?aF ?aO (Below.refl _ _) ?aS ?aL ?_; (case aP => exact k26_mkM _ _ _ (⟨wrap64 (Ax + 1), (⟨#[120]⟩ : ByteArray), 1, 500, 0⟩ : S26)); (case aF => exact (fun _ _ => trivial)); (case aO => exact Z19); (case aS => exact (keep_size (w := w) (g := g) (row := none) Z5)); (case aL => have := LMc51.out; omega); intro Dq Ef ho hb hg hat; rw [← C1.out] at ho; replace HB := aM (below_weaken Z6 HL.out hb); replace HI0 := aM (IsS85.grown Z2 hg (IsS85.own_ne HI0.out Ab.out (by decide))); replace HK := aM (KeepBut.trans Z5 (KeepBut.of_grown hg g) (Kd.R_base2 Ab.out)); have C2 := aM (ho); clear Ab; clear ho hb hg hat))
         go_roundg k2
         case measure => have := HK1.out; have := HK2.out; omega
         case rel => exact ⟨(C0), (wrap64 (Ax + 1)), (B1), (B2), Z15, H', ⟨by have := HK1.out; have := HK2.out; omega⟩, ⟨by (with_reducible repeat (first | apply Kd.R_alloc | apply Kd.R_drewN | apply Kd.R_drew)); exact C2.out⟩, ⟨Z2⟩, ⟨Z5⟩, ⟨Z6⟩⟩
        ·rw [if_neg C3] at H
         exact absurd H (by simp)
       ·rw [if_neg Cf] at H
        have c50b0 : decide (Ax < (wrap64 (8 + B0))) = false := decide_eq_false Cf; clear Cf
        simp only [Option.some.injEq, Prod.mk.injEq] at H
        obtain ⟨rfl, rfl, rfl⟩ := H
        go_wp2_with (first | ((with_reducible refine gate_callee (f := 93) rfl ?_); refine glE (some 40) Tryd.func93 #[.pointer (some ⟨g, 0, none⟩), .int .i64 2] ?_; (with_reducible refine (spec_l1Cur_pick.calls g Aa Ao Ap 2 B0 B1 B2 w0 _ ?side1 ?side2 Dm.out).mono ?_); (case side1 => exact Z2); (case side2 => exact Z6); rintro e Eg ⟨rfl, hi, hb, hk⟩; refine ⟨_, rfl, ?_⟩; replace Ab := aM (Kd.R_mono (Kd.R_keep (IsS85.apart (show IsS85 w0 _ g Aa Ao Ap from Z2) Z19 (by decide)) hk (fun _ h => h.2)) (fun _ h => h.1)); replace HK := aM (KeepBut.trans Z5 hk (.inl rfl)); replace HB := aM (hb); replace HI0 := aM (hi); (try clear hb); (try clear hk); (try clear hi)))
        go_ret
        exact ⟨_, Z13, Z19, Z2, Z6, Z5⟩
    ·replace Cw := Bool.eq_false_iff.mpr Cw
     subst Cw
     have H1 : (some (Am, Bp, Bq)) = some (r1, r2, r3) := by rw [if_neg (show ¬ (false = true) by decide)] at H; exact H
     clear H; have H := H1; clear H1
     simp only [Option.some.injEq, Prod.mk.injEq] at H
     obtain ⟨rfl, rfl, rfl⟩ := H
     go_wp2_with (first | ((with_reducible refine gate_callee (f := 104) rfl ?_); refine glE (some 36) Tryd.func104 #[.pointer (some ⟨g, 0, none⟩), .int .i64 24] ?_; (with_reducible refine (spec_l1Cur_one.calls g Aa Ai Aj 24 false Bp Bq w0 _ ?side1 ?side2 Dl.out).mono ?_); (case side1 => exact Z2); (case side2 => exact Z6); rintro e Eh ⟨rfl, hi, hb, hk⟩; refine ⟨_, rfl, ?_⟩; replace Ab := aM (Kd.R_mono (Kd.R_keep (IsS85.apart (show IsS85 w0 _ g Aa Ai Aj from Z2) Z19 (by decide)) hk (fun _ h => h.2)) (fun _ h => h.1)); replace HK := aM (KeepBut.trans Z5 hk (.inl rfl)); replace HB := aM (hb); replace HI0 := aM (hi); (try clear hb); (try clear hk); (try clear hi)))
     go_ret
     exact ⟨_, Z13, Z19, Z2, Z6, Z5⟩
def spec_l1Cur_loom11.f (s0_0 : List Int) (s0_1 : Int) (s0_2 : Int) : Option (Int × Int × Int) := (some (([3, 3, 4, 99, 50, 0, 100] : List Int) : List Int)).bind fun y336 => ((spec_l1Cur_pick.f s0_0 s0_1 s0_2 24).bind fun bt339 => (if 0 ≤ (wrap64 (5 + (wrap64 (Int.tdiv bt339.1 11)))) then (if (wrap64 (5 + (wrap64 (Int.tdiv bt339.1 11)))) ≤ (y336.length : Int) then ((spec_l1Cur_among.f s0_0 bt339.2.1 bt339.2.2 (y336.take ((wrap64 (5 + (wrap64 (Int.tdiv bt339.1 11)))) : Int).toNat)).bind fun bt346 => (some (bt346.1, bt346.2.1, bt346.2.2))) else (none)) else (none)))
theorem spec_l1Cur_loom11.calls (g : Nat) (Ad : List Int) (Ah : Int) (Ai : Int) (r1 : Int) (r2 : Int) (r3 : Int) (w0 w : World) (hI : IsS85 w0 w g Ad Ah Ai) (hB : Below w0.heap.size w0 w) (h : spec_l1Cur_loom11.f Ad Ah Ai = some (r1, r2, r3)) :
  Calls Tryd.prog 95 #[.pointer (some ⟨g, 0, none⟩)] w fun e w' => e = .returned (.int .i64 r1) ∧ IsS85 w0 w' g Ad r2 r3 ∧ Below w0.heap.size w0 w' ∧ KeepBut w w' g none := by
 have HI0 := Aside0.mk hI; have HK := aM (KeepBut.refl w g none); have HL := Aside0.mk hB.size; clear hI; have Bh := Aside0.mk hB.size; have HB := Aside0.mk hB; clear hB; have H : ((some (([3, 3, 4, 99, 50, 0, 100] : List Int) : List Int)).bind fun Ab => ((spec_l1Cur_pick.f Ad Ah Ai 24).bind fun Ac => (if 0 ≤ (wrap64 (5 + (wrap64 (Int.tdiv Ac.1 11)))) then (if (wrap64 (5 + (wrap64 (Int.tdiv Ac.1 11)))) ≤ (Ab.length : Int) then ((spec_l1Cur_among.f Ad Ac.2.1 Ac.2.2 (Ab.take ((wrap64 (5 + (wrap64 (Int.tdiv Ac.1 11)))) : Int).toNat)).bind fun Aa => (some (Aa.1, Aa.2.1, Aa.2.2))) else (none)) else (none)))) = some (r1, r2, r3) := h; clear h; obtain ⟨Ab, Af⟩ : ∃ y_ : List Int, y_ = (([3, 3, 4, 99, 50, 0, 100] : List Int)) := ⟨_, rfl⟩
 replace H : ((spec_l1Cur_pick.f Ad Ah Ai 24).bind fun Ac => (if 0 ≤ (wrap64 (5 + (wrap64 (Int.tdiv Ac.1 11)))) then (if (wrap64 (5 + (wrap64 (Int.tdiv Ac.1 11)))) ≤ (Ab.length : Int) then ((spec_l1Cur_among.f Ad Ac.2.1 Ac.2.2 (Ab.take ((wrap64 (5 + (wrap64 (Int.tdiv Ac.1 11)))) : Int).toNat)).bind fun Aa => (some (Aa.1, Aa.2.1, Aa.2.2))) else (none)) else (none))) = some (r1, r2, r3) := by first | (rw [Af]; with_reducible exact H) | (have H2_ := (Option.bind_some _ _).symm.trans H; rw [Af]; with_reducible exact H2_) | (have H2_ := (Option.bind_some _ _).symm.trans H; with_reducible exact H2_) | with_reducible exact H | (rw [Af]; exact H) | exact H
 have Ao := Aside0.mk Af; clear Af; replace H := Option.bind_eq_some_iff.mp H; obtain ⟨⟨Aj, Ak, Al⟩, Bd, H⟩ := H; replace H : (if 0 ≤ (wrap64 (5 + (wrap64 (Int.tdiv Aj 11)))) then (if (wrap64 (5 + (wrap64 (Int.tdiv Aj 11)))) ≤ (Ab.length : Int) then ((spec_l1Cur_among.f Ad Ak Al (Ab.take ((wrap64 (5 + (wrap64 (Int.tdiv Aj 11)))) : Int).toNat)).bind fun Aa => (some (Aa.1, Aa.2.1, Aa.2.2))) else (none)) else (none)) = some (r1, r2, r3) := H; have A2 := Aside0.mk Bd; clear Bd; obtain ⟨ji3, hji3⟩ : ∃ j_ : Int, (wrap64 (5 + (wrap64 (Int.tdiv Aj 11)))) = j_ := ⟨_, rfl⟩
 replace H : (if 0 ≤ (ji3) then (if (ji3) ≤ (Ab.length : Int) then ((spec_l1Cur_among.f Ad Ak Al (Ab.take ((ji3) : Int).toNat)).bind fun Aa => (some (Aa.1, Aa.2.1, Aa.2.2))) else (none)) else (none)) = some (r1, r2, r3) := by first | (rw [hji3] at H; exact H) | (simp only [hji3] at H ⊢; exact H)
 (try rw [hji3] at A2)
 have hji3w : (IntKind.i64.wrap (5 + (wrap64 (Int.tdiv Aj 11)))) = ji3 := (i64_w _).trans hji3
 by_cases c4 : 0 ≤ (ji3)
 ·rw [if_pos c4] at H
  have c4b0 := eq_true c4; have c4b1 : decide (0 ≤ (ji3)) = true := decide_eq_true c4; clear c4
  by_cases c5 : (ji3) ≤ (Ab.length : Int)
  ·rw [if_pos c5] at H
   have c5b0 := eq_true c5; have c5b1 : decide ((ji3) ≤ (Ab.length : Int)) = true := decide_eq_true c5; clear c5; obtain ⟨Am, Ag⟩ : ∃ y_ : List Int, y_ = (Ab.take ((ji3) : Int).toNat) := ⟨_, rfl⟩
   replace H : ((spec_l1Cur_among.f Ad Ak Al Am).bind fun Aa => (some (Aa.1, Aa.2.1, Aa.2.2))) = some (r1, r2, r3) := by first | (rw [Ag]; with_reducible exact H) | (have H2_ := (Option.bind_some _ _).symm.trans H; rw [Ag]; with_reducible exact H2_) | (have H2_ := (Option.bind_some _ _).symm.trans H; with_reducible exact H2_) | with_reducible exact H | (rw [Ag]; exact H) | exact H
   have Ap := Aside0.mk Ag; clear Ag; replace H := Option.bind_eq_some_iff.mp H; obtain ⟨⟨Aw, Ax, Ay⟩, Bf, H⟩ := H; replace H : (some (Aw, Ax, Ay)) = some (r1, r2, r3) := H; have A6 := Aside0.mk Bf; clear Bf
   simp only [Option.some.injEq, Prod.mk.injEq] at H
   obtain ⟨rfl, rfl, rfl⟩ := H
   go_enter Tryd.func95, Tryd.ntmps95
   go_wp2_with (first | ((with_reducible refine gate_dst (N := 4) rfl ?_); refine Kd.R_lit (Kd.int .i64) _ 3 ?hg (N := 4) ?hd (xs := ([3, 3, 4, 99, 50, 0, 100] : List Int)) (inner := [.int .i64 3, .int .i64 3, .int .i64 4, .int .i64 99, .int .i64 50, .int .i64 0, .int .i64 100]) (ok := fun _ => True) (okp := fun _ => True) ?hr ?hp (fun _ hk => hk) trivial (Below.refl _ _) (Nat.le_refl _) (by simp) ?_; (case hd => rfl); (case hg => rfl); (case hr => first | (go_simp; done) | (go_simp; rfl)); (case hp => exact (Reps.one (show Kd.M (Kd.int .i64) _ _ _ 3 [.int .i64 3] from rfl) (Reps.one (show Kd.M (Kd.int .i64) _ _ _ 3 [.int .i64 3] from rfl) (Reps.one (show Kd.M (Kd.int .i64) _ _ _ 4 [.int .i64 4] from rfl) (Reps.one (show Kd.M (Kd.int .i64) _ _ _ 99 [.int .i64 99] from rfl) (Reps.one (show Kd.M (Kd.int .i64) _ _ _ 50 [.int .i64 50] from rfl) (Reps.one (show Kd.M (Kd.int .i64) _ _ _ 0 [.int .i64 0] from rfl) (Reps.one (show Kd.M (Kd.int .i64) _ _ _ 100 [.int .i64 100] from rfl) (Reps.none _ _))))))))); intro Bg w7 Az hb hg_ hnew_; clear hg_ hnew_; (first | rw [← Ao.out] at Az | (simp only [Int.reduceToNat] at Az; rw [← Ao.out] at Az)); have Ae := aM (Kd.R_lower Az (keep_size (w := w) (g := g) (row := none) Z5)); replace HK := aM (KeepBut.trans Z5 (KeepBut.of_below hb g none) (.inl rfl)); replace HB := aM (below_step Z6 hb); replace HI0 := aM (IsS85.below Z2 hb); clear hb Az) | ((with_reducible refine gate_callee (f := 93) rfl ?_); refine glE (some 6) Tryd.func93 #[.pointer (some ⟨g, 0, none⟩), .int .i64 24] ?_; (with_reducible refine (spec_l1Cur_pick.calls g Ad Ah Ai 24 Aj Ak Al w0 _ ?side1 ?side2 A2.out).mono ?_); (case side1 => exact Z2); (case side2 => exact Z6); rintro e w9 ⟨rfl, hi, hb, hk⟩; refine ⟨_, rfl, ?_⟩; replace Ae := aM (Kd.R_mono (Kd.R_keep (IsS85.apart (show IsS85 w0 _ g Ad Ah Ai from Z2) Z56 (by decide)) hk (fun _ h => h.2)) (fun _ h => h.1)); replace HK := aM (KeepBut.trans Z5 hk (.inl rfl)); replace HB := aM (hb); replace HI0 := aM (hi); (try clear hb); (try clear hk); (try clear hi); obtain ⟨Ar, An, Bb⟩ := Kd.R_slice Ae.out; subst Bb; have Bc : ((ji3) : Int) ≤ ((Ab.length : Int) : Int) := of_decide_eq_true Z11; obtain ⟨i010, hi010, _, hsz10, _⟩ := info_parts info3; have hroom10 : Ab.length ≤ An := (Kd.R_reads' Ae.out).2.1; have hC10 : Kd.C (Kd.int .i64) _ Ar Ab.length Ab := (Kd.R_reads' Ae.out).2.2; have hcut10 := cut_to (P := Tryd.prog) 41 3 .i64 Tryd.underlying41 hi010 Ar Ab.length An (ji3) (of_decide_eq_true Z11) Bc hroom10; have Au := Kd.C_take (m := ((ji3) : Int).toNat) hC10 (by omega); have Av : Am.length = ((ji3) : Int).toNat := (by rw [Ap.out, List.length_take]; omega); rw [← Ap.out] at Au; rw [← Av] at hcut10; have Aq := Aside0.mk Au; have Ba := aM (show Am.length ≤ An from by omega); clear Au hC10 hroom10 hi010 hsz10; have KY10 := Aside0.mk Av; clear Av; have KL10 := aM (show ((ji3) : Int).toNat ≤ Ab.length from by omega); replace Bc := eq_true Bc) | ((with_reducible refine gate_callee (f := 92) rfl ?_); refine glE (some 10) Tryd.func92 #[.pointer (some ⟨g, 0, none⟩), .slice Ar Am.length An] ?_; (with_reducible refine (spec_l1Cur_among.calls g Ad Ak Al _ _ Am Aw Ax Ay w0 _ ?side1 ?side2 ?side3 ?side4 ?side5 A6.out).mono ?_); (case side1 => exact Z2); (case side2 => exact Z6); (case side3 => repeat (first | exact (by repeat (first | (with_reducible exact Aq.out) | (with_reducible refine Kd.C_alloc ?_ _) | (with_reducible refine Kd.C_drewN ?_ _) | (with_reducible refine Kd.C_drew ?_) | exact Aq.out)) | (with_reducible refine Kd.C_alloc ?_ _) | (with_reducible refine Kd.C_drewN ?_ _) | (with_reducible refine Kd.C_drew ?_))); (case side4 => exact Ba.out); (case side5 => exact fun ad e_ _ h_ => IsS85.own_ne HI0.out Ae.out (by decide) (by subst h_; subst e_; rfl)); rintro e Bi ⟨rfl, hi, hb, hk⟩; refine ⟨_, rfl, ?_⟩; replace Ae := aM (Kd.R_mono (Kd.R_keep (IsS85.apart (show IsS85 w0 _ g Ad Ak Al from Z2) Z56 (by decide)) hk (fun _ h => h.2)) (fun _ h => h.1)); replace HK := aM (KeepBut.trans Z5 hk (.inl rfl)); replace HB := aM (hb); replace HI0 := aM (hi); (try clear hb); (try clear hk); (try clear hi)))
   go_ret
   exact ⟨by first | rfl | (simp [errW_none, errW_some] <;> rfl) | (simp only [← hji3]; first | rfl | (simp [errW_none, errW_some] <;> rfl)) | (simp [*, errW_none, errW_some] <;> rfl), Z2, Z6, Z5⟩
  ·rw [if_neg c5] at H
   exact absurd H (by simp)
 ·rw [if_neg c4] at H
  exact absurd H (by simp)
def spec_DrawDaysForKnots.f (k : Nat) (l0 : List Int) : Option ((List (S26)) × Int × Int) := (spec_l1Cur_weavers.f k l0 0 0).bind fun bt350 => ((spec_l1Cur_loom11.f l0 bt350.2.1 bt350.2.2).bind fun bt355 => ((some (([0, 1, 6000, 100000, 10000000, (-1), 10000001] : List Int) : List Int)).bind fun y358 => ((spec_l1Cur_pick.f l0 bt355.2.1 bt355.2.2 24).bind fun bt361 => (if 0 ≤ (wrap64 (5 + (wrap64 (Int.tdiv bt361.1 11)))) then (if (wrap64 (5 + (wrap64 (Int.tdiv bt361.1 11)))) ≤ (y358.length : Int) then ((spec_l1Cur_among.f l0 bt361.2.1 bt361.2.2 (y358.take ((wrap64 (5 + (wrap64 (Int.tdiv bt361.1 11)))) : Int).toNat)).bind fun bt368 => (some (bt350.1, bt355.1, bt368.1))) else (none)) else (none)))))
theorem spec_DrawDaysForKnots.calls (k : Nat) (A0 : Option Addr) (c0 : Nat) (l0 : List Int) (r1 : List (S26)) (r2 : Int) (r3 : Int) (w : World) (Bl : Kd.C (Kd.int .u8) w A0 l0.length l0) (Bm : l0.length ≤ c0) (h : spec_DrawDaysForKnots.f k l0 = some (r1, r2, r3)) :
  Calls Tryd.prog 52 #[.slice A0 l0.length c0] w fun e w' => ∃ v0_ : Value, e = .returned (.tuple #[v0_, .int .i64 r2, .int .i64 r3]) ∧ Kd.R k26 26 w' w.heap.size (fun _ => True) v0_ r1 ∧ Below w.heap.size w w' := by
 have hu85 := Tryd.underlying85; have Bs := Aside0.mk Bl; have Bv := Aside0.mk Bm; clear Bl Bm; have HB := aM (Below.refl w.heap.size w); have H : ((spec_l1Cur_weavers.f k l0 0 0).bind fun Aq => ((spec_l1Cur_loom11.f l0 Aq.2.1 Aq.2.2).bind fun Ag => ((some (([0, 1, 6000, 100000, 10000000, (-1), 10000001] : List Int) : List Int)).bind fun Ab => ((spec_l1Cur_pick.f l0 Ag.2.1 Ag.2.2 24).bind fun Aa => (if 0 ≤ (wrap64 (5 + (wrap64 (Int.tdiv Aa.1 11)))) then (if (wrap64 (5 + (wrap64 (Int.tdiv Aa.1 11)))) ≤ (Ab.length : Int) then ((spec_l1Cur_among.f l0 Aa.2.1 Aa.2.2 (Ab.take ((wrap64 (5 + (wrap64 (Int.tdiv Aa.1 11)))) : Int).toNat)).bind fun Ad => (some (Aq.1, Ag.1, Ad.1))) else (none)) else (none)))))) = some (r1, r2, r3) := h; clear h; replace H := Option.bind_eq_some_iff.mp H; obtain ⟨⟨Ah, Av, Aw⟩, Bn, H⟩ := H; replace H : ((spec_l1Cur_loom11.f l0 Av Aw).bind fun Ag => ((some (([0, 1, 6000, 100000, 10000000, (-1), 10000001] : List Int) : List Int)).bind fun Ab => ((spec_l1Cur_pick.f l0 Ag.2.1 Ag.2.2 24).bind fun Aa => (if 0 ≤ (wrap64 (5 + (wrap64 (Int.tdiv Aa.1 11)))) then (if (wrap64 (5 + (wrap64 (Int.tdiv Aa.1 11)))) ≤ (Ab.length : Int) then ((spec_l1Cur_among.f l0 Aa.2.1 Aa.2.2 (Ab.take ((wrap64 (5 + (wrap64 (Int.tdiv Aa.1 11)))) : Int).toNat)).bind fun Ad => (some (Ah, Ag.1, Ad.1))) else (none)) else (none))))) = some (r1, r2, r3) := H; have A2 := Aside0.mk Bn; clear Bn; replace H := Option.bind_eq_some_iff.mp H; obtain ⟨⟨Ak, An, Ao⟩, Bo, H⟩ := H; replace H : ((some (([0, 1, 6000, 100000, 10000000, (-1), 10000001] : List Int) : List Int)).bind fun Ab => ((spec_l1Cur_pick.f l0 An Ao 24).bind fun Aa => (if 0 ≤ (wrap64 (5 + (wrap64 (Int.tdiv Aa.1 11)))) then (if (wrap64 (5 + (wrap64 (Int.tdiv Aa.1 11)))) ≤ (Ab.length : Int) then ((spec_l1Cur_among.f l0 Aa.2.1 Aa.2.2 (Ab.take ((wrap64 (5 + (wrap64 (Int.tdiv Aa.1 11)))) : Int).toNat)).bind fun Ad => (some (Ah, Ak, Ad.1))) else (none)) else (none)))) = some (r1, r2, r3) := H; have A3 := Aside0.mk Bo; clear Bo; obtain ⟨Ab, Ai⟩ : ∃ y_ : List Int, y_ = (([0, 1, 6000, 100000, 10000000, (-1), 10000001] : List Int)) := ⟨_, rfl⟩
 replace H : ((spec_l1Cur_pick.f l0 An Ao 24).bind fun Aa => (if 0 ≤ (wrap64 (5 + (wrap64 (Int.tdiv Aa.1 11)))) then (if (wrap64 (5 + (wrap64 (Int.tdiv Aa.1 11)))) ≤ (Ab.length : Int) then ((spec_l1Cur_among.f l0 Aa.2.1 Aa.2.2 (Ab.take ((wrap64 (5 + (wrap64 (Int.tdiv Aa.1 11)))) : Int).toNat)).bind fun Ad => (some (Ah, Ak, Ad.1))) else (none)) else (none))) = some (r1, r2, r3) := by first | (rw [Ai]; with_reducible exact H) | (have H2_ := (Option.bind_some _ _).symm.trans H; rw [Ai]; with_reducible exact H2_) | (have H2_ := (Option.bind_some _ _).symm.trans H; with_reducible exact H2_) | with_reducible exact H | (rw [Ai]; exact H) | exact H
 have Ay := Aside0.mk Ai; clear Ai; replace H := Option.bind_eq_some_iff.mp H; obtain ⟨⟨Ap, Al, Am⟩, Bp, H⟩ := H; replace H : (if 0 ≤ (wrap64 (5 + (wrap64 (Int.tdiv Ap 11)))) then (if (wrap64 (5 + (wrap64 (Int.tdiv Ap 11)))) ≤ (Ab.length : Int) then ((spec_l1Cur_among.f l0 Al Am (Ab.take ((wrap64 (5 + (wrap64 (Int.tdiv Ap 11)))) : Int).toNat)).bind fun Ad => (some (Ah, Ak, Ad.1))) else (none)) else (none)) = some (r1, r2, r3) := H; have A4 := Aside0.mk Bp; clear Bp; obtain ⟨ji5, hji5⟩ : ∃ j_ : Int, (wrap64 (5 + (wrap64 (Int.tdiv Ap 11)))) = j_ := ⟨_, rfl⟩
 replace H : (if 0 ≤ (ji5) then (if (ji5) ≤ (Ab.length : Int) then ((spec_l1Cur_among.f l0 Al Am (Ab.take ((ji5) : Int).toNat)).bind fun Ad => (some (Ah, Ak, Ad.1))) else (none)) else (none)) = some (r1, r2, r3) := by first | (rw [hji5] at H; exact H) | (simp only [hji5] at H ⊢; exact H)
 (try rw [hji5] at A2)
 (try rw [hji5] at A3)
 (try rw [hji5] at A4)
 have hji5w : (IntKind.i64.wrap (5 + (wrap64 (Int.tdiv Ap 11)))) = ji5 := (i64_w _).trans hji5
 by_cases c6 : 0 ≤ (ji5)
 ·rw [if_pos c6] at H
  have c6b0 := eq_true c6; have c6b1 : decide (0 ≤ (ji5)) = true := decide_eq_true c6; clear c6
  by_cases c7 : (ji5) ≤ (Ab.length : Int)
  ·rw [if_pos c7] at H
   have c7b0 := eq_true c7; have c7b1 : decide ((ji5) ≤ (Ab.length : Int)) = true := decide_eq_true c7; clear c7; obtain ⟨Ar, Aj⟩ : ∃ y_ : List Int, y_ = (Ab.take ((ji5) : Int).toNat) := ⟨_, rfl⟩
   replace H : ((spec_l1Cur_among.f l0 Al Am Ar).bind fun Ad => (some (Ah, Ak, Ad.1))) = some (r1, r2, r3) := by first | (rw [Aj]; with_reducible exact H) | (have H2_ := (Option.bind_some _ _).symm.trans H; rw [Aj]; with_reducible exact H2_) | (have H2_ := (Option.bind_some _ _).symm.trans H; with_reducible exact H2_) | with_reducible exact H | (rw [Aj]; exact H) | exact H
   have Az := Aside0.mk Aj; clear Aj; replace H := Option.bind_eq_some_iff.mp H; obtain ⟨⟨Bf, Bh, Bi⟩, Bq, H⟩ := H; replace H : (some (Ah, Ak, Bf)) = some (r1, r2, r3) := H; have A8 := Aside0.mk Bq; clear Bq
   simp only [Option.some.injEq, Prod.mk.injEq] at H
   obtain ⟨rfl, rfl, rfl⟩ := H
   go_enter Tryd.func52, Tryd.ntmps52
   go_wp2_with (first | ((with_reducible refine gate_dst (N := 9) rfl ?_); refine bxE 9 #[.slice A0 l0.length c0, .int .i64 0, .int .u64 0] 85 ?_; intro Ac hg w9 hbox hb; have HI349 := aM ((⟨A0, c0, hbox, (Z126 : w.heap.size ≤ Ac), Bs.out⟩ : IsS85 w _ Ac l0 0 0)); replace HB := hbS Z0 hb; clear hb hbox hg) | ((with_reducible refine gate_callee (f := 90) rfl ?_); refine glE (some 11) Tryd.func90 #[.pointer (some ⟨Ac, 0, none⟩)] ?_; (with_reducible refine (spec_l1Cur_weavers.calls k Ac l0 0 0 Ah Av Aw w _ ?side1 ?side2 A2.out).mono ?_); (case side1 => exact Z29); (case side2 => exact Z34); rintro e Bw ⟨Bt, rfl, Br, hi, hb, hk⟩; refine ⟨_, rfl, ?_⟩; have Ae := aM (Kd.R_lower Br (below_size Z34)); replace HB := aM (hb); replace HI349 := aM (hi); (try clear hb); (try clear hk); (try clear hi); (try clear Br)) | ((with_reducible refine gate_callee (f := 95) rfl ?_); refine glE (some 14) Tryd.func95 #[.pointer (some ⟨Ac, 0, none⟩)] ?_; (with_reducible refine (spec_l1Cur_loom11.calls Ac l0 Av Aw Ak An Ao w _ ?side1 ?side2 A3.out).mono ?_); (case side1 => exact Z29); (case side2 => exact Z34); rintro e Bx ⟨rfl, hi, hb, hk⟩; refine ⟨_, rfl, ?_⟩; replace Ae := aM (Kd.R_mono (Kd.R_keep (IsS85.apart (show IsS85 w _ Ac l0 Av Aw from Z29) Z56 (by decide)) hk (fun _ h => h.2)) (fun _ h => h.1)); replace HB := aM (hb); replace HI349 := aM (hi); (try clear hb); (try clear hk); (try clear hi)) | ((with_reducible refine gate_dst (N := 16) rfl ?_); refine Kd.R_lit (Kd.int .i64) _ 3 ?hg (N := 16) ?hd (xs := ([0, 1, 6000, 100000, 10000000, (-1), 10000001] : List Int)) (inner := [.int .i64 0, .int .i64 1, .int .i64 6000, .int .i64 100000, .int .i64 10000000, .int .i64 (-1), .int .i64 10000001]) (ok := fun _ => True) (okp := fun _ => True) ?hr ?hp (fun _ hk => hk) trivial (Below.refl _ _) (Nat.le_refl _) (by simp) ?_; (case hd => rfl); (case hg => rfl); (case hr => first | (go_simp; done) | (go_simp; rfl)); (case hp => exact (Reps.one (show Kd.M (Kd.int .i64) _ _ _ 0 [.int .i64 0] from rfl) (Reps.one (show Kd.M (Kd.int .i64) _ _ _ 1 [.int .i64 1] from rfl) (Reps.one (show Kd.M (Kd.int .i64) _ _ _ 6000 [.int .i64 6000] from rfl) (Reps.one (show Kd.M (Kd.int .i64) _ _ _ 100000 [.int .i64 100000] from rfl) (Reps.one (show Kd.M (Kd.int .i64) _ _ _ 10000000 [.int .i64 10000000] from rfl) (Reps.one (show Kd.M (Kd.int .i64) _ _ _ (-1) [.int .i64 (-1)] from rfl) (Reps.one (show Kd.M (Kd.int .i64) _ _ _ 10000001 [.int .i64 10000001] from rfl) (Reps.none _ _))))))))); intro Bu Bz Au hb hg_ hnew_; clear hg_ hnew_; (first | rw [← Ay.out] at Au | (simp only [Int.reduceToNat] at Au; rw [← Ay.out] at Au)); replace Ae := roB Ae hb; have Af := aM (Kd.R_lower Au (below_size Z34)); replace HB := aM (below_step Z34 hb); replace HI349 := aM (IsS85.below Z29 hb); clear hb Au) | ((with_reducible refine gate_callee (f := 93) rfl ?_); refine glE (some 18) Tryd.func93 #[.pointer (some ⟨Ac, 0, none⟩), .int .i64 24] ?_; (with_reducible refine (spec_l1Cur_pick.calls Ac l0 An Ao 24 Ap Al Am w _ ?side1 ?side2 A4.out).mono ?_); (case side1 => exact Z29); (case side2 => exact Z34); rintro e B0 ⟨rfl, hi, hb, hk⟩; refine ⟨_, rfl, ?_⟩; replace Ae := aM (Kd.R_mono (Kd.R_keep (IsS85.apart (show IsS85 w _ Ac l0 An Ao from Z29) Z56 (by decide)) hk (fun _ h => h.2)) (fun _ h => h.1)); replace Af := aM (Kd.R_mono (Kd.R_keep (IsS85.apart (show IsS85 w _ Ac l0 An Ao from Z29) Z21 (by decide)) hk (fun _ h => h.2)) (fun _ h => h.1)); replace HB := aM (hb); replace HI349 := aM (hi); (try clear hb); (try clear hk); (try clear hi); obtain ⟨Bb, Ax, Bj⟩ := Kd.R_slice Af.out; subst Bj; have Bk : ((ji5) : Int) ≤ ((Ab.length : Int) : Int) := of_decide_eq_true Z11; obtain ⟨i015, hi015, _, hsz15, _⟩ := info_parts info3; have hroom15 : Ab.length ≤ Ax := (Kd.R_reads' Af.out).2.1; have hC15 : Kd.C (Kd.int .i64) _ Bb Ab.length Ab := (Kd.R_reads' Af.out).2.2; have hcut15 := cut_to (P := Tryd.prog) 41 3 .i64 Tryd.underlying41 hi015 Bb Ab.length Ax (ji5) (of_decide_eq_true Z11) Bk hroom15; have Bc := Kd.C_take (m := ((ji5) : Int).toNat) hC15 (by omega); have Bd : Ar.length = ((ji5) : Int).toNat := (by rw [Az.out, List.length_take]; omega); rw [← Az.out] at Bc; rw [← Bd] at hcut15; have Ba := Aside0.mk Bc; have Bg := aM (show Ar.length ≤ Ax from by omega); clear Bc hC15 hroom15 hi015 hsz15; have KY15 := Aside0.mk Bd; clear Bd; have KL15 := aM (show ((ji5) : Int).toNat ≤ Ab.length from by omega); replace Bk := eq_true Bk) | ((with_reducible refine gate_callee (f := 92) rfl ?_); refine glE (some 22) Tryd.func92 #[.pointer (some ⟨Ac, 0, none⟩), .slice Bb Ar.length Ax] ?_; (with_reducible refine (spec_l1Cur_among.calls Ac l0 Al Am _ _ Ar Bf Bh Bi w _ ?side1 ?side2 ?side3 ?side4 ?side5 A8.out).mono ?_); (case side1 => exact Z29); (case side2 => exact Z34); (case side3 => repeat (first | exact (by repeat (first | (with_reducible exact Ba.out) | (with_reducible refine Kd.C_alloc ?_ _) | (with_reducible refine Kd.C_drewN ?_ _) | (with_reducible refine Kd.C_drew ?_) | exact Ba.out)) | (with_reducible refine Kd.C_alloc ?_ _) | (with_reducible refine Kd.C_drewN ?_ _) | (with_reducible refine Kd.C_drew ?_))); (case side4 => exact Bg.out); (case side5 => exact fun ad e_ _ h_ => IsS85.own_ne HI349.out Af.out (by decide) (by subst h_; subst e_; rfl)); rintro e B1 ⟨rfl, hi, hb, hk⟩; refine ⟨_, rfl, ?_⟩; replace Ae := aM (Kd.R_mono (Kd.R_keep (IsS85.apart (show IsS85 w _ Ac l0 Al Am from Z29) Z56 (by decide)) hk (fun _ h => h.2)) (fun _ h => h.1)); replace Af := aM (Kd.R_mono (Kd.R_keep (IsS85.apart (show IsS85 w _ Ac l0 Al Am from Z29) Z21 (by decide)) hk (fun _ h => h.2)) (fun _ h => h.1)); replace HB := aM (hb); replace HI349 := aM (hi); (try clear hb); (try clear hk); (try clear hi)))
   go_ret3
   exact ⟨_, by first | rfl | (simp [errW_none, errW_some] <;> rfl) | (simp only [← hji5]; first | rfl | (simp [errW_none, errW_some] <;> rfl)) | (simp [*, errW_none, errW_some] <;> rfl), Z56, Z34⟩
  ·rw [if_neg c7] at H
   exact absurd H (by simp)
 ·rw [if_neg c6] at H
  exact absurd H (by simp)
def spec_l1Cur_weaverId.j0 : Nat → List (S26) → Bool → List Int → Int → Int → Option (Int × Int × Int)
 | 0, _, _, _, _, _ => none
 | k + 1, x1, x11, x1000, x1001, x1002 => if x11 = true then ((spec_l1Cur_among.f x1000 x1001 x1002 (([0, 1, 50] : List Int))).bind fun bt377 => (some (bt377.1, bt377.2.1, bt377.2.2))) else ((spec_l1Cur_pick.f x1000 x1001 x1002 (x1.length : Int)).bind fun bt380 => (if 0 ≤ bt380.1 then (if bt380.1 < (x1.length : Int) then (some ((rd_T26 x1 bt380.1).f0, bt380.2.1, bt380.2.2)) else (none)) else (none)))
def spec_l1Cur_weaverId.f (k : Nat) (s0_0 : List Int) (s0_1 : Int) (s0_2 : Int) (l1 : List (S26)) : Option (Int × Int × Int) := if (l1.length : Int) = 0 then (spec_l1Cur_weaverId.j0 k l1 true s0_0 s0_1 s0_2) else ((spec_l1Cur_one.f s0_0 s0_1 s0_2 10).bind fun bt371 => (spec_l1Cur_weaverId.j0 k l1 bt371.1 s0_0 bt371.2.1 bt371.2.2))
theorem spec_l1Cur_weaverId.calls (k : Nat) (g : Nat) (Ac : List Int) (Aj : Int) (Ak : Int) (A1 : Option Addr) (c1 : Nat) (l1 : List (S26)) (r1 : Int) (r2 : Int) (r3 : Int) (w0 w : World) (hI : IsS85 w0 w g Ac Aj Ak) (hB : Below w0.heap.size w0 w) (Bo : ∀ W_, KeepBut w W_ g none → Kd.C k26 W_ A1 l1.length l1) (Bp : l1.length ≤ c1) (h : spec_l1Cur_weaverId.f k Ac Aj Ak l1 = some (r1, r2, r3)) :
  Calls Tryd.prog 91 #[.pointer (some ⟨g, 0, none⟩), .slice A1 l1.length c1] w fun e w' => e = .returned (.int .i64 r1) ∧ IsS85 w0 w' g Ac r2 r3 ∧ Below w0.heap.size w0 w' ∧ KeepBut w w' g none := by
 have Bs := Aside0.mk Bo; have Bw := Aside0.mk Bp; clear Bo Bp; have HI0 := Aside0.mk hI; have HK := aM (KeepBut.refl w g none); have HL := Aside0.mk hB.size; clear hI; have Bx := Aside0.mk hB.size; have HB := Aside0.mk hB; clear hB; have H : (if (l1.length : Int) = 0 then (spec_l1Cur_weaverId.j0 k l1 true Ac Aj Ak) else ((spec_l1Cur_one.f Ac Aj Ak 10).bind fun Al => (spec_l1Cur_weaverId.j0 k l1 Al.1 Ac Al.2.1 Al.2.2))) = some (r1, r2, r3) := h; clear h; have Bk := Aside0.mk H; clear H
 go_enter Tryd.func91, Tryd.ntmps91
 go_upto_region 1 with (fail)
 go_cut [11] (fun Bt wc => ∃ (kq : Nat) (Ai : Bool) (Aa : Int) (Ab : Int), Bt = .bool Ai ∧ Aside0 (spec_l1Cur_weaverId.j0 kq l1 Ai Ac Aa Ab = some (r1, r2, r3)) ∧ Aside0 (kq ≤ k) ∧ Aside0 (IsS85 w0 wc g Ac Aa Ab) ∧ Aside0 (KeepBut w wc g none) ∧ Aside0 (Below w0.heap.size w0 wc))
 case first =>
  have H := Bk.out; clear Bk
  by_cases c4 : (l1.length : Int) = 0
  ·rw [if_pos c4] at H
   have c4b0 : ((l1.length : Int) == 0) = true := beq_iff_eq.mpr c4; have c4b1 : ((l1.length : Int) != 0) = false := bne_eq_false_iff_eq.mpr c4; clear c4
   (first | rw [c4b0] | (simp only [i64_w, i32_w]; rw [c4b0]) | skip)
   have H' := Aside0.mk H; clear H
   go_wp2
   go_meet
   case rel => exact ⟨_, (true), (Aj), (Ak), Z15, H', ⟨Z73⟩, ⟨Z2⟩, ⟨Z5⟩, ⟨Z6⟩⟩
  ·rw [if_neg c4] at H
   have c4b0 : ((l1.length : Int) == 0) = false := beq_eq_false_iff_ne.mpr c4; have c4b1 : ((l1.length : Int) != 0) = true := bne_iff_ne.mpr c4
   have c4b2 : ¬ (l1 = []) := fun h_ => c4 (by rw [h_]; rfl)
   (first | rw [c4b0] | (simp only [i64_w, i32_w]; rw [c4b0]) | skip)
   replace H := Option.bind_eq_some_iff.mp H; obtain ⟨⟨Ao, Ap, Aq⟩, Bq, H⟩ := H; replace H : (spec_l1Cur_weaverId.j0 k l1 Ao Ac Ap Aq) = some (r1, r2, r3) := H; have A5 := Aside0.mk Bq; clear Bq; have H' := Aside0.mk H; clear H
   go_wp2_with (first | (go_at_call 104; (with_reducible refine (spec_l1Cur_one.calls g Ac Aj Ak 10 Ao Ap Aq w0 _ ?side1 ?side2 A5.out).mono ?_); (case side1 => exact Z2); (case side2 => exact Z6); rintro e w6 ⟨rfl, hi, hb, hk⟩; replace HK := aM (KeepBut.trans Z5 hk (.inl rfl)); replace HB := aM (hb); replace HI0 := aM (hi); (try clear hb); (try clear hk); (try clear hi)))
   go_meet
   case rel => exact ⟨_, (Ao), (Ap), (Aq), Z15, H', ⟨Z73⟩, ⟨Z2⟩, ⟨Z5⟩, ⟨Z6⟩⟩
 case rest =>
  clear Bk; (try clear c1); (try clear p2); (try clear c4); (try clear c4b0); (try clear c4b1); (try clear c4b2); obtain ⟨kq, Ai, Aa, Ab, rfl, HA, HJ2, HI0, HK, HB⟩ := hcut; cases kq with
  | zero => exact absurd HA.out (by simp [spec_l1Cur_weaverId.j0])
  | succ Bz =>
   have H := HA.out; clear HA
   simp only [spec_l1Cur_weaverId.j0] at H
   by_cases c7 : Ai = true
   ·subst c7
    have H1 : ((spec_l1Cur_among.f Ac Aa Ab (([0, 1, 50] : List Int))).bind fun Ad => (some (Ad.1, Ad.2.1, Ad.2.2))) = some (r1, r2, r3) := by rw [if_pos rfl] at H; exact H
    clear H; have H := H1; clear H1; obtain ⟨Ar, Ag⟩ : ∃ y_ : List Int, y_ = (([0, 1, 50] : List Int)) := ⟨_, rfl⟩
    replace H : ((spec_l1Cur_among.f Ac Aa Ab Ar).bind fun Ad => (some (Ad.1, Ad.2.1, Ad.2.2))) = some (r1, r2, r3) := by first | (rw [Ag]; with_reducible exact H) | (have H2_ := (Option.bind_some _ _).symm.trans H; rw [Ag]; with_reducible exact H2_) | (have H2_ := (Option.bind_some _ _).symm.trans H; with_reducible exact H2_) | with_reducible exact H | (rw [Ag]; exact H) | exact H
    have An := Aside0.mk Ag; clear Ag; replace H := Option.bind_eq_some_iff.mp H; obtain ⟨⟨Aw, Ax, Ay⟩, Br, H⟩ := H; replace H : (some (Aw, Ax, Ay)) = some (r1, r2, r3) := H; have A8 := Aside0.mk Br; clear Br
    simp only [Option.some.injEq, Prod.mk.injEq] at H
    obtain ⟨rfl, rfl, rfl⟩ := H
    go_wp2_with (first | ((with_reducible refine gate_dst (N := 13) rfl ?_); refine Kd.R_lit (Kd.int .i64) _ 3 ?hg (N := 13) ?hd (xs := ([0, 1, 50] : List Int)) (inner := [.int .i64 0, .int .i64 1, .int .i64 50]) (ok := fun _ => True) (okp := fun _ => True) ?hr ?hp (fun _ hk => hk) trivial (Below.refl _ _) (Nat.le_refl _) (by simp) ?_; (case hd => rfl); (case hg => rfl); (case hr => first | (go_simp; done) | (go_simp; rfl)); (case hp => exact (Reps.one (show Kd.M (Kd.int .i64) _ _ _ 0 [.int .i64 0] from rfl) (Reps.one (show Kd.M (Kd.int .i64) _ _ _ 1 [.int .i64 1] from rfl) (Reps.one (show Kd.M (Kd.int .i64) _ _ _ 50 [.int .i64 50] from rfl) (Reps.none _ _))))); intro Bu w9 Am hb hg_ hnew_; clear hg_ hnew_; (first | rw [← An.out] at Am | (simp only [Int.reduceToNat] at Am; rw [← An.out] at Am)); have Af := aM (Kd.R_lower Am (keep_size (w := w) (g := g) (row := none) Z5)); replace HK := aM (KeepBut.trans Z5 (KeepBut.of_below hb g none) (.inl rfl)); replace HB := aM (below_step Z6 hb); replace HI0 := aM (IsS85.below Z2 hb); clear hb Am; obtain ⟨Bl, Bm, Bn⟩ := Kd.R_slice Af.out; subst Bn) | ((with_reducible refine gate_callee (f := 92) rfl ?_); refine glE (some 14) Tryd.func92 #[.pointer (some ⟨g, 0, none⟩), .slice Bl Ar.length Bm] ?_; (with_reducible refine (spec_l1Cur_among.calls g Ac Aa Ab _ _ Ar Aw Ax Ay w0 _ ?side1 ?side2 ?side3 ?side4 ?side5 A8.out).mono ?_); (case side1 => exact Z2); (case side2 => exact Z6); (case side3 => exact Z28); (case side4 => exact (Kd.R_reads' Af.out).2.1); (case side5 => exact far_slice (IsS85.own_ne HI0.out Af.out (by decide))); rintro e B0 ⟨rfl, hi, hb, hk⟩; refine ⟨_, rfl, ?_⟩; replace Af := aM (Kd.R_mono (Kd.R_keep (IsS85.apart (show IsS85 w0 _ g Ac Aa Ab from Z2) Z21 (by decide)) hk (fun _ h => h.2)) (fun _ h => h.1)); replace HK := aM (KeepBut.trans Z5 hk (.inl rfl)); replace HB := aM (hb); replace HI0 := aM (hi); (try clear hb); (try clear hk); (try clear hi)))
    go_ret
    exact ⟨Z13, Z2, Z6, Z5⟩
   ·replace c7 := Bool.eq_false_iff.mpr c7
    subst c7
    have H1 : ((spec_l1Cur_pick.f Ac Aa Ab (l1.length : Int)).bind fun Ah => (if 0 ≤ Ah.1 then (if Ah.1 < (l1.length : Int) then (some ((rd_T26 l1 Ah.1).f0, Ah.2.1, Ah.2.2)) else (none)) else (none))) = some (r1, r2, r3) := by rw [if_neg (show ¬ (false = true) by decide)] at H; exact H
    clear H; have H := H1; clear H1; replace H := Option.bind_eq_some_iff.mp H; obtain ⟨⟨Ae, Az, Ba⟩, Bb, H⟩ := H; replace H : (if 0 ≤ Ae then (if Ae < (l1.length : Int) then (some ((rd_T26 l1 Ae).f0, Az, Ba)) else (none)) else (none)) = some (r1, r2, r3) := H; have Bv := Aside0.mk Bb; clear Bb
    by_cases Bc : 0 ≤ Ae
    ·rw [if_pos Bc] at H
     have c14b0 : decide (0 ≤ Ae) = true := decide_eq_true Bc; clear Bc
     by_cases Bd : Ae < (l1.length : Int)
     ·rw [if_pos Bd] at H
      have c15b0 : decide (Ae < (l1.length : Int)) = true := decide_eq_true Bd; clear Bd
      simp only [Option.some.injEq, Prod.mk.injEq] at H
      obtain ⟨rfl, rfl, rfl⟩ := H
      go_wp2_with (first | ((with_reducible refine gate_callee (f := 93) rfl ?_); refine glE (some 19) Tryd.func93 #[.pointer (some ⟨g, 0, none⟩), .int .i64 (l1.length : Int)] ?_; (with_reducible refine (spec_l1Cur_pick.calls g Ac Aa Ab (l1.length : Int) Ae Az Ba w0 _ ?side1 ?side2 Bv.out).mono ?_); (case side1 => exact Z2); (case side2 => exact Z6); rintro e B1 ⟨rfl, hi, hb, hk⟩; refine ⟨_, rfl, ?_⟩; replace HK := aM (KeepBut.trans Z5 hk (.inl rfl)); replace HB := aM (hb); replace HI0 := aM (hi); (try clear hb); (try clear hk); (try clear hi); have Au : 0 ≤ (Ae : Int) := of_decide_eq_true Z11; have Av : Ae < (l1.length : Int) := of_decide_eq_true Z11; obtain ⟨ad383, e383, Bf, Bg, Bh, Bi, Bj⟩ := at_T26 (Kd.C_foot_now Bs.out HK.out) Ae Au Av; cases e383; replace Au := eq_true Au; replace Av := eq_true Av))
      go_ret
      exact ⟨Z13, Z2, Z6, Z5⟩
     ·rw [if_neg Bd] at H
      exact absurd H (by simp)
    ·rw [if_neg Bc] at H
     exact absurd H (by simp)
def spec_DrawSeatWeaver.f (k : Nat) (l0 : List Int) : Option ((List (S26)) × Int × Int) := (spec_l1Cur_weavers.f k l0 0 0).bind fun bt385 => ((spec_l1Cur_weaverId.f k l0 bt385.2.1 bt385.2.2 bt385.1).bind fun bt390 => ((spec_l1Cur_loom11.f l0 bt390.2.1 bt390.2.2).bind fun bt393 => (some (bt385.1, bt390.1, bt393.1))))
theorem spec_DrawSeatWeaver.calls (k : Nat) (A0 : Option Addr) (c0 : Nat) (l0 : List Int) (r1 : List (S26)) (r2 : Int) (r3 : Int) (w : World) (Ao : Kd.C (Kd.int .u8) w A0 l0.length l0) (Ap : l0.length ≤ c0) (h : spec_DrawSeatWeaver.f k l0 = some (r1, r2, r3)) :
  Calls Tryd.prog 53 #[.slice A0 l0.length c0] w fun e w' => ∃ v0_ : Value, e = .returned (.tuple #[v0_, .int .i64 r2, .int .i64 r3]) ∧ Kd.R k26 26 w' w.heap.size (fun _ => True) v0_ r1 ∧ Below w.heap.size w w' := by
 have hu85 := Tryd.underlying85; have Aw := Aside0.mk Ao; have Bb := Aside0.mk Ap; clear Ao Ap; have HB := aM (Below.refl w.heap.size w); have H : ((spec_l1Cur_weavers.f k l0 0 0).bind fun Af => ((spec_l1Cur_weaverId.f k l0 Af.2.1 Af.2.2 Af.1).bind fun Ac => ((spec_l1Cur_loom11.f l0 Ac.2.1 Ac.2.2).bind fun Ad => (some (Af.1, Ac.1, Ad.1))))) = some (r1, r2, r3) := h; clear h; replace H := Option.bind_eq_some_iff.mp H; obtain ⟨⟨Ae, Ag, Ah⟩, Aq, H⟩ := H; replace H : ((spec_l1Cur_weaverId.f k l0 Ag Ah Ae).bind fun Ac => ((spec_l1Cur_loom11.f l0 Ac.2.1 Ac.2.2).bind fun Ad => (some (Ae, Ac.1, Ad.1)))) = some (r1, r2, r3) := H; have A2 := Aside0.mk Aq; clear Aq; replace H := Option.bind_eq_some_iff.mp H; obtain ⟨⟨Ak, Ai, Aj⟩, Ar, H⟩ := H; replace H : ((spec_l1Cur_loom11.f l0 Ai Aj).bind fun Ad => (some (Ae, Ak, Ad.1))) = some (r1, r2, r3) := H; have A3 := Aside0.mk Ar; clear Ar; replace H := Option.bind_eq_some_iff.mp H; obtain ⟨⟨Al, Am, An⟩, Au, H⟩ := H; replace H : (some (Ae, Ak, Al)) = some (r1, r2, r3) := H; have A4 := Aside0.mk Au; clear Au
 simp only [Option.some.injEq, Prod.mk.injEq] at H
 obtain ⟨rfl, rfl, rfl⟩ := H
 go_enter Tryd.func53, Tryd.ntmps53
 go_wp2_with (first | ((with_reducible refine gate_dst (N := 9) rfl ?_); refine bxE 9 #[.slice A0 l0.length c0, .int .i64 0, .int .u64 0] 85 ?_; intro Aa hg w5 hbox hb; have HI384 := aM ((⟨A0, c0, hbox, (Z126 : w.heap.size ≤ Aa), Aw.out⟩ : IsS85 w _ Aa l0 0 0)); replace HB := hbS Z0 hb; clear hb hbox hg) | ((with_reducible refine gate_callee (f := 90) rfl ?_); refine glE (some 11) Tryd.func90 #[.pointer (some ⟨Aa, 0, none⟩)] ?_; (with_reducible refine (spec_l1Cur_weavers.calls k Aa l0 0 0 Ae Ag Ah w _ ?side1 ?side2 A2.out).mono ?_); (case side1 => exact Z36); (case side2 => exact Z43); rintro e w6 ⟨Ax, rfl, Av, hi, hb, hk⟩; refine ⟨_, rfl, ?_⟩; have Ab := aM (Kd.R_lower Av (below_size Z43)); replace HB := aM (hb); replace HI384 := aM (hi); (try clear hb); (try clear hk); (try clear hi); (try clear Av); obtain ⟨Ay, Az, Ba⟩ := Kd.R_slice Ab.out; subst Ba) | ((with_reducible refine gate_callee (f := 91) rfl ?_); refine glE (some 15) Tryd.func91 #[.pointer (some ⟨Aa, 0, none⟩), .slice Ay Ae.length Az] ?_; (with_reducible refine (spec_l1Cur_weaverId.calls k Aa l0 Ag Ah _ _ Ae Ak Ai Aj w _ ?side1 ?side2 ?side3 ?side4 A3.out).mono ?_); (case side1 => exact Z36); (case side2 => exact Z43); (case side3 => exact Kd.C_foot_own (IsS85.apart (show IsS85 w _ Aa l0 Ag Ah from Z36) Z19 (by decide)) (fun _ h_ => h_.2)); (case side4 => exact (Kd.R_reads' Ab.out).2.1); rintro e w8 ⟨rfl, hi, hb, hk⟩; refine ⟨_, rfl, ?_⟩; replace Ab := aM (Kd.R_mono (Kd.R_keep (IsS85.apart (show IsS85 w _ Aa l0 Ag Ah from Z36) Z19 (by decide)) hk (fun _ h => h.2)) (fun _ h => h.1)); replace HB := aM (hb); replace HI384 := aM (hi); (try clear hb); (try clear hk); (try clear hi)) | ((with_reducible refine gate_callee (f := 95) rfl ?_); refine glE (some 17) Tryd.func95 #[.pointer (some ⟨Aa, 0, none⟩)] ?_; (with_reducible refine (spec_l1Cur_loom11.calls Aa l0 Ai Aj Al Am An w _ ?side1 ?side2 A4.out).mono ?_); (case side1 => exact Z36); (case side2 => exact Z43); rintro e w9 ⟨rfl, hi, hb, hk⟩; refine ⟨_, rfl, ?_⟩; replace Ab := aM (Kd.R_mono (Kd.R_keep (IsS85.apart (show IsS85 w _ Aa l0 Ai Aj from Z36) Z19 (by decide)) hk (fun _ h => h.2)) (fun _ h => h.1)); replace HB := aM (hb); replace HI384 := aM (hi); (try clear hb); (try clear hk); (try clear hi)))
 go_ret3
 exact ⟨_, Z13, Z19, Z43⟩
def spec_DrawAreWeavers.f (k : Nat) (l0 : List Int) : Option ((List (S26))) := (spec_l1Cur_weavers.f k l0 0 0).bind fun bt397 => (some bt397.1)
theorem spec_DrawAreWeavers.calls (k : Nat) (A0 : Option Addr) (c0 : Nat) (l0 : List Int) (r : List (S26)) (w : World) (Ag : Kd.C (Kd.int .u8) w A0 l0.length l0) (Ah : l0.length ≤ c0) (h : spec_DrawAreWeavers.f k l0 = some r) :
  Calls Tryd.prog 96 #[.slice A0 l0.length c0] w fun e w' => ∃ v0_ : Value, e = .returned (v0_) ∧ Kd.R k26 26 w' w.heap.size (fun _ => True) v0_ r ∧ Below w.heap.size w w' := by
 have hu85 := Tryd.underlying85; have Ak := Aside0.mk Ag; have Am := Aside0.mk Ah; clear Ag Ah; have HB := aM (Below.refl w.heap.size w); have H : ((spec_l1Cur_weavers.f k l0 0 0).bind fun Ab => (some Ab.1)) = some r := h; clear h; replace H := Option.bind_eq_some_iff.mp H; obtain ⟨⟨Ac, Ae, Af⟩, Ai, H⟩ := H; replace H : (some Ac) = some r := H; have A2 := Aside0.mk Ai; clear Ai; obtain rfl := Option.some.inj H
 go_enter Tryd.func96, Tryd.ntmps96
 go_wp2_with (first | ((with_reducible refine gate_dst (N := 6) rfl ?_); refine bxE 6 #[.slice A0 l0.length c0, .int .i64 0, .int .u64 0] 85 ?_; intro Aa hg w3 hbox hb; have HI396 := aM ((⟨A0, c0, hbox, (Z126 : w.heap.size ≤ Aa), Ak.out⟩ : IsS85 w _ Aa l0 0 0)); replace HB := hbS Z0 hb; clear hb hbox hg) | ((with_reducible refine gate_callee (f := 90) rfl ?_); refine glE (some 8) Tryd.func90 #[.pointer (some ⟨Aa, 0, none⟩)] ?_; (with_reducible refine (spec_l1Cur_weavers.calls k Aa l0 0 0 Ac Ae Af w _ ?side1 ?side2 A2.out).mono ?_); (case side1 => exact (by repeat (first | (with_reducible first | exact HI396.out | apply IsS85.alloc | apply IsS85.drewN | apply IsS85.drew | apply IsS85.set_1 | apply IsS85.set_2) | exact HI396.out))); (case side2 => exact Z60); rintro e w4 ⟨Al, rfl, Aj, hi, hb, hk⟩; refine ⟨_, rfl, ?_⟩; have Ad := aM (Kd.R_lower Aj (below_size Z60)); replace HB := aM (hb); replace HI396 := aM (hi); (try clear hb); (try clear hk); (try clear hi); (try clear Aj)))
 go_ret
 exact ⟨_, Z13, by (with_reducible repeat (first | apply Kd.R_alloc | apply Kd.R_drewN | apply Kd.R_drew)); exact Ad.out, Z60⟩
def spec_DrawLoomsUsed.f (k : Nat) (l0 : List Int) : Option ((List (S26))) := (spec_DrawAreWeavers.f k l0).bind fun t402 => (some t402)
theorem spec_DrawLoomsUsed.calls (k : Nat) (A0 : Option Addr) (c0 : Nat) (l0 : List Int) (r : List (S26)) (w : World) (Ac : Kd.C (Kd.int .u8) w A0 l0.length l0) (Ad : l0.length ≤ c0) (h : spec_DrawLoomsUsed.f k l0 = some r) :
  Calls Tryd.prog 54 #[.slice A0 l0.length c0] w fun e w' => ∃ v0_ : Value, e = .returned (v0_) ∧ Kd.R k26 26 w' w.heap.size (fun _ => True) v0_ r ∧ Below w.heap.size w w' := by
 have Ag := Aside0.mk Ac; have Ah := Aside0.mk Ad; clear Ac Ad; have HB := aM (Below.refl w.heap.size w); have H : ((spec_DrawAreWeavers.f k l0).bind fun Aa => (some Aa)) = some r := h; clear h; replace H := Option.bind_eq_some_iff.mp H; obtain ⟨Aa, Ae, H⟩ := H; replace H : (some Aa) = some r := H; have A2 := Aside0.mk Ae; clear Ae; obtain rfl := Option.some.inj H
 go_enter Tryd.func54, Tryd.ntmps54
 go_wp2_with (first | ((with_reducible refine gate_callee (f := 96) rfl ?_); refine glE (some 4) Tryd.func96 #[.slice A0 l0.length c0] ?_; (with_reducible refine (spec_DrawAreWeavers.calls k _ _ l0 Aa _ ?side1 ?side2 A2.out).mono ?_); (case side1 => exact (by repeat (first | exact Ag.out | (with_reducible refine Kd.C_alloc ?_ _) | (with_reducible refine Kd.C_drewN ?_ _) | (with_reducible refine Kd.C_drew ?_)))); (case side2 => exact Ah.out); rintro e w3 ⟨Ai, rfl, Af, hb⟩; refine ⟨_, rfl, ?_⟩; have Ab := aM (Kd.R_lower Af (below_size Z0)); replace HB := hbS Z0 hb; (try clear hb); (try clear Af)))
 go_ret
 exact ⟨_, Z13, Z19, Z0⟩
def laws_rSum.l0 : Nat → List Int → Int → Int → Option (Int)
 | 0, _, _, _ => none
 | k + 1, x0, x3, x4 => if x4 < (x0.length : Int) then (if 0 ≤ x4 then (laws_rSum.l0 k x0 (wrap64 (x3 + (rd x0 x4))) (wrap64 (x4 + 1))) else (none)) else (some x3)
def laws_rSum.f (k : Nat) (l0 : List Int) : Option (Int) := laws_rSum.l0 k l0 0 0
theorem laws_rSum.calls (k : Nat) (A0 : Option Addr) (c0 : Nat) (l0 : List Int) (r : Int) (w : World) (Af : Kd.C (Kd.int .i64) w A0 l0.length l0) (Ag : l0.length ≤ c0) (h : laws_rSum.f k l0 = some r) :
  Calls Tryd.prog 55 #[.slice A0 l0.length c0] w fun e w' => e = .returned (.int .i64 r) ∧ Drawn0 w w' := by
 have Ah := Aside0.mk Af; have Ai := Aside0.mk Ag; clear Af Ag; have H : (laws_rSum.l0 k l0 0 0) = some r := h; clear h; have H' := Aside0.mk H; clear H
 go_enter Tryd.func55, Tryd.ntmps55
 go_wp2
 go_loopg [3, 4] k (fun kq v3 v4 w' => ∃ (Ab : Int) (Aa : Int), v3 = .int .i64 Ab ∧ v4 = .int .i64 Aa ∧ Aside0 (laws_rSum.l0 kq l0 Ab Aa = some r) ∧ Aside0 (kq ≤ k) ∧ Drawn0 w w')
 case atStart => exact ⟨(0), (0), Z15, Z15, H', ⟨Nat.le_refl _⟩, Z26⟩
 case round =>
  clear H'; obtain ⟨Ab, Aa, rfl, rfl, HA, HK1, ⟨m1, rfl⟩⟩ := hrel; cases gk with
  | zero => exact absurd HA.out (by simp [laws_rSum.l0])
  | succ k1 =>
   have H := HA.out; clear HA
   simp only [laws_rSum.l0] at H
   by_cases c2 : Aa < (l0.length : Int)
   ·rw [if_pos c2] at H
    have c2b0 : decide (Aa < (l0.length : Int)) = true := decide_eq_true c2; clear c2
    by_cases c3 : 0 ≤ Aa
    ·rw [if_pos c3] at H
     have c3b0 : decide (0 ≤ Aa) = true := decide_eq_true c3; clear c3; have H' := Aside0.mk H; clear H; have Ac : 0 ≤ (Aa : Int) := of_decide_eq_true Z11; have Ad : Aa < (l0.length : Int) := of_decide_eq_true Z11; obtain ⟨ad405, e405, Ae⟩ := Kd.at_int Ah.out Aa Ac Ad; cases e405; replace Ac := eq_true Ac; replace Ad := eq_true Ad
     go_wp2
     go_roundg k1
     case measure => have := HK1.out; omega
     case rel => exact ⟨(wrap64 (Ab + (rd l0 Aa))), (wrap64 (Aa + 1)), Z15, Z15, H', ⟨Z50⟩, Z26⟩
    ·rw [if_neg c3] at H
     exact absurd H (by simp)
   ·rw [if_neg c2] at H
    have c2b0 : decide (Aa < (l0.length : Int)) = false := decide_eq_false c2; clear c2; obtain rfl := Option.some.inj H
    go_wp2
    go_ret
    exact ⟨Z15, Z26⟩
mutual
def laws_FnWeavers.j0 : Nat → List Int → List (S26) → Int → Int → Int → Bool → Bool → Option (Bool)
 | 0, _, _, _, _, _, _, _ => none
 | k + 1, x0, x3, x4, x5, x6, x7, x61 => if x61 = true then (none) else (if x7 = true then ((impl_KnotsADay.f k x3 x4).bind fun bt416 => (if bt416.2 = true then (if (wrap64 (bt416.1 * x6)) < x5 then (none) else (if x6 > 0 then (if (wrap64 (bt416.1 * (wrap64 (x6 - 1)))) ≥ x5 then (none) else (laws_FnWeavers.j1 k x0)) else (laws_FnWeavers.j1 k x0))) else (none))) else (laws_FnWeavers.j1 k x0))
def laws_FnWeavers.j1 : Nat → List Int → Option (Bool)
 | 0, _ => none
 | k + 1, x0 => (spec_DrawSeatWeaver.f k x0).bind fun bt418 => ((impl_SeatWeaver.f bt418.1 bt418.2.1 bt418.2.2).bind fun bt423 => ((spec_SeatWeaver.f k bt418.1 bt418.2.1 bt418.2.2).bind fun bt427 => (if (bt423.2 != bt427.2) = true then (laws_FnWeavers.j2 k x0 true) else ((laws_rWeavers.f k bt423.1 bt427.1).bind fun t431 => (if t431 = true then (if bt423.2 = true then ((impl_AreWeavers.f bt423.1).bind fun t432 => (laws_FnWeavers.j2 k x0 (!t432))) else (laws_FnWeavers.j2 k x0 false)) else (laws_FnWeavers.j2 k x0 true))))))
def laws_FnWeavers.j2 : Nat → List Int → Bool → Option (Bool)
 | 0, _, _ => none
 | k + 1, x0, x126 => if x126 = true then (none) else ((spec_DrawLoomsUsed.f k x0).bind fun t433 => ((impl_LoomsUsed.f k t433).bind fun bt436 => ((spec_LoomsUsed.f k t433).bind fun bt443 => (if (bt436.2.2 != bt443.2.2) = true then (laws_FnWeavers.j3 k t433 bt436.1 bt436.2.1 bt436.2.2 true) else ((laws_rInts.f k bt436.1 bt443.1).bind fun t450 => (if t450 = true then ((laws_rInts.f k bt436.2.1 bt443.2.1).bind fun t451 => (laws_FnWeavers.j3 k t433 bt436.1 bt436.2.1 bt436.2.2 (!t451))) else (laws_FnWeavers.j3 k t433 bt436.1 bt436.2.1 bt436.2.2 true)))))))
def laws_FnWeavers.j3 : Nat → List (S26) → List Int → List Int → Bool → Bool → Option (Bool)
 | 0, _, _, _, _, _ => none
 | k + 1, x19, x20, x21, x22, x155 => if x155 = true then (none) else (laws_FnWeavers.l0 k x19 x20 x21 x22 0 0)
def laws_FnWeavers.l0 : Nat → List (S26) → List Int → List Int → Bool → Int → Int → Option (Bool)
 | 0, _, _, _, _, _, _ => none
 | k + 1, x19, x20, x21, x22, x26, x27 => if x27 < (x19.length : Int) then (laws_FnWeavers.j5 k x19 x20 x21 x22 x26 x27 x22) else (laws_FnWeavers.j5 k x19 x20 x21 x22 x26 x27 false)
def laws_FnWeavers.j5 : Nat → List (S26) → List Int → List Int → Bool → Int → Int → Bool → Option (Bool)
 | 0, _, _, _, _, _, _, _ => none
 | k + 1, x19, x20, x21, x22, x26, x27, x162 => if x162 = true then (if 0 ≤ x27 then (if x27 < (x19.length : Int) then (if ((rd_T26 x19 x27).f4) > 0 then ((laws_rHas.f k x20 ((rd_T26 x19 x27).f4)).bind fun t459 => (if t459 = true then (laws_FnWeavers.l0 k x19 x20 x21 x22 (wrap64 (x26 + 1)) (wrap64 (x27 + 1))) else (none))) else (laws_FnWeavers.l0 k x19 x20 x21 x22 x26 (wrap64 (x27 + 1)))) else (none)) else (none)) else ((impl_FastestFree.f x19).bind fun bt452 => ((spec_FastestFree.f k x19).bind fun bt454 => (if bt452.1 = bt454.1 then (if (bt452.2 == bt454.2) = true then (if x22 = true then ((laws_rSum.f k x21).bind fun t456 => (some (t456 == x26))) else (some true)) else (none)) else (none))))
end
def laws_FnWeavers.f (k : Nat) (l0 : List Int) : Option (Bool) := (laws_rBig.f l0).bind fun t406 => (if t406 = true then (some true) else ((spec_DrawDaysForKnots.f k l0).bind fun bt407 => ((impl_DaysForKnots.f k bt407.1 bt407.2.1 bt407.2.2).bind fun bt412 => ((spec_DaysForKnots.f k bt407.1 bt407.2.1 bt407.2.2).bind fun bt414 => (if bt412.1 = bt414.1 then (laws_FnWeavers.j0 k l0 bt407.1 bt407.2.1 bt407.2.2 bt412.1 bt412.2 (bt412.2 != bt414.2)) else (laws_FnWeavers.j0 k l0 bt407.1 bt407.2.1 bt407.2.2 bt412.1 bt412.2 true))))))
theorem laws_FnWeavers.calls (k : Nat) (A0 : Option Addr) (c0 : Nat) (l0 : List Int) (r : Bool) (w : World) (Fe : Kd.C (Kd.int .u8) w A0 l0.length l0) (Ff : l0.length ≤ c0) (h : laws_FnWeavers.f k l0 = some r) :
  Calls Tryd.prog 14 #[.slice A0 l0.length c0] w fun e w' => e = .returned (.bool r) ∧ Below w.heap.size w w' := by
 have Dk := Aside0.mk Fe; have Dl := Aside0.mk Ff; clear Fe Ff; have HB := aM (Below.refl w.heap.size w); have H : ((laws_rBig.f l0).bind fun Cp => (if Cp = true then (some true) else ((spec_DrawDaysForKnots.f k l0).bind fun Ab => ((impl_DaysForKnots.f k Ab.1 Ab.2.1 Ab.2.2).bind fun Ad => ((spec_DaysForKnots.f k Ab.1 Ab.2.1 Ab.2.2).bind fun Au => (if Ad.1 = Au.1 then (laws_FnWeavers.j0 k l0 Ab.1 Ab.2.1 Ab.2.2 Ad.1 Ad.2 (Ad.2 != Au.2)) else (laws_FnWeavers.j0 k l0 Ab.1 Ab.2.1 Ab.2.2 Ad.1 Ad.2 true))))))) = some r := h; clear h; replace H := Option.bind_eq_some_iff.mp H; obtain ⟨Cp, Fg, H⟩ := H; replace H : (if Cp = true then (some true) else ((spec_DrawDaysForKnots.f k l0).bind fun Ab => ((impl_DaysForKnots.f k Ab.1 Ab.2.1 Ab.2.2).bind fun Ad => ((spec_DaysForKnots.f k Ab.1 Ab.2.1 Ab.2.2).bind fun Au => (if Ad.1 = Au.1 then (laws_FnWeavers.j0 k l0 Ab.1 Ab.2.1 Ab.2.2 Ad.1 Ad.2 (Ad.2 != Au.2)) else (laws_FnWeavers.j0 k l0 Ab.1 Ab.2.1 Ab.2.2 Ad.1 Ad.2 true)))))) = some r := H; have A2 := Aside0.mk Fg; clear Fg
 by_cases c3 : Cp = true
 ·subst c3
  have H1 : (some true) = some r := by rw [if_pos rfl] at H; exact H
  clear H; have H := H1; clear H1; obtain rfl := Option.some.inj H
  go_enter Tryd.func14, Tryd.ntmps14
  go_wp2_with (first | ((with_reducible refine gate_callee (f := 45) rfl ?_); refine glE (some 33) Tryd.func45 #[.slice A0 l0.length c0] ?_; (with_reducible refine (laws_rBig.calls _ _ l0 true _ ?side1 ?side2 A2.out).mono ?_); (case side1 => exact Z65); (case side2 => exact Dl.out); rintro e w' ⟨rfl, ⟨nd, rfl⟩⟩; refine ⟨_, rfl, ?_⟩))
  go_ret
  exact ⟨Z13, Z0⟩
 ·replace c3 := Bool.eq_false_iff.mpr c3
  subst c3
  have H1 : ((spec_DrawDaysForKnots.f k l0).bind fun Ab => ((impl_DaysForKnots.f k Ab.1 Ab.2.1 Ab.2.2).bind fun Ad => ((spec_DaysForKnots.f k Ab.1 Ab.2.1 Ab.2.2).bind fun Au => (if Ad.1 = Au.1 then (laws_FnWeavers.j0 k l0 Ab.1 Ab.2.1 Ab.2.2 Ad.1 Ad.2 (Ad.2 != Au.2)) else (laws_FnWeavers.j0 k l0 Ab.1 Ab.2.1 Ab.2.2 Ad.1 Ad.2 true))))) = some r := by rw [if_neg (show ¬ (false = true) by decide)] at H; exact H
  clear H; have H := H1; clear H1; replace H := Option.bind_eq_some_iff.mp H; obtain ⟨⟨Aq, Av, Ao⟩, Fh, H⟩ := H; replace H : ((impl_DaysForKnots.f k Aq Av Ao).bind fun Ad => ((spec_DaysForKnots.f k Aq Av Ao).bind fun Au => (if Ad.1 = Au.1 then (laws_FnWeavers.j0 k l0 Aq Av Ao Ad.1 Ad.2 (Ad.2 != Au.2)) else (laws_FnWeavers.j0 k l0 Aq Av Ao Ad.1 Ad.2 true)))) = some r := H; have A4 := Aside0.mk Fh; clear Fh; replace H := Option.bind_eq_some_iff.mp H; obtain ⟨⟨Aj, Bn⟩, Fi, H⟩ := H; replace H : ((spec_DaysForKnots.f k Aq Av Ao).bind fun Au => (if Aj = Au.1 then (laws_FnWeavers.j0 k l0 Aq Av Ao Aj Bn (Bn != Au.2)) else (laws_FnWeavers.j0 k l0 Aq Av Ao Aj Bn true))) = some r := H; have A5 := Aside0.mk Fi; clear Fi; replace H := Option.bind_eq_some_iff.mp H; obtain ⟨⟨B7, C5⟩, Fj, H⟩ := H; replace H : (if Aj = B7 then (laws_FnWeavers.j0 k l0 Aq Av Ao Aj Bn (Bn != C5)) else (laws_FnWeavers.j0 k l0 Aq Av Ao Aj Bn true)) = some r := H; have A6 := Aside0.mk Fj; clear Fj; have Ej := Aside0.mk H; clear H
  go_enter Tryd.func14, Tryd.ntmps14
  go_upto_region 6 with (first | ((with_reducible refine gate_callee (f := 45) rfl ?_); refine glE (some 33) Tryd.func45 #[.slice A0 l0.length c0] ?_; (with_reducible refine (laws_rBig.calls _ _ l0 false _ ?side1 ?side2 A2.out).mono ?_); (case side1 => exact Z65); (case side2 => exact Dl.out); rintro e w' ⟨rfl, ⟨nd, rfl⟩⟩; refine ⟨_, rfl, ?_⟩) | ((with_reducible refine gate_callee (f := 52) rfl ?_); refine glE (some 36) Tryd.func52 #[.slice A0 l0.length c0] ?_; (with_reducible refine (spec_DrawDaysForKnots.calls k _ _ l0 Aq Av Ao _ ?side1 ?side2 A4.out).mono ?_); (case side1 => exact Z65); (case side2 => exact Dl.out); rintro e w8 ⟨Ft, rfl, Bi, hb⟩; refine ⟨_, rfl, ?_⟩; have Az := aM (Kd.R_lower Bi (below_size Z0)); replace HB := hbS Z0 hb; (try clear hb); (try clear Bi); obtain ⟨Dm, Dn, Fu⟩ := Kd.R_slice Az.out; subst Fu) | ((with_reducible refine gate_callee (f := 27) rfl ?_); refine glE (some 44) Tryd.func27 #[.slice Dm Aq.length Dn, .int .i64 Av, .int .i64 Ao] ?_; (with_reducible refine (impl_DaysForKnots.calls k _ _ Aq Av Ao Aj Bn _ ?side1 ?side2 A5.out).mono ?_); (case side1 => exact Z80); (case side2 => exact (Kd.R_reads' Az.out).2.1); rintro e G5 ⟨rfl, hb⟩; refine ⟨_, rfl, ?_⟩; replace Az := roB Az hb; replace HB := hbS Z0 hb; (try clear hb)) | ((with_reducible refine gate_callee (f := 26) rfl ?_); refine glE (some 51) Tryd.func26 #[.slice Dm Aq.length Dn, .int .i64 Av, .int .i64 Ao] ?_; (with_reducible refine (spec_DaysForKnots.calls k _ _ Aq Av Ao B7 C5 _ ?side1 ?side2 A6.out).mono ?_); (case side1 => exact Z80); (case side2 => exact (Kd.R_reads' Az.out).2.1); rintro e G6 ⟨rfl, hb⟩; refine ⟨_, rfl, ?_⟩; replace Az := roB Az hb; replace HB := hbS Z0 hb; (try clear hb)))
  (try simp only [Act.put, List.setIfInBounds_toArray, List.set_cons_zero, List.set_cons_succ])
  go_cut [61] (fun Fv wc => ∃ (kq : Nat) (Ce : Bool), Fv = .bool Ce ∧ Aside0 (laws_FnWeavers.j0 kq l0 Aq Av Ao Aj Bn Ce = some r) ∧ Aside0 (kq ≤ k) ∧ Aside0 (Kd.R k26 26 wc w.heap.size (fun _ => True) (.slice Dm Aq.length Dn) Aq) ∧ Aside0 (Below w.heap.size w wc))
  case first => as_aux_lemma =>
   have H := Ej.out; clear Ej
   by_cases Ch : Aj = B7
   ·rw [if_pos Ch] at H
    have c12b0 : (Aj == B7) = true := beq_iff_eq.mpr Ch; have c12b1 : (Aj != B7) = false := bne_eq_false_iff_eq.mpr Ch; clear Ch
    (first | rw [c12b0] | (simp only [i64_w, i32_w]; rw [c12b0]) | skip)
    have H' := Aside0.mk H; clear H
    go_wp2
    go_meet
    case rel => exact ⟨_, ((Bn != C5)), Z15, H', ⟨Z73⟩, ⟨Z90⟩, ⟨Z0⟩⟩
   ·rw [if_neg Ch] at H
    have c12b0 : (Aj == B7) = false := beq_eq_false_iff_ne.mpr Ch; have c12b1 : (Aj != B7) = true := bne_iff_ne.mpr Ch
    (first | rw [c12b0] | (simp only [i64_w, i32_w]; rw [c12b0]) | skip)
    have H' := Aside0.mk H; clear H
    go_wp2
    go_meet
    case rel => exact ⟨_, (true), Z15, H', ⟨Z73⟩, ⟨Z90⟩, ⟨Z0⟩⟩
  case rest =>
   clear Ej; (try clear c1); (try clear c2); (try clear p2); (try clear c3); (try clear c4); (try clear c5); (try clear Ch); (try clear c12b0); (try clear c12b1); obtain ⟨kq, Ce, rfl, HA, HJ6, Bx, HB⟩ := hcut; cases kq with
   | zero => exact absurd HA.out (by simp [laws_FnWeavers.j0])
   | succ B8 =>
    have H := HA.out; clear HA
    simp only [laws_FnWeavers.j0] at H
    by_cases Cq : Ce = true
    ·subst Cq
     have H1 : (none) = some r := by rw [if_pos rfl] at H; exact H
     clear H; have H := H1; clear H1; exact absurd H (by simp)
    ·replace Cq := Bool.eq_false_iff.mpr Cq
     subst Cq
     have H1 : (if Bn = true then ((impl_KnotsADay.f B8 Aq Av).bind fun Bo => (if Bo.2 = true then (if (wrap64 (Bo.1 * Aj)) < Ao then (none) else (if Aj > 0 then (if (wrap64 (Bo.1 * (wrap64 (Aj - 1)))) ≥ Ao then (none) else (laws_FnWeavers.j1 B8 l0)) else (laws_FnWeavers.j1 B8 l0))) else (none))) else (laws_FnWeavers.j1 B8 l0)) = some r := by rw [if_neg (show ¬ (false = true) by decide)] at H; exact H
     clear H; have H := H1; clear H1; have C6 := Aside0.mk H; clear H
     go_upto_if 62 with (fail)
     go_cut [] (fun wc => ∃ (kq : Nat), Aside0 (laws_FnWeavers.j1 kq l0 = some r) ∧ Aside0 (kq ≤ B8) ∧ Aside0 (Below w.heap.size w wc))
     case first => as_aux_lemma =>
      have H := C6.out; clear C6
      by_cases Cr : Bn = true
      ·subst Cr
       have H1 : ((impl_KnotsADay.f B8 Aq Av).bind fun Bo => (if Bo.2 = true then (if (wrap64 (Bo.1 * Aj)) < Ao then (none) else (if Aj > 0 then (if (wrap64 (Bo.1 * (wrap64 (Aj - 1)))) ≥ Ao then (none) else (laws_FnWeavers.j1 B8 l0)) else (laws_FnWeavers.j1 B8 l0))) else (none))) = some r := by rw [if_pos rfl] at H; exact H
       clear H; have H := H1; clear H1; replace H := Option.bind_eq_some_iff.mp H; obtain ⟨⟨Bp, Dp⟩, Dq, H⟩ := H; replace H : (if Dp = true then (if (wrap64 (Bp * Aj)) < Ao then (none) else (if Aj > 0 then (if (wrap64 (Bp * (wrap64 (Aj - 1)))) ≥ Ao then (none) else (laws_FnWeavers.j1 B8 l0)) else (laws_FnWeavers.j1 B8 l0))) else (none)) = some r := H; have Fk := Aside0.mk Dq; clear Dq
       by_cases Cs : Dp = true
       ·subst Cs
        have H1 : (if (wrap64 (Bp * Aj)) < Ao then (none) else (if Aj > 0 then (if (wrap64 (Bp * (wrap64 (Aj - 1)))) ≥ Ao then (none) else (laws_FnWeavers.j1 B8 l0)) else (laws_FnWeavers.j1 B8 l0))) = some r := by rw [if_pos rfl] at H; exact H
        clear H; have H := H1; clear H1
        by_cases Ct : (wrap64 (Bp * Aj)) < Ao
        ·rw [if_pos Ct] at H
         exact absurd H (by simp)
        ·rw [if_neg Ct] at H
         have c18b0 : decide ((wrap64 (Bp * Aj)) < Ao) = false := decide_eq_false Ct; clear Ct
         (first | rw [c18b0] | (simp only [i64_w, i32_w]; rw [c18b0]) | skip)
         by_cases Cl : Aj > 0
         ·rw [if_pos Cl] at H
          have c19b0 : decide (0 < Aj) = true := decide_eq_true Cl; clear Cl
          by_cases Cu : (wrap64 (Bp * (wrap64 (Aj - 1)))) ≥ Ao
          ·rw [if_pos Cu] at H
           exact absurd H (by simp)
          ·rw [if_neg Cu] at H
           have c20b0 : decide (Ao ≤ (wrap64 (Bp * (wrap64 (Aj - 1))))) = false := decide_eq_false Cu; clear Cu; have H' := Aside0.mk H; clear H
           go_wp2_with (first | ((with_reducible refine gate_callee (f := 25) rfl ?_); refine glE (some 66) Tryd.func25 #[.slice Dm Aq.length Dn, .int .i64 Av] ?_; (with_reducible refine (impl_KnotsADay.calls B8 _ _ Aq Av Bp true _ ?side1 ?side2 Fk.out).mono ?_); (case side1 => exact Z81); (case side2 => exact (Kd.R_reads' Bx.out).2.1); rintro e G7 ⟨rfl, hb⟩; refine ⟨_, rfl, ?_⟩; replace Bx := roB Bx hb; replace HB := hbS Z0 hb; (try clear hb)))
           go_meet
           case rel => exact ⟨_, H', ⟨Z107⟩, ⟨Z0⟩⟩
         ·rw [if_neg Cl] at H
          have c19b0 : decide (0 < Aj) = false := decide_eq_false Cl; clear Cl; have H' := Aside0.mk H; clear H
          go_wp2_with (first | ((with_reducible refine gate_callee (f := 25) rfl ?_); refine glE (some 66) Tryd.func25 #[.slice Dm Aq.length Dn, .int .i64 Av] ?_; (with_reducible refine (impl_KnotsADay.calls B8 _ _ Aq Av Bp true _ ?side1 ?side2 Fk.out).mono ?_); (case side1 => exact Z81); (case side2 => exact (Kd.R_reads' Bx.out).2.1); rintro e G8 ⟨rfl, hb⟩; refine ⟨_, rfl, ?_⟩; replace Bx := roB Bx hb; replace HB := hbS Z0 hb; (try clear hb)))
          go_meet
          case rel => exact ⟨_, H', ⟨Z107⟩, ⟨Z0⟩⟩
       ·replace Cs := Bool.eq_false_iff.mpr Cs
        subst Cs
        have H1 : (none) = some r := by rw [if_neg (show ¬ (false = true) by decide)] at H; exact H
        clear H; have H := H1; clear H1; exact absurd H (by simp)
      ·replace Cr := Bool.eq_false_iff.mpr Cr
       subst Cr
       have H1 : (laws_FnWeavers.j1 B8 l0) = some r := by rw [if_neg (show ¬ (false = true) by decide)] at H; exact H
       clear H; have H := H1; clear H1; have H' := Aside0.mk H; clear H
       go_wp2
       go_meet
       case rel => exact ⟨_, H', ⟨Z107⟩, ⟨Z0⟩⟩
     case rest =>
      clear C6; (try clear c1); (try clear c2); (try clear p2); (try clear c3); (try clear c4); (try clear c5); (try clear p6); (try clear Ch); (try clear c12b0); (try clear c12b1); (try clear Cq); (try clear D8); (try clear Cr); (try clear Cs); (try clear Ct); (try clear c18b0); (try clear Cl); (try clear c19b0); (try clear Cu); (try clear c20b0); (try clear p2); obtain ⟨kq, HA, HJ13, HB⟩ := hcut; cases kq with
      | zero => exact absurd HA.out (by simp [laws_FnWeavers.j1])
      | succ Ak =>
       have H := HA.out; clear HA
       simp only [laws_FnWeavers.j1] at H
       replace H := Option.bind_eq_some_iff.mp H; obtain ⟨⟨Bz, B0, B1⟩, Dr, H⟩ := H; replace H : ((impl_SeatWeaver.f Bz B0 B1).bind fun Cf => ((spec_SeatWeaver.f Ak Bz B0 B1).bind fun B2 => (if (Cf.2 != B2.2) = true then (laws_FnWeavers.j2 Ak l0 true) else ((laws_rWeavers.f Ak Cf.1 B2.1).bind fun B3 => (if B3 = true then (if Cf.2 = true then ((impl_AreWeavers.f Cf.1).bind fun Bg => (laws_FnWeavers.j2 Ak l0 (!Bg))) else (laws_FnWeavers.j2 Ak l0 false)) else (laws_FnWeavers.j2 Ak l0 true)))))) = some r := H; have Fw := Aside0.mk Dr; clear Dr; replace H := Option.bind_eq_some_iff.mp H; obtain ⟨⟨Bj, Bd⟩, Ds, H⟩ := H; replace H : ((spec_SeatWeaver.f Ak Bz B0 B1).bind fun B2 => (if (Bd != B2.2) = true then (laws_FnWeavers.j2 Ak l0 true) else ((laws_rWeavers.f Ak Bj B2.1).bind fun B3 => (if B3 = true then (if Bd = true then ((impl_AreWeavers.f Bj).bind fun Bg => (laws_FnWeavers.j2 Ak l0 (!Bg))) else (laws_FnWeavers.j2 Ak l0 false)) else (laws_FnWeavers.j2 Ak l0 true))))) = some r := H; have Fx := Aside0.mk Ds; clear Ds; replace H := Option.bind_eq_some_iff.mp H; obtain ⟨⟨Cm, Bq⟩, Dt, H⟩ := H; replace H : (if (Bd != Bq) = true then (laws_FnWeavers.j2 Ak l0 true) else ((laws_rWeavers.f Ak Bj Cm).bind fun B3 => (if B3 = true then (if Bd = true then ((impl_AreWeavers.f Bj).bind fun Bg => (laws_FnWeavers.j2 Ak l0 (!Bg))) else (laws_FnWeavers.j2 Ak l0 false)) else (laws_FnWeavers.j2 Ak l0 true)))) = some r := H; have Fy := Aside0.mk Dt; clear Dt; have C7 := Aside0.mk H; clear H
       go_upto_region 15 with (first | ((with_reducible refine gate_callee (f := 53) rfl ?_); refine glE (some 92) Tryd.func53 #[.slice A0 l0.length c0] ?_; (with_reducible refine (spec_DrawSeatWeaver.calls Ak _ _ l0 Bz B0 B1 _ ?side1 ?side2 Fw.out).mono ?_); (case side1 => exact Z76); (case side2 => exact Dl.out); rintro e G9 ⟨Fz, rfl, Bi, hb⟩; refine ⟨_, rfl, ?_⟩; have Aw := aM (Kd.R_lower Bi (below_size Z0)); replace HB := hbS Z0 hb; (try clear hb); (try clear Bi); obtain ⟨Du, Dv, Ek⟩ := Kd.R_slice Aw.out; subst Ek) | ((with_reducible refine gate_callee (f := 39) rfl ?_); refine glE (some 100) Tryd.func39 #[.slice Du Bz.length Dv, .int .i64 B0, .int .i64 B1] ?_; (with_reducible refine (impl_SeatWeaver.calls _ _ Bz B0 B1 Bj Bd _ ?side1 ?side2 Fx.out).mono ?_); (case side1 => exact Z82); (case side2 => exact (Kd.R_reads' Aw.out).2.1); rintro e Ha ⟨F0, rfl, Bi, hb⟩; refine ⟨_, rfl, ?_⟩; have Ap := aM (Kd.R_lower (Kd.R_new' Bi (Kd.R_lt Z69)) (below_size Z0)); replace Aw := aM (Kd.R_elder' Z69 (Kd.R_base Bi) hb); replace HB := hbS Z0 hb; (try clear hb); (try clear Bi)) | ((with_reducible refine gate_callee (f := 38) rfl ?_); refine glE (some 107) Tryd.func38 #[.slice Du Bz.length Dv, .int .i64 B0, .int .i64 B1] ?_; (with_reducible refine (spec_SeatWeaver.calls Ak _ _ Bz B0 B1 Cm Bq _ ?side1 ?side2 Fy.out).mono ?_); (case side1 => exact Z82); (case side2 => exact (Kd.R_reads' Aw.out).2.1); rintro e Hb ⟨F1, rfl, Bi, hb⟩; refine ⟨_, rfl, ?_⟩; have Ba := aM (Kd.R_lower (Kd.R_new' (Kd.R_new' Bi (Kd.R_lt Z69)) (Kd.R_lt Z103)) (below_size Z0)); replace Aw := aM (Kd.R_elder' Z69 (Kd.R_base Bi) hb); replace Ap := aM (Kd.R_elder' Z103 (Kd.R_base Bi) hb); replace HB := hbS Z0 hb; (try clear hb); (try clear Bi)))
       (try simp only [Act.put, List.setIfInBounds_toArray, List.set_cons_zero, List.set_cons_succ])
       go_cut [126] (fun El wc => ∃ (kq : Nat) (Bk : Bool), El = .bool Bk ∧ Aside0 (laws_FnWeavers.j2 kq l0 Bk = some r) ∧ Aside0 (kq ≤ Ak) ∧ Aside0 (Below w.heap.size w wc))
       case first => as_aux_lemma =>
        have H := C7.out; clear C7
        by_cases B9 : (Bd != Bq) = true
        ·rw [if_pos B9] at H
         have c31b0 : (Bd != Bq) = true := B9
         (try (have c31b1 : decide (Bd = Bq) = false := Z114))
         (try (have c31b2 : (Bd == Bq) = false := Z114))
         (try (have c31b3 : ¬ (Bd = Bq) := Z114))
         clear B9
         (first | rw [c31b0] | (simp only [i64_w, i32_w]; rw [c31b0]) | skip)
         have H' := Aside0.mk H; clear H
         go_wp2
         go_meet
         case rel => exact ⟨_, (true), Z15, H', ⟨Z93⟩, ⟨Z0⟩⟩
        ·rw [if_neg B9] at H
         have c31b0 : (Bd != Bq) = false := by simpa using B9
         (try (have c31b1 : decide (Bd = Bq) = true := Z114))
         (try (have c31b2 : (Bd == Bq) = true := Z114))
         clear B9
         (first | rw [c31b0] | (simp only [i64_w, i32_w]; rw [c31b0]) | skip)
         replace H := Option.bind_eq_some_iff.mp H; obtain ⟨B3, Dw, H⟩ := H; replace H : (if B3 = true then (if Bd = true then ((impl_AreWeavers.f Bj).bind fun Bg => (laws_FnWeavers.j2 Ak l0 (!Bg))) else (laws_FnWeavers.j2 Ak l0 false)) else (laws_FnWeavers.j2 Ak l0 true)) = some r := H; have Em := Aside0.mk Dw; clear Dw
         by_cases C2 : B3 = true
         ·subst C2
          have H1 : (if Bd = true then ((impl_AreWeavers.f Bj).bind fun Bg => (laws_FnWeavers.j2 Ak l0 (!Bg))) else (laws_FnWeavers.j2 Ak l0 false)) = some r := by rw [if_pos rfl] at H; exact H
          clear H; have H := H1; clear H1
          by_cases C3 : Bd = true
          ·subst C3
           have H1 : ((impl_AreWeavers.f Bj).bind fun Bg => (laws_FnWeavers.j2 Ak l0 (!Bg))) = some r := by rw [if_pos rfl] at H; exact H
           clear H; have H := H1; clear H1; replace H := Option.bind_eq_some_iff.mp H; obtain ⟨Bg, Dx, H⟩ := H; replace H : (laws_FnWeavers.j2 Ak l0 (!Bg)) = some r := H; have F2 := Aside0.mk Dx; clear Dx; have H' := Aside0.mk H; clear H; obtain ⟨F3, F4, En⟩ := Kd.R_slice Ap.out; subst En; obtain ⟨F5, F6, Eo⟩ := Kd.R_slice Ba.out; subst Eo
           go_wp2_with (first | (go_at_call 50; (with_reducible refine (laws_rWeavers.calls Ak _ _ Bj _ _ Cm true _ ?side1 ?side2 ?side3 ?side4 Em.out).mono ?_); (case side1 => exact Z54); (case side2 => exact (Kd.R_reads' Ap.out).2.1); (case side3 => exact Z62); (case side4 => exact (Kd.R_reads' Ba.out).2.1); rintro e w' ⟨rfl, ⟨nd, rfl⟩⟩) | (go_at_call 22; (with_reducible refine (impl_AreWeavers.calls _ _ Bj Bg _ ?side1 ?side2 F2.out).mono ?_); (case side1 => exact Z54); (case side2 => exact (Kd.R_reads' Ap.out).2.1); rintro e Hc ⟨rfl, hb⟩; replace Aw := roB Aw hb; replace Ap := roB Ap hb; replace Ba := roB Ba hb; replace HB := hbS Z0 hb; (try clear hb)))
           go_meet
           case rel => exact ⟨_, (!Bg), Z15, H', ⟨Z93⟩, ⟨Z0⟩⟩
          ·replace C3 := Bool.eq_false_iff.mpr C3
           subst C3
           have H1 : (laws_FnWeavers.j2 Ak l0 false) = some r := by rw [if_neg (show ¬ (false = true) by decide)] at H; exact H
           clear H; have H := H1; clear H1; have H' := Aside0.mk H; clear H; obtain ⟨F7, F8, Ep⟩ := Kd.R_slice Ap.out; subst Ep; obtain ⟨F9, Ga, Er⟩ := Kd.R_slice Ba.out; subst Er
           go_wp2_with (first | (go_at_call 50; (with_reducible refine (laws_rWeavers.calls Ak _ _ Bj _ _ Cm true _ ?side1 ?side2 ?side3 ?side4 Em.out).mono ?_); (case side1 => exact Z54); (case side2 => exact (Kd.R_reads' Ap.out).2.1); (case side3 => exact Z62); (case side4 => exact (Kd.R_reads' Ba.out).2.1); rintro e w' ⟨rfl, ⟨nd, rfl⟩⟩))
           go_meet
           case rel => exact ⟨_, (false), Z15, H', ⟨Z93⟩, ⟨Z0⟩⟩
         ·replace C2 := Bool.eq_false_iff.mpr C2
          subst C2
          have H1 : (laws_FnWeavers.j2 Ak l0 true) = some r := by rw [if_neg (show ¬ (false = true) by decide)] at H; exact H
          clear H; have H := H1; clear H1; have H' := Aside0.mk H; clear H; obtain ⟨Gb, Gc, Es⟩ := Kd.R_slice Ap.out; subst Es; obtain ⟨Gd, Ge, Et⟩ := Kd.R_slice Ba.out; subst Et
          go_wp2_with (first | (go_at_call 50; (with_reducible refine (laws_rWeavers.calls Ak _ _ Bj _ _ Cm false _ ?side1 ?side2 ?side3 ?side4 Em.out).mono ?_); (case side1 => exact Z54); (case side2 => exact (Kd.R_reads' Ap.out).2.1); (case side3 => exact Z62); (case side4 => exact (Kd.R_reads' Ba.out).2.1); rintro e w' ⟨rfl, ⟨nd, rfl⟩⟩))
          go_meet
          case rel => exact ⟨_, (true), Z15, H', ⟨Z93⟩, ⟨Z0⟩⟩
       case rest =>
        clear C7; (try clear c1); (try clear c2); (try clear p2); (try clear c3); (try clear c4); (try clear c5); (try clear p6); (try clear Ch); (try clear c12b0); (try clear c12b1); (try clear Cq); (try clear D8); (try clear Cr); (try clear Cs); (try clear Ct); (try clear c18b0); (try clear Cl); (try clear c19b0); (try clear Cu); (try clear c20b0); (try clear Eu); (try clear Ew); (try clear Ex); (try clear B9); (try clear c31b0); (try clear c31b1); (try clear c31b2); (try clear C2); (try clear C3); (try clear Ey); (try clear Ez); (try clear p2); (try clear p6); obtain ⟨kq, Bk, rfl, HA, HJ25, HB⟩ := hcut; cases kq with
        | zero => exact absurd HA.out (by simp [laws_FnWeavers.j2])
        | succ Ae =>
         have H := HA.out; clear HA
         simp only [laws_FnWeavers.j2] at H
         by_cases C8 : Bk = true
         ·subst C8
          have H1 : (none) = some r := by rw [if_pos rfl] at H; exact H
          clear H; have H := H1; clear H1; exact absurd H (by simp)
         ·replace C8 := Bool.eq_false_iff.mpr C8
          subst C8
          have H1 : ((spec_DrawLoomsUsed.f Ae l0).bind fun Aa => ((impl_LoomsUsed.f Ae Aa).bind fun Ag => ((spec_LoomsUsed.f Ae Aa).bind fun Bb => (if (Ag.2.2 != Bb.2.2) = true then (laws_FnWeavers.j3 Ae Aa Ag.1 Ag.2.1 Ag.2.2 true) else ((laws_rInts.f Ae Ag.1 Bb.1).bind fun Br => (if Br = true then ((laws_rInts.f Ae Ag.2.1 Bb.2.1).bind fun Bh => (laws_FnWeavers.j3 Ae Aa Ag.1 Ag.2.1 Ag.2.2 (!Bh))) else (laws_FnWeavers.j3 Ae Aa Ag.1 Ag.2.1 Ag.2.2 true))))))) = some r := by rw [if_neg (show ¬ (false = true) by decide)] at H; exact H
          clear H; have H := H1; clear H1; replace H := Option.bind_eq_some_iff.mp H; obtain ⟨Aa, Dy, H⟩ := H; replace H : ((impl_LoomsUsed.f Ae Aa).bind fun Ag => ((spec_LoomsUsed.f Ae Aa).bind fun Bb => (if (Ag.2.2 != Bb.2.2) = true then (laws_FnWeavers.j3 Ae Aa Ag.1 Ag.2.1 Ag.2.2 true) else ((laws_rInts.f Ae Ag.1 Bb.1).bind fun Br => (if Br = true then ((laws_rInts.f Ae Ag.2.1 Bb.2.1).bind fun Bh => (laws_FnWeavers.j3 Ae Aa Ag.1 Ag.2.1 Ag.2.2 (!Bh))) else (laws_FnWeavers.j3 Ae Aa Ag.1 Ag.2.1 Ag.2.2 true)))))) = some r := H; have Gf := Aside0.mk Dy; clear Dy; replace H := Option.bind_eq_some_iff.mp H; obtain ⟨⟨Al, Ai, Ah⟩, Dz, H⟩ := H; replace H : ((spec_LoomsUsed.f Ae Aa).bind fun Bb => (if (Ah != Bb.2.2) = true then (laws_FnWeavers.j3 Ae Aa Al Ai Ah true) else ((laws_rInts.f Ae Al Bb.1).bind fun Br => (if Br = true then ((laws_rInts.f Ae Ai Bb.2.1).bind fun Bh => (laws_FnWeavers.j3 Ae Aa Al Ai Ah (!Bh))) else (laws_FnWeavers.j3 Ae Aa Al Ai Ah true))))) = some r := H; have Gg := Aside0.mk Dz; clear Dz; replace H := Option.bind_eq_some_iff.mp H; obtain ⟨⟨Cv, Cn, Bs⟩, D0, H⟩ := H; replace H : (if (Ah != Bs) = true then (laws_FnWeavers.j3 Ae Aa Al Ai Ah true) else ((laws_rInts.f Ae Al Cv).bind fun Br => (if Br = true then ((laws_rInts.f Ae Ai Cn).bind fun Bh => (laws_FnWeavers.j3 Ae Aa Al Ai Ah (!Bh))) else (laws_FnWeavers.j3 Ae Aa Al Ai Ah true)))) = some r := H; have Gh := Aside0.mk D0; clear D0; have C9 := Aside0.mk H; clear H
          go_upto_region 20 with (first | ((with_reducible refine gate_callee (f := 54) rfl ?_); refine glE (some 128) Tryd.func54 #[.slice A0 l0.length c0] ?_; (with_reducible refine (spec_DrawLoomsUsed.calls Ae _ _ l0 Aa _ ?side1 ?side2 Gf.out).mono ?_); (case side1 => exact Z76); (case side2 => exact Dl.out); rintro e Hd ⟨Gi, rfl, Bi, hb⟩; refine ⟨_, rfl, ?_⟩; have Ay := aM (Kd.R_lower Bi (below_size Z0)); replace HB := hbS Z0 hb; (try clear hb); (try clear Bi); obtain ⟨Bv, Bw, E0⟩ := Kd.R_slice Ay.out; subst E0) | ((with_reducible refine gate_callee (f := 29) rfl ?_); refine glE (some 131) Tryd.func29 #[.slice Bv Aa.length Bw] ?_; (with_reducible refine (impl_LoomsUsed.calls Ae _ _ Aa Al Ai Ah _ ?side1 ?side2 Gg.out).mono ?_); (case side1 => exact Z83); (case side2 => exact (Kd.R_reads' Ay.out).2.1); rintro e He ⟨Ci, Cj, rfl, Bi, Da, hb⟩; refine ⟨_, rfl, ?_⟩; replace Ay := roB Ay hb; have Ax := aM (Kd.R_lower Bi (below_size Z0)); have Bf := aM (Kd.R_lower Da (below_size Z0)); replace HB := hbS Z0 hb; (try clear hb); (try clear Bi); (try clear Da)) | ((with_reducible refine gate_callee (f := 28) rfl ?_); refine glE (some 137) Tryd.func28 #[.slice Bv Aa.length Bw] ?_; (with_reducible refine (spec_LoomsUsed.calls Ae _ _ Aa Cv Cn Bs _ ?side1 ?side2 Gh.out).mono ?_); (case side1 => exact Z83); (case side2 => exact (Kd.R_reads' Ay.out).2.1); rintro e Hf ⟨Gj, Gk, rfl, Bi, Da, hb⟩; refine ⟨_, rfl, ?_⟩; replace Ay := roB Ay hb; have Bu := aM (Kd.R_lower (Kd.R_new' (Kd.R_new' Bi (Kd.R_lt Z91)) (Kd.R_lt Z68)) (below_size Z0)); have Co := aM (Kd.R_lower (Kd.R_new' (Kd.R_new' Da (Kd.R_lt Z91)) (Kd.R_lt Z68)) (below_size Z0)); replace Ax := aM (Kd.R_mono (Kd.R_told (Kd.R_told (Kd.R_old Z91 hb) (Kd.R_base Bi)) (Kd.R_base Da)) (fun _ h_ => h_.1)); replace Bf := aM (Kd.R_mono (Kd.R_told (Kd.R_told (Kd.R_old Z68 hb) (Kd.R_base Bi)) (Kd.R_base Da)) (fun _ h_ => h_.1)); replace HB := hbS Z0 hb; (try clear hb); (try clear Bi); (try clear Da)))
          (try simp only [Act.put, List.setIfInBounds_toArray, List.set_cons_zero, List.set_cons_succ])
          go_cut [155] (fun E2 wc => ∃ (kq : Nat) (Bl : Bool), E2 = .bool Bl ∧ Aside0 (laws_FnWeavers.j3 kq Aa Al Ai Ah Bl = some r) ∧ Aside0 (kq ≤ Ae) ∧ Aside0 (Kd.R k26 26 wc w.heap.size (fun _ => True) (.slice Bv Aa.length Bw) Aa) ∧ Aside0 (Kd.R (Kd.int .i64) 3 wc w.heap.size (fun k_ => nV k_ Cj) Ci Al) ∧ Aside0 (Kd.R (Kd.int .i64) 3 wc w.heap.size (fun k_ => nV k_ Ci) Cj Ai) ∧ Aside0 (Below w.heap.size w wc))
          case first => as_aux_lemma =>
           have H := C9.out; clear C9
           by_cases Cg : (Ah != Bs) = true
           ·rw [if_pos Cg] at H
            have c52b0 : (Ah != Bs) = true := Cg
            (try (have c52b1 : decide (Ah = Bs) = false := Z115))
            (try (have c52b2 : (Ah == Bs) = false := Z115))
            (try (have c52b3 : ¬ (Ah = Bs) := Z115))
            clear Cg
            (first | rw [c52b0] | (simp only [i64_w, i32_w]; rw [c52b0]) | skip)
            have H' := Aside0.mk H; clear H
            go_wp2
            go_meet
            case rel => exact ⟨_, (true), Z15, H', ⟨Z95⟩, ⟨Z92⟩, ⟨Z71⟩, ⟨Z72⟩, ⟨Z0⟩⟩
           ·rw [if_neg Cg] at H
            have c52b0 : (Ah != Bs) = false := by simpa using Cg
            (try (have c52b1 : decide (Ah = Bs) = true := Z115))
            (try (have c52b2 : (Ah == Bs) = true := Z115))
            clear Cg
            (first | rw [c52b0] | (simp only [i64_w, i32_w]; rw [c52b0]) | skip)
            replace H := Option.bind_eq_some_iff.mp H; obtain ⟨Br, D1, H⟩ := H; replace H : (if Br = true then ((laws_rInts.f Ae Ai Cn).bind fun Bh => (laws_FnWeavers.j3 Ae Aa Al Ai Ah (!Bh))) else (laws_FnWeavers.j3 Ae Aa Al Ai Ah true)) = some r := H; have Fl := Aside0.mk D1; clear D1
            by_cases Db : Br = true
            ·subst Db
             have H1 : ((laws_rInts.f Ae Ai Cn).bind fun Bh => (laws_FnWeavers.j3 Ae Aa Al Ai Ah (!Bh))) = some r := by rw [if_pos rfl] at H; exact H
             clear H; have H := H1; clear H1; replace H := Option.bind_eq_some_iff.mp H; obtain ⟨Bh, D2, H⟩ := H; replace H : (laws_FnWeavers.j3 Ae Aa Al Ai Ah (!Bh)) = some r := H; have Gl := Aside0.mk D2; clear D2; have H' := Aside0.mk H; clear H; obtain ⟨Gm, Gn, E3⟩ := Kd.R_slice Ax.out; subst E3; obtain ⟨Gp, Gq, E4⟩ := Kd.R_slice Bu.out; subst E4
             go_wp2_with (first | (go_at_call 47; (with_reducible refine (laws_rInts.calls Ae _ _ Al _ _ Cv true _ ?side1 ?side2 ?side3 ?side4 Fl.out).mono ?_); (case side1 => exact Z84); (case side2 => exact (Kd.R_reads' Ax.out).2.1); (case side3 => exact Z85); (case side4 => exact (Kd.R_reads' Bu.out).2.1); rintro e w' ⟨rfl, ⟨nd, rfl⟩⟩; obtain ⟨Gr, Gs, E5⟩ := Kd.R_slice Bf.out; subst E5; obtain ⟨Gt, Gu, E6⟩ := Kd.R_slice Co.out; subst E6) | (go_at_call 47; (with_reducible refine (laws_rInts.calls Ae _ _ Ai _ _ Cn Bh _ ?side1 ?side2 ?side3 ?side4 Gl.out).mono ?_); (case side1 => exact (by repeat (first | exact (Kd.R_reads' Bf.out).2.2 | (with_reducible refine Kd.C_alloc ?_ _) | (with_reducible refine Kd.C_drewN ?_ _) | (with_reducible refine Kd.C_drew ?_)))); (case side2 => exact (Kd.R_reads' Bf.out).2.1); (case side3 => exact (by repeat (first | exact (Kd.R_reads' Co.out).2.2 | (with_reducible refine Kd.C_alloc ?_ _) | (with_reducible refine Kd.C_drewN ?_ _) | (with_reducible refine Kd.C_drew ?_)))); (case side4 => exact (Kd.R_reads' Co.out).2.1); rintro e w' ⟨rfl, ⟨nd, rfl⟩⟩))
             go_meet
             case rel => exact ⟨_, (!Bh), Z15, H', ⟨Z95⟩, ⟨Z92⟩, ⟨Z71⟩, ⟨Z72⟩, ⟨Z0⟩⟩
            ·replace Db := Bool.eq_false_iff.mpr Db
             subst Db
             have H1 : (laws_FnWeavers.j3 Ae Aa Al Ai Ah true) = some r := by rw [if_neg (show ¬ (false = true) by decide)] at H; exact H
             clear H; have H := H1; clear H1; have H' := Aside0.mk H; clear H; obtain ⟨Gv, Gw, E7⟩ := Kd.R_slice Ax.out; subst E7; obtain ⟨Gx, Gy, E8⟩ := Kd.R_slice Bu.out; subst E8
             go_wp2_with (first | (go_at_call 47; (with_reducible refine (laws_rInts.calls Ae _ _ Al _ _ Cv false _ ?side1 ?side2 ?side3 ?side4 Fl.out).mono ?_); (case side1 => exact Z84); (case side2 => exact (Kd.R_reads' Ax.out).2.1); (case side3 => exact Z85); (case side4 => exact (Kd.R_reads' Bu.out).2.1); rintro e w' ⟨rfl, ⟨nd, rfl⟩⟩))
             go_meet
             case rel => exact ⟨_, (true), Z15, H', ⟨Z95⟩, ⟨Z92⟩, ⟨Z71⟩, ⟨Z72⟩, ⟨Z0⟩⟩
          case rest =>
           clear C9; (try clear c1); (try clear c2); (try clear p2); (try clear c3); (try clear c4); (try clear c5); (try clear p6); (try clear Ch); (try clear c12b0); (try clear c12b1); (try clear Cq); (try clear D8); (try clear Cr); (try clear Cs); (try clear Ct); (try clear c18b0); (try clear Cl); (try clear c19b0); (try clear Cu); (try clear c20b0); (try clear Eu); (try clear Ew); (try clear Ex); (try clear Fm); (try clear Fo); (try clear B9); (try clear c31b0); (try clear c31b1); (try clear c31b2); (try clear C2); (try clear C3); (try clear Ey); (try clear Ez); (try clear C8); (try clear Fp); (try clear Cg); (try clear c52b0); (try clear c52b1); (try clear c52b2); (try clear Fq); (try clear Db); (try clear p2); (try clear p6); obtain ⟨kq, Bl, rfl, HA, HJ46, Af, Am, An, HB⟩ := hcut; cases kq with
           | zero => exact absurd HA.out (by simp [laws_FnWeavers.j3])
           | succ Dc =>
            have H := HA.out; clear HA
            simp only [laws_FnWeavers.j3] at H
            by_cases Dh : Bl = true
            ·subst Dh
             have H1 : (none) = some r := by rw [if_pos rfl] at H; exact H
             clear H; have H := H1; clear H1; exact absurd H (by simp)
            ·replace Dh := Bool.eq_false_iff.mpr Dh
             subst Dh
             have H1 : (laws_FnWeavers.l0 Dc Aa Al Ai Ah 0 0) = some r := by rw [if_neg (show ¬ (false = true) by decide)] at H; exact H
             clear H; have H := H1; clear H1; have H' := Aside0.mk H; clear H
             go_wp2
             go_loopg [26, 27] Dc (fun kq Gz G0 w' => ∃ (Ar : Int) (Ac : Int), Gz = .int .i64 Ar ∧ G0 = .int .i64 Ac ∧ Aside0 (laws_FnWeavers.l0 kq Aa Al Ai Ah Ar Ac = some r) ∧ Aside0 (kq ≤ Dc) ∧ Aside0 (Kd.R k26 26 w' w.heap.size (fun _ => True) (.slice Bv Aa.length Bw) Aa) ∧ Aside0 (Kd.R (Kd.int .i64) 3 w' w.heap.size (fun k_ => nV k_ Cj) Ci Al) ∧ Aside0 (Kd.R (Kd.int .i64) 3 w' w.heap.size (fun k_ => nV k_ Ci) Cj Ai) ∧ Aside0 (Below w.heap.size w w'))
             case atStart => exact ⟨(0), (0), Z15, Z15, H', ⟨Nat.le_refl _⟩, ⟨Z21⟩, ⟨Z27⟩, ⟨Z46⟩, ⟨Z0⟩⟩
             case round =>
              clear H'; (try clear c1); (try clear c2); (try clear p2); (try clear c3); (try clear c4); (try clear c5); (try clear c6); (try clear p6); (try clear Ch); (try clear c12b0); (try clear c12b1); (try clear Cq); (try clear D8); (try clear Cr); (try clear Cs); (try clear Ct); (try clear c18b0); (try clear Cl); (try clear c19b0); (try clear Cu); (try clear c20b0); (try clear Eu); (try clear Ew); (try clear Ex); (try clear Fm); (try clear Fo); (try clear B9); (try clear c31b0); (try clear c31b1); (try clear c31b2); (try clear C2); (try clear C3); (try clear Ey); (try clear Ez); (try clear C8); (try clear Fp); (try clear Cg); (try clear c52b0); (try clear c52b1); (try clear c52b2); (try clear Fq); (try clear Db); (try clear Dh); (try clear p2); (try clear p6); obtain ⟨Ar, Ac, rfl, rfl, HA, HK5, Af, Am, An, HB⟩ := hrel; cases gk with
              | zero => exact absurd HA.out (by simp [laws_FnWeavers.l0])
              | succ k5 =>
               have H := HA.out; clear HA
               simp only [laws_FnWeavers.l0] at H
               have Dd := Aside0.mk H; clear H
               go_upto_region 24 with (fail)
               go_cut [162] (fun E9 wc => ∃ (kq : Nat) (Bm : Bool), E9 = .bool Bm ∧ Aside0 (laws_FnWeavers.j5 kq Aa Al Ai Ah Ar Ac Bm = some r) ∧ Aside0 (kq ≤ k5) ∧ Aside0 (Kd.R k26 26 wc w.heap.size (fun _ => True) (.slice Bv Aa.length Bw) Aa) ∧ Aside0 (Kd.R (Kd.int .i64) 3 wc w.heap.size (fun k_ => nV k_ Cj) Ci Al) ∧ Aside0 (Kd.R (Kd.int .i64) 3 wc w.heap.size (fun k_ => nV k_ Ci) Cj Ai) ∧ Aside0 (Below w.heap.size w wc))
               case first => as_aux_lemma =>
                have H := Dd.out; clear Dd
                by_cases De : Ac < (Aa.length : Int)
                ·rw [if_pos De] at H
                 have c64b0 : decide (Ac < (Aa.length : Int)) = true := decide_eq_true De; clear De
                 (first | rw [c64b0] | (simp only [i64_w, i32_w]; rw [c64b0]) | skip)
                 have H' := Aside0.mk H; clear H
                 go_wp2
                 go_meet
                 case rel => exact ⟨_, (Ah), Z15, H', ⟨Z99⟩, ⟨Z21⟩, ⟨Z27⟩, ⟨Z46⟩, ⟨Z0⟩⟩
                ·rw [if_neg De] at H
                 have c64b0 : decide (Ac < (Aa.length : Int)) = false := decide_eq_false De; clear De
                 (first | rw [c64b0] | (simp only [i64_w, i32_w]; rw [c64b0]) | skip)
                 have H' := Aside0.mk H; clear H
                 go_wp2
                 go_meet
                 case rel => exact ⟨_, (false), Z15, H', ⟨Z99⟩, ⟨Z21⟩, ⟨Z27⟩, ⟨Z46⟩, ⟨Z0⟩⟩
               case rest =>
                clear Dd; (try clear c1); (try clear c2); (try clear p2); (try clear c3); (try clear c4); (try clear c5); (try clear c6); (try clear p6); (try clear Ch); (try clear c12b0); (try clear c12b1); (try clear Cq); (try clear D8); (try clear Cr); (try clear Cs); (try clear Ct); (try clear c18b0); (try clear Cl); (try clear c19b0); (try clear Cu); (try clear c20b0); (try clear Eu); (try clear Ew); (try clear Ex); (try clear Fm); (try clear Fo); (try clear B9); (try clear c31b0); (try clear c31b1); (try clear c31b2); (try clear C2); (try clear C3); (try clear Ey); (try clear Ez); (try clear C8); (try clear Fp); (try clear Cg); (try clear c52b0); (try clear c52b1); (try clear c52b2); (try clear Fq); (try clear Db); (try clear Dh); (try clear De); (try clear c64b0); (try clear Hg); (try clear p2); (try clear p6); obtain ⟨kq, Bm, rfl, HA, HJ62, Af, Am, An, HB⟩ := hcut; cases kq with
                | zero => exact absurd HA.out (by simp [laws_FnWeavers.j5])
                | succ Bc =>
                 have H := HA.out; clear HA
                 simp only [laws_FnWeavers.j5] at H
                 by_cases D9 : Bm = true
                 ·subst D9
                  have H1 : (if 0 ≤ Ac then (if Ac < (Aa.length : Int) then (if ((rd_T26 Aa Ac).f4) > 0 then ((laws_rHas.f Bc Al ((rd_T26 Aa Ac).f4)).bind fun Cw => (if Cw = true then (laws_FnWeavers.l0 Bc Aa Al Ai Ah (wrap64 (Ar + 1)) (wrap64 (Ac + 1))) else (none))) else (laws_FnWeavers.l0 Bc Aa Al Ai Ah Ar (wrap64 (Ac + 1)))) else (none)) else (none)) = some r := by rw [if_pos rfl] at H; exact H
                  clear H; have H := H1; clear H1
                  by_cases Ea : 0 ≤ Ac
                  ·rw [if_pos Ea] at H
                   have c66b0 : decide (0 ≤ Ac) = true := decide_eq_true Ea; clear Ea
                   by_cases Eb : Ac < (Aa.length : Int)
                   ·rw [if_pos Eb] at H
                    have c67b0 : decide (Ac < (Aa.length : Int)) = true := decide_eq_true Eb; clear Eb
                    by_cases Di : ((rd_T26 Aa Ac).f4) > 0
                    ·rw [if_pos Di] at H
                     have c68b0 : decide (0 < ((rd_T26 Aa Ac).f4)) = true := decide_eq_true Di; clear Di; replace H := Option.bind_eq_some_iff.mp H; obtain ⟨Cw, D3, H⟩ := H; replace H : (if Cw = true then (laws_FnWeavers.l0 Bc Aa Al Ai Ah (wrap64 (Ar + 1)) (wrap64 (Ac + 1))) else (none)) = some r := H; have G1 := Aside0.mk D3; clear D3
                     by_cases Ec : Cw = true
                     ·subst Ec
                      have H1 : (laws_FnWeavers.l0 Bc Aa Al Ai Ah (wrap64 (Ar + 1)) (wrap64 (Ac + 1))) = some r := by rw [if_pos rfl] at H; exact H
                      clear H; have H := H1; clear H1; have H' := Aside0.mk H; clear H; have Ca : 0 ≤ (Ac : Int) := of_decide_eq_true Z11; have Cb : Ac < (Aa.length : Int) := of_decide_eq_true Z11; obtain ⟨ad457, e457, Cx, Cy, Cz, C0, C1⟩ := at_T26 (Kd.R_reads' Af.out).2.2 Ac Ca Cb; cases e457; replace Ca := eq_true Ca; replace Cb := eq_true Cb; have Df : 0 ≤ (Ac : Int) := of_decide_eq_true Z11; have Dg : Ac < (Aa.length : Int) := of_decide_eq_true Z11; obtain ⟨ad458, e458, Ed, Ee, Ef, Eg, Eh⟩ := at_T26 (Kd.R_reads' Af.out).2.2 Ac Df Dg; obtain rfl : ad457 = ad458 := (by injection e458); replace Df := eq_true Df; replace Dg := eq_true Dg; obtain ⟨Fa, Fb, Fc⟩ := Kd.R_slice Am.out; subst Fc
                      go_wp2_with (first | ((with_reducible refine gate_callee (f := 48) rfl ?_); refine glE (some 179) Tryd.func48 #[.slice Fa Al.length Fb, .int .i64 ((rd_T26 Aa Ac).f4)] ?_; (with_reducible refine (laws_rHas.calls Bc _ _ Al ((rd_T26 Aa Ac).f4) true _ ?side1 ?side2 G1.out).mono ?_); (case side1 => exact Z35); (case side2 => exact (Kd.R_reads' Am.out).2.1); rintro e w' ⟨rfl, ⟨nd, rfl⟩⟩; refine ⟨_, rfl, ?_⟩))
                      go_roundg Bc
                      case measure => have := HJ6.out; have := HJ13.out; have := HJ25.out; have := HJ46.out; have := HK5.out; have := HJ62.out; omega
                      case rel => exact ⟨(wrap64 (Ar + 1)), (wrap64 (Ac + 1)), Z15, Z15, H', ⟨Z101⟩, ⟨Z21⟩, ⟨Z27⟩, ⟨Z46⟩, ⟨Z0⟩⟩
                     ·replace Ec := Bool.eq_false_iff.mpr Ec
                      subst Ec
                      have H1 : (none) = some r := by rw [if_neg (show ¬ (false = true) by decide)] at H; exact H
                      clear H; have H := H1; clear H1; exact absurd H (by simp)
                    ·rw [if_neg Di] at H
                     have c68b0 : decide (0 < ((rd_T26 Aa Ac).f4)) = false := decide_eq_false Di; clear Di; have H' := Aside0.mk H; clear H; have Ca : 0 ≤ (Ac : Int) := of_decide_eq_true Z11; have Cb : Ac < (Aa.length : Int) := of_decide_eq_true Z11; obtain ⟨ad457, e457, Cx, Cy, Cz, C0, C1⟩ := at_T26 (Kd.R_reads' Af.out).2.2 Ac Ca Cb; cases e457; replace Ca := eq_true Ca; replace Cb := eq_true Cb
                     go_wp2
                     go_roundg Bc
                     case measure => have := HJ6.out; have := HJ13.out; have := HJ25.out; have := HJ46.out; have := HK5.out; have := HJ62.out; omega
                     case rel => exact ⟨(Ar), (wrap64 (Ac + 1)), Z15, Z15, H', ⟨Z101⟩, ⟨Z21⟩, ⟨Z27⟩, ⟨Z46⟩, ⟨Z0⟩⟩
                   ·rw [if_neg Eb] at H
                    exact absurd H (by simp)
                  ·rw [if_neg Ea] at H
                   exact absurd H (by simp)
                 ·replace D9 := Bool.eq_false_iff.mpr D9
                  subst D9
                  have H1 : ((impl_FastestFree.f Aa).bind fun C4 => ((spec_FastestFree.f Bc Aa).bind fun B4 => (if C4.1 = B4.1 then (if (C4.2 == B4.2) = true then (if Ah = true then ((laws_rSum.f Bc Ai).bind fun Bt => (some (Bt == Ar))) else (some true)) else (none)) else (none)))) = some r := by rw [if_neg (show ¬ (false = true) by decide)] at H; exact H
                  clear H; have H := H1; clear H1; replace H := Option.bind_eq_some_iff.mp H; obtain ⟨⟨Cc, B6⟩, D4, H⟩ := H; replace H : ((spec_FastestFree.f Bc Aa).bind fun B4 => (if Cc = B4.1 then (if (B6 == B4.2) = true then (if Ah = true then ((laws_rSum.f Bc Ai).bind fun Bt => (some (Bt == Ar))) else (some true)) else (none)) else (none))) = some r := H; have Fr := Aside0.mk D4; clear D4; replace H := Option.bind_eq_some_iff.mp H; obtain ⟨⟨Ck, Cd⟩, D5, H⟩ := H; replace H : (if Cc = Ck then (if (B6 == Cd) = true then (if Ah = true then ((laws_rSum.f Bc Ai).bind fun Bt => (some (Bt == Ar))) else (some true)) else (none)) else (none)) = some r := H; have Fs := Aside0.mk D5; clear D5
                  by_cases D6 : Cc = Ck
                  ·rw [if_pos D6] at H
                   have c74b0 : (Cc == Ck) = true := beq_iff_eq.mpr D6; have c74b1 : (Cc != Ck) = false := bne_eq_false_iff_eq.mpr D6; clear D6
                   by_cases Dj : (B6 == Cd) = true
                   ·rw [if_pos Dj] at H
                    have c75b0 : (B6 == Cd) = true := Dj
                    (try (have c75b1 : decide (B6 = Cd) = true := by simpa using Dj))
                    (try (have c75b2 : (B6 == Cd) = true := by simpa using Dj))
                    clear Dj
                    by_cases Ei : Ah = true
                    ·subst Ei
                     have H1 : ((laws_rSum.f Bc Ai).bind fun Bt => (some (Bt == Ar))) = some r := by rw [if_pos rfl] at H; exact H
                     clear H; have H := H1; clear H1; replace H := Option.bind_eq_some_iff.mp H; obtain ⟨Bt, D7, H⟩ := H; replace H : (some (Bt == Ar)) = some r := H; have G2 := Aside0.mk D7; clear D7; obtain rfl := Option.some.inj H
                     go_wp2_with (first | ((with_reducible refine gate_callee (f := 37) rfl ?_); refine glE (some 183) Tryd.func37 #[.slice Bv Aa.length Bw] ?_; (with_reducible refine (impl_FastestFree.calls _ _ Aa Cc B6 _ ?side1 ?side2 Fr.out).mono ?_); (case side1 => exact Z28); (case side2 => exact (Kd.R_reads' Af.out).2.1); rintro e Hh ⟨rfl, hb⟩; refine ⟨_, rfl, ?_⟩; replace Af := roB Af hb; replace Am := roB Am hb; replace An := roB An hb; replace HB := hbS Z0 hb; (try clear hb)) | ((with_reducible refine gate_callee (f := 36) rfl ?_); refine glE (some 188) Tryd.func36 #[.slice Bv Aa.length Bw] ?_; (with_reducible refine (spec_FastestFree.calls Bc _ _ Aa Ck Cd _ ?side1 ?side2 Fs.out).mono ?_); (case side1 => exact Z28); (case side2 => exact (Kd.R_reads' Af.out).2.1); rintro e Hi ⟨rfl, hb⟩; refine ⟨_, rfl, ?_⟩; replace Af := roB Af hb; replace Am := roB Am hb; replace An := roB An hb; replace HB := hbS Z0 hb; (try clear hb); obtain ⟨G3, G4, Fd⟩ := Kd.R_slice An.out; subst Fd) | (go_at_call 55; (with_reducible refine (laws_rSum.calls Bc _ _ Ai Bt _ ?side1 ?side2 G2.out).mono ?_); (case side1 => exact (by repeat (first | exact (Kd.R_reads' An.out).2.2 | (with_reducible refine Kd.C_alloc ?_ _) | (with_reducible refine Kd.C_drewN ?_ _) | (with_reducible refine Kd.C_drew ?_)))); (case side2 => exact (Kd.R_reads' An.out).2.1); rintro e w' ⟨rfl, ⟨nd, rfl⟩⟩))
                     go_ret
                     exact ⟨Z13, Z0⟩
                    ·replace Ei := Bool.eq_false_iff.mpr Ei
                     subst Ei
                     have H1 : (some true) = some r := by rw [if_neg (show ¬ (false = true) by decide)] at H; exact H
                     clear H; have H := H1; clear H1; obtain rfl := Option.some.inj H
                     go_wp2_with (first | ((with_reducible refine gate_callee (f := 37) rfl ?_); refine glE (some 183) Tryd.func37 #[.slice Bv Aa.length Bw] ?_; (with_reducible refine (impl_FastestFree.calls _ _ Aa Cc B6 _ ?side1 ?side2 Fr.out).mono ?_); (case side1 => exact Z28); (case side2 => exact (Kd.R_reads' Af.out).2.1); rintro e Hj ⟨rfl, hb⟩; refine ⟨_, rfl, ?_⟩; replace Af := roB Af hb; replace Am := roB Am hb; replace An := roB An hb; replace HB := hbS Z0 hb; (try clear hb)) | ((with_reducible refine gate_callee (f := 36) rfl ?_); refine glE (some 188) Tryd.func36 #[.slice Bv Aa.length Bw] ?_; (with_reducible refine (spec_FastestFree.calls Bc _ _ Aa Ck Cd _ ?side1 ?side2 Fs.out).mono ?_); (case side1 => exact Z28); (case side2 => exact (Kd.R_reads' Af.out).2.1); rintro e Hk ⟨rfl, hb⟩; refine ⟨_, rfl, ?_⟩; replace Af := roB Af hb; replace Am := roB Am hb; replace An := roB An hb; replace HB := hbS Z0 hb; (try clear hb)))
                     go_ret
                     exact ⟨Z13, Z0⟩
                   ·rw [if_neg Dj] at H
                    exact absurd H (by simp)
                  ·rw [if_neg D6] at H
                   exact absurd H (by simp)
end Go.Proofs.YthalifhbjioaeaaDoor.H
