-- by wip/pack.py of this repo
import Derived.Test.YtedjeeicpppplaaDoorZ00Hx0
import Derived.Test.YtedjeeicpppplaaDoorZ00Hx1
import Derived.Test.YtedjeeicpppplaaDoorZ00Hx2
import Derived.Test.YtedjeeicpppplaaDoorZ00Hx3
import Derived.Test.YtedjeeicpppplaaDoorZ00WLast
import Derived.Test.YtedjeeicpppplaaDoorZ00WMore
import Derived.Test.YtedjeeicpppplaaDoorZ00WRepsOne
import Derived.Test.YtedjeeicpppplaaDoorZ00WTab
import Derived.Test.YtedjeeicpppplaaDoorZ00WWords
import Derived.Test.YtedjeeicpppplaaDoorZ00Short
namespace Go.Proofs.YtedjeeicpppplaaDoor.H
open Go.RowKit Go.Proofs.YtedjeeicpppplaaDoorW.PrintWords Go.Proofs.YtedjeeicpppplaaDoorW.PrintLast Go.Proofs.YtedjeeicpppplaaDoorW.PrintMore
attribute [local go_sem] max2_int min2_int max_two min_two max_three min_three max_four min_four
set_option maxHeartbeats 8000000
set_option maxRecDepth 100000
set_option linter.unusedVariables false
set_option linter.unusedSimpArgs false
def spec_l1Cur_one.f (s0_0 : List Int) (s0_1 : Int) (s0_2 : Int) (a1 : Int) : Option (Bool × Int × Int) := (spec_l1Cur_pick.f s0_0 s0_1 s0_2 a1).bind fun bt190 => (some ((bt190.1 == 0), bt190.2.1, bt190.2.2))
theorem spec_l1Cur_one.calls (g : Nat) (Aa : List Int) (Ac : Int) (Ad : Int) (a1 : Int) (r1 : Bool) (r2 : Int) (r3 : Int) (w0 w : World) (hI : IsS44 w0 w g Aa Ac Ad) (hB : Below w0.heap.size w0 w) (h : spec_l1Cur_one.f Aa Ac Ad a1 = some (r1, r2, r3)) :
  Calls Tryd.prog 47 #[.pointer (some ⟨g, 0, none⟩), .int .i64 a1] w fun e w' => e = .returned (.bool r1) ∧ IsS44 w0 w' g Aa r2 r3 ∧ Below w0.heap.size w0 w' ∧ KeepBut w w' g none := by
 have HI0 := Aside0.mk hI; have HK := aM (KeepBut.refl w g none); have HL := Aside0.mk hB.size; clear hI; have Ai := Aside0.mk hB.size; have HB := Aside0.mk hB; clear hB; have H : ((spec_l1Cur_pick.f Aa Ac Ad a1).bind fun Ab => (some ((Ab.1 == 0), Ab.2.1, Ab.2.2))) = some (r1, r2, r3) := h; clear h; replace H := Option.bind_eq_some_iff.mp H; obtain ⟨⟨Ae, Af, Ag⟩, Ah, H⟩ := H; replace H : (some ((Ae == 0), Af, Ag)) = some (r1, r2, r3) := H; have A3 := Aside0.mk Ah; clear Ah
 simp only [Option.some.injEq, Prod.mk.injEq] at H
 obtain ⟨rfl, rfl, rfl⟩ := H
 go_enter Tryd.func47, Tryd.ntmps47
 go_wp2_with (first | ((with_reducible refine gate_callee (f := 21) rfl ?_); refine glE (some 7) Tryd.func21 #[.pointer (some ⟨g, 0, none⟩), .int .i64 a1] ?_; (with_reducible refine (spec_l1Cur_pick.calls g Aa Ac Ad a1 Ae Af Ag w0 _ ?side1 ?side2 A3.out).mono ?_); (case side1 => exact Z3); (case side2 => exact Z10); rintro e w4 ⟨rfl, hi, hb, hk⟩; refine ⟨_, rfl, ?_⟩; replace HK := aM (KeepBut.trans Z6 hk (.inl rfl)); replace HB := aM (hb); replace HI0 := aM (hi); (try clear hb); (try clear hk); (try clear hi)))
 go_ret
 exact ⟨Z39, Z3, Z10, Z6⟩
mutual
def spec_l1Cur_shadeCard.l0 : Nat → List (S30) → Int → Int → List Int → Int → Int → Option ((List (S30)) × Int × Int)
 | 0, _, _, _, _, _, _ => none
 | k + 1, x3, x4, x5, x1000, x1001, x1002 => if x5 > 0 then ((spec_l1Cur_pick.f x1000 x1001 x1002 3).bind fun bt199 => ((some (([] : List (S30)) : List (S30))).bind fun y202 => (if y202.length + x3.length < 2932031007402 then ((some (y202 ++ x3 : List (S30))).bind fun y205 => ((spec_l1Cur_shade.f x1000 bt199.2.1 bt199.2.2 (wrap64 ((wrap64 (x4 + 1)) + bt199.1))).bind fun bt208 => (if y205.length < 2932031007402 then ((some (y205 ++ [(⟨bt208.1, bt208.2.1, bt208.2.2.1, bt208.2.2.2.1, bt208.2.2.2.2.1⟩ : S30)] : List (S30))).bind fun y215 => ((spec_l3Good.f k y215).bind fun t218 => (if t218 = true then (spec_l1Cur_shadeCard.l0 k y215 (wrap64 ((wrap64 (x4 + 1)) + bt199.1)) (wrap64 (x5 - 1)) x1000 bt208.2.2.2.2.2.1 bt208.2.2.2.2.2.2) else ((spec_l1Cur_one.f x1000 bt208.2.2.2.2.2.1 bt208.2.2.2.2.2.2 40).bind fun bt219 => (if bt219.1 = true then (spec_l1Cur_shadeCard.l0 k y215 (wrap64 ((wrap64 (x4 + 1)) + bt199.1)) (wrap64 (x5 - 1)) x1000 bt219.2.1 bt219.2.2) else (spec_l1Cur_shadeCard.l0 k x3 (wrap64 ((wrap64 (x4 + 1)) + bt199.1)) (wrap64 (x5 - 1)) x1000 bt219.2.1 bt219.2.2)))))) else (none)))) else (none)))) else ((spec_l1Cur_one.f x1000 x1001 x1002 24).bind fun bt222 => (if bt222.1 = true then (spec_l1Cur_shadeCard.l1 k (([] : List (S30))) 0 x1000 bt222.2.1 bt222.2.2) else (some (x3, bt222.2.1, bt222.2.2))))
def spec_l1Cur_shadeCard.l1 : Nat → List (S30) → Int → List Int → Int → Int → Option ((List (S30)) × Int × Int)
 | 0, _, _, _, _, _ => none
 | k + 1, x3, x7, x1000, x1001, x1002 => (spec_l1Cur_pick.f x1000 x1001 x1002 2).bind fun bt228 => (if x7 < (wrap64 (10 + bt228.1)) then (if x3.length < 2932031007402 then (spec_l1Cur_shadeCard.l1 k (x3 ++ [(⟨wrap64 (x7 + 1), strOfNums (([(wrap64 (97 + x7)) % 256] : List Int)), wrap64 (2 * x7), 5, 4⟩ : S30)]) (wrap64 (x7 + 1)) x1000 bt228.2.1 bt228.2.2) else (none)) else (some (x3, bt228.2.1, bt228.2.2)))
end
def spec_l1Cur_shadeCard.f (k : Nat) (s0_0 : List Int) (s0_1 : Int) (s0_2 : Int) : Option ((List (S30)) × Int × Int) := (spec_l1Cur_pick.f s0_0 s0_1 s0_2 7).bind fun bt196 => (spec_l1Cur_shadeCard.l0 k (([] : List (S30))) 0 bt196.1 s0_0 bt196.2.1 bt196.2.2)
theorem spec_l1Cur_shadeCard.calls (k : Nat) (g : Nat) (Aa : List Int) (Bw : Int) (Bx : Int) (r1 : List (S30)) (r2 : Int) (r3 : Int) (w0 w : World) (hI : IsS44 w0 w g Aa Bw Bx) (hB : Below w0.heap.size w0 w) (h : spec_l1Cur_shadeCard.f k Aa Bw Bx = some (r1, r2, r3)) :
  Calls Tryd.prog 18 #[.pointer (some ⟨g, 0, none⟩)] w fun e w' => ∃ v0_ : Value, e = .returned (v0_) ∧ Kd.R k30 30 w' w.heap.size (fun _ => True) v0_ r1 ∧ IsS44 w0 w' g Aa r2 r3 ∧ Below w0.heap.size w0 w' ∧ KeepBut w w' g none := by
 have hu30 := Tryd.underlying30; have HI0 := Aside0.mk hI; have HK := aM (KeepBut.refl w g none); have HL := Aside0.mk hB.size; clear hI; have D0 := Aside0.mk hB.size; have HB := Aside0.mk hB; clear hB; have H : ((spec_l1Cur_pick.f Aa Bw Bx 7).bind fun Bf => (spec_l1Cur_shadeCard.l0 k (([] : List (S30))) 0 Bf.1 Aa Bf.2.1 Bf.2.2)) = some (r1, r2, r3) := h; clear h; obtain ⟨Cj, Bj⟩ : ∃ y_ : List (S30), y_ = (([] : List (S30))) := ⟨_, rfl⟩
 replace H : ((spec_l1Cur_pick.f Aa Bw Bx 7).bind fun Bf => (spec_l1Cur_shadeCard.l0 k Cj 0 Bf.1 Aa Bf.2.1 Bf.2.2)) = some (r1, r2, r3) := by first | (rw [Bj]; with_reducible exact H) | (have H2_ := (Option.bind_some _ _).symm.trans H; rw [Bj]; with_reducible exact H2_) | (have H2_ := (Option.bind_some _ _).symm.trans H; with_reducible exact H2_) | with_reducible exact H | (rw [Bj]; exact H) | exact H
 have Cg := Aside0.mk Bj; clear Bj; replace H := Option.bind_eq_some_iff.mp H; obtain ⟨⟨Ck, Cl, Cm⟩, Dq, H⟩ := H; replace H : (spec_l1Cur_shadeCard.l0 k Cj 0 Ck Aa Cl Cm) = some (r1, r2, r3) := H; have A2 := Aside0.mk Dq; clear Dq; have H' := Aside0.mk H; clear H
 go_enter Tryd.func18, Tryd.ntmps18
 go_wp2_with (first | ((with_reducible refine gate_dst (N := 8) rfl ?_); refine Kd.R_lit k30 _ 30 ?hg (N := 8) ?hd (xs := ([] : List (S30))) (inner := []) (ok := fun _ => True) (okp := fun _ => True) ?hr ?hp (fun _ hk => hk) trivial (Below.refl _ _) (Nat.le_refl _) (by simp) ?_; (case hd => rfl); (case hg => rfl); (case hr => first | (go_simp; done) | (go_simp; rfl)); (case hp => exact (Reps.none _ _)); intro Dw w3 Co hb hg_ hnew_; clear hg_ hnew_; (first | rw [← Cg.out] at Co | (simp only [Int.reduceToNat] at Co; rw [← Cg.out] at Co)); have B6 := aM (Kd.R_lower Co (keep_size (w := w) (g := g) (row := none) Z6)); replace HK := aM (KeepBut.trans Z6 (KeepBut.of_below hb g none) (.inl rfl)); replace HB := aM (below_step Z10 hb); replace HI0 := aM (IsS44.below Z3 hb); clear hb Co) | ((with_reducible refine gate_callee (f := 21) rfl ?_); refine glE (some 10) Tryd.func21 #[.pointer (some ⟨g, 0, none⟩), .int .i64 7] ?_; (with_reducible refine (spec_l1Cur_pick.calls g Aa Bw Bx 7 Ck Cl Cm w0 _ ?side1 ?side2 A2.out).mono ?_); (case side1 => exact Z3); (case side2 => exact Z10); rintro e w5 ⟨rfl, hi, hb, hk⟩; refine ⟨_, rfl, ?_⟩; replace B6 := aM (Kd.R_mono (Kd.R_keep (IsS44.apart (show IsS44 w0 _ g Aa Bw Bx from Z3) Z131 (by decide)) hk (fun _ h => h.2)) (fun _ h => h.1)); replace HK := aM (KeepBut.trans Z6 hk (.inl rfl)); replace HB := aM (hb); replace HI0 := aM (hi); (try clear hb); (try clear hk); (try clear hi)))
 go_loopg [3, 4, 5] k (fun kq v3 v4 v5 w' => ∃ (Am : List (S30)) (Ae : Int) (Ah : Int) (Ai : Int) (Aj : Int), v4 = .int .i64 Ae ∧ v5 = .int .i64 Ah ∧ Aside0 (spec_l1Cur_shadeCard.l0 kq Am Ae Ah Aa Ai Aj = some (r1, r2, r3)) ∧ Aside0 (kq ≤ k) ∧ Aside0 (Kd.R k30 30 w' w.heap.size (fun _ => True) v3 Am) ∧ Aside0 (IsS44 w0 w' g Aa Ai Aj) ∧ Aside0 (KeepBut w w' g none) ∧ Aside0 (Below w0.heap.size w0 w'))
 case atStart => exact ⟨(Cj), (0), (Ck), (Cl), (Cm), Z37, Z37, H', ⟨Nat.le_refl _⟩, ⟨Z131⟩, ⟨Z3⟩, ⟨Z6⟩, ⟨Z10⟩⟩
 case round =>
  clear H'; (try clear c1); (try clear c2); (try clear p2); obtain ⟨Am, Ae, Ah, Ai, Aj, rfl, rfl, HA, HK1, Ab, HI0, HK, HB⟩ := hrel; cases gk with
  | zero => exact absurd HA.out (by simp [spec_l1Cur_shadeCard.l0])
  | succ k1 =>
   have H := HA.out; clear HA
   simp only [spec_l1Cur_shadeCard.l0] at H
   by_cases c6 : Ah > 0
   ·rw [if_pos c6] at H
    have c6b0 : decide (0 < Ah) = true := decide_eq_true c6; clear c6; replace H := Option.bind_eq_some_iff.mp H; obtain ⟨⟨Af, Av, Aw⟩, Dr, H⟩ := H; replace H : ((some (([] : List (S30)) : List (S30))).bind fun Bh => (if Bh.length + Am.length < 2932031007402 then ((some (Bh ++ Am : List (S30))).bind fun Ax => ((spec_l1Cur_shade.f Aa Av Aw (wrap64 ((wrap64 (Ae + 1)) + Af))).bind fun Ad => (if Ax.length < 2932031007402 then ((some (Ax ++ [(⟨Ad.1, Ad.2.1, Ad.2.2.1, Ad.2.2.2.1, Ad.2.2.2.2.1⟩ : S30)] : List (S30))).bind fun Ak => ((spec_l3Good.f k1 Ak).bind fun Bd => (if Bd = true then (spec_l1Cur_shadeCard.l0 k1 Ak (wrap64 ((wrap64 (Ae + 1)) + Af)) (wrap64 (Ah - 1)) Aa Ad.2.2.2.2.2.1 Ad.2.2.2.2.2.2) else ((spec_l1Cur_one.f Aa Ad.2.2.2.2.2.1 Ad.2.2.2.2.2.2 40).bind fun Ac => (if Ac.1 = true then (spec_l1Cur_shadeCard.l0 k1 Ak (wrap64 ((wrap64 (Ae + 1)) + Af)) (wrap64 (Ah - 1)) Aa Ac.2.1 Ac.2.2) else (spec_l1Cur_shadeCard.l0 k1 Am (wrap64 ((wrap64 (Ae + 1)) + Af)) (wrap64 (Ah - 1)) Aa Ac.2.1 Ac.2.2)))))) else (none)))) else (none))) = some (r1, r2, r3) := H; have A7 := Aside0.mk Dr; clear Dr; obtain ⟨Bh, Bk⟩ : ∃ y_ : List (S30), y_ = (([] : List (S30))) := ⟨_, rfl⟩
    replace H : (if Bh.length + Am.length < 2932031007402 then ((some (Bh ++ Am : List (S30))).bind fun Ax => ((spec_l1Cur_shade.f Aa Av Aw (wrap64 ((wrap64 (Ae + 1)) + Af))).bind fun Ad => (if Ax.length < 2932031007402 then ((some (Ax ++ [(⟨Ad.1, Ad.2.1, Ad.2.2.1, Ad.2.2.2.1, Ad.2.2.2.2.1⟩ : S30)] : List (S30))).bind fun Ak => ((spec_l3Good.f k1 Ak).bind fun Bd => (if Bd = true then (spec_l1Cur_shadeCard.l0 k1 Ak (wrap64 ((wrap64 (Ae + 1)) + Af)) (wrap64 (Ah - 1)) Aa Ad.2.2.2.2.2.1 Ad.2.2.2.2.2.2) else ((spec_l1Cur_one.f Aa Ad.2.2.2.2.2.1 Ad.2.2.2.2.2.2 40).bind fun Ac => (if Ac.1 = true then (spec_l1Cur_shadeCard.l0 k1 Ak (wrap64 ((wrap64 (Ae + 1)) + Af)) (wrap64 (Ah - 1)) Aa Ac.2.1 Ac.2.2) else (spec_l1Cur_shadeCard.l0 k1 Am (wrap64 ((wrap64 (Ae + 1)) + Af)) (wrap64 (Ah - 1)) Aa Ac.2.1 Ac.2.2)))))) else (none)))) else (none)) = some (r1, r2, r3) := by first | (rw [Bk]; with_reducible exact H) | (have H2_ := (Option.bind_some _ _).symm.trans H; rw [Bk]; with_reducible exact H2_) | (have H2_ := (Option.bind_some _ _).symm.trans H; with_reducible exact H2_) | with_reducible exact H | (rw [Bk]; exact H) | exact H
    have Bi := Aside0.mk Bk; clear Bk
    by_cases c8 : Bh.length + Am.length < 2932031007402
    ·rw [if_pos c8] at H
     have LMc8 := Aside0.mk c8; clear c8; obtain ⟨Ax, Bl⟩ : ∃ y_ : List (S30), y_ = (Bh ++ Am) := ⟨_, rfl⟩
     replace H : ((spec_l1Cur_shade.f Aa Av Aw (wrap64 ((wrap64 (Ae + 1)) + Af))).bind fun Ad => (if Ax.length < 2932031007402 then ((some (Ax ++ [(⟨Ad.1, Ad.2.1, Ad.2.2.1, Ad.2.2.2.1, Ad.2.2.2.2.1⟩ : S30)] : List (S30))).bind fun Ak => ((spec_l3Good.f k1 Ak).bind fun Bd => (if Bd = true then (spec_l1Cur_shadeCard.l0 k1 Ak (wrap64 ((wrap64 (Ae + 1)) + Af)) (wrap64 (Ah - 1)) Aa Ad.2.2.2.2.2.1 Ad.2.2.2.2.2.2) else ((spec_l1Cur_one.f Aa Ad.2.2.2.2.2.1 Ad.2.2.2.2.2.2 40).bind fun Ac => (if Ac.1 = true then (spec_l1Cur_shadeCard.l0 k1 Ak (wrap64 ((wrap64 (Ae + 1)) + Af)) (wrap64 (Ah - 1)) Aa Ac.2.1 Ac.2.2) else (spec_l1Cur_shadeCard.l0 k1 Am (wrap64 ((wrap64 (Ae + 1)) + Af)) (wrap64 (Ah - 1)) Aa Ac.2.1 Ac.2.2)))))) else (none))) = some (r1, r2, r3) := by first | (rw [Bl]; with_reducible exact H) | (have H2_ := (Option.bind_some _ _).symm.trans H; rw [Bl]; with_reducible exact H2_) | (have H2_ := (Option.bind_some _ _).symm.trans H; with_reducible exact H2_) | with_reducible exact H | (rw [Bl]; exact H) | exact H
     have B8 := Aside0.mk Bl; clear Bl; replace H := Option.bind_eq_some_iff.mp H; obtain ⟨⟨Ay, Az, Ba, Bb, Bc, Ar, Au⟩, Ds, H⟩ := H; replace H : (if Ax.length < 2932031007402 then ((some (Ax ++ [(⟨Ay, Az, Ba, Bb, Bc⟩ : S30)] : List (S30))).bind fun Ak => ((spec_l3Good.f k1 Ak).bind fun Bd => (if Bd = true then (spec_l1Cur_shadeCard.l0 k1 Ak (wrap64 ((wrap64 (Ae + 1)) + Af)) (wrap64 (Ah - 1)) Aa Ar Au) else ((spec_l1Cur_one.f Aa Ar Au 40).bind fun Ac => (if Ac.1 = true then (spec_l1Cur_shadeCard.l0 k1 Ak (wrap64 ((wrap64 (Ae + 1)) + Af)) (wrap64 (Ah - 1)) Aa Ac.2.1 Ac.2.2) else (spec_l1Cur_shadeCard.l0 k1 Am (wrap64 ((wrap64 (Ae + 1)) + Af)) (wrap64 (Ah - 1)) Aa Ac.2.1 Ac.2.2)))))) else (none)) = some (r1, r2, r3) := H; have A9 := Aside0.mk Ds; clear Ds
     by_cases Cp : Ax.length < 2932031007402
     ·rw [if_pos Cp] at H
      have LMc10 := Aside0.mk Cp; clear Cp; obtain ⟨Ak, Bm⟩ : ∃ y_ : List (S30), y_ = (Ax ++ [(⟨Ay, Az, Ba, Bb, Bc⟩ : S30)]) := ⟨_, rfl⟩
      replace H : ((spec_l3Good.f k1 Ak).bind fun Bd => (if Bd = true then (spec_l1Cur_shadeCard.l0 k1 Ak (wrap64 ((wrap64 (Ae + 1)) + Af)) (wrap64 (Ah - 1)) Aa Ar Au) else ((spec_l1Cur_one.f Aa Ar Au 40).bind fun Ac => (if Ac.1 = true then (spec_l1Cur_shadeCard.l0 k1 Ak (wrap64 ((wrap64 (Ae + 1)) + Af)) (wrap64 (Ah - 1)) Aa Ac.2.1 Ac.2.2) else (spec_l1Cur_shadeCard.l0 k1 Am (wrap64 ((wrap64 (Ae + 1)) + Af)) (wrap64 (Ah - 1)) Aa Ac.2.1 Ac.2.2))))) = some (r1, r2, r3) := by first | (rw [Bm]; with_reducible exact H) | (have H2_ := (Option.bind_some _ _).symm.trans H; rw [Bm]; with_reducible exact H2_) | (have H2_ := (Option.bind_some _ _).symm.trans H; with_reducible exact H2_) | with_reducible exact H | (rw [Bm]; exact H) | exact H
      have Ca := Aside0.mk Bm; clear Bm; replace H := Option.bind_eq_some_iff.mp H; obtain ⟨Bd, Cq, H⟩ := H; replace H : (if Bd = true then (spec_l1Cur_shadeCard.l0 k1 Ak (wrap64 ((wrap64 (Ae + 1)) + Af)) (wrap64 (Ah - 1)) Aa Ar Au) else ((spec_l1Cur_one.f Aa Ar Au 40).bind fun Ac => (if Ac.1 = true then (spec_l1Cur_shadeCard.l0 k1 Ak (wrap64 ((wrap64 (Ae + 1)) + Af)) (wrap64 (Ah - 1)) Aa Ac.2.1 Ac.2.2) else (spec_l1Cur_shadeCard.l0 k1 Am (wrap64 ((wrap64 (Ae + 1)) + Af)) (wrap64 (Ah - 1)) Aa Ac.2.1 Ac.2.2)))) = some (r1, r2, r3) := H; have Dc := Aside0.mk Cq; clear Cq
      by_cases Cr : Bd = true
      ·subst Cr
       have H1 : (spec_l1Cur_shadeCard.l0 k1 Ak (wrap64 ((wrap64 (Ae + 1)) + Af)) (wrap64 (Ah - 1)) Aa Ar Au) = some (r1, r2, r3) := by rw [if_pos rfl] at H; exact H
       clear H; have H := H1; clear H1; have H' := Aside0.mk H; clear H
       go_wp2_with (first | ((with_reducible refine gate_callee (f := 21) rfl ?_); refine glE (some 18) Tryd.func21 #[.pointer (some ⟨g, 0, none⟩), .int .i64 3] ?_; (with_reducible refine (spec_l1Cur_pick.calls g Aa Ai Aj 3 Af Av Aw w0 _ ?side1 ?side2 A7.out).mono ?_); (case side1 => exact Z3); (case side2 => exact Z10); rintro e D1 ⟨rfl, hi, hb, hk⟩; refine ⟨_, rfl, ?_⟩; replace Ab := aM (Kd.R_mono (Kd.R_keep (IsS44.apart (show IsS44 w0 _ g Aa Ai Aj from Z3) Z45 (by decide)) hk (fun _ h => h.2)) (fun _ h => h.1)); replace HK := aM (KeepBut.trans Z6 hk (.inl rfl)); replace HB := aM (hb); replace HI0 := aM (hi); (try clear hb); (try clear hk); (try clear hi)) | ((with_reducible refine gate_dst (N := 20) rfl ?_); refine Kd.R_lit k30 _ 30 ?hg (N := 20) ?hd (xs := ([] : List (S30))) (inner := []) (ok := fun _ => True) (okp := fun _ => True) ?hr ?hp (fun _ hk => hk) trivial (Below.refl _ _) (Nat.le_refl _) (by simp) ?_; (case hd => rfl); (case hg => rfl); (case hr => first | (go_simp; done) | (go_simp; rfl)); (case hp => exact (Reps.none _ _)); intro Cb D2 Bz hb hg_ hnew_; clear hg_ hnew_; (first | rw [← Bi.out] at Bz | (simp only [Int.reduceToNat] at Bz; rw [← Bi.out] at Bz)); have Ao := aM (Kd.R_lower (Kd.R_new' Bz (Kd.R_lt Z45)) (keep_size (w := w) (g := g) (row := none) Z6)); replace Ab := aM (Kd.R_elder' Z45 (Kd.R_base Bz) hb); replace HK := aM (KeepBut.trans Z6 (KeepBut.of_below hb g none) (.inl rfl)); replace HB := aM (below_step Z10 hb); replace HI0 := aM (IsS44.below Z3 hb); clear hb Bz; obtain ⟨Cs, Ct, Dd⟩ := Kd.R_slice Ab.out; subst Dd) | ((with_reducible refine gate_builtin (b := .append) (xs := #[.tmp 20, .tmp 21]) rfl ?_); at_builtin; refine Kd.R_append_rows k30 w.heap.size rfl (.tmp 20) (.tmp 21) 24 30 (.agg #[(.int .i64 0), (.string ⟨#[]⟩), (.int .i64 0), (.int .i64 0), (.int .i64 0)]) 48 rfl Tryd.underlying24 info30 rfl (by decide) (by omega) Cb Bh Am _ _ _ (fun k_ => nS k_ Cs Am.length Ct) (fun _ => False) rfl rfl ?aO ?aR (fun _ _ h => h) (fun _ h => h.elim) ?aF (Below.refl _ _) ?aS ?aL ?_; (case aR => repeat (first | exact (Kd.R_reads' Ab.out).2.2 | (with_reducible refine Kd.C_alloc ?_ _) | (with_reducible refine Kd.C_drewN ?_ _) | (with_reducible refine Kd.C_drew ?_))); (case aF => exact (fun k_ hk => Kd.fresh' (Kd.R_lt Z45) k_ hk)); (case aO => exact Z108); (case aS => exact (keep_size (w := w) (g := g) (row := none) Z6)); (case aL => have := LMc8.out; omega); intro Cc D3 ho hb hg hat; rw [← B8.out] at ho; replace Ab := aM (Kd.R_after (ok := (fun _ => True)) Z45 hg hat); replace HB := aM (below_weaken Z10 HL.out hb); replace HI0 := aM (IsS44.grown Z3 hg (IsS44.own_ne HI0.out Ao.out (by decide))); replace HK := aM (KeepBut.trans Z6 (KeepBut.of_grown hg g) (Kd.R_base2 Ao.out)); have Al := aM (ho); clear Ao; clear ho hb hg hat) | ((with_reducible refine gate_callee (f := 45) rfl ?_); refine glE (some 25) Tryd.func45 #[.pointer (some ⟨g, 0, none⟩), .int .i64 (wrap64 ((wrap64 (Ae + 1)) + Af))] ?_; (with_reducible refine (spec_l1Cur_shade.calls g Aa Av Aw (wrap64 ((wrap64 (Ae + 1)) + Af)) Ay Az Ba Bb Bc Ar Au w0 _ ?side1 ?side2 A9.out).mono ?_); (case side1 => exact Z3); (case side2 => exact Z10); rintro e D4 ⟨rfl, hi, hb, hk⟩; refine ⟨_, rfl, ?_⟩; replace Ab := aM (Kd.R_mono (Kd.R_keep (IsS44.apart (show IsS44 w0 _ g Aa Av Aw from Z3) Z45 (by decide)) hk (fun _ h => h.2)) (fun _ h => h.1)); replace Al := aM (Kd.R_mono (Kd.R_keep (IsS44.apart (show IsS44 w0 _ g Aa Av Aw from Z3) Z90 (by decide)) hk (fun _ h => h.2)) (fun _ h => h.1)); replace HK := aM (KeepBut.trans Z6 hk (.inl rfl)); replace HB := aM (hb); replace HI0 := aM (hi); (try clear hb); (try clear hk); (try clear hi)) | ((with_reducible refine gate_builtin (b := .append) (xs := #[.tmp 22, .tmp 26]) rfl ?_); at_builtin; refine Kd.R_append k30 w.heap.size rfl (.tmp 22) (.tmp 26) 24 30 (.agg #[(.int .i64 0), (.string ⟨#[]⟩), (.int .i64 0), (.int .i64 0), (.int .i64 0)]) 48 rfl Tryd.underlying24 info30 rfl (by decide) (by omega) Cc Ax (⟨Ay, Az, Ba, Bb, Bc⟩ : S30) [.int .i64 Ay, .string Az, .int .i64 Ba, .int .i64 Bb, .int .i64 Bc] (fun k_ => nS k_ Cs Am.length Ct) (fun _ => False) rfl rfl ?aP (fun _ hk => hk.elim) ?aF ?aO (Below.refl _ _) ?aS ?aL ?_; (case aP => exact k30_mkM _ _ _ (⟨Ay, Az, Ba, Bb, Bc⟩ : S30)); (case aF => exact (fun k_ hk => Kd.fresh' (Kd.R_lt Z45) k_ hk)); (case aO => exact Z90); (case aS => exact (keep_size (w := w) (g := g) (row := none) Z6)); (case aL => have := LMc10.out; omega); intro Cu D5 ho hb hg hat; rw [← Ca.out] at ho; replace Ab := aM (Kd.R_after (ok := (fun _ => True)) Z45 hg hat); replace HB := aM (below_weaken Z10 HL.out hb); replace HI0 := aM (IsS44.grown Z3 hg (IsS44.own_ne HI0.out Al.out (by decide))); replace HK := aM (KeepBut.trans Z6 (KeepBut.of_grown hg g) (Kd.R_base2 Al.out)); have Ag := aM (ho); clear Al; clear ho hb hg hat; obtain ⟨De, Df, Dg⟩ := Kd.R_slice Ag.out; subst Dg) | ((with_reducible refine gate_callee (f := 29) rfl ?_); refine glE (some 29) Tryd.func29 #[.slice De Ak.length Df] ?_; (with_reducible refine (spec_l3Good.calls k1 _ _ Ak true _ ?side1 ?side2 Dc.out).mono ?_); (case side1 => exact Z67); (case side2 => exact (Kd.R_reads' Ag.out).2.1); rintro e D6 ⟨rfl, hb⟩; refine ⟨_, rfl, ?_⟩; replace Ab := roB Ab hb; replace Ag := roB Ag hb; replace HK := aM (KeepBut.trans Z6 (KeepBut.of_below hb g none) (.inl rfl)); replace HB := aM (below_step Z10 hb); replace HI0 := aM (IsS44.below Z3 hb); (try clear hb)))
       go_roundg k1
       case measure => have := HK1.out; omega
       case rel => exact ⟨(Ak), (wrap64 ((wrap64 (Ae + 1)) + Af)), (wrap64 (Ah - 1)), (Ar), (Au), Z37, Z37, H', ⟨Z143⟩, ⟨Z123⟩, ⟨Z3⟩, ⟨Z6⟩, ⟨Z10⟩⟩
      ·replace Cr := Bool.eq_false_iff.mpr Cr
       subst Cr
       have H1 : ((spec_l1Cur_one.f Aa Ar Au 40).bind fun Ac => (if Ac.1 = true then (spec_l1Cur_shadeCard.l0 k1 Ak (wrap64 ((wrap64 (Ae + 1)) + Af)) (wrap64 (Ah - 1)) Aa Ac.2.1 Ac.2.2) else (spec_l1Cur_shadeCard.l0 k1 Am (wrap64 ((wrap64 (Ae + 1)) + Af)) (wrap64 (Ah - 1)) Aa Ac.2.1 Ac.2.2))) = some (r1, r2, r3) := by rw [if_neg (show ¬ (false = true) by decide)] at H; exact H
       clear H; have H := H1; clear H1; replace H := Option.bind_eq_some_iff.mp H; obtain ⟨⟨Cv, Bn, Bo⟩, Cw, H⟩ := H; replace H : (if Cv = true then (spec_l1Cur_shadeCard.l0 k1 Ak (wrap64 ((wrap64 (Ae + 1)) + Af)) (wrap64 (Ah - 1)) Aa Bn Bo) else (spec_l1Cur_shadeCard.l0 k1 Am (wrap64 ((wrap64 (Ae + 1)) + Af)) (wrap64 (Ah - 1)) Aa Bn Bo)) = some (r1, r2, r3) := H; have Dt := Aside0.mk Cw; clear Cw
       by_cases Cx : Cv = true
       ·subst Cx
        have H1 : (spec_l1Cur_shadeCard.l0 k1 Ak (wrap64 ((wrap64 (Ae + 1)) + Af)) (wrap64 (Ah - 1)) Aa Bn Bo) = some (r1, r2, r3) := by rw [if_pos rfl] at H; exact H
        clear H; have H := H1; clear H1; have H' := Aside0.mk H; clear H
        go_wp2_with (first | ((with_reducible refine gate_callee (f := 21) rfl ?_); refine glE (some 18) Tryd.func21 #[.pointer (some ⟨g, 0, none⟩), .int .i64 3] ?_; (with_reducible refine (spec_l1Cur_pick.calls g Aa Ai Aj 3 Af Av Aw w0 _ ?side1 ?side2 A7.out).mono ?_); (case side1 => exact Z3); (case side2 => exact Z10); rintro e D7 ⟨rfl, hi, hb, hk⟩; refine ⟨_, rfl, ?_⟩; replace Ab := aM (Kd.R_mono (Kd.R_keep (IsS44.apart (show IsS44 w0 _ g Aa Ai Aj from Z3) Z45 (by decide)) hk (fun _ h => h.2)) (fun _ h => h.1)); replace HK := aM (KeepBut.trans Z6 hk (.inl rfl)); replace HB := aM (hb); replace HI0 := aM (hi); (try clear hb); (try clear hk); (try clear hi)) | ((with_reducible refine gate_dst (N := 20) rfl ?_); refine Kd.R_lit k30 _ 30 ?hg (N := 20) ?hd (xs := ([] : List (S30))) (inner := []) (ok := fun _ => True) (okp := fun _ => True) ?hr ?hp (fun _ hk => hk) trivial (Below.refl _ _) (Nat.le_refl _) (by simp) ?_; (case hd => rfl); (case hg => rfl); (case hr => first | (go_simp; done) | (go_simp; rfl)); (case hp => exact (Reps.none _ _)); intro Cb D8 B0 hb hg_ hnew_; clear hg_ hnew_; (first | rw [← Bi.out] at B0 | (simp only [Int.reduceToNat] at B0; rw [← Bi.out] at B0)); have Ao := aM (Kd.R_lower (Kd.R_new' B0 (Kd.R_lt Z45)) (keep_size (w := w) (g := g) (row := none) Z6)); replace Ab := aM (Kd.R_elder' Z45 (Kd.R_base B0) hb); replace HK := aM (KeepBut.trans Z6 (KeepBut.of_below hb g none) (.inl rfl)); replace HB := aM (below_step Z10 hb); replace HI0 := aM (IsS44.below Z3 hb); clear hb B0; obtain ⟨Cy, Cz, Dh⟩ := Kd.R_slice Ab.out; subst Dh) | ((with_reducible refine gate_builtin (b := .append) (xs := #[.tmp 20, .tmp 21]) rfl ?_); at_builtin; refine Kd.R_append_rows k30 w.heap.size rfl (.tmp 20) (.tmp 21) 24 30 (.agg #[(.int .i64 0), (.string ⟨#[]⟩), (.int .i64 0), (.int .i64 0), (.int .i64 0)]) 48 rfl Tryd.underlying24 info30 rfl (by decide) (by omega) Cb Bh Am _ _ _ (fun k_ => nS k_ Cy Am.length Cz) (fun _ => False) rfl rfl ?aO ?aR (fun _ _ h => h) (fun _ h => h.elim) ?aF (Below.refl _ _) ?aS ?aL ?_; (case aR => repeat (first | exact (Kd.R_reads' Ab.out).2.2 | (with_reducible refine Kd.C_alloc ?_ _) | (with_reducible refine Kd.C_drewN ?_ _) | (with_reducible refine Kd.C_drew ?_))); (case aF => exact (fun k_ hk => Kd.fresh' (Kd.R_lt Z45) k_ hk)); (case aO => exact Z108); (case aS => exact (keep_size (w := w) (g := g) (row := none) Z6)); (case aL => have := LMc8.out; omega); intro Cc D9 ho hb hg hat; rw [← B8.out] at ho; replace Ab := aM (Kd.R_after (ok := (fun _ => True)) Z45 hg hat); replace HB := aM (below_weaken Z10 HL.out hb); replace HI0 := aM (IsS44.grown Z3 hg (IsS44.own_ne HI0.out Ao.out (by decide))); replace HK := aM (KeepBut.trans Z6 (KeepBut.of_grown hg g) (Kd.R_base2 Ao.out)); have Al := aM (ho); clear Ao; clear ho hb hg hat) | ((with_reducible refine gate_callee (f := 45) rfl ?_); refine glE (some 25) Tryd.func45 #[.pointer (some ⟨g, 0, none⟩), .int .i64 (wrap64 ((wrap64 (Ae + 1)) + Af))] ?_; (with_reducible refine (spec_l1Cur_shade.calls g Aa Av Aw (wrap64 ((wrap64 (Ae + 1)) + Af)) Ay Az Ba Bb Bc Ar Au w0 _ ?side1 ?side2 A9.out).mono ?_); (case side1 => exact Z3); (case side2 => exact Z10); rintro e Ea ⟨rfl, hi, hb, hk⟩; refine ⟨_, rfl, ?_⟩; replace Ab := aM (Kd.R_mono (Kd.R_keep (IsS44.apart (show IsS44 w0 _ g Aa Av Aw from Z3) Z45 (by decide)) hk (fun _ h => h.2)) (fun _ h => h.1)); replace Al := aM (Kd.R_mono (Kd.R_keep (IsS44.apart (show IsS44 w0 _ g Aa Av Aw from Z3) Z90 (by decide)) hk (fun _ h => h.2)) (fun _ h => h.1)); replace HK := aM (KeepBut.trans Z6 hk (.inl rfl)); replace HB := aM (hb); replace HI0 := aM (hi); (try clear hb); (try clear hk); (try clear hi)) | ((with_reducible refine gate_builtin (b := .append) (xs := #[.tmp 22, .tmp 26]) rfl ?_); at_builtin; refine Kd.R_append k30 w.heap.size rfl (.tmp 22) (.tmp 26) 24 30 (.agg #[(.int .i64 0), (.string ⟨#[]⟩), (.int .i64 0), (.int .i64 0), (.int .i64 0)]) 48 rfl Tryd.underlying24 info30 rfl (by decide) (by omega) Cc Ax (⟨Ay, Az, Ba, Bb, Bc⟩ : S30) [.int .i64 Ay, .string Az, .int .i64 Ba, .int .i64 Bb, .int .i64 Bc] (fun k_ => nS k_ Cy Am.length Cz) (fun _ => False) rfl rfl ?aP (fun _ hk => hk.elim) ?aF ?aO (Below.refl _ _) ?aS ?aL ?_; (case aP => exact k30_mkM _ _ _ (⟨Ay, Az, Ba, Bb, Bc⟩ : S30)); (case aF => exact (fun k_ hk => Kd.fresh' (Kd.R_lt Z45) k_ hk)); (case aO => exact Z90); (case aS => exact (keep_size (w := w) (g := g) (row := none) Z6)); (case aL => have := LMc10.out; omega); intro Cu Eb ho hb hg hat; rw [← Ca.out] at ho; replace Ab := aM (Kd.R_after (ok := (fun _ => True)) Z45 hg hat); replace HB := aM (below_weaken Z10 HL.out hb); replace HI0 := aM (IsS44.grown Z3 hg (IsS44.own_ne HI0.out Al.out (by decide))); replace HK := aM (KeepBut.trans Z6 (KeepBut.of_grown hg g) (Kd.R_base2 Al.out)); have Ag := aM (ho); clear Al; clear ho hb hg hat; obtain ⟨Di, Dj, Dk⟩ := Kd.R_slice Ag.out; subst Dk) | ((with_reducible refine gate_callee (f := 29) rfl ?_); refine glE (some 29) Tryd.func29 #[.slice Di Ak.length Dj] ?_; (with_reducible refine (spec_l3Good.calls k1 _ _ Ak false _ ?side1 ?side2 Dc.out).mono ?_); (case side1 => exact Z67); (case side2 => exact (Kd.R_reads' Ag.out).2.1); rintro e Ec ⟨rfl, hb⟩; refine ⟨_, rfl, ?_⟩; replace Ab := roB Ab hb; replace Ag := roB Ag hb; replace HK := aM (KeepBut.trans Z6 (KeepBut.of_below hb g none) (.inl rfl)); replace HB := aM (below_step Z10 hb); replace HI0 := aM (IsS44.below Z3 hb); (try clear hb)) | (go_at_call 47; (with_reducible refine (spec_l1Cur_one.calls g Aa Ar Au 40 true Bn Bo w0 _ ?side1 ?side2 Dt.out).mono ?_); (case side1 => exact Z3); (case side2 => exact Z10); rintro e Ed ⟨rfl, hi, hb, hk⟩; replace Ab := aM (Kd.R_mono (Kd.R_keep (IsS44.apart (show IsS44 w0 _ g Aa Ar Au from Z3) Z45 (by decide)) hk (fun _ h => h.2)) (fun _ h => h.1)); replace Ag := aM (Kd.R_mono (Kd.R_keep (IsS44.apart (show IsS44 w0 _ g Aa Ar Au from Z3) Z31 (by decide)) hk (fun _ h => h.2)) (fun _ h => h.1)); replace HK := aM (KeepBut.trans Z6 hk (.inl rfl)); replace HB := aM (hb); replace HI0 := aM (hi); (try clear hb); (try clear hk); (try clear hi)))
        go_roundg k1
        case measure => have := HK1.out; omega
        case rel => exact ⟨(Ak), (wrap64 ((wrap64 (Ae + 1)) + Af)), (wrap64 (Ah - 1)), (Bn), (Bo), Z37, Z37, H', ⟨Z143⟩, ⟨Z123⟩, ⟨Z3⟩, ⟨Z6⟩, ⟨Z10⟩⟩
       ·replace Cx := Bool.eq_false_iff.mpr Cx
        subst Cx
        have H1 : (spec_l1Cur_shadeCard.l0 k1 Am (wrap64 ((wrap64 (Ae + 1)) + Af)) (wrap64 (Ah - 1)) Aa Bn Bo) = some (r1, r2, r3) := by rw [if_neg (show ¬ (false = true) by decide)] at H; exact H
        clear H; have H := H1; clear H1; have H' := Aside0.mk H; clear H
        go_wp2_with (first | ((with_reducible refine gate_callee (f := 21) rfl ?_); refine glE (some 18) Tryd.func21 #[.pointer (some ⟨g, 0, none⟩), .int .i64 3] ?_; (with_reducible refine (spec_l1Cur_pick.calls g Aa Ai Aj 3 Af Av Aw w0 _ ?side1 ?side2 A7.out).mono ?_); (case side1 => exact Z3); (case side2 => exact Z10); rintro e Ee ⟨rfl, hi, hb, hk⟩; refine ⟨_, rfl, ?_⟩; replace Ab := aM (Kd.R_mono (Kd.R_keep (IsS44.apart (show IsS44 w0 _ g Aa Ai Aj from Z3) Z45 (by decide)) hk (fun _ h => h.2)) (fun _ h => h.1)); replace HK := aM (KeepBut.trans Z6 hk (.inl rfl)); replace HB := aM (hb); replace HI0 := aM (hi); (try clear hb); (try clear hk); (try clear hi)) | ((with_reducible refine gate_dst (N := 20) rfl ?_); refine Kd.R_lit k30 _ 30 ?hg (N := 20) ?hd (xs := ([] : List (S30))) (inner := []) (ok := fun _ => True) (okp := fun _ => True) ?hr ?hp (fun _ hk => hk) trivial (Below.refl _ _) (Nat.le_refl _) (by simp) ?_; (case hd => rfl); (case hg => rfl); (case hr => first | (go_simp; done) | (go_simp; rfl)); (case hp => exact (Reps.none _ _)); intro Cb Ef B2 hb hg_ hnew_; clear hg_ hnew_; (first | rw [← Bi.out] at B2 | (simp only [Int.reduceToNat] at B2; rw [← Bi.out] at B2)); have Ao := aM (Kd.R_lower (Kd.R_new' B2 (Kd.R_lt Z45)) (keep_size (w := w) (g := g) (row := none) Z6)); replace Ab := aM (Kd.R_elder' Z45 (Kd.R_base B2) hb); replace HK := aM (KeepBut.trans Z6 (KeepBut.of_below hb g none) (.inl rfl)); replace HB := aM (below_step Z10 hb); replace HI0 := aM (IsS44.below Z3 hb); clear hb B2; obtain ⟨C0, C1, Dl⟩ := Kd.R_slice Ab.out; subst Dl) | ((with_reducible refine gate_builtin (b := .append) (xs := #[.tmp 20, .tmp 21]) rfl ?_); at_builtin; refine Kd.R_append_rows k30 w.heap.size rfl (.tmp 20) (.tmp 21) 24 30 (.agg #[(.int .i64 0), (.string ⟨#[]⟩), (.int .i64 0), (.int .i64 0), (.int .i64 0)]) 48 rfl Tryd.underlying24 info30 rfl (by decide) (by omega) Cb Bh Am _ _ _ (fun k_ => nS k_ C0 Am.length C1) (fun _ => False) rfl rfl ?aO ?aR (fun _ _ h => h) (fun _ h => h.elim) ?aF (Below.refl _ _) ?aS ?aL ?_; (case aR => repeat (first | exact (Kd.R_reads' Ab.out).2.2 | (with_reducible refine Kd.C_alloc ?_ _) | (with_reducible refine Kd.C_drewN ?_ _) | (with_reducible refine Kd.C_drew ?_))); (case aF => exact (fun k_ hk => Kd.fresh' (Kd.R_lt Z45) k_ hk)); (case aO => exact Z108); (case aS => exact (keep_size (w := w) (g := g) (row := none) Z6)); (case aL => have := LMc8.out; omega); intro Cc Eg ho hb hg hat; rw [← B8.out] at ho; replace Ab := aM (Kd.R_after (ok := (fun _ => True)) Z45 hg hat); replace HB := aM (below_weaken Z10 HL.out hb); replace HI0 := aM (IsS44.grown Z3 hg (IsS44.own_ne HI0.out Ao.out (by decide))); replace HK := aM (KeepBut.trans Z6 (KeepBut.of_grown hg g) (Kd.R_base2 Ao.out)); have Al := aM (ho); clear Ao; clear ho hb hg hat) | ((with_reducible refine gate_callee (f := 45) rfl ?_); refine glE (some 25) Tryd.func45 #[.pointer (some ⟨g, 0, none⟩), .int .i64 (wrap64 ((wrap64 (Ae + 1)) + Af))] ?_; (with_reducible refine (spec_l1Cur_shade.calls g Aa Av Aw (wrap64 ((wrap64 (Ae + 1)) + Af)) Ay Az Ba Bb Bc Ar Au w0 _ ?side1 ?side2 A9.out).mono ?_); (case side1 => exact Z3); (case side2 => exact Z10); rintro e Eh ⟨rfl, hi, hb, hk⟩; refine ⟨_, rfl, ?_⟩; replace Ab := aM (Kd.R_mono (Kd.R_keep (IsS44.apart (show IsS44 w0 _ g Aa Av Aw from Z3) Z45 (by decide)) hk (fun _ h => h.2)) (fun _ h => h.1)); replace Al := aM (Kd.R_mono (Kd.R_keep (IsS44.apart (show IsS44 w0 _ g Aa Av Aw from Z3) Z90 (by decide)) hk (fun _ h => h.2)) (fun _ h => h.1)); replace HK := aM (KeepBut.trans Z6 hk (.inl rfl)); replace HB := aM (hb); replace HI0 := aM (hi); (try clear hb); (try clear hk); (try clear hi)) | ((with_reducible refine gate_builtin (b := .append) (xs := #[.tmp 22, .tmp 26]) rfl ?_); at_builtin; refine Kd.R_append k30 w.heap.size rfl (.tmp 22) (.tmp 26) 24 30 (.agg #[(.int .i64 0), (.string ⟨#[]⟩), (.int .i64 0), (.int .i64 0), (.int .i64 0)]) 48 rfl Tryd.underlying24 info30 rfl (by decide) (by omega) Cc Ax (⟨Ay, Az, Ba, Bb, Bc⟩ : S30) [.int .i64 Ay, .string Az, .int .i64 Ba, .int .i64 Bb, .int .i64 Bc] (fun k_ => nS k_ C0 Am.length C1) (fun _ => False) rfl rfl ?aP (fun _ hk => hk.elim) ?aF ?aO (Below.refl _ _) ?aS ?aL ?_; (case aP => exact k30_mkM _ _ _ (⟨Ay, Az, Ba, Bb, Bc⟩ : S30)); (case aF => exact (fun k_ hk => Kd.fresh' (Kd.R_lt Z45) k_ hk)); (case aO => exact Z90); (case aS => exact (keep_size (w := w) (g := g) (row := none) Z6)); (case aL => have := LMc10.out; omega); intro Cu Ei ho hb hg hat; rw [← Ca.out] at ho; replace Ab := aM (Kd.R_after (ok := (fun _ => True)) Z45 hg hat); replace HB := aM (below_weaken Z10 HL.out hb); replace HI0 := aM (IsS44.grown Z3 hg (IsS44.own_ne HI0.out Al.out (by decide))); replace HK := aM (KeepBut.trans Z6 (KeepBut.of_grown hg g) (Kd.R_base2 Al.out)); have Ag := aM (ho); clear Al; clear ho hb hg hat; obtain ⟨Dm, Dn, Dp⟩ := Kd.R_slice Ag.out; subst Dp) | ((with_reducible refine gate_callee (f := 29) rfl ?_); refine glE (some 29) Tryd.func29 #[.slice Dm Ak.length Dn] ?_; (with_reducible refine (spec_l3Good.calls k1 _ _ Ak false _ ?side1 ?side2 Dc.out).mono ?_); (case side1 => exact Z67); (case side2 => exact (Kd.R_reads' Ag.out).2.1); rintro e Ej ⟨rfl, hb⟩; refine ⟨_, rfl, ?_⟩; replace Ab := roB Ab hb; replace Ag := roB Ag hb; replace HK := aM (KeepBut.trans Z6 (KeepBut.of_below hb g none) (.inl rfl)); replace HB := aM (below_step Z10 hb); replace HI0 := aM (IsS44.below Z3 hb); (try clear hb)) | (go_at_call 47; (with_reducible refine (spec_l1Cur_one.calls g Aa Ar Au 40 false Bn Bo w0 _ ?side1 ?side2 Dt.out).mono ?_); (case side1 => exact Z3); (case side2 => exact Z10); rintro e Ek ⟨rfl, hi, hb, hk⟩; replace Ab := aM (Kd.R_mono (Kd.R_keep (IsS44.apart (show IsS44 w0 _ g Aa Ar Au from Z3) Z45 (by decide)) hk (fun _ h => h.2)) (fun _ h => h.1)); replace Ag := aM (Kd.R_mono (Kd.R_keep (IsS44.apart (show IsS44 w0 _ g Aa Ar Au from Z3) Z31 (by decide)) hk (fun _ h => h.2)) (fun _ h => h.1)); replace HK := aM (KeepBut.trans Z6 hk (.inl rfl)); replace HB := aM (hb); replace HI0 := aM (hi); (try clear hb); (try clear hk); (try clear hi)))
        go_roundg k1
        case measure => have := HK1.out; omega
        case rel => exact ⟨(Am), (wrap64 ((wrap64 (Ae + 1)) + Af)), (wrap64 (Ah - 1)), (Bn), (Bo), Z37, Z37, H', ⟨Z143⟩, ⟨by (with_reducible repeat (first | apply Kd.R_alloc | apply Kd.R_drewN | apply Kd.R_drew)); exact Kd.R_mono Ab.out (fun _ hk => trivial)⟩, ⟨Z3⟩, ⟨Z6⟩, ⟨Z10⟩⟩
     ·rw [if_neg Cp] at H
      exact absurd H (by simp)
    ·rw [if_neg c8] at H
     exact absurd H (by simp)
   ·rw [if_neg c6] at H
    have c6b0 : decide (0 < Ah) = false := decide_eq_false c6; clear c6; replace H := Option.bind_eq_some_iff.mp H; obtain ⟨⟨C2, Bp, Bq⟩, C3, H⟩ := H; replace H : (if C2 = true then (spec_l1Cur_shadeCard.l1 k1 (([] : List (S30))) 0 Aa Bp Bq) else (some (Am, Bp, Bq))) = some (r1, r2, r3) := H; have Du := Aside0.mk C3; clear C3
    by_cases C4 : C2 = true
    ·subst C4
     have H1 : (spec_l1Cur_shadeCard.l1 k1 (([] : List (S30))) 0 Aa Bp Bq) = some (r1, r2, r3) := by rw [if_pos rfl] at H; exact H
     clear H; have H := H1; clear H1; obtain ⟨C5, Br⟩ : ∃ y_ : List (S30), y_ = (([] : List (S30))) := ⟨_, rfl⟩
     replace H : (spec_l1Cur_shadeCard.l1 k1 C5 0 Aa Bp Bq) = some (r1, r2, r3) := by first | (rw [Br]; with_reducible exact H) | (have H2_ := (Option.bind_some _ _).symm.trans H; rw [Br]; with_reducible exact H2_) | (have H2_ := (Option.bind_some _ _).symm.trans H; with_reducible exact H2_) | with_reducible exact H | (rw [Br]; exact H) | exact H
     have Ch := Aside0.mk Br; clear Br; have H' := Aside0.mk H; clear H
     go_wp2_with (first | ((with_reducible refine gate_callee (f := 47) rfl ?_); refine glE (some 36) Tryd.func47 #[.pointer (some ⟨g, 0, none⟩), .int .i64 24] ?_; (with_reducible refine (spec_l1Cur_one.calls g Aa Ai Aj 24 true Bp Bq w0 _ ?side1 ?side2 Du.out).mono ?_); (case side1 => exact Z3); (case side2 => exact Z10); rintro e El ⟨rfl, hi, hb, hk⟩; refine ⟨_, rfl, ?_⟩; replace Ab := aM (Kd.R_mono (Kd.R_keep (IsS44.apart (show IsS44 w0 _ g Aa Ai Aj from Z3) Z45 (by decide)) hk (fun _ h => h.2)) (fun _ h => h.1)); replace HK := aM (KeepBut.trans Z6 hk (.inl rfl)); replace HB := aM (hb); replace HI0 := aM (hi); (try clear hb); (try clear hk); (try clear hi)) | ((with_reducible refine gate_dst (N := 37) rfl ?_); refine Kd.R_lit k30 _ 30 ?hg (N := 37) ?hd (xs := ([] : List (S30))) (inner := []) (ok := fun _ => True) (okp := fun _ => True) ?hr ?hp (fun _ hk => hk) trivial (Below.refl _ _) (Nat.le_refl _) (by simp) ?_; (case hd => rfl); (case hg => rfl); (case hr => first | (go_simp; done) | (go_simp; rfl)); (case hp => exact (Reps.none _ _)); intro Dx Em B3 hb hg_ hnew_; clear hg_ hnew_; (first | rw [← Ch.out] at B3 | (simp only [Int.reduceToNat] at B3; rw [← Ch.out] at B3)); have C6 := aM (Kd.R_lower (Kd.R_new' B3 (Kd.R_lt Z45)) (keep_size (w := w) (g := g) (row := none) Z6)); replace Ab := aM (Kd.R_elder' Z45 (Kd.R_base B3) hb); replace HK := aM (KeepBut.trans Z6 (KeepBut.of_below hb g none) (.inl rfl)); replace HB := aM (below_step Z10 hb); replace HI0 := aM (IsS44.below Z3 hb); clear hb B3))
     go_loopg [3, 7] k1 (fun kq v3 v7 w' => ∃ (Bg : List (S30)) (An : Int) (Ap : Int) (Aq : Int), v7 = .int .i64 An ∧ Aside0 (spec_l1Cur_shadeCard.l1 kq Bg An Aa Ap Aq = some (r1, r2, r3)) ∧ Aside0 (kq ≤ k1) ∧ Aside0 (Kd.R k30 30 w' w.heap.size (fun _ => True) v3 Bg) ∧ Aside0 (IsS44 w0 w' g Aa Ap Aq) ∧ Aside0 (KeepBut w w' g none) ∧ Aside0 (Below w0.heap.size w0 w'))
     case atStart => exact ⟨(C5), (0), (Bp), (Bq), Z37, H', ⟨Nat.le_refl _⟩, ⟨by (with_reducible repeat (first | apply Kd.R_alloc | apply Kd.R_drewN | apply Kd.R_drew)); exact Kd.R_mono C6.out (fun _ hk => trivial)⟩, ⟨Z3⟩, ⟨Z6⟩, ⟨Z10⟩⟩
     case round =>
      clear H'; (try clear c1); (try clear c2); (try clear p2); (try clear c4); (try clear c6); (try clear c6b0); (try clear p6); (try clear c8); (try clear Cp); (try clear Cr); (try clear En); (try clear Eo); (try clear Cx); (try clear Ep); (try clear C4); (try clear Er); (try clear p2); obtain ⟨Bg, An, Ap, Aq, rfl, HA, HK2, Ab, HI0, HK, HB⟩ := hrel; cases gk with
      | zero => exact absurd HA.out (by simp [spec_l1Cur_shadeCard.l1])
      | succ k2 =>
       have H := HA.out; clear HA
       simp only [spec_l1Cur_shadeCard.l1] at H
       replace H := Option.bind_eq_some_iff.mp H; obtain ⟨⟨B5, Bu, Bv⟩, C7, H⟩ := H; replace H : (if An < (wrap64 (10 + B5)) then (if Bg.length < 2932031007402 then (spec_l1Cur_shadeCard.l1 k2 (Bg ++ [(⟨wrap64 (An + 1), strOfNums (([(wrap64 (97 + An)) % 256] : List Int)), wrap64 (2 * An), 5, 4⟩ : S30)]) (wrap64 (An + 1)) Aa Bu Bv) else (none)) else (some (Bg, Bu, Bv))) = some (r1, r2, r3) := H; have Dv := Aside0.mk C7; clear C7
       by_cases Cn : An < (wrap64 (10 + B5))
       ·rw [if_pos Cn] at H
        have c50b0 : decide (An < (wrap64 (10 + B5))) = true := decide_eq_true Cn; clear Cn; obtain ⟨Cd, Bs⟩ : ∃ y_ : List Int, y_ = (([(wrap64 (97 + An)) % 256] : List Int)) := ⟨_, rfl⟩
        replace H : (if Bg.length < 2932031007402 then (spec_l1Cur_shadeCard.l1 k2 (Bg ++ [(⟨wrap64 (An + 1), strOfNums Cd, wrap64 (2 * An), 5, 4⟩ : S30)]) (wrap64 (An + 1)) Aa Bu Bv) else (none)) = some (r1, r2, r3) := by first | (rw [Bs]; with_reducible exact H) | (have H2_ := (Option.bind_some _ _).symm.trans H; rw [Bs]; with_reducible exact H2_) | (have H2_ := (Option.bind_some _ _).symm.trans H; with_reducible exact H2_) | with_reducible exact H | (rw [Bs]; exact H) | exact H
        have Ci := Aside0.mk Bs; clear Bs
        by_cases Db : Bg.length < 2932031007402
        ·rw [if_pos Db] at H
         have LMc51 := Aside0.mk Db; clear Db; obtain ⟨C8, Bt⟩ : ∃ y_ : List (S30), y_ = (Bg ++ [(⟨wrap64 (An + 1), strOfNums Cd, wrap64 (2 * An), 5, 4⟩ : S30)]) := ⟨_, rfl⟩
         replace H : (spec_l1Cur_shadeCard.l1 k2 C8 (wrap64 (An + 1)) Aa Bu Bv) = some (r1, r2, r3) := by first | (rw [Bt]; with_reducible exact H) | (have H2_ := (Option.bind_some _ _).symm.trans H; rw [Bt]; with_reducible exact H2_) | (have H2_ := (Option.bind_some _ _).symm.trans H; with_reducible exact H2_) | with_reducible exact H | (rw [Bt]; exact H) | exact H
         have C9 := Aside0.mk Bt; clear Bt; have H' := Aside0.mk H; clear H
         go_wp2_with (first | ((with_reducible refine gate_callee (f := 21) rfl ?_); refine glE (some 40) Tryd.func21 #[.pointer (some ⟨g, 0, none⟩), .int .i64 2] ?_; (with_reducible refine (spec_l1Cur_pick.calls g Aa Ap Aq 2 B5 Bu Bv w0 _ ?side1 ?side2 Dv.out).mono ?_); (case side1 => exact Z3); (case side2 => exact Z10); rintro e Es ⟨rfl, hi, hb, hk⟩; refine ⟨_, rfl, ?_⟩; replace Ab := aM (Kd.R_mono (Kd.R_keep (IsS44.apart (show IsS44 w0 _ g Aa Ap Aq from Z3) Z45 (by decide)) hk (fun _ h => h.2)) (fun _ h => h.1)); replace HK := aM (KeepBut.trans Z6 hk (.inl rfl)); replace HB := aM (hb); replace HI0 := aM (hi); (try clear hb); (try clear hk); (try clear hi)) | ((with_reducible refine gate_dst (N := 51) rfl ?_); refine Kd.R_lit (Kd.int .u8) _ 5 ?hg (N := 51) ?hd (xs := ([(wrap64 (97 + An)) % 256] : List Int)) (inner := [.int .u8 ((wrap64 (97 + An)) % 256)]) (ok := fun _ => True) (okp := fun _ => True) ?hr ?hp (fun _ hk => hk) trivial (Below.refl _ _) (Nat.le_refl _) (by simp) ?_; (case hd => rfl); (case hg => rfl); (case hr => first | (go_simp; done) | (go_simp; rfl)); (case hp => exact (Reps.one (show Kd.M (Kd.int .u8) _ _ _ ((wrap64 (97 + An)) % 256) [.int .u8 ((wrap64 (97 + An)) % 256)] from rfl) (Reps.none _ _))); intro Dy Et Ce hb hg_ hnew_; clear hg_ hnew_; (first | rw [← Ci.out] at Ce | (simp only [Int.reduceToNat] at Ce; rw [← Ci.out] at Ce)); replace Ab := roB Ab hb; have Cf := aM (Kd.R_lower Ce (keep_size (w := w) (g := g) (row := none) Z6)); replace HK := aM (KeepBut.trans Z6 (KeepBut.of_below hb g none) (.inl rfl)); replace HB := aM (below_step Z10 hb); replace HI0 := aM (IsS44.below Z3 hb); clear hb Ce; have hcv55 := own_string (P := Tryd.prog) Tryd.underlying22 Tryd.underlying5 Tryd.underlying9 (Kd.own_of_R Cf.out)) | ((with_reducible refine gate_builtin (b := .append) (xs := #[.tmp 45, .tmp 56]) rfl ?_); at_builtin; refine Kd.R_append k30 w.heap.size rfl (.tmp 45) (.tmp 56) 24 30 (.agg #[(.int .i64 0), (.string ⟨#[]⟩), (.int .i64 0), (.int .i64 0), (.int .i64 0)]) 48 rfl Tryd.underlying24 info30 rfl (by decide) (by omega) u3 Bg (⟨wrap64 (An + 1), strOfNums Cd, wrap64 (2 * An), 5, 4⟩ : S30) [.int .i64 (wrap64 (An + 1)), .string (strOfNums Cd), .int .i64 (wrap64 (2 * An)), .int .i64 5, .int .i64 4] (fun _ => True) (fun _ => False) rfl rfl ?aP (fun _ hk => hk.elim) ?aF ?aO (Below.refl _ _) ?aS ?aL ?_; (case aP => exact k30_mkM _ _ _ (⟨wrap64 (An + 1), strOfNums Cd, wrap64 (2 * An), 5, 4⟩ : S30)); (case aF => exact (fun _ _ => trivial)); (case aO => exact Z45); (case aS => exact (keep_size (w := w) (g := g) (row := none) Z6)); (case aL => have := LMc51.out; omega); intro Dz Eu ho hb hg hat; rw [← C9.out] at ho; replace Cf := aM (Kd.R_over' Z130 (Kd.R_typed Z45) (by decide) hg); replace HB := aM (below_weaken Z10 HL.out hb); replace HI0 := aM (IsS44.grown Z3 hg (IsS44.own_ne HI0.out Ab.out (by decide))); replace HK := aM (KeepBut.trans Z6 (KeepBut.of_grown hg g) (Kd.R_base2 Ab.out)); have Da := aM (ho); clear Ab; clear ho hb hg hat))
         go_roundg k2
         case measure => have := HK1.out; have := HK2.out; omega
         case rel => exact ⟨(C8), (wrap64 (An + 1)), (Bu), (Bv), Z37, H', ⟨by have := HK1.out; have := HK2.out; omega⟩, ⟨by (with_reducible repeat (first | apply Kd.R_alloc | apply Kd.R_drewN | apply Kd.R_drew)); exact Da.out⟩, ⟨Z3⟩, ⟨Z6⟩, ⟨Z10⟩⟩
        ·rw [if_neg Db] at H
         exact absurd H (by simp)
       ·rw [if_neg Cn] at H
        have c50b0 : decide (An < (wrap64 (10 + B5))) = false := decide_eq_false Cn; clear Cn
        simp only [Option.some.injEq, Prod.mk.injEq] at H
        obtain ⟨rfl, rfl, rfl⟩ := H
        go_wp2_with (first | ((with_reducible refine gate_callee (f := 21) rfl ?_); refine glE (some 40) Tryd.func21 #[.pointer (some ⟨g, 0, none⟩), .int .i64 2] ?_; (with_reducible refine (spec_l1Cur_pick.calls g Aa Ap Aq 2 B5 Bu Bv w0 _ ?side1 ?side2 Dv.out).mono ?_); (case side1 => exact Z3); (case side2 => exact Z10); rintro e Ew ⟨rfl, hi, hb, hk⟩; refine ⟨_, rfl, ?_⟩; replace Ab := aM (Kd.R_mono (Kd.R_keep (IsS44.apart (show IsS44 w0 _ g Aa Ap Aq from Z3) Z45 (by decide)) hk (fun _ h => h.2)) (fun _ h => h.1)); replace HK := aM (KeepBut.trans Z6 hk (.inl rfl)); replace HB := aM (hb); replace HI0 := aM (hi); (try clear hb); (try clear hk); (try clear hi)))
        go_ret
        exact ⟨_, Z39, Z45, Z3, Z10, Z6⟩
    ·replace C4 := Bool.eq_false_iff.mpr C4
     subst C4
     have H1 : (some (Am, Bp, Bq)) = some (r1, r2, r3) := by rw [if_neg (show ¬ (false = true) by decide)] at H; exact H
     clear H; have H := H1; clear H1
     simp only [Option.some.injEq, Prod.mk.injEq] at H
     obtain ⟨rfl, rfl, rfl⟩ := H
     go_wp2_with (first | ((with_reducible refine gate_callee (f := 47) rfl ?_); refine glE (some 36) Tryd.func47 #[.pointer (some ⟨g, 0, none⟩), .int .i64 24] ?_; (with_reducible refine (spec_l1Cur_one.calls g Aa Ai Aj 24 false Bp Bq w0 _ ?side1 ?side2 Du.out).mono ?_); (case side1 => exact Z3); (case side2 => exact Z10); rintro e Ex ⟨rfl, hi, hb, hk⟩; refine ⟨_, rfl, ?_⟩; replace Ab := aM (Kd.R_mono (Kd.R_keep (IsS44.apart (show IsS44 w0 _ g Aa Ai Aj from Z3) Z45 (by decide)) hk (fun _ h => h.2)) (fun _ h => h.1)); replace HK := aM (KeepBut.trans Z6 hk (.inl rfl)); replace HB := aM (hb); replace HI0 := aM (hi); (try clear hb); (try clear hk); (try clear hi)))
     go_ret
     exact ⟨_, Z39, Z45, Z3, Z10, Z6⟩
def spec_l1Cur_wheel3.f (s0_0 : List Int) (s0_1 : Int) (s0_2 : Int) : Option (Int × Int × Int) := (some (([0, 1, 5, 8, 12, 20, 23, (-1), 24] : List Int) : List Int)).bind fun y237 => ((spec_l1Cur_pick.f s0_0 s0_1 s0_2 24).bind fun bt240 => (if 0 ≤ (wrap64 (7 + (wrap64 (Int.tdiv bt240.1 11)))) then (if (wrap64 (7 + (wrap64 (Int.tdiv bt240.1 11)))) ≤ (y237.length : Int) then ((spec_l1Cur_among.f s0_0 bt240.2.1 bt240.2.2 (y237.take ((wrap64 (7 + (wrap64 (Int.tdiv bt240.1 11)))) : Int).toNat)).bind fun bt247 => (some (bt247.1, bt247.2.1, bt247.2.2))) else (none)) else (none)))
theorem spec_l1Cur_wheel3.calls (g : Nat) (Ad : List Int) (Ah : Int) (Ai : Int) (r1 : Int) (r2 : Int) (r3 : Int) (w0 w : World) (hI : IsS44 w0 w g Ad Ah Ai) (hB : Below w0.heap.size w0 w) (h : spec_l1Cur_wheel3.f Ad Ah Ai = some (r1, r2, r3)) :
  Calls Tryd.prog 19 #[.pointer (some ⟨g, 0, none⟩)] w fun e w' => e = .returned (.int .i64 r1) ∧ IsS44 w0 w' g Ad r2 r3 ∧ Below w0.heap.size w0 w' ∧ KeepBut w w' g none := by
 have HI0 := Aside0.mk hI; have HK := aM (KeepBut.refl w g none); have HL := Aside0.mk hB.size; clear hI; have Bh := Aside0.mk hB.size; have HB := Aside0.mk hB; clear hB; have H : ((some (([0, 1, 5, 8, 12, 20, 23, (-1), 24] : List Int) : List Int)).bind fun Ab => ((spec_l1Cur_pick.f Ad Ah Ai 24).bind fun Ac => (if 0 ≤ (wrap64 (7 + (wrap64 (Int.tdiv Ac.1 11)))) then (if (wrap64 (7 + (wrap64 (Int.tdiv Ac.1 11)))) ≤ (Ab.length : Int) then ((spec_l1Cur_among.f Ad Ac.2.1 Ac.2.2 (Ab.take ((wrap64 (7 + (wrap64 (Int.tdiv Ac.1 11)))) : Int).toNat)).bind fun Aa => (some (Aa.1, Aa.2.1, Aa.2.2))) else (none)) else (none)))) = some (r1, r2, r3) := h; clear h; obtain ⟨Ab, Af⟩ : ∃ y_ : List Int, y_ = (([0, 1, 5, 8, 12, 20, 23, (-1), 24] : List Int)) := ⟨_, rfl⟩
 replace H : ((spec_l1Cur_pick.f Ad Ah Ai 24).bind fun Ac => (if 0 ≤ (wrap64 (7 + (wrap64 (Int.tdiv Ac.1 11)))) then (if (wrap64 (7 + (wrap64 (Int.tdiv Ac.1 11)))) ≤ (Ab.length : Int) then ((spec_l1Cur_among.f Ad Ac.2.1 Ac.2.2 (Ab.take ((wrap64 (7 + (wrap64 (Int.tdiv Ac.1 11)))) : Int).toNat)).bind fun Aa => (some (Aa.1, Aa.2.1, Aa.2.2))) else (none)) else (none))) = some (r1, r2, r3) := by first | (rw [Af]; with_reducible exact H) | (have H2_ := (Option.bind_some _ _).symm.trans H; rw [Af]; with_reducible exact H2_) | (have H2_ := (Option.bind_some _ _).symm.trans H; with_reducible exact H2_) | with_reducible exact H | (rw [Af]; exact H) | exact H
 have Ao := Aside0.mk Af; clear Af; replace H := Option.bind_eq_some_iff.mp H; obtain ⟨⟨Aj, Ak, Al⟩, Bd, H⟩ := H; replace H : (if 0 ≤ (wrap64 (7 + (wrap64 (Int.tdiv Aj 11)))) then (if (wrap64 (7 + (wrap64 (Int.tdiv Aj 11)))) ≤ (Ab.length : Int) then ((spec_l1Cur_among.f Ad Ak Al (Ab.take ((wrap64 (7 + (wrap64 (Int.tdiv Aj 11)))) : Int).toNat)).bind fun Aa => (some (Aa.1, Aa.2.1, Aa.2.2))) else (none)) else (none)) = some (r1, r2, r3) := H; have A2 := Aside0.mk Bd; clear Bd; obtain ⟨ji3, hji3⟩ : ∃ j_ : Int, (wrap64 (7 + (wrap64 (Int.tdiv Aj 11)))) = j_ := ⟨_, rfl⟩
 replace H : (if 0 ≤ (ji3) then (if (ji3) ≤ (Ab.length : Int) then ((spec_l1Cur_among.f Ad Ak Al (Ab.take ((ji3) : Int).toNat)).bind fun Aa => (some (Aa.1, Aa.2.1, Aa.2.2))) else (none)) else (none)) = some (r1, r2, r3) := by first | (rw [hji3] at H; exact H) | (simp only [hji3] at H ⊢; exact H)
 (try rw [hji3] at A2)
 have hji3w : (IntKind.i64.wrap (7 + (wrap64 (Int.tdiv Aj 11)))) = ji3 := (i64_w _).trans hji3
 by_cases c4 : 0 ≤ (ji3)
 ·rw [if_pos c4] at H
  have c4b0 := eq_true c4; have c4b1 : decide (0 ≤ (ji3)) = true := decide_eq_true c4; clear c4
  by_cases c5 : (ji3) ≤ (Ab.length : Int)
  ·rw [if_pos c5] at H
   have c5b0 := eq_true c5; have c5b1 : decide ((ji3) ≤ (Ab.length : Int)) = true := decide_eq_true c5; clear c5; obtain ⟨Am, Ag⟩ : ∃ y_ : List Int, y_ = (Ab.take ((ji3) : Int).toNat) := ⟨_, rfl⟩
   replace H : ((spec_l1Cur_among.f Ad Ak Al Am).bind fun Aa => (some (Aa.1, Aa.2.1, Aa.2.2))) = some (r1, r2, r3) := by first | (rw [Ag]; with_reducible exact H) | (have H2_ := (Option.bind_some _ _).symm.trans H; rw [Ag]; with_reducible exact H2_) | (have H2_ := (Option.bind_some _ _).symm.trans H; with_reducible exact H2_) | with_reducible exact H | (rw [Ag]; exact H) | exact H
   have Ap := Aside0.mk Ag; clear Ag; replace H := Option.bind_eq_some_iff.mp H; obtain ⟨⟨Aw, Ax, Ay⟩, Bf, H⟩ := H; replace H : (some (Aw, Ax, Ay)) = some (r1, r2, r3) := H; have A6 := Aside0.mk Bf; clear Bf
   simp only [Option.some.injEq, Prod.mk.injEq] at H
   obtain ⟨rfl, rfl, rfl⟩ := H
   go_enter Tryd.func19, Tryd.ntmps19
   go_wp2_with (first | ((with_reducible refine gate_dst (N := 4) rfl ?_); refine Kd.R_lit (Kd.int .i64) _ 3 ?hg (N := 4) ?hd (xs := ([0, 1, 5, 8, 12, 20, 23, (-1), 24] : List Int)) (inner := [.int .i64 0, .int .i64 1, .int .i64 5, .int .i64 8, .int .i64 12, .int .i64 20, .int .i64 23, .int .i64 (-1), .int .i64 24]) (ok := fun _ => True) (okp := fun _ => True) ?hr ?hp (fun _ hk => hk) trivial (Below.refl _ _) (Nat.le_refl _) (by simp) ?_; (case hd => rfl); (case hg => rfl); (case hr => first | (go_simp; done) | (go_simp; rfl)); (case hp => exact (Reps.one (show Kd.M (Kd.int .i64) _ _ _ 0 [.int .i64 0] from rfl) (Reps.one (show Kd.M (Kd.int .i64) _ _ _ 1 [.int .i64 1] from rfl) (Reps.one (show Kd.M (Kd.int .i64) _ _ _ 5 [.int .i64 5] from rfl) (Reps.one (show Kd.M (Kd.int .i64) _ _ _ 8 [.int .i64 8] from rfl) (Reps.one (show Kd.M (Kd.int .i64) _ _ _ 12 [.int .i64 12] from rfl) (Reps.one (show Kd.M (Kd.int .i64) _ _ _ 20 [.int .i64 20] from rfl) (Reps.one (show Kd.M (Kd.int .i64) _ _ _ 23 [.int .i64 23] from rfl) (Reps.one (show Kd.M (Kd.int .i64) _ _ _ (-1) [.int .i64 (-1)] from rfl) (Reps.one (show Kd.M (Kd.int .i64) _ _ _ 24 [.int .i64 24] from rfl) (Reps.none _ _))))))))))); intro Bg w7 Az hb hg_ hnew_; clear hg_ hnew_; (first | rw [← Ao.out] at Az | (simp only [Int.reduceToNat] at Az; rw [← Ao.out] at Az)); have Ae := aM (Kd.R_lower Az (keep_size (w := w) (g := g) (row := none) Z6)); replace HK := aM (KeepBut.trans Z6 (KeepBut.of_below hb g none) (.inl rfl)); replace HB := aM (below_step Z10 hb); replace HI0 := aM (IsS44.below Z3 hb); clear hb Az) | ((with_reducible refine gate_callee (f := 21) rfl ?_); refine glE (some 6) Tryd.func21 #[.pointer (some ⟨g, 0, none⟩), .int .i64 24] ?_; (with_reducible refine (spec_l1Cur_pick.calls g Ad Ah Ai 24 Aj Ak Al w0 _ ?side1 ?side2 A2.out).mono ?_); (case side1 => exact Z3); (case side2 => exact Z10); rintro e w9 ⟨rfl, hi, hb, hk⟩; refine ⟨_, rfl, ?_⟩; replace Ae := aM (Kd.R_mono (Kd.R_keep (IsS44.apart (show IsS44 w0 _ g Ad Ah Ai from Z3) Z69 (by decide)) hk (fun _ h => h.2)) (fun _ h => h.1)); replace HK := aM (KeepBut.trans Z6 hk (.inl rfl)); replace HB := aM (hb); replace HI0 := aM (hi); (try clear hb); (try clear hk); (try clear hi); obtain ⟨Ar, An, Bb⟩ := Kd.R_slice Ae.out; subst Bb; have Bc : ((ji3) : Int) ≤ ((Ab.length : Int) : Int) := of_decide_eq_true Z25; obtain ⟨i010, hi010, _, hsz10, _⟩ := info_parts info3; have hroom10 : Ab.length ≤ An := (Kd.R_reads' Ae.out).2.1; have hC10 : Kd.C (Kd.int .i64) _ Ar Ab.length Ab := (Kd.R_reads' Ae.out).2.2; have hcut10 := cut_to (P := Tryd.prog) 48 3 .i64 Tryd.underlying48 hi010 Ar Ab.length An (ji3) (of_decide_eq_true Z25) Bc hroom10; have Au := Kd.C_take (m := ((ji3) : Int).toNat) hC10 (by omega); have Av : Am.length = ((ji3) : Int).toNat := (by rw [Ap.out, List.length_take]; omega); rw [← Ap.out] at Au; rw [← Av] at hcut10; have Aq := Aside0.mk Au; have Ba := aM (show Am.length ≤ An from by omega); clear Au hC10 hroom10 hi010 hsz10; have KY10 := Aside0.mk Av; clear Av; have KL10 := aM (show ((ji3) : Int).toNat ≤ Ab.length from by omega); replace Bc := eq_true Bc) | ((with_reducible refine gate_callee (f := 20) rfl ?_); refine glE (some 10) Tryd.func20 #[.pointer (some ⟨g, 0, none⟩), .slice Ar Am.length An] ?_; (with_reducible refine (spec_l1Cur_among.calls g Ad Ak Al _ _ Am Aw Ax Ay w0 _ ?side1 ?side2 ?side3 ?side4 ?side5 A6.out).mono ?_); (case side1 => exact Z3); (case side2 => exact Z10); (case side3 => repeat (first | exact Z111 | (with_reducible refine Kd.C_alloc ?_ _) | (with_reducible refine Kd.C_drewN ?_ _) | (with_reducible refine Kd.C_drew ?_))); (case side4 => exact Ba.out); (case side5 => exact fun ad e_ _ h_ => IsS44.own_ne HI0.out Ae.out (by decide) Z145); rintro e Bi ⟨rfl, hi, hb, hk⟩; refine ⟨_, rfl, ?_⟩; replace Ae := aM (Kd.R_mono (Kd.R_keep (IsS44.apart (show IsS44 w0 _ g Ad Ak Al from Z3) Z69 (by decide)) hk (fun _ h => h.2)) (fun _ h => h.1)); replace HK := aM (KeepBut.trans Z6 hk (.inl rfl)); replace HB := aM (hb); replace HI0 := aM (hi); (try clear hb); (try clear hk); (try clear hi)))
   go_ret
   exact ⟨Z116, Z3, Z10, Z6⟩
  ·rw [if_neg c5] at H
   exact absurd H (by simp)
 ·rw [if_neg c4] at H
  exact absurd H (by simp)
def spec_DrawNearestShade.f (k : Nat) (l0 : List Int) : Option ((List (S30)) × Int × Int) := (spec_l1Cur_shadeCard.f k l0 0 0).bind fun bt251 => ((spec_l1Cur_wheel3.f l0 bt251.2.1 bt251.2.2).bind fun bt256 => ((some (([0, 3, 9, (-1), 10] : List Int) : List Int)).bind fun y259 => ((spec_l1Cur_pick.f l0 bt256.2.1 bt256.2.2 24).bind fun bt262 => (if 0 ≤ (wrap64 (3 + (wrap64 (Int.tdiv bt262.1 11)))) then (if (wrap64 (3 + (wrap64 (Int.tdiv bt262.1 11)))) ≤ (y259.length : Int) then ((spec_l1Cur_among.f l0 bt262.2.1 bt262.2.2 (y259.take ((wrap64 (3 + (wrap64 (Int.tdiv bt262.1 11)))) : Int).toNat)).bind fun bt269 => (some (bt251.1, bt256.1, bt269.1))) else (none)) else (none)))))
theorem spec_DrawNearestShade.calls (k : Nat) (A0 : Option Addr) (c0 : Nat) (l0 : List Int) (r1 : List (S30)) (r2 : Int) (r3 : Int) (w : World) (Bl : Kd.C (Kd.int .u8) w A0 l0.length l0) (Bm : l0.length ≤ c0) (h : spec_DrawNearestShade.f k l0 = some (r1, r2, r3)) :
  Calls Tryd.prog 5 #[.slice A0 l0.length c0] w fun e w' => ∃ v0_ : Value, e = .returned (.tuple #[v0_, .int .i64 r2, .int .i64 r3]) ∧ Kd.R k30 30 w' w.heap.size (fun _ => True) v0_ r1 ∧ Below w.heap.size w w' := by
 have hu44 := Tryd.underlying44; have Bs := Aside0.mk Bl; have Bv := Aside0.mk Bm; clear Bl Bm; have HB := aM (Below.refl w.heap.size w); have H : ((spec_l1Cur_shadeCard.f k l0 0 0).bind fun Aq => ((spec_l1Cur_wheel3.f l0 Aq.2.1 Aq.2.2).bind fun Ag => ((some (([0, 3, 9, (-1), 10] : List Int) : List Int)).bind fun Ab => ((spec_l1Cur_pick.f l0 Ag.2.1 Ag.2.2 24).bind fun Aa => (if 0 ≤ (wrap64 (3 + (wrap64 (Int.tdiv Aa.1 11)))) then (if (wrap64 (3 + (wrap64 (Int.tdiv Aa.1 11)))) ≤ (Ab.length : Int) then ((spec_l1Cur_among.f l0 Aa.2.1 Aa.2.2 (Ab.take ((wrap64 (3 + (wrap64 (Int.tdiv Aa.1 11)))) : Int).toNat)).bind fun Ad => (some (Aq.1, Ag.1, Ad.1))) else (none)) else (none)))))) = some (r1, r2, r3) := h; clear h; replace H := Option.bind_eq_some_iff.mp H; obtain ⟨⟨Ah, Av, Aw⟩, Bn, H⟩ := H; replace H : ((spec_l1Cur_wheel3.f l0 Av Aw).bind fun Ag => ((some (([0, 3, 9, (-1), 10] : List Int) : List Int)).bind fun Ab => ((spec_l1Cur_pick.f l0 Ag.2.1 Ag.2.2 24).bind fun Aa => (if 0 ≤ (wrap64 (3 + (wrap64 (Int.tdiv Aa.1 11)))) then (if (wrap64 (3 + (wrap64 (Int.tdiv Aa.1 11)))) ≤ (Ab.length : Int) then ((spec_l1Cur_among.f l0 Aa.2.1 Aa.2.2 (Ab.take ((wrap64 (3 + (wrap64 (Int.tdiv Aa.1 11)))) : Int).toNat)).bind fun Ad => (some (Ah, Ag.1, Ad.1))) else (none)) else (none))))) = some (r1, r2, r3) := H; have A2 := Aside0.mk Bn; clear Bn; replace H := Option.bind_eq_some_iff.mp H; obtain ⟨⟨Ak, An, Ao⟩, Bo, H⟩ := H; replace H : ((some (([0, 3, 9, (-1), 10] : List Int) : List Int)).bind fun Ab => ((spec_l1Cur_pick.f l0 An Ao 24).bind fun Aa => (if 0 ≤ (wrap64 (3 + (wrap64 (Int.tdiv Aa.1 11)))) then (if (wrap64 (3 + (wrap64 (Int.tdiv Aa.1 11)))) ≤ (Ab.length : Int) then ((spec_l1Cur_among.f l0 Aa.2.1 Aa.2.2 (Ab.take ((wrap64 (3 + (wrap64 (Int.tdiv Aa.1 11)))) : Int).toNat)).bind fun Ad => (some (Ah, Ak, Ad.1))) else (none)) else (none)))) = some (r1, r2, r3) := H; have A3 := Aside0.mk Bo; clear Bo; obtain ⟨Ab, Ai⟩ : ∃ y_ : List Int, y_ = (([0, 3, 9, (-1), 10] : List Int)) := ⟨_, rfl⟩
 replace H : ((spec_l1Cur_pick.f l0 An Ao 24).bind fun Aa => (if 0 ≤ (wrap64 (3 + (wrap64 (Int.tdiv Aa.1 11)))) then (if (wrap64 (3 + (wrap64 (Int.tdiv Aa.1 11)))) ≤ (Ab.length : Int) then ((spec_l1Cur_among.f l0 Aa.2.1 Aa.2.2 (Ab.take ((wrap64 (3 + (wrap64 (Int.tdiv Aa.1 11)))) : Int).toNat)).bind fun Ad => (some (Ah, Ak, Ad.1))) else (none)) else (none))) = some (r1, r2, r3) := by first | (rw [Ai]; with_reducible exact H) | (have H2_ := (Option.bind_some _ _).symm.trans H; rw [Ai]; with_reducible exact H2_) | (have H2_ := (Option.bind_some _ _).symm.trans H; with_reducible exact H2_) | with_reducible exact H | (rw [Ai]; exact H) | exact H
 have Ay := Aside0.mk Ai; clear Ai; replace H := Option.bind_eq_some_iff.mp H; obtain ⟨⟨Ap, Al, Am⟩, Bp, H⟩ := H; replace H : (if 0 ≤ (wrap64 (3 + (wrap64 (Int.tdiv Ap 11)))) then (if (wrap64 (3 + (wrap64 (Int.tdiv Ap 11)))) ≤ (Ab.length : Int) then ((spec_l1Cur_among.f l0 Al Am (Ab.take ((wrap64 (3 + (wrap64 (Int.tdiv Ap 11)))) : Int).toNat)).bind fun Ad => (some (Ah, Ak, Ad.1))) else (none)) else (none)) = some (r1, r2, r3) := H; have A4 := Aside0.mk Bp; clear Bp; obtain ⟨ji5, hji5⟩ : ∃ j_ : Int, (wrap64 (3 + (wrap64 (Int.tdiv Ap 11)))) = j_ := ⟨_, rfl⟩
 replace H : (if 0 ≤ (ji5) then (if (ji5) ≤ (Ab.length : Int) then ((spec_l1Cur_among.f l0 Al Am (Ab.take ((ji5) : Int).toNat)).bind fun Ad => (some (Ah, Ak, Ad.1))) else (none)) else (none)) = some (r1, r2, r3) := by first | (rw [hji5] at H; exact H) | (simp only [hji5] at H ⊢; exact H)
 (try rw [hji5] at A2)
 (try rw [hji5] at A3)
 (try rw [hji5] at A4)
 have hji5w : (IntKind.i64.wrap (3 + (wrap64 (Int.tdiv Ap 11)))) = ji5 := (i64_w _).trans hji5
 by_cases c6 : 0 ≤ (ji5)
 ·rw [if_pos c6] at H
  have c6b0 := eq_true c6; have c6b1 : decide (0 ≤ (ji5)) = true := decide_eq_true c6; clear c6
  by_cases c7 : (ji5) ≤ (Ab.length : Int)
  ·rw [if_pos c7] at H
   have c7b0 := eq_true c7; have c7b1 : decide ((ji5) ≤ (Ab.length : Int)) = true := decide_eq_true c7; clear c7; obtain ⟨Ar, Aj⟩ : ∃ y_ : List Int, y_ = (Ab.take ((ji5) : Int).toNat) := ⟨_, rfl⟩
   replace H : ((spec_l1Cur_among.f l0 Al Am Ar).bind fun Ad => (some (Ah, Ak, Ad.1))) = some (r1, r2, r3) := by first | (rw [Aj]; with_reducible exact H) | (have H2_ := (Option.bind_some _ _).symm.trans H; rw [Aj]; with_reducible exact H2_) | (have H2_ := (Option.bind_some _ _).symm.trans H; with_reducible exact H2_) | with_reducible exact H | (rw [Aj]; exact H) | exact H
   have Az := Aside0.mk Aj; clear Aj; replace H := Option.bind_eq_some_iff.mp H; obtain ⟨⟨Bf, Bh, Bi⟩, Bq, H⟩ := H; replace H : (some (Ah, Ak, Bf)) = some (r1, r2, r3) := H; have A8 := Aside0.mk Bq; clear Bq
   simp only [Option.some.injEq, Prod.mk.injEq] at H
   obtain ⟨rfl, rfl, rfl⟩ := H
   go_enter Tryd.func5, Tryd.ntmps5
   go_wp2_with (first | ((with_reducible refine gate_dst (N := 9) rfl ?_); refine bxE 9 #[.slice A0 l0.length c0, .int .i64 0, .int .u64 0] 44 ?_; intro Ac hg w9 hbox hb; have HI250 := aM ((⟨A0, c0, hbox, (Z185 : w.heap.size ≤ Ac), Bs.out⟩ : IsS44 w _ Ac l0 0 0)); replace HB := hbS Z1 hb; clear hb hbox hg) | ((with_reducible refine gate_callee (f := 18) rfl ?_); refine glE (some 11) Tryd.func18 #[.pointer (some ⟨Ac, 0, none⟩)] ?_; (with_reducible refine (spec_l1Cur_shadeCard.calls k Ac l0 0 0 Ah Av Aw w _ ?side1 ?side2 A2.out).mono ?_); (case side1 => exact Z62); (case side2 => exact Z70); rintro e Bw ⟨Bt, rfl, Br, hi, hb, hk⟩; refine ⟨_, rfl, ?_⟩; have Ae := aM (Kd.R_lower Br (below_size Z70)); replace HB := aM (hb); replace HI250 := aM (hi); (try clear hb); (try clear hk); (try clear hi); (try clear Br)) | ((with_reducible refine gate_callee (f := 19) rfl ?_); refine glE (some 14) Tryd.func19 #[.pointer (some ⟨Ac, 0, none⟩)] ?_; (with_reducible refine (spec_l1Cur_wheel3.calls Ac l0 Av Aw Ak An Ao w _ ?side1 ?side2 A3.out).mono ?_); (case side1 => exact Z62); (case side2 => exact Z70); rintro e Bx ⟨rfl, hi, hb, hk⟩; refine ⟨_, rfl, ?_⟩; replace Ae := aM (Kd.R_mono (Kd.R_keep (IsS44.apart (show IsS44 w _ Ac l0 Av Aw from Z62) Z69 (by decide)) hk (fun _ h => h.2)) (fun _ h => h.1)); replace HB := aM (hb); replace HI250 := aM (hi); (try clear hb); (try clear hk); (try clear hi)) | ((with_reducible refine gate_dst (N := 16) rfl ?_); refine Kd.R_lit (Kd.int .i64) _ 3 ?hg (N := 16) ?hd (xs := ([0, 3, 9, (-1), 10] : List Int)) (inner := [.int .i64 0, .int .i64 3, .int .i64 9, .int .i64 (-1), .int .i64 10]) (ok := fun _ => True) (okp := fun _ => True) ?hr ?hp (fun _ hk => hk) trivial (Below.refl _ _) (Nat.le_refl _) (by simp) ?_; (case hd => rfl); (case hg => rfl); (case hr => first | (go_simp; done) | (go_simp; rfl)); (case hp => exact (Reps.one (show Kd.M (Kd.int .i64) _ _ _ 0 [.int .i64 0] from rfl) (Reps.one (show Kd.M (Kd.int .i64) _ _ _ 3 [.int .i64 3] from rfl) (Reps.one (show Kd.M (Kd.int .i64) _ _ _ 9 [.int .i64 9] from rfl) (Reps.one (show Kd.M (Kd.int .i64) _ _ _ (-1) [.int .i64 (-1)] from rfl) (Reps.one (show Kd.M (Kd.int .i64) _ _ _ 10 [.int .i64 10] from rfl) (Reps.none _ _))))))); intro Bu Bz Au hb hg_ hnew_; clear hg_ hnew_; (first | rw [← Ay.out] at Au | (simp only [Int.reduceToNat] at Au; rw [← Ay.out] at Au)); replace Ae := roB Ae hb; have Af := aM (Kd.R_lower Au (below_size Z70)); replace HB := aM (below_step Z70 hb); replace HI250 := aM (IsS44.below Z62 hb); clear hb Au) | ((with_reducible refine gate_callee (f := 21) rfl ?_); refine glE (some 18) Tryd.func21 #[.pointer (some ⟨Ac, 0, none⟩), .int .i64 24] ?_; (with_reducible refine (spec_l1Cur_pick.calls Ac l0 An Ao 24 Ap Al Am w _ ?side1 ?side2 A4.out).mono ?_); (case side1 => exact Z62); (case side2 => exact Z70); rintro e B0 ⟨rfl, hi, hb, hk⟩; refine ⟨_, rfl, ?_⟩; replace Ae := aM (Kd.R_mono (Kd.R_keep (IsS44.apart (show IsS44 w _ Ac l0 An Ao from Z62) Z69 (by decide)) hk (fun _ h => h.2)) (fun _ h => h.1)); replace Af := aM (Kd.R_mono (Kd.R_keep (IsS44.apart (show IsS44 w _ Ac l0 An Ao from Z62) Z43 (by decide)) hk (fun _ h => h.2)) (fun _ h => h.1)); replace HB := aM (hb); replace HI250 := aM (hi); (try clear hb); (try clear hk); (try clear hi); obtain ⟨Bb, Ax, Bj⟩ := Kd.R_slice Af.out; subst Bj; have Bk : ((ji5) : Int) ≤ ((Ab.length : Int) : Int) := of_decide_eq_true Z25; obtain ⟨i015, hi015, _, hsz15, _⟩ := info_parts info3; have hroom15 : Ab.length ≤ Ax := (Kd.R_reads' Af.out).2.1; have hC15 : Kd.C (Kd.int .i64) _ Bb Ab.length Ab := (Kd.R_reads' Af.out).2.2; have hcut15 := cut_to (P := Tryd.prog) 48 3 .i64 Tryd.underlying48 hi015 Bb Ab.length Ax (ji5) (of_decide_eq_true Z25) Bk hroom15; have Bc := Kd.C_take (m := ((ji5) : Int).toNat) hC15 (by omega); have Bd : Ar.length = ((ji5) : Int).toNat := (by rw [Az.out, List.length_take]; omega); rw [← Az.out] at Bc; rw [← Bd] at hcut15; have Ba := Aside0.mk Bc; have Bg := aM (show Ar.length ≤ Ax from by omega); clear Bc hC15 hroom15 hi015 hsz15; have KY15 := Aside0.mk Bd; clear Bd; have KL15 := aM (show ((ji5) : Int).toNat ≤ Ab.length from by omega); replace Bk := eq_true Bk) | ((with_reducible refine gate_callee (f := 20) rfl ?_); refine glE (some 22) Tryd.func20 #[.pointer (some ⟨Ac, 0, none⟩), .slice Bb Ar.length Ax] ?_; (with_reducible refine (spec_l1Cur_among.calls Ac l0 Al Am _ _ Ar Bf Bh Bi w _ ?side1 ?side2 ?side3 ?side4 ?side5 A8.out).mono ?_); (case side1 => exact Z62); (case side2 => exact Z70); (case side3 => repeat (first | exact Z112 | (with_reducible refine Kd.C_alloc ?_ _) | (with_reducible refine Kd.C_drewN ?_ _) | (with_reducible refine Kd.C_drew ?_))); (case side4 => exact Bg.out); (case side5 => exact fun ad e_ _ h_ => IsS44.own_ne HI250.out Af.out (by decide) Z145); rintro e B2 ⟨rfl, hi, hb, hk⟩; refine ⟨_, rfl, ?_⟩; replace Ae := aM (Kd.R_mono (Kd.R_keep (IsS44.apart (show IsS44 w _ Ac l0 Al Am from Z62) Z69 (by decide)) hk (fun _ h => h.2)) (fun _ h => h.1)); replace Af := aM (Kd.R_mono (Kd.R_keep (IsS44.apart (show IsS44 w _ Ac l0 Al Am from Z62) Z43 (by decide)) hk (fun _ h => h.2)) (fun _ h => h.1)); replace HB := aM (hb); replace HI250 := aM (hi); (try clear hb); (try clear hk); (try clear hi)))
   go_ret3
   exact ⟨_, Z101, Z69, Z70⟩
  ·rw [if_neg c7] at H
   exact absurd H (by simp)
 ·rw [if_neg c6] at H
  exact absurd H (by simp)
def impl_in.f (a0 : Int) (a1 : Int) (a2 : Int) : Option (Bool) := if a0 ≥ a1 then (some (decide (a0 ≤ a2))) else (some false)
theorem impl_in.calls (a0 : Int) (a1 : Int) (a2 : Int) (r : Bool) (w : World) (h : impl_in.f a0 a1 a2 = some r) :
  Calls Tryd.prog 24 #[.int .i64 a0, .int .i64 a1, .int .i64 a2] w fun e w' => e = .returned (.bool r) ∧ Drawn0 w w' := by
 have H : (if a0 ≥ a1 then (some (decide (a0 ≤ a2))) else (some false)) = some r := h; clear h
 by_cases c4 : a0 ≥ a1
 ·rw [if_pos c4] at H
  have c4b0 : decide (a1 ≤ a0) = true := decide_eq_true c4; clear c4; obtain rfl := Option.some.inj H
  go_enter Tryd.func24, Tryd.ntmps24
  go_wp2
  go_ret
  exact ⟨Z37, Z61⟩
 ·rw [if_neg c4] at H
  have c4b0 : decide (a1 ≤ a0) = false := decide_eq_false c4; clear c4; obtain rfl := Option.some.inj H
  go_enter Tryd.func24, Tryd.ntmps24
  go_wp2
  go_ret
  exact ⟨Z37, Z61⟩
theorem impl_in.eq (a b c : Int) : impl_in.f a b c = some (rng a b c) := by
 unfold impl_in.f rng; by_cases h : b ≤ a <;> simp [h]
def impl_isStep.f (a0 : Int) : Option (Bool) := (impl_in.f a0 0 23).bind fun t272 => (some t272)
theorem impl_isStep.calls (a0 : Int) (r : Bool) (w : World) (h : impl_isStep.f a0 = some r) :
  Calls Tryd.prog 23 #[.int .i64 a0] w fun e w' => e = .returned (.bool r) ∧ Drawn0 w w' := by
 have H : ((impl_in.f a0 0 23).bind fun Aa => (some Aa)) = some r := h; clear h; replace H := Option.bind_eq_some_iff.mp H; obtain ⟨Aa, Ab, H⟩ := H; replace H : (some Aa) = some r := H; have A2 := Aside0.mk Ab; clear Ab; obtain rfl := Option.some.inj H
 go_enter Tryd.func23, Tryd.ntmps23
 go_wp2_with (first | ((with_reducible refine gate_callee (f := 24) rfl ?_); refine glE (some 4) Tryd.func24 #[.int .i64 a0, .int .i64 0, .int .i64 23] ?_; (with_reducible refine (impl_in.calls a0 0 23 Aa _ A2.out).mono ?_); rintro e w' ⟨rfl, ⟨nd, rfl⟩⟩; refine ⟨_, rfl, ?_⟩))
 go_ret
 exact ⟨Z37, Z61⟩
def impl_isId.f (a0 : Int) : Option (Bool) := (impl_in.f a0 1 99).bind fun t273 => (some t273)
theorem impl_isId.calls (a0 : Int) (r : Bool) (w : World) (h : impl_isId.f a0 = some r) :
  Calls Tryd.prog 56 #[.int .i64 a0] w fun e w' => e = .returned (.bool r) ∧ Drawn0 w w' := by
 have H : ((impl_in.f a0 1 99).bind fun Aa => (some Aa)) = some r := h; clear h; replace H := Option.bind_eq_some_iff.mp H; obtain ⟨Aa, Ab, H⟩ := H; replace H : (some Aa) = some r := H; have A2 := Aside0.mk Ab; clear Ab; obtain rfl := Option.some.inj H
 go_enter Tryd.func56, Tryd.ntmps56
 go_wp2_with (first | ((with_reducible refine gate_callee (f := 24) rfl ?_); refine glE (some 4) Tryd.func24 #[.int .i64 a0, .int .i64 1, .int .i64 99] ?_; (with_reducible refine (impl_in.calls a0 1 99 Aa _ A2.out).mono ?_); rintro e w' ⟨rfl, ⟨nd, rfl⟩⟩; refine ⟨_, rfl, ?_⟩))
 go_ret
 exact ⟨Z37, Z61⟩
def lays_strings_Trim_ren : Go.Shelf.Ren := ⟨fun | 160 => 64 | 232 => 66 | 231 => 65 | 227 => 67 | 234 => 69 | 233 => 68 | 236 => 71 | 235 => 70 | 228 => 72 | 271 => 75 | 151 => 74 | 197 => 73 | 120 => 78 | 152 => 77 | 260 => 76 | 137 => 79 | 119 => 80 | 224 => 81 | 225 => 82 | 217 => 83 | 266 => 84 | n => n, fun | 9 => 9 | 4 => 4 | 3 => 3 | 5 => 5 | 117 => 74 | 116 => 73 | 0 => 0 | 124 => 77 | 21 => 21 | 105 => 79 | 46 => 68 | 119 => 83 | 139 => 86 | 138 => 85 | n => n, fun | 3 => 0 | 4 => 1 | n => n⟩
theorem lays_strings_Trim : Go.Proofs.Lays.n160 Tryd.prog lays_strings_Trim_ren := {
 mixed := by kernel_rfl
 f119 := Tryd.func80.trans (congrArg some Z52)
 f120 := Tryd.func78.trans (congrArg some Z52)
 f137 := Tryd.func79.trans (congrArg some Z52)
 f151 := Tryd.func74.trans (congrArg some Z52)
 f152 := Tryd.func77.trans (congrArg some Z52)
 f160 := Tryd.func64.trans (congrArg some Z52)
 f197 := Tryd.func73.trans (congrArg some Z52)
 f217 := Tryd.func83.trans (congrArg some Z52)
 f224 := Tryd.func81.trans (congrArg some Z52)
 f225 := Tryd.func82.trans (congrArg some Z52)
 f227 := Tryd.func67.trans (congrArg some Z52)
 f228 := Tryd.func72.trans (congrArg some Z52)
 f231 := Tryd.func65.trans (congrArg some Z52)
 f232 := Tryd.func66.trans (congrArg some Z52)
 f233 := Tryd.func68.trans (congrArg some Z52)
 f234 := Tryd.func69.trans (congrArg some Z52)
 f235 := Tryd.func70.trans (congrArg some Z52)
 f236 := Tryd.func71.trans (congrArg some Z52)
 f260 := Tryd.func76.trans (congrArg some Z52)
 f266 := Tryd.func84.trans (congrArg some Z52)
 f271 := Tryd.func75.trans (congrArg some Z52)
 t0 := Tryd.underlying0
 a0 := Tryd.isAgg0
 z0 := Tryd.sizeOf0
 v0 := Tryd.zeroValue0
 t3 := Tryd.underlying3
 a3 := Tryd.isAgg3
 z3 := Tryd.sizeOf3
 v3 := Tryd.zeroValue3
 t4 := Tryd.underlying4
 a4 := Tryd.isAgg4
 z4 := Tryd.sizeOf4
 v4 := Tryd.zeroValue4
 t5 := Tryd.underlying5
 a5 := Tryd.isAgg5
 z5 := Tryd.sizeOf5
 v5 := Tryd.zeroValue5
 t9 := Tryd.underlying9
 a9 := Tryd.isAgg9
 z9 := Tryd.sizeOf9
 v9 := Tryd.zeroValue9
 t21 := Tryd.underlying21
 a21 := Tryd.isAgg21
 z21 := Tryd.sizeOf21
 v21 := Tryd.zeroValue21
 t46 := Tryd.underlying68
 a46 := Tryd.isAgg68
 z46 := Tryd.sizeOf68
 v46 := Tryd.zeroValue68
 t105 := Tryd.underlying79
 a105 := Tryd.isAgg79
 z105 := Tryd.sizeOf79
 v105 := Tryd.zeroValue79
 t116 := Tryd.underlying73
 a116 := Tryd.isAgg73
 z116 := Tryd.sizeOf73
 t117 := Tryd.underlying74
 a117 := Tryd.isAgg74
 z117 := Tryd.sizeOf74
 v117 := Tryd.zeroValue74
 t119 := Tryd.underlying83
 a119 := Tryd.isAgg83
 z119 := Tryd.sizeOf83
 t124 := Tryd.underlying77
 a124 := Tryd.isAgg77
 z124 := Tryd.sizeOf77
 v124 := Tryd.zeroValue77
 t138 := Tryd.underlying85
 a138 := Tryd.isAgg85
 z138 := Tryd.sizeOf85
 v138 := Tryd.zeroValue85
 t139 := Tryd.underlying86
 a139 := Tryd.isAgg86
 z139 := Tryd.sizeOf86
 v139 := Tryd.zeroValue86
 g3 := by kernel_rfl
 g4 := Z52}
theorem dropW_nil (p : UInt8 → Bool) (l : List UInt8) : l.dropWhile p = [] ↔ l.all p = true := by
 induction l with
 | nil => simp
 | cons x t ih =>
  by_cases h : p x = true
  ·simp [List.dropWhile_cons, h, ih]
  ·simp [List.dropWhile_cons, h]
theorem trim_nil (l cs : List UInt8) : Lib.trimS l cs = [] ↔ l.all (cs.contains ·) = true := by
 unfold Lib.trimS Lib.trimLeftS Lib.trimRightS
 rw [dropW_nil]
 constructor
 ·intro h
  have e : l.reverse.all (cs.contains ·) = true := by
   rw [List.all_reverse] at h; rw [← List.takeWhile_append_dropWhile (p := (cs.contains ·)) (l := l.reverse), List.all_append, Bool.and_eq_true]
   exact ⟨List.all_takeWhile, h⟩
  rwa [List.all_reverse] at e
 ·intro h
  have e : l.reverse.dropWhile (cs.contains ·) = [] := (dropW_nil _ _).2 (by rw [List.all_reverse]; exact h); rw [e]
  rfl
theorem cut_has (b : UInt8) : [97, 98, 99, 100, 101, 102, 103, 104, 105, 106, 107, 108, 109, 110, 111, 112, 113, 114, 115, 116, 117, 118, 119, 120, 121, 122].contains b = (decide (97 ≤ b.toNat) && decide (b.toNat ≤ 122)) := by
 have h : ∀ n : Fin 256, ([97, 98, 99, 100, 101, 102, 103, 104, 105, 106, 107, 108, 109, 110, 111, 112, 113, 114, 115, 116, 117, 118, 119, 120, 121, 122] : List UInt8).contains (UInt8.ofNat n.val) = (decide (97 ≤ (UInt8.ofNat n.val).toNat) && decide ((UInt8.ofNat n.val).toNat ≤ 122)) := by decide +kernel
 have e := h ⟨b.toNat, b.toNat_lt⟩
 simpa using e
def isWordB (s : ByteArray) : Bool := rng (s.size : Int) 1 10 && s.data.toList.all fun b => decide (97 ≤ b.toNat) && decide (b.toNat ≤ 122)
def impl_isWord.f (a0 : ByteArray) : Option Bool := some (isWordB a0)
theorem impl_isWord.calls (a0 : ByteArray) (r : Bool) (w : World) (h : impl_isWord.f a0 = some r) :
  Calls Tryd.prog 57 #[.string a0] w fun e w' => e = .returned (.bool r) ∧ Below w.heap.size w w' := by
 obtain rfl := Option.some.inj h; clear h; cases hin : rng (a0.size : Int) 1 10 with
 | false =>
  have e0 : isWordB a0 = false := by unfold isWordB; rw [hin]; rfl
  rw [e0]; have hc := impl_in.calls (a0.size : Int) 1 10 false; have HI := aM (show impl_in.f (a0.size : Int) 1 10 = some false by rw [impl_in.eq, hin]); clear hin e0; have HC := Aside0.mk hc; clear hc
  go_enter Tryd.func57, Tryd.ntmps57
  go_wp2_with fail
  refine (HC.out _ HI.out).mono ?_; rintro e w' ⟨rfl, hd⟩
  go_wp2
  go_ret
  exact ⟨Z109, hd.below⟩
 | true =>
  have hsz := (rng_iff _ _ _).1 hin
  have hcall : ∀ W, Calls Tryd.prog 64 #[.string a0, .string ⟨#[97, 98, 99, 100, 101, 102, 103, 104, 105, 106, 107, 108, 109, 110, 111, 112, 113, 114, 115, 116, 117, 118, 119, 120, 121, 122]⟩] W _ := fun W => Any.strings_Trim_laid lays_strings_Trim Z52 a0 ⟨#[97, 98, 99, 100, 101, 102, 103, 104, 105, 106, 107, 108, 109, 110, 111, 112, 113, 114, 115, 116, 117, 118, 119, 120, 121, 122]⟩ W (by omega) (by decide) (fun j b hb => (show ∀ x ∈ (⟨#[97, 98, 99, 100, 101, 102, 103, 104, 105, 106, 107, 108, 109, 110, 111, 112, 113, 114, 115, 116, 117, 118, 119, 120, 121, 122]⟩ : ByteArray).data.toList, x.toNat < 128 by decide) b (List.mem_of_getElem? hb))
  have hc := impl_in.calls (a0.size : Int) 1 10 true; have HI := aM (show impl_in.f (a0.size : Int) 1 10 = some true by rw [impl_in.eq, hin]); have HIN := Aside0.mk hin; clear hin hsz; have HC := Aside0.mk hc; have HT := Aside0.mk hcall; clear hc hcall
  have hemp : (Lib.trimS a0.data.toList [97, 98, 99, 100, 101, 102, 103, 104, 105, 106, 107, 108, 109, 110, 111, 112, 113, 114, 115, 116, 117, 118, 119, 120, 121, 122] = []) ↔ a0.data.toList.all (fun b => decide (97 ≤ b.toNat) && decide (b.toNat ≤ 122)) = true := by
   rw [trim_nil]
   simp only [cut_has]
  cases hall : a0.data.toList.all (fun b => decide (97 ≤ b.toNat) && decide (b.toNat ≤ 122)) with
  | true =>
   have e0 : isWordB a0 = true := by unfold isWordB; rw [HIN.out, hall]; rfl
   have e1 := aM (hemp.2 hall); rw [e0]; clear e0 hall hemp
   go_enter Tryd.func57, Tryd.ntmps57
   go_wp2_with fail
   refine (HC.out _ HI.out).mono ?_; rintro e w' ⟨rfl, hd⟩; have HD := Aside0.mk hd.below; clear hd
   go_wp2_with fail
   refine (HT.out _).mono ?_; rintro e w2 ⟨rfl, hb⟩
   have e2 : (⟨(Lib.trimS a0.data.toList [97, 98, 99, 100, 101, 102, 103, 104, 105, 106, 107, 108, 109, 110, 111, 112, 113, 114, 115, 116, 117, 118, 119, 120, 121, 122]).toArray⟩ : ByteArray) = ⟨#[]⟩ := by rw [e1.out]
   have e3 : (Value.string ⟨(Lib.trimS a0.data.toList (⟨#[97, 98, 99, 100, 101, 102, 103, 104, 105, 106, 107, 108, 109, 110, 111, 112, 113, 114, 115, 116, 117, 118, 119, 120, 121, 122]⟩ : ByteArray).data.toList).toArray⟩) = .string ⟨#[]⟩ := congrArg Value.string e2; rw [e3]; clear e2 e3
   go_wp2
   go_ret
   exact ⟨Z109, below_step HD.out hb⟩
  | false =>
   have e0 : isWordB a0 = false := by unfold isWordB; rw [HIN.out, hall]; rfl
   rw [e0]; obtain ⟨t, ht⟩ : ∃ t : ByteArray, t = ⟨(Lib.trimS a0.data.toList (⟨#[97, 98, 99, 100, 101, 102, 103, 104, 105, 106, 107, 108, 109, 110, 111, 112, 113, 114, 115, 116, 117, 118, 119, 120, 121, 122]⟩ : ByteArray).data.toList).toArray⟩ := ⟨_, rfl⟩
   have hne : t.data.toList ≠ [] := by
    intro h; rw [ht] at h; have := hemp.1 (by simpa using h); rw [hall] at this; cases this
   have e1 : (t.toList = []) = False := eq_false (by rw [Lib.toList_data]; exact hne)
   have e2 : t.toList.isEmpty = false := by
    cases hq : t.toList with
    | nil => exact absurd hq (by rw [Lib.toList_data]; exact hne)
    | cons _ _ => rfl
   clear e0 hall hemp hne
   go_enter Tryd.func57, Tryd.ntmps57
   go_wp2_with fail
   refine (HC.out _ HI.out).mono ?_; rintro e w' ⟨rfl, hd⟩; have HD := Aside0.mk hd.below; clear hd
   go_wp2_with fail
   refine (HT.out _).mono ?_; rintro e w2 ⟨rfl, hb⟩; rw [← ht]; clear ht
   go_wp2
   go_ret
   exact ⟨by first | rfl | (simp; done) | (simp [e1, e2]; done), below_step HD.out hb⟩
def impl_IsShade.f (a0_0 : Int) (a0_1 : ByteArray) (a0_2 : Int) (a0_3 : Int) (a0_4 : Int) : Option (Bool) := (impl_isId.f a0_0).bind fun t275 => (if t275 = true then ((impl_isWord.f a0_1).bind fun t276 => (if t276 = true then ((impl_isStep.f a0_2).bind fun t277 => (if t277 = true then ((impl_in.f a0_3 0 9).bind fun t278 => (if t278 = true then ((impl_in.f a0_4 1 8).bind fun t279 => (some t279)) else (some false))) else (some false))) else (some false))) else (some false))
theorem impl_IsShade.calls (Ad : Int) (Ai : ByteArray) (Ah : Int) (Af : Int) (Ae : Int) (r : Bool) (w : World) (h : impl_IsShade.f Ad Ai Ah Af Ae = some r) :
  Calls Tryd.prog 33 #[.agg #[.int .i64 Ad, .string Ai, .int .i64 Ah, .int .i64 Af, .int .i64 Ae]] w fun e w' => e = .returned (.bool r) ∧ Below w.heap.size w w' := by
 have hu30 := Tryd.underlying30; have HB := aM (Below.refl w.heap.size w); have H : ((impl_isId.f Ad).bind fun An => (if An = true then ((impl_isWord.f Ai).bind fun Ak => (if Ak = true then ((impl_isStep.f Ah).bind fun Aj => (if Aj = true then ((impl_in.f Af 0 9).bind fun Ag => (if Ag = true then ((impl_in.f Ae 1 8).bind fun Ab => (some Ab)) else (some false))) else (some false))) else (some false))) else (some false))) = some r := h; clear h; replace H := Option.bind_eq_some_iff.mp H; obtain ⟨An, Df, H⟩ := H; replace H : (if An = true then ((impl_isWord.f Ai).bind fun Ak => (if Ak = true then ((impl_isStep.f Ah).bind fun Aj => (if Aj = true then ((impl_in.f Af 0 9).bind fun Ag => (if Ag = true then ((impl_in.f Ae 1 8).bind fun Ab => (some Ab)) else (some false))) else (some false))) else (some false))) else (some false)) = some r := H; have A2 := Aside0.mk Df; clear Df
 by_cases c3 : An = true
 ·subst c3
  have H1 : ((impl_isWord.f Ai).bind fun Ak => (if Ak = true then ((impl_isStep.f Ah).bind fun Aj => (if Aj = true then ((impl_in.f Af 0 9).bind fun Ag => (if Ag = true then ((impl_in.f Ae 1 8).bind fun Ab => (some Ab)) else (some false))) else (some false))) else (some false))) = some r := by rw [if_pos rfl] at H; exact H
  clear H; have H := H1; clear H1; replace H := Option.bind_eq_some_iff.mp H; obtain ⟨Ak, Dg, H⟩ := H; replace H : (if Ak = true then ((impl_isStep.f Ah).bind fun Aj => (if Aj = true then ((impl_in.f Af 0 9).bind fun Ag => (if Ag = true then ((impl_in.f Ae 1 8).bind fun Ab => (some Ab)) else (some false))) else (some false))) else (some false)) = some r := H; have A4 := Aside0.mk Dg; clear Dg
  by_cases c5 : Ak = true
  ·subst c5
   have H1 : ((impl_isStep.f Ah).bind fun Aj => (if Aj = true then ((impl_in.f Af 0 9).bind fun Ag => (if Ag = true then ((impl_in.f Ae 1 8).bind fun Ab => (some Ab)) else (some false))) else (some false))) = some r := by rw [if_pos rfl] at H; exact H
   clear H; have H := H1; clear H1; replace H := Option.bind_eq_some_iff.mp H; obtain ⟨Aj, Dh, H⟩ := H; replace H : (if Aj = true then ((impl_in.f Af 0 9).bind fun Ag => (if Ag = true then ((impl_in.f Ae 1 8).bind fun Ab => (some Ab)) else (some false))) else (some false)) = some r := H; have A6 := Aside0.mk Dh; clear Dh
   by_cases c7 : Aj = true
   ·subst c7
    have H1 : ((impl_in.f Af 0 9).bind fun Ag => (if Ag = true then ((impl_in.f Ae 1 8).bind fun Ab => (some Ab)) else (some false))) = some r := by rw [if_pos rfl] at H; exact H
    clear H; have H := H1; clear H1; replace H := Option.bind_eq_some_iff.mp H; obtain ⟨Ag, Di, H⟩ := H; replace H : (if Ag = true then ((impl_in.f Ae 1 8).bind fun Ab => (some Ab)) else (some false)) = some r := H; have A8 := Aside0.mk Di; clear Di
    by_cases c9 : Ag = true
    ·subst c9
     have H1 : ((impl_in.f Ae 1 8).bind fun Ab => (some Ab)) = some r := by rw [if_pos rfl] at H; exact H
     clear H; have H := H1; clear H1; replace H := Option.bind_eq_some_iff.mp H; obtain ⟨Ab, Ao, H⟩ := H; replace H : (some Ab) = some r := H; have Dj := Aside0.mk Ao; clear Ao; obtain rfl := Option.some.inj H
     go_enter Tryd.func33, Tryd.ntmps33
     go_wp2_with (first | ((with_reducible refine gate_dst (N := 1) rfl ?_); refine bxE 1 #[.int .i64 Ad, .string Ai, .int .i64 Ah, .int .i64 Af, .int .i64 Ae] 30 ?_; intro Al hg Dk hbox hb; have Aa := aM (hbox); have Am := gwS hg Z1; have Ac := gwS hg Z1; replace HB := hbS Z1 hb; clear hb hbox hg; obtain ⟨Ap, Aq, Ar, Au, Av⟩ := bz5 Aa; obtain ⟨Aw, Ax, Ay, Az, Ba⟩ := fz5 Aa) | ((with_reducible refine gate_callee (f := 56) rfl ?_); refine glE (some 5) Tryd.func56 #[.int .i64 Ad] ?_; (with_reducible refine (impl_isId.calls Ad true _ A2.out).mono ?_); rintro e w' ⟨rfl, ⟨nd, rfl⟩⟩; refine ⟨_, rfl, ?_⟩) | (go_at_call 57; (with_reducible refine (impl_isWord.calls Ai true _ A4.out).mono ?_); rintro e Dl ⟨rfl, hb⟩; replace Aa := bkB Aa hb; replace HB := hbS Z57 hb; (try clear hb); obtain ⟨Bb, Bc, Bd, Bf, Bg⟩ := bz5 Aa; obtain ⟨Bh, Bi, Bj, Bk, Bl⟩ := fz5 Aa) | (go_at_call 23; (with_reducible refine (impl_isStep.calls Ah true _ A6.out).mono ?_); rintro e w' ⟨rfl, ⟨nd, rfl⟩⟩) | (go_at_call 24; (with_reducible refine (impl_in.calls Af 0 9 true _ A8.out).mono ?_); rintro e w' ⟨rfl, ⟨nd, rfl⟩⟩) | (go_at_call 24; (with_reducible refine (impl_in.calls Ae 1 8 Ab _ Dj.out).mono ?_); rintro e w' ⟨rfl, ⟨nd, rfl⟩⟩))
     go_ret
     exact ⟨Z39, Z57⟩
    ·replace c9 := Bool.eq_false_iff.mpr c9
     subst c9
     have H1 : (some false) = some r := by rw [if_neg (show ¬ (false = true) by decide)] at H; exact H
     clear H; have H := H1; clear H1; obtain rfl := Option.some.inj H
     go_enter Tryd.func33, Tryd.ntmps33
     go_wp2_with (first | ((with_reducible refine gate_dst (N := 1) rfl ?_); refine bxE 1 #[.int .i64 Ad, .string Ai, .int .i64 Ah, .int .i64 Af, .int .i64 Ae] 30 ?_; intro Al hg Dm hbox hb; have Aa := aM (hbox); have Am := gwS hg Z1; have Ac := gwS hg Z1; replace HB := hbS Z1 hb; clear hb hbox hg; obtain ⟨Bm, Bn, Bo, Bp, Bq⟩ := bz5 Aa; obtain ⟨Br, Bs, Bt, Bu, Bv⟩ := fz5 Aa) | ((with_reducible refine gate_callee (f := 56) rfl ?_); refine glE (some 5) Tryd.func56 #[.int .i64 Ad] ?_; (with_reducible refine (impl_isId.calls Ad true _ A2.out).mono ?_); rintro e w' ⟨rfl, ⟨nd, rfl⟩⟩; refine ⟨_, rfl, ?_⟩) | (go_at_call 57; (with_reducible refine (impl_isWord.calls Ai true _ A4.out).mono ?_); rintro e Dn ⟨rfl, hb⟩; replace Aa := bkB Aa hb; replace HB := hbS Z57 hb; (try clear hb); obtain ⟨Bw, Bx, Bz, B0, B2⟩ := bz5 Aa; obtain ⟨B3, B5, B6, B8, Ca⟩ := fz5 Aa) | (go_at_call 23; (with_reducible refine (impl_isStep.calls Ah true _ A6.out).mono ?_); rintro e w' ⟨rfl, ⟨nd, rfl⟩⟩) | (go_at_call 24; (with_reducible refine (impl_in.calls Af 0 9 false _ A8.out).mono ?_); rintro e w' ⟨rfl, ⟨nd, rfl⟩⟩))
     go_ret
     exact ⟨Z39, Z57⟩
   ·replace c7 := Bool.eq_false_iff.mpr c7
    subst c7
    have H1 : (some false) = some r := by rw [if_neg (show ¬ (false = true) by decide)] at H; exact H
    clear H; have H := H1; clear H1; obtain rfl := Option.some.inj H
    go_enter Tryd.func33, Tryd.ntmps33
    go_wp2_with (first | ((with_reducible refine gate_dst (N := 1) rfl ?_); refine bxE 1 #[.int .i64 Ad, .string Ai, .int .i64 Ah, .int .i64 Af, .int .i64 Ae] 30 ?_; intro Al hg Dp hbox hb; have Aa := aM (hbox); have Am := gwS hg Z1; have Ac := gwS hg Z1; replace HB := hbS Z1 hb; clear hb hbox hg; obtain ⟨Cb, Cc, Cd, Ce, Cf⟩ := bz5 Aa; obtain ⟨Cg, Ch, Ci, Cj, Ck⟩ := fz5 Aa) | ((with_reducible refine gate_callee (f := 56) rfl ?_); refine glE (some 5) Tryd.func56 #[.int .i64 Ad] ?_; (with_reducible refine (impl_isId.calls Ad true _ A2.out).mono ?_); rintro e w' ⟨rfl, ⟨nd, rfl⟩⟩; refine ⟨_, rfl, ?_⟩) | (go_at_call 57; (with_reducible refine (impl_isWord.calls Ai true _ A4.out).mono ?_); rintro e Dq ⟨rfl, hb⟩; replace Aa := bkB Aa hb; replace HB := hbS Z57 hb; (try clear hb); obtain ⟨Cl, Cm, Cn, Co, Cp⟩ := bz5 Aa; obtain ⟨Cq, Cr, Cs, Ct, Cu⟩ := fz5 Aa) | (go_at_call 23; (with_reducible refine (impl_isStep.calls Ah false _ A6.out).mono ?_); rintro e w' ⟨rfl, ⟨nd, rfl⟩⟩))
    go_ret
    exact ⟨Z39, Z57⟩
  ·replace c5 := Bool.eq_false_iff.mpr c5
   subst c5
   have H1 : (some false) = some r := by rw [if_neg (show ¬ (false = true) by decide)] at H; exact H
   clear H; have H := H1; clear H1; obtain rfl := Option.some.inj H
   go_enter Tryd.func33, Tryd.ntmps33
   go_wp2_with (first | ((with_reducible refine gate_dst (N := 1) rfl ?_); refine bxE 1 #[.int .i64 Ad, .string Ai, .int .i64 Ah, .int .i64 Af, .int .i64 Ae] 30 ?_; intro Al hg Dr hbox hb; have Aa := aM (hbox); have Am := gwS hg Z1; have Ac := gwS hg Z1; replace HB := hbS Z1 hb; clear hb hbox hg; obtain ⟨Cv, Cw, Cx, Cy, Cz⟩ := bz5 Aa; obtain ⟨C0, C1, C2, C3, C4⟩ := fz5 Aa) | ((with_reducible refine gate_callee (f := 56) rfl ?_); refine glE (some 5) Tryd.func56 #[.int .i64 Ad] ?_; (with_reducible refine (impl_isId.calls Ad true _ A2.out).mono ?_); rintro e w' ⟨rfl, ⟨nd, rfl⟩⟩; refine ⟨_, rfl, ?_⟩) | (go_at_call 57; (with_reducible refine (impl_isWord.calls Ai false _ A4.out).mono ?_); rintro e Ds ⟨rfl, hb⟩; replace Aa := bkB Aa hb; replace HB := hbS Z57 hb; (try clear hb)))
   go_ret
   exact ⟨Z39, Z57⟩
 ·replace c3 := Bool.eq_false_iff.mpr c3
  subst c3
  have H1 : (some false) = some r := by rw [if_neg (show ¬ (false = true) by decide)] at H; exact H
  clear H; have H := H1; clear H1; obtain rfl := Option.some.inj H
  go_enter Tryd.func33, Tryd.ntmps33
  go_wp2_with (first | ((with_reducible refine gate_dst (N := 1) rfl ?_); refine bxE 1 #[.int .i64 Ad, .string Ai, .int .i64 Ah, .int .i64 Af, .int .i64 Ae] 30 ?_; intro Al hg Dt hbox hb; have Aa := aM (hbox); have Am := gwS hg Z1; have Ac := gwS hg Z1; replace HB := hbS Z1 hb; clear hb hbox hg; obtain ⟨C5, C6, C7, C8, C9⟩ := bz5 Aa; obtain ⟨Da, Db, Dc, Dd, De⟩ := fz5 Aa) | ((with_reducible refine gate_callee (f := 56) rfl ?_); refine glE (some 5) Tryd.func56 #[.int .i64 Ad] ?_; (with_reducible refine (impl_isId.calls Ad false _ A2.out).mono ?_); rintro e w' ⟨rfl, ⟨nd, rfl⟩⟩; refine ⟨_, rfl, ?_⟩))
  go_ret
  exact ⟨Z39, Z57⟩
set_option maxHeartbeats 4000000 in
theorem IndexFunc_sh (p : S30 → Bool) (g : Nat) (lb : Array Value) (A : Option Addr) (c : Nat) (xs : List S30) (w : World)
  (eg : ∀ args w, (callFunc g args).run Tryd.prog w = .ok (.enter g args) w) (hr : Kd.C k30 w A xs.length xs)
  (hp : ∀ (W : World) (x : S30), Below w.heap.size w W → Calls Tryd.prog g (#[.agg #[.int .i64 x.f0, .string x.f1, .int .i64 x.f2, .int .i64 x.f3, .int .i64 x.f4]] ++ lb) W fun e w' => e = .returned (.bool (p x)) ∧ Below W.heap.size W w') :
  Calls Tryd.prog 63 #[.slice A xs.length c, .func (.func g) #[] lb] w fun e w' => e = .returned (.int .i64 (findI p xs)) ∧ Below w.heap.size w w' := by
 have hu_ := Tryd.underlying30; have hlen := Aside0.mk hr.2.1; have HR := Aside0.mk hr; have HP := Aside0.mk hp; clear hr hp
 go_enter Tryd.func63, Tryd.ntmps63
 go_wp2
 go_loopg [5, 8] xs.length (fun gg _ s8 wr => ∃ x : Int, s8 = .int .i64 x ∧ Aside0 (0 ≤ x ∧ x ≤ (xs.length : Int) ∧ (xs.length : Int) - x ≤ gg) ∧ Aside0 (Below w.heap.size w wr) ∧ Aside0 (∀ j : Nat, (j : Int) < x → p (xs.getD j z30) = false))
 case atStart => exact ⟨0, rfl, ⟨by omega, by omega, by omega⟩, ⟨Below.refl _ _⟩, ⟨fun j hj => absurd hj (by omega)⟩⟩
 case round =>
  obtain ⟨x, rfl, HX, BW, HA⟩ := hrel
  by_cases hlt : x < (xs.length : Int)
  ·have c0 : decide (x < (xs.length : Int)) = true := decide_eq_true hlt
   obtain ⟨ad, e0, Aa, Ab, Ac, Ad, Ae⟩ := at_T30 (Kd.C_below HR.out BW.out) x HX.out.1 hlt; cases e0; have c1 : decide (0 ≤ x) = true := decide_eq_true HX.out.1; have p0 := eq_true HX.out.1; have p1 := eq_true hlt; have HL := Aside0.mk hlt; clear hlt; have hcall := HP.out _ (rd_T30 xs x) BW.out; have hget : Aside0 (xs.getD x.toNat z30 = (rd_T30 xs x)) := ⟨rfl⟩; cases hq : p (rd_T30 xs x) with
   | true =>
    rw [hq] at hcall; have HQ := Aside0.mk hq; have HC := Aside0.mk hcall; clear hq hcall
    go_wp2_with fail
    refine HC.out.mono ?_; rintro e w' ⟨rfl, hb'⟩; have HB := aM (below_step BW.out hb'); clear hb'
    go_wp2
    go_ret
    refine ⟨?_, HB.out⟩; rw [findI_hit p z30 xs x.toNat Z126 (fun j hj => HA.out j Z139) (by rw [hget.out]; exact HQ.out)]; rw [Int.toNat_of_nonneg HX.out.1]
    rfl
   | false =>
    rw [hq] at hcall; have HQ := Aside0.mk hq; have HC := Aside0.mk hcall; clear hq hcall
    go_wp2_with fail
    refine HC.out.mono ?_; rintro e w' ⟨rfl, hb'⟩; have HB := aM (below_step BW.out hb'); clear hb'
    go_wp2
    have hw1 : wrap64 (x + 1) = x + 1 := by have := HX.out; have := HL.out; have := hlen.out; unfold wrap64; omega
    go_roundg (xs.length - (x.toNat + 1))
    case measure => have := HX.out; have := HL.out; omega
    case rel =>
     refine ⟨x + 1, Z137, ⟨Z139, Z140, Z126⟩, HB, ⟨fun j hj => ?_⟩⟩
     by_cases e : (j : Int) < x
     ·exact HA.out j e
     ·have hj' : j = x.toNat := by have := HX.out; omega
      subst hj'; rw [hget.out]
      exact HQ.out
  ·have c0 : decide (x < (xs.length : Int)) = false := decide_eq_false hlt
   have HL := Aside0.mk hlt; clear hlt
   go_wp2
   go_ret
   refine ⟨?_, BW.out⟩; rw [findI_miss p z30 xs (fun j hj => HA.out j Z140)]
   rfl
set_option maxHeartbeats 4000000 in
theorem ContainsFunc_sh (p : S30 → Bool) (g : Nat) (lb : Array Value) (A : Option Addr) (c : Nat) (xs : List S30) (w : World)
  (eg : ∀ args w, (callFunc g args).run Tryd.prog w = .ok (.enter g args) w) (hr : Kd.C k30 w A xs.length xs)
  (hp : ∀ (W : World) (x : S30), Below w.heap.size w W → Calls Tryd.prog g (#[.agg #[.int .i64 x.f0, .string x.f1, .int .i64 x.f2, .int .i64 x.f3, .int .i64 x.f4]] ++ lb) W fun e w' => e = .returned (.bool (p x)) ∧ Below W.heap.size W w') :
  Calls Tryd.prog 52 #[.slice A xs.length c, .func (.func g) #[] lb] w fun e w' => e = .returned (.bool (xs.any p)) ∧ Below w.heap.size w w' := by
 have HC := aM (IndexFunc_sh p g lb A c xs w eg hr hp); clear hr hp eg; rw [← findI_any]
 go_enter Tryd.func52, Tryd.ntmps52
 go_wp2_with fail
 refine HC.out.mono ?_; rintro e w' ⟨rfl, hb'⟩
 go_wp2
 go_ret
 exact ⟨Z109, hb'⟩
set_option maxHeartbeats 4000000 in
theorem areAll_sh_1 (p : S30 → Bool) (g : Nat) (lb : Array Value) (b : Nat) (x : S30) (W : World)
  (eg : ∀ args w, (callFunc g args).run Tryd.prog w = .ok (.enter g args) w) (hc : W.cell? ⟨b, 0, none⟩ = some (.func (.func g) #[] lb))
  (hp : ∀ W1, Below W.heap.size W W1 → Calls Tryd.prog g (#[.agg #[.int .i64 x.f0, .string x.f1, .int .i64 x.f2, .int .i64 x.f3, .int .i64 x.f4]] ++ lb) W1 fun e w' => e = .returned (.bool (p x)) ∧ Below W1.heap.size W1 w') (hb : b < W.heap.size) :
  Calls Tryd.prog 62 #[.agg #[.int .i64 x.f0, .string x.f1, .int .i64 x.f2, .int .i64 x.f3, .int .i64 x.f4], .pointer (some ⟨b, 0, none⟩)] W fun e w' => e = .returned (.bool (!p x)) ∧ Below W.heap.size W w' := by
 have hu_ := Tryd.underlying30; have HP := Aside0.mk hp; clear hp; have hB1 : Below W.heap.size W (W.alloc (.cells #[.int .i64 x.f0, .string x.f1, .int .i64 x.f2, .int .i64 x.f3, .int .i64 x.f4] 30)) := below_alloc (Below.refl _ _) _; have Aa : (W.alloc (.cells #[.int .i64 x.f0, .string x.f1, .int .i64 x.f2, .int .i64 x.f3, .int .i64 x.f4] 30)).cell? ⟨b, 0, none⟩ = some (.func (.func g) #[] lb) := (hB1.cell (p := ⟨b, 0, none⟩) hb).trans hc; have HB := Aside0.mk hB1; clear hB1 hc
 go_enter Tryd.func62, Tryd.ntmps62
 go_wp2_with fail
 refine (HP.out _ HB.out).mono ?_; rintro e w' ⟨rfl, hb'⟩
 go_wp2
 go_ret
 exact ⟨Z109, below_step HB.out hb'⟩
set_option maxHeartbeats 4000000 in
theorem areAll_sh (p : S30 → Bool) (g : Nat) (lb : Array Value) (A : Option Addr) (c : Nat) (xs : List S30) (w : World)
  (eg : ∀ args w, (callFunc g args).run Tryd.prog w = .ok (.enter g args) w) (hr : Kd.C k30 w A xs.length xs)
  (hp : ∀ (W : World) (x : S30), Below w.heap.size w W → Calls Tryd.prog g (#[.agg #[.int .i64 x.f0, .string x.f1, .int .i64 x.f2, .int .i64 x.f3, .int .i64 x.f4]] ++ lb) W fun e w' => e = .returned (.bool (p x)) ∧ Below W.heap.size W w') :
  Calls Tryd.prog 49 #[.slice A xs.length c, .func (.func g) #[] lb] w fun e w' => e = .returned (.bool (xs.all p)) ∧ Below w.heap.size w w' := by
 have hmf : ∀ (fn : Fn) (first cap : Array Value) (w : World), (Instr.makeFunc fn first cap).run Tryd.prog w = .ok (.func fn first cap) w := fun _ _ _ _ => rfl
 have hB1 : Below w.heap.size w (w.alloc (.cells #[.func (.func g) #[] lb] 58)) := below_alloc (Below.refl _ _) _
 have Aa : (w.alloc (.cells #[.func (.func g) #[] lb] 58)).cell? ⟨w.heap.size, 0, none⟩ = some (.func (.func g) #[] lb) := by simp
 have hsz : w.heap.size < (w.alloc (.cells #[.func (.func g) #[] lb] 58)).heap.size := by simp
 have HC := aM (ContainsFunc_sh (fun x => !p x) 62 #[.pointer (some ⟨w.heap.size, 0, none⟩)] A c xs (w.alloc (.cells #[.func (.func g) #[] lb] 58)) (enters_of Tryd.func62 Z52 rfl) (Kd.C_below hr hB1)
  (fun W x hW => areAll_sh_1 p g lb w.heap.size x W eg ((hW.cell (p := ⟨w.heap.size, 0, none⟩) hsz).trans Aa) (fun W1 h1 => hp W1 x ((hB1.trans (hW.mono hB1.size)).trans (h1.mono (Nat.le_trans hB1.size hW.size)))) (Nat.lt_of_lt_of_le hsz hW.size)))
 have HB := Aside0.mk hB1; rw [← any_not]; clear hB1 Aa hsz hp hr eg
 go_enter Tryd.func49, Tryd.ntmps49
 go_wp2_with fail
 refine HC.out.mono ?_; rintro e w' ⟨rfl, hb'⟩
 go_wp2
 go_ret
 exact ⟨Z109, below_step HB.out hb'⟩
set_option maxHeartbeats 8000000 in
theorem isAscending_sh (of : S30 → Int) (g : Nat) (lb : Array Value) (A : Option Addr) (c : Nat) (xs : List S30) (w : World)
  (eg : ∀ args w, (callFunc g args).run Tryd.prog w = .ok (.enter g args) w) (hr : Kd.C k30 w A xs.length xs)
  (hp : ∀ (W : World) (x : S30), Below w.heap.size w W → Calls Tryd.prog g (#[.agg #[.int .i64 x.f0, .string x.f1, .int .i64 x.f2, .int .i64 x.f3, .int .i64 x.f4]] ++ lb) W fun e w' => e = .returned (.int .i64 (of x)) ∧ Below W.heap.size W w') :
  Calls Tryd.prog 50 #[.slice A xs.length c, .func (.func g) #[] lb] w fun e w' => e = .returned (.bool (asc of xs)) ∧ Below w.heap.size w w' := by
 have hu_ := Tryd.underlying30; have hlen := Aside0.mk hr.2.1; have HR := Aside0.mk hr; have HP := Aside0.mk hp; clear hr hp
 go_enter Tryd.func50, Tryd.ntmps50
 go_wp2
 go_loopg [5] xs.length (fun gg s5 wr => ∃ x : Int, s5 = .int .i64 x ∧ Aside0 (1 ≤ x ∧ (x ≤ (xs.length : Int) ∨ x = 1) ∧ (xs.length : Int) + 1 - x ≤ gg) ∧ Aside0 (Below w.heap.size w wr) ∧ Aside0 (∀ j : Nat, (j : Int) + 1 < x → of (xs.getD j z30) < of (xs.getD (j + 1) z30)))
 case atStart => exact ⟨1, rfl, ⟨by omega, .inr rfl, by omega⟩, ⟨Below.refl _ _⟩, ⟨fun j hj => absurd hj (by omega)⟩⟩
 case round =>
  obtain ⟨x, rfl, HX, BW, HA⟩ := hrel
  by_cases hlt : x < (xs.length : Int)
  ·have c0 : decide (x < (xs.length : Int)) = true := decide_eq_true hlt
   have HL := Aside0.mk hlt; obtain ⟨y, hy⟩ : ∃ y : Int, y = x - 1 := ⟨_, rfl⟩
   have Ac : IntKind.i64.wrap (x - 1) = y := by rw [hy]; exact IntWalk.i64_in _ (by have := HX.out; have := hlen.out; omega)
   have Aa : 0 ≤ y := by have := HX.out; omega
   have Ab : y < (xs.length : Int) := by omega
   have HY := Aside0.mk hy
   have h0 : 0 ≤ x := by omega
   clear hy; obtain ⟨ad, e0, _⟩ := at_T30 (Kd.C_below HR.out BW.out) x h0 hlt; subst e0
   have KEY : Aside0 (∀ W', Below w.heap.size w W' → Below w.heap.size w W' ∧ W'.cell? (ad.add (y.toNat * 5)) = some (.int .i64 (rd_T30 xs y).f0) ∧ W'.cell? ⟨(ad.add (y.toNat * 5)).block, (ad.add (y.toNat * 5)).off + 1, none⟩ = some (.string (rd_T30 xs y).f1) ∧ W'.cell? ⟨(ad.add (y.toNat * 5)).block, (ad.add (y.toNat * 5)).off + 2, none⟩ = some (.int .i64 (rd_T30 xs y).f2) ∧ W'.cell? ⟨(ad.add (y.toNat * 5)).block, (ad.add (y.toNat * 5)).off + 3, none⟩ = some (.int .i64 (rd_T30 xs y).f3) ∧ W'.cell? ⟨(ad.add (y.toNat * 5)).block, (ad.add (y.toNat * 5)).off + 4, none⟩ = some (.int .i64 (rd_T30 xs y).f4) ∧ W'.cell? (ad.add (x.toNat * 5)) = some (.int .i64 (rd_T30 xs x).f0) ∧ W'.cell? ⟨(ad.add (x.toNat * 5)).block, (ad.add (x.toNat * 5)).off + 1, none⟩ = some (.string (rd_T30 xs x).f1) ∧ W'.cell? ⟨(ad.add (x.toNat * 5)).block, (ad.add (x.toNat * 5)).off + 2, none⟩ = some (.int .i64 (rd_T30 xs x).f2) ∧ W'.cell? ⟨(ad.add (x.toNat * 5)).block, (ad.add (x.toNat * 5)).off + 3, none⟩ = some (.int .i64 (rd_T30 xs x).f3) ∧ W'.cell? ⟨(ad.add (x.toNat * 5)).block, (ad.add (x.toNat * 5)).off + 4, none⟩ = some (.int .i64 (rd_T30 xs x).f4)) := ⟨fun W' h => by
    obtain ⟨a1, e1, h1⟩ := at_T30 (Kd.C_below HR.out h) y Aa Ab; obtain ⟨a2, e2, h2⟩ := at_T30 (Kd.C_below HR.out h) x h0 hlt; obtain rfl := Option.some.inj e1; obtain rfl := Option.some.inj e2; obtain ⟨b0, b1, b2, b3, b4⟩ := h1; obtain ⟨d0, d1, d2, d3, d4⟩ := h2
    exact ⟨h, b0, b1, b2, b3, b4, d0, d1, d2, d3, d4⟩⟩
   have HK := KEY.out _ BW.out; obtain ⟨_, b0, b1, b2, b3, b4, d0, d1, d2, d3, d4⟩ := HK
   have hw1 : wrap64 (x + 1) = x + 1 := by have := HX.out; have := HL.out; have := hlen.out; unfold wrap64; omega
   have hg0 : Aside0 (xs.getD x.toNat z30 = (rd_T30 xs x)) := ⟨rfl⟩; have hg1 : Aside0 (xs.getD y.toNat z30 = (rd_T30 xs y)) := ⟨rfl⟩
   by_cases hc : of (rd_T30 xs x) ≤ of (rd_T30 xs y)
   ·have c1 : decide (of (rd_T30 xs x) ≤ of (rd_T30 xs y)) = true := decide_eq_true hc
    have HC := Aside0.mk hc; clear hc
    go_wp2_with fail
    go_region_held3 (fun W' => Below w.heap.size w W' ∧ W'.cell? (ad.add (y.toNat * 5)) = some (.int .i64 (rd_T30 xs y).f0) ∧ W'.cell? ⟨(ad.add (y.toNat * 5)).block, (ad.add (y.toNat * 5)).off + 1, none⟩ = some (.string (rd_T30 xs y).f1) ∧ W'.cell? ⟨(ad.add (y.toNat * 5)).block, (ad.add (y.toNat * 5)).off + 2, none⟩ = some (.int .i64 (rd_T30 xs y).f2) ∧ W'.cell? ⟨(ad.add (y.toNat * 5)).block, (ad.add (y.toNat * 5)).off + 3, none⟩ = some (.int .i64 (rd_T30 xs y).f3) ∧ W'.cell? ⟨(ad.add (y.toNat * 5)).block, (ad.add (y.toNat * 5)).off + 4, none⟩ = some (.int .i64 (rd_T30 xs y).f4) ∧ W'.cell? (ad.add (x.toNat * 5)) = some (.int .i64 (rd_T30 xs x).f0) ∧ W'.cell? ⟨(ad.add (x.toNat * 5)).block, (ad.add (x.toNat * 5)).off + 1, none⟩ = some (.string (rd_T30 xs x).f1) ∧ W'.cell? ⟨(ad.add (x.toNat * 5)).block, (ad.add (x.toNat * 5)).off + 2, none⟩ = some (.int .i64 (rd_T30 xs x).f2) ∧ W'.cell? ⟨(ad.add (x.toNat * 5)).block, (ad.add (x.toNat * 5)).off + 3, none⟩ = some (.int .i64 (rd_T30 xs x).f3) ∧ W'.cell? ⟨(ad.add (x.toNat * 5)).block, (ad.add (x.toNat * 5)).off + 4, none⟩ = some (.int .i64 (rd_T30 xs x).f4))
     ((refine KEY.out _ ?_; first | ((repeat (first | exact BW.out | assumption | exact (‹Below w.heap.size w _ ∧ _›).1 | apply below_drew1 | apply pw_below_drewN)); done) | (refine below_step ?_ hb'; (repeat (first | exact BW.out | assumption | exact (‹Below w.heap.size w _ ∧ _›).1 | apply below_drew1 | apply pw_below_drewN)); done)))
     (first | (go_at_fn g; refine Calls.mono (HP.out _ _ ?_) ?_; (repeat (first | exact BW.out | assumption | exact (‹Below w.heap.size w _ ∧ _›).1 | apply below_drew1 | apply pw_below_drewN)); rintro e w' ⟨rfl, hb'⟩))
    have HB : Aside0 (Below w.heap.size w w') := ⟨(‹Below w.heap.size w w' ∧ _›).1⟩
    go_wp2
    go_ret
    refine ⟨?_, HB.out⟩; rw [asc_false of z30 xs y.toNat (by have := HX.out; have := HY.out; have := HL.out; omega) (by rw [show y.toNat + 1 = x.toNat by have := HX.out; have := HY.out; omega, hg0.out, hg1.out]; exact HC.out)]
    rfl
   ·have c1 : decide (of (rd_T30 xs x) ≤ of (rd_T30 xs y)) = false := decide_eq_false hc
    have HC := Aside0.mk hc; clear hc
    go_wp2_with fail
    go_region_held3 (fun W' => Below w.heap.size w W' ∧ W'.cell? (ad.add (y.toNat * 5)) = some (.int .i64 (rd_T30 xs y).f0) ∧ W'.cell? ⟨(ad.add (y.toNat * 5)).block, (ad.add (y.toNat * 5)).off + 1, none⟩ = some (.string (rd_T30 xs y).f1) ∧ W'.cell? ⟨(ad.add (y.toNat * 5)).block, (ad.add (y.toNat * 5)).off + 2, none⟩ = some (.int .i64 (rd_T30 xs y).f2) ∧ W'.cell? ⟨(ad.add (y.toNat * 5)).block, (ad.add (y.toNat * 5)).off + 3, none⟩ = some (.int .i64 (rd_T30 xs y).f3) ∧ W'.cell? ⟨(ad.add (y.toNat * 5)).block, (ad.add (y.toNat * 5)).off + 4, none⟩ = some (.int .i64 (rd_T30 xs y).f4) ∧ W'.cell? (ad.add (x.toNat * 5)) = some (.int .i64 (rd_T30 xs x).f0) ∧ W'.cell? ⟨(ad.add (x.toNat * 5)).block, (ad.add (x.toNat * 5)).off + 1, none⟩ = some (.string (rd_T30 xs x).f1) ∧ W'.cell? ⟨(ad.add (x.toNat * 5)).block, (ad.add (x.toNat * 5)).off + 2, none⟩ = some (.int .i64 (rd_T30 xs x).f2) ∧ W'.cell? ⟨(ad.add (x.toNat * 5)).block, (ad.add (x.toNat * 5)).off + 3, none⟩ = some (.int .i64 (rd_T30 xs x).f3) ∧ W'.cell? ⟨(ad.add (x.toNat * 5)).block, (ad.add (x.toNat * 5)).off + 4, none⟩ = some (.int .i64 (rd_T30 xs x).f4))
     ((refine KEY.out _ ?_; first | ((repeat (first | exact BW.out | assumption | exact (‹Below w.heap.size w _ ∧ _›).1 | apply below_drew1 | apply pw_below_drewN)); done) | (refine below_step ?_ hb'; (repeat (first | exact BW.out | assumption | exact (‹Below w.heap.size w _ ∧ _›).1 | apply below_drew1 | apply pw_below_drewN)); done)))
     (first | (go_at_fn g; refine Calls.mono (HP.out _ _ ?_) ?_; (repeat (first | exact BW.out | assumption | exact (‹Below w.heap.size w _ ∧ _›).1 | apply below_drew1 | apply pw_below_drewN)); rintro e w' ⟨rfl, hb'⟩))
    have HB : Aside0 (Below w.heap.size w w') := ⟨(‹Below w.heap.size w w' ∧ _›).1⟩
    go_wp2
    go_roundg (xs.length - x.toNat)
    case measure => have := HX.out; have := HL.out; omega
    case rel =>
     refine ⟨x + 1, Z137, ⟨Z139, Z140, Z126⟩, HB, ⟨fun j hj => ?_⟩⟩
     by_cases e : (j : Int) + 1 < x
     ·exact HA.out j e
     ·have hj' : j = y.toNat := by have := HX.out; have := HY.out; omega
      subst hj'; rw [show y.toNat + 1 = x.toNat by have := HX.out; have := HY.out; omega, hg0.out, hg1.out]; have := HC.out
      omega
  ·have c0 : decide (x < (xs.length : Int)) = false := decide_eq_false hlt
   have HL := Aside0.mk hlt; clear hlt
   go_wp2
   go_ret
   refine ⟨?_, BW.out⟩; rw [asc_true of z30 xs (fun j hj => HA.out j Z140)]
   rfl
def impl_IsShadeCard_1.f (a0_0 : Int) (a0_1 : ByteArray) (a0_2 : Int) (a0_3 : Int) (a0_4 : Int) : Option (Int) := some a0_0
theorem impl_IsShadeCard_1.calls (Aa : Int) (Ac : ByteArray) (Ad : Int) (Ae : Int) (Af : Int) (r : Int) (w : World) (h : impl_IsShadeCard_1.f Aa Ac Ad Ae Af = some r) :
  Calls Tryd.prog 51 #[.agg #[.int .i64 Aa, .string Ac, .int .i64 Ad, .int .i64 Ae, .int .i64 Af]] w fun e w' => e = .returned (.int .i64 r) ∧ Below w.heap.size w w' := by
 have hu30 := Tryd.underlying30; have HB := aM (Below.refl w.heap.size w); have H : (some Aa) = some r := h; clear h; obtain rfl := Option.some.inj H
 go_enter Tryd.func51, Tryd.ntmps51
 go_wp2_with (first | ((with_reducible refine gate_dst (N := 1) rfl ?_); refine bxE 1 #[.int .i64 Aa, .string Ac, .int .i64 Ad, .int .i64 Ae, .int .i64 Af] 30 ?_; intro Ar hg w2 hbox hb; have Ab := aM (hbox); have Au := gwS hg Z1; have Ag := gwS hg Z1; replace HB := hbS Z1 hb; clear hb hbox hg; obtain ⟨Ah, Ai, Aj, Ak, Al⟩ := bz5 Ab; obtain ⟨Am, An, Ao, Ap, Aq⟩ := fz5 Ab))
 go_ret
 exact ⟨Z39, by repeat (first | (with_reducible first | exact HB.out | apply below_alloc | apply pw_below_drewN | apply below_drew1 | refine below_set ?_ Ag.out) | exact HB.out)⟩
def okSh (x : S30) : Bool := rng x.f0 1 99 && (isWordB x.f1 && (rng x.f2 0 23 && (rng x.f3 0 9 && rng x.f4 1 8)))
theorem impl_IsShade.total (x : S30) : impl_IsShade.f x.f0 x.f1 x.f2 x.f3 x.f4 = some (okSh x) := by
 unfold impl_IsShade.f impl_isId.f impl_isWord.f impl_isStep.f okSh
 simp only [impl_in.eq, Option.bind_some]
 cases rng x.f0 1 99 <;> cases isWordB x.f1 <;> cases rng x.f2 0 23 <;> cases rng x.f3 0 9 <;> cases rng x.f4 1 8 <;> rfl
def idSh (x : S30) : Int := x.f0
def sameN (x y : S30) : Bool := decide (y.f1.toList = x.f1.toList)
def nameOk (l : List (S30)) : Bool := (List.range l.length).all fun i => !((l.take i).any (sameN (l.getD i z30)))
theorem nameOk_false (l : List (S30)) (i : Nat) (hi : i < l.length) (h : (l.take i).any (sameN (l.getD i z30)) = true) : nameOk l = false := by
 unfold nameOk
 exact List.all_eq_false.2 ⟨i, List.mem_range.2 hi, by rw [h]; decide⟩
theorem nameOk_true (l : List (S30)) (h : ∀ i, i < l.length → (l.take i).any (sameN (l.getD i z30)) = false) : nameOk l = true := by
 unfold nameOk
 exact List.all_eq_true.2 (fun i hi => by rw [h i (List.mem_range.1 hi)]; rfl)
set_option maxHeartbeats 4000000 in
set_option maxRecDepth 100000 in
theorem isShadeCard_2 (b : Nat) (x y : S30) (W : World) (hc : W.cell? ⟨b, 1, none⟩ = some (.string x.f1)) (hb : b < W.heap.size) :
  Calls Tryd.prog 53 #[.agg #[.int .i64 y.f0, .string y.f1, .int .i64 y.f2, .int .i64 y.f3, .int .i64 y.f4], .pointer (some ⟨b, 0, none⟩)] W fun e w' => e = .returned (.bool (sameN x y)) ∧ Below W.heap.size W w' := by
 have hu_ := Tryd.underlying30; have hB1 : Below W.heap.size W (W.alloc (.cells #[.int .i64 y.f0, .string y.f1, .int .i64 y.f2, .int .i64 y.f3, .int .i64 y.f4] 30)) := below_alloc (Below.refl _ _) _; have Aa : (W.alloc (.cells #[.int .i64 y.f0, .string y.f1, .int .i64 y.f2, .int .i64 y.f3, .int .i64 y.f4] 30)).cell? ⟨b, 1, none⟩ = some (.string x.f1) := (hB1.cell (p := ⟨b, 1, none⟩) hb).trans hc; have HB := Aside0.mk hB1; clear hB1 hc
 by_cases h : y.f1.toList = x.f1.toList
 ·have d0 : (y.f1.toList == x.f1.toList) = true := beq_iff_eq.2 h
  rw [show sameN x y = true from decide_eq_true h]; clear h
  go_enter Tryd.func53, Tryd.ntmps53
  go_wp2
  go_ret
  exact ⟨by first | rfl | (simp; done) | (simp [d0]; done), HB.out⟩
 ·have d0 : (y.f1.toList == x.f1.toList) = false := beq_eq_false_iff_ne.2 h
  rw [show sameN x y = false from decide_eq_false h]; clear h
  go_enter Tryd.func53, Tryd.ntmps53
  go_wp2
  go_ret
  exact ⟨by first | rfl | (simp; done) | (simp [d0]; done), HB.out⟩
def impl_IsShadeCard.f (l0 : List (S30)) : Option Bool := some (decide ((l0.length : Int) ≤ 10) && (l0.all okSh && (asc idSh l0 && nameOk l0)))
theorem impl_IsShadeCard.calls (A0 : Option Addr) (c0 : Nat) (l0 : List (S30)) (r : Bool) (w : World) (Ab : Kd.C k30 w A0 l0.length l0) (Ae : l0.length ≤ c0) (h : impl_IsShadeCard.f l0 = some r) :
  Calls Tryd.prog 22 #[.slice A0 l0.length c0] w fun e w' => e = .returned (.bool r) ∧ Below w.heap.size w w' := by
 have Ag := Option.some.inj h; subst Ag; clear h; have hu_ := Tryd.underlying30
 have hmf : ∀ (fn : Fn) (first cap : Array Value) (w : World), (Instr.makeFunc fn first cap).run Tryd.prog w = .ok (.func fn first cap) w := fun _ _ _ _ => rfl
 have h1 : Calls Tryd.prog _ _ w _ := areAll_sh okSh 33 #[] A0 c0 l0 w (enters_of Tryd.func33 Z52 rfl) Ab
  (fun W x _ => (impl_IsShade.calls x.f0 x.f1 x.f2 x.f3 x.f4 _ W (impl_IsShade.total x)).mono fun e w' ⟨he, hd⟩ => ⟨he, by first | exact hd | exact hd.below⟩)
 have h2 : ∀ W, Below w.heap.size w W → _ := fun W hb => isAscending_sh idSh 51 #[] A0 c0 l0 W (enters_of Tryd.func51 Z52 rfl) (Kd.C_below Ab hb)
  (fun W x _ => (impl_IsShadeCard_1.calls x.f0 x.f1 x.f2 x.f3 x.f4 (idSh x) W rfl).mono fun e w' ⟨he, hd⟩ => ⟨he, by first | exact hd | exact hd.below⟩)
 have H1 := Aside0.mk h1; have H2 := Aside0.mk h2; have HR := Aside0.mk Ab; have Af := Aside0.mk Ae; have HLEN := Aside0.mk Ab.2.1; clear h1 h2 Ab Ae
 by_cases hn : (l0.length : Int) ≤ 10
 ·have d0 : decide ((l0.length : Int) > 10) = false := decide_eq_false (by omega)
  have d1 : decide (10 < l0.length) = false := decide_eq_false (by omega); have hn10 := aM (show l0.length ≤ 10 by omega); rw [decide_eq_true hn, Bool.true_and]; clear hn; cases hq : l0.all okSh with
  | false =>
   rw [Bool.false_and]; have HQ := Aside0.mk hq; clear hq
   go_enter Tryd.func22, Tryd.ntmps22
   go_wp2_with fail
   refine H1.out.mono ?_; rintro e w1 ⟨rfl, hb1⟩; have Aa := Aside0.mk hb1; clear hb1; rw [HQ.out]
   go_wp2
   go_ret
   exact ⟨Z109, Aa.out⟩
  | true =>
   rw [Bool.true_and]; have HQ := Aside0.mk hq; clear hq; cases hq2 : asc idSh l0 with
   | false =>
    rw [Bool.false_and]; have HQ2 := Aside0.mk hq2; clear hq2
    go_enter Tryd.func22, Tryd.ntmps22
    go_wp2_with fail
    refine H1.out.mono ?_; rintro e w1 ⟨rfl, hb1⟩; have Aa := Aside0.mk hb1; clear hb1; rw [HQ.out]
    go_wp2_with fail
    refine (H2.out _ Aa.out).mono ?_; rintro e w2 ⟨rfl, hb2⟩; have Ac := aM (below_step Aa.out hb2); clear hb2; rw [HQ2.out]
    go_wp2
    go_ret
    exact ⟨Z109, Ac.out⟩
   | true =>
    rw [Bool.true_and]; have HQ2 := Aside0.mk hq2; clear hq2
    go_enter Tryd.func22, Tryd.ntmps22
    go_wp2_with fail
    refine H1.out.mono ?_; rintro e w1 ⟨rfl, hb1⟩; have Aa := Aside0.mk hb1; clear hb1; rw [HQ.out]
    go_wp2_with fail
    refine (H2.out _ Aa.out).mono ?_; rintro e w2 ⟨rfl, hb2⟩; have Ac := aM (below_step Aa.out hb2); clear hb2; rw [HQ2.out]
    go_wp2
    go_loopg [3, 4, 20] l0.length (fun gg s3 s4 Ah wr => ∃ x : Int, Ah = .int .i64 x ∧ Aside0 (0 ≤ x ∧ x ≤ (l0.length : Int) ∧ (l0.length : Int) - x ≤ gg) ∧ Aside0 (Below w.heap.size w wr) ∧ Aside0 (∀ j : Nat, (j : Int) < x → (l0.take j).any (sameN (l0.getD j z30)) = false))
    case atStart => exact ⟨0, rfl, ⟨by omega, by omega, by omega⟩, Ac, ⟨fun j hj => absurd hj (by omega)⟩⟩
    case round =>
     obtain ⟨x, rfl, HX, HB, HA⟩ := hrel
     by_cases hlt : x < (l0.length : Int)
     ·have t0 : decide (x < (l0.length : Int)) = true := decide_eq_true hlt
      obtain ⟨X, hX⟩ : ∃ X, X = (rd_T30 l0 x) := ⟨_, rfl⟩; obtain ⟨ad, e0, b0, b1, b2, b3, b4⟩ := at_T30 (Kd.C_below HR.out HB.out) x HX.out.1 hlt; subst e0; rw [← hX] at b0 b1 b2 b3 b4; have p0 := eq_true HX.out.1; have p1 := eq_true hlt; have p2 := eq_true (show x ≤ (c0 : Int) by have := Af.out; omega); have p3 := eq_false (show ¬ (c0 : Int) < x by have := Af.out; omega)
      have hlen : (l0.take x.toNat).length = x.toNat := by rw [List.length_take]; omega
      have hk0 := heap_alloc_new wr (.cells #[.int .i64 X.f0, .string X.f1, .int .i64 X.f2, .int .i64 X.f3, .int .i64 X.f4] 30); have hB1 : Below wr.heap.size wr (wr.alloc (.cells #[.int .i64 X.f0, .string X.f1, .int .i64 X.f2, .int .i64 X.f3, .int .i64 X.f4] 30)) := below_alloc (Below.refl _ _) _
      have hcall := ContainsFunc_sh (sameN X) 53 #[.pointer (some ⟨wr.heap.size, 0, none⟩)] (some ad) c0 (l0.take x.toNat) (wr.alloc (.cells #[.int .i64 X.f0, .string X.f1, .int .i64 X.f2, .int .i64 X.f3, .int .i64 X.f4] 30)) (enters_of Tryd.func53 Z52 rfl) (Kd.C_take (Kd.C_below (Kd.C_below HR.out HB.out) hB1) (show x.toNat ≤ l0.length by omega))
       (fun W2 y hb2 => isShadeCard_2 wr.heap.size X y W2 ((hb2.cell (p := ⟨wr.heap.size, 1, none⟩) (by simp)).trans ((blk_cell hk0 1).trans rfl)) (Nat.lt_of_lt_of_le (by simp) hb2.size))
      rw [hlen] at hcall
      have hw1 : wrap64 (x + 1) = x + 1 := by have := HX.out; have := HLEN.out; unfold wrap64; omega
      have HL := Aside0.mk hlt; have HXX := aM (show l0.getD x.toNat z30 = X from hX.symm); clear hlt hX hk0 hB1 hlen; cases hq3 : (l0.take x.toNat).any (sameN X) with
      | true =>
       rw [hq3] at hcall; have HCA := Aside0.mk hcall; have HQ3 := Aside0.mk hq3; clear hcall hq3
       go_wp2_with fail
       refine HCA.out.mono ?_; rintro e w' ⟨rfl, hb'⟩; have Ad := aM (below_step (below_alloc HB.out _) hb'); clear hb'
       go_wp2
       go_ret
       refine ⟨?_, Ad.out⟩; rw [nameOk_false l0 x.toNat Z126 (by rw [HXX.out]; exact HQ3.out)]
       rfl
      | false =>
       rw [hq3] at hcall; have HCA := Aside0.mk hcall; have HQ3 := Aside0.mk hq3; clear hcall hq3
       go_wp2_with fail
       refine HCA.out.mono ?_; rintro e w' ⟨rfl, hb'⟩; have Ad := aM (below_step (below_alloc HB.out _) hb'); clear hb'
       go_wp2
       go_roundg (l0.length - (x.toNat + 1))
       case measure => have := HX.out; have := HL.out; omega
       case rel =>
        refine ⟨x + 1, Z137, ⟨Z139, Z140, Z126⟩, Ad, ⟨fun j hj => ?_⟩⟩
        by_cases e : (j : Int) < x
        ·exact HA.out j e
        ·have hj' : j = x.toNat := by have := HX.out; omega
         rw [hj', HXX.out]
         exact HQ3.out
     ·have t0 : decide (x < (l0.length : Int)) = false := decide_eq_false hlt
      have HL := Aside0.mk hlt; clear hlt
      go_wp2
      go_ret
      refine ⟨?_, HB.out⟩; rw [nameOk_true l0 (fun j hj => HA.out j Z140)]
      rfl
 ·have d0 : decide ((l0.length : Int) > 10) = true := decide_eq_true (by omega)
  have d1 : decide (10 < l0.length) = true := decide_eq_true (by omega); rw [decide_eq_false hn, Bool.false_and]; clear hn
  go_enter Tryd.func22, Tryd.ntmps22
  go_wp2
  go_ret
  exact ⟨Z109, Below.refl _ _⟩
def impl_abs.f (a0 : Int) : Option (Int) := some (mx a0 (wrap64 (-a0)))
theorem impl_abs.calls (a0 : Int) (r : Int) (w : World) (h : impl_abs.f a0 = some r) :
  Calls Tryd.prog 55 #[.int .i64 a0] w fun e w' => e = .returned (.int .i64 r) ∧ Below w.heap.size w w' := by
 have HB := aM (Below.refl w.heap.size w); have H : (some (mx a0 (wrap64 (-a0)))) = some r := h; clear h; obtain ⟨ji2, hji2⟩ : ∃ j_ : Int, (mx a0 (wrap64 (-a0))) = j_ := ⟨_, rfl⟩
 replace H : (some ji2) = some r := by first | (rw [hji2] at H; exact H) | (simp only [hji2] at H ⊢; exact H)
 have hji2_ : (if a0 < (wrap64 (-a0)) then (wrap64 (-a0)) else a0) = ji2 := hji2; obtain rfl := Option.some.inj H
 go_enter Tryd.func55, Tryd.ntmps55
 go_wp2
 go_ret
 exact ⟨by first | rfl | (simp [errW_none, errW_some] <;> rfl) | (simp only [← hji2]; first | rfl | (simp [errW_none, errW_some] <;> rfl)) | (simp [*, errW_none, errW_some] <;> rfl), Z1⟩
def impl_wheelGap.f (a0 : Int) (a1 : Int) : Option (Int) := (impl_abs.f (wrap64 (a0 - a1))).bind fun t281 => ((impl_abs.f (wrap64 (a0 - a1))).bind fun t282 => (some (mn t281 (wrap64 (24 - t282)))))
theorem impl_wheelGap.calls (a0 : Int) (a1 : Int) (r : Int) (w : World) (h : impl_wheelGap.f a0 a1 = some r) :
  Calls Tryd.prog 42 #[.int .i64 a0, .int .i64 a1] w fun e w' => e = .returned (.int .i64 r) ∧ Below w.heap.size w w' := by
 have HB := aM (Below.refl w.heap.size w); have H : ((impl_abs.f (wrap64 (a0 - a1))).bind fun Ab => ((impl_abs.f (wrap64 (a0 - a1))).bind fun Aa => (some (mn Ab (wrap64 (24 - Aa)))))) = some r := h; clear h; replace H := Option.bind_eq_some_iff.mp H; obtain ⟨Ab, Ac, H⟩ := H; replace H : ((impl_abs.f (wrap64 (a0 - a1))).bind fun Aa => (some (mn Ab (wrap64 (24 - Aa))))) = some r := H; have A3 := Aside0.mk Ac; clear Ac; replace H := Option.bind_eq_some_iff.mp H; obtain ⟨Aa, Ad, H⟩ := H; replace H : (some (mn Ab (wrap64 (24 - Aa)))) = some r := H; have A4 := Aside0.mk Ad; clear Ad; obtain ⟨ji5, hji5⟩ : ∃ j_ : Int, (mn Ab (wrap64 (24 - Aa))) = j_ := ⟨_, rfl⟩
 replace H : (some ji5) = some r := by first | (rw [hji5] at H; exact H) | (simp only [hji5] at H ⊢; exact H)
 (try rw [hji5] at A3)
 (try rw [hji5] at A4)
 have hji5_ : (if (wrap64 (24 - Aa)) < Ab then (wrap64 (24 - Aa)) else Ab) = ji5 := hji5; obtain rfl := Option.some.inj H
 go_enter Tryd.func42, Tryd.ntmps42
 go_wp2_with (first | ((with_reducible refine gate_callee (f := 55) rfl ?_); refine glE (some 8) Tryd.func55 #[.int .i64 (wrap64 (a0 - a1))] ?_; (with_reducible refine (impl_abs.calls (wrap64 (a0 - a1)) Ab _ A3.out).mono ?_); rintro e w6 ⟨rfl, hb⟩; refine ⟨_, rfl, ?_⟩; replace HB := hbS Z1 hb; (try clear hb)) | ((with_reducible refine gate_callee (f := 55) rfl ?_); refine glE (some 12) Tryd.func55 #[.int .i64 (wrap64 (a0 - a1))] ?_; (with_reducible refine (impl_abs.calls (wrap64 (a0 - a1)) Aa _ A4.out).mono ?_); rintro e w7 ⟨rfl, hb⟩; refine ⟨_, rfl, ?_⟩; replace HB := hbS Z1 hb; (try clear hb)))
 go_ret
 exact ⟨Z101, Z1⟩
def impl_Shade_distance.f (a0_0 : Int) (a0_1 : ByteArray) (a0_2 : Int) (a0_3 : Int) (a0_4 : Int) (a1_0 : Int) (a1_1 : ByteArray) (a1_2 : Int) (a1_3 : Int) (a1_4 : Int) : Option (Int) := (impl_wheelGap.f a0_2 a1_2).bind fun t285 => ((impl_abs.f (wrap64 (a0_3 - a1_3))).bind fun t286 => (some (wrap64 ((wrap64 (2 * t285)) + t286))))
def impl_Shade_distance.T1 : Bool × List (List Nat × List Nat) := (true, [([], []), ([0], [0]), ([], []), ([2], [2]), ([1, 3], [1, 3]), ([4], [4]), ([], []), ([6], [6]), ([], []), ([8], [8]), ([7, 9], [7, 9]), ([10, 4], [10]), ([5, 11], [5, 11]), ([12, 11, 0, 1, 2, 3, 4, 5, 6, 7, 8, 9, 10, 11, 12], [12])])
def impl_Shade_distance.B1 : List Nat := [0, 1, 0, 4, 15, 31, 0, 64, 0, 256, 960, 2015, 4095, 8191]
theorem impl_Shade_distance.tab1 : rtab .any (opsOf Tryd.f28 1) = impl_Shade_distance.T1 := by kernel_rfl
theorem impl_Shade_distance.bits1 : waitsOk impl_Shade_distance.T1.2 impl_Shade_distance.B1 = true := by kernel_rfl
theorem impl_Shade_distance.calls (Am : Int) (An : ByteArray) (Ah : Int) (Ad : Int) (Ao : Int) (Ap : Int) (Aq : ByteArray) (Ai : Int) (Ae : Int) (Ar : Int) (r : Int) (w : World) (h : impl_Shade_distance.f Am An Ah Ad Ao Ap Aq Ai Ae Ar = some r) :
  Calls Tryd.prog 28 #[.agg #[.int .i64 Am, .string An, .int .i64 Ah, .int .i64 Ad, .int .i64 Ao], .agg #[.int .i64 Ap, .string Aq, .int .i64 Ai, .int .i64 Ae, .int .i64 Ar]] w fun e w' => e = .returned (.int .i64 r) ∧ Below w.heap.size w w' := by
 have hu30 := Tryd.underlying30; have HB := aM (Below.refl w.heap.size w); have H : ((impl_wheelGap.f Ah Ai).bind fun Ak => ((impl_abs.f (wrap64 (Ad - Ae))).bind fun Aj => (some (wrap64 ((wrap64 (2 * Ak)) + Aj))))) = some r := h; clear h; replace H := Option.bind_eq_some_iff.mp H; obtain ⟨Ak, Aw, H⟩ := H; replace H : ((impl_abs.f (wrap64 (Ad - Ae))).bind fun Aj => (some (wrap64 ((wrap64 (2 * Ak)) + Aj)))) = some r := H; have A3 := Aside0.mk Aw; clear Aw; replace H := Option.bind_eq_some_iff.mp H; obtain ⟨Aj, Ax, H⟩ := H; replace H : (some (wrap64 ((wrap64 (2 * Ak)) + Aj))) = some r := H; have A4 := Aside0.mk Ax; clear Ax; obtain rfl := Option.some.inj H
 go_enter Tryd.func28, Tryd.ntmps28
 try go_wp2_with (first | ((with_reducible refine gate_dst (N := 2) rfl ?_); refine bxE 2 #[.int .i64 Am, .string An, .int .i64 Ah, .int .i64 Ad, .int .i64 Ao] 30 ?_; intro Af hg w5 hbox hb; have Aa := aM (hbox); have Ay := gwS hg Z1; have Ac := gwS hg Z1; replace HB := hbS Z1 hb; clear hb hbox hg) | ((with_reducible refine gate_dst (N := 3) rfl ?_); refine bxE 3 #[.int .i64 Ap, .string Aq, .int .i64 Ai, .int .i64 Ae, .int .i64 Ar] 30 ?_; intro Ag hg w6 hbox hb; have Ab := aM (hbox); have Az := gwS hg Z57; have Al := gwS hg Z57; replace HB := hbS Z57 hb; have Au := nbL hg Aa; have Av := nbG hg Aa; replace Aa := bkB Aa hb; clear hb hbox hg))
 replace Aa := aM (blk_drew Aa.out); replace Ab := aM (blk_drew Ab.out); replace HB := aM (below_drew1 HB.out); refine start_ (n := 14) (S := fun w' => w'.cell? ⟨Af, 0, none⟩ = some (.int .i64 Am) ∧ w'.cell? ⟨Af, 1, none⟩ = some (.string An) ∧ w'.cell? ⟨Af, 2, none⟩ = some (.int .i64 Ah) ∧ w'.cell? ⟨Af, 3, none⟩ = some (.int .i64 Ad) ∧ w'.cell? ⟨Af, 4, none⟩ = some (.int .i64 Ao) ∧ w'.cell? ⟨Ag, 0, none⟩ = some (.int .i64 Ap) ∧ w'.cell? ⟨Ag, 1, none⟩ = some (.string Aq) ∧ w'.cell? ⟨Ag, 2, none⟩ = some (.int .i64 Ai) ∧ w'.cell? ⟨Ag, 3, none⟩ = some (.int .i64 Ae) ∧ w'.cell? ⟨Ag, 4, none⟩ = some (.int .i64 Ar)) (ds := []) #[false, false, false, false, false, false, false, false, false, false, false, false, false, false] Z52 rfl rfl ⟨(blk_cell Aa.out 0).trans rfl, (blk_cell Aa.out 1).trans rfl, (blk_cell Aa.out 2).trans rfl, (blk_cell Aa.out 3).trans rfl, (blk_cell Aa.out 4).trans rfl, (blk_cell Ab.out 0).trans rfl, (blk_cell Ab.out 1).trans rfl, (blk_cell Ab.out 2).trans rfl, (blk_cell Ab.out 3).trans rfl, (blk_cell Ab.out 4).trans rfl⟩ (fun hHeld => ?_); refine with_tabW impl_Shade_distance.tab1 impl_Shade_distance.bits1 (fun HT_ HW_ => ?_)
 generalize w6.drew = w7 at Aa Ab HB hHeld ⊢
 refine puR 0 5 #[true, false, false, false, false, false, false, false, false, false, false, false, false, false] HT_ rfl rfl ?_; refine puR 2 7 #[true, false, true, false, false, false, false, false, false, false, false, false, false, false] HT_ rfl rfl ?_; refine puR 6 11 #[true, false, true, false, false, false, true, false, false, false, false, false, false, false] HT_ rfl rfl ?_; refine puR 8 13 #[true, false, true, false, false, false, true, false, true, false, false, false, false, false] HT_ rfl rfl ?_; refine taR 1 6 #[true, true, true, false, false, false, true, false, true, false, false, false, false, false] HT_ HW_ hHeld rfl rfl ?_; refine taR 3 8 #[true, true, true, true, false, false, true, false, true, false, false, false, false, false] HT_ HW_ hHeld rfl rfl ?_; refine taR 7 12 #[true, true, true, true, false, false, true, true, true, false, false, false, false, false] HT_ HW_ hHeld rfl rfl ?_; refine taR 9 14 #[true, true, true, true, false, false, true, true, true, true, false, false, false, false] HT_ HW_ hHeld rfl rfl ?_; refine puR 10 15 #[true, true, true, true, false, false, true, true, true, true, true, false, false, false] HT_ rfl rfl ?_; refine one_ (i := 4) (N := some 9) #[true, true, true, true, true, false, true, true, true, true, true, false, false, false] rfl rfl (one_of HT_.out Z52) (by decide) (fun K hK => ?_); refine goes_ Tryd.func42 Z52 rfl #[.int .i64 Ah, .int .i64 Ai] (by rfl) rfl rfl Z28 ?_; (with_reducible refine (impl_wheelGap.calls Ah Ai Ak _ A3.out).mono ?_); rintro e w8 ⟨rfl, hb⟩; refine ⟨_, rfl, ?_⟩; replace Aa := bkB Aa hb; replace Ab := bkB Ab hb; replace HB := hbS Z93 hb; (try clear hb); (try clear hb2); (try clear hk); (try clear hi); refine hK.out _ _ Z89 (fun hHeld => ?_); clear hK K; refine noR 9 ?_; refine puR 5 10 #[true, true, true, true, true, true, true, true, true, true, true, false, false, false] HT_ rfl rfl ?_; refine one_ (i := 11) (N := some 16) #[true, true, true, true, true, true, true, true, true, true, true, true, false, false] rfl rfl (one_of HT_.out Z52) (by decide) (fun K hK => ?_); refine goes_ Tryd.func55 Z52 rfl #[.int .i64 (wrap64 (Ad - Ae))] (by rfl) rfl rfl Z28 ?_; (with_reducible refine (impl_abs.calls (wrap64 (Ad - Ae)) Aj _ A4.out).mono ?_); rintro e w9 ⟨rfl, hb⟩; refine ⟨_, rfl, ?_⟩; replace Aa := bkB Aa hb; replace Ab := bkB Ab hb; replace HB := hbS Z93 hb; (try clear hb); (try clear hb2); (try clear hk); (try clear hi); refine hK.out _ _ Z89 (fun hHeld => ?_); clear hK K; refine noR 16 ?_; refine puR 12 17 #[true, true, true, true, true, true, true, true, true, true, true, true, true, false] HT_ rfl rfl ?_; refine puR 13 4 #[true, true, true, true, true, true, true, true, true, true, true, true, true, true] HT_ rfl rfl ?_; refine done_ (done_of HT_.out Z52) ?_
 try go_wp2
 go_ret
 exact ⟨Z39, Z93⟩
end Go.Proofs.YtedjeeicpppplaaDoor.H
