-- by wip/pack.py of this repo
import Derived.Test.YtfeighajmkcjfaaGreatDoorZ01Hx0
import Derived.Test.YtfeighajmkcjfaaGreatDoorZ01Hx1
import Derived.Test.YtfeighajmkcjfaaGreatDoorZ01Hx5
import Derived.Test.YtfeighajmkcjfaaGreatDoorZ01Hx6
import Derived.Test.YtfeighajmkcjfaaGreatDoorZ01WInv
import Derived.Test.YtfeighajmkcjfaaGreatDoorZ01WLast
import Derived.Test.YtfeighajmkcjfaaGreatDoorZ01WMore
import Derived.Test.YtfeighajmkcjfaaGreatDoorZ01WRepsOne
import Derived.Test.YtfeighajmkcjfaaGreatDoorZ01WWords
import Derived.Test.YtfeighajmkcjfaaGreatDoorZ01Short
namespace Go.Proofs.YtfeighajmkcjfaaGreatDoor.H
open Go.RowKit Go.Proofs.YtfeighajmkcjfaaGreatDoorW.PrintWords Go.Proofs.YtfeighajmkcjfaaGreatDoorW.PrintLast Go.Proofs.YtfeighajmkcjfaaGreatDoorW.PrintMore
attribute [local go_sem high] gtr_text
attribute [local go_sem] max2_int min2_int max_two min_two max_three min_three max_four min_four
set_option maxHeartbeats 8000000
set_option maxRecDepth 100000
set_option linter.unusedVariables false
set_option linter.unusedSimpArgs false
attribute [local go_sem high] eqA53
def spec_l7Of.l0 : Nat → List (S53) → ByteArray → Int → Option (Int)
 | 0, _, _, _ => none
 | k + 1, x0, x1, x5 => if x5 < (x0.length : Int) then (if 0 ≤ x5 then (if ((rd_T53 x0 x5).f0).toList = x1.toList then (some ((rd_T53 x0 x5).f1)) else (spec_l7Of.l0 k x0 x1 (wrap64 (x5 + 1)))) else (none)) else (some 0)
def spec_l7Of.f (k : Nat) (l0 : List (S53)) (a1 : ByteArray) : Option (Int) := spec_l7Of.l0 k l0 a1 0
theorem spec_l7Of.calls (k : Nat) (A0 : Option Addr) (c0 : Nat) (l0 : List (S53)) (a1 : ByteArray) (r : Int) (w : World) (Ak : Kd.C k53 w A0 l0.length l0) (Al : l0.length ≤ c0) (h : spec_l7Of.f k l0 a1 = some r) :
  Calls Tryz.prog 29 #[.slice A0 l0.length c0, .string a1] w fun e w' => e = .returned (.int .i64 r) ∧ Drawn0 w w' := by
 have Aj := Aside0.mk Ak; have Am := Aside0.mk Al; clear Ak Al; have H : (spec_l7Of.l0 k l0 a1 0) = some r := h; clear h; have H' := Aside0.mk H; clear H
 go_enter Tryz.func29, Tryz.ntmps29
 go_wp2
 go_loopg [5] k (fun kq v5 w' => ∃ (Aa : Int), v5 = .int .i64 Aa ∧ Aside0 (spec_l7Of.l0 kq l0 a1 Aa = some r) ∧ Aside0 (kq ≤ k) ∧ Drawn0 w w')
 case atStart => exact ⟨(0), Z12, H', ⟨Nat.le_refl _⟩, Z37⟩
 case round =>
  clear H'; (try clear c2); (try clear p2); obtain ⟨Aa, rfl, HA, HK1, ⟨m1, rfl⟩⟩ := hrel; cases gk with
  | zero => exact absurd HA.out (by simp [spec_l7Of.l0])
  | succ k1 =>
   have H := HA.out; clear HA
   simp only [spec_l7Of.l0] at H
   by_cases c3 : Aa < (l0.length : Int)
   ·rw [if_pos c3] at H
    have c3b0 : decide (Aa < (l0.length : Int)) = true := decide_eq_true c3; clear c3
    by_cases c4 : 0 ≤ Aa
    ·rw [if_pos c4] at H
     have c4b0 : decide (0 ≤ Aa) = true := decide_eq_true c4; clear c4
     by_cases c5 : ((rd_T53 l0 Aa).f0).toList = a1.toList
     ·rw [if_pos c5] at H
      have c5b0 : (((rd_T53 l0 Aa).f0).toList == a1.toList) = true := beq_iff_eq.mpr c5; have c5b1 : (((rd_T53 l0 Aa).f0).toList != a1.toList) = false := bne_eq_false_iff_eq.mpr c5; clear c5; obtain rfl := Option.some.inj H; have Ab : 0 ≤ (Aa : Int) := of_decide_eq_true Z6; have Ac : Aa < (l0.length : Int) := of_decide_eq_true Z6; obtain ⟨ad246, e246, Ad, Ae⟩ := at_T53 Aj.out Aa Ab Ac; cases e246; replace Ab := eq_true Ab; replace Ac := eq_true Ac; have Af : 0 ≤ (Aa : Int) := of_decide_eq_true Z6; have Ag : Aa < (l0.length : Int) := of_decide_eq_true Z6; obtain ⟨ad247, e247, Ah, Ai⟩ := at_T53 Aj.out Aa Af Ag; obtain rfl : ad246 = ad247 := (by injection e247); replace Af := eq_true Af; replace Ag := eq_true Ag
      go_wp2
      go_ret
      exact ⟨Z12, Z37⟩
     ·rw [if_neg c5] at H
      have c5b0 : (((rd_T53 l0 Aa).f0).toList == a1.toList) = false := beq_eq_false_iff_ne.mpr c5; have c5b1 : (((rd_T53 l0 Aa).f0).toList != a1.toList) = true := bne_iff_ne.mpr c5; have H' := Aside0.mk H; clear H; have Ab : 0 ≤ (Aa : Int) := of_decide_eq_true Z6; have Ac : Aa < (l0.length : Int) := of_decide_eq_true Z6; obtain ⟨ad246, e246, Ad, Ae⟩ := at_T53 Aj.out Aa Ab Ac; cases e246; replace Ab := eq_true Ab; replace Ac := eq_true Ac
      go_wp2
      go_roundg k1
      case measure => have := HK1.out; omega
      case rel => exact ⟨(wrap64 (Aa + 1)), Z12, H', ⟨Z114⟩, Z37⟩
    ·rw [if_neg c4] at H
     exact absurd H (by simp)
   ·rw [if_neg c3] at H
    have c3b0 : decide (Aa < (l0.length : Int)) = false := decide_eq_false c3; clear c3; obtain rfl := Option.some.inj H
    go_wp2
    go_ret
    exact ⟨Z12, Z37⟩
def insD.f (l0 : List (S53)) (k : Int) (s : ByteArray) (n : Int) : Option (List (S53)) := if 0 ≤ k ∧ k ≤ (l0.length : Int) ∧ l0.length ≤ 1000 then some (l0.take k.toNat ++ [⟨s, n⟩] ++ l0.drop k.toNat) else none
theorem put_comm (a : Act) {i j : Nat} (h : i ≠ j) (u v : Value) : (a.put (some i) u).put (some j) v = (a.put (some j) v).put (some i) u := by
 unfold Act.put
 simp only
 rw [Array.setIfInBounds_comm _ _ h]
theorem put_comm3 (a : Act) {i j k : Nat} (h : i ≠ j) (h2 : i ≠ k) (u v x : Value) : ((a.put (some i) u).put (some j) v).put (some k) x = ((a.put (some j) v).put (some k) x).put (some i) u := by
 rw [put_comm a h, put_comm _ h2]
mutual
def spec_MixRecipes.j0 : Nat → List (S53) → List (S53) → Int → Bool → Option ((List (S53)) × Bool)
 | 0, _, _, _, _ => none
 | k + 1, x0, x1, x2, x26 => if x26 = true then (some ((([] : List (S53))), false)) else ((some (([] : List (S53)) : List (S53))).bind fun y257 => (if y257.length + x0.length < 5864062014805 then ((some (y257 ++ x0 : List (S53))).bind fun y260 => (if y260.length + x1.length < 5864062014805 then (spec_MixRecipes.l0 k x0 x1 x2 (([] : List (S53))) (y260 ++ x1) 0) else (none))) else (none)))
def spec_MixRecipes.l0 : Nat → List (S53) → List (S53) → Int → List (S53) → List (S53) → Int → Option ((List (S53)) × Bool)
 | 0, _, _, _, _, _, _ => none
 | k + 1, x0, x1, x2, x8, x9, x10 => if x10 < (x9.length : Int) then (if 0 ≤ x10 then ((spec_l7Of.f k x0 ((rd_T53 x9 x10).f0)).bind fun t271 => ((spec_l7Of.f k x1 ((rd_T53 x9 x10).f0)).bind fun t272 => (if (wrap64 (Int.tdiv (wrap64 ((wrap64 ((wrap64 (t271 * (wrap64 (100 - x2)))) + (wrap64 (t272 * x2)))) + 99)) 100)) = 0 then (spec_MixRecipes.j2 k x0 x1 x2 x8 x9 x10 ((rd_T53 x9 x10).f0) (wrap64 (Int.tdiv (wrap64 ((wrap64 ((wrap64 (t271 * (wrap64 (100 - x2)))) + (wrap64 (t272 * x2)))) + 99)) 100)) true) else ((spec_l7Of.f k x8 ((rd_T53 x9 x10).f0)).bind fun t273 => (spec_MixRecipes.j2 k x0 x1 x2 x8 x9 x10 ((rd_T53 x9 x10).f0) (wrap64 (Int.tdiv (wrap64 ((wrap64 ((wrap64 (t271 * (wrap64 (100 - x2)))) + (wrap64 (t272 * x2)))) + 99)) 100)) (decide (t273 > 0))))))) else (none)) else ((spec_l7Good.f k x8).bind fun t266 => (if t266 = true then (some (x8, true)) else (some ((([] : List (S53))), false))))
def spec_MixRecipes.j2 : Nat → List (S53) → List (S53) → Int → List (S53) → List (S53) → Int → ByteArray → Int → Bool → Option ((List (S53)) × Bool)
 | 0, _, _, _, _, _, _, _, _, _ => none
 | k + 1, x0, x1, x2, x8, x9, x10, x11, x12, x66 => if x66 = true then (spec_MixRecipes.l0 k x0 x1 x2 x8 x9 (wrap64 (x10 + 1))) else (spec_MixRecipes.l1 k x0 x1 x2 x8 x9 x10 x11 x12 (x8.length : Int))
def spec_MixRecipes.l1 : Nat → List (S53) → List (S53) → Int → List (S53) → List (S53) → Int → ByteArray → Int → Int → Option ((List (S53)) × Bool)
 | 0, _, _, _, _, _, _, _, _, _ => none
 | k + 1, x0, x1, x2, x8, x9, x10, x11, x12, x13 => if x13 > 0 then (if 0 ≤ (wrap64 (x13 - 1)) then (if (wrap64 (x13 - 1)) < (x8.length : Int) then (if (Op.bytesLess x11.toList (((rd_T53 x8 (wrap64 (x13 - 1))).f0).toList)) = true then (spec_MixRecipes.l1 k x0 x1 x2 x8 x9 x10 x11 x12 (wrap64 (x13 - 1))) else ((insD.f x8 x13 x11 x12).bind fun t275 => (spec_MixRecipes.l0 k x0 x1 x2 t275 x9 (wrap64 (x10 + 1))))) else (none)) else (none)) else ((insD.f x8 x13 x11 x12).bind fun t278 => (spec_MixRecipes.l0 k x0 x1 x2 t278 x9 (wrap64 (x10 + 1))))
end
def spec_MixRecipes.f (k : Nat) (l0 : List (S53)) (l1 : List (S53)) (a2 : Int) : Option ((List (S53)) × Bool) := (spec_l7Good.f k l0).bind fun t248 => (if t248 = true then ((spec_l7Good.f k l1).bind fun t249 => (if t249 = true then ((spec_l1In.f a2 0 100).bind fun t250 => (spec_MixRecipes.j0 k l0 l1 a2 (!t250))) else (spec_MixRecipes.j0 k l0 l1 a2 true))) else (spec_MixRecipes.j0 k l0 l1 a2 true))
theorem spec_MixRecipes.calls (k : Nat) (A0 : Option Addr) (c0 : Nat) (l0 : List (S53)) (A1 : Option Addr) (c1 : Nat) (l1 : List (S53)) (a2 : Int) (r1 : List (S53)) (r2 : Bool) (w : World) (Dr : Kd.C k53 w A0 l0.length l0) (Ds : l0.length ≤ c0) (Dt : Kd.C k53 w A1 l1.length l1) (Du : l1.length ≤ c1) (h : spec_MixRecipes.f k l0 l1 a2 = some (r1, r2)) :
  Calls Tryz.prog 7 #[.slice A0 l0.length c0, .slice A1 l1.length c1, .int .i64 a2] w fun e w' => ∃ v0_ : Value, e = .returned (.tuple #[v0_, .bool r2]) ∧ Kd.R k53 53 w' w.heap.size (fun _ => True) v0_ r1 ∧ Below w.heap.size w w' := by
 have Ci := Aside0.mk Dr; have C2 := Aside0.mk Ds; clear Dr Ds; have C3 := Aside0.mk Dt; have C7 := Aside0.mk Du; clear Dt Du; have HB := aM (Below.refl w.heap.size w); have H : ((spec_l7Good.f k l0).bind fun Br => (if Br = true then ((spec_l7Good.f k l1).bind fun Ar => (if Ar = true then ((spec_l1In.f a2 0 100).bind fun Ak => (spec_MixRecipes.j0 k l0 l1 a2 (!Ak))) else (spec_MixRecipes.j0 k l0 l1 a2 true))) else (spec_MixRecipes.j0 k l0 l1 a2 true))) = some (r1, r2) := h; clear h; have C8 := Aside0.mk H; clear H
 go_enter Tryz.func7, Tryz.ntmps7
 go_upto_region 1 with (fail)
 go_cut [26] (fun D1 wc => ∃ (kq : Nat) (Bg : Bool), D1 = .bool Bg ∧ Aside0 (spec_MixRecipes.j0 kq l0 l1 a2 Bg = some (r1, r2)) ∧ Aside0 (kq ≤ k) ∧ Aside0 (Below w.heap.size w wc))
 case first =>
  have H := C8.out; clear C8; replace H := Option.bind_eq_some_iff.mp H; obtain ⟨Br, Dv, H⟩ := H; replace H : (if Br = true then ((spec_l7Good.f k l1).bind fun Ar => (if Ar = true then ((spec_l1In.f a2 0 100).bind fun Ak => (spec_MixRecipes.j0 k l0 l1 a2 (!Ak))) else (spec_MixRecipes.j0 k l0 l1 a2 true))) else (spec_MixRecipes.j0 k l0 l1 a2 true)) = some (r1, r2) := H; have A5 := Aside0.mk Dv; clear Dv
  by_cases c6 : Br = true
  ·subst c6
   have H1 : ((spec_l7Good.f k l1).bind fun Ar => (if Ar = true then ((spec_l1In.f a2 0 100).bind fun Ak => (spec_MixRecipes.j0 k l0 l1 a2 (!Ak))) else (spec_MixRecipes.j0 k l0 l1 a2 true))) = some (r1, r2) := by rw [if_pos rfl] at H; exact H
   clear H; have H := H1; clear H1; replace H := Option.bind_eq_some_iff.mp H; obtain ⟨Ar, Dw, H⟩ := H; replace H : (if Ar = true then ((spec_l1In.f a2 0 100).bind fun Ak => (spec_MixRecipes.j0 k l0 l1 a2 (!Ak))) else (spec_MixRecipes.j0 k l0 l1 a2 true)) = some (r1, r2) := H; have A7 := Aside0.mk Dw; clear Dw
   by_cases c8 : Ar = true
   ·subst c8
    have H1 : ((spec_l1In.f a2 0 100).bind fun Ak => (spec_MixRecipes.j0 k l0 l1 a2 (!Ak))) = some (r1, r2) := by rw [if_pos rfl] at H; exact H
    clear H; have H := H1; clear H1; replace H := Option.bind_eq_some_iff.mp H; obtain ⟨Ak, Dx, H⟩ := H; replace H : (spec_MixRecipes.j0 k l0 l1 a2 (!Ak)) = some (r1, r2) := H; have A9 := Aside0.mk Dx; clear Dx; have H' := Aside0.mk H; clear H
    go_wp2_with (first | ((with_reducible refine gate_callee (f := 27) rfl ?_); refine glE (some 15) Tryz.func27 #[.slice A0 l0.length c0] ?_; (with_reducible refine (spec_l7Good.calls k _ _ l0 true _ ?side1 ?side2 A5.out).mono ?_); (case side1 => exact Z77); (case side2 => exact C2.out); rintro e Ep ⟨rfl, hb⟩; refine ⟨_, rfl, ?_⟩; replace HB := hbS Z0 hb; (try clear hb)) | (go_at_call 27; (with_reducible refine (spec_l7Good.calls k _ _ l1 true _ ?side1 ?side2 A7.out).mono ?_); (case side1 => exact Z98); (case side2 => exact C7.out); rintro e Er ⟨rfl, hb⟩; replace HB := hbS Z0 hb; (try clear hb)) | (go_at_call 28; (with_reducible refine (spec_l1In.calls a2 0 100 Ak _ A9.out).mono ?_); rintro e w' ⟨rfl, ⟨nd, rfl⟩⟩))
    go_meet
    case rel => exact ⟨_, (!Ak), Z12, H', ⟨Z90⟩, ⟨Z0⟩⟩
   ·replace c8 := Bool.eq_false_iff.mpr c8
    subst c8
    have H1 : (spec_MixRecipes.j0 k l0 l1 a2 true) = some (r1, r2) := by rw [if_neg (show ¬ (false = true) by decide)] at H; exact H
    clear H; have H := H1; clear H1; have H' := Aside0.mk H; clear H
    go_wp2_with (first | ((with_reducible refine gate_callee (f := 27) rfl ?_); refine glE (some 15) Tryz.func27 #[.slice A0 l0.length c0] ?_; (with_reducible refine (spec_l7Good.calls k _ _ l0 true _ ?side1 ?side2 A5.out).mono ?_); (case side1 => exact Z77); (case side2 => exact C2.out); rintro e Es ⟨rfl, hb⟩; refine ⟨_, rfl, ?_⟩; replace HB := hbS Z0 hb; (try clear hb)) | (go_at_call 27; (with_reducible refine (spec_l7Good.calls k _ _ l1 false _ ?side1 ?side2 A7.out).mono ?_); (case side1 => exact Z98); (case side2 => exact C7.out); rintro e Et ⟨rfl, hb⟩; replace HB := hbS Z0 hb; (try clear hb)))
    go_meet
    case rel => exact ⟨_, (true), Z12, H', ⟨Z90⟩, ⟨Z0⟩⟩
  ·replace c6 := Bool.eq_false_iff.mpr c6
   subst c6
   have H1 : (spec_MixRecipes.j0 k l0 l1 a2 true) = some (r1, r2) := by rw [if_neg (show ¬ (false = true) by decide)] at H; exact H
   clear H; have H := H1; clear H1; have H' := Aside0.mk H; clear H
   go_wp2_with (first | ((with_reducible refine gate_callee (f := 27) rfl ?_); refine glE (some 15) Tryz.func27 #[.slice A0 l0.length c0] ?_; (with_reducible refine (spec_l7Good.calls k _ _ l0 false _ ?side1 ?side2 A5.out).mono ?_); (case side1 => exact Z77); (case side2 => exact C2.out); rintro e Eu ⟨rfl, hb⟩; refine ⟨_, rfl, ?_⟩; replace HB := hbS Z0 hb; (try clear hb)))
   go_meet
   case rel => exact ⟨_, (true), Z12, H', ⟨Z90⟩, ⟨Z0⟩⟩
 case rest =>
  clear C8; (try clear c1); (try clear c2); (try clear p2); (try clear c6); (try clear c7); (try clear c8); obtain ⟨kq, Bg, rfl, HA, HJ3, HB⟩ := hcut; cases kq with
  | zero => exact absurd HA.out (by simp [spec_MixRecipes.j0])
  | succ B8 =>
   have H := HA.out; clear HA
   simp only [spec_MixRecipes.j0] at H
   by_cases Ca : Bg = true
   ·subst Ca
    have H1 : (some ((([] : List (S53))), false)) = some (r1, r2) := by rw [if_pos rfl] at H; exact H
    clear H; have H := H1; clear H1; obtain ⟨C9, Au⟩ : ∃ y_ : List (S53), y_ = (([] : List (S53))) := ⟨_, rfl⟩
    replace H : (some (C9, false)) = some (r1, r2) := by first | (rw [Au]; with_reducible exact H) | (have H2_ := (Option.bind_some _ _).symm.trans H; rw [Au]; with_reducible exact H2_) | (have H2_ := (Option.bind_some _ _).symm.trans H; with_reducible exact H2_) | with_reducible exact H | (rw [Au]; exact H) | exact H
    have Bx := Aside0.mk Au; clear Au
    simp only [Option.some.injEq, Prod.mk.injEq] at H
    obtain ⟨rfl, rfl⟩ := H
    go_wp2_with (first | ((with_reducible refine gate_dst (N := 27) rfl ?_); refine Kd.R_lit k53 _ 53 ?hg (N := 27) ?hd (xs := ([] : List (S53))) (inner := []) (ok := fun _ => True) (okp := fun _ => True) ?hr ?hp (fun _ hk => hk) trivial (Below.refl _ _) (Nat.le_refl _) (by simp) ?_; (case hd => rfl); (case hg => rfl); (case hr => first | (go_simp; done) | (go_simp; rfl)); (case hp => exact (Reps.none _ _)); intro D2 Ew Bk hb hg_ hnew_; clear hg_ hnew_; (first | rw [← Bx.out] at Bk | (simp only [Int.reduceToNat] at Bk; rw [← Bx.out] at Bk)); have Cj := aM (Kd.R_lower Bk (below_size Z0)); replace HB := hbS Z0 hb; clear hb Bk))
    go_ret2
    exact ⟨_, Z11, by (with_reducible repeat (first | apply Kd.R_alloc | apply Kd.R_drewN | apply Kd.R_drew)); exact Cj.out, Z0⟩
   ·replace Ca := Bool.eq_false_iff.mpr Ca
    subst Ca
    have H1 : ((some (([] : List (S53)) : List (S53))).bind fun Al => (if Al.length + l0.length < 5864062014805 then ((some (Al ++ l0 : List (S53))).bind fun Aj => (if Aj.length + l1.length < 5864062014805 then (spec_MixRecipes.l0 B8 l0 l1 a2 (([] : List (S53))) (Aj ++ l1) 0) else (none))) else (none))) = some (r1, r2) := by rw [if_neg (show ¬ (false = true) by decide)] at H; exact H
    clear H; have H := H1; clear H1; obtain ⟨Bl, Av⟩ : ∃ y_ : List (S53), y_ = (([] : List (S53))) := ⟨_, rfl⟩
    replace H : ((some (([] : List (S53)) : List (S53))).bind fun Al => (if Al.length + l0.length < 5864062014805 then ((some (Al ++ l0 : List (S53))).bind fun Aj => (if Aj.length + l1.length < 5864062014805 then (spec_MixRecipes.l0 B8 l0 l1 a2 Bl (Aj ++ l1) 0) else (none))) else (none))) = some (r1, r2) := by first | (rw [Av]; with_reducible exact H) | (have H2_ := (Option.bind_some _ _).symm.trans H; rw [Av]; with_reducible exact H2_) | (have H2_ := (Option.bind_some _ _).symm.trans H; with_reducible exact H2_) | with_reducible exact H | (rw [Av]; exact H) | exact H
    have Bz := Aside0.mk Av; clear Av; obtain ⟨Al, Aw⟩ : ∃ y_ : List (S53), y_ = (([] : List (S53))) := ⟨_, rfl⟩
    replace H : (if Al.length + l0.length < 5864062014805 then ((some (Al ++ l0 : List (S53))).bind fun Aj => (if Aj.length + l1.length < 5864062014805 then (spec_MixRecipes.l0 B8 l0 l1 a2 Bl (Aj ++ l1) 0) else (none))) else (none)) = some (r1, r2) := by first | (rw [Aw]; with_reducible exact H) | (have H2_ := (Option.bind_some _ _).symm.trans H; rw [Aw]; with_reducible exact H2_) | (have H2_ := (Option.bind_some _ _).symm.trans H; with_reducible exact H2_) | with_reducible exact H | (rw [Aw]; exact H) | exact H
    have B0 := Aside0.mk Aw; clear Aw
    by_cases Cb : Al.length + l0.length < 5864062014805
    ·rw [if_pos Cb] at H
     have LMc18 := Aside0.mk Cb; clear Cb; obtain ⟨Aj, Ax⟩ : ∃ y_ : List (S53), y_ = (Al ++ l0) := ⟨_, rfl⟩
     replace H : (if Aj.length + l1.length < 5864062014805 then (spec_MixRecipes.l0 B8 l0 l1 a2 Bl (Aj ++ l1) 0) else (none)) = some (r1, r2) := by first | (rw [Ax]; with_reducible exact H) | (have H2_ := (Option.bind_some _ _).symm.trans H; rw [Ax]; with_reducible exact H2_) | (have H2_ := (Option.bind_some _ _).symm.trans H; with_reducible exact H2_) | with_reducible exact H | (rw [Ax]; exact H) | exact H
     have Ck := Aside0.mk Ax; clear Ax
     by_cases Cc : Aj.length + l1.length < 5864062014805
     ·rw [if_pos Cc] at H
      have LMc19 := Aside0.mk Cc; clear Cc; obtain ⟨Ad, Ay⟩ : ∃ y_ : List (S53), y_ = (Aj ++ l1) := ⟨_, rfl⟩
      replace H : (spec_MixRecipes.l0 B8 l0 l1 a2 Bl Ad 0) = some (r1, r2) := by first | (rw [Ay]; with_reducible exact H) | (have H2_ := (Option.bind_some _ _).symm.trans H; rw [Ay]; with_reducible exact H2_) | (have H2_ := (Option.bind_some _ _).symm.trans H; with_reducible exact H2_) | with_reducible exact H | (rw [Ay]; exact H) | exact H
      have Cl := Aside0.mk Ay; clear Ay; have H' := Aside0.mk H; clear H
      go_wp2_with (first | ((with_reducible refine gate_dst (N := 28) rfl ?_); refine Kd.R_lit k53 _ 53 ?hg (N := 28) ?hd (xs := ([] : List (S53))) (inner := []) (ok := fun _ => True) (okp := fun _ => True) ?hr ?hp (fun _ hk => hk) trivial (Below.refl _ _) (Nat.le_refl _) (by simp) ?_; (case hd => rfl); (case hg => rfl); (case hr => first | (go_simp; done) | (go_simp; rfl)); (case hp => exact (Reps.none _ _)); intro Cm Ex Bm hb hg_ hnew_; clear hg_ hnew_; (first | rw [← Bz.out] at Bm | (simp only [Int.reduceToNat] at Bm; rw [← Bz.out] at Bm)); have Ai := aM (Kd.R_lower Bm (below_size Z0)); replace HB := hbS Z0 hb; clear hb Bm) | ((with_reducible refine gate_dst (N := 29) rfl ?_); refine Kd.R_lit k53 _ 53 ?hg (N := 29) ?hd (xs := ([] : List (S53))) (inner := []) (ok := fun _ => True) (okp := fun _ => True) ?hr ?hp (fun _ hk => hk) trivial (Below.refl _ _) (Nat.le_refl _) (by simp) ?_; (case hd => rfl); (case hg => rfl); (case hr => first | (go_simp; done) | (go_simp; rfl)); (case hp => exact (Reps.none _ _)); intro Da Ey Bj hb hg_ hnew_; clear hg_ hnew_; (first | rw [← B0.out] at Bj | (simp only [Int.reduceToNat] at Bj; rw [← B0.out] at Bj)); have B1 := aM (Kd.R_lower (Kd.R_new' Bj (Kd.R_lt Z50)) (below_size Z0)); replace Ai := aM (Kd.R_elder' Z50 (Kd.R_base Bj) hb); replace HB := hbS Z0 hb; clear hb Bj) | ((with_reducible refine gate_builtin (b := .append) (xs := #[.tmp 29, .tmp 30]) rfl ?_); at_builtin; refine Kd.R_append_rows k53 (w0 := w) w.heap.size rfl (.tmp 29) (.tmp 30) 24 53 (.agg #[(.string ⟨#[]⟩), (.int .i64 0)]) 24 rfl Tryz.underlying24 info53 rfl (by decide) (by omega) Da Al l0 _ _ _ (fun k_ => nV k_ Cm) (fun _ => False) rfl rfl ?aO ?aR (fun _ _ h => h) (fun _ h => h.elim) ?aF ?aB ?aS ?aL ?_; (case aR => repeat (first | exact (Kd.C_below Ci.out HB.out) | (with_reducible refine Kd.C_alloc ?_ _) | (with_reducible refine Kd.C_drewN ?_ _) | (with_reducible refine Kd.C_drew ?_))); (case aB => exact Z0); (case aF => exact (fun k_ hk => Kd.fresh' (Kd.R_lt Z50) k_ hk)); (case aO => exact Z120); (case aS => exact (below_size Z0)); (case aL => have := LMc18.out; omega); intro Db Ez ho hb hg hat; rw [← Ck.out] at ho; replace Ai := aM (Kd.R_after (ok := (fun _ => True)) Z50 hg hat); replace HB := aM (hb); have B2 := aM (ho); clear B1; clear ho hb hg hat) | ((with_reducible refine gate_builtin (b := .append) (xs := #[.tmp 31, .tmp 32]) rfl ?_); at_builtin; refine Kd.R_append_rows k53 (w0 := w) w.heap.size rfl (.tmp 31) (.tmp 32) 24 53 (.agg #[(.string ⟨#[]⟩), (.int .i64 0)]) 24 rfl Tryz.underlying24 info53 rfl (by decide) (by omega) Db Aj l1 _ _ _ (fun k_ => nV k_ Cm) (fun _ => False) rfl rfl ?aO ?aR (fun _ _ h => h) (fun _ h => h.elim) ?aF ?aB ?aS ?aL ?_; (case aR => repeat (first | exact (Kd.C_below C3.out HB.out) | (with_reducible refine Kd.C_alloc ?_ _) | (with_reducible refine Kd.C_drewN ?_ _) | (with_reducible refine Kd.C_drew ?_))); (case aB => exact Z0); (case aF => exact (fun k_ hk => Kd.fresh' (Kd.R_lt Z50) k_ hk)); (case aO => exact (by (with_reducible repeat (first | apply Kd.R_alloc | apply Kd.R_drewN | apply Kd.R_drew)); exact B2.out)); (case aS => exact (below_size Z0)); (case aL => have := LMc19.out; omega); intro Cn E0 ho hb hg hat; rw [← Cl.out] at ho; replace Ai := aM (Kd.R_after (ok := (fun _ => True)) Z50 hg hat); replace HB := aM (hb); have Co := aM (ho); clear B2; clear ho hb hg hat))
      go_loopg [8, 10] B8 (fun kq v8 D3 w' => ∃ (Ac : List (S53)) (Aa : Int), D3 = .int .i64 Aa ∧ Aside0 (spec_MixRecipes.l0 kq l0 l1 a2 Ac Ad Aa = some (r1, r2)) ∧ Aside0 (kq ≤ B8) ∧ Aside0 (Kd.R k53 53 w' w.heap.size (fun k_ => nV k_ Cn) v8 Ac) ∧ Aside0 (Kd.R k53 53 w' w.heap.size (fun k_ => nV k_ v8) Cn Ad) ∧ Aside0 (Below w.heap.size w w'))
      case atStart => exact ⟨(Bl), (0), Z12, H', ⟨Nat.le_refl _⟩, ⟨by (with_reducible repeat (first | apply Kd.R_alloc | apply Kd.R_drewN | apply Kd.R_drew)); exact Kd.R_mono Ai.out (fun _ hk => hk.2)⟩, ⟨by (with_reducible repeat (first | apply Kd.R_alloc | apply Kd.R_drewN | apply Kd.R_drew)); exact Co.out⟩, ⟨Z0⟩⟩
      case round =>
       clear H'; (try clear c1); (try clear c2); (try clear p2); (try clear c6); (try clear c7); (try clear c8); (try clear Ca); (try clear Cb); (try clear Cc); (try clear p2); obtain ⟨Ac, Aa, rfl, HA, HK2, Ag, Ah, HB⟩ := hrel; cases gk with
       | zero => exact absurd HA.out (by simp [spec_MixRecipes.l0])
       | succ k2 =>
        have H := HA.out; clear HA
        simp only [spec_MixRecipes.l0] at H
        by_cases B3 : Aa < (Ad.length : Int)
        ·rw [if_pos B3] at H
         have c26b0 : decide (Aa < (Ad.length : Int)) = true := decide_eq_true B3; clear B3
         by_cases Cf : 0 ≤ Aa
         ·rw [if_pos Cf] at H
          have c27b0 : decide (0 ≤ Aa) = true := decide_eq_true Cf; clear Cf; replace H := Option.bind_eq_some_iff.mp H; obtain ⟨Af, Cp, H⟩ := H; replace H : ((spec_l7Of.f k2 l1 ((rd_T53 Ad Aa).f0)).bind fun Ae => (if (wrap64 (Int.tdiv (wrap64 ((wrap64 ((wrap64 (Af * (wrap64 (100 - a2)))) + (wrap64 (Ae * a2)))) + 99)) 100)) = 0 then (spec_MixRecipes.j2 k2 l0 l1 a2 Ac Ad Aa ((rd_T53 Ad Aa).f0) (wrap64 (Int.tdiv (wrap64 ((wrap64 ((wrap64 (Af * (wrap64 (100 - a2)))) + (wrap64 (Ae * a2)))) + 99)) 100)) true) else ((spec_l7Of.f k2 Ac ((rd_T53 Ad Aa).f0)).bind fun Ba => (spec_MixRecipes.j2 k2 l0 l1 a2 Ac Ad Aa ((rd_T53 Ad Aa).f0) (wrap64 (Int.tdiv (wrap64 ((wrap64 ((wrap64 (Af * (wrap64 (100 - a2)))) + (wrap64 (Ae * a2)))) + 99)) 100)) (decide (Ba > 0)))))) = some (r1, r2) := H; have D4 := Aside0.mk Cp; clear Cp; replace H := Option.bind_eq_some_iff.mp H; obtain ⟨Ae, Cq, H⟩ := H; replace H : (if (wrap64 (Int.tdiv (wrap64 ((wrap64 ((wrap64 (Af * (wrap64 (100 - a2)))) + (wrap64 (Ae * a2)))) + 99)) 100)) = 0 then (spec_MixRecipes.j2 k2 l0 l1 a2 Ac Ad Aa ((rd_T53 Ad Aa).f0) (wrap64 (Int.tdiv (wrap64 ((wrap64 ((wrap64 (Af * (wrap64 (100 - a2)))) + (wrap64 (Ae * a2)))) + 99)) 100)) true) else ((spec_l7Of.f k2 Ac ((rd_T53 Ad Aa).f0)).bind fun Ba => (spec_MixRecipes.j2 k2 l0 l1 a2 Ac Ad Aa ((rd_T53 Ad Aa).f0) (wrap64 (Int.tdiv (wrap64 ((wrap64 ((wrap64 (Af * (wrap64 (100 - a2)))) + (wrap64 (Ae * a2)))) + 99)) 100)) (decide (Ba > 0))))) = some (r1, r2) := H; have D5 := Aside0.mk Cq; clear Cq; have Cd := Aside0.mk H; clear H; obtain ⟨D6, Bs, Dc⟩ := Kd.R_slice Ah.out; subst Dc; have Bn : 0 ≤ (Aa : Int) := of_decide_eq_true Z6; have Bo : Aa < (Ad.length : Int) := of_decide_eq_true Z6; obtain ⟨ad270, e270, Bh, Bi⟩ := at_T53 (Kd.R_reads' Ah.out).2.2 Aa Bn Bo; cases e270; replace Bn := eq_true Bn; replace Bo := eq_true Bo
          go_upto_region 10 with (first | ((with_reducible refine gate_callee (f := 29) rfl ?_); refine glE (some 47) Tryz.func29 #[.slice A0 l0.length c0, .string ((rd_T53 Ad Aa).f0)] ?_; (with_reducible refine (spec_l7Of.calls k2 _ _ l0 ((rd_T53 Ad Aa).f0) Af _ ?side1 ?side2 D4.out).mono ?_); (case side1 => exact Z77); (case side2 => exact C2.out); rintro e w' ⟨rfl, ⟨nd, rfl⟩⟩; refine ⟨_, rfl, ?_⟩) | ((with_reducible refine gate_callee (f := 29) rfl ?_); refine glE (some 53) Tryz.func29 #[.slice A1 l1.length c1, .string ((rd_T53 Ad Aa).f0)] ?_; (with_reducible refine (spec_l7Of.calls k2 _ _ l1 ((rd_T53 Ad Aa).f0) Ae _ ?side1 ?side2 D5.out).mono ?_); (case side1 => repeat (first | exact (Kd.C_below C3.out Z0) | (with_reducible refine Kd.C_alloc ?_ _) | (with_reducible refine Kd.C_drewN ?_ _) | (with_reducible refine Kd.C_drew ?_))); (case side2 => exact C7.out); rintro e w' ⟨rfl, ⟨nd, rfl⟩⟩; refine ⟨_, rfl, ?_⟩))
          (try simp only [Act.put, List.setIfInBounds_toArray, List.set_cons_zero, List.set_cons_succ])
          go_cut [66] (fun D7 wc => ∃ (kq : Nat) (Ap : Bool), D7 = .bool Ap ∧ Aside0 (spec_MixRecipes.j2 kq l0 l1 a2 Ac Ad Aa ((rd_T53 Ad Aa).f0) (wrap64 (Int.tdiv (wrap64 ((wrap64 ((wrap64 (Af * (wrap64 (100 - a2)))) + (wrap64 (Ae * a2)))) + 99)) 100)) Ap = some (r1, r2)) ∧ Aside0 (kq ≤ k2) ∧ Aside0 (Kd.R k53 53 wc w.heap.size (fun k_ => some k_ ≠ ((.slice (some ad270) Ad.length Bs) : Value).ownBlock) u8 Ac) ∧ Aside0 (Kd.R k53 53 wc w.heap.size (fun k_ => nV k_ u8) (.slice (some ad270) Ad.length Bs) Ad) ∧ Aside0 (Below w.heap.size w wc))
          case first =>
           have H := Cd.out; clear Cd
           by_cases Bt : (wrap64 (Int.tdiv (wrap64 ((wrap64 ((wrap64 (Af * (wrap64 (100 - a2)))) + (wrap64 (Ae * a2)))) + 99)) 100)) = 0
           ·rw [if_pos Bt] at H
            have c32b0 : ((wrap64 (Int.tdiv (wrap64 ((wrap64 ((wrap64 (Af * (wrap64 (100 - a2)))) + (wrap64 (Ae * a2)))) + 99)) 100)) == 0) = true := beq_iff_eq.mpr Bt; have c32b1 : ((wrap64 (Int.tdiv (wrap64 ((wrap64 ((wrap64 (Af * (wrap64 (100 - a2)))) + (wrap64 (Ae * a2)))) + 99)) 100)) != 0) = false := bne_eq_false_iff_eq.mpr Bt; clear Bt
            (first | rw [c32b0] | (simp only [i64_w, i32_w]; rw [c32b0]) | skip)
            have H' := Aside0.mk H; clear H
            go_wp2
            go_meet
            case rel => exact ⟨_, (true), Z12, H', ⟨Z132⟩, ⟨Z74⟩, ⟨Z45⟩, ⟨Z0⟩⟩
           ·rw [if_neg Bt] at H
            have c32b0 : ((wrap64 (Int.tdiv (wrap64 ((wrap64 ((wrap64 (Af * (wrap64 (100 - a2)))) + (wrap64 (Ae * a2)))) + 99)) 100)) == 0) = false := beq_eq_false_iff_ne.mpr Bt; have c32b1 : ((wrap64 (Int.tdiv (wrap64 ((wrap64 ((wrap64 (Af * (wrap64 (100 - a2)))) + (wrap64 (Ae * a2)))) + 99)) 100)) != 0) = true := bne_iff_ne.mpr Bt
            (first | rw [c32b0] | (simp only [i64_w, i32_w]; rw [c32b0]) | skip)
            replace H := Option.bind_eq_some_iff.mp H; obtain ⟨Ba, Cr, H⟩ := H; replace H : (spec_MixRecipes.j2 k2 l0 l1 a2 Ac Ad Aa ((rd_T53 Ad Aa).f0) (wrap64 (Int.tdiv (wrap64 ((wrap64 ((wrap64 (Af * (wrap64 (100 - a2)))) + (wrap64 (Ae * a2)))) + 99)) 100)) (decide (Ba > 0))) = some (r1, r2) := H; have D8 := Aside0.mk Cr; clear Cr; have H' := Aside0.mk H; clear H; obtain ⟨D9, Ea, Dd⟩ := Kd.R_slice Ag.out; subst Dd
            go_wp2_with (first | (go_at_call 29; (with_reducible refine (spec_l7Of.calls k2 _ _ Ac ((rd_T53 Ad Aa).f0) Ba _ ?side1 ?side2 D8.out).mono ?_); (case side1 => exact Z84); (case side2 => exact (Kd.R_reads' Ag.out).2.1); rintro e w' ⟨rfl, ⟨nd, rfl⟩⟩))
            go_meet
            case rel => exact ⟨_, (decide (Ba > 0)), Z12, H', ⟨Z132⟩, ⟨Z74⟩, ⟨Z45⟩, ⟨Z0⟩⟩
          case rest =>
           clear Cd; (try clear c1); (try clear c2); (try clear p2); (try clear q2); (try clear Eb); (try clear c3); (try clear c6); (try clear p6); (try clear c7); (try clear c8); (try clear Ca); (try clear Cb); (try clear Cc); (try clear B3); (try clear c26b0); (try clear Cf); (try clear c27b0); (try clear Dy); (try clear Dz); (try clear De); (try clear Ec); (try clear Bt); (try clear c32b0); (try clear c32b1); (try clear Bh); (try clear Bi); (try clear p2); (try clear Bn); (try clear Bo); obtain ⟨kq, Ap, rfl, HA, HJ29, Ag, Ah, HB⟩ := hcut; cases kq with
           | zero => exact absurd HA.out (by simp [spec_MixRecipes.j2])
           | succ Bp =>
            have H := HA.out; clear HA
            simp only [spec_MixRecipes.j2] at H
            by_cases Cs : Ap = true
            ·subst Cs
             have H1 : (spec_MixRecipes.l0 Bp l0 l1 a2 Ac Ad (wrap64 (Aa + 1))) = some (r1, r2) := by rw [if_pos rfl] at H; exact H
             clear H; have H := H1; clear H1; have H' := Aside0.mk H; clear H
             go_wp2
             go_roundg Bp
             case measure => have := HJ3.out; have := HK2.out; have := HJ29.out; omega
             case rel => exact ⟨(Ac), (wrap64 (Aa + 1)), Z12, H', ⟨by have := HJ3.out; have := HK2.out; have := HJ29.out; omega⟩, ⟨Z74⟩, ⟨Z45⟩, ⟨Z0⟩⟩
            ·replace Cs := Bool.eq_false_iff.mpr Cs
             subst Cs
             have H1 : (spec_MixRecipes.l1 Bp l0 l1 a2 Ac Ad Aa ((rd_T53 Ad Aa).f0) (wrap64 (Int.tdiv (wrap64 ((wrap64 ((wrap64 (Af * (wrap64 (100 - a2)))) + (wrap64 (Ae * a2)))) + 99)) 100)) (Ac.length : Int)) = some (r1, r2) := by rw [if_neg (show ¬ (false = true) by decide)] at H; exact H
             clear H; have H := H1; clear H1; have H' := Aside0.mk H; clear H; obtain ⟨Bb, Am, Df⟩ := Kd.R_slice Ag.out; subst Df
             go_wp2
             go_loopg [13] Bp (fun kq Ed w' => ∃ (Ab : Int), Ed = .int .i64 Ab ∧ Aside0 (spec_MixRecipes.l1 kq l0 l1 a2 Ac Ad Aa ((rd_T53 Ad Aa).f0) (wrap64 (Int.tdiv (wrap64 ((wrap64 ((wrap64 (Af * (wrap64 (100 - a2)))) + (wrap64 (Ae * a2)))) + 99)) 100)) Ab = some (r1, r2)) ∧ Aside0 (kq ≤ Bp) ∧ Aside0 (Kd.R k53 53 w' w.heap.size (fun k_ => some k_ ≠ ((.slice (some ad270) Ad.length Bs) : Value).ownBlock) (.slice Bb Ac.length Am) Ac) ∧ Aside0 (Kd.R k53 53 w' w.heap.size (fun k_ => nS k_ Bb Ac.length Am) (.slice (some ad270) Ad.length Bs) Ad) ∧ Aside0 (Below w.heap.size w w'))
             case atStart => exact ⟨((Ac.length : Int)), Z12, H', ⟨Nat.le_refl _⟩, ⟨Z74⟩, ⟨Z45⟩, ⟨Z0⟩⟩
             case round =>
              clear H'; (try clear c1); (try clear c2); (try clear p2); (try clear q2); (try clear Eb); (try clear c3); (try clear c6); (try clear p6); (try clear c7); (try clear c8); (try clear Ca); (try clear Cb); (try clear Cc); (try clear B3); (try clear c26b0); (try clear Cf); (try clear c27b0); (try clear Dy); (try clear Dz); (try clear De); (try clear Ec); (try clear Bt); (try clear c32b0); (try clear c32b1); (try clear Cs); (try clear Bh); (try clear Bi); (try clear p2); (try clear Dy); (try clear Bn); (try clear p6); (try clear q2); (try clear Dz); (try clear Bo); obtain ⟨Ab, rfl, HA, HK4, Ag, Ah, HB⟩ := hrel; cases gk with
              | zero => exact absurd HA.out (by simp [spec_MixRecipes.l1])
              | succ k4 =>
               have H := HA.out; clear HA
               simp only [spec_MixRecipes.l1] at H
               by_cases Cg : Ab > 0
               ·rw [if_pos Cg] at H
                have c37b0 : decide (0 < Ab) = true := decide_eq_true Cg; clear Cg; obtain ⟨ji38, hji38⟩ : ∃ j_ : Int, (wrap64 (Ab - 1)) = j_ := ⟨_, rfl⟩
                replace H : (if 0 ≤ (ji38) then (if (ji38) < (Ac.length : Int) then (if (Op.bytesLess ((rd_T53 Ad Aa).f0).toList (((rd_T53 Ac (ji38)).f0).toList)) = true then (spec_MixRecipes.l1 k4 l0 l1 a2 Ac Ad Aa ((rd_T53 Ad Aa).f0) (wrap64 (Int.tdiv (wrap64 ((wrap64 ((wrap64 (Af * (wrap64 (100 - a2)))) + (wrap64 (Ae * a2)))) + 99)) 100)) ji38) else ((insD.f Ac Ab ((rd_T53 Ad Aa).f0) (wrap64 (Int.tdiv (wrap64 ((wrap64 ((wrap64 (Af * (wrap64 (100 - a2)))) + (wrap64 (Ae * a2)))) + 99)) 100))).bind fun Bu => (spec_MixRecipes.l0 k4 l0 l1 a2 Bu Ad (wrap64 (Aa + 1))))) else (none)) else (none)) = some (r1, r2) := by first | (rw [hji38] at H; exact H) | (simp only [hji38] at H ⊢; exact H)
                have hji38w : (IntKind.i64.wrap (Ab - 1)) = ji38 := (i64_w _).trans hji38
                by_cases C4 : 0 ≤ (ji38)
                ·rw [if_pos C4] at H
                 have c39b0 : decide (0 ≤ (ji38)) = true := decide_eq_true C4; clear C4
                 by_cases C5 : (ji38) < (Ac.length : Int)
                 ·rw [if_pos C5] at H
                  have c40b0 : decide ((ji38) < (Ac.length : Int)) = true := decide_eq_true C5; clear C5
                  by_cases Ch : (Op.bytesLess ((rd_T53 Ad Aa).f0).toList (((rd_T53 Ac (ji38)).f0).toList)) = true
                  ·rw [if_pos Ch] at H
                   have c41b0 : (Op.bytesLess ((rd_T53 Ad Aa).f0).toList (((rd_T53 Ac (ji38)).f0).toList)) = true := Ch; clear Ch; have H' := Aside0.mk H; clear H; have Bc : 0 ≤ ((ji38) : Int) := of_decide_eq_true Z6; have Bd : (ji38) < (Ac.length : Int) := of_decide_eq_true Z6; obtain ⟨ad274, e274, Bv, Bw⟩ := at_T53 (Kd.R_reads' Ag.out).2.2 (ji38) Bc Bd; cases e274; replace Bc := eq_true Bc; replace Bd := eq_true Bd
                   go_wp2
                   go_roundg k4
                   case measure => have := HJ3.out; have := HK2.out; have := HJ29.out; have := HK4.out; omega
                   case rel => exact ⟨(ji38), (by first | rfl | (simp; done) | (simp only [← hji38] <;> (first | rfl | simp)) | (simp [*]; done)), H', ⟨Z123⟩, ⟨Z74⟩, ⟨Z45⟩, ⟨Z0⟩⟩
                  ·rw [if_neg Ch] at H
                   have c41b0 : (Op.bytesLess ((rd_T53 Ad Aa).f0).toList (((rd_T53 Ac (ji38)).f0).toList)) = false := by simpa using Ch
                   clear Ch; replace H := Option.bind_eq_some_iff.mp H; obtain ⟨Bu, Ct, H⟩ := H; replace H : (spec_MixRecipes.l0 k4 l0 l1 a2 Bu Ad (wrap64 (Aa + 1))) = some (r1, r2) := H; have Ee := Aside0.mk Ct; clear Ct; have H' := Aside0.mk H; clear H; have Bc : 0 ≤ ((ji38) : Int) := of_decide_eq_true Z6; have Bd : (ji38) < (Ac.length : Int) := of_decide_eq_true Z6; obtain ⟨ad274, e274, Bv, Bw⟩ := at_T53 (Kd.R_reads' Ag.out).2.2 (ji38) Bc Bd; cases e274; replace Bc := eq_true Bc; replace Bd := eq_true Bd; have F0 := Ee.out
                   unfold insD.f at F0
                   by_cases hg_ : 0 ≤ Ab ∧ Ab ≤ (Ac.length : Int) ∧ Ac.length ≤ 1000
                   case neg => rw [if_neg hg_] at F0; cases F0
                   rw [if_pos hg_] at F0; have HF := aM (Option.some.inj F0); have HG := Aside0.mk hg_; clear F0 hg_; have HCc := aM (Kd.R_reads' Ag.out).2.1; obtain ⟨i0, hi0, _, hsz0, _⟩ := info_parts info53; have hcutT := cut_to 24 53 .i64 Tryz.underlying24 hi0 (some ad274) Ac.length Am Ab HG.out.1 Z129 HCc.out; have hcutF := cut_from 24 53 .i64 Tryz.underlying24 hi0 2 hsz0 (some ad274) Ac.length Am Ab HG.out.1 Z129; obtain ⟨AF, hAF⟩ : ∃ AF, AF = (if Am = Ab.toNat then (some ad274) else ((some ad274) : Option Addr).map (·.add (Ab.toNat * 2))) := ⟨_, rfl⟩; rw [← hAF] at hcutF; have HCT : Aside0 (∀ W', Below wr.heap.size wr W' → Kd.C k53 W' (some ad274) Ab.toNat (Ac.take Ab.toNat)) := ⟨fun W' h => by have h1 := Kd.C_take (Kd.C_below (Kd.R_reads' Ag.out).2.2 h) (m := Ab.toNat) Z129; rwa [show (Ac.take Ab.toNat).length = Ab.toNat from by rw [List.length_take]; have := HG.out; omega] at h1⟩; have HCF : Aside0 (∀ W', Below wr.heap.size wr W' → Kd.C k53 W' AF (Ac.length - Ab.toNat) (Ac.drop Ab.toNat)) := ⟨fun W' h => Z144⟩; have HTL : Aside0 ((Ac.take Ab.toNat).length ≤ 1000 ∧ (Ac.drop Ab.toNat).length ≤ 1000) := ⟨Z134⟩; clear hAF hi0 hsz0
                   go_wp2_with fail
                   refine start_ (n := 15) (S := fun W' => Below wr.heap.size wr W') (ds := []) #[false, false, false, false, false, false, false, false, false, false, false, false, false, false, false] Z21 rfl rfl (below_drew1 (Below.refl _ _)) (fun hHeld => ?_)
                   generalize wr.drew = wD at hHeld ⊢
                   refine puK 1 84 #[false, true, false, false, false, false, false, false, false, false, false, false, false, false, false] rfl rfl ?_; refine puK 2 85 #[false, true, true, false, false, false, false, false, false, false, false, false, false, false, false] rfl rfl ?_; refine puK 5 88 #[false, true, true, false, false, true, false, false, false, false, false, false, false, false, false] rfl rfl ?_; refine puK 6 89 #[false, true, true, false, false, true, true, false, false, false, false, false, false, false, false] rfl rfl ?_; refine puK 10 93 #[false, true, true, false, false, true, true, false, false, false, true, false, false, false, false] rfl rfl ?_; refine puK 11 94 #[false, true, true, false, false, true, true, false, false, false, true, true, false, false, false] rfl rfl ?_; refine puK 3 86 #[false, true, true, true, false, true, true, false, false, false, true, true, false, false, false] rfl rfl ?_; refine puK 12 95 #[false, true, true, true, false, true, true, false, false, false, true, true, true, false, false] rfl rfl ?_; refine puK 7 90 #[false, true, true, true, false, true, true, true, false, false, true, true, true, false, false] rfl rfl ?_; refine join_ (σ := Value × Value × Value) 3 #[true, true, true, true, true, true, true, true, true, false, true, true, true, false, false] (fun q => [(83, q.1), (87, q.2.1), (91, q.2.2)]) (fun q W' => Below wr.heap.size wr W' ∧ Kd.R k53 53 W' wr.heap.size (fun _ => True) q.2.1 (Ac.take Ab.toNat) ∧ Kd.R k53 53 W' wr.heap.size (fun _ => True) q.2.2 [(⟨((rd_T53 Ad Aa).f0), (wrap64 (Int.tdiv (wrap64 ((wrap64 ((wrap64 (Af * (wrap64 (100 - a2)))) + (wrap64 (Ae * a2)))) + 99)) 100))⟩ : S53)]) ?cont_v276 ?orders_v276
                   case orders_v276 =>
                    intro hcont; refine two_ (i := 0) (j := 8) (Ni := some 83) (Nj := some 91) #[true, true, true, true, false, true, true, true, false, false, true, true, true, false, false] #[false, true, true, true, false, true, true, true, true, false, true, true, true, false, false] rfl rfl rfl rfl Z21 (by decide) (by decide) (fun K hK => ?_) (fun K hK => ?_)
                    ·have HS_ := hHeld
                     refine Kd.R_lit_step k53 (w0 := wr) wr.heap.size 53 ?hg_1 (N := 83) ?hd_1 (xs := ([] : List (S53))) (inner := []) (ok := fun _ => True) (okp := fun _ => True) ?hr_1 ?hp_1 (fun _ hk => hk) trivial HS_ HS_.size (by simp) ?_; (case hd_1 => rfl); (case hg_1 => rfl); (case hr_1 => first | (go_simp; done) | (go_simp; rfl)); (case hp_1 => exact (Reps.none _ _)); intro An w1 ho hb _ _; have R83 := Aside0.mk ho; clear ho; refine hK.out _ _ hb (fun hS1 => ?_); refine norm_ (a' := Act.put _ (some 83) An) rfl ?_; clear hK K hHeld HS_ hb; have HS_ := hS1; refine two_ (i := 4) (j := 8) (Ni := some 87) (Nj := some 91) #[true, true, true, true, true, true, true, true, false, false, true, true, true, false, false] #[true, true, true, true, false, true, true, true, true, false, true, true, true, false, false] rfl rfl rfl rfl Z21 (by decide) (by decide) (fun K hK => ?_) (fun K hK => ?_)
                     ·refine Kd.R_append_rows_step k53 (w0 := wr) wr.heap.size (by rfl) (.tmp 83) (.tmp 86) 24 53 (.agg #[(.string ⟨#[]⟩), (.int .i64 0)]) 24 rfl Tryz.underlying24 info53 rfl (by decide) (by omega) An ([] : List (S53)) (Ac.take Ab.toNat) _ _ _ (fun _ => True) (fun _ => False) rfl rfl R83.out (HCT.out _ HS_) (fun _ _ h => h) (fun _ h => h.elim) (fun _ _ => trivial) HS_ HS_.size ?aL_2 ?_; (case aL_2 => have := HG.out; simp only [List.length_nil]; omega)
                      intro Ao w2 ho hb _ _; rw [List.nil_append] at ho; have R87 := Aside0.mk ho; clear ho; refine hK.out _ _ hb (fun hS2 => ?_); refine norm_ (a' := Act.put _ (some 87) Ao) rfl ?_; clear hK K HS_ hb hS1; have HS_ := hS2; refine one_ (i := 8) (N := some 91) #[true, true, true, true, true, true, true, true, true, false, true, true, true, false, false] rfl rfl Z21 (by decide) (fun K hK => ?_); refine Kd.R_lit_step k53 _ 53 ?hg_3 (N := 91) ?hd_3 (xs := [(⟨((rd_T53 Ad Aa).f0), (wrap64 (Int.tdiv (wrap64 ((wrap64 ((wrap64 (Af * (wrap64 (100 - a2)))) + (wrap64 (Ae * a2)))) + 99)) 100))⟩ : S53)]) (inner := [.string ((rd_T53 Ad Aa).f0), .int .i64 (wrap64 (Int.tdiv (wrap64 ((wrap64 ((wrap64 (Af * (wrap64 (100 - a2)))) + (wrap64 (Ae * a2)))) + 99)) 100))]) (ok := fun _ => True) (okp := fun _ => True) ?hr_3 ?hp_3 (fun _ hk => hk) trivial (Below.refl _ _) (Nat.le_refl _) (by simp) ?_; (case hd_3 => rfl); (case hg_3 => rfl); (case hr_3 => first | (go_simp; done) | (go_simp; rfl)); (case hp_3 => exact (Reps.c2 (k53_mkM _ _ _ (⟨((rd_T53 Ad Aa).f0), (wrap64 (Int.tdiv (wrap64 ((wrap64 ((wrap64 (Af * (wrap64 (100 - a2)))) + (wrap64 (Ae * a2)))) + 99)) 100))⟩ : S53)) (Reps.none _ _))); intro Aq w3 ho hb _ _; refine hK.out _ _ (below_step HS_ hb) (fun hS3 => ?_); refine norm_ (a' := Act.put _ (some 91) Aq) rfl ?_
                      exact hcont (An, Ao, Aq) _ ⟨hS3, Kd.R_below R87.out hb, Kd.R_lower ho HS_.size⟩
                     ·refine Kd.R_lit_step k53 _ 53 ?hg_4 (N := 91) ?hd_4 (xs := [(⟨((rd_T53 Ad Aa).f0), (wrap64 (Int.tdiv (wrap64 ((wrap64 ((wrap64 (Af * (wrap64 (100 - a2)))) + (wrap64 (Ae * a2)))) + 99)) 100))⟩ : S53)]) (inner := [.string ((rd_T53 Ad Aa).f0), .int .i64 (wrap64 (Int.tdiv (wrap64 ((wrap64 ((wrap64 (Af * (wrap64 (100 - a2)))) + (wrap64 (Ae * a2)))) + 99)) 100))]) (ok := fun _ => True) (okp := fun _ => True) ?hr_4 ?hp_4 (fun _ hk => hk) trivial (Below.refl _ _) (Nat.le_refl _) (by simp) ?_; (case hd_4 => rfl); (case hg_4 => rfl); (case hr_4 => first | (go_simp; done) | (go_simp; rfl)); (case hp_4 => exact (Reps.c2 (k53_mkM _ _ _ (⟨((rd_T53 Ad Aa).f0), (wrap64 (Int.tdiv (wrap64 ((wrap64 ((wrap64 (Af * (wrap64 (100 - a2)))) + (wrap64 (Ae * a2)))) + 99)) 100))⟩ : S53)) (Reps.none _ _)))
                      intro Aq w2 ho hb _ _; have R91 := aM (Kd.R_new' ho (Kd.R_lt R83.out)); have R83b := aM (Kd.R_below R83.out hb); have hge := HS_.size; clear ho R83; have R83 := R83b; refine hK.out _ _ (below_step HS_ hb) (fun hS2 => ?_); refine norm_ (a' := Act.put _ (some 91) Aq) rfl ?_; clear hK K HS_ hb hS1 R83b; have HS_ := hS2; refine one_ (i := 4) (N := some 87) #[true, true, true, true, true, true, true, true, true, false, true, true, true, false, false] rfl rfl Z21 (by decide) (fun K hK => ?_); refine Kd.R_append_rows_step k53 (w0 := wr) wr.heap.size (by rfl) (.tmp 83) (.tmp 86) 24 53 (.agg #[(.string ⟨#[]⟩), (.int .i64 0)]) 24 rfl Tryz.underlying24 info53 rfl (by decide) (by omega) An ([] : List (S53)) (Ac.take Ab.toNat) _ _ _ (fun _ => True) (fun _ => False) rfl rfl R83.out (HCT.out _ HS_) (fun _ _ h => h) (fun _ h => h.elim) (fun _ _ => trivial) HS_ HS_.size ?aL_5 ?_; (case aL_5 => have := HG.out; simp only [List.length_nil]; omega); intro Ao w3 ho hb hg _; rw [List.nil_append] at ho; refine hK.out _ _ hb (fun hS3 => ?_); refine norm_ (a' := Act.put _ (some 87) Ao) rfl ?_; refine norm_ (put_comm _ (by decide) _ _) ?_
                      exact hcont (An, Ao, Aq) _ ⟨hS3, ho, Kd.R_mono (Kd.R_lower (Kd.R_grown R91.out hg (fun _ hk => hk.2)) hge) (fun _ _ => trivial)⟩
                    ·refine Kd.R_lit_step k53 _ 53 ?hg_6 (N := 91) ?hd_6 (xs := [(⟨((rd_T53 Ad Aa).f0), (wrap64 (Int.tdiv (wrap64 ((wrap64 ((wrap64 (Af * (wrap64 (100 - a2)))) + (wrap64 (Ae * a2)))) + 99)) 100))⟩ : S53)]) (inner := [.string ((rd_T53 Ad Aa).f0), .int .i64 (wrap64 (Int.tdiv (wrap64 ((wrap64 ((wrap64 (Af * (wrap64 (100 - a2)))) + (wrap64 (Ae * a2)))) + 99)) 100))]) (ok := fun _ => True) (okp := fun _ => True) ?hr_6 ?hp_6 (fun _ hk => hk) trivial (Below.refl _ _) (Nat.le_refl _) (by simp) ?_; (case hd_6 => rfl); (case hg_6 => rfl); (case hr_6 => first | (go_simp; done) | (go_simp; rfl)); (case hp_6 => exact (Reps.c2 (k53_mkM _ _ _ (⟨((rd_T53 Ad Aa).f0), (wrap64 (Int.tdiv (wrap64 ((wrap64 ((wrap64 (Af * (wrap64 (100 - a2)))) + (wrap64 (Ae * a2)))) + 99)) 100))⟩ : S53)) (Reps.none _ _)))
                     intro Aq w1 ho hb _ _; have R91 := Aside0.mk ho; have hge := hHeld.size; clear ho; refine hK.out _ _ (below_step hHeld hb) (fun hS1 => ?_); refine norm_ (a' := Act.put _ (some 91) Aq) rfl ?_; clear hK K hHeld hb; refine one_ (i := 0) (N := some 83) #[true, true, true, true, false, true, true, true, true, false, true, true, true, false, false] rfl rfl Z21 (by decide) (fun K hK => ?_); refine Kd.R_lit_step k53 _ 53 ?hg_7 (N := 83) ?hd_7 (xs := ([] : List (S53))) (inner := []) (ok := fun _ => True) (okp := fun _ => True) ?hr_7 ?hp_7 (fun _ hk => hk) trivial (Below.refl _ _) (Nat.le_refl _) (by simp) ?_; (case hd_7 => rfl); (case hg_7 => rfl); (case hr_7 => first | (go_simp; done) | (go_simp; rfl)); (case hp_7 => exact (Reps.none _ _)); intro An w2 ho hb _ _; have R91b := aM (Kd.R_elder' R91.out (Kd.R_base ho) hb); have R83 := aM (Kd.R_lower ho hS1.size); clear R91 ho; refine hK.out _ _ (below_step hS1 hb) (fun hS2 => ?_); refine norm_ (a' := Act.put _ (some 83) An) rfl ?_; clear hK K hb hS1; have HS_ := hS2; refine one_ (i := 4) (N := some 87) #[true, true, true, true, true, true, true, true, true, false, true, true, true, false, false] rfl rfl Z21 (by decide) (fun K hK => ?_); refine Kd.R_append_rows_step k53 (w0 := wr) wr.heap.size (by rfl) (.tmp 83) (.tmp 86) 24 53 (.agg #[(.string ⟨#[]⟩), (.int .i64 0)]) 24 rfl Tryz.underlying24 info53 rfl (by decide) (by omega) An ([] : List (S53)) (Ac.take Ab.toNat) _ _ _ (fun _ => True) (fun _ => False) rfl rfl R83.out (HCT.out _ HS_) (fun _ _ h => h) (fun _ h => h.elim) (fun _ _ => trivial) HS_ HS_.size ?aL_8 ?_; (case aL_8 => have := HG.out; simp only [List.length_nil]; omega); intro Ao w3 ho hb hg _; rw [List.nil_append] at ho; refine hK.out _ _ hb (fun hS3 => ?_); refine norm_ (a' := Act.put _ (some 87) Ao) rfl ?_; refine norm_ (put_comm3 _ (by decide) (by decide) _ _ _) ?_
                     exact hcont (An, Ao, Aq) _ ⟨hS3, ho, Kd.R_mono (Kd.R_lower (Kd.R_grown R91b.out hg (fun _ hk => hk.2)) hge) (fun _ _ => trivial)⟩
                   rintro ⟨An, Ao, Aq⟩ W1 ⟨HS_, Cu, Ce⟩; have R87 := Aside0.mk Cu; obtain ⟨Ef, Eg, e91⟩ := Kd.R_slice Ce
                   simp only at e91
                   subst e91; have R91 := (Kd.R_reads' Ce).2.2; clear Cu Ce hHeld; refine norm_ (a' := ?_) ?_ ?_
                   rotate_left
                   ·simp only [putAll, Act.put, List.setIfInBounds_toArray, List.set_cons_zero, List.set_cons_succ, i64_w, i32_w]
                    rfl
                   refine one_ (i := 9) (N := some 92) #[true, true, true, true, true, true, true, true, true, true, true, true, true, false, false] rfl rfl Z21 (by decide) (fun K hK => ?_); refine Kd.R_append_rows_step k53 (w0 := wr) wr.heap.size (by rfl) (.tmp 87) (.tmp 91) 24 53 (.agg #[(.string ⟨#[]⟩), (.int .i64 0)]) 24 rfl Tryz.underlying24 info53 rfl (by decide) (by omega) Ao (Ac.take Ab.toNat) [(⟨((rd_T53 Ad Aa).f0), (wrap64 (Int.tdiv (wrap64 ((wrap64 ((wrap64 (Af * (wrap64 (100 - a2)))) + (wrap64 (Ae * a2)))) + 99)) 100))⟩ : S53)] _ _ _ (fun _ => True) (fun _ => False) rfl rfl R87.out R91 (fun _ _ h => h) (fun _ h => h.elim) (fun _ _ => trivial) HS_ HS_.size ?aL_9 ?_; (case aL_9 => have := HTL.out; simp only [List.length_cons, List.length_nil]; omega); intro Dg W2 ho hb _ _; have R92 := Aside0.mk ho; clear ho R91 R87; refine hK.out _ _ hb (fun hS2 => ?_); clear hK K HS_ hb; have HS_ := hS2; refine noR 92 ?_; refine one_ (i := 13) (N := some 96) #[true, true, true, true, true, true, true, true, true, true, true, true, true, true, false] rfl rfl Z21 (by decide) (fun K hK => ?_); refine Kd.R_append_rows_step k53 (w0 := wr) wr.heap.size (by rfl) (.tmp 92) (.tmp 95) 24 53 (.agg #[(.string ⟨#[]⟩), (.int .i64 0)]) 24 rfl Tryz.underlying24 info53 rfl (by decide) (by omega) Dg ((Ac.take Ab.toNat) ++ [(⟨((rd_T53 Ad Aa).f0), (wrap64 (Int.tdiv (wrap64 ((wrap64 ((wrap64 (Af * (wrap64 (100 - a2)))) + (wrap64 (Ae * a2)))) + 99)) 100))⟩ : S53)]) (Ac.drop Ab.toNat) _ _ _ (fun _ => True) (fun _ => False) rfl rfl R92.out (HCF.out _ HS_) (fun _ _ h => h) (fun _ h => h.elim) (fun _ _ => trivial) HS_ HS_.size ?aL_10 ?_; (case aL_10 => have := HTL.out; have := HG.out; simp only [List.length_append, List.length_cons, List.length_nil]; omega); intro Eh W3 Bq hb _ _; rw [HF.out] at Bq; refine hK.out _ _ hb (fun hS3 => ?_); clear hK K HS_ hS2 R92; have hb := hS3; clear hS3; refine noR 96 ?_; refine puK 14 8 #[true, true, true, true, true, true, true, true, true, true, true, true, true, true, true] rfl rfl ?_; refine done_ Z21 ?_; have n0_ := aM (Kd.R_elder' Ag.out (Kd.R_base Bq) hb); have n1_ := aM (Kd.R_elder' Ah.out (Kd.R_base Bq) hb); have n2_ := aM (Kd.R_lower (Kd.R_new' (Kd.R_new' Bq (Kd.R_lt Ag.out)) (Kd.R_lt Ah.out)) (below_size HB.out)); have n3_ := aM (below_step HB.out hb); clear Ag Ah HB; have Ag := n0_; have Ah := n1_; have Cv := n2_; have HB := n3_; clear n0_ n1_ n2_ n3_ hb Bq HCT HCF HTL hcutT hcutF HF HG HCc
                   try go_wp2
                   go_roundg k4
                   case measure => have := HJ3.out; have := HK2.out; have := HJ29.out; have := HK4.out; omega
                   case rel => exact ⟨(Bu), (wrap64 (Aa + 1)), Z12, H', ⟨Z123⟩, ⟨by (with_reducible repeat (first | apply Kd.R_alloc | apply Kd.R_drewN | apply Kd.R_drew)); exact Kd.R_mono Cv.out (fun _ hk => hk.2)⟩, ⟨Z95⟩, ⟨Z0⟩⟩
                 ·rw [if_neg C5] at H
                  exact absurd H (by simp)
                ·rw [if_neg C4] at H
                 exact absurd H (by simp)
               ·rw [if_neg Cg] at H
                have c37b0 : decide (0 < Ab) = false := decide_eq_false Cg; clear Cg; replace H := Option.bind_eq_some_iff.mp H; obtain ⟨Cw, Cx, H⟩ := H; replace H : (spec_MixRecipes.l0 k4 l0 l1 a2 Cw Ad (wrap64 (Aa + 1))) = some (r1, r2) := H; have Ei := Aside0.mk Cx; clear Cx; have H' := Aside0.mk H; clear H; have F0 := Ei.out
                unfold insD.f at F0
                by_cases hg_ : 0 ≤ Ab ∧ Ab ≤ (Ac.length : Int) ∧ Ac.length ≤ 1000
                case neg => rw [if_neg hg_] at F0; cases F0
                rw [if_pos hg_] at F0; have HF := aM (Option.some.inj F0); have HG := Aside0.mk hg_; clear F0 hg_; have HCc := aM (Kd.R_reads' Ag.out).2.1; obtain ⟨i0, hi0, _, hsz0, _⟩ := info_parts info53; have hcutT := cut_to 24 53 .i64 Tryz.underlying24 hi0 Bb Ac.length Am Ab HG.out.1 Z129 HCc.out; have hcutF := cut_from 24 53 .i64 Tryz.underlying24 hi0 2 hsz0 Bb Ac.length Am Ab HG.out.1 Z129; obtain ⟨AF, hAF⟩ : ∃ AF, AF = (if Am = Ab.toNat then Bb else (Bb : Option Addr).map (·.add (Ab.toNat * 2))) := ⟨_, rfl⟩; rw [← hAF] at hcutF; have HCT : Aside0 (∀ W', Below wr.heap.size wr W' → Kd.C k53 W' Bb Ab.toNat (Ac.take Ab.toNat)) := ⟨fun W' h => by have h1 := Kd.C_take (Kd.C_below (Kd.R_reads' Ag.out).2.2 h) (m := Ab.toNat) Z129; rwa [show (Ac.take Ab.toNat).length = Ab.toNat from by rw [List.length_take]; have := HG.out; omega] at h1⟩; have HCF : Aside0 (∀ W', Below wr.heap.size wr W' → Kd.C k53 W' AF (Ac.length - Ab.toNat) (Ac.drop Ab.toNat)) := ⟨fun W' h => Z144⟩; have HTL : Aside0 ((Ac.take Ab.toNat).length ≤ 1000 ∧ (Ac.drop Ab.toNat).length ≤ 1000) := ⟨Z134⟩; clear hAF hi0 hsz0
                go_wp2_with fail
                refine start_ (n := 15) (S := fun W' => Below wr.heap.size wr W') (ds := []) #[false, false, false, false, false, false, false, false, false, false, false, false, false, false, false] Z21 rfl rfl (below_drew1 (Below.refl _ _)) (fun hHeld => ?_)
                generalize wr.drew = wD at hHeld ⊢
                refine puK 1 84 #[false, true, false, false, false, false, false, false, false, false, false, false, false, false, false] rfl rfl ?_; refine puK 2 85 #[false, true, true, false, false, false, false, false, false, false, false, false, false, false, false] rfl rfl ?_; refine puK 5 88 #[false, true, true, false, false, true, false, false, false, false, false, false, false, false, false] rfl rfl ?_; refine puK 6 89 #[false, true, true, false, false, true, true, false, false, false, false, false, false, false, false] rfl rfl ?_; refine puK 10 93 #[false, true, true, false, false, true, true, false, false, false, true, false, false, false, false] rfl rfl ?_; refine puK 11 94 #[false, true, true, false, false, true, true, false, false, false, true, true, false, false, false] rfl rfl ?_; refine puK 3 86 #[false, true, true, true, false, true, true, false, false, false, true, true, false, false, false] rfl rfl ?_; refine puK 12 95 #[false, true, true, true, false, true, true, false, false, false, true, true, true, false, false] rfl rfl ?_; refine puK 7 90 #[false, true, true, true, false, true, true, true, false, false, true, true, true, false, false] rfl rfl ?_; refine join_ (σ := Value × Value × Value) 3 #[true, true, true, true, true, true, true, true, true, false, true, true, true, false, false] (fun q => [(83, q.1), (87, q.2.1), (91, q.2.2)]) (fun q W' => Below wr.heap.size wr W' ∧ Kd.R k53 53 W' wr.heap.size (fun _ => True) q.2.1 (Ac.take Ab.toNat) ∧ Kd.R k53 53 W' wr.heap.size (fun _ => True) q.2.2 [(⟨((rd_T53 Ad Aa).f0), (wrap64 (Int.tdiv (wrap64 ((wrap64 ((wrap64 (Af * (wrap64 (100 - a2)))) + (wrap64 (Ae * a2)))) + 99)) 100))⟩ : S53)]) ?cont_v279 ?orders_v279
                case orders_v279 =>
                 intro hcont; refine two_ (i := 0) (j := 8) (Ni := some 83) (Nj := some 91) #[true, true, true, true, false, true, true, true, false, false, true, true, true, false, false] #[false, true, true, true, false, true, true, true, true, false, true, true, true, false, false] rfl rfl rfl rfl Z21 (by decide) (by decide) (fun K hK => ?_) (fun K hK => ?_)
                 ·have HS_ := hHeld
                  refine Kd.R_lit_step k53 (w0 := wr) wr.heap.size 53 ?hg_11 (N := 83) ?hd_11 (xs := ([] : List (S53))) (inner := []) (ok := fun _ => True) (okp := fun _ => True) ?hr_11 ?hp_11 (fun _ hk => hk) trivial HS_ HS_.size (by simp) ?_; (case hd_11 => rfl); (case hg_11 => rfl); (case hr_11 => first | (go_simp; done) | (go_simp; rfl)); (case hp_11 => exact (Reps.none _ _)); intro An w1 ho hb _ _; have R83 := Aside0.mk ho; clear ho; refine hK.out _ _ hb (fun hS1 => ?_); refine norm_ (a' := Act.put _ (some 83) An) rfl ?_; clear hK K hHeld HS_ hb; have HS_ := hS1; refine two_ (i := 4) (j := 8) (Ni := some 87) (Nj := some 91) #[true, true, true, true, true, true, true, true, false, false, true, true, true, false, false] #[true, true, true, true, false, true, true, true, true, false, true, true, true, false, false] rfl rfl rfl rfl Z21 (by decide) (by decide) (fun K hK => ?_) (fun K hK => ?_)
                  ·refine Kd.R_append_rows_step k53 (w0 := wr) wr.heap.size (by rfl) (.tmp 83) (.tmp 86) 24 53 (.agg #[(.string ⟨#[]⟩), (.int .i64 0)]) 24 rfl Tryz.underlying24 info53 rfl (by decide) (by omega) An ([] : List (S53)) (Ac.take Ab.toNat) _ _ _ (fun _ => True) (fun _ => False) rfl rfl R83.out (HCT.out _ HS_) (fun _ _ h => h) (fun _ h => h.elim) (fun _ _ => trivial) HS_ HS_.size ?aL_12 ?_; (case aL_12 => have := HG.out; simp only [List.length_nil]; omega)
                   intro Ao w2 ho hb _ _; rw [List.nil_append] at ho; have R87 := Aside0.mk ho; clear ho; refine hK.out _ _ hb (fun hS2 => ?_); refine norm_ (a' := Act.put _ (some 87) Ao) rfl ?_; clear hK K HS_ hb hS1; have HS_ := hS2; refine one_ (i := 8) (N := some 91) #[true, true, true, true, true, true, true, true, true, false, true, true, true, false, false] rfl rfl Z21 (by decide) (fun K hK => ?_); refine Kd.R_lit_step k53 _ 53 ?hg_13 (N := 91) ?hd_13 (xs := [(⟨((rd_T53 Ad Aa).f0), (wrap64 (Int.tdiv (wrap64 ((wrap64 ((wrap64 (Af * (wrap64 (100 - a2)))) + (wrap64 (Ae * a2)))) + 99)) 100))⟩ : S53)]) (inner := [.string ((rd_T53 Ad Aa).f0), .int .i64 (wrap64 (Int.tdiv (wrap64 ((wrap64 ((wrap64 (Af * (wrap64 (100 - a2)))) + (wrap64 (Ae * a2)))) + 99)) 100))]) (ok := fun _ => True) (okp := fun _ => True) ?hr_13 ?hp_13 (fun _ hk => hk) trivial (Below.refl _ _) (Nat.le_refl _) (by simp) ?_; (case hd_13 => rfl); (case hg_13 => rfl); (case hr_13 => first | (go_simp; done) | (go_simp; rfl)); (case hp_13 => exact (Reps.c2 (k53_mkM _ _ _ (⟨((rd_T53 Ad Aa).f0), (wrap64 (Int.tdiv (wrap64 ((wrap64 ((wrap64 (Af * (wrap64 (100 - a2)))) + (wrap64 (Ae * a2)))) + 99)) 100))⟩ : S53)) (Reps.none _ _))); intro Aq w3 ho hb _ _; refine hK.out _ _ (below_step HS_ hb) (fun hS3 => ?_); refine norm_ (a' := Act.put _ (some 91) Aq) rfl ?_
                   exact hcont (An, Ao, Aq) _ ⟨hS3, Kd.R_below R87.out hb, Kd.R_lower ho HS_.size⟩
                  ·refine Kd.R_lit_step k53 _ 53 ?hg_14 (N := 91) ?hd_14 (xs := [(⟨((rd_T53 Ad Aa).f0), (wrap64 (Int.tdiv (wrap64 ((wrap64 ((wrap64 (Af * (wrap64 (100 - a2)))) + (wrap64 (Ae * a2)))) + 99)) 100))⟩ : S53)]) (inner := [.string ((rd_T53 Ad Aa).f0), .int .i64 (wrap64 (Int.tdiv (wrap64 ((wrap64 ((wrap64 (Af * (wrap64 (100 - a2)))) + (wrap64 (Ae * a2)))) + 99)) 100))]) (ok := fun _ => True) (okp := fun _ => True) ?hr_14 ?hp_14 (fun _ hk => hk) trivial (Below.refl _ _) (Nat.le_refl _) (by simp) ?_; (case hd_14 => rfl); (case hg_14 => rfl); (case hr_14 => first | (go_simp; done) | (go_simp; rfl)); (case hp_14 => exact (Reps.c2 (k53_mkM _ _ _ (⟨((rd_T53 Ad Aa).f0), (wrap64 (Int.tdiv (wrap64 ((wrap64 ((wrap64 (Af * (wrap64 (100 - a2)))) + (wrap64 (Ae * a2)))) + 99)) 100))⟩ : S53)) (Reps.none _ _)))
                   intro Aq w2 ho hb _ _; have R91 := aM (Kd.R_new' ho (Kd.R_lt R83.out)); have R83b := aM (Kd.R_below R83.out hb); have hge := HS_.size; clear ho R83; have R83 := R83b; refine hK.out _ _ (below_step HS_ hb) (fun hS2 => ?_); refine norm_ (a' := Act.put _ (some 91) Aq) rfl ?_; clear hK K HS_ hb hS1 R83b; have HS_ := hS2; refine one_ (i := 4) (N := some 87) #[true, true, true, true, true, true, true, true, true, false, true, true, true, false, false] rfl rfl Z21 (by decide) (fun K hK => ?_); refine Kd.R_append_rows_step k53 (w0 := wr) wr.heap.size (by rfl) (.tmp 83) (.tmp 86) 24 53 (.agg #[(.string ⟨#[]⟩), (.int .i64 0)]) 24 rfl Tryz.underlying24 info53 rfl (by decide) (by omega) An ([] : List (S53)) (Ac.take Ab.toNat) _ _ _ (fun _ => True) (fun _ => False) rfl rfl R83.out (HCT.out _ HS_) (fun _ _ h => h) (fun _ h => h.elim) (fun _ _ => trivial) HS_ HS_.size ?aL_15 ?_; (case aL_15 => have := HG.out; simp only [List.length_nil]; omega); intro Ao w3 ho hb hg _; rw [List.nil_append] at ho; refine hK.out _ _ hb (fun hS3 => ?_); refine norm_ (a' := Act.put _ (some 87) Ao) rfl ?_; refine norm_ (put_comm _ (by decide) _ _) ?_
                   exact hcont (An, Ao, Aq) _ ⟨hS3, ho, Kd.R_mono (Kd.R_lower (Kd.R_grown R91.out hg (fun _ hk => hk.2)) hge) (fun _ _ => trivial)⟩
                 ·refine Kd.R_lit_step k53 _ 53 ?hg_16 (N := 91) ?hd_16 (xs := [(⟨((rd_T53 Ad Aa).f0), (wrap64 (Int.tdiv (wrap64 ((wrap64 ((wrap64 (Af * (wrap64 (100 - a2)))) + (wrap64 (Ae * a2)))) + 99)) 100))⟩ : S53)]) (inner := [.string ((rd_T53 Ad Aa).f0), .int .i64 (wrap64 (Int.tdiv (wrap64 ((wrap64 ((wrap64 (Af * (wrap64 (100 - a2)))) + (wrap64 (Ae * a2)))) + 99)) 100))]) (ok := fun _ => True) (okp := fun _ => True) ?hr_16 ?hp_16 (fun _ hk => hk) trivial (Below.refl _ _) (Nat.le_refl _) (by simp) ?_; (case hd_16 => rfl); (case hg_16 => rfl); (case hr_16 => first | (go_simp; done) | (go_simp; rfl)); (case hp_16 => exact (Reps.c2 (k53_mkM _ _ _ (⟨((rd_T53 Ad Aa).f0), (wrap64 (Int.tdiv (wrap64 ((wrap64 ((wrap64 (Af * (wrap64 (100 - a2)))) + (wrap64 (Ae * a2)))) + 99)) 100))⟩ : S53)) (Reps.none _ _)))
                  intro Aq w1 ho hb _ _; have R91 := Aside0.mk ho; have hge := hHeld.size; clear ho; refine hK.out _ _ (below_step hHeld hb) (fun hS1 => ?_); refine norm_ (a' := Act.put _ (some 91) Aq) rfl ?_; clear hK K hHeld hb; refine one_ (i := 0) (N := some 83) #[true, true, true, true, false, true, true, true, true, false, true, true, true, false, false] rfl rfl Z21 (by decide) (fun K hK => ?_); refine Kd.R_lit_step k53 _ 53 ?hg_17 (N := 83) ?hd_17 (xs := ([] : List (S53))) (inner := []) (ok := fun _ => True) (okp := fun _ => True) ?hr_17 ?hp_17 (fun _ hk => hk) trivial (Below.refl _ _) (Nat.le_refl _) (by simp) ?_; (case hd_17 => rfl); (case hg_17 => rfl); (case hr_17 => first | (go_simp; done) | (go_simp; rfl)); (case hp_17 => exact (Reps.none _ _)); intro An w2 ho hb _ _; have R91b := aM (Kd.R_elder' R91.out (Kd.R_base ho) hb); have R83 := aM (Kd.R_lower ho hS1.size); clear R91 ho; refine hK.out _ _ (below_step hS1 hb) (fun hS2 => ?_); refine norm_ (a' := Act.put _ (some 83) An) rfl ?_; clear hK K hb hS1; have HS_ := hS2; refine one_ (i := 4) (N := some 87) #[true, true, true, true, true, true, true, true, true, false, true, true, true, false, false] rfl rfl Z21 (by decide) (fun K hK => ?_); refine Kd.R_append_rows_step k53 (w0 := wr) wr.heap.size (by rfl) (.tmp 83) (.tmp 86) 24 53 (.agg #[(.string ⟨#[]⟩), (.int .i64 0)]) 24 rfl Tryz.underlying24 info53 rfl (by decide) (by omega) An ([] : List (S53)) (Ac.take Ab.toNat) _ _ _ (fun _ => True) (fun _ => False) rfl rfl R83.out (HCT.out _ HS_) (fun _ _ h => h) (fun _ h => h.elim) (fun _ _ => trivial) HS_ HS_.size ?aL_18 ?_; (case aL_18 => have := HG.out; simp only [List.length_nil]; omega); intro Ao w3 ho hb hg _; rw [List.nil_append] at ho; refine hK.out _ _ hb (fun hS3 => ?_); refine norm_ (a' := Act.put _ (some 87) Ao) rfl ?_; refine norm_ (put_comm3 _ (by decide) (by decide) _ _ _) ?_
                  exact hcont (An, Ao, Aq) _ ⟨hS3, ho, Kd.R_mono (Kd.R_lower (Kd.R_grown R91b.out hg (fun _ hk => hk.2)) hge) (fun _ _ => trivial)⟩
                rintro ⟨An, Ao, Aq⟩ W1 ⟨HS_, Cu, Ce⟩; have R87 := Aside0.mk Cu; obtain ⟨Ef, Eg, e91⟩ := Kd.R_slice Ce
                simp only at e91
                subst e91; have R91 := (Kd.R_reads' Ce).2.2; clear Cu Ce hHeld; refine norm_ (a' := ?_) ?_ ?_
                rotate_left
                ·simp only [putAll, Act.put, List.setIfInBounds_toArray, List.set_cons_zero, List.set_cons_succ, i64_w, i32_w]
                 rfl
                refine one_ (i := 9) (N := some 92) #[true, true, true, true, true, true, true, true, true, true, true, true, true, false, false] rfl rfl Z21 (by decide) (fun K hK => ?_); refine Kd.R_append_rows_step k53 (w0 := wr) wr.heap.size (by rfl) (.tmp 87) (.tmp 91) 24 53 (.agg #[(.string ⟨#[]⟩), (.int .i64 0)]) 24 rfl Tryz.underlying24 info53 rfl (by decide) (by omega) Ao (Ac.take Ab.toNat) [(⟨((rd_T53 Ad Aa).f0), (wrap64 (Int.tdiv (wrap64 ((wrap64 ((wrap64 (Af * (wrap64 (100 - a2)))) + (wrap64 (Ae * a2)))) + 99)) 100))⟩ : S53)] _ _ _ (fun _ => True) (fun _ => False) rfl rfl R87.out R91 (fun _ _ h => h) (fun _ h => h.elim) (fun _ _ => trivial) HS_ HS_.size ?aL_19 ?_; (case aL_19 => have := HTL.out; simp only [List.length_cons, List.length_nil]; omega); intro Dg W2 ho hb _ _; have R92 := Aside0.mk ho; clear ho R91 R87; refine hK.out _ _ hb (fun hS2 => ?_); clear hK K HS_ hb; have HS_ := hS2; refine noR 92 ?_; refine one_ (i := 13) (N := some 96) #[true, true, true, true, true, true, true, true, true, true, true, true, true, true, false] rfl rfl Z21 (by decide) (fun K hK => ?_); refine Kd.R_append_rows_step k53 (w0 := wr) wr.heap.size (by rfl) (.tmp 92) (.tmp 95) 24 53 (.agg #[(.string ⟨#[]⟩), (.int .i64 0)]) 24 rfl Tryz.underlying24 info53 rfl (by decide) (by omega) Dg ((Ac.take Ab.toNat) ++ [(⟨((rd_T53 Ad Aa).f0), (wrap64 (Int.tdiv (wrap64 ((wrap64 ((wrap64 (Af * (wrap64 (100 - a2)))) + (wrap64 (Ae * a2)))) + 99)) 100))⟩ : S53)]) (Ac.drop Ab.toNat) _ _ _ (fun _ => True) (fun _ => False) rfl rfl R92.out (HCF.out _ HS_) (fun _ _ h => h) (fun _ h => h.elim) (fun _ _ => trivial) HS_ HS_.size ?aL_20 ?_; (case aL_20 => have := HTL.out; have := HG.out; simp only [List.length_append, List.length_cons, List.length_nil]; omega); intro Ej W3 Bq hb _ _; rw [HF.out] at Bq; refine hK.out _ _ hb (fun hS3 => ?_); clear hK K HS_ hS2 R92; have hb := hS3; clear hS3; refine noR 96 ?_; refine puK 14 8 #[true, true, true, true, true, true, true, true, true, true, true, true, true, true, true] rfl rfl ?_; refine done_ Z21 ?_; have n0_ := aM (Kd.R_elder' Ag.out (Kd.R_base Bq) hb); have n1_ := aM (Kd.R_elder' Ah.out (Kd.R_base Bq) hb); have n2_ := aM (Kd.R_lower (Kd.R_new' (Kd.R_new' Bq (Kd.R_lt Ag.out)) (Kd.R_lt Ah.out)) (below_size HB.out)); have n3_ := aM (below_step HB.out hb); clear Ag Ah HB; have Ag := n0_; have Ah := n1_; have Cy := n2_; have HB := n3_; clear n0_ n1_ n2_ n3_ hb Bq HCT HCF HTL hcutT hcutF HF HG HCc
                try go_wp2
                go_roundg k4
                case measure => have := HJ3.out; have := HK2.out; have := HJ29.out; have := HK4.out; omega
                case rel => exact ⟨(Cw), (wrap64 (Aa + 1)), Z12, H', ⟨Z123⟩, ⟨by (with_reducible repeat (first | apply Kd.R_alloc | apply Kd.R_drewN | apply Kd.R_drew)); exact Kd.R_mono Cy.out (fun _ hk => hk.2)⟩, ⟨Z95⟩, ⟨Z0⟩⟩
         ·rw [if_neg Cf] at H
          exact absurd H (by simp)
        ·rw [if_neg B3] at H
         have c26b0 : decide (Aa < (Ad.length : Int)) = false := decide_eq_false B3; clear B3; replace H := Option.bind_eq_some_iff.mp H; obtain ⟨Cz, C0, H⟩ := H; replace H : (if Cz = true then (some (Ac, true)) else (some ((([] : List (S53))), false))) = some (r1, r2) := H; have D0 := Aside0.mk C0; clear C0
         by_cases C6 : Cz = true
         ·subst C6
          have H1 : (some (Ac, true)) = some (r1, r2) := by rw [if_pos rfl] at H; exact H
          clear H; have H := H1; clear H1
          simp only [Option.some.injEq, Prod.mk.injEq] at H
          obtain ⟨rfl, rfl⟩ := H; obtain ⟨Ek, El, Dh⟩ := Kd.R_slice Ah.out; subst Dh; obtain ⟨Di, Dj, Dk⟩ := Kd.R_slice Ag.out; subst Dk
          go_wp2_with (first | ((with_reducible refine gate_callee (f := 27) rfl ?_); refine glE (some 98) Tryz.func27 #[.slice Di Ac.length Dj] ?_; (with_reducible refine (spec_l7Good.calls k2 _ _ Ac true _ ?side1 ?side2 D0.out).mono ?_); (case side1 => exact Z84); (case side2 => exact (Kd.R_reads' Ag.out).2.1); rintro e E1 ⟨rfl, hb⟩; refine ⟨_, rfl, ?_⟩; replace Ag := roB Ag hb; replace Ah := roB Ah hb; replace HB := hbS Z0 hb; (try clear hb)))
          go_ret2
          exact ⟨_, Z11, by (with_reducible repeat (first | apply Kd.R_alloc | apply Kd.R_drewN | apply Kd.R_drew)); exact Kd.R_mono Ag.out (fun _ hk => trivial), Z0⟩
         ·replace C6 := Bool.eq_false_iff.mpr C6
          subst C6
          have H1 : (some ((([] : List (S53))), false)) = some (r1, r2) := by rw [if_neg (show ¬ (false = true) by decide)] at H; exact H
          clear H; have H := H1; clear H1; obtain ⟨Dl, Az⟩ : ∃ y_ : List (S53), y_ = (([] : List (S53))) := ⟨_, rfl⟩
          replace H : (some (Dl, false)) = some (r1, r2) := by first | (rw [Az]; with_reducible exact H) | (have H2_ := (Option.bind_some _ _).symm.trans H; rw [Az]; with_reducible exact H2_) | (have H2_ := (Option.bind_some _ _).symm.trans H; with_reducible exact H2_) | with_reducible exact H | (rw [Az]; exact H) | exact H
          have B6 := Aside0.mk Az; clear Az
          simp only [Option.some.injEq, Prod.mk.injEq] at H
          obtain ⟨rfl, rfl⟩ := H; obtain ⟨Em, En, Dm⟩ := Kd.R_slice Ah.out; subst Dm; obtain ⟨Dn, Dp, Dq⟩ := Kd.R_slice Ag.out; subst Dq
          go_wp2_with (first | ((with_reducible refine gate_callee (f := 27) rfl ?_); refine glE (some 98) Tryz.func27 #[.slice Dn Ac.length Dp] ?_; (with_reducible refine (spec_l7Good.calls k2 _ _ Ac false _ ?side1 ?side2 D0.out).mono ?_); (case side1 => exact Z84); (case side2 => exact (Kd.R_reads' Ag.out).2.1); rintro e E2 ⟨rfl, hb⟩; refine ⟨_, rfl, ?_⟩; replace Ag := roB Ag hb; replace Ah := roB Ah hb; replace HB := hbS Z0 hb; (try clear hb)) | ((with_reducible refine gate_dst (N := 100) rfl ?_); refine Kd.R_lit k53 _ 53 ?hg (N := 100) ?hd (xs := ([] : List (S53))) (inner := []) (ok := fun _ => True) (okp := fun _ => True) ?hr ?hp (fun _ hk => hk) trivial (Below.refl _ _) (Nat.le_refl _) (by simp) ?_; (case hd => rfl); (case hg => rfl); (case hr => first | (go_simp; done) | (go_simp; rfl)); (case hp => exact (Reps.none _ _)); intro Eo E3 Bf hb hg_ hnew_; clear hg_ hnew_; (first | rw [← B6.out] at Bf | (simp only [Int.reduceToNat] at Bf; rw [← B6.out] at Bf)); have C1 := aM (Kd.R_lower (Kd.R_new' (Kd.R_new' Bf (Kd.R_lt Z74)) (Kd.R_lt Z45)) (below_size Z0)); replace Ag := aM (Kd.R_elder' Z74 (Kd.R_base Bf) hb); replace Ah := aM (Kd.R_elder' Z45 (Kd.R_base Bf) hb); replace HB := hbS Z0 hb; clear hb Bf))
          go_ret2
          exact ⟨_, Z11, by (with_reducible repeat (first | apply Kd.R_alloc | apply Kd.R_drewN | apply Kd.R_drew)); exact Kd.R_mono C1.out (fun _ hk => trivial), Z0⟩
     ·rw [if_neg Cc] at H
      exact absurd H (by simp)
    ·rw [if_neg Cb] at H
     exact absurd H (by simp)
def laws_rParts.l0 : Nat → List (S53) → List (S53) → Int → Option (Bool)
 | 0, _, _, _ => none
 | k + 1, x0, x1, x5 => if x5 < (x0.length : Int) then (if 0 ≤ x5 then (if x5 < (x1.length : Int) then (if (!((((rd_T53 x0 x5).f0).toList) == (((rd_T53 x1 x5).f0).toList)) || (!(((rd_T53 x0 x5).f1) == ((rd_T53 x1 x5).f1)))) = true then (some false) else (laws_rParts.l0 k x0 x1 (wrap64 (x5 + 1)))) else (none)) else (none)) else (some true)
def laws_rParts.f (k : Nat) (l0 : List (S53)) (l1 : List (S53)) : Option (Bool) := if (l0.length : Int) = (l1.length : Int) then (laws_rParts.l0 k l0 l1 0) else (some false)
theorem laws_rParts.calls (k : Nat) (A0 : Option Addr) (c0 : Nat) (l0 : List (S53)) (A1 : Option Addr) (c1 : Nat) (l1 : List (S53)) (r : Bool) (w : World) (Aj : Kd.C k53 w A0 l0.length l0) (Ak : l0.length ≤ c0) (Al : Kd.C k53 w A1 l1.length l1) (Am : l1.length ≤ c1) (h : laws_rParts.f k l0 l1 = some r) :
  Calls Tryz.prog 8 #[.slice A0 l0.length c0, .slice A1 l1.length c1] w fun e w' => e = .returned (.bool r) ∧ Drawn0 w w' := by
 have hu53 := Tryz.underlying53; have An := Aside0.mk Aj; have Ap := Aside0.mk Ak; clear Aj Ak; have Ao := Aside0.mk Al; have Aq := Aside0.mk Am; clear Al Am; have H : (if (l0.length : Int) = (l1.length : Int) then (laws_rParts.l0 k l0 l1 0) else (some false)) = some r := h; clear h
 by_cases c3 : (l0.length : Int) = (l1.length : Int)
 ·rw [if_pos c3] at H
  have c3b0 : ((l0.length : Int) == (l1.length : Int)) = true := beq_iff_eq.mpr c3; have c3b1 : ((l0.length : Int) != (l1.length : Int)) = false := bne_eq_false_iff_eq.mpr c3
  have c3b2 : (l0.length == l1.length) = true := by first | simpa using c3 | (simp at c3 ⊢; omega)
  clear c3; have H' := Aside0.mk H; clear H
  go_enter Tryz.func8, Tryz.ntmps8
  go_wp2
  repeat (go_quiet (fail); try go_wp2)
  go_loopg [5] k (fun kq v5 w' => ∃ (Aa : Int), v5 = .int .i64 Aa ∧ Aside0 (laws_rParts.l0 kq l0 l1 Aa = some r) ∧ Aside0 (kq ≤ k) ∧ Drawn0 w w')
  case atStart => exact ⟨(0), Z12, H', ⟨Nat.le_refl _⟩, Z37⟩
  case round =>
   clear H'; (try clear c1); (try clear p2); (try clear c3); (try clear c3b0); (try clear c3b1); (try clear c3b2); obtain ⟨Aa, rfl, HA, HK1, ⟨m1, rfl⟩⟩ := hrel; cases gk with
   | zero => exact absurd HA.out (by simp [laws_rParts.l0])
   | succ k1 =>
    have H := HA.out; clear HA
    simp only [laws_rParts.l0] at H
    by_cases c4 : Aa < (l0.length : Int)
    ·rw [if_pos c4] at H
     have c4b0 : decide (Aa < (l0.length : Int)) = true := decide_eq_true c4; clear c4
     by_cases c5 : 0 ≤ Aa
     ·rw [if_pos c5] at H
      have c5b0 : decide (0 ≤ Aa) = true := decide_eq_true c5; clear c5
      by_cases c6 : Aa < (l1.length : Int)
      ·rw [if_pos c6] at H
       have c6b0 : decide (Aa < (l1.length : Int)) = true := decide_eq_true c6; clear c6
       by_cases c7 : (!((((rd_T53 l0 Aa).f0).toList) == (((rd_T53 l1 Aa).f0).toList)) || (!(((rd_T53 l0 Aa).f1) == ((rd_T53 l1 Aa).f1)))) = true
       ·rw [if_pos c7] at H
        have c7b0 : (!((((rd_T53 l0 Aa).f0).toList) == (((rd_T53 l1 Aa).f0).toList)) || (!(((rd_T53 l0 Aa).f1) == ((rd_T53 l1 Aa).f1)))) = true := c7; clear c7; obtain rfl := Option.some.inj H; have Ab : 0 ≤ (Aa : Int) := of_decide_eq_true Z6; have Ac : Aa < (l0.length : Int) := of_decide_eq_true Z6; obtain ⟨ad281, e281, Af, Ag⟩ := at_T53 An.out Aa Ab Ac; cases e281; replace Ab := eq_true Ab; replace Ac := eq_true Ac; have Ad : 0 ≤ (Aa : Int) := of_decide_eq_true Z6; have Ae : Aa < (l1.length : Int) := of_decide_eq_true Z6; obtain ⟨ad282, e282, Ah, Ai⟩ := at_T53 Ao.out Aa Ad Ae; cases e282; replace Ad := eq_true Ad; replace Ae := eq_true Ae
        go_wp2
        repeat (go_quiet (fail); try go_wp2)
        go_ret
        exact ⟨Z12, Z37⟩
       ·rw [if_neg c7] at H
        have c7b0 : (!((((rd_T53 l0 Aa).f0).toList) == (((rd_T53 l1 Aa).f0).toList)) || (!(((rd_T53 l0 Aa).f1) == ((rd_T53 l1 Aa).f1)))) = false := by simpa using c7
        clear c7; have H' := Aside0.mk H; clear H; have Ab : 0 ≤ (Aa : Int) := of_decide_eq_true Z6; have Ac : Aa < (l0.length : Int) := of_decide_eq_true Z6; obtain ⟨ad281, e281, Af, Ag⟩ := at_T53 An.out Aa Ab Ac; cases e281; replace Ab := eq_true Ab; replace Ac := eq_true Ac; have Ad : 0 ≤ (Aa : Int) := of_decide_eq_true Z6; have Ae : Aa < (l1.length : Int) := of_decide_eq_true Z6; obtain ⟨ad282, e282, Ah, Ai⟩ := at_T53 Ao.out Aa Ad Ae; cases e282; replace Ad := eq_true Ad; replace Ae := eq_true Ae
        go_wp2
        repeat (go_quiet (fail); try go_wp2)
        go_roundg k1
        case measure => have := HK1.out; omega
        case rel => exact ⟨(wrap64 (Aa + 1)), Z12, H', ⟨Z114⟩, Z37⟩
      ·rw [if_neg c6] at H
       exact absurd H (by simp)
     ·rw [if_neg c5] at H
      exact absurd H (by simp)
    ·rw [if_neg c4] at H
     have c4b0 : decide (Aa < (l0.length : Int)) = false := decide_eq_false c4; clear c4; obtain rfl := Option.some.inj H
     go_wp2
     repeat (go_quiet (fail); try go_wp2)
     go_ret
     exact ⟨Z12, Z37⟩
 ·rw [if_neg c3] at H
  have c3b0 : ((l0.length : Int) == (l1.length : Int)) = false := beq_eq_false_iff_ne.mpr c3; have c3b1 : ((l0.length : Int) != (l1.length : Int)) = true := bne_iff_ne.mpr c3
  have c3b2 : (l0.length == l1.length) = false := by first | simpa using c3 | (simp at c3 ⊢; omega)
  obtain rfl := Option.some.inj H
  go_enter Tryz.func8, Tryz.ntmps8
  go_wp2
  repeat (go_quiet (fail); try go_wp2)
  go_ret
  exact ⟨Z12, Z37⟩
end Go.Proofs.YtfeighajmkcjfaaGreatDoor.H
