-- by wip/pack.py of this repo
import Derived.Test.YthalifhbjioaeaaDoorZ10Hx0
import Derived.Test.YthalifhbjioaeaaDoorZ10Hx3
import Derived.Test.YthalifhbjioaeaaDoorZ10Hx8
import Derived.Test.YthalifhbjioaeaaDoorZ10Hx9
import Derived.Test.YthalifhbjioaeaaDoorZ10Hx13
import Derived.Test.YthalifhbjioaeaaDoorZ10WApart
import Derived.Test.YthalifhbjioaeaaDoorZ10WLast
import Derived.Test.YthalifhbjioaeaaDoorZ10WMore
import Derived.Test.YthalifhbjioaeaaDoorZ10WN
import Derived.Test.YthalifhbjioaeaaDoorZ10WWords
import Derived.Test.YthalifhbjioaeaaDoorZ10Short
namespace Go.Proofs.YthalifhbjioaeaaDoor.H
open Go.RowKit Go.Proofs.YthalifhbjioaeaaDoorW.PrintWords Go.Proofs.YthalifhbjioaeaaDoorW.PrintLast Go.Proofs.YthalifhbjioaeaaDoorW.PrintMore
attribute [local go_sem] max2_int min2_int max_two min_two max_three min_three max_four min_four
set_option maxHeartbeats 8000000
set_option maxRecDepth 100000
set_option linter.unusedVariables false
set_option linter.unusedSimpArgs false
mutual
def spec_WithSkills.j0 : Nat → List (S26) → Int → List Int → Bool → Option (List Int × Bool)
 | 0, _, _, _, _ => none
 | k + 1, x0, x1, x6, x16 => if x16 = true then (some (x6, false)) else (spec_WithSkills.l0 k x0 x1 x6 0)
def spec_WithSkills.l0 : Nat → List (S26) → Int → List Int → Int → Option (List Int × Bool)
 | 0, _, _, _, _ => none
 | k + 1, x0, x1, x6, x7 => if x7 < (x0.length : Int) then (if 0 ≤ x7 then (if (Go.bits .and .i64 ((rd_T26 x0 x7).f2) x1) = x1 then (if x6.length < 17592186044416 then (spec_WithSkills.l0 k x0 x1 (x6 ++ [(rd_T26 x0 x7).f0]) (wrap64 (x7 + 1))) else (none)) else (spec_WithSkills.l0 k x0 x1 x6 (wrap64 (x7 + 1)))) else (none)) else (some (x6, true))
end
def spec_WithSkills.f (k : Nat) (l0 : List (S26)) (a1 : Int) : Option (List Int × Bool) := (some (([] : List Int) : List Int)).bind fun y323 => ((spec_l11Good.f k l0).bind fun t326 => (if t326 = true then ((spec_l11Skills.f a1).bind fun t327 => (spec_WithSkills.j0 k l0 a1 y323 (!t327))) else (spec_WithSkills.j0 k l0 a1 y323 true)))
theorem spec_WithSkills.calls (k : Nat) (A0 : Option Addr) (c0 : Nat) (l0 : List (S26)) (a1 : Int) (r1 : List Int) (r2 : Bool) (w : World) (Bp : Kd.C k26 w A0 l0.length l0) (Bq : l0.length ≤ c0) (h : spec_WithSkills.f k l0 a1 = some (r1, r2)) :
  Calls Tryd.prog 34 #[.slice A0 l0.length c0, .int .i64 a1] w fun e w' => ∃ v0_ : Value, e = .returned (.tuple #[v0_, .bool r2]) ∧ Kd.R (Kd.int .i64) 3 w' w.heap.size (fun _ => True) v0_ r1 ∧ Below w.heap.size w w' := by
 have Bd := Aside0.mk Bp; have Br := Aside0.mk Bq; clear Bp Bq; have HB := aM (Below.refl w.heap.size w); have H : ((some (([] : List Int) : List Int)).bind fun Ag => ((spec_l11Good.f k l0).bind fun Ax => (if Ax = true then ((spec_l11Skills.f a1).bind fun Ah => (spec_WithSkills.j0 k l0 a1 Ag (!Ah))) else (spec_WithSkills.j0 k l0 a1 Ag true)))) = some (r1, r2) := h; clear h; obtain ⟨Ag, Ao⟩ : ∃ y_ : List Int, y_ = (([] : List Int)) := ⟨_, rfl⟩
 replace H : ((spec_l11Good.f k l0).bind fun Ax => (if Ax = true then ((spec_l11Skills.f a1).bind fun Ah => (spec_WithSkills.j0 k l0 a1 Ag (!Ah))) else (spec_WithSkills.j0 k l0 a1 Ag true))) = some (r1, r2) := by first | (rw [Ao]; with_reducible exact H) | (have H2_ := (Option.bind_some _ _).symm.trans H; rw [Ao]; with_reducible exact H2_) | (have H2_ := (Option.bind_some _ _).symm.trans H; with_reducible exact H2_) | with_reducible exact H | (rw [Ao]; exact H) | exact H
 have Ay := Aside0.mk Ao; clear Ao; have Bm := Aside0.mk H; clear H
 go_enter Tryd.func34, Tryd.ntmps34
 go_upto_region 2 with (first | ((with_reducible refine gate_dst (N := 8) rfl ?_); refine Kd.R_lit (Kd.int .i64) _ 3 ?hg (N := 8) ?hd (xs := ([] : List Int)) (inner := []) (ok := fun _ => True) (okp := fun _ => True) ?hr ?hp (fun _ hk => hk) trivial (Below.refl _ _) (Nat.le_refl _) (by simp) ?_; (case hd => rfl); (case hg => rfl); (case hr => first | (go_simp; done) | (go_simp; rfl)); (case hp => exact (Reps.none _ _)); intro Bn w4 Bf hb hg_ hnew_; clear hg_ hnew_; (first | rw [← Ay.out] at Bf | (simp only [Int.reduceToNat] at Bf; rw [← Ay.out] at Bf)); have Ai := aM (Kd.R_lower Bf (below_size Z0)); replace HB := hbS Z0 hb; clear hb Bf))
 (try simp only [Act.put, List.setIfInBounds_toArray, List.set_cons_zero, List.set_cons_succ])
 go_cut [16] (fun Bu wc => ∃ (kq : Nat) (Aw : Bool), Bu = .bool Aw ∧ Aside0 (spec_WithSkills.j0 kq l0 a1 Ag Aw = some (r1, r2)) ∧ Aside0 (kq ≤ k) ∧ Aside0 (Kd.R (Kd.int .i64) 3 wc w.heap.size (fun _ => True) Bn Ag) ∧ Aside0 (Below w.heap.size w wc))
 case first =>
  have H := Bm.out; clear Bm; replace H := Option.bind_eq_some_iff.mp H; obtain ⟨Ax, Bs, H⟩ := H; replace H : (if Ax = true then ((spec_l11Skills.f a1).bind fun Ah => (spec_WithSkills.j0 k l0 a1 Ag (!Ah))) else (spec_WithSkills.j0 k l0 a1 Ag true)) = some (r1, r2) := H; have A6 := Aside0.mk Bs; clear Bs
  by_cases c7 : Ax = true
  ·subst c7
   have H1 : ((spec_l11Skills.f a1).bind fun Ah => (spec_WithSkills.j0 k l0 a1 Ag (!Ah))) = some (r1, r2) := by rw [if_pos rfl] at H; exact H
   clear H; have H := H1; clear H1; replace H := Option.bind_eq_some_iff.mp H; obtain ⟨Ah, Bt, H⟩ := H; replace H : (spec_WithSkills.j0 k l0 a1 Ag (!Ah)) = some (r1, r2) := H; have A8 := Aside0.mk Bt; clear Bt; have H' := Aside0.mk H; clear H
   go_wp2_with (first | ((with_reducible refine gate_callee (f := 61) rfl ?_); refine glE (some 10) Tryd.func61 #[.slice A0 l0.length c0] ?_; (with_reducible refine (spec_l11Good.calls k _ _ l0 true _ ?side1 ?side2 A6.out).mono ?_); (case side1 => exact Z77); (case side2 => exact Br.out); rintro e w9 ⟨rfl, hb⟩; refine ⟨_, rfl, ?_⟩; replace Ai := roB Ai hb; replace HB := hbS Z0 hb; (try clear hb)) | (go_at_call 75; (with_reducible refine (spec_l11Skills.calls a1 Ah _ A8.out).mono ?_); rintro e w' ⟨rfl, ⟨nd, rfl⟩⟩))
   go_meet
   case rel => exact ⟨_, (!Ah), Z15, H', ⟨Z69⟩, ⟨Z70⟩, ⟨Z0⟩⟩
  ·replace c7 := Bool.eq_false_iff.mpr c7
   subst c7
   have H1 : (spec_WithSkills.j0 k l0 a1 Ag true) = some (r1, r2) := by rw [if_neg (show ¬ (false = true) by decide)] at H; exact H
   clear H; have H := H1; clear H1; have H' := Aside0.mk H; clear H
   go_wp2_with (first | ((with_reducible refine gate_callee (f := 61) rfl ?_); refine glE (some 10) Tryd.func61 #[.slice A0 l0.length c0] ?_; (with_reducible refine (spec_l11Good.calls k _ _ l0 false _ ?side1 ?side2 A6.out).mono ?_); (case side1 => exact Z77); (case side2 => exact Br.out); rintro e Bw ⟨rfl, hb⟩; refine ⟨_, rfl, ?_⟩; replace Ai := roB Ai hb; replace HB := hbS Z0 hb; (try clear hb)))
   go_meet
   case rel => exact ⟨_, (true), Z15, H', ⟨Z69⟩, ⟨Z70⟩, ⟨Z0⟩⟩
 case rest =>
  clear Bm; (try clear p2); (try clear c3); (try clear c6); (try clear c7); obtain ⟨kq, Aw, rfl, HA, HJ2, Aq, HB⟩ := hcut; cases kq with
  | zero => exact absurd HA.out (by simp [spec_WithSkills.j0])
  | succ Bo =>
   have H := HA.out; clear HA
   simp only [spec_WithSkills.j0] at H
   by_cases Bg : Aw = true
   ·subst Bg
    have H1 : (some (Ag, false)) = some (r1, r2) := by rw [if_pos rfl] at H; exact H
    clear H; have H := H1; clear H1
    simp only [Option.some.injEq, Prod.mk.injEq] at H
    obtain ⟨rfl, rfl⟩ := H
    go_wp2
    go_ret2
    exact ⟨_, Z14, Z64, Z0⟩
   ·replace Bg := Bool.eq_false_iff.mpr Bg
    subst Bg
    have H1 : (spec_WithSkills.l0 Bo l0 a1 Ag 0) = some (r1, r2) := by rw [if_neg (show ¬ (false = true) by decide)] at H; exact H
    clear H; have H := H1; clear H1; have H' := Aside0.mk H; clear H
    go_wp2
    go_loopg [6, 7] Bo (fun kq v6 v7 w' => ∃ (Ar : List Int) (Aa : Int), v7 = .int .i64 Aa ∧ Aside0 (spec_WithSkills.l0 kq l0 a1 Ar Aa = some (r1, r2)) ∧ Aside0 (kq ≤ Bo) ∧ Aside0 (Kd.R (Kd.int .i64) 3 w' w.heap.size (fun _ => True) v6 Ar) ∧ Aside0 (Below w.heap.size w w'))
    case atStart => exact ⟨(Ag), (0), Z15, H', ⟨Nat.le_refl _⟩, ⟨Z64⟩, ⟨Z0⟩⟩
    case round =>
     clear H'; (try clear c1); (try clear p2); (try clear c3); (try clear c6); (try clear c7); (try clear Bg); (try clear p2); obtain ⟨Ar, Aa, rfl, HA, HK2, Aq, HB⟩ := hrel; cases gk with
     | zero => exact absurd HA.out (by simp [spec_WithSkills.l0])
     | succ k2 =>
      have H := HA.out; clear HA
      simp only [spec_WithSkills.l0] at H
      by_cases Bc : Aa < (l0.length : Int)
      ·rw [if_pos Bc] at H
       have c12b0 : decide (Aa < (l0.length : Int)) = true := decide_eq_true Bc; clear Bc
       by_cases Bk : 0 ≤ Aa
       ·rw [if_pos Bk] at H
        have c13b0 : decide (0 ≤ Aa) = true := decide_eq_true Bk; clear Bk
        by_cases Az : (Go.bits .and .i64 ((rd_T26 l0 Aa).f2) a1) = a1
        ·rw [if_pos Az] at H
         have c14b0 : ((Go.bits .and .i64 ((rd_T26 l0 Aa).f2) a1) == a1) = true := beq_iff_eq.mpr Az; have c14b1 : ((Go.bits .and .i64 ((rd_T26 l0 Aa).f2) a1) != a1) = false := bne_eq_false_iff_eq.mpr Az; clear Az
         by_cases Bl : Ar.length < 17592186044416
         ·rw [if_pos Bl] at H
          have LMc15 := Aside0.mk Bl; clear Bl; obtain ⟨Bh, Ap⟩ : ∃ y_ : List Int, y_ = (Ar ++ [(rd_T26 l0 Aa).f0]) := ⟨_, rfl⟩
          replace H : (spec_WithSkills.l0 k2 l0 a1 Bh (wrap64 (Aa + 1))) = some (r1, r2) := by first | (rw [Ap]; with_reducible exact H) | (have H2_ := (Option.bind_some _ _).symm.trans H; rw [Ap]; with_reducible exact H2_) | (have H2_ := (Option.bind_some _ _).symm.trans H; with_reducible exact H2_) | with_reducible exact H | (rw [Ap]; exact H) | exact H
          have Bi := Aside0.mk Ap; clear Ap; have H' := Aside0.mk H; clear H; have Au : 0 ≤ (Aa : Int) := of_decide_eq_true Z10; have Av : Aa < (l0.length : Int) := of_decide_eq_true Z10; obtain ⟨ad328, e328, Ab, Ac, Ad, Ae, Af⟩ := at_T26 Bd.out Aa Au Av; cases e328; replace Ab := (HB.out.cell (World.block_lt_of_cell? w _ Ab)).trans Ab; replace Ac := (HB.out.cell (World.block_lt_of_cell? w _ Ac)).trans Ac; replace Ad := (HB.out.cell (World.block_lt_of_cell? w _ Ad)).trans Ad; replace Ae := (HB.out.cell (World.block_lt_of_cell? w _ Ae)).trans Ae; replace Af := (HB.out.cell (World.block_lt_of_cell? w _ Af)).trans Af; replace Au := eq_true Au; replace Av := eq_true Av; have Ba : 0 ≤ (Aa : Int) := of_decide_eq_true Z10; have Bb : Aa < (l0.length : Int) := of_decide_eq_true Z10; obtain ⟨ad329, e329, Aj, Ak, Al, Am, An⟩ := at_T26 Bd.out Aa Ba Bb; obtain rfl : ad328 = ad329 := (by injection e329); replace Aj := (HB.out.cell (World.block_lt_of_cell? w _ Aj)).trans Aj; replace Ak := (HB.out.cell (World.block_lt_of_cell? w _ Ak)).trans Ak; replace Al := (HB.out.cell (World.block_lt_of_cell? w _ Al)).trans Al; replace Am := (HB.out.cell (World.block_lt_of_cell? w _ Am)).trans Am; replace An := (HB.out.cell (World.block_lt_of_cell? w _ An)).trans An; replace Ba := eq_true Ba; replace Bb := eq_true Bb
          go_wp2_with (first | ((with_reducible refine gate_builtin (b := .append) (xs := #[.tmp 33, .tmp 39]) rfl ?_); at_builtin; refine Kd.R_append (Kd.int .i64) (w0 := w) w.heap.size rfl (.tmp 33) (.tmp 39) 41 3 (.int .i64 0) 8 rfl Tryd.underlying41 info3 rfl (by decide) (by omega) u6 Ar ((rd_T26 l0 Aa).f0) [.int .i64 ((rd_T26 l0 Aa).f0)] (fun _ => True) (fun _ => False) rfl rfl ?aP (fun _ hk => hk.elim) ?aF ?aO ?aB ?aS ?aL ?_; (case aP => exact rfl); (case aB => exact Z0); (case aF => exact (fun _ _ => trivial)); (case aO => exact Z64); (case aS => exact (below_size Z0)); (case aL => have := LMc15.out; omega); intro Bv Bx ho hb hg hat; rw [← Bi.out] at ho; replace HB := aM (hb); have Bj := aM (ho); clear Aq; clear ho hb hg hat))
          go_roundg k2
          case measure => have := HJ2.out; have := HK2.out; omega
          case rel => exact ⟨(Bh), (wrap64 (Aa + 1)), Z15, H', ⟨Z105⟩, ⟨by (with_reducible repeat (first | apply Kd.R_alloc | apply Kd.R_drewN | apply Kd.R_drew)); exact Bj.out⟩, ⟨Z0⟩⟩
         ·rw [if_neg Bl] at H
          exact absurd H (by simp)
        ·rw [if_neg Az] at H
         have c14b0 : ((Go.bits .and .i64 ((rd_T26 l0 Aa).f2) a1) == a1) = false := beq_eq_false_iff_ne.mpr Az; have c14b1 : ((Go.bits .and .i64 ((rd_T26 l0 Aa).f2) a1) != a1) = true := bne_iff_ne.mpr Az; have H' := Aside0.mk H; clear H; have Au : 0 ≤ (Aa : Int) := of_decide_eq_true Z10; have Av : Aa < (l0.length : Int) := of_decide_eq_true Z10; obtain ⟨ad328, e328, Ab, Ac, Ad, Ae, Af⟩ := at_T26 Bd.out Aa Au Av; cases e328; replace Ab := (HB.out.cell (World.block_lt_of_cell? w _ Ab)).trans Ab; replace Ac := (HB.out.cell (World.block_lt_of_cell? w _ Ac)).trans Ac; replace Ad := (HB.out.cell (World.block_lt_of_cell? w _ Ad)).trans Ad; replace Ae := (HB.out.cell (World.block_lt_of_cell? w _ Ae)).trans Ae; replace Af := (HB.out.cell (World.block_lt_of_cell? w _ Af)).trans Af; replace Au := eq_true Au; replace Av := eq_true Av
         go_wp2
         go_roundg k2
         case measure => have := HJ2.out; have := HK2.out; omega
         case rel => exact ⟨(Ar), (wrap64 (Aa + 1)), Z15, H', ⟨Z105⟩, ⟨Z64⟩, ⟨Z0⟩⟩
       ·rw [if_neg Bk] at H
        exact absurd H (by simp)
      ·rw [if_neg Bc] at H
       have c12b0 : decide (Aa < (l0.length : Int)) = false := decide_eq_false Bc; clear Bc
       simp only [Option.some.injEq, Prod.mk.injEq] at H
       obtain ⟨rfl, rfl⟩ := H
       go_wp2
       go_ret2
       exact ⟨_, Z14, Z64, Z0⟩
mutual
def impl_WithSkills.j0 : Nat → List (S26) → Int → Bool → Option (List Int × Bool)
 | 0, _, _, _ => none
 | k + 1, x0, x1, x16 => if x16 = true then (some (([] : List Int), false)) else (impl_WithSkills.l0 k x1 (([] : List Int)) x0 (x0.length : Int) 0)
def impl_WithSkills.l0 : Nat → Int → List Int → List (S26) → Int → Int → Option (List Int × Bool)
 | 0, _, _, _, _, _ => none
 | k + 1, x1, x6, x18, x19, x20 => if x20 < x19 then (if 0 ≤ x20 then (if x20 < (x18.length : Int) then ((impl_Weaver_has.f ((rd_T26 x18 x20).f0) ((rd_T26 x18 x20).f1) ((rd_T26 x18 x20).f2) ((rd_T26 x18 x20).f3) ((rd_T26 x18 x20).f4) x1).bind fun t340 => (if t340 = true then (if x6.length < 17592186044416 then (impl_WithSkills.l0 k x1 (x6 ++ [(rd_T26 x18 x20).f0]) x18 x19 (wrap64 (x20 + 1))) else (none)) else (impl_WithSkills.l0 k x1 x6 x18 x19 (wrap64 (x20 + 1))))) else (none)) else (none)) else (some (x6, true))
end
def impl_WithSkills.f (k : Nat) (l0 : List (S26)) (a1 : Int) : Option (List Int × Bool) := (impl_AreWeavers.f l0).bind fun t333 => (if t333 = true then ((impl_areSkills.f a1).bind fun t334 => (impl_WithSkills.j0 k l0 a1 (!t334))) else (impl_WithSkills.j0 k l0 a1 true))
theorem impl_WithSkills.calls (k : Nat) (A0 : Option Addr) (c0 : Nat) (l0 : List (S26)) (a1 : Int) (r1 : List Int) (r2 : Bool) (w : World) (Ck : Kd.C k26 w A0 l0.length l0) (Cl : l0.length ≤ c0) (h : impl_WithSkills.f k l0 a1 = some (r1, r2)) :
  Calls Tryd.prog 35 #[.slice A0 l0.length c0, .int .i64 a1] w fun e w' => ∃ v0_ : Value, e = .returned (.tuple #[v0_, .bool r2]) ∧ Kd.R (Kd.int .i64) 3 w' w.heap.size (fun _ => True) v0_ r1 ∧ Below w.heap.size w w' := by
 have hu26 := Tryd.underlying26; have Bh := Aside0.mk Ck; have Cm := Aside0.mk Cl; clear Ck Cl; have HB := aM (Below.refl w.heap.size w); have H : ((impl_AreWeavers.f l0).bind fun Au => (if Au = true then ((impl_areSkills.f a1).bind fun Al => (impl_WithSkills.j0 k l0 a1 (!Al))) else (impl_WithSkills.j0 k l0 a1 true))) = some (r1, r2) := h; clear h; have Cj := Aside0.mk H; clear H
 go_enter Tryd.func35, Tryd.ntmps35
 go_upto_region 1 with (fail)
 go_cut [16] (fun Cq wc => ∃ (kq : Nat) (Aq : Bool), Cq = .bool Aq ∧ Aside0 (impl_WithSkills.j0 kq l0 a1 Aq = some (r1, r2)) ∧ Aside0 (kq ≤ k) ∧ Aside0 (Below w.heap.size w wc))
 case first =>
  have H := Cj.out; clear Cj; replace H := Option.bind_eq_some_iff.mp H; obtain ⟨Au, Cn, H⟩ := H; replace H : (if Au = true then ((impl_areSkills.f a1).bind fun Al => (impl_WithSkills.j0 k l0 a1 (!Al))) else (impl_WithSkills.j0 k l0 a1 true)) = some (r1, r2) := H; have A4 := Aside0.mk Cn; clear Cn
  by_cases c5 : Au = true
  ·subst c5
   have H1 : ((impl_areSkills.f a1).bind fun Al => (impl_WithSkills.j0 k l0 a1 (!Al))) = some (r1, r2) := by rw [if_pos rfl] at H; exact H
   clear H; have H := H1; clear H1; replace H := Option.bind_eq_some_iff.mp H; obtain ⟨Al, Co, H⟩ := H; replace H : (impl_WithSkills.j0 k l0 a1 (!Al)) = some (r1, r2) := H; have A6 := Aside0.mk Co; clear Co; have H' := Aside0.mk H; clear H
   go_wp2_with (first | ((with_reducible refine gate_callee (f := 22) rfl ?_); refine glE (some 10) Tryd.func22 #[.slice A0 l0.length c0] ?_; (with_reducible refine (impl_AreWeavers.calls _ _ l0 true _ ?side1 ?side2 A4.out).mono ?_); (case side1 => exact Z78); (case side2 => exact Cm.out); rintro e w7 ⟨rfl, hb⟩; refine ⟨_, rfl, ?_⟩; replace HB := hbS Z0 hb; (try clear hb)) | (go_at_call 59; (with_reducible refine (impl_areSkills.calls a1 Al _ A6.out).mono ?_); rintro e w' ⟨rfl, ⟨nd, rfl⟩⟩))
   go_meet
   case rel => exact ⟨_, (!Al), Z15, H', ⟨Z69⟩, ⟨Z0⟩⟩
  ·replace c5 := Bool.eq_false_iff.mpr c5
   subst c5
   have H1 : (impl_WithSkills.j0 k l0 a1 true) = some (r1, r2) := by rw [if_neg (show ¬ (false = true) by decide)] at H; exact H
   clear H; have H := H1; clear H1; have H' := Aside0.mk H; clear H
   go_wp2_with (first | ((with_reducible refine gate_callee (f := 22) rfl ?_); refine glE (some 10) Tryd.func22 #[.slice A0 l0.length c0] ?_; (with_reducible refine (impl_AreWeavers.calls _ _ l0 false _ ?side1 ?side2 A4.out).mono ?_); (case side1 => exact Z78); (case side2 => exact Cm.out); rintro e w8 ⟨rfl, hb⟩; refine ⟨_, rfl, ?_⟩; replace HB := hbS Z0 hb; (try clear hb)))
   go_meet
   case rel => exact ⟨_, (true), Z15, H', ⟨Z69⟩, ⟨Z0⟩⟩
 case rest =>
  clear Cj; (try clear c2); (try clear p2); (try clear c3); (try clear c5); obtain ⟨kq, Aq, rfl, HA, HJ2, HB⟩ := hcut; cases kq with
  | zero => exact absurd HA.out (by simp [impl_WithSkills.j0])
  | succ Bi =>
   have H := HA.out; clear HA
   simp only [impl_WithSkills.j0] at H
   by_cases c9 : Aq = true
   ·subst c9
    have H1 : (some (([] : List Int), false)) = some (r1, r2) := by rw [if_pos rfl] at H; exact H
    clear H; have H := H1; clear H1
    simp only [Option.some.injEq, Prod.mk.injEq] at H
    obtain ⟨rfl, rfl⟩ := H
    go_wp2
    go_ret2
    exact ⟨_, Z14, Z47, Z0⟩
   ·replace c9 := Bool.eq_false_iff.mpr c9
    subst c9
    have H1 : (impl_WithSkills.l0 Bi a1 (([] : List Int)) l0 (l0.length : Int) 0) = some (r1, r2) := by rw [if_neg (show ¬ (false = true) by decide)] at H; exact H
    clear H; have H := H1; clear H1; obtain ⟨Ax, Am⟩ : ∃ y_ : List Int, y_ = (([] : List Int)) := ⟨_, rfl⟩
    replace H : (impl_WithSkills.l0 Bi a1 Ax l0 (l0.length : Int) 0) = some (r1, r2) := by first | (rw [Am]; with_reducible exact H) | (have H2_ := (Option.bind_some _ _).symm.trans H; rw [Am]; with_reducible exact H2_) | (have H2_ := (Option.bind_some _ _).symm.trans H; with_reducible exact H2_) | with_reducible exact H | (rw [Am]; exact H) | exact H
    have Av := Aside0.mk Am; clear Am; have H' := Aside0.mk H; clear H
    go_wp2_with (first | ((with_reducible refine gate_dst (N := 17) rfl ?_); refine Kd.R_lit (Kd.int .i64) _ 3 ?hg (N := 17) ?hd (xs := ([] : List Int)) (inner := []) (ok := fun _ => True) (okp := fun _ => True) ?hr ?hp (fun _ hk => hk) trivial (Below.refl _ _) (Nat.le_refl _) (by simp) ?_; (case hd => rfl); (case hg => rfl); (case hr => first | (go_simp; done) | (go_simp; rfl)); (case hp => exact (Reps.none _ _)); intro Cr Cu Ar hb hg_ hnew_; clear hg_ hnew_; (first | rw [← Av.out] at Ar | (simp only [Int.reduceToNat] at Ar; rw [← Av.out] at Ar)); have Ay := aM (Kd.R_lower Ar (below_size Z0)); replace HB := hbS Z0 hb; clear hb Ar))
    go_loopg [6, 20] Bi (fun kq v6 Cs w' => ∃ (Ai : List Int) (Aa : Int), Cs = .int .i64 Aa ∧ Aside0 (impl_WithSkills.l0 kq a1 Ai l0 (l0.length : Int) Aa = some (r1, r2)) ∧ Aside0 (kq ≤ Bi) ∧ Aside0 (Kd.R (Kd.int .i64) 3 w' w.heap.size (fun _ => True) v6 Ai) ∧ Aside0 (Below w.heap.size w w'))
    case atStart => exact ⟨(Ax), (0), Z15, H', ⟨Nat.le_refl _⟩, ⟨Z97⟩, ⟨Z0⟩⟩
    case round =>
     clear H'; (try clear c2); (try clear p2); (try clear c3); (try clear c5); (try clear c9); (try clear p2); obtain ⟨Ai, Aa, rfl, HA, HK2, Aj, HB⟩ := hrel; cases gk with
     | zero => exact absurd HA.out (by simp [impl_WithSkills.l0])
     | succ k2 =>
      have H := HA.out; clear HA
      simp only [impl_WithSkills.l0] at H
      by_cases Aw : Aa < (l0.length : Int)
      ·rw [if_pos Aw] at H
       have c12b0 : decide (Aa < (l0.length : Int)) = true := decide_eq_true Aw; clear Aw
       by_cases Bj : 0 ≤ Aa
       ·rw [if_pos Bj] at H
        have c13b0 : decide (0 ≤ Aa) = true := decide_eq_true Bj; clear Bj
        by_cases Bk : Aa < (l0.length : Int)
        ·rw [if_pos Bk] at H
         have c14b0 : decide (Aa < (l0.length : Int)) = true := decide_eq_true Bk; clear Bk; replace H := Option.bind_eq_some_iff.mp H; obtain ⟨Az, Ba, H⟩ := H; replace H : (if Az = true then (if Ai.length < 17592186044416 then (impl_WithSkills.l0 k2 a1 (Ai ++ [(rd_T26 l0 Aa).f0]) l0 (l0.length : Int) (wrap64 (Aa + 1))) else (none)) else (impl_WithSkills.l0 k2 a1 Ai l0 (l0.length : Int) (wrap64 (Aa + 1)))) = some (r1, r2) := H; have Cp := Aside0.mk Ba; clear Ba
         by_cases Bl : Az = true
         ·subst Bl
          have H1 : (if Ai.length < 17592186044416 then (impl_WithSkills.l0 k2 a1 (Ai ++ [(rd_T26 l0 Aa).f0]) l0 (l0.length : Int) (wrap64 (Aa + 1))) else (none)) = some (r1, r2) := by rw [if_pos rfl] at H; exact H
          clear H; have H := H1; clear H1
          by_cases Bm : Ai.length < 17592186044416
          ·rw [if_pos Bm] at H
           have LMc17 := Aside0.mk Bm; clear Bm; obtain ⟨Bb, An⟩ : ∃ y_ : List Int, y_ = (Ai ++ [(rd_T26 l0 Aa).f0]) := ⟨_, rfl⟩
           replace H : (impl_WithSkills.l0 k2 a1 Bb l0 (l0.length : Int) (wrap64 (Aa + 1))) = some (r1, r2) := by first | (rw [An]; with_reducible exact H) | (have H2_ := (Option.bind_some _ _).symm.trans H; rw [An]; with_reducible exact H2_) | (have H2_ := (Option.bind_some _ _).symm.trans H; with_reducible exact H2_) | with_reducible exact H | (rw [An]; exact H) | exact H
           have Bc := Aside0.mk An; clear An; have H' := Aside0.mk H; clear H; have Ao : 0 ≤ (Aa : Int) := of_decide_eq_true Z10; have Ap : Aa < (l0.length : Int) := of_decide_eq_true Z10; obtain ⟨ad338, e338, Ad, Ae, Af, Ag, Ah⟩ := at_T26 Bh.out Aa Ao Ap; cases e338; replace Ad := (HB.out.cell (World.block_lt_of_cell? w _ Ad)).trans Ad; replace Ae := (HB.out.cell (World.block_lt_of_cell? w _ Ae)).trans Ae; replace Af := (HB.out.cell (World.block_lt_of_cell? w _ Af)).trans Af; replace Ag := (HB.out.cell (World.block_lt_of_cell? w _ Ag)).trans Ag; replace Ah := (HB.out.cell (World.block_lt_of_cell? w _ Ah)).trans Ah; replace Ao := eq_true Ao; replace Ap := eq_true Ap
           go_wp2_with (first | ((with_reducible refine gate_dst (N := 8) rfl ?_); refine bxE 8 #[.int .i64 0, .string (⟨#[]⟩ : ByteArray), .int .i64 0, .int .i64 0, .int .i64 0] 26 ?_; intro Ac hg Cv hbox hb; replace Aj := roB Aj hb; have Ab := aM (hbox); have Bd := gwS hg Z0; have Ak := gwS hg Z0; replace HB := hbS Z0 hb; clear hb hbox hg; obtain ⟨Bn, Bo, Bp, Bq, Br⟩ := bz5 Ab; obtain ⟨Bs, Bt, Bu, Bv, Bw⟩ := fz5 Ab) | ((with_reducible refine gate_callee (f := 76) rfl ?_); refine glE (some 26) Tryd.func76 #[.agg #[.int .i64 ((rd_T26 l0 Aa).f0), .string ((rd_T26 l0 Aa).f1), .int .i64 ((rd_T26 l0 Aa).f2), .int .i64 ((rd_T26 l0 Aa).f3), .int .i64 ((rd_T26 l0 Aa).f4)], .int .i64 a1] ?_; (with_reducible refine (impl_Weaver_has.calls ((rd_T26 l0 Aa).f0) ((rd_T26 l0 Aa).f1) ((rd_T26 l0 Aa).f2) ((rd_T26 l0 Aa).f3) ((rd_T26 l0 Aa).f4) a1 true _ Cp.out).mono ?_); rintro e Bf ⟨rfl, hb⟩; refine ⟨_, rfl, ?_⟩; replace Aj := aM (Kd.R_below (by (with_reducible repeat (first | apply Kd.R_alloc | apply Kd.R_drewN | apply Kd.R_drew)); exact (Kd.R_mono (Kd.R_far (p := ⟨Ac, 4, none⟩) (Kd.R_far (p := ⟨Ac, 3, none⟩) (Kd.R_far (p := ⟨Ac, 2, none⟩) (Kd.R_far (p := ⟨Ac, 1, none⟩) (Kd.R_far (p := ⟨Ac, 0, none⟩) (Kd.R_types Aj.out Ab.out (by decide)) (fun _ hk => hk.2) (.int .i64 ((rd_T26 l0 Aa).f0))) (fun _ hk => hk.2) (.string ((rd_T26 l0 Aa).f1))) (fun _ hk => hk.2) (.int .i64 ((rd_T26 l0 Aa).f2))) (fun _ hk => hk.2) (.int .i64 ((rd_T26 l0 Aa).f3))) (fun _ hk => hk.2) (.int .i64 ((rd_T26 l0 Aa).f4))) (fun _ h_ => h_.1))) hb); replace Ab := aM (blk_below (g := Ac) (o := .cells #[.int .i64 ((rd_T26 l0 Aa).f0), .string ((rd_T26 l0 Aa).f1), .int .i64 ((rd_T26 l0 Aa).f2), .int .i64 ((rd_T26 l0 Aa).f3), .int .i64 ((rd_T26 l0 Aa).f4)] 26 (0, 0)) Z5 hb); replace HB := hbS Z22 hb; (try clear hb); have Bx : Bf.cell? ⟨Ac, 0, none⟩ = some (.int .i64 ((rd_T26 l0 Aa).f0)) := (blk_cell Ab.out 0).trans rfl; have Bz : Bf.cell? ⟨Ac, 1, none⟩ = some (.string ((rd_T26 l0 Aa).f1)) := (blk_cell Ab.out 1).trans rfl; have B0 : Bf.cell? ⟨Ac, 2, none⟩ = some (.int .i64 ((rd_T26 l0 Aa).f2)) := (blk_cell Ab.out 2).trans rfl; have B1 : Bf.cell? ⟨Ac, 3, none⟩ = some (.int .i64 ((rd_T26 l0 Aa).f3)) := (blk_cell Ab.out 3).trans rfl; have B2 : Bf.cell? ⟨Ac, 4, none⟩ = some (.int .i64 ((rd_T26 l0 Aa).f4)) := (blk_cell Ab.out 4).trans rfl; obtain ⟨B3, B4, B6, B7, B8⟩ := fz5 Ab) | ((with_reducible refine gate_builtin (b := .append) (xs := #[.tmp 27, .tmp 30]) rfl ?_); at_builtin; refine Kd.R_append (Kd.int .i64) (w0 := w) w.heap.size rfl (.tmp 27) (.tmp 30) 41 3 (.int .i64 0) 8 rfl Tryd.underlying41 info3 rfl (by decide) (by omega) u6 Ai ((rd_T26 l0 Aa).f0) [.int .i64 ((rd_T26 l0 Aa).f0)] (fun _ => True) (fun _ => False) rfl rfl ?aP (fun _ hk => hk.elim) ?aF ?aO ?aB ?aS ?aL ?_; (case aP => exact rfl); (case aB => exact Z22); (case aF => exact (fun _ _ => trivial)); (case aO => exact Z35); (case aS => exact (below_size Z22)); (case aL => have := LMc17.out; omega); intro Ct Cw ho hb hg hat; rw [← Bc.out] at ho; replace Ab := aM (blk_grown (g := Ac) (o := .cells #[.int .i64 ((rd_T26 l0 Aa).f0), .string ((rd_T26 l0 Aa).f1), .int .i64 ((rd_T26 l0 Aa).f2), .int .i64 ((rd_T26 l0 Aa).f3), .int .i64 ((rd_T26 l0 Aa).f4)] 26 (0, 0)) Z40 hg (Kd.R_ne Aj.out Ab.out (by decide))); replace HB := aM (hb); have Bg := aM (ho); clear Aj; clear ho hb hg hat))
           go_roundg k2
           case measure => have := HJ2.out; have := HK2.out; omega
           case rel => exact ⟨(Bb), (wrap64 (Aa + 1)), Z15, H', ⟨Z105⟩, ⟨by (with_reducible repeat (first | apply Kd.R_alloc | apply Kd.R_drewN | apply Kd.R_drew)); exact Bg.out⟩, ⟨Z22⟩⟩
          ·rw [if_neg Bm] at H
           exact absurd H (by simp)
         ·replace Bl := Bool.eq_false_iff.mpr Bl
          subst Bl
          have H1 : (impl_WithSkills.l0 k2 a1 Ai l0 (l0.length : Int) (wrap64 (Aa + 1))) = some (r1, r2) := by rw [if_neg (show ¬ (false = true) by decide)] at H; exact H
          clear H; have H := H1; clear H1; have H' := Aside0.mk H; clear H; have Ao : 0 ≤ (Aa : Int) := of_decide_eq_true Z10; have Ap : Aa < (l0.length : Int) := of_decide_eq_true Z10; obtain ⟨ad338, e338, Ad, Ae, Af, Ag, Ah⟩ := at_T26 Bh.out Aa Ao Ap; cases e338; replace Ad := (HB.out.cell (World.block_lt_of_cell? w _ Ad)).trans Ad; replace Ae := (HB.out.cell (World.block_lt_of_cell? w _ Ae)).trans Ae; replace Af := (HB.out.cell (World.block_lt_of_cell? w _ Af)).trans Af; replace Ag := (HB.out.cell (World.block_lt_of_cell? w _ Ag)).trans Ag; replace Ah := (HB.out.cell (World.block_lt_of_cell? w _ Ah)).trans Ah; replace Ao := eq_true Ao; replace Ap := eq_true Ap
          go_wp2_with (first | ((with_reducible refine gate_dst (N := 8) rfl ?_); refine bxE 8 #[.int .i64 0, .string (⟨#[]⟩ : ByteArray), .int .i64 0, .int .i64 0, .int .i64 0] 26 ?_; intro Ac hg Cx hbox hb; replace Aj := roB Aj hb; have Ab := aM (hbox); have Bd := gwS hg Z0; have Ak := gwS hg Z0; replace HB := hbS Z0 hb; clear hb hbox hg; obtain ⟨B9, Ca, Cb, Cc, Cd⟩ := bz5 Ab; obtain ⟨Ce, Cf, Cg, Ch, Ci⟩ := fz5 Ab) | ((with_reducible refine gate_callee (f := 76) rfl ?_); refine glE (some 26) Tryd.func76 #[.agg #[.int .i64 ((rd_T26 l0 Aa).f0), .string ((rd_T26 l0 Aa).f1), .int .i64 ((rd_T26 l0 Aa).f2), .int .i64 ((rd_T26 l0 Aa).f3), .int .i64 ((rd_T26 l0 Aa).f4)], .int .i64 a1] ?_; (with_reducible refine (impl_Weaver_has.calls ((rd_T26 l0 Aa).f0) ((rd_T26 l0 Aa).f1) ((rd_T26 l0 Aa).f2) ((rd_T26 l0 Aa).f3) ((rd_T26 l0 Aa).f4) a1 false _ Cp.out).mono ?_); rintro e Cy ⟨rfl, hb⟩; refine ⟨_, rfl, ?_⟩; replace Aj := aM (Kd.R_below (by (with_reducible repeat (first | apply Kd.R_alloc | apply Kd.R_drewN | apply Kd.R_drew)); exact (Kd.R_mono (Kd.R_far (p := ⟨Ac, 4, none⟩) (Kd.R_far (p := ⟨Ac, 3, none⟩) (Kd.R_far (p := ⟨Ac, 2, none⟩) (Kd.R_far (p := ⟨Ac, 1, none⟩) (Kd.R_far (p := ⟨Ac, 0, none⟩) (Kd.R_types Aj.out Ab.out (by decide)) (fun _ hk => hk.2) (.int .i64 ((rd_T26 l0 Aa).f0))) (fun _ hk => hk.2) (.string ((rd_T26 l0 Aa).f1))) (fun _ hk => hk.2) (.int .i64 ((rd_T26 l0 Aa).f2))) (fun _ hk => hk.2) (.int .i64 ((rd_T26 l0 Aa).f3))) (fun _ hk => hk.2) (.int .i64 ((rd_T26 l0 Aa).f4))) (fun _ h_ => h_.1))) hb); replace Ab := aM (blk_below (g := Ac) (o := .cells #[.int .i64 ((rd_T26 l0 Aa).f0), .string ((rd_T26 l0 Aa).f1), .int .i64 ((rd_T26 l0 Aa).f2), .int .i64 ((rd_T26 l0 Aa).f3), .int .i64 ((rd_T26 l0 Aa).f4)] 26 (0, 0)) Z5 hb); replace HB := hbS Z22 hb; (try clear hb)))
          go_roundg k2
          case measure => have := HJ2.out; have := HK2.out; omega
          case rel => exact ⟨(Ai), (wrap64 (Aa + 1)), Z15, H', ⟨Z105⟩, ⟨Z35⟩, ⟨Z22⟩⟩
        ·rw [if_neg Bk] at H
         exact absurd H (by simp)
       ·rw [if_neg Bj] at H
        exact absurd H (by simp)
      ·rw [if_neg Aw] at H
       have c12b0 : decide (Aa < (l0.length : Int)) = false := decide_eq_false Aw; clear Aw
       simp only [Option.some.injEq, Prod.mk.injEq] at H
       obtain ⟨rfl, rfl⟩ := H
       go_wp2
       go_ret2
       exact ⟨_, Z14, Z35, Z0⟩
end Go.Proofs.YthalifhbjioaeaaDoor.H
