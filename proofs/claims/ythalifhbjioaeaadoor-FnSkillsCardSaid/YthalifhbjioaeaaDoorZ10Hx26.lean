-- by wip/pack.py of this repo
import Derived.Test.YthalifhbjioaeaaDoorZ10Hx0
import Derived.Test.YthalifhbjioaeaaDoorZ10Hx8
import Derived.Test.YthalifhbjioaeaaDoorZ10Hx9
import Derived.Test.YthalifhbjioaeaaDoorZ10WLast
import Derived.Test.YthalifhbjioaeaaDoorZ10WMore
import Derived.Test.YthalifhbjioaeaaDoorZ10WWords
import Derived.Test.YthalifhbjioaeaaDoorZ10Short
namespace Go.Proofs.YthalifhbjioaeaaDoor.H
open Go.RowKit Go.Proofs.YthalifhbjioaeaaDoorW.PrintWords Go.Proofs.YthalifhbjioaeaaDoorW.PrintLast Go.Proofs.YthalifhbjioaeaaDoorW.PrintMore
attribute [local go_sem] max2_int min2_int max_two min_two max_three min_three max_four min_four
set_option maxHeartbeats 8000000
set_option maxRecDepth 100000
set_option linter.unusedVariables false
set_option linter.unusedSimpArgs false
def spec_l11Find.l0 : Nat → List (S26) → Int → Int → Option (Int)
 | 0, _, _, _ => none
 | k + 1, x0, x1, x5 => if x5 < (x0.length : Int) then (if 0 ≤ x5 then (if ((rd_T26 x0 x5).f0) = x1 then (some x5) else (spec_l11Find.l0 k x0 x1 (wrap64 (x5 + 1)))) else (none)) else (some (-1))
def spec_l11Find.f (k : Nat) (l0 : List (S26)) (a1 : Int) : Option (Int) := spec_l11Find.l0 k l0 a1 0
theorem spec_l11Find.calls (k : Nat) (A0 : Option Addr) (c0 : Nat) (l0 : List (S26)) (a1 : Int) (r : Int) (w : World) (Ai : Kd.C k26 w A0 l0.length l0) (Aj : l0.length ≤ c0) (h : spec_l11Find.f k l0 a1 = some r) :
  Calls Tryd.prog 83 #[.slice A0 l0.length c0, .int .i64 a1] w fun e w' => e = .returned (.int .i64 r) ∧ Drawn0 w w' := by
 have Ak := Aside0.mk Ai; have Al := Aside0.mk Aj; clear Ai Aj; have H : (spec_l11Find.l0 k l0 a1 0) = some r := h; clear h; have H' := Aside0.mk H; clear H
 go_enter Tryd.func83, Tryd.ntmps83
 go_wp2
 go_loopg [5] k (fun kq v5 w' => ∃ (Aa : Int), v5 = .int .i64 Aa ∧ Aside0 (spec_l11Find.l0 kq l0 a1 Aa = some r) ∧ Aside0 (kq ≤ k) ∧ Drawn0 w w')
 case atStart => exact ⟨(0), Z15, H', ⟨Nat.le_refl _⟩, Z27⟩
 case round =>
  clear H'; (try clear p2); obtain ⟨Aa, rfl, HA, HK1, ⟨m1, rfl⟩⟩ := hrel; cases gk with
  | zero => exact absurd HA.out (by simp [spec_l11Find.l0])
  | succ k1 =>
   have H := HA.out; clear HA
   simp only [spec_l11Find.l0] at H
   by_cases c3 : Aa < (l0.length : Int)
   ·rw [if_pos c3] at H
    have c3b0 : decide (Aa < (l0.length : Int)) = true := decide_eq_true c3; clear c3
    by_cases c4 : 0 ≤ Aa
    ·rw [if_pos c4] at H
     have c4b0 : decide (0 ≤ Aa) = true := decide_eq_true c4; clear c4
     by_cases c5 : ((rd_T26 l0 Aa).f0) = a1
     ·rw [if_pos c5] at H
      have c5b0 : (((rd_T26 l0 Aa).f0) == a1) = true := beq_iff_eq.mpr c5; have c5b1 : (((rd_T26 l0 Aa).f0) != a1) = false := bne_eq_false_iff_eq.mpr c5; clear c5; obtain rfl := Option.some.inj H; have Ab : 0 ≤ (Aa : Int) := of_decide_eq_true Z10; have Ac : Aa < (l0.length : Int) := of_decide_eq_true Z10; obtain ⟨ad397, e397, Ad, Ae, Af, Ag, Ah⟩ := at_T26 Ak.out Aa Ab Ac; cases e397; replace Ab := eq_true Ab; replace Ac := eq_true Ac
      go_wp2
      go_ret
      exact ⟨Z15, Z27⟩
     ·rw [if_neg c5] at H
      have c5b0 : (((rd_T26 l0 Aa).f0) == a1) = false := beq_eq_false_iff_ne.mpr c5; have c5b1 : (((rd_T26 l0 Aa).f0) != a1) = true := bne_iff_ne.mpr c5; have H' := Aside0.mk H; clear H; have Ab : 0 ≤ (Aa : Int) := of_decide_eq_true Z10; have Ac : Aa < (l0.length : Int) := of_decide_eq_true Z10; obtain ⟨ad397, e397, Ad, Ae, Af, Ag, Ah⟩ := at_T26 Ak.out Aa Ab Ac; cases e397; replace Ab := eq_true Ab; replace Ac := eq_true Ac
      go_wp2
      go_roundg k1
      case measure => have := HK1.out; omega
      case rel => exact ⟨(wrap64 (Aa + 1)), Z15, H', ⟨Z66⟩, Z27⟩
    ·rw [if_neg c4] at H
     exact absurd H (by simp)
   ·rw [if_neg c3] at H
    have c3b0 : decide (Aa < (l0.length : Int)) = false := decide_eq_false c3; clear c3; obtain rfl := Option.some.inj H
    go_wp2
    go_ret
    exact ⟨Z15, Z27⟩
def spec_l11With.f (k : Nat) (l0 : List (S26)) (a1 : Int) (a2_0 : Int) (a2_1 : ByteArray) (a2_2 : Int) (a2_3 : Int) (a2_4 : Int) : Option ((List (S26)) × Bool) := (some (([] : List (S26)) : List (S26))).bind fun y399 => (if y399.length + l0.length < 2932031007402 then ((some (y399 ++ l0 : List (S26))).bind fun y402 => (if 0 ≤ a1 then (if a1 < (y402.length : Int) then ((some (y402.set (a1 : Int).toNat (⟨a2_0, a2_1, a2_2, a2_3, a2_4⟩ : S26) : List (S26))).bind fun y405 => ((spec_l11Good.f k y405).bind fun t406 => (if t406 = true then (some (y405, true)) else (some ((([] : List (S26))), false))))) else (none)) else (none))) else (none))
theorem spec_l11With.calls (k : Nat) (A0 : Option Addr) (c0 : Nat) (l0 : List (S26)) (a1 : Int) (Ad : Int) (Ae : ByteArray) (Af : Int) (Ag : Int) (Ah : Int) (r1 : List (S26)) (r2 : Bool) (w : World) (C8 : Kd.C k26 w A0 l0.length l0) (C9 : l0.length ≤ c0) (h : spec_l11With.f k l0 a1 Ad Ae Af Ag Ah = some (r1, r2)) :
  Calls Tryd.prog 84 #[.slice A0 l0.length c0, .int .i64 a1, .agg #[.int .i64 Ad, .string Ae, .int .i64 Af, .int .i64 Ag, .int .i64 Ah]] w fun e w' => ∃ v0_ : Value, e = .returned (.tuple #[v0_, .bool r2]) ∧ Kd.R k26 26 w' w.heap.size (fun _ => True) v0_ r1 ∧ Below w.heap.size w w' := by
 have hu26 := Tryd.underlying26; have Da := Aside0.mk C8; have De := Aside0.mk C9; clear C8 C9; have HB := aM (Below.refl w.heap.size w); have H : ((some (([] : List (S26)) : List (S26))).bind fun Ao => (if Ao.length + l0.length < 2932031007402 then ((some (Ao ++ l0 : List (S26))).bind fun Ac => (if 0 ≤ a1 then (if a1 < (Ac.length : Int) then ((some (Ac.set (a1 : Int).toNat (⟨Ad, Ae, Af, Ag, Ah⟩ : S26) : List (S26))).bind fun Aj => ((spec_l11Good.f k Aj).bind fun An => (if An = true then (some (Aj, true)) else (some ((([] : List (S26))), false))))) else (none)) else (none))) else (none))) = some (r1, r2) := h; clear h; obtain ⟨Ao, Ap⟩ : ∃ y_ : List (S26), y_ = (([] : List (S26))) := ⟨_, rfl⟩
 replace H : (if Ao.length + l0.length < 2932031007402 then ((some (Ao ++ l0 : List (S26))).bind fun Ac => (if 0 ≤ a1 then (if a1 < (Ac.length : Int) then ((some (Ac.set (a1 : Int).toNat (⟨Ad, Ae, Af, Ag, Ah⟩ : S26) : List (S26))).bind fun Aj => ((spec_l11Good.f k Aj).bind fun An => (if An = true then (some (Aj, true)) else (some ((([] : List (S26))), false))))) else (none)) else (none))) else (none)) = some (r1, r2) := by first | (rw [Ap]; with_reducible exact H) | (have H2_ := (Option.bind_some _ _).symm.trans H; rw [Ap]; with_reducible exact H2_) | (have H2_ := (Option.bind_some _ _).symm.trans H; with_reducible exact H2_) | with_reducible exact H | (rw [Ap]; exact H) | exact H
 have Av := Aside0.mk Ap; clear Ap
 by_cases c4 : Ao.length + l0.length < 2932031007402
 ·rw [if_pos c4] at H
  have LMc4 := Aside0.mk c4; clear c4; obtain ⟨Ac, Aq⟩ : ∃ y_ : List (S26), y_ = (Ao ++ l0) := ⟨_, rfl⟩
  replace H : (if 0 ≤ a1 then (if a1 < (Ac.length : Int) then ((some (Ac.set (a1 : Int).toNat (⟨Ad, Ae, Af, Ag, Ah⟩ : S26) : List (S26))).bind fun Aj => ((spec_l11Good.f k Aj).bind fun An => (if An = true then (some (Aj, true)) else (some ((([] : List (S26))), false))))) else (none)) else (none)) = some (r1, r2) := by first | (rw [Aq]; with_reducible exact H) | (have H2_ := (Option.bind_some _ _).symm.trans H; rw [Aq]; with_reducible exact H2_) | (have H2_ := (Option.bind_some _ _).symm.trans H; with_reducible exact H2_) | with_reducible exact H | (rw [Aq]; exact H) | exact H
  have Bc := Aside0.mk Aq; clear Aq
  by_cases c5 : 0 ≤ a1
  ·rw [if_pos c5] at H
   have c5b0 : decide (0 ≤ a1) = true := decide_eq_true c5; clear c5
   by_cases c6 : a1 < (Ac.length : Int)
   ·rw [if_pos c6] at H
    have c6b0 : decide (a1 < (Ac.length : Int)) = true := decide_eq_true c6; clear c6; obtain ⟨Aj, Ar⟩ : ∃ y_ : List (S26), y_ = (Ac.set (a1 : Int).toNat (⟨Ad, Ae, Af, Ag, Ah⟩ : S26)) := ⟨_, rfl⟩
    replace H : ((spec_l11Good.f k Aj).bind fun An => (if An = true then (some (Aj, true)) else (some ((([] : List (S26))), false)))) = some (r1, r2) := by first | (rw [Ar]; with_reducible exact H) | (have H2_ := (Option.bind_some _ _).symm.trans H; rw [Ar]; with_reducible exact H2_) | (have H2_ := (Option.bind_some _ _).symm.trans H; with_reducible exact H2_) | with_reducible exact H | (rw [Ar]; exact H) | exact H
    have Bd := Aside0.mk Ar; clear Ar; replace H := Option.bind_eq_some_iff.mp H; obtain ⟨An, Db, H⟩ := H; replace H : (if An = true then (some (Aj, true)) else (some ((([] : List (S26))), false))) = some (r1, r2) := H; have A8 := Aside0.mk Db; clear Db
    by_cases c9 : An = true
    ·subst c9
     have H1 : (some (Aj, true)) = some (r1, r2) := by rw [if_pos rfl] at H; exact H
     clear H; have H := H1; clear H1
     simp only [Option.some.injEq, Prod.mk.injEq] at H
     obtain ⟨rfl, rfl⟩ := H
     go_enter Tryd.func84, Tryd.ntmps84
     go_wp2_with (first | ((with_reducible refine gate_dst (N := 5) rfl ?_); refine bxE 5 #[.int .i64 Ad, .string Ae, .int .i64 Af, .int .i64 Ag, .int .i64 Ah] 26 ?_; intro Ai hg Df hbox hb; have Ab := aM (hbox); have B6 := gwS hg Z0; have Ak := gwS hg Z0; replace HB := hbS Z0 hb; clear hb hbox hg) | ((with_reducible refine gate_dst (N := 9) rfl ?_); refine Kd.R_lit k26 _ 26 ?hg (N := 9) ?hd (xs := ([] : List (S26))) (inner := []) (ok := fun _ => True) (okp := fun _ => True) ?hr ?hp (fun _ hk => hk) trivial (Below.refl _ _) (Nat.le_refl _) (by simp) ?_; (case hd => rfl); (case hg => rfl); (case hr => first | (go_simp; done) | (go_simp; rfl)); (case hp => exact (Reps.none _ _)); intro Bg Dg Az hb hg_ hnew_; clear hg_ hnew_; (first | rw [← Av.out] at Az | (simp only [Int.reduceToNat] at Az; rw [← Av.out] at Az)); have Am := aM (Kd.R_lower (Kd.R_newB Az (g := Ai) (o := .cells #[.int .i64 Ad, .string Ae, .int .i64 Af, .int .i64 Ag, .int .i64 Ah] 26 (0, 0)) Z40) (below_size Z22)); replace Ab := bkB Ab hb; replace HB := hbS Z22 hb; clear hb Az) | ((with_reducible refine gate_builtin (b := .append) (xs := #[.tmp 9, .tmp 10]) rfl ?_); at_builtin; refine Kd.R_append_rows k26 (w0 := w) w.heap.size rfl (.tmp 9) (.tmp 10) 32 26 (.agg #[(.int .i64 0), (.string ⟨#[]⟩), (.int .i64 0), (.int .i64 0), (.int .i64 0)]) 48 rfl Tryd.underlying32 info26 rfl (by decide) (by omega) Bg Ao l0 _ _ _ (fun k_ => k_ ≠ Ai) (fun _ => False) rfl rfl ?aO ?aR (fun _ _ h => h) (fun _ h => h.elim) ?aF ?aB ?aS ?aL ?_; (case aR => repeat (first | exact (Kd.C_below Da.out HB.out) | (with_reducible refine Kd.C_alloc ?_ _) | (with_reducible refine Kd.C_drewN ?_ _) | (with_reducible refine Kd.C_drew ?_))); (case aB => exact Z22); (case aF => exact (fun k_ hk => Kd.freshB (g := Ai) (o := .cells #[.int .i64 Ad, .string Ae, .int .i64 Af, .int .i64 Ag, .int .i64 Ah] 26 (0, 0)) Z40 k_ hk)); (case aO => exact Z94); (case aS => exact (below_size Z22)); (case aL => have := LMc4.out; omega); intro C4 Aw ho hb hg hat; rw [← Bc.out] at ho; replace Ab := aM (blk_grown (g := Ai) (o := .cells #[.int .i64 Ad, .string Ae, .int .i64 Af, .int .i64 Ag, .int .i64 Ah] 26 (0, 0)) Z40 hg (Kd.R_away Am.out (fun _ hk => hk.2))); replace HB := aM (hb); have Aa := aM (ho); clear Am; clear ho hb hg hat; obtain ⟨Ck, Cl, Cm, Cn, Co⟩ := bz5 Ab; obtain ⟨Cp, Cq, Cr, Cs, Ct⟩ := fz5 Ab; have p7 : 0 ≤ (a1 : Int) := of_decide_eq_true Z10; have q7 : (a1 : Int) < ((Ac.length : Int) : Int) := of_decide_eq_true Z10; obtain ⟨Al, Bh, B7, B8, gl7, cl7, HG7⟩ := Kd.R_form Aa.out (by omega); (first | cases B7 | (injection B7 with ea_ en_ ec_; (first | subst ea_ | (injection ea_ with ea_; subst ea_)); subst ec_; clear en_)); have Ba := Aside0.mk B8; have Dc := Aside0.mk HG7; clear B8 gl7 HG7; obtain ⟨ce7, hcl7, hM7, hcc7, hfr7⟩ := Kd.R_elem Aa.out z26 (a1 : Int) p7 q7; obtain rfl := k26_openM hM7; have B9 : Aw.cell? ⟨Al, (a1 : Int).toNat * 5, none⟩ = some (.int .i64 ((rd_T26 Ac a1).f0)) := hcc7 0 _ rfl; have Ca : Aw.cell? ⟨Al, (a1 : Int).toNat * 5 + 1, none⟩ = some (.string ((rd_T26 Ac a1).f1)) := hcc7 1 _ rfl; have Cb : Aw.cell? ⟨Al, (a1 : Int).toNat * 5 + 2, none⟩ = some (.int .i64 ((rd_T26 Ac a1).f2)) := hcc7 2 _ rfl; have Cc : Aw.cell? ⟨Al, (a1 : Int).toNat * 5 + 3, none⟩ = some (.int .i64 ((rd_T26 Ac a1).f3)) := hcc7 3 _ rfl; have Cd : Aw.cell? ⟨Al, (a1 : Int).toNat * 5 + 4, none⟩ = some (.int .i64 ((rd_T26 Ac a1).f4)) := hcc7 4 _ rfl; have Ce : Aw.frozen? ⟨Al, (a1 : Int).toNat * 5, none⟩ = false := hfr7 0; have Cf : Aw.frozen? ⟨Al, (a1 : Int).toNat * 5 + 1, none⟩ = false := hfr7 1; have Cg : Aw.frozen? ⟨Al, (a1 : Int).toNat * 5 + 2, none⟩ = false := hfr7 2; have Ch : Aw.frozen? ⟨Al, (a1 : Int).toNat * 5 + 3, none⟩ = false := hfr7 3; have Ci : Aw.frozen? ⟨Al, (a1 : Int).toNat * 5 + 4, none⟩ = false := hfr7 4; clear hcl7 hcc7 hfr7 hM7; replace p7 := eq_true p7; replace q7 := eq_true q7; have HX15 := aM (show Kd.R k26 26 Aw w.heap.size (fun k_ => k_ ≠ Ai) (.slice (some ⟨Al, 0, none⟩) Ac.length Bh) Ac from Z71); obtain ⟨ce15, hcl15, hM15, hcc15, hfr15⟩ := Kd.R_elem HX15.out z26 (a1 : Int) (of_decide_eq_true Z10) Z119; obtain rfl := k26_openM hM15; have Bi := Kd.R_seg HX15.out (a1 : Int) (of_decide_eq_true Z10) Z119 (seg := [.int .i64 Ad, .string Ae, .int .i64 Af, .int .i64 Ag, .int .i64 Ah]) (j := 0) hcl15 hcc15 (show 5 ≤ 5 from by decide) (x' := (⟨Ad, Ae, Af, Ag, Ah⟩ : S26)) (k26_mkM _ _ _ (⟨Ad, Ae, Af, Ag, Ah⟩ : S26) ) (fun _ hk => hk); have Bj := hcc15 0 _ rfl; (try simp only [show (k26).sz = 5 from rfl, Nat.mul_one, Nat.add_zero] at Bj); have Bk := hfr15 0; (try simp only [show (k26).sz = 5 from rfl, Nat.mul_one, Nat.add_zero] at Bk); have Bl := hcc15 1 _ rfl; (try simp only [show (k26).sz = 5 from rfl, Nat.mul_one, Nat.add_zero] at Bl); have Bm := hfr15 1; (try simp only [show (k26).sz = 5 from rfl, Nat.mul_one, Nat.add_zero] at Bm); have Bn := hcc15 2 _ rfl; (try simp only [show (k26).sz = 5 from rfl, Nat.mul_one, Nat.add_zero] at Bn); have Bo := hfr15 2; (try simp only [show (k26).sz = 5 from rfl, Nat.mul_one, Nat.add_zero] at Bo); have Bp := hcc15 3 _ rfl; (try simp only [show (k26).sz = 5 from rfl, Nat.mul_one, Nat.add_zero] at Bp); have Bq := hfr15 3; (try simp only [show (k26).sz = 5 from rfl, Nat.mul_one, Nat.add_zero] at Bq); have Br := hcc15 4 _ rfl; (try simp only [show (k26).sz = 5 from rfl, Nat.mul_one, Nat.add_zero] at Br); have Bs := hfr15 4; (try simp only [show (k26).sz = 5 from rfl, Nat.mul_one, Nat.add_zero] at Bs); clear hcl15 hcc15 hfr15 hM15) | ((with_reducible refine gate_store (t := 26) (p := 15) rfl ?_); refine store_event (t := 26) (p := 15) (v := ?vo_w16) (w1 := (((((Aw.setCell ⟨Al, (a1 : Int).toNat * 5, none⟩ (.int .i64 Ad)).setCell ⟨Al, (a1 : Int).toNat * 5 + 1, none⟩ (.string Ae)).setCell ⟨Al, (a1 : Int).toNat * 5 + 2, none⟩ (.int .i64 Af)).setCell ⟨Al, (a1 : Int).toNat * 5 + 3, none⟩ (.int .i64 Ag)).setCell ⟨Al, (a1 : Int).toNat * 5 + 4, none⟩ (.int .i64 Ah))) ?hg ?ho ?hn ?hr ?_; (case ho => rfl); (case hg => rfl); (case hn => rfl); (case hr => first | (go_simp; done) | (go_simp; rfl)); intro C5 hw; have hg : Aw.grownBy C5 (some Al) := (by rw [hw]; exact Bi.2); have hp_ : Kd.R k26 26 C5 w.heap.size (fun k_ => k_ ≠ Ai) (.slice (some ⟨Al, 0, none⟩) Ac.length Bh) Aj := (by rw [hw, Bd.out]; exact Bi.1); clear Bi; replace Ab := aM (blk_grown (g := Ai) (o := .cells #[.int .i64 Ad, .string Ae, .int .i64 Af, .int .i64 Ag, .int .i64 Ah] 26 (0, 0)) Z40 hg (Kd.R_away Aa.out (fun _ hk => hk))); replace Aa := aM (hp_); replace HB := aM ((Z96 : Below w.heap.size w C5)); clear hg hw hp_) | ((with_reducible refine gate_callee (f := 61) rfl ?_); refine goesL_ (some 17) rfl rfl Tryd.func61 Z32 rfl #[.slice (some ⟨Al, 0, none⟩) Aj.length Bh] rfl Z67 ?_; (with_reducible refine (spec_l11Good.calls k _ _ Aj true _ ?side1 ?side2 A8.out).mono ?_); (case side1 => exact Z82); (case side2 => exact Z106); rintro e Dh ⟨rfl, hb⟩; refine ⟨_, rfl, ?_⟩; replace Aa := roB Aa hb; replace Ab := bkB Ab hb; replace HB := hbS Z22 hb; (try clear hb)))
     go_ret2
     exact ⟨_, Z14, by (with_reducible repeat (first | apply Kd.R_alloc | apply Kd.R_drewN | apply Kd.R_drew)); exact Kd.R_mono Aa.out (fun _ hk => trivial), Z22⟩
    ·replace c9 := Bool.eq_false_iff.mpr c9
     subst c9
     have H1 : (some ((([] : List (S26))), false)) = some (r1, r2) := by rw [if_neg (show ¬ (false = true) by decide)] at H; exact H
     clear H; have H := H1; clear H1; obtain ⟨C6, Au⟩ : ∃ y_ : List (S26), y_ = (([] : List (S26))) := ⟨_, rfl⟩
     replace H : (some (C6, false)) = some (r1, r2) := by first | (rw [Au]; with_reducible exact H) | (have H2_ := (Option.bind_some _ _).symm.trans H; rw [Au]; with_reducible exact H2_) | (have H2_ := (Option.bind_some _ _).symm.trans H; with_reducible exact H2_) | with_reducible exact H | (rw [Au]; exact H) | exact H
     have Bf := Aside0.mk Au; clear Au
     simp only [Option.some.injEq, Prod.mk.injEq] at H
     obtain ⟨rfl, rfl⟩ := H
     go_enter Tryd.func84, Tryd.ntmps84
     go_wp2_with (first | ((with_reducible refine gate_dst (N := 5) rfl ?_); refine bxE 5 #[.int .i64 Ad, .string Ae, .int .i64 Af, .int .i64 Ag, .int .i64 Ah] 26 ?_; intro Ai hg Di hbox hb; have Ab := aM (hbox); have B6 := gwS hg Z0; have Ak := gwS hg Z0; replace HB := hbS Z0 hb; clear hb hbox hg) | ((with_reducible refine gate_dst (N := 9) rfl ?_); refine Kd.R_lit k26 _ 26 ?hg (N := 9) ?hd (xs := ([] : List (S26))) (inner := []) (ok := fun _ => True) (okp := fun _ => True) ?hr ?hp (fun _ hk => hk) trivial (Below.refl _ _) (Nat.le_refl _) (by simp) ?_; (case hd => rfl); (case hg => rfl); (case hr => first | (go_simp; done) | (go_simp; rfl)); (case hp => exact (Reps.none _ _)); intro Bg Dj Bb hb hg_ hnew_; clear hg_ hnew_; (first | rw [← Av.out] at Bb | (simp only [Int.reduceToNat] at Bb; rw [← Av.out] at Bb)); have Am := aM (Kd.R_lower (Kd.R_newB Bb (g := Ai) (o := .cells #[.int .i64 Ad, .string Ae, .int .i64 Af, .int .i64 Ag, .int .i64 Ah] 26 (0, 0)) Z40) (below_size Z22)); replace Ab := bkB Ab hb; replace HB := hbS Z22 hb; clear hb Bb) | ((with_reducible refine gate_builtin (b := .append) (xs := #[.tmp 9, .tmp 10]) rfl ?_); at_builtin; refine Kd.R_append_rows k26 (w0 := w) w.heap.size rfl (.tmp 9) (.tmp 10) 32 26 (.agg #[(.int .i64 0), (.string ⟨#[]⟩), (.int .i64 0), (.int .i64 0), (.int .i64 0)]) 48 rfl Tryd.underlying32 info26 rfl (by decide) (by omega) Bg Ao l0 _ _ _ (fun k_ => k_ ≠ Ai) (fun _ => False) rfl rfl ?aO ?aR (fun _ _ h => h) (fun _ h => h.elim) ?aF ?aB ?aS ?aL ?_; (case aR => repeat (first | exact (Kd.C_below Da.out HB.out) | (with_reducible refine Kd.C_alloc ?_ _) | (with_reducible refine Kd.C_drewN ?_ _) | (with_reducible refine Kd.C_drew ?_))); (case aB => exact Z22); (case aF => exact (fun k_ hk => Kd.freshB (g := Ai) (o := .cells #[.int .i64 Ad, .string Ae, .int .i64 Af, .int .i64 Ag, .int .i64 Ah] 26 (0, 0)) Z40 k_ hk)); (case aO => exact Z94); (case aS => exact (below_size Z22)); (case aL => have := LMc4.out; omega); intro C4 Ax ho hb hg hat; rw [← Bc.out] at ho; replace Ab := aM (blk_grown (g := Ai) (o := .cells #[.int .i64 Ad, .string Ae, .int .i64 Af, .int .i64 Ag, .int .i64 Ah] 26 (0, 0)) Z40 hg (Kd.R_away Am.out (fun _ hk => hk.2))); replace HB := aM (hb); have Aa := aM (ho); clear Am; clear ho hb hg hat; obtain ⟨Cu, Cv, Cw, Cx, Cy⟩ := bz5 Ab; obtain ⟨Cz, C0, C1, C2, C3⟩ := fz5 Ab; have p7 : 0 ≤ (a1 : Int) := of_decide_eq_true Z10; have q7 : (a1 : Int) < ((Ac.length : Int) : Int) := of_decide_eq_true Z10; obtain ⟨Al, Bh, B7, B8, gl7, cl7, HG7⟩ := Kd.R_form Aa.out (by omega); (first | cases B7 | (injection B7 with ea_ en_ ec_; (first | subst ea_ | (injection ea_ with ea_; subst ea_)); subst ec_; clear en_)); have Ba := Aside0.mk B8; have Dc := Aside0.mk HG7; clear B8 gl7 HG7; obtain ⟨ce7, hcl7, hM7, hcc7, hfr7⟩ := Kd.R_elem Aa.out z26 (a1 : Int) p7 q7; obtain rfl := k26_openM hM7; have B9 : Ax.cell? ⟨Al, (a1 : Int).toNat * 5, none⟩ = some (.int .i64 ((rd_T26 Ac a1).f0)) := hcc7 0 _ rfl; have Ca : Ax.cell? ⟨Al, (a1 : Int).toNat * 5 + 1, none⟩ = some (.string ((rd_T26 Ac a1).f1)) := hcc7 1 _ rfl; have Cb : Ax.cell? ⟨Al, (a1 : Int).toNat * 5 + 2, none⟩ = some (.int .i64 ((rd_T26 Ac a1).f2)) := hcc7 2 _ rfl; have Cc : Ax.cell? ⟨Al, (a1 : Int).toNat * 5 + 3, none⟩ = some (.int .i64 ((rd_T26 Ac a1).f3)) := hcc7 3 _ rfl; have Cd : Ax.cell? ⟨Al, (a1 : Int).toNat * 5 + 4, none⟩ = some (.int .i64 ((rd_T26 Ac a1).f4)) := hcc7 4 _ rfl; have Ce : Ax.frozen? ⟨Al, (a1 : Int).toNat * 5, none⟩ = false := hfr7 0; have Cf : Ax.frozen? ⟨Al, (a1 : Int).toNat * 5 + 1, none⟩ = false := hfr7 1; have Cg : Ax.frozen? ⟨Al, (a1 : Int).toNat * 5 + 2, none⟩ = false := hfr7 2; have Ch : Ax.frozen? ⟨Al, (a1 : Int).toNat * 5 + 3, none⟩ = false := hfr7 3; have Ci : Ax.frozen? ⟨Al, (a1 : Int).toNat * 5 + 4, none⟩ = false := hfr7 4; clear hcl7 hcc7 hfr7 hM7; replace p7 := eq_true p7; replace q7 := eq_true q7; have HX23 := aM (show Kd.R k26 26 Ax w.heap.size (fun k_ => k_ ≠ Ai) (.slice (some ⟨Al, 0, none⟩) Ac.length Bh) Ac from Z71); obtain ⟨ce23, hcl23, hM23, hcc23, hfr23⟩ := Kd.R_elem HX23.out z26 (a1 : Int) (of_decide_eq_true Z10) Z119; obtain rfl := k26_openM hM23; have Bt := Kd.R_seg HX23.out (a1 : Int) (of_decide_eq_true Z10) Z119 (seg := [.int .i64 Ad, .string Ae, .int .i64 Af, .int .i64 Ag, .int .i64 Ah]) (j := 0) hcl23 hcc23 (show 5 ≤ 5 from by decide) (x' := (⟨Ad, Ae, Af, Ag, Ah⟩ : S26)) (k26_mkM _ _ _ (⟨Ad, Ae, Af, Ag, Ah⟩ : S26) ) (fun _ hk => hk); have Bu := hcc23 0 _ rfl; (try simp only [show (k26).sz = 5 from rfl, Nat.mul_one, Nat.add_zero] at Bu); have Bv := hfr23 0; (try simp only [show (k26).sz = 5 from rfl, Nat.mul_one, Nat.add_zero] at Bv); have Bw := hcc23 1 _ rfl; (try simp only [show (k26).sz = 5 from rfl, Nat.mul_one, Nat.add_zero] at Bw); have Bx := hfr23 1; (try simp only [show (k26).sz = 5 from rfl, Nat.mul_one, Nat.add_zero] at Bx); have Bz := hcc23 2 _ rfl; (try simp only [show (k26).sz = 5 from rfl, Nat.mul_one, Nat.add_zero] at Bz); have B0 := hfr23 2; (try simp only [show (k26).sz = 5 from rfl, Nat.mul_one, Nat.add_zero] at B0); have B1 := hcc23 3 _ rfl; (try simp only [show (k26).sz = 5 from rfl, Nat.mul_one, Nat.add_zero] at B1); have B2 := hfr23 3; (try simp only [show (k26).sz = 5 from rfl, Nat.mul_one, Nat.add_zero] at B2); have B3 := hcc23 4 _ rfl; (try simp only [show (k26).sz = 5 from rfl, Nat.mul_one, Nat.add_zero] at B3); have B4 := hfr23 4; (try simp only [show (k26).sz = 5 from rfl, Nat.mul_one, Nat.add_zero] at B4); clear hcl23 hcc23 hfr23 hM23) | ((with_reducible refine gate_store (t := 26) (p := 15) rfl ?_); refine store_event (t := 26) (p := 15) (v := ?vo_w24) (w1 := (((((Ax.setCell ⟨Al, (a1 : Int).toNat * 5, none⟩ (.int .i64 Ad)).setCell ⟨Al, (a1 : Int).toNat * 5 + 1, none⟩ (.string Ae)).setCell ⟨Al, (a1 : Int).toNat * 5 + 2, none⟩ (.int .i64 Af)).setCell ⟨Al, (a1 : Int).toNat * 5 + 3, none⟩ (.int .i64 Ag)).setCell ⟨Al, (a1 : Int).toNat * 5 + 4, none⟩ (.int .i64 Ah))) ?hg ?ho ?hn ?hr ?_; (case ho => rfl); (case hg => rfl); (case hn => rfl); (case hr => first | (go_simp; done) | (go_simp; rfl)); intro C7 hw; have hg : Ax.grownBy C7 (some Al) := (by rw [hw]; exact Bt.2); have hp_ : Kd.R k26 26 C7 w.heap.size (fun k_ => k_ ≠ Ai) (.slice (some ⟨Al, 0, none⟩) Ac.length Bh) Aj := (by rw [hw, Bd.out]; exact Bt.1); clear Bt; replace Ab := aM (blk_grown (g := Ai) (o := .cells #[.int .i64 Ad, .string Ae, .int .i64 Af, .int .i64 Ag, .int .i64 Ah] 26 (0, 0)) Z40 hg (Kd.R_away Aa.out (fun _ hk => hk))); replace Aa := aM (hp_); replace HB := aM ((Z96 : Below w.heap.size w C7)); clear hg hw hp_) | ((with_reducible refine gate_callee (f := 61) rfl ?_); refine goesL_ (some 17) rfl rfl Tryd.func61 Z32 rfl #[.slice (some ⟨Al, 0, none⟩) Aj.length Bh] rfl Z67 ?_; (with_reducible refine (spec_l11Good.calls k _ _ Aj false _ ?side1 ?side2 A8.out).mono ?_); (case side1 => exact Z82); (case side2 => exact Z106); rintro e Dk ⟨rfl, hb⟩; refine ⟨_, rfl, ?_⟩; replace Aa := roB Aa hb; replace Ab := bkB Ab hb; replace HB := hbS Z22 hb; (try clear hb)) | ((with_reducible refine gate_dst (N := 19) rfl ?_); refine Kd.R_lit k26 _ 26 ?hg (N := 19) ?hd (xs := ([] : List (S26))) (inner := []) (ok := fun _ => True) (okp := fun _ => True) ?hr ?hp (fun _ hk => hk) trivial (Below.refl _ _) (Nat.le_refl _) (by simp) ?_; (case hd => rfl); (case hg => rfl); (case hr => first | (go_simp; done) | (go_simp; rfl)); (case hp => exact (Reps.none _ _)); intro Dd Dl Ay hb hg_ hnew_; clear hg_ hnew_; (first | rw [← Bf.out] at Ay | (simp only [Int.reduceToNat] at Ay; rw [← Bf.out] at Ay)); have Cj := aM (Kd.R_lower (Kd.R_newB (Kd.R_new' Ay (Kd.R_lt Z71)) (g := Ai) (o := .cells #[.int .i64 Ad, .string Ae, .int .i64 Af, .int .i64 Ag, .int .i64 Ah] 26 (0, 0)) Z40) (below_size Z22)); replace Aa := aM (Kd.R_elder' Z71 (Kd.R_base Ay) hb); replace Ab := bkB Ab hb; replace HB := hbS Z22 hb; clear hb Ay))
     go_ret2
     exact ⟨_, Z14, by (with_reducible repeat (first | apply Kd.R_alloc | apply Kd.R_drewN | apply Kd.R_drew)); exact Kd.R_mono Cj.out (fun _ hk => trivial), Z22⟩
   ·rw [if_neg c6] at H
    exact absurd H (by simp)
  ·rw [if_neg c5] at H
   exact absurd H (by simp)
 ·rw [if_neg c4] at H
  exact absurd H (by simp)
set_option maxHeartbeats 4000000 in
set_option maxRecDepth 100000 in
theorem findWeaver_1 (b : Nat) (x : S26) (a1 : Int) (W : World) (hc : W.cell? ⟨b, 0, none⟩ = some (.int .i64 a1)) (hb : b < W.heap.size) :
  Calls Tryd.prog 103 #[.agg #[.int .i64 x.f0, .string x.f1, .int .i64 x.f2, .int .i64 x.f3, .int .i64 x.f4], .pointer (some ⟨b, 0, none⟩)] W fun e w' => e = .returned (.bool (decide (x.f0 = a1))) ∧ Below W.heap.size W w' := by
 have hu_ := Tryd.underlying26; have hB1 : Below W.heap.size W (W.alloc (.cells #[.int .i64 x.f0, .string x.f1, .int .i64 x.f2, .int .i64 x.f3, .int .i64 x.f4] 26)) := below_alloc (Below.refl _ _) _; have Aa : (W.alloc (.cells #[.int .i64 x.f0, .string x.f1, .int .i64 x.f2, .int .i64 x.f3, .int .i64 x.f4] 26)).cell? ⟨b, 0, none⟩ = some (.int .i64 a1) := (hB1.cell (p := ⟨b, 0, none⟩) hb).trans hc; have HB := Aside0.mk hB1; clear hB1 hc
 by_cases h : x.f0 = a1
 ·have d0 : (x.f0 == a1) = true := beq_iff_eq.2 h
  rw [decide_eq_true h]; clear h
  go_enter Tryd.func103, Tryd.ntmps103
  go_wp2
  go_ret
  exact ⟨by first | rfl | (simp; done) | (simp [d0]; done), HB.out⟩
 ·have d0 : (x.f0 == a1) = false := beq_eq_false_iff_ne.2 h
  rw [decide_eq_false h]; clear h
  go_enter Tryd.func103, Tryd.ntmps103
  go_wp2
  go_ret
  exact ⟨by first | rfl | (simp; done) | (simp [d0]; done), HB.out⟩
def impl_findWeaver.f (l0 : List (S26)) (a1 : Int) : Option Int := (impl_AreWeavers.f l0).bind fun b => some (if b = true then findI (fun x => decide (x.f0 = a1)) l0 else -1)
theorem impl_findWeaver.calls (A0 : Option Addr) (c0 : Nat) (l0 : List (S26)) (a1 : Int) (r : Int) (w : World) (Aa : Kd.C k26 w A0 l0.length l0) (Ab : l0.length ≤ c0) (h : impl_findWeaver.f l0 a1 = some r) :
  Calls Tryd.prog 85 #[.slice A0 l0.length c0, .int .i64 a1] w fun e w' => e = .returned (.int .i64 r) ∧ Below w.heap.size w w' := by
 obtain ⟨b, hb, h1⟩ := Option.bind_eq_some_iff.mp h; obtain rfl := Option.some.inj h1; clear h h1
 have hmf : ∀ (fn : Fn) (first cap : Array Value) (w : World), (Instr.makeFunc fn first cap).run Tryd.prog w = .ok (.func fn first cap) w := fun _ _ _ _ => rfl
 have hB1 : Below w.heap.size w (w.alloc (.cells #[.int .i64 a1] 3)) := below_alloc (Below.refl _ _) _
 have hcell : (w.alloc (.cells #[.int .i64 a1] 3)).cell? ⟨w.heap.size, 0, none⟩ = some (.int .i64 a1) := by simp
 have hsz : w.heap.size < (w.alloc (.cells #[.int .i64 a1] 3)).heap.size := by simp
 have hA := impl_AreWeavers.calls A0 c0 l0 b (w.alloc (.cells #[.int .i64 a1] 3)) (Kd.C_below Aa hB1) Ab hb
 have h3 : ∀ W, Below (w.heap.size + 1) (w.alloc (.cells #[.int .i64 a1] 3)) W → _ := fun W hb => IndexFunc_wv (fun x => decide (x.f0 = a1)) 103 #[.pointer (some ⟨w.heap.size, 0, none⟩)] A0 c0 l0 W (enters_of Tryd.func103 Z32 rfl) (Kd.C_below (Kd.C_below Aa hB1) (hb.mono (by simp)))
  (fun W2 x hb2 => findWeaver_1 w.heap.size x a1 W2 ((hb2.cell (p := ⟨w.heap.size, 0, none⟩) (Nat.lt_of_lt_of_le hsz Z108)).trans ((hb.cell (p := ⟨w.heap.size, 0, none⟩) (Nat.lt_succ_self _)).trans hcell)) (Nat.lt_of_lt_of_le (Nat.lt_of_lt_of_le hsz Z108) hb2.size))
 have HA := Aside0.mk hA; have H3 := Aside0.mk h3; have HB := Aside0.mk hB1; clear hA h3 hB1 hcell Aa Ab hb hsz; cases b with
 | false =>
  go_enter Tryd.func85, Tryd.ntmps85
  go_wp2_with fail
  refine HA.out.mono ?_; rintro e w1 ⟨rfl, hb1⟩
  go_wp2
  go_ret
  exact ⟨Z75, below_step HB.out hb1⟩
 | true =>
  go_enter Tryd.func85, Tryd.ntmps85
  go_wp2_with fail
  refine HA.out.mono ?_; rintro e w1 ⟨rfl, hb1⟩; have Ac := aM (below_step HB.out hb1); have HV := aM (show Below (w.heap.size + 1) (w.alloc (.cells #[.int .i64 a1] 3)) w1 from hb1.mono (by simp)); clear hb1
  go_wp2_with fail
  refine (H3.out _ HV.out).mono ?_; rintro e w2 ⟨rfl, hb2⟩
  go_wp2
  go_ret
  exact ⟨Z75, below_step Ac.out hb2⟩
end Go.Proofs.YthalifhbjioaeaaDoor.H
