-- by wip/pack.py of this repo
import Derived.Test.YtnkecgldapagcaaZ06Hx0
import Derived.Test.YtnkecgldapagcaaZ06Hx2
import Derived.Test.YtnkecgldapagcaaZ06Hx3
import Derived.Test.YtnkecgldapagcaaZ06WLast
import Derived.Test.YtnkecgldapagcaaZ06WMore
import Derived.Test.YtnkecgldapagcaaZ06WTab
import Derived.Test.YtnkecgldapagcaaZ06WWords
import Derived.Test.YtnkecgldapagcaaZ06Short
namespace Go.Proofs.Ytnkecgldapagcaa.H
open Go.RowKit Go.Proofs.YtnkecgldapagcaaW.PrintWords Go.Proofs.YtnkecgldapagcaaW.PrintLast Go.Proofs.YtnkecgldapagcaaW.PrintMore
attribute [local go_sem] max2_int min2_int max_two min_two max_three min_three max_four min_four
set_option maxHeartbeats 8000000
set_option maxRecDepth 100000
set_option linter.unusedVariables false
set_option linter.unusedSimpArgs false
mutual
def spec_YarnByColor.j0 : Nat → List Int → Bool → Int → Int → List Int → Int → Int → Int → Int → Option (List Int × Bool)
 | 0, _, _, _, _, _, _, _, _, _ => none
 | k + 1, x6, x17, x133000, x133001, x133002, x134000, x134001, x134002, x134003 => if x17 = true then (some (x6, false)) else ((spec_l10Counts.f k x133000 x133001 x133002).bind fun t139 => (spec_YarnByColor.l0 k x6 t139 0 x134000 x134001 x134002 x134003))
def spec_YarnByColor.l0 : Nat → List Int → List Int → Int → Int → Int → Int → Int → Option (List Int × Bool)
 | 0, _, _, _, _, _, _, _ => none
 | k + 1, x6, x7, x8, x134000, x134001, x134002, x134003 => if x8 < (x7.length : Int) then (if 0 ≤ x8 then ((spec_l10For.f x134000 x134001 x134002 x134003 (rd x7 x8)).bind fun t143 => (if x6.length < 17592186044416 then (spec_YarnByColor.l0 k (x6 ++ [t143]) x7 (wrap64 (x8 + 1)) x134000 x134001 x134002 x134003) else (none))) else (none)) else (some (x6, true))
end
def spec_YarnByColor.f (k : Nat) (a0_0 : Int) (a0_1 : Int) (l0_2 : List Int) (a1_0 : Int) (a1_1 : Int) (a1_2 : Int) (a1_3 : Int) : Option (List Int × Bool) := (some (([] : List Int) : List Int)).bind fun y134 => ((spec_l2Good.f k a0_0 a0_1 l0_2).bind fun t137 => (if t137 = true then ((spec_l10Good.f a1_0 a1_1 a1_2 a1_3).bind fun t138 => (spec_YarnByColor.j0 k y134 (!t138) a0_0 a0_1 l0_2 a1_0 a1_1 a1_2 a1_3)) else (spec_YarnByColor.j0 k y134 true a0_0 a0_1 l0_2 a1_0 a1_1 a1_2 a1_3)))
def spec_YarnByColor.T8 : Bool × List (List Nat × List Nat) := (true, [([], []), ([], []), ([], []), ([], []), ([2, 3], [2, 3]), ([4], [4]), ([1, 5], [1, 5]), ([6], [6]), ([0, 7, 6], [0, 7]), ([8, 8, 0, 1, 2, 3, 4, 5, 6, 7, 8], [0, 8])])
def spec_YarnByColor.B8 : List Nat := [0, 0, 0, 0, 12, 28, 62, 126, 255, 511]
theorem spec_YarnByColor.tab8 : rtab .any (opsOf Try.f12 8) = spec_YarnByColor.T8 := by kernel_rfl
theorem spec_YarnByColor.bits8 : waitsOk spec_YarnByColor.T8.2 spec_YarnByColor.B8 = true := by kernel_rfl
theorem spec_YarnByColor.calls (k : Nat) (Ai : Int) (Aj : Int) (Ax : Option Addr) (Ay : Nat) (Ah : List Int) (Ac : Int) (Ad : Int) (Ae : Int) (Af : Int) (r1 : List Int) (r2 : Bool) (w : World) (Ce : Kd.C (Kd.int .i64) w Ax Ah.length Ah) (Cf : Ah.length ≤ Ay) (h : spec_YarnByColor.f k Ai Aj Ah Ac Ad Ae Af = some (r1, r2)) :
  Calls Try.prog 12 #[.agg #[.int .i64 Ai, .int .i64 Aj, .slice Ax Ah.length Ay], .agg #[.int .i64 Ac, .int .i64 Ad, .int .i64 Ae, .int .i64 Af]] w fun e w' => ∃ v0_ : Value, e = .returned (.tuple #[v0_, .bool r2]) ∧ Kd.R (Kd.int .i64) 3 w' w.heap.size (fun _ => True) v0_ r1 ∧ Below w.heap.size w w' := by
 have hu30 := Try.underlying30; have hu32 := Try.underlying32; have B1 := Aside0.mk Ce; have B2 := Aside0.mk Cf; clear Ce Cf; have HB := aM (Below.refl w.heap.size w); have H : ((some (([] : List Int) : List Int)).bind fun Am => ((spec_l2Good.f k Ai Aj Ah).bind fun B0 => (if B0 = true then ((spec_l10Good.f Ac Ad Ae Af).bind fun Av => (spec_YarnByColor.j0 k Am (!Av) Ai Aj Ah Ac Ad Ae Af)) else (spec_YarnByColor.j0 k Am true Ai Aj Ah Ac Ad Ae Af)))) = some (r1, r2) := h; clear h; obtain ⟨Am, Az⟩ : ∃ y_ : List Int, y_ = (([] : List Int)) := ⟨_, rfl⟩
 replace H : ((spec_l2Good.f k Ai Aj Ah).bind fun B0 => (if B0 = true then ((spec_l10Good.f Ac Ad Ae Af).bind fun Av => (spec_YarnByColor.j0 k Am (!Av) Ai Aj Ah Ac Ad Ae Af)) else (spec_YarnByColor.j0 k Am true Ai Aj Ah Ac Ad Ae Af))) = some (r1, r2) := by first | (rw [Az]; with_reducible exact H) | (have H2_ := (Option.bind_some _ _).symm.trans H; rw [Az]; with_reducible exact H2_) | (have H2_ := (Option.bind_some _ _).symm.trans H; with_reducible exact H2_) | with_reducible exact H | (rw [Az]; exact H) | exact H
 have Cg := Aside0.mk Az; clear Az; have Cx := Aside0.mk H; clear H
 go_enter Try.func12, Try.ntmps12
 go_upto_region 2 with (first | ((with_reducible refine gate_dst (N := 2) rfl ?_); refine bxE 2 #[.int .i64 Ai, .int .i64 Aj, .slice Ax Ah.length Ay] 30 ?_; intro B3 hg w4 hbox hb; have Aa := aM (hbox); have C3 := gwS hg Z2; have Ag := gwS hg Z2; replace HB := hbS Z2 hb; clear hb hbox hg) | ((with_reducible refine gate_dst (N := 3) rfl ?_); refine bxE 3 #[.int .i64 Ac, .int .i64 Ad, .int .i64 Ae, .int .i64 Af] 32 ?_; intro Aw hg w5 hbox hb; have Ab := aM (hbox); have C4 := gwS hg Z10; have Ak := gwS hg Z10; replace HB := hbS Z10 hb; have Ap := nbL hg Aa; have Aq := nbG hg Aa; replace Aa := bkB Aa hb; clear hb hbox hg) | ((with_reducible refine gate_dst (N := 9) rfl ?_); refine Kd.R_lit (Kd.int .i64) _ 3 ?hg (N := 9) ?hd (xs := ([] : List Int)) (inner := []) (ok := fun _ => True) (okp := fun _ => True) ?hr ?hp (fun _ hk => hk) trivial (Below.refl _ _) (Nat.le_refl _) (by simp) ?_; (case hd => rfl); (case hg => rfl); (case hr => first | (go_simp; done) | (go_simp; rfl)); (case hp => exact (Reps.none _ _)); intro Cy w6 Cl hb hg_ hnew_; clear hg_ hnew_; (first | rw [← Cg.out] at Cl | (simp only [Int.reduceToNat] at Cl; rw [← Cg.out] at Cl)); have Ar := aM (Kd.R_lower Cl (below_size Z31)); replace Aa := bkB Aa hb; replace Ab := bkB Ab hb; replace HB := hbS Z31 hb; clear hb Cl))
 (try simp only [Act.put, List.setIfInBounds_toArray, List.set_cons_zero, List.set_cons_succ])
 go_cut [17] (fun Dc wc => ∃ (kq : Nat) (Bc : Bool), Dc = .bool Bc ∧ Aside0 (spec_YarnByColor.j0 kq Am Bc Ai Aj Ah Ac Ad Ae Af = some (r1, r2)) ∧ Aside0 (kq ≤ k) ∧ Aside0 (Kd.R (Kd.int .i64) 3 wc w.heap.size (fun _ => True) Cy Am) ∧ Aside0 (wc.heap[B3]? = some (.cells #[.int .i64 Ai, .int .i64 Aj, (.slice Ax Ah.length Ay)] 30 (0, 0))) ∧ Aside0 (wc.heap[Aw]? = some (.cells #[.int .i64 Ac, .int .i64 Ad, .int .i64 Ae, .int .i64 Af] 32 (0, 0))) ∧ Aside0 (Below w.heap.size w wc))
 case first =>
  have H := Cx.out; clear Cx; replace H := Option.bind_eq_some_iff.mp H; obtain ⟨B0, C5, H⟩ := H; replace H : (if B0 = true then ((spec_l10Good.f Ac Ad Ae Af).bind fun Av => (spec_YarnByColor.j0 k Am (!Av) Ai Aj Ah Ac Ad Ae Af)) else (spec_YarnByColor.j0 k Am true Ai Aj Ah Ac Ad Ae Af)) = some (r1, r2) := H; have A8 := Aside0.mk C5; clear C5
  by_cases c9 : B0 = true
  ·subst c9
   have H1 : ((spec_l10Good.f Ac Ad Ae Af).bind fun Av => (spec_YarnByColor.j0 k Am (!Av) Ai Aj Ah Ac Ad Ae Af)) = some (r1, r2) := by rw [if_pos rfl] at H; exact H
   clear H; have H := H1; clear H1; replace H := Option.bind_eq_some_iff.mp H; obtain ⟨Av, Cm, H⟩ := H; replace H : (spec_YarnByColor.j0 k Am (!Av) Ai Aj Ah Ac Ad Ae Af) = some (r1, r2) := H; have Dd := Aside0.mk Cm; clear Cm; have H' := Aside0.mk H; clear H; have C6 := Ap.out; have C7 := Aq.out; obtain ⟨Bd, Bf, Bg⟩ := bz3 Aa; obtain ⟨Bh, Bi, Bj⟩ := fz3 Aa
   go_wp2_with (first | ((with_reducible refine gate_callee (f := 47) rfl ?_); refine glE (some 11) Try.func47 #[.agg #[.int .i64 Ai, .int .i64 Aj, .slice Ax Ah.length Ay]] ?_; (with_reducible refine (spec_l2Good.calls k Ai Aj _ _ Ah true _ ?side1 ?side2 A8.out).mono ?_); (case side1 => exact Z76); (case side2 => exact B2.out); rintro e Dn ⟨rfl, hb⟩; refine ⟨_, rfl, ?_⟩; replace Ar := roB Ar hb; replace Aa := bkB Aa hb; replace Ab := bkB Ab hb; replace HB := hbS Z31 hb; (try clear hb); obtain ⟨Bk, Bl, Bm, Bn⟩ := bz4 Ab; obtain ⟨Bo, Bp, Bq, Br⟩ := fz4 Ab) | (go_at_call 48; (with_reducible refine (spec_l10Good.calls Ac Ad Ae Af Av _ Dd.out).mono ?_); rintro e Dp ⟨rfl, hb⟩; replace Ar := roB Ar hb; replace Aa := bkB Aa hb; replace Ab := bkB Ab hb; replace HB := hbS Z31 hb; (try clear hb)))
   go_meet
   case rel => exact ⟨_, (!Av), Z38, H', ⟨Z120⟩, ⟨Z97⟩, ⟨Z44⟩, ⟨Z11⟩, ⟨Z31⟩⟩
  ·replace c9 := Bool.eq_false_iff.mpr c9
   subst c9
   have H1 : (spec_YarnByColor.j0 k Am true Ai Aj Ah Ac Ad Ae Af) = some (r1, r2) := by rw [if_neg (show ¬ (false = true) by decide)] at H; exact H
   clear H; have H := H1; clear H1; have H' := Aside0.mk H; clear H; have C8 := Ap.out; have C9 := Aq.out; obtain ⟨Bs, Bt, Bu⟩ := bz3 Aa; obtain ⟨Bv, Bw, Bx⟩ := fz3 Aa
   go_wp2_with (first | ((with_reducible refine gate_callee (f := 47) rfl ?_); refine glE (some 11) Try.func47 #[.agg #[.int .i64 Ai, .int .i64 Aj, .slice Ax Ah.length Ay]] ?_; (with_reducible refine (spec_l2Good.calls k Ai Aj _ _ Ah false _ ?side1 ?side2 A8.out).mono ?_); (case side1 => exact Z76); (case side2 => exact B2.out); rintro e Dq ⟨rfl, hb⟩; refine ⟨_, rfl, ?_⟩; replace Ar := roB Ar hb; replace Aa := bkB Aa hb; replace Ab := bkB Ab hb; replace HB := hbS Z31 hb; (try clear hb)))
   go_meet
   case rel => exact ⟨_, (true), Z38, H', ⟨Z120⟩, ⟨Z97⟩, ⟨Z44⟩, ⟨Z11⟩, ⟨Z31⟩⟩
 case rest =>
  clear Cx; (try clear c1); (try clear p2); (try clear c4); (try clear c9); (try clear De); (try clear Df); (try clear Dg); (try clear Bd); (try clear Bf); (try clear Bg); (try clear Bk); (try clear Bl); (try clear Bm); (try clear Bn); (try clear Bs); (try clear Bt); (try clear Bu); (try clear Bh); (try clear Bi); (try clear Bj); (try clear Bo); (try clear Bp); (try clear Bq); (try clear Br); (try clear Bv); (try clear Bw); (try clear Bx); obtain ⟨kq, Bc, rfl, HA, HJ2, An, Aa, Ab, HB⟩ := hcut; cases kq with
  | zero => exact absurd HA.out (by simp [spec_YarnByColor.j0])
  | succ Cj =>
   have H := HA.out; clear HA
   simp only [spec_YarnByColor.j0] at H
   by_cases Cn : Bc = true
   ·subst Cn
    have H1 : (some (Am, false)) = some (r1, r2) := by rw [if_pos rfl] at H; exact H
    clear H; have H := H1; clear H1
    simp only [Option.some.injEq, Prod.mk.injEq] at H
    obtain ⟨rfl, rfl⟩ := H
    go_wp2
    go_ret2
    exact ⟨_, Z8, Z77, Z31⟩
   ·replace Cn := Bool.eq_false_iff.mpr Cn
    subst Cn
    have H1 : ((spec_l10Counts.f Cj Ai Aj Ah).bind fun Ao => (spec_YarnByColor.l0 Cj Am Ao 0 Ac Ad Ae Af)) = some (r1, r2) := by rw [if_neg (show ¬ (false = true) by decide)] at H; exact H
    clear H; have H := H1; clear H1; replace H := Option.bind_eq_some_iff.mp H; obtain ⟨Ao, Co, H⟩ := H; replace H : (spec_YarnByColor.l0 Cj Am Ao 0 Ac Ad Ae Af) = some (r1, r2) := H; have Dh := Aside0.mk Co; clear Co; have H' := Aside0.mk H; clear H; have Da := Ap.out; have Db := Aq.out; obtain ⟨B7, B9, Ca⟩ := bz3 Aa; obtain ⟨Cb, Cc, Cd⟩ := fz3 Aa
    go_wp2_with (first | ((with_reducible refine gate_callee (f := 49) rfl ?_); refine glE (some 20) Try.func49 #[.agg #[.int .i64 Ai, .int .i64 Aj, .slice Ax Ah.length Ay]] ?_; (with_reducible refine (spec_l10Counts.calls Cj Ai Aj _ _ Ah Ao _ ?side1 ?side2 Dh.out).mono ?_); (case side1 => exact Z76); (case side2 => exact B2.out); rintro e Dr ⟨Cp, rfl, Cz, hb⟩; refine ⟨_, rfl, ?_⟩; have Cq := aM (Kd.R_lower (Kd.R_new' Cz (Kd.R_lt Z77)) (below_size Z31)); replace An := aM (Kd.R_elder' Z77 (Kd.R_base Cz) hb); replace Aa := bkB Aa hb; replace Ab := bkB Ab hb; replace HB := hbS Z31 hb; (try clear hb); (try clear Cz)))
    go_loopg [6, 8] Cj (fun kq v6 v8 w' => ∃ (Ba : List Int) (Al : Int), v8 = .int .i64 Al ∧ Aside0 (spec_YarnByColor.l0 kq Ba Ao Al Ac Ad Ae Af = some (r1, r2)) ∧ Aside0 (kq ≤ Cj) ∧ Aside0 (Kd.R (Kd.int .i64) 3 w' w.heap.size (fun k_ => nV k_ Cp) v6 Ba) ∧ Aside0 (Kd.R (Kd.int .i64) 3 w' w.heap.size (fun k_ => nV k_ v6) Cp Ao) ∧ Aside0 (w'.heap[B3]? = some (.cells #[.int .i64 Ai, .int .i64 Aj, (.slice Ax Ah.length Ay)] 30 (0, 0))) ∧ Aside0 (w'.heap[Aw]? = some (.cells #[.int .i64 Ac, .int .i64 Ad, .int .i64 Ae, .int .i64 Af] 32 (0, 0))) ∧ Aside0 (Below w.heap.size w w'))
    case atStart => exact ⟨(Am), (0), Z38, H', ⟨Nat.le_refl _⟩, ⟨by (with_reducible repeat (first | apply Kd.R_alloc | apply Kd.R_drewN | apply Kd.R_drew)); exact Kd.R_mono An.out (fun _ hk => hk.2)⟩, ⟨by (with_reducible repeat (first | apply Kd.R_alloc | apply Kd.R_drewN | apply Kd.R_drew)); exact Kd.R_mono Cq.out (fun _ hk => hk.2)⟩, ⟨Z44⟩, ⟨Z11⟩, ⟨Z31⟩⟩
    case round =>
     clear H'; (try clear c1); (try clear c2); (try clear p2); (try clear c4); (try clear c9); (try clear De); (try clear Df); (try clear Dg); (try clear Cn); (try clear Ds); (try clear Bd); (try clear Bf); (try clear Bg); (try clear Bk); (try clear Bl); (try clear Bm); (try clear Bn); (try clear Bs); (try clear Bt); (try clear Bu); (try clear B7); (try clear B9); (try clear Ca); (try clear Bh); (try clear Bi); (try clear Bj); (try clear Bo); (try clear Bp); (try clear Bq); (try clear Br); (try clear Bv); (try clear Bw); (try clear Bx); (try clear Cb); (try clear Cc); (try clear Cd); (try clear p2); obtain ⟨Ba, Al, rfl, HA, HK2, An, Au, Aa, Ab, HB⟩ := hrel; cases gk with
     | zero => exact absurd HA.out (by simp [spec_YarnByColor.l0])
     | succ k2 =>
      have H := HA.out; clear HA
      simp only [spec_YarnByColor.l0] at H
      by_cases Ck : Al < (Ao.length : Int)
      ·rw [if_pos Ck] at H
       have c24b0 : decide (Al < (Ao.length : Int)) = true := decide_eq_true Ck; clear Ck
       by_cases Cv : 0 ≤ Al
       ·rw [if_pos Cv] at H
        have c25b0 : decide (0 ≤ Al) = true := decide_eq_true Cv; clear Cv; replace H := Option.bind_eq_some_iff.mp H; obtain ⟨B5, Cr, H⟩ := H; replace H : (if Ba.length < 17592186044416 then (spec_YarnByColor.l0 k2 (Ba ++ [B5]) Ao (wrap64 (Al + 1)) Ac Ad Ae Af) else (none)) = some (r1, r2) := H; have Di := Aside0.mk Cr; clear Cr
        by_cases Cw : Ba.length < 17592186044416
        ·rw [if_pos Cw] at H
         have LMc27 := Aside0.mk Cw; clear Cw; obtain ⟨Cs, Bb⟩ : ∃ y_ : List Int, y_ = (Ba ++ [B5]) := ⟨_, rfl⟩
         replace H : (spec_YarnByColor.l0 k2 Cs Ao (wrap64 (Al + 1)) Ac Ad Ae Af) = some (r1, r2) := by first | (rw [Bb]; with_reducible exact H) | (have H2_ := (Option.bind_some _ _).symm.trans H; rw [Bb]; with_reducible exact H2_) | (have H2_ := (Option.bind_some _ _).symm.trans H; with_reducible exact H2_) | with_reducible exact H | (rw [Bb]; exact H) | exact H
         have Ct := Aside0.mk Bb; clear Bb; have H' := Aside0.mk H; clear H; obtain ⟨Dj, C0, C1⟩ := Kd.R_slice Au.out; subst C1
         try go_wp2
         replace An := aM (Kd.R_drew An.out); replace Au := aM (Kd.R_drew Au.out); replace Aa := aM (blk_drew Aa.out); replace Ab := aM (blk_drew Ab.out); replace HB := aM (below_drew1 HB.out); have Ch : 0 ≤ (Al : Int) := of_decide_eq_true Z30; have Ci : Al < (Ao.length : Int) := of_decide_eq_true Z30; obtain ⟨ad142, e142, Bz⟩ := Kd.at_int (Kd.R_reads' Au.out).2.2 Al Ch Ci; cases e142; replace Ch := eq_true Ch; replace Ci := eq_true Ci; refine start_ (n := 10) (S := fun w' => w'.cell? ⟨Aw, 0, none⟩ = some (.int .i64 Ac) ∧ w'.cell? ⟨Aw, 1, none⟩ = some (.int .i64 Ad) ∧ w'.cell? ⟨Aw, 2, none⟩ = some (.int .i64 Ae) ∧ w'.cell? ⟨Aw, 3, none⟩ = some (.int .i64 Af) ∧ w'.cell? (ad142.add (Al).toNat) = some (.int .i64 (rd Ao Al))) (ds := [7, 8]) #[false, false, false, false, false, false, false, false, false, false] Z66 rfl rfl ⟨(blk_cell Ab.out 0).trans rfl, (blk_cell Ab.out 1).trans rfl, (blk_cell Ab.out 2).trans rfl, (blk_cell Ab.out 3).trans rfl, Bz⟩ (fun hHeld => ?_); refine with_tabW spec_YarnByColor.tab8 spec_YarnByColor.bits8 (fun HT_ HW_ => ?_)
         generalize wr.drew = Dt at An Au Aa Ab HB Bz hHeld ⊢
         refine puR 0 27 #[true, false, false, false, false, false, false, false, false, false] HT_ rfl rfl ?_; refine puR 2 29 #[true, false, true, false, false, false, false, false, false, false] HT_ rfl rfl ?_; refine puR 3 30 #[true, false, true, true, false, false, false, false, false, false] HT_ rfl rfl ?_; refine puR 4 31 #[true, false, true, true, true, false, false, false, false, false] HT_ rfl rfl ?_; refine taR 1 28 #[true, true, true, true, true, false, false, false, false, false] HT_ HW_ hHeld rfl rfl ?_; refine taR 5 32 #[true, true, true, true, true, true, false, false, false, false] HT_ HW_ hHeld rfl rfl ?_; refine one_ (i := 6) (N := some 33) #[true, true, true, true, true, true, true, false, false, false] rfl rfl (one_of HT_.out Z66) (by decide) (fun K hK => ?_); refine goes_ Try.func50 Z66 rfl #[.agg #[.int .i64 Ac, .int .i64 Ad, .int .i64 Ae, .int .i64 Af], .int .i64 (rd Ao Al)] (by rfl) rfl rfl Z62 ?_; (with_reducible refine (spec_l10For.calls Ac Ad Ae Af (rd Ao Al) B5 _ Di.out).mono ?_); rintro e Du ⟨rfl, hb⟩; have HS4_ := (hb.cell (World.block_lt_of_cell? _ _ (hHeld.2.2.2.2))).trans (hHeld.2.2.2.2); refine ⟨_, rfl, ?_⟩; replace An := roB An hb; replace Au := roB Au hb; replace Aa := bkB Aa hb; replace Ab := bkB Ab hb; replace HB := hbS Z31 hb; (try clear hb); (try clear hb2); (try clear hk); (try clear hi); refine hK.out _ _ (by exact ⟨(blk_cell Ab.out 0).trans rfl, (blk_cell Ab.out 1).trans rfl, (blk_cell Ab.out 2).trans rfl, (blk_cell Ab.out 3).trans rfl, HS4_⟩) (fun hHeld => ?_); clear hK K; refine noR 33 ?_; refine last_ (i := 7) (N := some 34) #[true, true, true, true, true, true, true, true, false, false] rfl rfl (one_of HT_.out Z66) (by decide) (fun K hK => ?_); refine value_ (w1 := ?_) (v := ?_) (by rfl) rfl ?_ ?_
         rotate_left 2
         ·go_simp
          constructor
          ·rfl
          ·rfl
         refine hK.out _ _ ?_; clear hK K; refine noR 34 ?_; refine last_ (i := 8) (N := some 35) #[true, true, true, true, true, true, true, true, true, false] rfl rfl (one_of HT_.out Z66) (by decide) (fun K hK => ?_); refine Kd.R_append_step (Kd.int .i64) (w0 := w) w.heap.size (by rfl) (.tmp 27) (.tmp 34) 22 3 (.int .i64 0) 8 rfl Try.underlying22 info3 rfl (by decide) (by omega) u6 Ba B5 [.int .i64 B5] (fun k_ => some k_ ≠ (.slice (some ad142) Ao.length C0 : Value).ownBlock) (fun _ => False) rfl rfl ?aP (fun _ hk => hk.elim) ?aF ?aO ?aB ?aS ?aL ?_; (case aP => exact rfl); (case aB => exact Z31); (case aF => exact (fun k_ hk => Kd.fresh' (Kd.R_lt Z114) k_ hk)); (case aO => exact Z77); (case aS => exact (below_size Z31)); (case aL => have := LMc27.out; omega); intro Dk Dv ho hb hg hat; rw [← Ct.out] at ho; replace Au := aM (Kd.R_after (ok := (fun _ => True)) Z102 hg hat); replace Aa := aM (blk_grown (g := B3) (o := .cells #[.int .i64 Ai, .int .i64 Aj, .slice Ax Ah.length Ay] 30 (0, 0)) Z44 hg (Kd.R_ne An.out Aa.out (by decide))); replace Ab := aM (blk_grown (g := Aw) (o := .cells #[.int .i64 Ac, .int .i64 Ad, .int .i64 Ae, .int .i64 Af] 32 (0, 0)) Z11 hg (Kd.R_ne An.out Ab.out (by decide))); replace HB := aM (hb); have Cu := aM (ho); clear An; clear ho hb hg hat; refine hK.out _ _ ?_; clear hK K; refine noR 35 ?_; refine puR 9 6 #[true, true, true, true, true, true, true, true, true, true] HT_ rfl rfl ?_; refine done_ (done_of HT_.out Z66) ?_
         try go_wp2
         go_roundg k2
         case measure => have := HJ2.out; have := HK2.out; omega
         case rel => exact ⟨(Cs), (wrap64 (Al + 1)), Z38, H', ⟨by have := HJ2.out; have := HK2.out; omega⟩, ⟨Z98⟩, ⟨Z107⟩, ⟨Z44⟩, ⟨Z11⟩, ⟨Z31⟩⟩
        ·rw [if_neg Cw] at H
         exact absurd H (by simp)
       ·rw [if_neg Cv] at H
        exact absurd H (by simp)
      ·rw [if_neg Ck] at H
       have c24b0 : decide (Al < (Ao.length : Int)) = false := decide_eq_false Ck; clear Ck
       simp only [Option.some.injEq, Prod.mk.injEq] at H
       obtain ⟨rfl, rfl⟩ := H; obtain ⟨Dl, Dm, C2⟩ := Kd.R_slice Au.out; subst C2
       go_wp2
       go_ret2
       exact ⟨_, Z8, by (with_reducible repeat (first | apply Kd.R_alloc | apply Kd.R_drewN | apply Kd.R_drew)); exact Kd.R_mono An.out (fun _ hk => trivial), Z31⟩
end Go.Proofs.Ytnkecgldapagcaa.H
