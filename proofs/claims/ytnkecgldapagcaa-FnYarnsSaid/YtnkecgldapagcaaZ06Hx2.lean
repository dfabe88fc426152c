-- by wip/pack.py of this repo
import Derived.Test.YtnkecgldapagcaaZ06Hx0
import Derived.Test.YtnkecgldapagcaaZ06WGuard
import Derived.Test.YtnkecgldapagcaaZ06WLast
import Derived.Test.YtnkecgldapagcaaZ06WMore
import Derived.Test.YtnkecgldapagcaaZ06WWords
import Derived.Test.YtnkecgldapagcaaZ06Short
namespace Go.Proofs.Ytnkecgldapagcaa.H
open Go.RowKit Go.Proofs.YtnkecgldapagcaaW.PrintWords Go.Proofs.YtnkecgldapagcaaW.PrintLast Go.Proofs.YtnkecgldapagcaaW.PrintMore
attribute [local go_sem] max2_int min2_int max_two min_two max_three min_three max_four min_four
set_option maxHeartbeats 8000000
set_option maxRecDepth 100000
set_option linter.unusedVariables false
set_option linter.unusedSimpArgs false
def spec_l1In.f (a0 : Int) (a1 : Int) (a2 : Int) : Option (Bool) := if a0 ≥ a1 then (some (decide (a0 ≤ a2))) else (some false)
theorem spec_l1In.calls (a0 : Int) (a1 : Int) (a2 : Int) (r : Bool) (w : World) (h : spec_l1In.f a0 a1 a2 = some r) :
  Calls Try.prog 68 #[.int .i64 a0, .int .i64 a1, .int .i64 a2] w fun e w' => e = .returned (.bool r) ∧ Drawn0 w w' := by
 have H : (if a0 ≥ a1 then (some (decide (a0 ≤ a2))) else (some false)) = some r := h; clear h
 by_cases c4 : a0 ≥ a1
 ·rw [if_pos c4] at H
  have c4b0 : decide (a1 ≤ a0) = true := decide_eq_true c4; clear c4; obtain rfl := Option.some.inj H
  go_enter Try.func68, Try.ntmps68
  go_wp2
  go_ret
  exact ⟨Z38, Z61⟩
 ·rw [if_neg c4] at H
  have c4b0 : decide (a1 ≤ a0) = false := decide_eq_false c4; clear c4; obtain rfl := Option.some.inj H
  go_enter Try.func68, Try.ntmps68
  go_wp2
  go_ret
  exact ⟨Z38, Z61⟩
theorem spec_l1In.eq (a b c : Int) : spec_l1In.f a b c = some (rng a b c) := by
 unfold spec_l1In.f rng; by_cases h : b ≤ a <;> simp [h]
def spec_l2Color.f (a0 : Int) : Option (Bool) := (spec_l1In.f a0 0 5).bind fun t103 => (some t103)
theorem spec_l2Color.calls (a0 : Int) (r : Bool) (w : World) (h : spec_l2Color.f a0 = some r) :
  Calls Try.prog 60 #[.int .i64 a0] w fun e w' => e = .returned (.bool r) ∧ Drawn0 w w' := by
 have H : ((spec_l1In.f a0 0 5).bind fun Aa => (some Aa)) = some r := h; clear h; replace H := Option.bind_eq_some_iff.mp H; obtain ⟨Aa, Ab, H⟩ := H; replace H : (some Aa) = some r := H; have A2 := Aside0.mk Ab; clear Ab; obtain rfl := Option.some.inj H
 go_enter Try.func60, Try.ntmps60
 go_wp2_with (first | ((with_reducible refine gate_callee (f := 68) rfl ?_); refine glE (some 4) Try.func68 #[.int .i64 a0, .int .i64 0, .int .i64 5] ?_; (with_reducible refine (spec_l1In.calls a0 0 5 Aa _ A2.out).mono ?_); rintro e w' ⟨rfl, ⟨nd, rfl⟩⟩; refine ⟨_, rfl, ?_⟩))
 go_ret
 exact ⟨Z38, Z61⟩
def spec_l2Side.f (a0 : Int) : Option (Bool) := (spec_l1In.f a0 1 8).bind fun t104 => (some t104)
theorem spec_l2Side.calls (a0 : Int) (r : Bool) (w : World) (h : spec_l2Side.f a0 = some r) :
  Calls Try.prog 75 #[.int .i64 a0] w fun e w' => e = .returned (.bool r) ∧ Drawn0 w w' := by
 have H : ((spec_l1In.f a0 1 8).bind fun Aa => (some Aa)) = some r := h; clear h; replace H := Option.bind_eq_some_iff.mp H; obtain ⟨Aa, Ab, H⟩ := H; replace H : (some Aa) = some r := H; have A2 := Aside0.mk Ab; clear Ab; obtain rfl := Option.some.inj H
 go_enter Try.func75, Try.ntmps75
 go_wp2_with (first | ((with_reducible refine gate_callee (f := 68) rfl ?_); refine glE (some 4) Try.func68 #[.int .i64 a0, .int .i64 1, .int .i64 8] ?_; (with_reducible refine (spec_l1In.calls a0 1 8 Aa _ A2.out).mono ?_); rintro e w' ⟨rfl, ⟨nd, rfl⟩⟩; refine ⟨_, rfl, ?_⟩))
 go_ret
 exact ⟨Z38, Z61⟩
def spec_l2Good.l0 : Nat → Int → Int → Int → List Int → Option (Bool)
 | 0, _, _, _, _ => none
 | k + 1, x3, x106000, x106001, x106002 => if x3 < (x106002.length : Int) then (if 0 ≤ x3 then ((spec_l2Color.f (rd x106002 x3)).bind fun t107 => (if t107 = true then (spec_l2Good.l0 k (wrap64 (x3 + 1)) x106000 x106001 x106002) else (some false))) else (none)) else ((spec_l2Side.f x106000).bind fun t108 => (if t108 = true then ((spec_l2Side.f x106001).bind fun t109 => (if t109 = true then (some ((x106002.length : Int) == (wrap64 (x106000 * x106001)))) else (some false))) else (some false)))
def spec_l2Good.f (k : Nat) (a0_0 : Int) (a0_1 : Int) (l0_2 : List Int) : Option (Bool) := spec_l2Good.l0 k 0 a0_0 a0_1 l0_2
theorem spec_l2Good.calls (k : Nat) (Ae : Int) (Af : Int) (Ak : Option Addr) (Al : Nat) (Aa : List Int) (r : Bool) (w : World) (Am : Kd.C (Kd.int .i64) w Ak Aa.length Aa) (An : Aa.length ≤ Al) (h : spec_l2Good.f k Ae Af Aa = some r) :
  Calls Try.prog 47 #[.agg #[.int .i64 Ae, .int .i64 Af, .slice Ak Aa.length Al]] w fun e w' => e = .returned (.bool r) ∧ Below w.heap.size w w' := by
 have hu30 := Try.underlying30; have Ao := Aside0.mk Am; have B3 := Aside0.mk An; clear Am An; have HB := aM (Below.refl w.heap.size w); have H : (spec_l2Good.l0 k 0 Ae Af Aa) = some r := h; clear h; have H' := Aside0.mk H; clear H
 go_enter Try.func47, Try.ntmps47
 go_wp2_with (first | ((with_reducible refine gate_dst (N := 1) rfl ?_); (try (refine gate_guard (by rfl) ?_; dsimp only)); refine bxE 1 #[.int .i64 Ae, .int .i64 Af, .slice Ak Aa.length Al] 30 ?_; intro Ap hg w2 hbox hb; have Ac := aM (hbox); have B5 := gwS hg Z2; have Ag := gwS hg Z2; replace HB := hbS Z2 hb; clear hb hbox hg))
 go_loopg [3] k (fun kq v3 w' => ∃ (Ab : Int), v3 = .int .i64 Ab ∧ Aside0 (spec_l2Good.l0 kq Ab Ae Af Aa = some r) ∧ Aside0 (kq ≤ k) ∧ Aside0 (w'.heap[Ap]? = some (.cells #[.int .i64 Ae, .int .i64 Af, (.slice Ak Aa.length Al)] 30 (0, 0))) ∧ Aside0 (Below w.heap.size w w'))
 case atStart => exact ⟨(0), Z38, H', ⟨Nat.le_refl _⟩, ⟨Z25⟩, ⟨Z10⟩⟩
 case round =>
  clear H'; (try clear p2); obtain ⟨Ab, rfl, HA, HK1, Ac, HB⟩ := hrel; cases gk with
  | zero => exact absurd HA.out (by simp [spec_l2Good.l0])
  | succ k1 =>
   have H := HA.out; clear HA
   simp only [spec_l2Good.l0] at H
   by_cases c3 : Ab < (Aa.length : Int)
   ·rw [if_pos c3] at H
    have c3b0 : decide (Ab < (Aa.length : Int)) = true := decide_eq_true c3; clear c3
    by_cases c4 : 0 ≤ Ab
    ·rw [if_pos c4] at H
     have c4b0 : decide (0 ≤ Ab) = true := decide_eq_true c4; clear c4; replace H := Option.bind_eq_some_iff.mp H; obtain ⟨Aq, B7, H⟩ := H; replace H : (if Aq = true then (spec_l2Good.l0 k1 (wrap64 (Ab + 1)) Ae Af Aa) else (some false)) = some r := H; have A5 := Aside0.mk B7; clear B7
     by_cases c6 : Aq = true
     ·subst c6
      have H1 : (spec_l2Good.l0 k1 (wrap64 (Ab + 1)) Ae Af Aa) = some r := by rw [if_pos rfl] at H; exact H
      clear H; have H := H1; clear H1; have H' := Aside0.mk H; clear H; obtain ⟨Bq, Br, Bs⟩ := bz3 Ac; obtain ⟨Bt, Bu, Bv⟩ := fz3 Ac; have Ah : 0 ≤ (Ab : Int) := of_decide_eq_true Z30; have Ai : Ab < (Aa.length : Int) := of_decide_eq_true Z30; obtain ⟨ad106, e106, Ad⟩ := Kd.at_int Ao.out Ab Ah Ai; cases e106; replace Ad := (HB.out.cell (World.block_lt_of_cell? w _ Ad)).trans Ad; replace Ah := eq_true Ah; replace Ai := eq_true Ai
      go_wp2_with (first | ((with_reducible refine gate_callee (f := 60) rfl ?_); refine glE (some 16) Try.func60 #[.int .i64 (rd Aa Ab)] ?_; (with_reducible refine (spec_l2Color.calls (rd Aa Ab) true _ A5.out).mono ?_); rintro e w' ⟨rfl, ⟨nd, rfl⟩⟩; refine ⟨_, rfl, ?_⟩))
      go_roundg k1
      case measure => have := HK1.out; omega
      case rel => exact ⟨(wrap64 (Ab + 1)), Z38, H', ⟨Z110⟩, ⟨Z25⟩, ⟨Z10⟩⟩
     ·replace c6 := Bool.eq_false_iff.mpr c6
      subst c6
      have H1 : (some false) = some r := by rw [if_neg (show ¬ (false = true) by decide)] at H; exact H
      clear H; have H := H1; clear H1; obtain rfl := Option.some.inj H; obtain ⟨Bw, Bx, Bz⟩ := bz3 Ac; obtain ⟨B0, B1, B2⟩ := fz3 Ac; have Ah : 0 ≤ (Ab : Int) := of_decide_eq_true Z30; have Ai : Ab < (Aa.length : Int) := of_decide_eq_true Z30; obtain ⟨ad106, e106, Ad⟩ := Kd.at_int Ao.out Ab Ah Ai; cases e106; replace Ad := (HB.out.cell (World.block_lt_of_cell? w _ Ad)).trans Ad; replace Ah := eq_true Ah; replace Ai := eq_true Ai
      go_wp2_with (first | ((with_reducible refine gate_callee (f := 60) rfl ?_); refine glE (some 16) Try.func60 #[.int .i64 (rd Aa Ab)] ?_; (with_reducible refine (spec_l2Color.calls (rd Aa Ab) false _ A5.out).mono ?_); rintro e w' ⟨rfl, ⟨nd, rfl⟩⟩; refine ⟨_, rfl, ?_⟩))
      go_ret
      exact ⟨Z8, Z10⟩
    ·rw [if_neg c4] at H
     exact absurd H (by simp)
   ·rw [if_neg c3] at H
    have c3b0 : decide (Ab < (Aa.length : Int)) = false := decide_eq_false c3; clear c3; replace H := Option.bind_eq_some_iff.mp H; obtain ⟨Ar, B9, H⟩ := H; replace H : (if Ar = true then ((spec_l2Side.f Af).bind fun Aj => (if Aj = true then (some ((Aa.length : Int) == (wrap64 (Ae * Af)))) else (some false))) else (some false)) = some r := H; have A9 := Aside0.mk B9; clear B9
    by_cases Av : Ar = true
    ·subst Av
     have H1 : ((spec_l2Side.f Af).bind fun Aj => (if Aj = true then (some ((Aa.length : Int) == (wrap64 (Ae * Af)))) else (some false))) = some r := by rw [if_pos rfl] at H; exact H
     clear H; have H := H1; clear H1; replace H := Option.bind_eq_some_iff.mp H; obtain ⟨Aj, Au, H⟩ := H; replace H : (if Aj = true then (some ((Aa.length : Int) == (wrap64 (Ae * Af)))) else (some false)) = some r := H; have Ca := Aside0.mk Au; clear Au
     by_cases Aw : Aj = true
     ·subst Aw
      have H1 : (some ((Aa.length : Int) == (wrap64 (Ae * Af)))) = some r := by rw [if_pos rfl] at H; exact H
      clear H; have H := H1; clear H1; obtain rfl := Option.some.inj H; obtain ⟨Ax, Ay, Az⟩ := bz3 Ac; obtain ⟨Ba, Bb, Bc⟩ := fz3 Ac
      go_wp2_with (first | ((with_reducible refine gate_callee (f := 75) rfl ?_); refine glE (some 20) Try.func75 #[.int .i64 Ae] ?_; (with_reducible refine (spec_l2Side.calls Ae true _ A9.out).mono ?_); rintro e w' ⟨rfl, ⟨nd, rfl⟩⟩; refine ⟨_, rfl, ?_⟩) | (go_at_call 75; (with_reducible refine (spec_l2Side.calls Af true _ Ca.out).mono ?_); rintro e w' ⟨rfl, ⟨nd, rfl⟩⟩))
      go_ret
      exact ⟨Z8, Z10⟩
     ·replace Aw := Bool.eq_false_iff.mpr Aw
      subst Aw
      have H1 : (some false) = some r := by rw [if_neg (show ¬ (false = true) by decide)] at H; exact H
      clear H; have H := H1; clear H1; obtain rfl := Option.some.inj H; obtain ⟨Bd, Bf, Bg⟩ := bz3 Ac; obtain ⟨Bh, Bi, Bj⟩ := fz3 Ac
      go_wp2_with (first | ((with_reducible refine gate_callee (f := 75) rfl ?_); refine glE (some 20) Try.func75 #[.int .i64 Ae] ?_; (with_reducible refine (spec_l2Side.calls Ae true _ A9.out).mono ?_); rintro e w' ⟨rfl, ⟨nd, rfl⟩⟩; refine ⟨_, rfl, ?_⟩) | (go_at_call 75; (with_reducible refine (spec_l2Side.calls Af false _ Ca.out).mono ?_); rintro e w' ⟨rfl, ⟨nd, rfl⟩⟩))
      go_ret
      exact ⟨Z8, Z10⟩
    ·replace Av := Bool.eq_false_iff.mpr Av
     subst Av
     have H1 : (some false) = some r := by rw [if_neg (show ¬ (false = true) by decide)] at H; exact H
     clear H; have H := H1; clear H1; obtain rfl := Option.some.inj H; obtain ⟨Bk, Bl, Bm⟩ := bz3 Ac; obtain ⟨Bn, Bo, Bp⟩ := fz3 Ac
     go_wp2_with (first | ((with_reducible refine gate_callee (f := 75) rfl ?_); refine glE (some 20) Try.func75 #[.int .i64 Ae] ?_; (with_reducible refine (spec_l2Side.calls Ae false _ A9.out).mono ?_); rintro e w' ⟨rfl, ⟨nd, rfl⟩⟩; refine ⟨_, rfl, ?_⟩))
     go_ret
     exact ⟨Z8, Z10⟩
def spec_CountColors.l0 : Nat → List Int → Int → Int → Int → List Int → Option (List Int × Bool)
 | 0, _, _, _, _, _ => none
 | k + 1, x4, x5, x116000, x116001, x116002 => if x5 < (x116002.length : Int) then (if 0 ≤ x5 then (if 0 ≤ (rd x116002 x5) then (if (rd x116002 x5) < (x4.length : Int) then (spec_CountColors.l0 k (x4.set ((rd x116002 x5) : Int).toNat (wrap64 ((rd x4 (rd x116002 x5)) + 1))) (wrap64 (x5 + 1)) x116000 x116001 x116002) else (none)) else (none)) else (none)) else (some (x4, true))
def spec_CountColors.f (k : Nat) (a0_0 : Int) (a0_1 : Int) (l0_2 : List Int) : Option (List Int × Bool) := (spec_l2Good.f k a0_0 a0_1 l0_2).bind fun t116 => (if t116 = true then (if 6 ≤ 35184372088832 then (spec_CountColors.l0 k (List.replicate 6 0) 0 a0_0 a0_1 l0_2) else (none)) else (some ((([] : List Int)), false)))
theorem spec_CountColors.calls (k : Nat) (Ad : Int) (Ae : Int) (An : Option Addr) (Aj : Nat) (Aa : List Int) (r1 : List Int) (r2 : Bool) (w : World) (Av : Kd.C (Kd.int .i64) w An Aa.length Aa) (Aw : Aa.length ≤ Aj) (h : spec_CountColors.f k Ad Ae Aa = some (r1, r2)) :
  Calls Try.prog 76 #[.agg #[.int .i64 Ad, .int .i64 Ae, .slice An Aa.length Aj]] w fun e w' => ∃ v0_ : Value, e = .returned (.tuple #[v0_, .bool r2]) ∧ Kd.R (Kd.int .i64) 3 w' w.heap.size (fun _ => True) v0_ r1 ∧ Below w.heap.size w w' := by
 have hu30 := Try.underlying30; have Ao := Aside0.mk Av; have Ax := Aside0.mk Aw; clear Av Aw; have HB := aM (Below.refl w.heap.size w); have H : ((spec_l2Good.f k Ad Ae Aa).bind fun Ar => (if Ar = true then (if 6 ≤ 35184372088832 then (spec_CountColors.l0 k (List.replicate 6 0) 0 Ad Ae Aa) else (none)) else (some ((([] : List Int)), false)))) = some (r1, r2) := h; clear h; replace H := Option.bind_eq_some_iff.mp H; obtain ⟨Ar, Cw, H⟩ := H; replace H : (if Ar = true then (if 6 ≤ 35184372088832 then (spec_CountColors.l0 k (List.replicate 6 0) 0 Ad Ae Aa) else (none)) else (some ((([] : List Int)), false))) = some (r1, r2) := H; have A2 := Aside0.mk Cw; clear Cw
 by_cases c3 : Ar = true
 ·subst c3
  have H1 : (if 6 ≤ 35184372088832 then (spec_CountColors.l0 k (List.replicate 6 0) 0 Ad Ae Aa) else (none)) = some (r1, r2) := by rw [if_pos rfl] at H; exact H
  clear H; have H := H1; clear H1
  by_cases c4 : 6 ≤ 35184372088832
  ·rw [if_pos c4] at H
   have c4b0 := eq_true c4; have c4b1 : decide (6 ≤ 35184372088832) = true := decide_eq_true c4; clear c4; obtain ⟨Bp, Ak⟩ : ∃ y_ : List Int, y_ = (List.replicate 6 0) := ⟨_, rfl⟩
   replace H : (spec_CountColors.l0 k Bp 0 Ad Ae Aa) = some (r1, r2) := by first | (rw [Ak]; with_reducible exact H) | (have H2_ := (Option.bind_some _ _).symm.trans H; rw [Ak]; with_reducible exact H2_) | (have H2_ := (Option.bind_some _ _).symm.trans H; with_reducible exact H2_) | with_reducible exact H | (rw [Ak]; exact H) | exact H
   have Ay := Aside0.mk Ak; clear Ak; have H' := Aside0.mk H; clear H
   go_enter Try.func76, Try.ntmps76
   go_wp2_with (first | ((with_reducible refine gate_dst (N := 1) rfl ?_); refine bxE 1 #[.int .i64 Ad, .int .i64 Ae, .slice An Aa.length Aj] 30 ?_; intro Ap hg w5 hbox hb; have Ab := aM (hbox); have Bq := gwS hg Z2; have Af := gwS hg Z2; replace HB := hbS Z2 hb; clear hb hbox hg; obtain ⟨Ba, Bb, Bc⟩ := bz3 Ab; obtain ⟨Bd, Bf, Bg⟩ := fz3 Ab) | ((with_reducible refine gate_callee (f := 47) rfl ?_); refine glE (some 8) Try.func47 #[.agg #[.int .i64 Ad, .int .i64 Ae, .slice An Aa.length Aj]] ?_; (with_reducible refine (spec_l2Good.calls k Ad Ae _ _ Aa true _ ?side1 ?side2 A2.out).mono ?_); (case side1 => exact Z88); (case side2 => exact Ax.out); rintro e w7 ⟨rfl, hb⟩; refine ⟨_, rfl, ?_⟩; replace Ab := bkB Ab hb; replace HB := hbS Z16 hb; (try clear hb)) | ((with_reducible refine gate_dst (N := 11) rfl ?_); refine Kd.R_make (Kd.int .i64) _ 3 rfl (N := 11) rfl 22 _ _ rfl 6 rfl rfl Try.underlying22 (.int .i64 0) 8 info3 rfl (by decide) (by omega) 0 (ok := fun _ => True) (okp := fun _ => True) rfl (fun _ hk => hk) trivial (by omega) (by omega) (Below.refl _ _) (Nat.le_refl _) ?_; intro Cm w8 Br hb hg_ hnew_; clear hg_ hnew_; (first | rw [← Ay.out] at Br | (simp only [Int.reduceToNat] at Br; rw [← Ay.out] at Br)); have Bs := aM (Kd.R_lower Br (below_size Z16)); replace Ab := bkB Ab hb; replace HB := hbS Z16 hb; clear hb Br))
   go_loopg [5] k (fun kq v5 w' => ∃ (Ag : List Int) (Ac : Int), v5 = .int .i64 Ac ∧ Aside0 (spec_CountColors.l0 kq Ag Ac Ad Ae Aa = some (r1, r2)) ∧ Aside0 (kq ≤ k) ∧ Aside0 (Kd.R (Kd.int .i64) 3 w' w.heap.size (fun _ => True) Cm Ag) ∧ Aside0 (w'.heap[Ap]? = some (.cells #[.int .i64 Ad, .int .i64 Ae, (.slice An Aa.length Aj)] 30 (0, 0))) ∧ Aside0 (Below w.heap.size w w'))
   case atStart => exact ⟨(Bp), (0), Z38, H', ⟨Nat.le_refl _⟩, ⟨by (with_reducible repeat (first | apply Kd.R_alloc | apply Kd.R_drewN | apply Kd.R_drew)); exact Bs.out⟩, ⟨Z11⟩, ⟨Z16⟩⟩
   case round =>
    clear H'; (try clear p2); (try clear c3); (try clear c4); (try clear c4b0); (try clear c4b1); (try clear c7); (try clear Ba); (try clear Bb); (try clear Bc); (try clear Bd); (try clear Bf); (try clear Bg); obtain ⟨Ag, Ac, rfl, HA, HK1, Ah, Ab, HB⟩ := hrel; cases gk with
    | zero => exact absurd HA.out (by simp [spec_CountColors.l0])
    | succ k1 =>
     have H := HA.out; clear HA
     simp only [spec_CountColors.l0] at H
     by_cases Bo : Ac < (Aa.length : Int)
     ·rw [if_pos Bo] at H
      have c10b0 : decide (Ac < (Aa.length : Int)) = true := decide_eq_true Bo; clear Bo
      by_cases Bx : 0 ≤ Ac
      ·rw [if_pos Bx] at H
       have c11b0 : decide (0 ≤ Ac) = true := decide_eq_true Bx; clear Bx
       by_cases Bz : 0 ≤ (rd Aa Ac)
       ·rw [if_pos Bz] at H
        have c12b0 : decide (0 ≤ (rd Aa Ac)) = true := decide_eq_true Bz; clear Bz
        by_cases B0 : (rd Aa Ac) < (Ag.length : Int)
        ·rw [if_pos B0] at H
         have c13b0 : decide ((rd Aa Ac) < (Ag.length : Int)) = true := decide_eq_true B0; clear B0; obtain ⟨Bh, Al⟩ : ∃ y_ : List Int, y_ = (Ag.set ((rd Aa Ac) : Int).toNat (wrap64 ((rd Ag (rd Aa Ac)) + 1))) := ⟨_, rfl⟩
         replace H : (spec_CountColors.l0 k1 Bh (wrap64 (Ac + 1)) Ad Ae Aa) = some (r1, r2) := by first | (rw [Al]; with_reducible exact H) | (have H2_ := (Option.bind_some _ _).symm.trans H; rw [Al]; with_reducible exact H2_) | (have H2_ := (Option.bind_some _ _).symm.trans H; with_reducible exact H2_) | with_reducible exact H | (rw [Al]; exact H) | exact H
         have Bt := Aside0.mk Al; clear Al; have H' := Aside0.mk H; clear H; obtain ⟨B1, B2, B3⟩ := bz3 Ab; obtain ⟨B5, B7, B9⟩ := fz3 Ab; have Bi : 0 ≤ (Ac : Int) := of_decide_eq_true Z30; have Bj : Ac < (Aa.length : Int) := of_decide_eq_true Z30; obtain ⟨ad123, e123, Ai⟩ := Kd.at_int Ao.out Ac Bi Bj; cases e123; replace Ai := (HB.out.cell (World.block_lt_of_cell? w _ Ai)).trans Ai; replace Bi := eq_true Bi; replace Bj := eq_true Bj; obtain ⟨Cx, Cn, Co⟩ := Kd.R_slice Ah.out; subst Co; have Bk : 0 ≤ ((rd Aa Ac) : Int) := of_decide_eq_true Z30; have Bl : (rd Aa Ac) < (Ag.length : Int) := of_decide_eq_true Z30; obtain ⟨ad124, e124, Au⟩ := Kd.at_int (Kd.R_reads' Ah.out).2.2 (rd Aa Ac) Bk Bl; cases e124; replace Bk := eq_true Bk; replace Bl := eq_true Bl; have Cp : 0 ≤ ((rd Aa Ac) : Int) := of_decide_eq_true Z30; have Cq : ((rd Aa Ac) : Int) < ((Ag.length : Int) : Int) := of_decide_eq_true Z30; obtain ⟨Bm, Cy, Bu, Bv, gl14, cl14, HG14⟩ := Kd.R_form Ah.out (by omega)
         (first | cases Bu | (injection Bu with ea_ en_ ec_; (first | subst ea_ | (injection ea_ with ea_; subst ea_)); subst ec_; clear en_))
         have Cr := Aside0.mk Bv; have Cz := Aside0.mk HG14; clear Bv gl14 HG14
         (first | simp only [add_plain] at Au | skip)
         obtain ⟨Cs, Ct⟩ := Kd.R_celln 0 Ah.out ((rd Aa Ac) : Int) Cp Cq; replace Cp := eq_true Cp; replace Cq := eq_true Cq; have Bn := Kd.R_putg Ah.out ((rd Aa Ac) : Int) (wrap64 ((rd Ag (rd Aa Ac)) + 1))
         go_wp2_with (first | ((with_reducible refine gate_store (t := 3) (p := 31) rfl ?_); refine store_event (t := 3) (p := 31) (v := ?vo_w18) (w1 := (wr.setCell ⟨Bm, ((rd Aa Ac) : Int).toNat, none⟩ (.int .i64 (wrap64 ((rd Ag (rd Aa Ac)) + 1))))) ?hg ?ho ?hn ?hr ?_; (case ho => rfl); (case hg => rfl); (case hn => rfl); (case hr => first | (go_simp; done) | (go_simp; rfl)); intro Cu hw; have hg : wr.grownBy Cu (some Bm) := (by rw [hw]; exact Bn.2); have hp_ : Kd.R (Kd.int .i64) 3 Cu w.heap.size (fun _ => True) (.slice (some ⟨Bm, 0, none⟩) Ag.length Cn) Bh := (by rw [hw, Bt.out]; exact Bn.1); clear Bn; replace Ab := aM (blk_grown (g := Ap) (o := .cells #[.int .i64 Ad, .int .i64 Ae, .slice (some ad123) Aa.length Aj] 30 (0, 0)) Z11 hg (Kd.R_ne Ah.out Ab.out (by decide))); replace Ah := aM (hp_); replace HB := aM ((by rw [hw]; exact below_set (HB.out) Cr.out : Below w.heap.size w Cu)); clear hg hw hp_))
         go_roundg k1
         case measure => have := HK1.out; omega
         case rel => exact ⟨(Bh), (wrap64 (Ac + 1)), Z38, H', ⟨Z110⟩, ⟨Z112⟩, ⟨Z11⟩, ⟨Z16⟩⟩
        ·rw [if_neg B0] at H
         exact absurd H (by simp)
       ·rw [if_neg Bz] at H
        exact absurd H (by simp)
      ·rw [if_neg Bx] at H
       exact absurd H (by simp)
     ·rw [if_neg Bo] at H
      have c10b0 : decide (Ac < (Aa.length : Int)) = false := decide_eq_false Bo; clear Bo
      simp only [Option.some.injEq, Prod.mk.injEq] at H
      obtain ⟨rfl, rfl⟩ := H; obtain ⟨Ca, Cb, Cc⟩ := bz3 Ab; obtain ⟨Cd, Ce, Cf⟩ := fz3 Ab
      go_wp2
      go_ret2
      exact ⟨_, Z8, Z112, Z16⟩
  ·rw [if_neg c4] at H
   exact absurd H (by simp)
 ·replace c3 := Bool.eq_false_iff.mpr c3
  subst c3
  have H1 : (some ((([] : List Int)), false)) = some (r1, r2) := by rw [if_neg (show ¬ (false = true) by decide)] at H; exact H
  clear H; have H := H1; clear H1; obtain ⟨Cv, Am⟩ : ∃ y_ : List Int, y_ = (([] : List Int)) := ⟨_, rfl⟩
  replace H : (some (Cv, false)) = some (r1, r2) := by first | (rw [Am]; with_reducible exact H) | (have H2_ := (Option.bind_some _ _).symm.trans H; rw [Am]; with_reducible exact H2_) | (have H2_ := (Option.bind_some _ _).symm.trans H; with_reducible exact H2_) | with_reducible exact H | (rw [Am]; exact H) | exact H
  have Az := Aside0.mk Am; clear Am
  simp only [Option.some.injEq, Prod.mk.injEq] at H
  obtain ⟨rfl, rfl⟩ := H
  go_enter Try.func76, Try.ntmps76
  go_wp2_with (first | ((with_reducible refine gate_dst (N := 1) rfl ?_); refine bxE 1 #[.int .i64 Ad, .int .i64 Ae, .slice An Aa.length Aj] 30 ?_; intro Ap hg C1 hbox hb; have Ab := aM (hbox); have Bq := gwS hg Z2; have Af := gwS hg Z2; replace HB := hbS Z2 hb; clear hb hbox hg; obtain ⟨Cg, Ch, Ci⟩ := bz3 Ab; obtain ⟨Cj, Ck, Cl⟩ := fz3 Ab) | ((with_reducible refine gate_callee (f := 47) rfl ?_); refine glE (some 8) Try.func47 #[.agg #[.int .i64 Ad, .int .i64 Ae, .slice An Aa.length Aj]] ?_; (with_reducible refine (spec_l2Good.calls k Ad Ae _ _ Aa false _ ?side1 ?side2 A2.out).mono ?_); (case side1 => exact Z88); (case side2 => exact Ax.out); rintro e C2 ⟨rfl, hb⟩; refine ⟨_, rfl, ?_⟩; replace Ab := bkB Ab hb; replace HB := hbS Z16 hb; (try clear hb)) | ((with_reducible refine gate_dst (N := 10) rfl ?_); refine Kd.R_lit (Kd.int .i64) _ 3 ?hg (N := 10) ?hd (xs := ([] : List Int)) (inner := []) (ok := fun _ => True) (okp := fun _ => True) ?hr ?hp (fun _ hk => hk) trivial (Below.refl _ _) (Nat.le_refl _) (by simp) ?_; (case hd => rfl); (case hg => rfl); (case hr => first | (go_simp; done) | (go_simp; rfl)); (case hp => exact (Reps.none _ _)); intro C0 C3 Aq hb hg_ hnew_; clear hg_ hnew_; (first | rw [← Az.out] at Aq | (simp only [Int.reduceToNat] at Aq; rw [← Az.out] at Aq)); have Bw := aM (Kd.R_lower Aq (below_size Z16)); replace Ab := bkB Ab hb; replace HB := hbS Z16 hb; clear hb Aq))
  go_ret2
  exact ⟨_, Z8, by (with_reducible repeat (first | apply Kd.R_alloc | apply Kd.R_drewN | apply Kd.R_drew)); exact Bw.out, Z16⟩
def spec_l10Counts.f (k : Nat) (a0_0 : Int) (a0_1 : Int) (l0_2 : List Int) : Option (List Int) := (spec_CountColors.f k a0_0 a0_1 l0_2).bind fun bt127 => (some bt127.1)
theorem spec_l10Counts.calls (k : Nat) (Ac : Int) (Ad : Int) (Af : Option Addr) (Ag : Nat) (Aa : List Int) (r : List Int) (w : World) (Ah : Kd.C (Kd.int .i64) w Af Aa.length Aa) (Ai : Aa.length ≤ Ag) (h : spec_l10Counts.f k Ac Ad Aa = some r) :
  Calls Try.prog 49 #[.agg #[.int .i64 Ac, .int .i64 Ad, .slice Af Aa.length Ag]] w fun e w' => ∃ v0_ : Value, e = .returned (v0_) ∧ Kd.R (Kd.int .i64) 3 w' w.heap.size (fun _ => True) v0_ r ∧ Below w.heap.size w w' := by
 have hu30 := Try.underlying30; have Aj := Aside0.mk Ah; have Ak := Aside0.mk Ai; clear Ah Ai; have HB := aM (Below.refl w.heap.size w); have H : ((spec_CountColors.f k Ac Ad Aa).bind fun Al => (some Al.1)) = some r := h; clear h; replace H := Option.bind_eq_some_iff.mp H; obtain ⟨⟨Am, Ao⟩, Ax, H⟩ := H; replace H : (some Am) = some r := H; have A2 := Aside0.mk Ax; clear Ax; obtain rfl := Option.some.inj H
 go_enter Try.func49, Try.ntmps49
 go_wp2_with (first | ((with_reducible refine gate_dst (N := 1) rfl ?_); refine bxE 1 #[.int .i64 Ac, .int .i64 Ad, .slice Af Aa.length Ag] 30 ?_; intro Ay hg w3 hbox hb; have Ab := aM (hbox); have Az := gwS hg Z2; have Ae := gwS hg Z2; replace HB := hbS Z2 hb; clear hb hbox hg; obtain ⟨Ap, Aq, Ar⟩ := bz3 Ab; obtain ⟨Au, Av, Aw⟩ := fz3 Ab) | ((with_reducible refine gate_callee (f := 76) rfl ?_); refine glE (some 7) Try.func76 #[.agg #[.int .i64 Ac, .int .i64 Ad, .slice Af Aa.length Ag]] ?_; (with_reducible refine (spec_CountColors.calls k Ac Ad _ _ Aa Am Ao _ ?side1 ?side2 A2.out).mono ?_); (case side1 => exact (by repeat (first | exact (Kd.C_below Aj.out HB.out) | (with_reducible refine Kd.C_alloc ?_ _) | (with_reducible refine Kd.C_drewN ?_ _) | (with_reducible refine Kd.C_drew ?_)))); (case side2 => exact Ak.out); rintro e w5 ⟨Bb, rfl, Ba, hb⟩; refine ⟨_, rfl, ?_⟩; have An := aM (Kd.R_lower Ba (below_size Z32)); replace Ab := bkB Ab hb; replace HB := hbS Z32 hb; (try clear hb); (try clear Ba)))
 go_ret
 exact ⟨_, Z8, Z77, Z32⟩
def impl_in.f (a0 : Int) (a1 : Int) (a2 : Int) : Option (Bool) := if a0 ≥ a1 then (some (decide (a0 ≤ a2))) else (some false)
theorem impl_in.calls (a0 : Int) (a1 : Int) (a2 : Int) (r : Bool) (w : World) (h : impl_in.f a0 a1 a2 = some r) :
  Calls Try.prog 66 #[.int .i64 a0, .int .i64 a1, .int .i64 a2] w fun e w' => e = .returned (.bool r) ∧ Drawn0 w w' := by
 have H : (if a0 ≥ a1 then (some (decide (a0 ≤ a2))) else (some false)) = some r := h; clear h
 by_cases c4 : a0 ≥ a1
 ·rw [if_pos c4] at H
  have c4b0 : decide (a1 ≤ a0) = true := decide_eq_true c4; clear c4; obtain rfl := Option.some.inj H
  go_enter Try.func66, Try.ntmps66
  go_wp2
  go_ret
  exact ⟨Z38, Z61⟩
 ·rw [if_neg c4] at H
  have c4b0 : decide (a1 ≤ a0) = false := decide_eq_false c4; clear c4; obtain rfl := Option.some.inj H
  go_enter Try.func66, Try.ntmps66
  go_wp2
  go_ret
  exact ⟨Z38, Z61⟩
theorem impl_in.eq (a b c : Int) : impl_in.f a b c = some (rng a b c) := by
 unfold impl_in.f rng; by_cases h : b ≤ a <;> simp [h]
def impl_isColor.f (a0 : Int) : Option (Bool) := (impl_in.f a0 0 5).bind fun t166 => (some t166)
theorem impl_isColor.calls (a0 : Int) (r : Bool) (w : World) (h : impl_isColor.f a0 = some r) :
  Calls Try.prog 62 #[.int .i64 a0] w fun e w' => e = .returned (.bool r) ∧ Drawn0 w w' := by
 have H : ((impl_in.f a0 0 5).bind fun Aa => (some Aa)) = some r := h; clear h; replace H := Option.bind_eq_some_iff.mp H; obtain ⟨Aa, Ab, H⟩ := H; replace H : (some Aa) = some r := H; have A2 := Aside0.mk Ab; clear Ab; obtain rfl := Option.some.inj H
 go_enter Try.func62, Try.ntmps62
 go_wp2_with (first | ((with_reducible refine gate_callee (f := 66) rfl ?_); refine glE (some 4) Try.func66 #[.int .i64 a0, .int .i64 0, .int .i64 5] ?_; (with_reducible refine (impl_in.calls a0 0 5 Aa _ A2.out).mono ?_); rintro e w' ⟨rfl, ⟨nd, rfl⟩⟩; refine ⟨_, rfl, ?_⟩))
 go_ret
 exact ⟨Z38, Z61⟩
def impl_isSide.f (a0 : Int) : Option (Bool) := (impl_in.f a0 1 8).bind fun t167 => (some t167)
theorem impl_isSide.calls (a0 : Int) (r : Bool) (w : World) (h : impl_isSide.f a0 = some r) :
  Calls Try.prog 77 #[.int .i64 a0] w fun e w' => e = .returned (.bool r) ∧ Drawn0 w w' := by
 have H : ((impl_in.f a0 1 8).bind fun Aa => (some Aa)) = some r := h; clear h; replace H := Option.bind_eq_some_iff.mp H; obtain ⟨Aa, Ab, H⟩ := H; replace H : (some Aa) = some r := H; have A2 := Aside0.mk Ab; clear Ab; obtain rfl := Option.some.inj H
 go_enter Try.func77, Try.ntmps77
 go_wp2_with (first | ((with_reducible refine gate_callee (f := 66) rfl ?_); refine glE (some 4) Try.func66 #[.int .i64 a0, .int .i64 1, .int .i64 8] ?_; (with_reducible refine (impl_in.calls a0 1 8 Aa _ A2.out).mono ?_); rintro e w' ⟨rfl, ⟨nd, rfl⟩⟩; refine ⟨_, rfl, ?_⟩))
 go_ret
 exact ⟨Z38, Z61⟩
set_option maxHeartbeats 4000000 in
theorem IndexFunc_int (p : Int → Bool) (g : Nat) (lb : Array Value) (A : Option Addr) (c : Nat) (xs : List Int) (w : World)
  (eg : ∀ args w, (callFunc g args).run Try.prog w = .ok (.enter g args) w) (hr : Kd.C (Kd.int .i64) w A xs.length xs)
  (hp : ∀ (W : World) (x : Int), Below w.heap.size w W → Calls Try.prog g (#[.int .i64 x] ++ lb) W fun e w' => e = .returned (.bool (p x)) ∧ Below W.heap.size W w') :
  Calls Try.prog 90 #[.slice A xs.length c, .func (.func g) #[] lb] w fun e w' => e = .returned (.int .i64 (findI p xs)) ∧ Below w.heap.size w w' := by
 have hlen := Aside0.mk hr.2.1; have HR := Aside0.mk hr; have HP := Aside0.mk hp; clear hr hp
 go_enter Try.func90, Try.ntmps90
 go_wp2
 go_loopg [5, 8] xs.length (fun gg _ s8 wr => ∃ x : Int, s8 = .int .i64 x ∧ Aside0 (0 ≤ x ∧ x ≤ (xs.length : Int) ∧ (xs.length : Int) - x ≤ gg) ∧ Aside0 (Below w.heap.size w wr) ∧ Aside0 (∀ j : Nat, (j : Int) < x → p (xs.getD j 0) = false))
 case atStart => exact ⟨0, rfl, ⟨by omega, by omega, by omega⟩, ⟨Below.refl _ _⟩, ⟨fun j hj => absurd hj (by omega)⟩⟩
 case round =>
  obtain ⟨x, rfl, HX, BW, HA⟩ := hrel
  by_cases hlt : x < (xs.length : Int)
  ·have c0 : decide (x < (xs.length : Int)) = true := decide_eq_true hlt
   obtain ⟨ad, e0, Aa⟩ := Kd.at_int (Kd.C_below HR.out BW.out) x HX.out.1 hlt; cases e0; have c1 : decide (0 ≤ x) = true := decide_eq_true HX.out.1; have p0 := eq_true HX.out.1; have p1 := eq_true hlt; have HL := Aside0.mk hlt; clear hlt; have hcall := HP.out _ (rd xs x) BW.out; have hget : Aside0 (xs.getD x.toNat 0 = (rd xs x)) := ⟨rfl⟩; cases hq : p (rd xs x) with
   | true =>
    rw [hq] at hcall; have HQ := Aside0.mk hq; have HC := Aside0.mk hcall; clear hq hcall
    go_wp2_with fail
    refine HC.out.mono ?_; rintro e w' ⟨rfl, hb'⟩; have HB := aM (below_step BW.out hb'); clear hb'
    go_wp2
    go_ret
    refine ⟨?_, HB.out⟩; rw [findI_hit p 0 xs x.toNat (by have := HX.out; have := HL.out; omega) (fun j hj => HA.out j (by have := HX.out; omega)) (by rw [hget.out]; exact HQ.out)]; rw [Int.toNat_of_nonneg HX.out.1]
    rfl
   | false =>
    rw [hq] at hcall; have HQ := Aside0.mk hq; have HC := Aside0.mk hcall; clear hq hcall
    go_wp2_with fail
    refine HC.out.mono ?_; rintro e w' ⟨rfl, hb'⟩; have HB := aM (below_step BW.out hb'); clear hb'
    go_wp2
    have hw1 : wrap64 (x + 1) = x + 1 := by have := HX.out; have := HL.out; have := hlen.out; unfold wrap64; omega
    go_roundg (xs.length - (x.toNat + 1))
    case measure => have := HX.out; have := HL.out; omega
    case rel =>
     refine ⟨x + 1, by first | rfl | rw [hw1] | simp [hw1], ⟨by have := HX.out; omega, by have := HL.out; omega, by have := HX.out; have := HL.out; omega⟩, HB, ⟨fun j hj => ?_⟩⟩
     by_cases e : (j : Int) < x
     ·exact HA.out j e
     ·have hj' : j = x.toNat := by have := HX.out; omega
      subst hj'; rw [hget.out]
      exact HQ.out
  ·have c0 : decide (x < (xs.length : Int)) = false := decide_eq_false hlt
   have HL := Aside0.mk hlt; clear hlt
   go_wp2
   go_ret
   refine ⟨?_, BW.out⟩; rw [findI_miss p 0 xs (fun j hj => HA.out j (by have := HL.out; omega))]
   rfl
set_option maxHeartbeats 4000000 in
theorem ContainsFunc_int (p : Int → Bool) (g : Nat) (lb : Array Value) (A : Option Addr) (c : Nat) (xs : List Int) (w : World)
  (eg : ∀ args w, (callFunc g args).run Try.prog w = .ok (.enter g args) w) (hr : Kd.C (Kd.int .i64) w A xs.length xs)
  (hp : ∀ (W : World) (x : Int), Below w.heap.size w W → Calls Try.prog g (#[.int .i64 x] ++ lb) W fun e w' => e = .returned (.bool (p x)) ∧ Below W.heap.size W w') :
  Calls Try.prog 86 #[.slice A xs.length c, .func (.func g) #[] lb] w fun e w' => e = .returned (.bool (xs.any p)) ∧ Below w.heap.size w w' := by
 have HC := aM (IndexFunc_int p g lb A c xs w eg hr hp); clear hr hp eg; rw [← findI_any]
 go_enter Try.func86, Try.ntmps86
 go_wp2_with fail
 refine HC.out.mono ?_; rintro e w' ⟨rfl, hb'⟩
 go_wp2
 go_ret
 exact ⟨Z122, hb'⟩
set_option maxHeartbeats 4000000 in
theorem areAll_int_1 (p : Int → Bool) (g : Nat) (lb : Array Value) (b : Nat) (x : Int) (W : World)
  (eg : ∀ args w, (callFunc g args).run Try.prog w = .ok (.enter g args) w) (hc : W.cell? ⟨b, 0, none⟩ = some (.func (.func g) #[] lb))
  (hp : ∀ W1, Below W.heap.size W W1 → Calls Try.prog g (#[.int .i64 x] ++ lb) W1 fun e w' => e = .returned (.bool (p x)) ∧ Below W1.heap.size W1 w') (hb : b < W.heap.size) :
  Calls Try.prog 87 #[.int .i64 x, .pointer (some ⟨b, 0, none⟩)] W fun e w' => e = .returned (.bool (!p x)) ∧ Below W.heap.size W w' := by
 have HP := Aside0.mk hp; clear hp
 go_enter Try.func87, Try.ntmps87
 go_wp2_with fail
 refine (HP.out _ (Below.refl _ _)).mono ?_; rintro e w' ⟨rfl, hb'⟩
 go_wp2
 go_ret
 exact ⟨Z122, hb'⟩
set_option maxHeartbeats 4000000 in
theorem areAll_int (p : Int → Bool) (g : Nat) (lb : Array Value) (A : Option Addr) (c : Nat) (xs : List Int) (w : World)
  (eg : ∀ args w, (callFunc g args).run Try.prog w = .ok (.enter g args) w) (hr : Kd.C (Kd.int .i64) w A xs.length xs)
  (hp : ∀ (W : World) (x : Int), Below w.heap.size w W → Calls Try.prog g (#[.int .i64 x] ++ lb) W fun e w' => e = .returned (.bool (p x)) ∧ Below W.heap.size W w') :
  Calls Try.prog 78 #[.slice A xs.length c, .func (.func g) #[] lb] w fun e w' => e = .returned (.bool (xs.all p)) ∧ Below w.heap.size w w' := by
 have hmf : ∀ (fn : Fn) (first cap : Array Value) (w : World), (Instr.makeFunc fn first cap).run Try.prog w = .ok (.func fn first cap) w := fun _ _ _ _ => rfl
 have hB1 : Below w.heap.size w (w.alloc (.cells #[.func (.func g) #[] lb] 71)) := below_alloc (Below.refl _ _) _
 have Aa : (w.alloc (.cells #[.func (.func g) #[] lb] 71)).cell? ⟨w.heap.size, 0, none⟩ = some (.func (.func g) #[] lb) := by simp
 have hsz : w.heap.size < (w.alloc (.cells #[.func (.func g) #[] lb] 71)).heap.size := by simp
 have HC := aM (ContainsFunc_int (fun x => !p x) 87 #[.pointer (some ⟨w.heap.size, 0, none⟩)] A c xs (w.alloc (.cells #[.func (.func g) #[] lb] 71)) (enters_of Try.func87 Z66 rfl) (Kd.C_below hr hB1)
  (fun W x hW => areAll_int_1 p g lb w.heap.size x W eg ((hW.cell (p := ⟨w.heap.size, 0, none⟩) hsz).trans Aa) (fun W1 h1 => hp W1 x ((hB1.trans (hW.mono hB1.size)).trans (h1.mono (Nat.le_trans hB1.size hW.size)))) (Nat.lt_of_lt_of_le hsz hW.size)))
 have HB := Aside0.mk hB1; rw [← any_not]; clear hB1 Aa hsz hp hr eg
 go_enter Try.func78, Try.ntmps78
 go_wp2_with fail
 refine HC.out.mono ?_; rintro e w' ⟨rfl, hb'⟩
 go_wp2
 go_ret
 exact ⟨Z122, below_step HB.out hb'⟩
theorem impl_isColor.tot : ∀ x : Int, impl_isColor.f x = some ((fun x : Int => rng x 0 5) x) := fun x => by unfold impl_isColor.f; rw [impl_in.eq]; rfl
def areAll_impl_isColor.f (l0 : List Int) : Option Bool := some (l0.all (fun x : Int => rng x 0 5))
theorem areAll_impl_isColor.calls (A0 : Option Addr) (c0 : Nat) (l0 : List Int) (r : Bool) (w : World) (Aa : Kd.C (Kd.int .i64) w A0 l0.length l0) (Ac : l0.length ≤ c0) (h : areAll_impl_isColor.f l0 = some r) :
  Calls Try.prog 78 #[.slice A0 l0.length c0, .func (.func 62) #[] #[]] w fun e w' => e = .returned (.bool r) ∧ Below w.heap.size w w' := by
 have Ab := Option.some.inj h; subst Ab
 exact areAll_int (fun x : Int => rng x 0 5) 62 #[] A0 c0 l0 w (enters_of Try.func62 Z66 rfl) Aa (fun W x _ => (impl_isColor.calls x _ W (impl_isColor.tot x)).mono fun e w' ⟨he, hd⟩ => ⟨he, by first | exact hd | exact hd.below⟩)
def impl_IsChart.f (a0_0 : Int) (a0_1 : Int) (l0_2 : List Int) : Option (Bool) := (impl_isSide.f a0_0).bind fun t169 => (if t169 = true then ((impl_isSide.f a0_1).bind fun t170 => (if t170 = true then (if (l0_2.length : Int) = (wrap64 (a0_0 * a0_1)) then ((areAll_impl_isColor.f l0_2).bind fun t171 => (some t171)) else (some false)) else (some false))) else (some false))
theorem impl_IsChart.calls (Aa : Int) (Ac : Int) (Ah : Option Addr) (Ai : Nat) (Ab : List Int) (r : Bool) (w : World) (Am : Kd.C (Kd.int .i64) w Ah Ab.length Ab) (An : Ab.length ≤ Ai) (h : impl_IsChart.f Aa Ac Ab = some r) :
  Calls Try.prog 51 #[.agg #[.int .i64 Aa, .int .i64 Ac, .slice Ah Ab.length Ai]] w fun e w' => e = .returned (.bool r) ∧ Below w.heap.size w w' := by
 have hu30 := Try.underlying30; have Ao := Aside0.mk Am; have Ap := Aside0.mk An; clear Am An; have HB := aM (Below.refl w.heap.size w); have H : ((impl_isSide.f Aa).bind fun Al => (if Al = true then ((impl_isSide.f Ac).bind fun Ag => (if Ag = true then (if (Ab.length : Int) = (wrap64 (Aa * Ac)) then ((areAll_impl_isColor.f Ab).bind fun Af => (some Af)) else (some false)) else (some false))) else (some false))) = some r := h; clear h; replace H := Option.bind_eq_some_iff.mp H; obtain ⟨Al, Br, H⟩ := H; replace H : (if Al = true then ((impl_isSide.f Ac).bind fun Ag => (if Ag = true then (if (Ab.length : Int) = (wrap64 (Aa * Ac)) then ((areAll_impl_isColor.f Ab).bind fun Af => (some Af)) else (some false)) else (some false))) else (some false)) = some r := H; have A2 := Aside0.mk Br; clear Br
 by_cases c3 : Al = true
 ·subst c3
  have H1 : ((impl_isSide.f Ac).bind fun Ag => (if Ag = true then (if (Ab.length : Int) = (wrap64 (Aa * Ac)) then ((areAll_impl_isColor.f Ab).bind fun Af => (some Af)) else (some false)) else (some false))) = some r := by rw [if_pos rfl] at H; exact H
  clear H; have H := H1; clear H1; replace H := Option.bind_eq_some_iff.mp H; obtain ⟨Ag, Bs, H⟩ := H; replace H : (if Ag = true then (if (Ab.length : Int) = (wrap64 (Aa * Ac)) then ((areAll_impl_isColor.f Ab).bind fun Af => (some Af)) else (some false)) else (some false)) = some r := H; have A4 := Aside0.mk Bs; clear Bs
  by_cases c5 : Ag = true
  ·subst c5
   have H1 : (if (Ab.length : Int) = (wrap64 (Aa * Ac)) then ((areAll_impl_isColor.f Ab).bind fun Af => (some Af)) else (some false)) = some r := by rw [if_pos rfl] at H; exact H
   clear H; have H := H1; clear H1
   by_cases c6 : (Ab.length : Int) = (wrap64 (Aa * Ac))
   ·rw [if_pos c6] at H
    have c6b0 : ((Ab.length : Int) == (wrap64 (Aa * Ac))) = true := beq_iff_eq.mpr c6; have c6b1 : ((Ab.length : Int) != (wrap64 (Aa * Ac))) = false := bne_eq_false_iff_eq.mpr c6; clear c6; replace H := Option.bind_eq_some_iff.mp H; obtain ⟨Af, Bt, H⟩ := H; replace H : (some Af) = some r := H; have A7 := Aside0.mk Bt; clear Bt; obtain rfl := Option.some.inj H
    go_enter Try.func51, Try.ntmps51
    go_wp2_with (first | ((with_reducible refine gate_dst (N := 1) rfl ?_); (try (refine gate_guard (by rfl) ?_; dsimp only)); refine bxE 1 #[.int .i64 Aa, .int .i64 Ac, .slice Ah Ab.length Ai] 30 ?_; intro Aj hg w8 hbox hb; have Ad := aM (hbox); have Ak := gwS hg Z2; have Ae := gwS hg Z2; replace HB := hbS Z2 hb; clear hb hbox hg; obtain ⟨Bl, Bm, Bn⟩ := bz3 Ad; obtain ⟨Bo, Bp, Bq⟩ := fz3 Ad) | ((with_reducible refine gate_callee (f := 77) rfl ?_); refine glE (some 5) Try.func77 #[.int .i64 Aa] ?_; (with_reducible refine (impl_isSide.calls Aa true _ A2.out).mono ?_); rintro e w' ⟨rfl, ⟨nd, rfl⟩⟩; refine ⟨_, rfl, ?_⟩) | (go_at_call 77; (with_reducible refine (impl_isSide.calls Ac true _ A4.out).mono ?_); rintro e w' ⟨rfl, ⟨nd, rfl⟩⟩) | (go_at_call 78; (with_reducible refine (areAll_impl_isColor.calls _ _ Ab Af _ ?side1 ?side2 A7.out).mono ?_); (case side1 => repeat (first | exact (Kd.C_below Ao.out Z32) | (with_reducible refine Kd.C_alloc ?_ _) | (with_reducible refine Kd.C_drewN ?_ _) | (with_reducible refine Kd.C_drew ?_))); (case side2 => exact Ap.out); rintro e Bu ⟨rfl, hb⟩; replace Ad := bkB Ad hb; replace HB := hbS Z32 hb; (try clear hb)))
    go_ret
    exact ⟨Z8, Z32⟩
   ·rw [if_neg c6] at H
    have c6b0 : ((Ab.length : Int) == (wrap64 (Aa * Ac))) = false := beq_eq_false_iff_ne.mpr c6; have c6b1 : ((Ab.length : Int) != (wrap64 (Aa * Ac))) = true := bne_iff_ne.mpr c6; obtain rfl := Option.some.inj H
    go_enter Try.func51, Try.ntmps51
    go_wp2_with (first | ((with_reducible refine gate_dst (N := 1) rfl ?_); (try (refine gate_guard (by rfl) ?_; dsimp only)); refine bxE 1 #[.int .i64 Aa, .int .i64 Ac, .slice Ah Ab.length Ai] 30 ?_; intro Aj hg Bv hbox hb; have Ad := aM (hbox); have Ak := gwS hg Z2; have Ae := gwS hg Z2; replace HB := hbS Z2 hb; clear hb hbox hg; obtain ⟨Aq, Ar, Au⟩ := bz3 Ad; obtain ⟨Av, Aw, Ax⟩ := fz3 Ad) | ((with_reducible refine gate_callee (f := 77) rfl ?_); refine glE (some 5) Try.func77 #[.int .i64 Aa] ?_; (with_reducible refine (impl_isSide.calls Aa true _ A2.out).mono ?_); rintro e w' ⟨rfl, ⟨nd, rfl⟩⟩; refine ⟨_, rfl, ?_⟩) | (go_at_call 77; (with_reducible refine (impl_isSide.calls Ac true _ A4.out).mono ?_); rintro e w' ⟨rfl, ⟨nd, rfl⟩⟩))
    go_ret
    exact ⟨Z8, Z32⟩
  ·replace c5 := Bool.eq_false_iff.mpr c5
   subst c5
   have H1 : (some false) = some r := by rw [if_neg (show ¬ (false = true) by decide)] at H; exact H
   clear H; have H := H1; clear H1; obtain rfl := Option.some.inj H
   go_enter Try.func51, Try.ntmps51
   go_wp2_with (first | ((with_reducible refine gate_dst (N := 1) rfl ?_); (try (refine gate_guard (by rfl) ?_; dsimp only)); refine bxE 1 #[.int .i64 Aa, .int .i64 Ac, .slice Ah Ab.length Ai] 30 ?_; intro Aj hg Bw hbox hb; have Ad := aM (hbox); have Ak := gwS hg Z2; have Ae := gwS hg Z2; replace HB := hbS Z2 hb; clear hb hbox hg; obtain ⟨Ay, Az, Ba⟩ := bz3 Ad; obtain ⟨Bb, Bc, Bd⟩ := fz3 Ad) | ((with_reducible refine gate_callee (f := 77) rfl ?_); refine glE (some 5) Try.func77 #[.int .i64 Aa] ?_; (with_reducible refine (impl_isSide.calls Aa true _ A2.out).mono ?_); rintro e w' ⟨rfl, ⟨nd, rfl⟩⟩; refine ⟨_, rfl, ?_⟩) | (go_at_call 77; (with_reducible refine (impl_isSide.calls Ac false _ A4.out).mono ?_); rintro e w' ⟨rfl, ⟨nd, rfl⟩⟩))
   go_ret
   exact ⟨Z8, Z32⟩
 ·replace c3 := Bool.eq_false_iff.mpr c3
  subst c3
  have H1 : (some false) = some r := by rw [if_neg (show ¬ (false = true) by decide)] at H; exact H
  clear H; have H := H1; clear H1; obtain rfl := Option.some.inj H
  go_enter Try.func51, Try.ntmps51
  go_wp2_with (first | ((with_reducible refine gate_dst (N := 1) rfl ?_); (try (refine gate_guard (by rfl) ?_; dsimp only)); refine bxE 1 #[.int .i64 Aa, .int .i64 Ac, .slice Ah Ab.length Ai] 30 ?_; intro Aj hg Bx hbox hb; have Ad := aM (hbox); have Ak := gwS hg Z2; have Ae := gwS hg Z2; replace HB := hbS Z2 hb; clear hb hbox hg; obtain ⟨Bf, Bg, Bh⟩ := bz3 Ad; obtain ⟨Bi, Bj, Bk⟩ := fz3 Ad) | ((with_reducible refine gate_callee (f := 77) rfl ?_); refine glE (some 5) Try.func77 #[.int .i64 Aa] ?_; (with_reducible refine (impl_isSide.calls Aa false _ A2.out).mono ?_); rintro e w' ⟨rfl, ⟨nd, rfl⟩⟩; refine ⟨_, rfl, ?_⟩))
  go_ret
  exact ⟨Z8, Z32⟩
def impl_Chart_colors.l0 : Nat → List Int → List Int → Int → Int → Option (List Int)
 | 0, _, _, _, _ => none
 | k + 1, x3, x8, x9, x10 => if x10 < x9 then (if 0 ≤ x10 then (if x10 < (x8.length : Int) then (if 0 ≤ (rd x8 x10) then (if (rd x8 x10) < (x3.length : Int) then (impl_Chart_colors.l0 k (x3.set ((rd x8 x10) : Int).toNat (wrap64 ((rd x3 (rd x8 x10)) + 1))) x8 x9 (wrap64 (x10 + 1))) else (none)) else (none)) else (none)) else (none)) else (some x3)
def impl_Chart_colors.f (k : Nat) (a0_0 : Int) (a0_1 : Int) (l0_2 : List Int) : Option (List Int) := if 6 ≤ 35184372088832 then (impl_Chart_colors.l0 k (List.replicate 6 0) l0_2 (l0_2.length : Int) 0) else (none)
theorem impl_Chart_colors.calls (k : Nat) (Aj : Int) (Ak : Int) (Am : Option Addr) (Al : Nat) (Ab : List Int) (r : List Int) (w : World) (Ao : Kd.C (Kd.int .i64) w Am Ab.length Ab) (Ap : Ab.length ≤ Al) (h : impl_Chart_colors.f k Aj Ak Ab = some r) :
  Calls Try.prog 57 #[.agg #[.int .i64 Aj, .int .i64 Ak, .slice Am Ab.length Al]] w fun e w' => ∃ v0_ : Value, e = .returned (v0_) ∧ Kd.R (Kd.int .i64) 3 w' w.heap.size (fun _ => True) v0_ r ∧ Below w.heap.size w w' := by
 have hu30 := Try.underlying30; have Bi := Aside0.mk Ao; have B1 := Aside0.mk Ap; clear Ao Ap; have HB := aM (Below.refl w.heap.size w); have H : (if 6 ≤ 35184372088832 then (impl_Chart_colors.l0 k (List.replicate 6 0) Ab (Ab.length : Int) 0) else (none)) = some r := h; clear h
 by_cases c2 : 6 ≤ 35184372088832
 ·rw [if_pos c2] at H
  have c2b0 := eq_true c2; have c2b1 : decide (6 ≤ 35184372088832) = true := decide_eq_true c2; clear c2; obtain ⟨Bj, Ag⟩ : ∃ y_ : List Int, y_ = (List.replicate 6 0) := ⟨_, rfl⟩
  replace H : (impl_Chart_colors.l0 k Bj Ab (Ab.length : Int) 0) = some r := by first | (rw [Ag]; with_reducible exact H) | (have H2_ := (Option.bind_some _ _).symm.trans H; rw [Ag]; with_reducible exact H2_) | (have H2_ := (Option.bind_some _ _).symm.trans H; with_reducible exact H2_) | with_reducible exact H | (rw [Ag]; exact H) | exact H
  have Aq := Aside0.mk Ag; clear Ag; have H' := Aside0.mk H; clear H
  go_enter Try.func57, Try.ntmps57
  go_wp2_with (first | ((with_reducible refine gate_dst (N := 1) rfl ?_); refine bxE 1 #[.int .i64 Aj, .int .i64 Ak, .slice Am Ab.length Al] 30 ?_; intro Ar hg w3 hbox hb; have Ac := aM (hbox); have B2 := gwS hg Z2; have Ah := gwS hg Z2; replace HB := hbS Z2 hb; clear hb hbox hg) | ((with_reducible refine gate_dst (N := 6) rfl ?_); refine Kd.R_make (Kd.int .i64) _ 3 rfl (N := 6) rfl 22 _ _ rfl 6 rfl rfl Try.underlying22 (.int .i64 0) 8 info3 rfl (by decide) (by omega) 0 (ok := fun _ => True) (okp := fun _ => True) rfl (fun _ hk => hk) trivial (by omega) (by omega) (Below.refl _ _) (Nat.le_refl _) ?_; intro Br w4 Bk hb hg_ hnew_; clear hg_ hnew_; (first | rw [← Aq.out] at Bk | (simp only [Int.reduceToNat] at Bk; rw [← Aq.out] at Bk)); have Bl := aM (Kd.R_lower Bk (below_size Z33)); replace Ac := bkB Ac hb; replace HB := hbS Z33 hb; clear hb Bk; obtain ⟨Au, Av, Aw⟩ := bz3 Ac; obtain ⟨Ax, Ay, Az⟩ := fz3 Ac))
  go_loopg [10] k (fun kq B3 w' => ∃ (Ad : List Int) (Aa : Int), B3 = .int .i64 Aa ∧ Aside0 (impl_Chart_colors.l0 kq Ad Ab (Ab.length : Int) Aa = some r) ∧ Aside0 (kq ≤ k) ∧ Aside0 (Kd.R (Kd.int .i64) 3 w' w.heap.size (fun _ => True) Br Ad) ∧ Aside0 (w'.heap[Ar]? = some (.cells #[.int .i64 Aj, .int .i64 Ak, (.slice Am Ab.length Al)] 30 (0, 0))) ∧ Aside0 (Below w.heap.size w w'))
  case atStart => exact ⟨(Bj), (0), Z38, H', ⟨Nat.le_refl _⟩, ⟨Z96⟩, ⟨Z25⟩, ⟨Z33⟩⟩
  case round =>
   clear H'; (try clear c2); (try clear c2b0); (try clear c2b1); (try clear p2); (try clear c5); (try clear Au); (try clear Av); (try clear Aw); (try clear Ax); (try clear Ay); (try clear Az); obtain ⟨Ad, Aa, rfl, HA, HK1, Ae, Ac, HB⟩ := hrel; cases gk with
   | zero => exact absurd HA.out (by simp [impl_Chart_colors.l0])
   | succ k1 =>
    have H := HA.out; clear HA
    simp only [impl_Chart_colors.l0] at H
    by_cases c7 : Aa < (Ab.length : Int)
    ·rw [if_pos c7] at H
     have c7b0 : decide (Aa < (Ab.length : Int)) = true := decide_eq_true c7; clear c7
     by_cases c8 : 0 ≤ Aa
     ·rw [if_pos c8] at H
      have c8b0 : decide (0 ≤ Aa) = true := decide_eq_true c8; clear c8
      by_cases c9 : Aa < (Ab.length : Int)
      ·rw [if_pos c9] at H
       have c9b0 : decide (Aa < (Ab.length : Int)) = true := decide_eq_true c9; clear c9
       by_cases Bp : 0 ≤ (rd Ab Aa)
       ·rw [if_pos Bp] at H
        have c10b0 : decide (0 ≤ (rd Ab Aa)) = true := decide_eq_true Bp; clear Bp
        by_cases Bq : (rd Ab Aa) < (Ad.length : Int)
        ·rw [if_pos Bq] at H
         have c11b0 : decide ((rd Ab Aa) < (Ad.length : Int)) = true := decide_eq_true Bq; clear Bq; obtain ⟨Ba, Ai⟩ : ∃ y_ : List Int, y_ = (Ad.set ((rd Ab Aa) : Int).toNat (wrap64 ((rd Ad (rd Ab Aa)) + 1))) := ⟨_, rfl⟩
         replace H : (impl_Chart_colors.l0 k1 Ba Ab (Ab.length : Int) (wrap64 (Aa + 1))) = some r := by first | (rw [Ai]; with_reducible exact H) | (have H2_ := (Option.bind_some _ _).symm.trans H; rw [Ai]; with_reducible exact H2_) | (have H2_ := (Option.bind_some _ _).symm.trans H; with_reducible exact H2_) | with_reducible exact H | (rw [Ai]; exact H) | exact H
         have Bm := Aside0.mk Ai; clear Ai; have H' := Aside0.mk H; clear H; have Bb : 0 ≤ (Aa : Int) := of_decide_eq_true Z30; have Bc : Aa < (Ab.length : Int) := of_decide_eq_true Z30; obtain ⟨ad176, e176, Af⟩ := Kd.at_int Bi.out Aa Bb Bc; cases e176; replace Af := (HB.out.cell (World.block_lt_of_cell? w _ Af)).trans Af; replace Bb := eq_true Bb; replace Bc := eq_true Bc; obtain ⟨B5, Bs, Bt⟩ := Kd.R_slice Ae.out; subst Bt; have Bd : 0 ≤ ((rd Ab Aa) : Int) := of_decide_eq_true Z30; have Bf : (rd Ab Aa) < (Ad.length : Int) := of_decide_eq_true Z30; obtain ⟨ad177, e177, An⟩ := Kd.at_int (Kd.R_reads' Ae.out).2.2 (rd Ab Aa) Bd Bf; cases e177; replace Bd := eq_true Bd; replace Bf := eq_true Bf; have Bu : 0 ≤ ((rd Ab Aa) : Int) := of_decide_eq_true Z30; have Bv : ((rd Ab Aa) : Int) < ((Ad.length : Int) : Int) := of_decide_eq_true Z30; obtain ⟨Bg, B7, Bn, Bo, gl12, cl12, HG12⟩ := Kd.R_form Ae.out (by omega)
         (first | cases Bn | (injection Bn with ea_ en_ ec_; (first | subst ea_ | (injection ea_ with ea_; subst ea_)); subst ec_; clear en_))
         have Bw := Aside0.mk Bo; have B9 := Aside0.mk HG12; clear Bo gl12 HG12
         (first | simp only [add_plain] at An | skip)
         obtain ⟨Bx, Bz⟩ := Kd.R_celln 0 Ae.out ((rd Ab Aa) : Int) Bu Bv; replace Bu := eq_true Bu; replace Bv := eq_true Bv; have Bh := Kd.R_putg Ae.out ((rd Ab Aa) : Int) (wrap64 ((rd Ad (rd Ab Aa)) + 1))
         go_wp2_with (first | ((with_reducible refine gate_store (t := 3) (p := 19) rfl ?_); refine store_event (t := 3) (p := 19) (v := ?vo_w15) (w1 := (wr.setCell ⟨Bg, ((rd Ab Aa) : Int).toNat, none⟩ (.int .i64 (wrap64 ((rd Ad (rd Ab Aa)) + 1))))) ?hg ?ho ?hn ?hr ?_; (case ho => rfl); (case hg => rfl); (case hn => rfl); (case hr => first | (go_simp; done) | (go_simp; rfl)); intro B0 hw; have hg : wr.grownBy B0 (some Bg) := (by rw [hw]; exact Bh.2); have hp_ : Kd.R (Kd.int .i64) 3 B0 w.heap.size (fun _ => True) (.slice (some ⟨Bg, 0, none⟩) Ad.length Bs) Ba := (by rw [hw, Bm.out]; exact Bh.1); clear Bh; replace Ac := aM (blk_grown (g := Ar) (o := .cells #[.int .i64 Aj, .int .i64 Ak, .slice (some ad176) Ab.length Al] 30 (0, 0)) Z25 hg (Kd.R_ne Ae.out Ac.out (by decide))); replace Ae := aM (hp_); replace HB := aM ((by rw [hw]; exact below_set (HB.out) Bw.out : Below w.heap.size w B0)); clear hg hw hp_))
         go_roundg k1
         case measure => have := HK1.out; omega
         case rel => exact ⟨(Ba), (wrap64 (Aa + 1)), Z38, H', ⟨Z110⟩, ⟨Z113⟩, ⟨Z25⟩, ⟨Z33⟩⟩
        ·rw [if_neg Bq] at H
         exact absurd H (by simp)
       ·rw [if_neg Bp] at H
        exact absurd H (by simp)
      ·rw [if_neg c9] at H
       exact absurd H (by simp)
     ·rw [if_neg c8] at H
      exact absurd H (by simp)
    ·rw [if_neg c7] at H
     have c7b0 : decide (Aa < (Ab.length : Int)) = false := decide_eq_false c7; clear c7; obtain rfl := Option.some.inj H
     go_wp2
     go_ret
     exact ⟨_, Z8, Z113, Z33⟩
 ·rw [if_neg c2] at H
  exact absurd H (by simp)
end Go.Proofs.Ytnkecgldapagcaa.H
