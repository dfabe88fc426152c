-- by wip/pack.py of this repo
import Derived.Test.YtaadbpibmlnncaaZ08Hx0
import Derived.Test.YtaadbpibmlnncaaZ08WGuard
import Derived.Test.YtaadbpibmlnncaaZ08WLast
import Derived.Test.YtaadbpibmlnncaaZ08WMore
import Derived.Test.YtaadbpibmlnncaaZ08WWords
import Derived.Test.YtaadbpibmlnncaaZ08Short
namespace Go.Proofs.Ytaadbpibmlnncaa.H
open Go.RowKit Go.Proofs.YtaadbpibmlnncaaW.PrintWords Go.Proofs.YtaadbpibmlnncaaW.PrintLast Go.Proofs.YtaadbpibmlnncaaW.PrintMore
attribute [local go_sem] max2_int min2_int max_two min_two max_three min_three max_four min_four
set_option maxHeartbeats 8000000
set_option maxRecDepth 100000
set_option linter.unusedVariables false
set_option linter.unusedSimpArgs false
def spec_l1In.f (a0 : Int) (a1 : Int) (a2 : Int) : Option (Bool) := if a0 ≥ a1 then (some (decide (a0 ≤ a2))) else (some false)
theorem spec_l1In.calls (a0 : Int) (a1 : Int) (a2 : Int) (r : Bool) (w : World) (h : spec_l1In.f a0 a1 a2 = some r) :
  Calls Try.prog 65 #[.int .i64 a0, .int .i64 a1, .int .i64 a2] w fun e w' => e = .returned (.bool r) ∧ Drawn0 w w' := by
 have H : (if a0 ≥ a1 then (some (decide (a0 ≤ a2))) else (some false)) = some r := h; clear h
 by_cases c4 : a0 ≥ a1
 ·rw [if_pos c4] at H
  have c4b0 : decide (a1 ≤ a0) = true := decide_eq_true c4; clear c4; obtain rfl := Option.some.inj H
  go_enter Try.func65, Try.ntmps65
  go_wp2
  go_ret
  exact ⟨Z14, Z44⟩
 ·rw [if_neg c4] at H
  have c4b0 : decide (a1 ≤ a0) = false := decide_eq_false c4; clear c4; obtain rfl := Option.some.inj H
  go_enter Try.func65, Try.ntmps65
  go_wp2
  go_ret
  exact ⟨Z14, Z44⟩
theorem spec_l1In.eq (a b c : Int) : spec_l1In.f a b c = some (rng a b c) := by
 unfold spec_l1In.f rng; by_cases h : b ≤ a <;> simp [h]
def spec_l2Color.f (a0 : Int) : Option (Bool) := (spec_l1In.f a0 0 5).bind fun t101 => (some t101)
theorem spec_l2Color.calls (a0 : Int) (r : Bool) (w : World) (h : spec_l2Color.f a0 = some r) :
  Calls Try.prog 51 #[.int .i64 a0] w fun e w' => e = .returned (.bool r) ∧ Drawn0 w w' := by
 have H : ((spec_l1In.f a0 0 5).bind fun Aa => (some Aa)) = some r := h; clear h; replace H := Option.bind_eq_some_iff.mp H; obtain ⟨Aa, Ab, H⟩ := H; replace H : (some Aa) = some r := H; have A2 := Aside0.mk Ab; clear Ab; obtain rfl := Option.some.inj H
 go_enter Try.func51, Try.ntmps51
 go_wp2_with (first | ((with_reducible refine gate_callee (f := 65) rfl ?_); refine glE (some 4) Try.func65 #[.int .i64 a0, .int .i64 0, .int .i64 5] ?_; (with_reducible refine (spec_l1In.calls a0 0 5 Aa _ A2.out).mono ?_); rintro e w' ⟨rfl, ⟨nd, rfl⟩⟩; refine ⟨_, rfl, ?_⟩))
 go_ret
 exact ⟨Z14, Z44⟩
def spec_l2Side.f (a0 : Int) : Option (Bool) := (spec_l1In.f a0 1 8).bind fun t102 => (some t102)
theorem spec_l2Side.calls (a0 : Int) (r : Bool) (w : World) (h : spec_l2Side.f a0 = some r) :
  Calls Try.prog 76 #[.int .i64 a0] w fun e w' => e = .returned (.bool r) ∧ Drawn0 w w' := by
 have H : ((spec_l1In.f a0 1 8).bind fun Aa => (some Aa)) = some r := h; clear h; replace H := Option.bind_eq_some_iff.mp H; obtain ⟨Aa, Ab, H⟩ := H; replace H : (some Aa) = some r := H; have A2 := Aside0.mk Ab; clear Ab; obtain rfl := Option.some.inj H
 go_enter Try.func76, Try.ntmps76
 go_wp2_with (first | ((with_reducible refine gate_callee (f := 65) rfl ?_); refine glE (some 4) Try.func65 #[.int .i64 a0, .int .i64 1, .int .i64 8] ?_; (with_reducible refine (spec_l1In.calls a0 1 8 Aa _ A2.out).mono ?_); rintro e w' ⟨rfl, ⟨nd, rfl⟩⟩; refine ⟨_, rfl, ?_⟩))
 go_ret
 exact ⟨Z14, Z44⟩
def spec_l2Good.l0 : Nat → Int → Int → Int → List Int → Option (Bool)
 | 0, _, _, _, _ => none
 | k + 1, x3, x104000, x104001, x104002 => if x3 < (x104002.length : Int) then (if 0 ≤ x3 then ((spec_l2Color.f (rd x104002 x3)).bind fun t105 => (if t105 = true then (spec_l2Good.l0 k (wrap64 (x3 + 1)) x104000 x104001 x104002) else (some false))) else (none)) else ((spec_l2Side.f x104000).bind fun t106 => (if t106 = true then ((spec_l2Side.f x104001).bind fun t107 => (if t107 = true then (some ((x104002.length : Int) == (wrap64 (x104000 * x104001)))) else (some false))) else (some false)))
def spec_l2Good.f (k : Nat) (a0_0 : Int) (a0_1 : Int) (l0_2 : List Int) : Option (Bool) := spec_l2Good.l0 k 0 a0_0 a0_1 l0_2
theorem spec_l2Good.calls (k : Nat) (Ae : Int) (Af : Int) (Ak : Option Addr) (Al : Nat) (Aa : List Int) (r : Bool) (w : World) (Am : Kd.C (Kd.int .i64) w Ak Aa.length Aa) (An : Aa.length ≤ Al) (h : spec_l2Good.f k Ae Af Aa = some r) :
  Calls Try.prog 43 #[.agg #[.int .i64 Ae, .int .i64 Af, .slice Ak Aa.length Al]] w fun e w' => e = .returned (.bool r) ∧ Below w.heap.size w w' := by
 have hu28 := Try.underlying28; have Ao := Aside0.mk Am; have B7 := Aside0.mk An; clear Am An; have HB := aM (Below.refl w.heap.size w); have H : (spec_l2Good.l0 k 0 Ae Af Aa) = some r := h; clear h; have H' := Aside0.mk H; clear H
 go_enter Try.func43, Try.ntmps43
 go_wp2_with (first | ((with_reducible refine gate_dst (N := 1) rfl ?_); (try (refine gate_guard (by rfl) ?_; dsimp only)); refine bxE 1 #[.int .i64 Ae, .int .i64 Af, .slice Ak Aa.length Al] 28 ?_; intro Ap hg w2 hbox hb; have Ac := aM (hbox); have Ca := gwS hg Z0; have Ag := gwS hg Z0; replace HB := hbS Z0 hb; clear hb hbox hg))
 go_loopg [3] k (fun kq v3 w' => ∃ (Ab : Int), v3 = .int .i64 Ab ∧ Aside0 (spec_l2Good.l0 kq Ab Ae Af Aa = some r) ∧ Aside0 (kq ≤ k) ∧ Aside0 (w'.heap[Ap]? = some (.cells #[.int .i64 Ae, .int .i64 Af, (.slice Ak Aa.length Al)] 28 (0, 0))) ∧ Aside0 (Below w.heap.size w w'))
 case atStart => exact ⟨(0), Z14, H', ⟨Nat.le_refl _⟩, ⟨Z40⟩, ⟨Z82⟩⟩
 case round =>
  clear H'; (try clear p2); obtain ⟨Ab, rfl, HA, HK1, Ac, HB⟩ := hrel; cases gk with
  | zero => exact absurd HA.out (by simp [spec_l2Good.l0])
  | succ k1 =>
   have H := HA.out; clear HA
   simp only [spec_l2Good.l0] at H
   by_cases c3 : Ab < (Aa.length : Int)
   ·rw [if_pos c3] at H
    have c3b0 : decide (Ab < (Aa.length : Int)) = true := decide_eq_true c3; clear c3
    by_cases c4 : 0 ≤ Ab
    ·rw [if_pos c4] at H
     have c4b0 : decide (0 ≤ Ab) = true := decide_eq_true c4; clear c4; replace H := Option.bind_eq_some_iff.mp H; obtain ⟨Aq, Cb, H⟩ := H; replace H : (if Aq = true then (spec_l2Good.l0 k1 (wrap64 (Ab + 1)) Ae Af Aa) else (some false)) = some r := H; have A5 := Aside0.mk Cb; clear Cb
     by_cases c6 : Aq = true
     ·subst c6
      have H1 : (spec_l2Good.l0 k1 (wrap64 (Ab + 1)) Ae Af Aa) = some r := by rw [if_pos rfl] at H; exact H
      clear H; have H := H1; clear H1; have H' := Aside0.mk H; clear H; obtain ⟨Br, Bs, Bt⟩ := bz3 Ac; obtain ⟨Bu, Bv, Bw⟩ := fz3 Ac; have Ah : 0 ≤ (Ab : Int) := of_decide_eq_true Z3; have Ai : Ab < (Aa.length : Int) := of_decide_eq_true Z3; obtain ⟨ad104, e104, Ad⟩ := Kd.at_int Ao.out Ab Ah Ai; cases e104; replace Ad := (HB.out.cell (World.block_lt_of_cell? w _ Ad)).trans Ad; replace Ah := eq_true Ah; replace Ai := eq_true Ai
      go_wp2_with (first | ((with_reducible refine gate_callee (f := 51) rfl ?_); refine glE (some 16) Try.func51 #[.int .i64 (rd Aa Ab)] ?_; (with_reducible refine (spec_l2Color.calls (rd Aa Ab) true _ A5.out).mono ?_); rintro e w' ⟨rfl, ⟨nd, rfl⟩⟩; refine ⟨_, rfl, ?_⟩))
      go_roundg k1
      case measure => have := HK1.out; omega
      case rel => exact ⟨(wrap64 (Ab + 1)), Z14, H', ⟨Z118⟩, ⟨Z40⟩, ⟨Z82⟩⟩
     ·replace c6 := Bool.eq_false_iff.mpr c6
      subst c6
      have H1 : (some false) = some r := by rw [if_neg (show ¬ (false = true) by decide)] at H; exact H
      clear H; have H := H1; clear H1; obtain rfl := Option.some.inj H; obtain ⟨Bx, Bz, B0⟩ := bz3 Ac; obtain ⟨B2, B5, B6⟩ := fz3 Ac; have Ah : 0 ≤ (Ab : Int) := of_decide_eq_true Z3; have Ai : Ab < (Aa.length : Int) := of_decide_eq_true Z3; obtain ⟨ad104, e104, Ad⟩ := Kd.at_int Ao.out Ab Ah Ai; cases e104; replace Ad := (HB.out.cell (World.block_lt_of_cell? w _ Ad)).trans Ad; replace Ah := eq_true Ah; replace Ai := eq_true Ai
      go_wp2_with (first | ((with_reducible refine gate_callee (f := 51) rfl ?_); refine glE (some 16) Try.func51 #[.int .i64 (rd Aa Ab)] ?_; (with_reducible refine (spec_l2Color.calls (rd Aa Ab) false _ A5.out).mono ?_); rintro e w' ⟨rfl, ⟨nd, rfl⟩⟩; refine ⟨_, rfl, ?_⟩))
      go_ret
      exact ⟨Z10, Z82⟩
    ·rw [if_neg c4] at H
     exact absurd H (by simp)
   ·rw [if_neg c3] at H
    have c3b0 : decide (Ab < (Aa.length : Int)) = false := decide_eq_false c3; clear c3; replace H := Option.bind_eq_some_iff.mp H; obtain ⟨Ar, Cc, H⟩ := H; replace H : (if Ar = true then ((spec_l2Side.f Af).bind fun Aj => (if Aj = true then (some ((Aa.length : Int) == (wrap64 (Ae * Af)))) else (some false))) else (some false)) = some r := H; have A9 := Aside0.mk Cc; clear Cc
    by_cases Aw : Ar = true
    ·subst Aw
     have H1 : ((spec_l2Side.f Af).bind fun Aj => (if Aj = true then (some ((Aa.length : Int) == (wrap64 (Ae * Af)))) else (some false))) = some r := by rw [if_pos rfl] at H; exact H
     clear H; have H := H1; clear H1; replace H := Option.bind_eq_some_iff.mp H; obtain ⟨Aj, Au, H⟩ := H; replace H : (if Aj = true then (some ((Aa.length : Int) == (wrap64 (Ae * Af)))) else (some false)) = some r := H; have Cd := Aside0.mk Au; clear Au
     by_cases Ax : Aj = true
     ·subst Ax
      have H1 : (some ((Aa.length : Int) == (wrap64 (Ae * Af)))) = some r := by rw [if_pos rfl] at H; exact H
      clear H; have H := H1; clear H1; obtain rfl := Option.some.inj H; obtain ⟨Ay, Az, Ba⟩ := bz3 Ac; obtain ⟨Bb, Bc, Bd⟩ := fz3 Ac
      go_wp2_with (first | ((with_reducible refine gate_callee (f := 76) rfl ?_); refine glE (some 20) Try.func76 #[.int .i64 Ae] ?_; (with_reducible refine (spec_l2Side.calls Ae true _ A9.out).mono ?_); rintro e w' ⟨rfl, ⟨nd, rfl⟩⟩; refine ⟨_, rfl, ?_⟩) | (go_at_call 76; (with_reducible refine (spec_l2Side.calls Af true _ Cd.out).mono ?_); rintro e w' ⟨rfl, ⟨nd, rfl⟩⟩))
      go_ret
      exact ⟨Z10, Z82⟩
     ·replace Ax := Bool.eq_false_iff.mpr Ax
      subst Ax
      have H1 : (some false) = some r := by rw [if_neg (show ¬ (false = true) by decide)] at H; exact H
      clear H; have H := H1; clear H1; obtain rfl := Option.some.inj H; obtain ⟨Bf, Bg, Bh⟩ := bz3 Ac; obtain ⟨Bi, Bj, Bk⟩ := fz3 Ac
      go_wp2_with (first | ((with_reducible refine gate_callee (f := 76) rfl ?_); refine glE (some 20) Try.func76 #[.int .i64 Ae] ?_; (with_reducible refine (spec_l2Side.calls Ae true _ A9.out).mono ?_); rintro e w' ⟨rfl, ⟨nd, rfl⟩⟩; refine ⟨_, rfl, ?_⟩) | (go_at_call 76; (with_reducible refine (spec_l2Side.calls Af false _ Cd.out).mono ?_); rintro e w' ⟨rfl, ⟨nd, rfl⟩⟩))
      go_ret
      exact ⟨Z10, Z82⟩
    ·replace Aw := Bool.eq_false_iff.mpr Aw
     subst Aw
     have H1 : (some false) = some r := by rw [if_neg (show ¬ (false = true) by decide)] at H; exact H
     clear H; have H := H1; clear H1; obtain rfl := Option.some.inj H; obtain ⟨Bl, Bm, Bn⟩ := bz3 Ac; obtain ⟨Bo, Bp, Bq⟩ := fz3 Ac
     go_wp2_with (first | ((with_reducible refine gate_callee (f := 76) rfl ?_); refine glE (some 20) Try.func76 #[.int .i64 Ae] ?_; (with_reducible refine (spec_l2Side.calls Ae false _ A9.out).mono ?_); rintro e w' ⟨rfl, ⟨nd, rfl⟩⟩; refine ⟨_, rfl, ?_⟩))
     go_ret
     exact ⟨Z10, Z82⟩
mutual
def spec_l12Next.j0 : Nat → Int → Int → Int → List Int → Int → Int → List Int → Option (List Int)
 | 0, _, _, _, _, _, _, _ => none
 | k + 1, x1, x5, x6, x7, x109000, x109001, x109002 => if x6 > 0 then (if x7.length < 17592186044416 then (spec_l12Next.j1 k x1 x5 x6 (x7 ++ [wrap64 (x1 - 1)]) x109000 x109001 x109002) else (none)) else (spec_l12Next.j1 k x1 x5 x6 x7 x109000 x109001 x109002)
def spec_l12Next.j1 : Nat → Int → Int → Int → List Int → Int → Int → List Int → Option (List Int)
 | 0, _, _, _, _, _, _, _ => none
 | k + 1, x1, x5, x6, x7, x109000, x109001, x109002 => if x6 < (wrap64 (x109000 - 1)) then (if x7.length < 17592186044416 then ((some (x7 ++ [wrap64 (x1 + 1)] : List Int)).bind fun y118 => (if x5 < (wrap64 (x109001 - 1)) then (if y118.length < 17592186044416 then (some (y118 ++ [wrap64 (x1 + x109000)])) else (none)) else (some y118))) else (none)) else (if x5 < (wrap64 (x109001 - 1)) then (if x7.length < 17592186044416 then (some (x7 ++ [wrap64 (x1 + x109000)])) else (none)) else (some x7))
end
def spec_l12Next.f (k : Nat) (a0_0 : Int) (a0_1 : Int) (l0_2 : List Int) (a1 : Int) : Option (List Int) := if a0_0 = 0 then (none) else ((some (([] : List Int) : List Int)).bind fun y109 => (if (wrap64 (Int.tdiv a1 a0_0)) > 0 then (if y109.length < 17592186044416 then (spec_l12Next.j0 k a1 (wrap64 (Int.tdiv a1 a0_0)) (Int.tmod a1 a0_0) (y109 ++ [wrap64 (a1 - a0_0)]) a0_0 a0_1 l0_2) else (none)) else (spec_l12Next.j0 k a1 (wrap64 (Int.tdiv a1 a0_0)) (Int.tmod a1 a0_0) y109 a0_0 a0_1 l0_2)))
theorem spec_l12Next.calls (k : Nat) (Ab : Int) (Ad : Int) (Ah : Option Addr) (Ai : Nat) (Af : List Int) (a1 : Int) (r : List Int) (w : World) (Cg : Kd.C (Kd.int .i64) w Ah Af.length Af) (Ch : Af.length ≤ Ai) (h : spec_l12Next.f k Ab Ad Af a1 = some r) :
  Calls Try.prog 66 #[.agg #[.int .i64 Ab, .int .i64 Ad, .slice Ah Af.length Ai], .int .i64 a1] w fun e w' => ∃ v0_ : Value, e = .returned (v0_) ∧ Kd.R (Kd.int .i64) 3 w' w.heap.size (fun _ => True) v0_ r ∧ Below w.heap.size w w' := by
 have hu28 := Try.underlying28; have Ds := Aside0.mk Cg; have Dt := Aside0.mk Ch; clear Cg Ch; have HB := aM (Below.refl w.heap.size w); have H : (if Ab = 0 then (none) else ((some (([] : List Int) : List Int)).bind fun Am => (if (wrap64 (Int.tdiv a1 Ab)) > 0 then (if Am.length < 17592186044416 then (spec_l12Next.j0 k a1 (wrap64 (Int.tdiv a1 Ab)) (Int.tmod a1 Ab) (Am ++ [wrap64 (a1 - Ab)]) Ab Ad Af) else (none)) else (spec_l12Next.j0 k a1 (wrap64 (Int.tdiv a1 Ab)) (Int.tmod a1 Ab) Am Ab Ad Af)))) = some r := h; clear h
 by_cases c3 : Ab = 0
 ·rw [if_pos c3] at H
  exact absurd H (by simp)
 ·rw [if_neg c3] at H
  have c3b0 : (Ab == 0) = false := beq_eq_false_iff_ne.mpr c3; have c3b1 : (Ab != 0) = true := bne_iff_ne.mpr c3; obtain ⟨Am, Az⟩ : ∃ y_ : List Int, y_ = (([] : List Int)) := ⟨_, rfl⟩
  replace H : (if (wrap64 (Int.tdiv a1 Ab)) > 0 then (if Am.length < 17592186044416 then (spec_l12Next.j0 k a1 (wrap64 (Int.tdiv a1 Ab)) (Int.tmod a1 Ab) (Am ++ [wrap64 (a1 - Ab)]) Ab Ad Af) else (none)) else (spec_l12Next.j0 k a1 (wrap64 (Int.tdiv a1 Ab)) (Int.tmod a1 Ab) Am Ab Ad Af)) = some r := by first | (rw [Az]; with_reducible exact H) | (have H2_ := (Option.bind_some _ _).symm.trans H; rw [Az]; with_reducible exact H2_) | (have H2_ := (Option.bind_some _ _).symm.trans H; with_reducible exact H2_) | with_reducible exact H | (rw [Az]; exact H) | exact H
  have An := Aside0.mk Az; clear Az; have Dp := Aside0.mk H; clear H
  go_enter Try.func66, Try.ntmps66
  go_upto_if 18 with (first | ((with_reducible refine gate_dst (N := 2) rfl ?_); refine bxE 2 #[.int .i64 Ab, .int .i64 Ad, .slice Ah Af.length Ai] 28 ?_; intro Ag hg w5 hbox hb; have Aa := aM (hbox); have Ci := gwS hg Z0; have Ac := gwS hg Z0; replace HB := hbS Z0 hb; clear hb hbox hg; obtain ⟨Ap, Aq, Ar⟩ := bz3 Aa; obtain ⟨Au, Aw, Ax⟩ := fz3 Aa) | ((with_reducible refine gate_dst (N := 16) rfl ?_); refine Kd.R_lit (Kd.int .i64) _ 3 ?hg (N := 16) ?hd (xs := ([] : List Int)) (inner := []) (ok := fun _ => True) (okp := fun _ => True) ?hr ?hp (fun _ hk => hk) trivial (Below.refl _ _) (Nat.le_refl _) (by simp) ?_; (case hd => rfl); (case hg => rfl); (case hr => first | (go_simp; done) | (go_simp; rfl)); (case hp => exact (Reps.none _ _)); intro B5 w7 Ba hb hg_ hnew_; clear hg_ hnew_; (first | rw [← An.out] at Ba | (simp only [Int.reduceToNat] at Ba; rw [← An.out] at Ba)); have Al := aM (Kd.R_lower Ba (below_size Z1)); replace Aa := bkB Aa hb; replace HB := hbS Z1 hb; clear hb Ba))
  repeat (go_quiet (first | ((with_reducible refine gate_dst (N := 2) rfl ?_); refine bxE 2 #[.int .i64 Ab, .int .i64 Ad, .slice Ah Af.length Ai] 28 ?_; intro Ag hg w5 hbox hb; have Aa := aM (hbox); have Ci := gwS hg Z0; have Ac := gwS hg Z0; replace HB := hbS Z0 hb; clear hb hbox hg; obtain ⟨Ap, Aq, Ar⟩ := bz3 Aa; obtain ⟨Au, Aw, Ax⟩ := fz3 Aa) | ((with_reducible refine gate_dst (N := 16) rfl ?_); refine Kd.R_lit (Kd.int .i64) _ 3 ?hg (N := 16) ?hd (xs := ([] : List Int)) (inner := []) (ok := fun _ => True) (okp := fun _ => True) ?hr ?hp (fun _ hk => hk) trivial (Below.refl _ _) (Nat.le_refl _) (by simp) ?_; (case hd => rfl); (case hg => rfl); (case hr => first | (go_simp; done) | (go_simp; rfl)); (case hp => exact (Reps.none _ _)); intro B5 w7 Ba hb hg_ hnew_; clear hg_ hnew_; (first | rw [← An.out] at Ba | (simp only [Int.reduceToNat] at Ba; rw [← An.out] at Ba)); have Al := aM (Kd.R_lower Ba (below_size Z1)); replace Aa := bkB Aa hb; replace HB := hbS Z1 hb; clear hb Ba)); go_upto_if 18 with (first | ((with_reducible refine gate_dst (N := 2) rfl ?_); refine bxE 2 #[.int .i64 Ab, .int .i64 Ad, .slice Ah Af.length Ai] 28 ?_; intro Ag hg w5 hbox hb; have Aa := aM (hbox); have Ci := gwS hg Z0; have Ac := gwS hg Z0; replace HB := hbS Z0 hb; clear hb hbox hg; obtain ⟨Ap, Aq, Ar⟩ := bz3 Aa; obtain ⟨Au, Aw, Ax⟩ := fz3 Aa) | ((with_reducible refine gate_dst (N := 16) rfl ?_); refine Kd.R_lit (Kd.int .i64) _ 3 ?hg (N := 16) ?hd (xs := ([] : List Int)) (inner := []) (ok := fun _ => True) (okp := fun _ => True) ?hr ?hp (fun _ hk => hk) trivial (Below.refl _ _) (Nat.le_refl _) (by simp) ?_; (case hd => rfl); (case hg => rfl); (case hr => first | (go_simp; done) | (go_simp; rfl)); (case hp => exact (Reps.none _ _)); intro B5 w7 Ba hb hg_ hnew_; clear hg_ hnew_; (first | rw [← An.out] at Ba | (simp only [Int.reduceToNat] at Ba; rw [← An.out] at Ba)); have Al := aM (Kd.R_lower Ba (below_size Z1)); replace Aa := bkB Aa hb; replace HB := hbS Z1 hb; clear hb Ba)))
  (try simp only [Act.put, List.setIfInBounds_toArray, List.set_cons_zero, List.set_cons_succ])
  go_cut [7] (fun v7 wc => ∃ (kq : Nat) (Ay : List Int), Aside0 (spec_l12Next.j0 kq a1 (wrap64 (Int.tdiv a1 Ab)) (Int.tmod a1 Ab) Ay Ab Ad Af = some r) ∧ Aside0 (kq ≤ k) ∧ Aside0 (Kd.R (Kd.int .i64) 3 wc w.heap.size (fun _ => True) v7 Ay) ∧ Aside0 (wc.heap[Ag]? = some (.cells #[.int .i64 Ab, .int .i64 Ad, (.slice Ah Af.length Ai)] 28 (0, 0))) ∧ Aside0 (Below w.heap.size w wc))
  case first =>
   have H := Dp.out; clear Dp
   by_cases c9 : (wrap64 (Int.tdiv a1 Ab)) > 0
   ·rw [if_pos c9] at H
    have c9b0 : decide (0 < (wrap64 (Int.tdiv a1 Ab))) = true := decide_eq_true c9; clear c9
    (first | rw [c9b0] | (simp only [i64_w, i32_w]; rw [c9b0]) | skip)
    by_cases Cl : Am.length < 17592186044416
    ·rw [if_pos Cl] at H
     have LMc10 := Aside0.mk Cl; clear Cl; obtain ⟨Cp, Bb⟩ : ∃ y_ : List Int, y_ = (Am ++ [wrap64 (a1 - Ab)]) := ⟨_, rfl⟩
     replace H : (spec_l12Next.j0 k a1 (wrap64 (Int.tdiv a1 Ab)) (Int.tmod a1 Ab) Cp Ab Ad Af) = some r := by first | (rw [Bb]; with_reducible exact H) | (have H2_ := (Option.bind_some _ _).symm.trans H; rw [Bb]; with_reducible exact H2_) | (have H2_ := (Option.bind_some _ _).symm.trans H; with_reducible exact H2_) | with_reducible exact H | (rw [Bb]; exact H) | exact H
     have B6 := Aside0.mk Bb; clear Bb; have H' := Aside0.mk H; clear H; obtain ⟨Bj, Bk, Bl⟩ := bz3 Aa; obtain ⟨Bm, Bn, Bo⟩ := fz3 Aa
     go_wp2_with (first | ((with_reducible refine gate_builtin (b := .append) (xs := #[.tmp 19, .tmp 24]) rfl ?_); at_builtin; refine Kd.R_append (Kd.int .i64) (w0 := w) w.heap.size rfl (.tmp 19) (.tmp 24) 22 3 (.int .i64 0) 8 rfl Try.underlying22 info3 rfl (by decide) (by omega) B5 Am (wrap64 (a1 - Ab)) [.int .i64 (wrap64 (a1 - Ab))] (fun _ => True) (fun _ => False) rfl rfl ?aP (fun _ hk => hk.elim) ?aF ?aO ?aB ?aS ?aL ?_; (case aP => exact rfl); (case aB => exact Z1); (case aF => exact (fun _ _ => trivial)); (case aO => exact Z71); (case aS => exact (below_size Z1)); (case aL => have := LMc10.out; omega); intro Cq Du ho hb hg hat; rw [← B6.out] at ho; replace Aa := aM (blk_grown (g := Ag) (o := .cells #[.int .i64 Ab, .int .i64 Ad, .slice Ah Af.length Ai] 28 (0, 0)) Z25 hg (Kd.R_ne Al.out Aa.out (by decide))); replace HB := aM (hb); have B7 := aM (ho); clear Al; clear ho hb hg hat))
     repeat (go_quiet (first | ((with_reducible refine gate_builtin (b := .append) (xs := #[.tmp 19, .tmp 24]) rfl ?_); at_builtin; refine Kd.R_append (Kd.int .i64) (w0 := w) w.heap.size rfl (.tmp 19) (.tmp 24) 22 3 (.int .i64 0) 8 rfl Try.underlying22 info3 rfl (by decide) (by omega) B5 Am (wrap64 (a1 - Ab)) [.int .i64 (wrap64 (a1 - Ab))] (fun _ => True) (fun _ => False) rfl rfl ?aP (fun _ hk => hk.elim) ?aF ?aO ?aB ?aS ?aL ?_; (case aP => exact rfl); (case aB => exact Z1); (case aF => exact (fun _ _ => trivial)); (case aO => exact Z71); (case aS => exact (below_size Z1)); (case aL => have := LMc10.out; omega); intro Cq Du ho hb hg hat; rw [← B6.out] at ho; replace Aa := aM (blk_grown (g := Ag) (o := .cells #[.int .i64 Ab, .int .i64 Ad, .slice Ah Af.length Ai] 28 (0, 0)) Z25 hg (Kd.R_ne Al.out Aa.out (by decide))); replace HB := aM (hb); have B7 := aM (ho); clear Al; clear ho hb hg hat)); try go_wp2_with (first | ((with_reducible refine gate_builtin (b := .append) (xs := #[.tmp 19, .tmp 24]) rfl ?_); at_builtin; refine Kd.R_append (Kd.int .i64) (w0 := w) w.heap.size rfl (.tmp 19) (.tmp 24) 22 3 (.int .i64 0) 8 rfl Try.underlying22 info3 rfl (by decide) (by omega) B5 Am (wrap64 (a1 - Ab)) [.int .i64 (wrap64 (a1 - Ab))] (fun _ => True) (fun _ => False) rfl rfl ?aP (fun _ hk => hk.elim) ?aF ?aO ?aB ?aS ?aL ?_; (case aP => exact rfl); (case aB => exact Z1); (case aF => exact (fun _ _ => trivial)); (case aO => exact Z71); (case aS => exact (below_size Z1)); (case aL => have := LMc10.out; omega); intro Cq Du ho hb hg hat; rw [← B6.out] at ho; replace Aa := aM (blk_grown (g := Ag) (o := .cells #[.int .i64 Ab, .int .i64 Ad, .slice Ah Af.length Ai] 28 (0, 0)) Z25 hg (Kd.R_ne Al.out Aa.out (by decide))); replace HB := aM (hb); have B7 := aM (ho); clear Al; clear ho hb hg hat)))
     go_meet
     case rel => exact ⟨_, (Cp), H', ⟨Z119⟩, ⟨by (with_reducible repeat (first | apply Kd.R_alloc | apply Kd.R_drewN | apply Kd.R_drew)); exact B7.out⟩, ⟨Z25⟩, ⟨Z1⟩⟩
    ·rw [if_neg Cl] at H
     exact absurd H (by simp)
   ·rw [if_neg c9] at H
    have c9b0 : decide (0 < (wrap64 (Int.tdiv a1 Ab))) = false := decide_eq_false c9; clear c9
    (first | rw [c9b0] | (simp only [i64_w, i32_w]; rw [c9b0]) | skip)
    have H' := Aside0.mk H; clear H
    go_wp2
    repeat (go_quiet (fail); try go_wp2)
    go_meet
    case rel => exact ⟨_, (Am), H', ⟨Z119⟩, ⟨Z71⟩, ⟨Z25⟩, ⟨Z1⟩⟩
  case rest =>
   clear Dp; (try clear c1); (try clear p2); (try clear c3); (try clear c3b0); (try clear c3b1); (try clear c6); (try clear p6); (try clear c9); (try clear c9b0); (try clear Cl); (try clear Bj); (try clear Bk); (try clear Bl); (try clear Ap); (try clear Aq); (try clear Ar); (try clear Bm); (try clear Bn); (try clear Bo); (try clear Au); (try clear Aw); (try clear Ax); obtain ⟨kq, Ay, HA, HJ3, Ae, Aa, HB⟩ := hcut; cases kq with
   | zero => exact absurd HA.out (by simp [spec_l12Next.j0])
   | succ Dv =>
    have H := HA.out; clear HA
    simp only [spec_l12Next.j0] at H
    have Cj := Aside0.mk H; clear H
    go_upto_if 27 with (fail)
    repeat (go_quiet (fail); go_upto_if 27 with (fail))
    go_cut [7] (fun v7 wc => ∃ (kq : Nat) (Aj : List Int), Aside0 (spec_l12Next.j1 kq a1 (wrap64 (Int.tdiv a1 Ab)) (Int.tmod a1 Ab) Aj Ab Ad Af = some r) ∧ Aside0 (kq ≤ Dv) ∧ Aside0 (Kd.R (Kd.int .i64) 3 wc w.heap.size (fun _ => True) v7 Aj) ∧ Aside0 (wc.heap[Ag]? = some (.cells #[.int .i64 Ab, .int .i64 Ad, (.slice Ah Af.length Ai)] 28 (0, 0))) ∧ Aside0 (Below w.heap.size w wc))
    case first =>
     have H := Cj.out; clear Cj
     by_cases Ck : (Int.tmod a1 Ab) > 0
     ·rw [if_pos Ck] at H
      have c14b0 : decide (0 < (Int.tmod a1 Ab)) = true := decide_eq_true Ck; clear Ck
      (first | rw [c14b0] | (simp only [i64_w, i32_w]; rw [c14b0]) | skip)
      by_cases Cr : Ay.length < 17592186044416
      ·rw [if_pos Cr] at H
       have LMc15 := Aside0.mk Cr; clear Cr; obtain ⟨Cs, Bc⟩ : ∃ y_ : List Int, y_ = (Ay ++ [wrap64 (a1 - 1)]) := ⟨_, rfl⟩
       replace H : (spec_l12Next.j1 Dv a1 (wrap64 (Int.tdiv a1 Ab)) (Int.tmod a1 Ab) Cs Ab Ad Af) = some r := by first | (rw [Bc]; with_reducible exact H) | (have H2_ := (Option.bind_some _ _).symm.trans H; rw [Bc]; with_reducible exact H2_) | (have H2_ := (Option.bind_some _ _).symm.trans H; with_reducible exact H2_) | with_reducible exact H | (rw [Bc]; exact H) | exact H
       have Ca := Aside0.mk Bc; clear Bc; have H' := Aside0.mk H; clear H
       go_wp2_with (first | ((with_reducible refine gate_builtin (b := .append) (xs := #[.tmp 28, .tmp 31]) rfl ?_); at_builtin; refine Kd.R_append (Kd.int .i64) (w0 := w) w.heap.size rfl (.tmp 28) (.tmp 31) 22 3 (.int .i64 0) 8 rfl Try.underlying22 info3 rfl (by decide) (by omega) u7 Ay (wrap64 (a1 - 1)) [.int .i64 (wrap64 (a1 - 1))] (fun _ => True) (fun _ => False) rfl rfl ?aP (fun _ hk => hk.elim) ?aF ?aO ?aB ?aS ?aL ?_; (case aP => exact rfl); (case aB => exact Z1); (case aF => exact (fun _ _ => trivial)); (case aO => exact Z58); (case aS => exact (below_size Z1)); (case aL => have := LMc15.out; omega); intro Ct Dw ho hb hg hat; rw [← Ca.out] at ho; replace Aa := aM (blk_grown (g := Ag) (o := .cells #[.int .i64 Ab, .int .i64 Ad, .slice Ah Af.length Ai] 28 (0, 0)) Z25 hg (Kd.R_ne Ae.out Aa.out (by decide))); replace HB := aM (hb); have Cb := aM (ho); clear Ae; clear ho hb hg hat))
       repeat (go_quiet (first | ((with_reducible refine gate_builtin (b := .append) (xs := #[.tmp 28, .tmp 31]) rfl ?_); at_builtin; refine Kd.R_append (Kd.int .i64) (w0 := w) w.heap.size rfl (.tmp 28) (.tmp 31) 22 3 (.int .i64 0) 8 rfl Try.underlying22 info3 rfl (by decide) (by omega) u7 Ay (wrap64 (a1 - 1)) [.int .i64 (wrap64 (a1 - 1))] (fun _ => True) (fun _ => False) rfl rfl ?aP (fun _ hk => hk.elim) ?aF ?aO ?aB ?aS ?aL ?_; (case aP => exact rfl); (case aB => exact Z1); (case aF => exact (fun _ _ => trivial)); (case aO => exact Z58); (case aS => exact (below_size Z1)); (case aL => have := LMc15.out; omega); intro Ct Dw ho hb hg hat; rw [← Ca.out] at ho; replace Aa := aM (blk_grown (g := Ag) (o := .cells #[.int .i64 Ab, .int .i64 Ad, .slice Ah Af.length Ai] 28 (0, 0)) Z25 hg (Kd.R_ne Ae.out Aa.out (by decide))); replace HB := aM (hb); have Cb := aM (ho); clear Ae; clear ho hb hg hat)); try go_wp2_with (first | ((with_reducible refine gate_builtin (b := .append) (xs := #[.tmp 28, .tmp 31]) rfl ?_); at_builtin; refine Kd.R_append (Kd.int .i64) (w0 := w) w.heap.size rfl (.tmp 28) (.tmp 31) 22 3 (.int .i64 0) 8 rfl Try.underlying22 info3 rfl (by decide) (by omega) u7 Ay (wrap64 (a1 - 1)) [.int .i64 (wrap64 (a1 - 1))] (fun _ => True) (fun _ => False) rfl rfl ?aP (fun _ hk => hk.elim) ?aF ?aO ?aB ?aS ?aL ?_; (case aP => exact rfl); (case aB => exact Z1); (case aF => exact (fun _ _ => trivial)); (case aO => exact Z58); (case aS => exact (below_size Z1)); (case aL => have := LMc15.out; omega); intro Ct Dw ho hb hg hat; rw [← Ca.out] at ho; replace Aa := aM (blk_grown (g := Ag) (o := .cells #[.int .i64 Ab, .int .i64 Ad, .slice Ah Af.length Ai] 28 (0, 0)) Z25 hg (Kd.R_ne Ae.out Aa.out (by decide))); replace HB := aM (hb); have Cb := aM (ho); clear Ae; clear ho hb hg hat)))
       go_meet
       case rel => exact ⟨_, (Cs), H', ⟨Z200⟩, ⟨by (with_reducible repeat (first | apply Kd.R_alloc | apply Kd.R_drewN | apply Kd.R_drew)); exact Cb.out⟩, ⟨Z25⟩, ⟨Z1⟩⟩
      ·rw [if_neg Cr] at H
       exact absurd H (by simp)
     ·rw [if_neg Ck] at H
      have c14b0 : decide (0 < (Int.tmod a1 Ab)) = false := decide_eq_false Ck; clear Ck
      (first | rw [c14b0] | (simp only [i64_w, i32_w]; rw [c14b0]) | skip)
      have H' := Aside0.mk H; clear H
      go_wp2
      repeat (go_quiet (fail); try go_wp2)
      go_meet
      case rel => exact ⟨_, (Ay), H', ⟨Z200⟩, ⟨Z58⟩, ⟨Z25⟩, ⟨Z1⟩⟩
    case rest =>
     clear Cj; (try clear c1); (try clear p2); (try clear c3); (try clear c3b0); (try clear c3b1); (try clear c6); (try clear p6); (try clear c9); (try clear c9b0); (try clear Cl); (try clear Ck); (try clear c14b0); (try clear Cr); (try clear Bj); (try clear Bk); (try clear Bl); (try clear Ap); (try clear Aq); (try clear Ar); (try clear Bm); (try clear Bn); (try clear Bo); (try clear Au); (try clear Aw); (try clear Ax); (try clear p2); (try clear p6); obtain ⟨kq, Aj, HA, HJ12, Ae, Aa, HB⟩ := hcut; cases kq with
     | zero => exact absurd HA.out (by simp [spec_l12Next.j1])
     | succ D1 =>
      have H := HA.out; clear HA
      simp only [spec_l12Next.j1] at H
      by_cases Cm : (Int.tmod a1 Ab) < (wrap64 (Ab - 1))
      ·rw [if_pos Cm] at H
       have c17b0 : decide ((Int.tmod a1 Ab) < (wrap64 (Ab - 1))) = true := decide_eq_true Cm; clear Cm
       by_cases Cw : Aj.length < 17592186044416
       ·rw [if_pos Cw] at H
        have LMc18 := Aside0.mk Cw; clear Cw; obtain ⟨Bd, Bf⟩ : ∃ y_ : List Int, y_ = (Aj ++ [wrap64 (a1 + 1)]) := ⟨_, rfl⟩
        replace H : (if (wrap64 (Int.tdiv a1 Ab)) < (wrap64 (Ad - 1)) then (if Bd.length < 17592186044416 then (some (Bd ++ [wrap64 (a1 + Ab)])) else (none)) else (some Bd)) = some r := by first | (rw [Bf]; with_reducible exact H) | (have H2_ := (Option.bind_some _ _).symm.trans H; rw [Bf]; with_reducible exact H2_) | (have H2_ := (Option.bind_some _ _).symm.trans H; with_reducible exact H2_) | with_reducible exact H | (rw [Bf]; exact H) | exact H
        have Ao := Aside0.mk Bf; clear Bf
        by_cases Cn : (wrap64 (Int.tdiv a1 Ab)) < (wrap64 (Ad - 1))
        ·rw [if_pos Cn] at H
         have c19b0 : decide ((wrap64 (Int.tdiv a1 Ab)) < (wrap64 (Ad - 1))) = true := decide_eq_true Cn; clear Cn
         by_cases Cx : Bd.length < 17592186044416
         ·rw [if_pos Cx] at H
          have LMc20 := Aside0.mk Cx; clear Cx; obtain ⟨Dq, Bg⟩ : ∃ y_ : List Int, y_ = (Bd ++ [wrap64 (a1 + Ab)]) := ⟨_, rfl⟩
          replace H : (some Dq) = some r := by first | (rw [Bg]; with_reducible exact H) | (have H2_ := (Option.bind_some _ _).symm.trans H; rw [Bg]; with_reducible exact H2_) | (have H2_ := (Option.bind_some _ _).symm.trans H; with_reducible exact H2_) | with_reducible exact H | (rw [Bg]; exact H) | exact H
          have Cc := Aside0.mk Bg; clear Bg; obtain rfl := Option.some.inj H; obtain ⟨Cy, Cz, C0⟩ := bz3 Aa; obtain ⟨C1, C3, C4⟩ := fz3 Aa
          go_wp2_with (first | ((with_reducible refine gate_builtin (b := .append) (xs := #[.tmp 38, .tmp 41]) rfl ?_); at_builtin; refine Kd.R_append (Kd.int .i64) (w0 := w) w.heap.size rfl (.tmp 38) (.tmp 41) 22 3 (.int .i64 0) 8 rfl Try.underlying22 info3 rfl (by decide) (by omega) u7 Aj (wrap64 (a1 + 1)) [.int .i64 (wrap64 (a1 + 1))] (fun _ => True) (fun _ => False) rfl rfl ?aP (fun _ hk => hk.elim) ?aF ?aO ?aB ?aS ?aL ?_; (case aP => exact rfl); (case aB => exact Z1); (case aF => exact (fun _ _ => trivial)); (case aO => exact Z58); (case aS => exact (below_size Z1)); (case aL => have := LMc18.out; omega); intro Bh Dx ho hb hg hat; rw [← Ao.out] at ho; replace Aa := aM (blk_grown (g := Ag) (o := .cells #[.int .i64 Ab, .int .i64 Ad, .slice Ah Af.length Ai] 28 (0, 0)) Z25 hg (Kd.R_ne Ae.out Aa.out (by decide))); replace HB := aM (hb); have Ak := aM (ho); clear Ae; clear ho hb hg hat; obtain ⟨Bp, Bq, Br⟩ := bz3 Aa; obtain ⟨Bs, Bt, Bu⟩ := fz3 Aa) | ((with_reducible refine gate_builtin (b := .append) (xs := #[.tmp 48, .tmp 53]) rfl ?_); at_builtin; refine Kd.R_append (Kd.int .i64) (w0 := w) w.heap.size rfl (.tmp 48) (.tmp 53) 22 3 (.int .i64 0) 8 rfl Try.underlying22 info3 rfl (by decide) (by omega) Bh Bd (wrap64 (a1 + Ab)) [.int .i64 (wrap64 (a1 + Ab))] (fun _ => True) (fun _ => False) rfl rfl ?aP (fun _ hk => hk.elim) ?aF ?aO ?aB ?aS ?aL ?_; (case aP => exact rfl); (case aB => exact Z1); (case aF => exact (fun _ _ => trivial)); (case aO => exact Z51); (case aS => exact (below_size Z1)); (case aL => have := LMc20.out; omega); intro Cu Dy ho hb hg hat; rw [← Cc.out] at ho; replace Aa := aM (blk_grown (g := Ag) (o := .cells #[.int .i64 Ab, .int .i64 Ad, .slice Ah Af.length Ai] 28 (0, 0)) Z25 hg (Kd.R_ne Ak.out Aa.out (by decide))); replace HB := aM (hb); have Cd := aM (ho); clear Ak; clear ho hb hg hat))
          repeat (go_quiet (first | ((with_reducible refine gate_builtin (b := .append) (xs := #[.tmp 38, .tmp 41]) rfl ?_); at_builtin; refine Kd.R_append (Kd.int .i64) (w0 := w) w.heap.size rfl (.tmp 38) (.tmp 41) 22 3 (.int .i64 0) 8 rfl Try.underlying22 info3 rfl (by decide) (by omega) u7 Aj (wrap64 (a1 + 1)) [.int .i64 (wrap64 (a1 + 1))] (fun _ => True) (fun _ => False) rfl rfl ?aP (fun _ hk => hk.elim) ?aF ?aO ?aB ?aS ?aL ?_; (case aP => exact rfl); (case aB => exact Z1); (case aF => exact (fun _ _ => trivial)); (case aO => exact Z58); (case aS => exact (below_size Z1)); (case aL => have := LMc18.out; omega); intro Bh Dx ho hb hg hat; rw [← Ao.out] at ho; replace Aa := aM (blk_grown (g := Ag) (o := .cells #[.int .i64 Ab, .int .i64 Ad, .slice Ah Af.length Ai] 28 (0, 0)) Z25 hg (Kd.R_ne Ae.out Aa.out (by decide))); replace HB := aM (hb); have Ak := aM (ho); clear Ae; clear ho hb hg hat; obtain ⟨Bp, Bq, Br⟩ := bz3 Aa; obtain ⟨Bs, Bt, Bu⟩ := fz3 Aa) | ((with_reducible refine gate_builtin (b := .append) (xs := #[.tmp 48, .tmp 53]) rfl ?_); at_builtin; refine Kd.R_append (Kd.int .i64) (w0 := w) w.heap.size rfl (.tmp 48) (.tmp 53) 22 3 (.int .i64 0) 8 rfl Try.underlying22 info3 rfl (by decide) (by omega) Bh Bd (wrap64 (a1 + Ab)) [.int .i64 (wrap64 (a1 + Ab))] (fun _ => True) (fun _ => False) rfl rfl ?aP (fun _ hk => hk.elim) ?aF ?aO ?aB ?aS ?aL ?_; (case aP => exact rfl); (case aB => exact Z1); (case aF => exact (fun _ _ => trivial)); (case aO => exact Z51); (case aS => exact (below_size Z1)); (case aL => have := LMc20.out; omega); intro Cu Dy ho hb hg hat; rw [← Cc.out] at ho; replace Aa := aM (blk_grown (g := Ag) (o := .cells #[.int .i64 Ab, .int .i64 Ad, .slice Ah Af.length Ai] 28 (0, 0)) Z25 hg (Kd.R_ne Ak.out Aa.out (by decide))); replace HB := aM (hb); have Cd := aM (ho); clear Ak; clear ho hb hg hat)); try go_wp2_with (first | ((with_reducible refine gate_builtin (b := .append) (xs := #[.tmp 38, .tmp 41]) rfl ?_); at_builtin; refine Kd.R_append (Kd.int .i64) (w0 := w) w.heap.size rfl (.tmp 38) (.tmp 41) 22 3 (.int .i64 0) 8 rfl Try.underlying22 info3 rfl (by decide) (by omega) u7 Aj (wrap64 (a1 + 1)) [.int .i64 (wrap64 (a1 + 1))] (fun _ => True) (fun _ => False) rfl rfl ?aP (fun _ hk => hk.elim) ?aF ?aO ?aB ?aS ?aL ?_; (case aP => exact rfl); (case aB => exact Z1); (case aF => exact (fun _ _ => trivial)); (case aO => exact Z58); (case aS => exact (below_size Z1)); (case aL => have := LMc18.out; omega); intro Bh Dx ho hb hg hat; rw [← Ao.out] at ho; replace Aa := aM (blk_grown (g := Ag) (o := .cells #[.int .i64 Ab, .int .i64 Ad, .slice Ah Af.length Ai] 28 (0, 0)) Z25 hg (Kd.R_ne Ae.out Aa.out (by decide))); replace HB := aM (hb); have Ak := aM (ho); clear Ae; clear ho hb hg hat; obtain ⟨Bp, Bq, Br⟩ := bz3 Aa; obtain ⟨Bs, Bt, Bu⟩ := fz3 Aa) | ((with_reducible refine gate_builtin (b := .append) (xs := #[.tmp 48, .tmp 53]) rfl ?_); at_builtin; refine Kd.R_append (Kd.int .i64) (w0 := w) w.heap.size rfl (.tmp 48) (.tmp 53) 22 3 (.int .i64 0) 8 rfl Try.underlying22 info3 rfl (by decide) (by omega) Bh Bd (wrap64 (a1 + Ab)) [.int .i64 (wrap64 (a1 + Ab))] (fun _ => True) (fun _ => False) rfl rfl ?aP (fun _ hk => hk.elim) ?aF ?aO ?aB ?aS ?aL ?_; (case aP => exact rfl); (case aB => exact Z1); (case aF => exact (fun _ _ => trivial)); (case aO => exact Z51); (case aS => exact (below_size Z1)); (case aL => have := LMc20.out; omega); intro Cu Dy ho hb hg hat; rw [← Cc.out] at ho; replace Aa := aM (blk_grown (g := Ag) (o := .cells #[.int .i64 Ab, .int .i64 Ad, .slice Ah Af.length Ai] 28 (0, 0)) Z25 hg (Kd.R_ne Ak.out Aa.out (by decide))); replace HB := aM (hb); have Cd := aM (ho); clear Ak; clear ho hb hg hat)))
          go_ret
          exact ⟨_, Z10, Z187, Z1⟩
         ·rw [if_neg Cx] at H
          exact absurd H (by simp)
        ·rw [if_neg Cn] at H
         have c19b0 : decide ((wrap64 (Int.tdiv a1 Ab)) < (wrap64 (Ad - 1))) = false := decide_eq_false Cn; clear Cn; obtain rfl := Option.some.inj H; obtain ⟨C5, C6, C7⟩ := bz3 Aa; obtain ⟨C8, C9, Da⟩ := fz3 Aa
         go_wp2_with (first | ((with_reducible refine gate_builtin (b := .append) (xs := #[.tmp 38, .tmp 41]) rfl ?_); at_builtin; refine Kd.R_append (Kd.int .i64) (w0 := w) w.heap.size rfl (.tmp 38) (.tmp 41) 22 3 (.int .i64 0) 8 rfl Try.underlying22 info3 rfl (by decide) (by omega) u7 Aj (wrap64 (a1 + 1)) [.int .i64 (wrap64 (a1 + 1))] (fun _ => True) (fun _ => False) rfl rfl ?aP (fun _ hk => hk.elim) ?aF ?aO ?aB ?aS ?aL ?_; (case aP => exact rfl); (case aB => exact Z1); (case aF => exact (fun _ _ => trivial)); (case aO => exact Z58); (case aS => exact (below_size Z1)); (case aL => have := LMc18.out; omega); intro Bh Dz ho hb hg hat; rw [← Ao.out] at ho; replace Aa := aM (blk_grown (g := Ag) (o := .cells #[.int .i64 Ab, .int .i64 Ad, .slice Ah Af.length Ai] 28 (0, 0)) Z25 hg (Kd.R_ne Ae.out Aa.out (by decide))); replace HB := aM (hb); have Ak := aM (ho); clear Ae; clear ho hb hg hat; obtain ⟨Bv, Bw, Bx⟩ := bz3 Aa; obtain ⟨Bz, B0, B2⟩ := fz3 Aa))
         repeat (go_quiet (first | ((with_reducible refine gate_builtin (b := .append) (xs := #[.tmp 38, .tmp 41]) rfl ?_); at_builtin; refine Kd.R_append (Kd.int .i64) (w0 := w) w.heap.size rfl (.tmp 38) (.tmp 41) 22 3 (.int .i64 0) 8 rfl Try.underlying22 info3 rfl (by decide) (by omega) u7 Aj (wrap64 (a1 + 1)) [.int .i64 (wrap64 (a1 + 1))] (fun _ => True) (fun _ => False) rfl rfl ?aP (fun _ hk => hk.elim) ?aF ?aO ?aB ?aS ?aL ?_; (case aP => exact rfl); (case aB => exact Z1); (case aF => exact (fun _ _ => trivial)); (case aO => exact Z58); (case aS => exact (below_size Z1)); (case aL => have := LMc18.out; omega); intro Bh Dz ho hb hg hat; rw [← Ao.out] at ho; replace Aa := aM (blk_grown (g := Ag) (o := .cells #[.int .i64 Ab, .int .i64 Ad, .slice Ah Af.length Ai] 28 (0, 0)) Z25 hg (Kd.R_ne Ae.out Aa.out (by decide))); replace HB := aM (hb); have Ak := aM (ho); clear Ae; clear ho hb hg hat; obtain ⟨Bv, Bw, Bx⟩ := bz3 Aa; obtain ⟨Bz, B0, B2⟩ := fz3 Aa)); try go_wp2_with (first | ((with_reducible refine gate_builtin (b := .append) (xs := #[.tmp 38, .tmp 41]) rfl ?_); at_builtin; refine Kd.R_append (Kd.int .i64) (w0 := w) w.heap.size rfl (.tmp 38) (.tmp 41) 22 3 (.int .i64 0) 8 rfl Try.underlying22 info3 rfl (by decide) (by omega) u7 Aj (wrap64 (a1 + 1)) [.int .i64 (wrap64 (a1 + 1))] (fun _ => True) (fun _ => False) rfl rfl ?aP (fun _ hk => hk.elim) ?aF ?aO ?aB ?aS ?aL ?_; (case aP => exact rfl); (case aB => exact Z1); (case aF => exact (fun _ _ => trivial)); (case aO => exact Z58); (case aS => exact (below_size Z1)); (case aL => have := LMc18.out; omega); intro Bh Dz ho hb hg hat; rw [← Ao.out] at ho; replace Aa := aM (blk_grown (g := Ag) (o := .cells #[.int .i64 Ab, .int .i64 Ad, .slice Ah Af.length Ai] 28 (0, 0)) Z25 hg (Kd.R_ne Ae.out Aa.out (by decide))); replace HB := aM (hb); have Ak := aM (ho); clear Ae; clear ho hb hg hat; obtain ⟨Bv, Bw, Bx⟩ := bz3 Aa; obtain ⟨Bz, B0, B2⟩ := fz3 Aa)))
         go_ret
         exact ⟨_, Z10, Z51, Z1⟩
       ·rw [if_neg Cw] at H
        exact absurd H (by simp)
      ·rw [if_neg Cm] at H
       have c17b0 : decide ((Int.tmod a1 Ab) < (wrap64 (Ab - 1))) = false := decide_eq_false Cm; clear Cm
       by_cases Co : (wrap64 (Int.tdiv a1 Ab)) < (wrap64 (Ad - 1))
       ·rw [if_pos Co] at H
        have c28b0 : decide ((wrap64 (Int.tdiv a1 Ab)) < (wrap64 (Ad - 1))) = true := decide_eq_true Co; clear Co
        by_cases Db : Aj.length < 17592186044416
        ·rw [if_pos Db] at H
         have LMc29 := Aside0.mk Db; clear Db; obtain ⟨Dr, Bi⟩ : ∃ y_ : List Int, y_ = (Aj ++ [wrap64 (a1 + Ab)]) := ⟨_, rfl⟩
         replace H : (some Dr) = some r := by first | (rw [Bi]; with_reducible exact H) | (have H2_ := (Option.bind_some _ _).symm.trans H; rw [Bi]; with_reducible exact H2_) | (have H2_ := (Option.bind_some _ _).symm.trans H; with_reducible exact H2_) | with_reducible exact H | (rw [Bi]; exact H) | exact H
         have Ce := Aside0.mk Bi; clear Bi; obtain rfl := Option.some.inj H; obtain ⟨Dc, Dd, De⟩ := bz3 Aa; obtain ⟨Df, Dg, Dh⟩ := fz3 Aa
         go_wp2_with (first | ((with_reducible refine gate_builtin (b := .append) (xs := #[.tmp 48, .tmp 53]) rfl ?_); at_builtin; refine Kd.R_append (Kd.int .i64) (w0 := w) w.heap.size rfl (.tmp 48) (.tmp 53) 22 3 (.int .i64 0) 8 rfl Try.underlying22 info3 rfl (by decide) (by omega) u7 Aj (wrap64 (a1 + Ab)) [.int .i64 (wrap64 (a1 + Ab))] (fun _ => True) (fun _ => False) rfl rfl ?aP (fun _ hk => hk.elim) ?aF ?aO ?aB ?aS ?aL ?_; (case aP => exact rfl); (case aB => exact Z1); (case aF => exact (fun _ _ => trivial)); (case aO => exact Z58); (case aS => exact (below_size Z1)); (case aL => have := LMc29.out; omega); intro Cv D0 ho hb hg hat; rw [← Ce.out] at ho; replace Aa := aM (blk_grown (g := Ag) (o := .cells #[.int .i64 Ab, .int .i64 Ad, .slice Ah Af.length Ai] 28 (0, 0)) Z25 hg (Kd.R_ne Ae.out Aa.out (by decide))); replace HB := aM (hb); have Cf := aM (ho); clear Ae; clear ho hb hg hat))
         repeat (go_quiet (first | ((with_reducible refine gate_builtin (b := .append) (xs := #[.tmp 48, .tmp 53]) rfl ?_); at_builtin; refine Kd.R_append (Kd.int .i64) (w0 := w) w.heap.size rfl (.tmp 48) (.tmp 53) 22 3 (.int .i64 0) 8 rfl Try.underlying22 info3 rfl (by decide) (by omega) u7 Aj (wrap64 (a1 + Ab)) [.int .i64 (wrap64 (a1 + Ab))] (fun _ => True) (fun _ => False) rfl rfl ?aP (fun _ hk => hk.elim) ?aF ?aO ?aB ?aS ?aL ?_; (case aP => exact rfl); (case aB => exact Z1); (case aF => exact (fun _ _ => trivial)); (case aO => exact Z58); (case aS => exact (below_size Z1)); (case aL => have := LMc29.out; omega); intro Cv D0 ho hb hg hat; rw [← Ce.out] at ho; replace Aa := aM (blk_grown (g := Ag) (o := .cells #[.int .i64 Ab, .int .i64 Ad, .slice Ah Af.length Ai] 28 (0, 0)) Z25 hg (Kd.R_ne Ae.out Aa.out (by decide))); replace HB := aM (hb); have Cf := aM (ho); clear Ae; clear ho hb hg hat)); try go_wp2_with (first | ((with_reducible refine gate_builtin (b := .append) (xs := #[.tmp 48, .tmp 53]) rfl ?_); at_builtin; refine Kd.R_append (Kd.int .i64) (w0 := w) w.heap.size rfl (.tmp 48) (.tmp 53) 22 3 (.int .i64 0) 8 rfl Try.underlying22 info3 rfl (by decide) (by omega) u7 Aj (wrap64 (a1 + Ab)) [.int .i64 (wrap64 (a1 + Ab))] (fun _ => True) (fun _ => False) rfl rfl ?aP (fun _ hk => hk.elim) ?aF ?aO ?aB ?aS ?aL ?_; (case aP => exact rfl); (case aB => exact Z1); (case aF => exact (fun _ _ => trivial)); (case aO => exact Z58); (case aS => exact (below_size Z1)); (case aL => have := LMc29.out; omega); intro Cv D0 ho hb hg hat; rw [← Ce.out] at ho; replace Aa := aM (blk_grown (g := Ag) (o := .cells #[.int .i64 Ab, .int .i64 Ad, .slice Ah Af.length Ai] 28 (0, 0)) Z25 hg (Kd.R_ne Ae.out Aa.out (by decide))); replace HB := aM (hb); have Cf := aM (ho); clear Ae; clear ho hb hg hat)))
         go_ret
         exact ⟨_, Z10, by (with_reducible repeat (first | apply Kd.R_alloc | apply Kd.R_drewN | apply Kd.R_drew)); exact Cf.out, Z1⟩
        ·rw [if_neg Db] at H
         exact absurd H (by simp)
       ·rw [if_neg Co] at H
        have c28b0 : decide ((wrap64 (Int.tdiv a1 Ab)) < (wrap64 (Ad - 1))) = false := decide_eq_false Co; clear Co; obtain rfl := Option.some.inj H; obtain ⟨Di, Dj, Dk⟩ := bz3 Aa; obtain ⟨Dl, Dm, Dn⟩ := fz3 Aa
        go_wp2
        repeat (go_quiet (fail); try go_wp2)
        go_ret
        exact ⟨_, Z10, Z58, Z1⟩
end Go.Proofs.Ytaadbpibmlnncaa.H
