-- by wip/pack.py of this repo
import Derived.Test.YtcjalfgnnabghaaZ09Hx0
import Derived.Test.YtcjalfgnnabghaaZ09WGuard
import Derived.Test.YtcjalfgnnabghaaZ09WLast
import Derived.Test.YtcjalfgnnabghaaZ09WMore
import Derived.Test.YtcjalfgnnabghaaZ09WTab
import Derived.Test.YtcjalfgnnabghaaZ09WWords
import Derived.Test.YtcjalfgnnabghaaZ09Short
namespace Go.Proofs.Ytcjalfgnnabghaa.H
open Go.RowKit Go.Proofs.YtcjalfgnnabghaaW.PrintWords Go.Proofs.YtcjalfgnnabghaaW.PrintLast Go.Proofs.YtcjalfgnnabghaaW.PrintMore
attribute [local go_sem] max2_int min2_int max_two min_two max_three min_three max_four min_four
set_option maxHeartbeats 8000000
set_option maxRecDepth 100000
set_option linter.unusedVariables false
set_option linter.unusedSimpArgs false
def spec_l1In.f (a0 : Int) (a1 : Int) (a2 : Int) : Option (Bool) := if a0 ≥ a1 then (some (decide (a0 ≤ a2))) else (some false)
theorem spec_l1In.calls (a0 : Int) (a1 : Int) (a2 : Int) (r : Bool) (w : World) (h : spec_l1In.f a0 a1 a2 = some r) :
  Calls Try.prog 72 #[.int .i64 a0, .int .i64 a1, .int .i64 a2] w fun e w' => e = .returned (.bool r) ∧ Drawn0 w w' := by
 have H : (if a0 ≥ a1 then (some (decide (a0 ≤ a2))) else (some false)) = some r := h; clear h
 by_cases c4 : a0 ≥ a1
 ·rw [if_pos c4] at H
  have c4b0 : decide (a1 ≤ a0) = true := decide_eq_true c4; clear c4; obtain rfl := Option.some.inj H
  go_enter Try.func72, Try.ntmps72
  go_wp2
  go_ret
  exact ⟨Z18, Z60⟩
 ·rw [if_neg c4] at H
  have c4b0 : decide (a1 ≤ a0) = false := decide_eq_false c4; clear c4; obtain rfl := Option.some.inj H
  go_enter Try.func72, Try.ntmps72
  go_wp2
  go_ret
  exact ⟨Z18, Z60⟩
theorem spec_l1In.eq (a b c : Int) : spec_l1In.f a b c = some (rng a b c) := by
 unfold spec_l1In.f rng; by_cases h : b ≤ a <;> simp [h]
def spec_l2Color.f (a0 : Int) : Option (Bool) := (spec_l1In.f a0 0 5).bind fun t101 => (some t101)
theorem spec_l2Color.calls (a0 : Int) (r : Bool) (w : World) (h : spec_l2Color.f a0 = some r) :
  Calls Try.prog 63 #[.int .i64 a0] w fun e w' => e = .returned (.bool r) ∧ Drawn0 w w' := by
 have H : ((spec_l1In.f a0 0 5).bind fun Aa => (some Aa)) = some r := h; clear h; replace H := Option.bind_eq_some_iff.mp H; obtain ⟨Aa, Ab, H⟩ := H; replace H : (some Aa) = some r := H; have A2 := Aside0.mk Ab; clear Ab; obtain rfl := Option.some.inj H
 go_enter Try.func63, Try.ntmps63
 go_wp2_with (first | ((with_reducible refine gate_callee (f := 72) rfl ?_); refine glE (some 4) Try.func72 #[.int .i64 a0, .int .i64 0, .int .i64 5] ?_; (with_reducible refine (spec_l1In.calls a0 0 5 Aa _ A2.out).mono ?_); rintro e w' ⟨rfl, ⟨nd, rfl⟩⟩; refine ⟨_, rfl, ?_⟩))
 go_ret
 exact ⟨Z18, Z60⟩
def spec_l2Side.f (a0 : Int) : Option (Bool) := (spec_l1In.f a0 1 8).bind fun t102 => (some t102)
theorem spec_l2Side.calls (a0 : Int) (r : Bool) (w : World) (h : spec_l2Side.f a0 = some r) :
  Calls Try.prog 95 #[.int .i64 a0] w fun e w' => e = .returned (.bool r) ∧ Drawn0 w w' := by
 have H : ((spec_l1In.f a0 1 8).bind fun Aa => (some Aa)) = some r := h; clear h; replace H := Option.bind_eq_some_iff.mp H; obtain ⟨Aa, Ab, H⟩ := H; replace H : (some Aa) = some r := H; have A2 := Aside0.mk Ab; clear Ab; obtain rfl := Option.some.inj H
 go_enter Try.func95, Try.ntmps95
 go_wp2_with (first | ((with_reducible refine gate_callee (f := 72) rfl ?_); refine glE (some 4) Try.func72 #[.int .i64 a0, .int .i64 1, .int .i64 8] ?_; (with_reducible refine (spec_l1In.calls a0 1 8 Aa _ A2.out).mono ?_); rintro e w' ⟨rfl, ⟨nd, rfl⟩⟩; refine ⟨_, rfl, ?_⟩))
 go_ret
 exact ⟨Z18, Z60⟩
def spec_l2Good.l0 : Nat → Int → Int → Int → List Int → Option (Bool)
 | 0, _, _, _, _ => none
 | k + 1, x3, x104000, x104001, x104002 => if x3 < (x104002.length : Int) then (if 0 ≤ x3 then ((spec_l2Color.f (rd x104002 x3)).bind fun t105 => (if t105 = true then (spec_l2Good.l0 k (wrap64 (x3 + 1)) x104000 x104001 x104002) else (some false))) else (none)) else ((spec_l2Side.f x104000).bind fun t106 => (if t106 = true then ((spec_l2Side.f x104001).bind fun t107 => (if t107 = true then (some ((x104002.length : Int) == (wrap64 (x104000 * x104001)))) else (some false))) else (some false)))
def spec_l2Good.f (k : Nat) (a0_0 : Int) (a0_1 : Int) (l0_2 : List Int) : Option (Bool) := spec_l2Good.l0 k 0 a0_0 a0_1 l0_2
theorem spec_l2Good.calls (k : Nat) (Ae : Int) (Af : Int) (Ak : Option Addr) (Al : Nat) (Aa : List Int) (r : Bool) (w : World) (Am : Kd.C (Kd.int .i64) w Ak Aa.length Aa) (An : Aa.length ≤ Al) (h : spec_l2Good.f k Ae Af Aa = some r) :
  Calls Try.prog 71 #[.agg #[.int .i64 Ae, .int .i64 Af, .slice Ak Aa.length Al]] w fun e w' => e = .returned (.bool r) ∧ Below w.heap.size w w' := by
 have hu28 := Try.underlying28; have Ao := Aside0.mk Am; have B7 := Aside0.mk An; clear Am An; have HB := aM (Below.refl w.heap.size w); have H : (spec_l2Good.l0 k 0 Ae Af Aa) = some r := h; clear h; have H' := Aside0.mk H; clear H
 go_enter Try.func71, Try.ntmps71
 go_wp2_with (first | ((with_reducible refine gate_dst (N := 1) rfl ?_); (try (refine gate_guard (by rfl) ?_; dsimp only)); refine bxE 1 #[.int .i64 Ae, .int .i64 Af, .slice Ak Aa.length Al] 28 ?_; intro Ap hg w2 hbox hb; have Ac := aM (hbox); have B8 := gwS hg Z0; have Ag := gwS hg Z0; replace HB := hbS Z0 hb; clear hb hbox hg))
 go_loopg [3] k (fun kq v3 w' => ∃ (Ab : Int), v3 = .int .i64 Ab ∧ Aside0 (spec_l2Good.l0 kq Ab Ae Af Aa = some r) ∧ Aside0 (kq ≤ k) ∧ Aside0 (w'.heap[Ap]? = some (.cells #[.int .i64 Ae, .int .i64 Af, (.slice Ak Aa.length Al)] 28 (0, 0))) ∧ Aside0 (Below w.heap.size w w'))
 case atStart => exact ⟨(0), Z18, H', ⟨Nat.le_refl _⟩, ⟨Z36⟩, ⟨Z94⟩⟩
 case round =>
  clear H'; (try clear p2); obtain ⟨Ab, rfl, HA, HK1, Ac, HB⟩ := hrel; cases gk with
  | zero => exact absurd HA.out (by simp [spec_l2Good.l0])
  | succ k1 =>
   have H := HA.out; clear HA
   simp only [spec_l2Good.l0] at H
   by_cases c3 : Ab < (Aa.length : Int)
   ·rw [if_pos c3] at H
    have c3b0 : decide (Ab < (Aa.length : Int)) = true := decide_eq_true c3; clear c3
    by_cases c4 : 0 ≤ Ab
    ·rw [if_pos c4] at H
     have c4b0 : decide (0 ≤ Ab) = true := decide_eq_true c4; clear c4; replace H := Option.bind_eq_some_iff.mp H; obtain ⟨Aq, B9, H⟩ := H; replace H : (if Aq = true then (spec_l2Good.l0 k1 (wrap64 (Ab + 1)) Ae Af Aa) else (some false)) = some r := H; have A5 := Aside0.mk B9; clear B9
     by_cases c6 : Aq = true
     ·subst c6
      have H1 : (spec_l2Good.l0 k1 (wrap64 (Ab + 1)) Ae Af Aa) = some r := by rw [if_pos rfl] at H; exact H
      clear H; have H := H1; clear H1; have H' := Aside0.mk H; clear H; obtain ⟨Bq, Br, Bs⟩ := bz3 Ac; obtain ⟨Bt, Bu, Bv⟩ := fz3 Ac; have Ah : 0 ≤ (Ab : Int) := of_decide_eq_true Z37; have Ai : Ab < (Aa.length : Int) := of_decide_eq_true Z37; obtain ⟨ad104, e104, Ad⟩ := Kd.at_int Ao.out Ab Ah Ai; cases e104; replace Ad := (HB.out.cell (World.block_lt_of_cell? w _ Ad)).trans Ad; replace Ah := eq_true Ah; replace Ai := eq_true Ai
      go_wp2_with (first | ((with_reducible refine gate_callee (f := 63) rfl ?_); refine glE (some 16) Try.func63 #[.int .i64 (rd Aa Ab)] ?_; (with_reducible refine (spec_l2Color.calls (rd Aa Ab) true _ A5.out).mono ?_); rintro e w' ⟨rfl, ⟨nd, rfl⟩⟩; refine ⟨_, rfl, ?_⟩))
      go_roundg k1
      case measure => have := HK1.out; omega
      case rel => exact ⟨(wrap64 (Ab + 1)), Z18, H', ⟨Z185⟩, ⟨Z36⟩, ⟨Z94⟩⟩
     ·replace c6 := Bool.eq_false_iff.mpr c6
      subst c6
      have H1 : (some false) = some r := by rw [if_neg (show ¬ (false = true) by decide)] at H; exact H
      clear H; have H := H1; clear H1; obtain rfl := Option.some.inj H; obtain ⟨Bw, Bx, Bz⟩ := bz3 Ac; obtain ⟨B0, B2, B6⟩ := fz3 Ac; have Ah : 0 ≤ (Ab : Int) := of_decide_eq_true Z37; have Ai : Ab < (Aa.length : Int) := of_decide_eq_true Z37; obtain ⟨ad104, e104, Ad⟩ := Kd.at_int Ao.out Ab Ah Ai; cases e104; replace Ad := (HB.out.cell (World.block_lt_of_cell? w _ Ad)).trans Ad; replace Ah := eq_true Ah; replace Ai := eq_true Ai
      go_wp2_with (first | ((with_reducible refine gate_callee (f := 63) rfl ?_); refine glE (some 16) Try.func63 #[.int .i64 (rd Aa Ab)] ?_; (with_reducible refine (spec_l2Color.calls (rd Aa Ab) false _ A5.out).mono ?_); rintro e w' ⟨rfl, ⟨nd, rfl⟩⟩; refine ⟨_, rfl, ?_⟩))
      go_ret
      exact ⟨Z10, Z94⟩
    ·rw [if_neg c4] at H
     exact absurd H (by simp)
   ·rw [if_neg c3] at H
    have c3b0 : decide (Ab < (Aa.length : Int)) = false := decide_eq_false c3; clear c3; replace H := Option.bind_eq_some_iff.mp H; obtain ⟨Ar, Ca, H⟩ := H; replace H : (if Ar = true then ((spec_l2Side.f Af).bind fun Aj => (if Aj = true then (some ((Aa.length : Int) == (wrap64 (Ae * Af)))) else (some false))) else (some false)) = some r := H; have A9 := Aside0.mk Ca; clear Ca
    by_cases Av : Ar = true
    ·subst Av
     have H1 : ((spec_l2Side.f Af).bind fun Aj => (if Aj = true then (some ((Aa.length : Int) == (wrap64 (Ae * Af)))) else (some false))) = some r := by rw [if_pos rfl] at H; exact H
     clear H; have H := H1; clear H1; replace H := Option.bind_eq_some_iff.mp H; obtain ⟨Aj, Au, H⟩ := H; replace H : (if Aj = true then (some ((Aa.length : Int) == (wrap64 (Ae * Af)))) else (some false)) = some r := H; have Cb := Aside0.mk Au; clear Au
     by_cases Aw : Aj = true
     ·subst Aw
      have H1 : (some ((Aa.length : Int) == (wrap64 (Ae * Af)))) = some r := by rw [if_pos rfl] at H; exact H
      clear H; have H := H1; clear H1; obtain rfl := Option.some.inj H; obtain ⟨Ax, Ay, Az⟩ := bz3 Ac; obtain ⟨Ba, Bb, Bc⟩ := fz3 Ac
      go_wp2_with (first | ((with_reducible refine gate_callee (f := 95) rfl ?_); refine glE (some 20) Try.func95 #[.int .i64 Ae] ?_; (with_reducible refine (spec_l2Side.calls Ae true _ A9.out).mono ?_); rintro e w' ⟨rfl, ⟨nd, rfl⟩⟩; refine ⟨_, rfl, ?_⟩) | (go_at_call 95; (with_reducible refine (spec_l2Side.calls Af true _ Cb.out).mono ?_); rintro e w' ⟨rfl, ⟨nd, rfl⟩⟩))
      go_ret
      exact ⟨Z10, Z94⟩
     ·replace Aw := Bool.eq_false_iff.mpr Aw
      subst Aw
      have H1 : (some false) = some r := by rw [if_neg (show ¬ (false = true) by decide)] at H; exact H
      clear H; have H := H1; clear H1; obtain rfl := Option.some.inj H; obtain ⟨Bd, Bf, Bg⟩ := bz3 Ac; obtain ⟨Bh, Bi, Bj⟩ := fz3 Ac
      go_wp2_with (first | ((with_reducible refine gate_callee (f := 95) rfl ?_); refine glE (some 20) Try.func95 #[.int .i64 Ae] ?_; (with_reducible refine (spec_l2Side.calls Ae true _ A9.out).mono ?_); rintro e w' ⟨rfl, ⟨nd, rfl⟩⟩; refine ⟨_, rfl, ?_⟩) | (go_at_call 95; (with_reducible refine (spec_l2Side.calls Af false _ Cb.out).mono ?_); rintro e w' ⟨rfl, ⟨nd, rfl⟩⟩))
      go_ret
      exact ⟨Z10, Z94⟩
    ·replace Av := Bool.eq_false_iff.mpr Av
     subst Av
     have H1 : (some false) = some r := by rw [if_neg (show ¬ (false = true) by decide)] at H; exact H
     clear H; have H := H1; clear H1; obtain rfl := Option.some.inj H; obtain ⟨Bk, Bl, Bm⟩ := bz3 Ac; obtain ⟨Bn, Bo, Bp⟩ := fz3 Ac
     go_wp2_with (first | ((with_reducible refine gate_callee (f := 95) rfl ?_); refine glE (some 20) Try.func95 #[.int .i64 Ae] ?_; (with_reducible refine (spec_l2Side.calls Ae false _ A9.out).mono ?_); rintro e w' ⟨rfl, ⟨nd, rfl⟩⟩; refine ⟨_, rfl, ?_⟩))
     go_ret
     exact ⟨Z10, Z94⟩
def spec_l13Shift.f (k : Nat) (a0_0 : Int) (a0_1 : Int) (l0_2 : List Int) (a1_0 : Int) (a1_1 : Int) (l1_2 : List Int) (a2 : Int) (a3 : Int) : Option (Bool) := (spec_l2Good.f k a0_0 a0_1 l0_2).bind fun t110 => (if t110 = true then ((spec_l2Good.f k a1_0 a1_1 l1_2).bind fun t111 => (if t111 = true then ((spec_l1In.f a2 (-2) 2).bind fun t112 => (if t112 = true then ((spec_l1In.f a3 (-2) 2).bind fun t113 => (some t113)) else (some false))) else (some false))) else (some false))
theorem spec_l13Shift.calls (k : Nat) (Ai : Int) (Aj : Int) (Ao : Option Addr) (Ap : Nat) (Ag : List Int) (Al : Int) (Am : Int) (Av : Option Addr) (Aw : Nat) (Ak : List Int) (a2 : Int) (a3 : Int) (r : Bool) (w : World) (Bf : Kd.C (Kd.int .i64) w Ao Ag.length Ag) (Bg : Ag.length ≤ Ap) (Bh : Kd.C (Kd.int .i64) w Av Ak.length Ak) (Bi : Ak.length ≤ Aw) (h : spec_l13Shift.f k Ai Aj Ag Al Am Ak a2 a3 = some r) :
  Calls Try.prog 52 #[.agg #[.int .i64 Ai, .int .i64 Aj, .slice Ao Ag.length Ap], .agg #[.int .i64 Al, .int .i64 Am, .slice Av Ak.length Aw], .int .i64 a2, .int .i64 a3] w fun e w' => e = .returned (.bool r) ∧ Below w.heap.size w w' := by
 have hu28 := Try.underlying28; have Ar := Aside0.mk Bf; have Au := Aside0.mk Bg; clear Bf Bg; have Ax := Aside0.mk Bh; have Ay := Aside0.mk Bi; clear Bh Bi; have HB := aM (Below.refl w.heap.size w); have H : ((spec_l2Good.f k Ai Aj Ag).bind fun Bd => (if Bd = true then ((spec_l2Good.f k Al Am Ak).bind fun Aq => (if Aq = true then ((spec_l1In.f a2 (-2) 2).bind fun An => (if An = true then ((spec_l1In.f a3 (-2) 2).bind fun Ah => (some Ah)) else (some false))) else (some false))) else (some false))) = some r := h; clear h; replace H := Option.bind_eq_some_iff.mp H; obtain ⟨Bd, Cw, H⟩ := H; replace H : (if Bd = true then ((spec_l2Good.f k Al Am Ak).bind fun Aq => (if Aq = true then ((spec_l1In.f a2 (-2) 2).bind fun An => (if An = true then ((spec_l1In.f a3 (-2) 2).bind fun Ah => (some Ah)) else (some false))) else (some false))) else (some false)) = some r := H; have A5 := Aside0.mk Cw; clear Cw
 by_cases c6 : Bd = true
 ·subst c6
  have H1 : ((spec_l2Good.f k Al Am Ak).bind fun Aq => (if Aq = true then ((spec_l1In.f a2 (-2) 2).bind fun An => (if An = true then ((spec_l1In.f a3 (-2) 2).bind fun Ah => (some Ah)) else (some false))) else (some false))) = some r := by rw [if_pos rfl] at H; exact H
  clear H; have H := H1; clear H1; replace H := Option.bind_eq_some_iff.mp H; obtain ⟨Aq, Cx, H⟩ := H; replace H : (if Aq = true then ((spec_l1In.f a2 (-2) 2).bind fun An => (if An = true then ((spec_l1In.f a3 (-2) 2).bind fun Ah => (some Ah)) else (some false))) else (some false)) = some r := H; have A7 := Aside0.mk Cx; clear Cx
  by_cases c8 : Aq = true
  ·subst c8
   have H1 : ((spec_l1In.f a2 (-2) 2).bind fun An => (if An = true then ((spec_l1In.f a3 (-2) 2).bind fun Ah => (some Ah)) else (some false))) = some r := by rw [if_pos rfl] at H; exact H
   clear H; have H := H1; clear H1; replace H := Option.bind_eq_some_iff.mp H; obtain ⟨An, Cy, H⟩ := H; replace H : (if An = true then ((spec_l1In.f a3 (-2) 2).bind fun Ah => (some Ah)) else (some false)) = some r := H; have A9 := Aside0.mk Cy; clear Cy
   by_cases Bk : An = true
   ·subst Bk
    have H1 : ((spec_l1In.f a3 (-2) 2).bind fun Ah => (some Ah)) = some r := by rw [if_pos rfl] at H; exact H
    clear H; have H := H1; clear H1; replace H := Option.bind_eq_some_iff.mp H; obtain ⟨Ah, Bj, H⟩ := H; replace H : (some Ah) = some r := H; have C9 := Aside0.mk Bj; clear Bj; obtain rfl := Option.some.inj H
    go_enter Try.func52, Try.ntmps52
    go_wp2_with (first | ((with_reducible refine gate_dst (N := 4) rfl ?_); refine bxE 4 #[.int .i64 Ai, .int .i64 Aj, .slice Ao Ag.length Ap] 28 ?_; intro Az hg Da hbox hb; have Aa := aM (hbox); have Ba := gwS hg Z0; have Ab := gwS hg Z0; replace HB := hbS Z0 hb; clear hb hbox hg) | ((with_reducible refine gate_dst (N := 5) rfl ?_); refine bxE 5 #[.int .i64 Al, .int .i64 Am, .slice Av Ak.length Aw] 28 ?_; intro Bb hg Db hbox hb; have Ac := aM (hbox); have Bc := gwS hg Z7; have Af := gwS hg Z7; replace HB := hbS Z7 hb; have Ad := nbL hg Aa; have Ae := nbG hg Aa; replace Aa := bkB Aa hb; clear hb hbox hg; have Cz := Ad.out; have C2 := Ae.out; obtain ⟨Bl, Bm, Bn⟩ := bz3 Aa; obtain ⟨Bo, Bp, Bq⟩ := fz3 Aa) | ((with_reducible refine gate_callee (f := 71) rfl ?_); refine glE (some 10) Try.func71 #[.agg #[.int .i64 Ai, .int .i64 Aj, .slice Ao Ag.length Ap]] ?_; (with_reducible refine (spec_l2Good.calls k Ai Aj _ _ Ag true _ ?side1 ?side2 A5.out).mono ?_); (case side1 => exact Z45); (case side2 => exact Au.out); rintro e Dc ⟨rfl, hb⟩; refine ⟨_, rfl, ?_⟩; replace Aa := bkB Aa hb; replace Ac := bkB Ac hb; replace HB := hbS Z32 hb; (try clear hb); obtain ⟨Br, Bs, Bt⟩ := bz3 Ac; obtain ⟨Bu, Bv, Bw⟩ := fz3 Ac) | (go_at_call 71; (with_reducible refine (spec_l2Good.calls k Al Am _ _ Ak true _ ?side1 ?side2 A7.out).mono ?_); (case side1 => exact Z120); (case side2 => exact Ay.out); rintro e Dd ⟨rfl, hb⟩; replace Aa := bkB Aa hb; replace Ac := bkB Ac hb; replace HB := hbS Z32 hb; (try clear hb)) | (go_at_call 72; (with_reducible refine (spec_l1In.calls a2 (-2) 2 true _ A9.out).mono ?_); rintro e w' ⟨rfl, ⟨nd, rfl⟩⟩) | (go_at_call 72; (with_reducible refine (spec_l1In.calls a3 (-2) 2 Ah _ C9.out).mono ?_); rintro e w' ⟨rfl, ⟨nd, rfl⟩⟩))
    go_ret
    exact ⟨Z10, Z32⟩
   ·replace Bk := Bool.eq_false_iff.mpr Bk
    subst Bk
    have H1 : (some false) = some r := by rw [if_neg (show ¬ (false = true) by decide)] at H; exact H
    clear H; have H := H1; clear H1; obtain rfl := Option.some.inj H
    go_enter Try.func52, Try.ntmps52
    go_wp2_with (first | ((with_reducible refine gate_dst (N := 4) rfl ?_); refine bxE 4 #[.int .i64 Ai, .int .i64 Aj, .slice Ao Ag.length Ap] 28 ?_; intro Az hg De hbox hb; have Aa := aM (hbox); have Ba := gwS hg Z0; have Ab := gwS hg Z0; replace HB := hbS Z0 hb; clear hb hbox hg) | ((with_reducible refine gate_dst (N := 5) rfl ?_); refine bxE 5 #[.int .i64 Al, .int .i64 Am, .slice Av Ak.length Aw] 28 ?_; intro Bb hg Df hbox hb; have Ac := aM (hbox); have Bc := gwS hg Z7; have Af := gwS hg Z7; replace HB := hbS Z7 hb; have Ad := nbL hg Aa; have Ae := nbG hg Aa; replace Aa := bkB Aa hb; clear hb hbox hg; have C3 := Ad.out; have C4 := Ae.out; obtain ⟨Bx, Bz, B0⟩ := bz3 Aa; obtain ⟨B2, B6, B7⟩ := fz3 Aa) | ((with_reducible refine gate_callee (f := 71) rfl ?_); refine glE (some 10) Try.func71 #[.agg #[.int .i64 Ai, .int .i64 Aj, .slice Ao Ag.length Ap]] ?_; (with_reducible refine (spec_l2Good.calls k Ai Aj _ _ Ag true _ ?side1 ?side2 A5.out).mono ?_); (case side1 => exact Z45); (case side2 => exact Au.out); rintro e Dg ⟨rfl, hb⟩; refine ⟨_, rfl, ?_⟩; replace Aa := bkB Aa hb; replace Ac := bkB Ac hb; replace HB := hbS Z32 hb; (try clear hb); obtain ⟨B8, B9, Ca⟩ := bz3 Ac; obtain ⟨Cb, Cc, Cd⟩ := fz3 Ac) | (go_at_call 71; (with_reducible refine (spec_l2Good.calls k Al Am _ _ Ak true _ ?side1 ?side2 A7.out).mono ?_); (case side1 => exact Z120); (case side2 => exact Ay.out); rintro e Dh ⟨rfl, hb⟩; replace Aa := bkB Aa hb; replace Ac := bkB Ac hb; replace HB := hbS Z32 hb; (try clear hb)) | (go_at_call 72; (with_reducible refine (spec_l1In.calls a2 (-2) 2 false _ A9.out).mono ?_); rintro e w' ⟨rfl, ⟨nd, rfl⟩⟩))
    go_ret
    exact ⟨Z10, Z32⟩
  ·replace c8 := Bool.eq_false_iff.mpr c8
   subst c8
   have H1 : (some false) = some r := by rw [if_neg (show ¬ (false = true) by decide)] at H; exact H
   clear H; have H := H1; clear H1; obtain rfl := Option.some.inj H
   go_enter Try.func52, Try.ntmps52
   go_wp2_with (first | ((with_reducible refine gate_dst (N := 4) rfl ?_); refine bxE 4 #[.int .i64 Ai, .int .i64 Aj, .slice Ao Ag.length Ap] 28 ?_; intro Az hg Di hbox hb; have Aa := aM (hbox); have Ba := gwS hg Z0; have Ab := gwS hg Z0; replace HB := hbS Z0 hb; clear hb hbox hg) | ((with_reducible refine gate_dst (N := 5) rfl ?_); refine bxE 5 #[.int .i64 Al, .int .i64 Am, .slice Av Ak.length Aw] 28 ?_; intro Bb hg Dj hbox hb; have Ac := aM (hbox); have Bc := gwS hg Z7; have Af := gwS hg Z7; replace HB := hbS Z7 hb; have Ad := nbL hg Aa; have Ae := nbG hg Aa; replace Aa := bkB Aa hb; clear hb hbox hg; have C5 := Ad.out; have C6 := Ae.out; obtain ⟨Ce, Cf, Cg⟩ := bz3 Aa; obtain ⟨Ch, Ci, Cj⟩ := fz3 Aa) | ((with_reducible refine gate_callee (f := 71) rfl ?_); refine glE (some 10) Try.func71 #[.agg #[.int .i64 Ai, .int .i64 Aj, .slice Ao Ag.length Ap]] ?_; (with_reducible refine (spec_l2Good.calls k Ai Aj _ _ Ag true _ ?side1 ?side2 A5.out).mono ?_); (case side1 => exact Z45); (case side2 => exact Au.out); rintro e Dk ⟨rfl, hb⟩; refine ⟨_, rfl, ?_⟩; replace Aa := bkB Aa hb; replace Ac := bkB Ac hb; replace HB := hbS Z32 hb; (try clear hb); obtain ⟨Ck, Cl, Cm⟩ := bz3 Ac; obtain ⟨Cn, Co, Cp⟩ := fz3 Ac) | (go_at_call 71; (with_reducible refine (spec_l2Good.calls k Al Am _ _ Ak false _ ?side1 ?side2 A7.out).mono ?_); (case side1 => exact Z120); (case side2 => exact Ay.out); rintro e Dl ⟨rfl, hb⟩; replace Aa := bkB Aa hb; replace Ac := bkB Ac hb; replace HB := hbS Z32 hb; (try clear hb)))
   go_ret
   exact ⟨Z10, Z32⟩
 ·replace c6 := Bool.eq_false_iff.mpr c6
  subst c6
  have H1 : (some false) = some r := by rw [if_neg (show ¬ (false = true) by decide)] at H; exact H
  clear H; have H := H1; clear H1; obtain rfl := Option.some.inj H
  go_enter Try.func52, Try.ntmps52
  go_wp2_with (first | ((with_reducible refine gate_dst (N := 4) rfl ?_); refine bxE 4 #[.int .i64 Ai, .int .i64 Aj, .slice Ao Ag.length Ap] 28 ?_; intro Az hg Dm hbox hb; have Aa := aM (hbox); have Ba := gwS hg Z0; have Ab := gwS hg Z0; replace HB := hbS Z0 hb; clear hb hbox hg) | ((with_reducible refine gate_dst (N := 5) rfl ?_); refine bxE 5 #[.int .i64 Al, .int .i64 Am, .slice Av Ak.length Aw] 28 ?_; intro Bb hg Dn hbox hb; have Ac := aM (hbox); have Bc := gwS hg Z7; have Af := gwS hg Z7; replace HB := hbS Z7 hb; have Ad := nbL hg Aa; have Ae := nbG hg Aa; replace Aa := bkB Aa hb; clear hb hbox hg; have C7 := Ad.out; have C8 := Ae.out; obtain ⟨Cq, Cr, Cs⟩ := bz3 Aa; obtain ⟨Ct, Cu, Cv⟩ := fz3 Aa) | ((with_reducible refine gate_callee (f := 71) rfl ?_); refine glE (some 10) Try.func71 #[.agg #[.int .i64 Ai, .int .i64 Aj, .slice Ao Ag.length Ap]] ?_; (with_reducible refine (spec_l2Good.calls k Ai Aj _ _ Ag false _ ?side1 ?side2 A5.out).mono ?_); (case side1 => exact Z45); (case side2 => exact Au.out); rintro e Dp ⟨rfl, hb⟩; refine ⟨_, rfl, ?_⟩; replace Aa := bkB Aa hb; replace Ac := bkB Ac hb; replace HB := hbS Z32 hb; (try clear hb)))
  go_ret
  exact ⟨Z10, Z32⟩
def spec_l2Within.f (k : Nat) (a0_0 : Int) (a0_1 : Int) (l0_2 : List Int) (a1 : Int) (a2 : Int) : Option (Bool) := (spec_l2Good.f k a0_0 a0_1 l0_2).bind fun t115 => (if t115 = true then ((spec_l1In.f a1 0 (wrap64 (a0_1 - 1))).bind fun t116 => (if t116 = true then ((spec_l1In.f a2 0 (wrap64 (a0_0 - 1))).bind fun t117 => (some t117)) else (some false))) else (some false))
theorem spec_l2Within.calls (k : Nat) (Ab : Int) (Ac : Int) (Ag : Option Addr) (Ah : Nat) (Ad : List Int) (a1 : Int) (a2 : Int) (r : Bool) (w : World) (Am : Kd.C (Kd.int .i64) w Ag Ad.length Ad) (An : Ad.length ≤ Ah) (h : spec_l2Within.f k Ab Ac Ad a1 a2 = some r) :
  Calls Try.prog 64 #[.agg #[.int .i64 Ab, .int .i64 Ac, .slice Ag Ad.length Ah], .int .i64 a1, .int .i64 a2] w fun e w' => e = .returned (.bool r) ∧ Below w.heap.size w w' := by
 have hu28 := Try.underlying28; have Aj := Aside0.mk Am; have Ak := Aside0.mk An; clear Am An; have HB := aM (Below.refl w.heap.size w); have H : ((spec_l2Good.f k Ab Ac Ad).bind fun Al => (if Al = true then ((spec_l1In.f a1 0 (wrap64 (Ac - 1))).bind fun Ai => (if Ai = true then ((spec_l1In.f a2 0 (wrap64 (Ab - 1))).bind fun Af => (some Af)) else (some false))) else (some false))) = some r := h; clear h; replace H := Option.bind_eq_some_iff.mp H; obtain ⟨Al, Bx, H⟩ := H; replace H : (if Al = true then ((spec_l1In.f a1 0 (wrap64 (Ac - 1))).bind fun Ai => (if Ai = true then ((spec_l1In.f a2 0 (wrap64 (Ab - 1))).bind fun Af => (some Af)) else (some false))) else (some false)) = some r := H; have A4 := Aside0.mk Bx; clear Bx
 by_cases c5 : Al = true
 ·subst c5
  have H1 : ((spec_l1In.f a1 0 (wrap64 (Ac - 1))).bind fun Ai => (if Ai = true then ((spec_l1In.f a2 0 (wrap64 (Ab - 1))).bind fun Af => (some Af)) else (some false))) = some r := by rw [if_pos rfl] at H; exact H
  clear H; have H := H1; clear H1; replace H := Option.bind_eq_some_iff.mp H; obtain ⟨Ai, Bz, H⟩ := H; replace H : (if Ai = true then ((spec_l1In.f a2 0 (wrap64 (Ab - 1))).bind fun Af => (some Af)) else (some false)) = some r := H; have A6 := Aside0.mk Bz; clear Bz
  by_cases c7 : Ai = true
  ·subst c7
   have H1 : ((spec_l1In.f a2 0 (wrap64 (Ab - 1))).bind fun Af => (some Af)) = some r := by rw [if_pos rfl] at H; exact H
   clear H; have H := H1; clear H1; replace H := Option.bind_eq_some_iff.mp H; obtain ⟨Af, B0, H⟩ := H; replace H : (some Af) = some r := H; have A8 := Aside0.mk B0; clear B0; obtain rfl := Option.some.inj H
   go_enter Try.func64, Try.ntmps64
   go_wp2_with (first | ((with_reducible refine gate_dst (N := 3) rfl ?_); refine bxE 3 #[.int .i64 Ab, .int .i64 Ac, .slice Ag Ad.length Ah] 28 ?_; intro Ao hg w9 hbox hb; have Aa := aM (hbox); have Ap := gwS hg Z0; have Ae := gwS hg Z0; replace HB := hbS Z0 hb; clear hb hbox hg; obtain ⟨Aq, Ar, Au⟩ := bz3 Aa; obtain ⟨Av, Aw, Ax⟩ := fz3 Aa) | ((with_reducible refine gate_callee (f := 71) rfl ?_); refine glE (some 8) Try.func71 #[.agg #[.int .i64 Ab, .int .i64 Ac, .slice Ag Ad.length Ah]] ?_; (with_reducible refine (spec_l2Good.calls k Ab Ac _ _ Ad true _ ?side1 ?side2 A4.out).mono ?_); (case side1 => exact Z121); (case side2 => exact Ak.out); rintro e B2 ⟨rfl, hb⟩; refine ⟨_, rfl, ?_⟩; replace Aa := bkB Aa hb; replace HB := hbS Z24 hb; (try clear hb); obtain ⟨Ay, Az, Ba⟩ := bz3 Aa; obtain ⟨Bb, Bc, Bd⟩ := fz3 Aa) | (go_at_call 72; (with_reducible refine (spec_l1In.calls a1 0 (wrap64 (Ac - 1)) true _ A6.out).mono ?_); rintro e w' ⟨rfl, ⟨nd, rfl⟩⟩) | (go_at_call 72; (with_reducible refine (spec_l1In.calls a2 0 (wrap64 (Ab - 1)) Af _ A8.out).mono ?_); rintro e w' ⟨rfl, ⟨nd, rfl⟩⟩))
   go_ret
   exact ⟨Z10, Z24⟩
  ·replace c7 := Bool.eq_false_iff.mpr c7
   subst c7
   have H1 : (some false) = some r := by rw [if_neg (show ¬ (false = true) by decide)] at H; exact H
   clear H; have H := H1; clear H1; obtain rfl := Option.some.inj H
   go_enter Try.func64, Try.ntmps64
   go_wp2_with (first | ((with_reducible refine gate_dst (N := 3) rfl ?_); refine bxE 3 #[.int .i64 Ab, .int .i64 Ac, .slice Ag Ad.length Ah] 28 ?_; intro Ao hg B6 hbox hb; have Aa := aM (hbox); have Ap := gwS hg Z0; have Ae := gwS hg Z0; replace HB := hbS Z0 hb; clear hb hbox hg; obtain ⟨Bf, Bg, Bh⟩ := bz3 Aa; obtain ⟨Bi, Bj, Bk⟩ := fz3 Aa) | ((with_reducible refine gate_callee (f := 71) rfl ?_); refine glE (some 8) Try.func71 #[.agg #[.int .i64 Ab, .int .i64 Ac, .slice Ag Ad.length Ah]] ?_; (with_reducible refine (spec_l2Good.calls k Ab Ac _ _ Ad true _ ?side1 ?side2 A4.out).mono ?_); (case side1 => exact Z121); (case side2 => exact Ak.out); rintro e B7 ⟨rfl, hb⟩; refine ⟨_, rfl, ?_⟩; replace Aa := bkB Aa hb; replace HB := hbS Z24 hb; (try clear hb); obtain ⟨Bl, Bm, Bn⟩ := bz3 Aa; obtain ⟨Bo, Bp, Bq⟩ := fz3 Aa) | (go_at_call 72; (with_reducible refine (spec_l1In.calls a1 0 (wrap64 (Ac - 1)) false _ A6.out).mono ?_); rintro e w' ⟨rfl, ⟨nd, rfl⟩⟩))
   go_ret
   exact ⟨Z10, Z24⟩
 ·replace c5 := Bool.eq_false_iff.mpr c5
  subst c5
  have H1 : (some false) = some r := by rw [if_neg (show ¬ (false = true) by decide)] at H; exact H
  clear H; have H := H1; clear H1; obtain rfl := Option.some.inj H
  go_enter Try.func64, Try.ntmps64
  go_wp2_with (first | ((with_reducible refine gate_dst (N := 3) rfl ?_); refine bxE 3 #[.int .i64 Ab, .int .i64 Ac, .slice Ag Ad.length Ah] 28 ?_; intro Ao hg B8 hbox hb; have Aa := aM (hbox); have Ap := gwS hg Z0; have Ae := gwS hg Z0; replace HB := hbS Z0 hb; clear hb hbox hg; obtain ⟨Br, Bs, Bt⟩ := bz3 Aa; obtain ⟨Bu, Bv, Bw⟩ := fz3 Aa) | ((with_reducible refine gate_callee (f := 71) rfl ?_); refine glE (some 8) Try.func71 #[.agg #[.int .i64 Ab, .int .i64 Ac, .slice Ag Ad.length Ah]] ?_; (with_reducible refine (spec_l2Good.calls k Ab Ac _ _ Ad false _ ?side1 ?side2 A4.out).mono ?_); (case side1 => exact Z121); (case side2 => exact Ak.out); rintro e B9 ⟨rfl, hb⟩; refine ⟨_, rfl, ?_⟩; replace Aa := bkB Aa hb; replace HB := hbS Z24 hb; (try clear hb)))
  go_ret
  exact ⟨Z10, Z24⟩
def spec_l2At.f (a0_0 : Int) (a0_1 : Int) (l0_2 : List Int) (a1 : Int) (a2 : Int) : Option (Int) := if 0 ≤ (wrap64 ((wrap64 (a1 * a0_0)) + a2)) then (if (wrap64 ((wrap64 (a1 * a0_0)) + a2)) < (l0_2.length : Int) then (some (rd l0_2 (wrap64 ((wrap64 (a1 * a0_0)) + a2)))) else (none)) else (none)
theorem spec_l2At.calls (Ac : Int) (Ag : Int) (Ah : Option Addr) (Ai : Nat) (Aa : List Int) (a1 : Int) (a2 : Int) (r : Int) (w : World) (Ad : Kd.C (Kd.int .i64) w Ah Aa.length Aa) (Ae : Aa.length ≤ Ai) (h : spec_l2At.f Ac Ag Aa a1 a2 = some r) :
  Calls Try.prog 65 #[.agg #[.int .i64 Ac, .int .i64 Ag, .slice Ah Aa.length Ai], .int .i64 a1, .int .i64 a2] w fun e w' => e = .returned (.int .i64 r) ∧ Below w.heap.size w w' := by
 have hu28 := Try.underlying28; have Al := Aside0.mk Ad; have Av := Aside0.mk Ae; clear Ad Ae; have HB := aM (Below.refl w.heap.size w); have H : (if 0 ≤ (wrap64 ((wrap64 (a1 * Ac)) + a2)) then (if (wrap64 ((wrap64 (a1 * Ac)) + a2)) < (Aa.length : Int) then (some (rd Aa (wrap64 ((wrap64 (a1 * Ac)) + a2)))) else (none)) else (none)) = some r := h; clear h; obtain ⟨ji4, hji4⟩ : ∃ j_ : Int, (wrap64 ((wrap64 (a1 * Ac)) + a2)) = j_ := ⟨_, rfl⟩
 replace H : (if 0 ≤ (ji4) then (if (ji4) < (Aa.length : Int) then (some (rd Aa (ji4))) else (none)) else (none)) = some r := by first | (rw [hji4] at H; exact H) | (simp only [hji4] at H ⊢; exact H)
 have hji4w : (IntKind.i64.wrap ((wrap64 (a1 * Ac)) + a2)) = ji4 := (i64_w _).trans hji4
 by_cases c5 : 0 ≤ (ji4)
 ·rw [if_pos c5] at H
  have c5b0 : decide (0 ≤ (ji4)) = true := decide_eq_true c5; clear c5
  by_cases c6 : (ji4) < (Aa.length : Int)
  ·rw [if_pos c6] at H
   have c6b0 : decide ((ji4) < (Aa.length : Int)) = true := decide_eq_true c6; clear c6; obtain rfl := Option.some.inj H
   go_enter Try.func65, Try.ntmps65
   go_wp2_with (first | ((with_reducible refine gate_dst (N := 3) rfl ?_); refine bxE 3 #[.int .i64 Ac, .int .i64 Ag, .slice Ah Aa.length Ai] 28 ?_; intro Aw hg w7 hbox hb; have Af := aM (hbox); have Ax := gwS hg Z0; have Am := gwS hg Z0; replace HB := hbS Z0 hb; clear hb hbox hg; obtain ⟨An, Ao, Ap⟩ := bz3 Af; obtain ⟨Aq, Ar, Au⟩ := fz3 Af; have Aj : 0 ≤ ((ji4) : Int) := of_decide_eq_true Z37; have Ak : (ji4) < (Aa.length : Int) := of_decide_eq_true Z37; obtain ⟨ad119, e119, Ab⟩ := Kd.at_int Al.out (ji4) Aj Ak; cases e119; replace Ab := (HB.out.cell (World.block_lt_of_cell? w _ Ab)).trans Ab; replace Aj := eq_true Aj; replace Ak := eq_true Ak))
   go_ret
   exact ⟨Z155, Z75⟩
  ·rw [if_neg c6] at H
   exact absurd H (by simp)
 ·rw [if_neg c5] at H
  exact absurd H (by simp)
mutual
def spec_l13Wrong.l0 : Nat → Int → Int → List (S79) → Int → Int → Int → Int → List Int → Int → Int → List Int → Option ((List (S79)) × Int)
 | 0, _, _, _, _, _, _, _, _, _, _, _ => none
 | k + 1, x2, x3, x10, x11, x12, x121000, x121001, x121002, x122000, x122001, x122002 => if x12 < x121001 then (spec_l13Wrong.l1 k x2 x3 x10 x11 x12 0 x121000 x121001 x121002 x122000 x122001 x122002) else (some (x10, x11))
def spec_l13Wrong.l1 : Nat → Int → Int → List (S79) → Int → Int → Int → Int → Int → List Int → Int → Int → List Int → Option ((List (S79)) × Int)
 | 0, _, _, _, _, _, _, _, _, _, _, _, _ => none
 | k + 1, x2, x3, x10, x11, x12, x13, x121000, x121001, x121002, x122000, x122001, x122002 => if x13 < x121000 then ((spec_l2Within.f k x122000 x122001 x122002 (wrap64 (x12 + x2)) (wrap64 (x13 + x3))).bind fun t125 => (if t125 = true then ((spec_l2At.f x121000 x121001 x121002 x12 x13).bind fun t126 => ((spec_l2At.f x122000 x122001 x122002 (wrap64 (x12 + x2)) (wrap64 (x13 + x3))).bind fun t127 => (if t126 = t127 then (spec_l13Wrong.l1 k x2 x3 x10 (wrap64 (x11 + 1)) x12 (wrap64 (x13 + 1)) x121000 x121001 x121002 x122000 x122001 x122002) else (if x10.length < 8796093022208 then (spec_l13Wrong.l1 k x2 x3 (x10 ++ [(⟨x12, x13⟩ : S79)]) (wrap64 (x11 + 1)) x12 (wrap64 (x13 + 1)) x121000 x121001 x121002 x122000 x122001 x122002) else (none))))) else (spec_l13Wrong.l1 k x2 x3 x10 x11 x12 (wrap64 (x13 + 1)) x121000 x121001 x121002 x122000 x122001 x122002))) else (spec_l13Wrong.l0 k x2 x3 x10 x11 (wrap64 (x12 + 1)) x121000 x121001 x121002 x122000 x122001 x122002)
end
def spec_l13Wrong.f (k : Nat) (a0_0 : Int) (a0_1 : Int) (l0_2 : List Int) (a1_0 : Int) (a1_1 : Int) (l1_2 : List Int) (a2 : Int) (a3 : Int) : Option ((List (S79)) × Int) := spec_l13Wrong.l0 k a2 a3 (([] : List (S79))) 0 0 a0_0 a0_1 l0_2 a1_0 a1_1 l1_2
def spec_l13Wrong.T10 : Bool × List (List Nat × List Nat) := (true, [([], []), ([], []), ([], []), ([0, 1, 2], [0, 1, 2]), ([], []), ([], []), ([], []), ([5, 6], [5, 6]), ([], []), ([], []), ([8, 9], [8, 9]), ([4, 7, 10, 3], [4, 7, 10]), ([3, 11], [3, 11])])
def spec_l13Wrong.B10 : List Nat := [0, 0, 0, 7, 0, 0, 0, 96, 0, 0, 768, 2047, 4095]
theorem spec_l13Wrong.tab10 : rtab .any (opsOf Try.f53 10) = spec_l13Wrong.T10 := by kernel_rfl
theorem spec_l13Wrong.bits10 : waitsOk spec_l13Wrong.T10.2 spec_l13Wrong.B10 = true := by kernel_rfl
theorem spec_l13Wrong.calls (k : Nat) (Aj : Int) (Ak : Int) (Az : Option Addr) (Ba : Nat) (Al : List Int) (Ag : Int) (Ah : Int) (Aw : Option Addr) (Ax : Nat) (Af : List Int) (a2 : Int) (a3 : Int) (r1 : List (S79)) (r2 : Int) (w : World) (Bo : Kd.C (Kd.int .i64) w Az Al.length Al) (Bp : Al.length ≤ Ba) (Bq : Kd.C (Kd.int .i64) w Aw Af.length Af) (Br : Af.length ≤ Ax) (h : spec_l13Wrong.f k Aj Ak Al Ag Ah Af a2 a3 = some (r1, r2)) :
  Calls Try.prog 53 #[.agg #[.int .i64 Aj, .int .i64 Ak, .slice Az Al.length Ba], .agg #[.int .i64 Ag, .int .i64 Ah, .slice Aw Af.length Ax], .int .i64 a2, .int .i64 a3] w fun e w' => ∃ v0_ : Value, e = .returned (.tuple #[v0_, .int .i64 r2]) ∧ Kd.R k79 79 w' w.heap.size (fun _ => True) v0_ r1 ∧ Below w.heap.size w w' := by
 have hu28 := Try.underlying28; have hu79 := Try.underlying79; have Bs := Aside0.mk Bo; have Bt := Aside0.mk Bp; clear Bo Bp; have Bb := Aside0.mk Bq; have Bc := Aside0.mk Br; clear Bq Br; have HB := aM (Below.refl w.heap.size w); have H : (spec_l13Wrong.l0 k a2 a3 (([] : List (S79))) 0 0 Aj Ak Al Ag Ah Af) = some (r1, r2) := h; clear h; obtain ⟨Bx, Bd⟩ : ∃ y_ : List (S79), y_ = (([] : List (S79))) := ⟨_, rfl⟩
 replace H : (spec_l13Wrong.l0 k a2 a3 Bx 0 0 Aj Ak Al Ag Ah Af) = some (r1, r2) := by first | (rw [Bd]; with_reducible exact H) | (have H2_ := (Option.bind_some _ _).symm.trans H; rw [Bd]; with_reducible exact H2_) | (have H2_ := (Option.bind_some _ _).symm.trans H; with_reducible exact H2_) | with_reducible exact H | (rw [Bd]; exact H) | exact H
 have Bu := Aside0.mk Bd; clear Bd; have H' := Aside0.mk H; clear H
 go_enter Try.func53, Try.ntmps53
 go_wp2_with (first | ((with_reducible refine gate_dst (N := 4) rfl ?_); refine bxE 4 #[.int .i64 Aj, .int .i64 Ak, .slice Az Al.length Ba] 28 ?_; intro Ar hg w5 hbox hb; have Aa := aM (hbox); have Dw := gwS hg Z0; have Am := gwS hg Z0; replace HB := hbS Z0 hb; clear hb hbox hg) | ((with_reducible refine gate_dst (N := 5) rfl ?_); refine bxE 5 #[.int .i64 Ag, .int .i64 Ah, .slice Aw Af.length Ax] 28 ?_; intro Au hg w6 hbox hb; have Ab := aM (hbox); have Dx := gwS hg Z75; have An := gwS hg Z75; replace HB := hbS Z75 hb; have Ap := nbL hg Aa; have Aq := nbG hg Aa; replace Aa := bkB Aa hb; clear hb hbox hg) | ((with_reducible refine gate_dst (N := 14) rfl ?_); refine Kd.R_lit k79 _ 79 ?hg (N := 14) ?hd (xs := ([] : List (S79))) (inner := []) (ok := fun _ => True) (okp := fun _ => True) ?hr ?hp (fun _ hk => hk) trivial (Below.refl _ _) (Nat.le_refl _) (by simp) ?_; (case hd => rfl); (case hg => rfl); (case hr => first | (go_simp; done) | (go_simp; rfl)); (case hp => exact (Reps.none _ _)); intro Ee w7 Bz hb hg_ hnew_; clear hg_ hnew_; (first | rw [← Bu.out] at Bz | (simp only [Int.reduceToNat] at Bz; rw [← Bu.out] at Bz)); have B0 := aM (Kd.R_lower Bz (below_size Z8)); replace Aa := bkB Aa hb; replace Ab := bkB Ab hb; replace HB := hbS Z8 hb; clear hb Bz))
 go_loopg [10, 11, 12] k (fun kq Dt Du Ef w' => ∃ (Bg : List (S79)) (Bh : Int) (Ad : Int), Du = .int .i64 Bh ∧ Ef = .int .i64 Ad ∧ Aside0 (spec_l13Wrong.l0 kq a2 a3 Bg Bh Ad Aj Ak Al Ag Ah Af = some (r1, r2)) ∧ Aside0 (kq ≤ k) ∧ Aside0 (Kd.R k79 79 w' w.heap.size (fun _ => True) Dt Bg) ∧ Aside0 (w'.heap[Ar]? = some (.cells #[.int .i64 Aj, .int .i64 Ak, (.slice Az Al.length Ba)] 28 (0, 0))) ∧ Aside0 (w'.heap[Au]? = some (.cells #[.int .i64 Ag, .int .i64 Ah, (.slice Aw Af.length Ax)] 28 (0, 0))) ∧ Aside0 (Below w.heap.size w w'))
 case atStart => exact ⟨(Bx), (0), (0), Z18, Z18, H', ⟨Nat.le_refl _⟩, ⟨Z143⟩, ⟨Z26⟩, ⟨Z9⟩, ⟨Z8⟩⟩
 case round =>
  clear H'; (try clear c1); (try clear p2); (try clear c5); obtain ⟨Bg, Bh, Ad, rfl, rfl, HA, HK1, Ae, Aa, Ab, HB⟩ := hrel; cases gk with
  | zero => exact absurd HA.out (by simp [spec_l13Wrong.l0])
  | succ k1 =>
   have H := HA.out; clear HA
   simp only [spec_l13Wrong.l0] at H
   by_cases c9 : Ad < Ak
   ·rw [if_pos c9] at H
    have c9b0 : decide (Ad < Ak) = true := decide_eq_true c9; clear c9; have H' := Aside0.mk H; clear H; have Dy := Ap.out; have Dz := Aq.out; obtain ⟨Bi, Bj, Bk⟩ := bz3 Aa; obtain ⟨Bl, Bm, Bn⟩ := fz3 Aa
    go_wp2
    go_loopg [10, 11, 13] k1 (fun kq Dt Du Eg w' => ∃ (Ai : List (S79)) (Ao : Int) (Ac : Int), Du = .int .i64 Ao ∧ Eg = .int .i64 Ac ∧ Aside0 (spec_l13Wrong.l1 kq a2 a3 Ai Ao Ad Ac Aj Ak Al Ag Ah Af = some (r1, r2)) ∧ Aside0 (kq ≤ k1) ∧ Aside0 (Kd.R k79 79 w' w.heap.size (fun _ => True) Dt Ai) ∧ Aside0 (w'.heap[Ar]? = some (.cells #[.int .i64 Aj, .int .i64 Ak, (.slice Az Al.length Ba)] 28 (0, 0))) ∧ Aside0 (w'.heap[Au]? = some (.cells #[.int .i64 Ag, .int .i64 Ah, (.slice Aw Af.length Ax)] 28 (0, 0))) ∧ Aside0 (Below w.heap.size w w'))
    case atStart => exact ⟨(Bg), (Bh), (0), Z18, Z18, H', ⟨Nat.le_refl _⟩, ⟨Z108⟩, ⟨Z26⟩, ⟨Z9⟩, ⟨Z8⟩⟩
    case round =>
     clear H'; (try clear c1); (try clear p2); (try clear c5); (try clear c9); (try clear c9b0); (try clear Ek); (try clear Bi); (try clear Bj); (try clear Bk); (try clear Bl); (try clear Bm); (try clear Bn); (try clear p2); obtain ⟨Ai, Ao, Ac, rfl, rfl, HA, HK2, Ae, Aa, Ab, HB⟩ := hrel; cases gk with
     | zero => exact absurd HA.out (by simp [spec_l13Wrong.l1])
     | succ k2 =>
      have H := HA.out; clear HA
      simp only [spec_l13Wrong.l1] at H
      by_cases Bw : Ac < Aj
      ·rw [if_pos Bw] at H
       have c12b0 : decide (Ac < Aj) = true := decide_eq_true Bw; clear Bw; replace H := Option.bind_eq_some_iff.mp H; obtain ⟨B2, B6, H⟩ := H; replace H : (if B2 = true then ((spec_l2At.f Aj Ak Al Ad Ac).bind fun Ay => ((spec_l2At.f Ag Ah Af (wrap64 (Ad + a2)) (wrap64 (Ac + a3))).bind fun Av => (if Ay = Av then (spec_l13Wrong.l1 k2 a2 a3 Ai (wrap64 (Ao + 1)) Ad (wrap64 (Ac + 1)) Aj Ak Al Ag Ah Af) else (if Ai.length < 8796093022208 then (spec_l13Wrong.l1 k2 a2 a3 (Ai ++ [(⟨Ad, Ac⟩ : S79)]) (wrap64 (Ao + 1)) Ad (wrap64 (Ac + 1)) Aj Ak Al Ag Ah Af) else (none))))) else (spec_l13Wrong.l1 k2 a2 a3 Ai Ao Ad (wrap64 (Ac + 1)) Aj Ak Al Ag Ah Af)) = some (r1, r2) := H; have Dv := Aside0.mk B6; clear B6
       by_cases Cc : B2 = true
       ·subst Cc
        have H1 : ((spec_l2At.f Aj Ak Al Ad Ac).bind fun Ay => ((spec_l2At.f Ag Ah Af (wrap64 (Ad + a2)) (wrap64 (Ac + a3))).bind fun Av => (if Ay = Av then (spec_l13Wrong.l1 k2 a2 a3 Ai (wrap64 (Ao + 1)) Ad (wrap64 (Ac + 1)) Aj Ak Al Ag Ah Af) else (if Ai.length < 8796093022208 then (spec_l13Wrong.l1 k2 a2 a3 (Ai ++ [(⟨Ad, Ac⟩ : S79)]) (wrap64 (Ao + 1)) Ad (wrap64 (Ac + 1)) Aj Ak Al Ag Ah Af) else (none))))) = some (r1, r2) := by rw [if_pos rfl] at H; exact H
        clear H; have H := H1; clear H1; replace H := Option.bind_eq_some_iff.mp H; obtain ⟨Ay, B7, H⟩ := H; replace H : ((spec_l2At.f Ag Ah Af (wrap64 (Ad + a2)) (wrap64 (Ac + a3))).bind fun Av => (if Ay = Av then (spec_l13Wrong.l1 k2 a2 a3 Ai (wrap64 (Ao + 1)) Ad (wrap64 (Ac + 1)) Aj Ak Al Ag Ah Af) else (if Ai.length < 8796093022208 then (spec_l13Wrong.l1 k2 a2 a3 (Ai ++ [(⟨Ad, Ac⟩ : S79)]) (wrap64 (Ao + 1)) Ad (wrap64 (Ac + 1)) Aj Ak Al Ag Ah Af) else (none)))) = some (r1, r2) := H; have D2 := Aside0.mk B7; clear B7; replace H := Option.bind_eq_some_iff.mp H; obtain ⟨Av, B8, H⟩ := H; replace H : (if Ay = Av then (spec_l13Wrong.l1 k2 a2 a3 Ai (wrap64 (Ao + 1)) Ad (wrap64 (Ac + 1)) Aj Ak Al Ag Ah Af) else (if Ai.length < 8796093022208 then (spec_l13Wrong.l1 k2 a2 a3 (Ai ++ [(⟨Ad, Ac⟩ : S79)]) (wrap64 (Ao + 1)) Ad (wrap64 (Ac + 1)) Aj Ak Al Ag Ah Af) else (none))) = some (r1, r2) := H; have D3 := Aside0.mk B8; clear B8
        by_cases Bv : Ay = Av
        ·rw [if_pos Bv] at H
         have c17b0 : (Ay == Av) = true := beq_iff_eq.mpr Bv; have c17b1 : (Ay != Av) = false := bne_eq_false_iff_eq.mpr Bv; clear Bv; have H' := Aside0.mk H; clear H; have D4 := Ap.out; have D5 := Aq.out; obtain ⟨Cd, Ce, Cf⟩ := bz3 Aa; obtain ⟨Cg, Ch, Ci⟩ := fz3 Aa; obtain ⟨Cj, Ck, Cl⟩ := bz3 Ab; obtain ⟨Cm, Cn, Co⟩ := fz3 Ab
         try go_wp2_with (first | ((with_reducible refine gate_callee (f := 64) rfl ?_); refine glE (some 34) Try.func64 #[.agg #[.int .i64 Ag, .int .i64 Ah, .slice Aw Af.length Ax], .int .i64 (wrap64 (Ad + a2)), .int .i64 (wrap64 (Ac + a3))] ?_; (with_reducible refine (spec_l2Within.calls k2 Ag Ah _ _ Af (wrap64 (Ad + a2)) (wrap64 (Ac + a3)) true _ ?side1 ?side2 Dv.out).mono ?_); (case side1 => exact Z44); (case side2 => exact Bc.out); rintro e Eh ⟨rfl, hb⟩; refine ⟨_, rfl, ?_⟩; replace Ae := roB Ae hb; replace Aa := bkB Aa hb; replace Ab := bkB Ab hb; replace HB := hbS Z8 hb; (try clear hb)))
         replace Ae := aM (Kd.R_drew Ae.out); replace Aa := aM (blk_drew Aa.out); replace Ab := aM (blk_drew Ab.out); replace HB := aM (below_drew1 HB.out); refine start_ (n := 13) (S := fun w' => w'.cell? ⟨Ar, 0, none⟩ = some (.int .i64 Aj) ∧ w'.cell? ⟨Ar, 1, none⟩ = some (.int .i64 Ak) ∧ w'.cell? ⟨Ar, 2, none⟩ = some (.slice Az Al.length Ba) ∧ w'.cell? ⟨Au, 0, none⟩ = some (.int .i64 Ag) ∧ w'.cell? ⟨Au, 1, none⟩ = some (.int .i64 Ah) ∧ w'.cell? ⟨Au, 2, none⟩ = some (.slice Aw Af.length Ax)) (ds := []) #[false, false, false, false, false, false, false, false, false, false, false, false, false] Z74 rfl rfl ⟨(blk_cell Aa.out 0).trans rfl, (blk_cell Aa.out 1).trans rfl, (blk_cell Aa.out 2).trans rfl, (blk_cell Ab.out 0).trans rfl, (blk_cell Ab.out 1).trans rfl, (blk_cell Ab.out 2).trans rfl⟩ (fun hHeld => ?_); refine with_tabW spec_l13Wrong.tab10 spec_l13Wrong.bits10 (fun HT_ HW_ => ?_)
         generalize Eh.drew = El at Ae Aa Ab HB hHeld ⊢
         refine puR 1 39 #[false, true, false, false, false, false, false, false, false, false, false, false, false] HT_ rfl rfl ?_; refine puR 2 40 #[false, true, true, false, false, false, false, false, false, false, false, false, false] HT_ rfl rfl ?_; refine puR 5 43 #[false, true, true, false, false, true, false, false, false, false, false, false, false] HT_ rfl rfl ?_; refine puR 6 44 #[false, true, true, false, false, true, true, false, false, false, false, false, false] HT_ rfl rfl ?_; refine puR 7 45 #[false, true, true, false, false, true, true, true, false, false, false, false, false] HT_ rfl rfl ?_; refine puR 8 46 #[false, true, true, false, false, true, true, true, true, false, false, false, false] HT_ rfl rfl ?_; refine puR 9 47 #[false, true, true, false, false, true, true, true, true, true, false, false, false] HT_ rfl rfl ?_; refine puR 10 48 #[false, true, true, false, false, true, true, true, true, true, true, false, false] HT_ rfl rfl ?_; refine taR 0 38 #[true, true, true, false, false, true, true, true, true, true, true, false, false] HT_ HW_ hHeld rfl rfl ?_; refine taR 4 42 #[true, true, true, false, true, true, true, true, true, true, true, false, false] HT_ HW_ hHeld rfl rfl ?_; refine one_ (i := 3) (N := some 41) #[true, true, true, true, true, true, true, true, true, true, true, false, false] rfl rfl (one_of HT_.out Z74) (by decide) (fun K hK => ?_); refine goes_ Try.func65 Z74 rfl #[.agg #[.int .i64 Aj, .int .i64 Ak, .slice Az Al.length Ba], .int .i64 Ad, .int .i64 Ac] (by rfl) rfl rfl Z33 ?_; (with_reducible refine (spec_l2At.calls Aj Ak _ _ Al Ad Ac Ay _ ?side1 ?side2 D2.out).mono ?_); (case side1 => exact Z122); (case side2 => exact Bt.out); rintro e Em ⟨rfl, hb⟩; refine ⟨_, rfl, ?_⟩; replace Ae := roB Ae hb; replace Aa := bkB Aa hb; replace Ab := bkB Ab hb; replace HB := hbS Z8 hb; (try clear hb); (try clear hb2); (try clear hk); (try clear hi); refine hK.out _ _ Z104 (fun hHeld => ?_); clear hK K; refine noR 41 ?_; refine one_ (i := 11) (N := some 49) #[true, true, true, true, true, true, true, true, true, true, true, true, false] rfl rfl (one_of HT_.out Z74) (by decide) (fun K hK => ?_); refine goes_ Try.func65 Z74 rfl #[.agg #[.int .i64 Ag, .int .i64 Ah, .slice Aw Af.length Ax], .int .i64 (wrap64 (Ad + a2)), .int .i64 (wrap64 (Ac + a3))] (by rfl) rfl rfl Z33 ?_; (with_reducible refine (spec_l2At.calls Ag Ah _ _ Af (wrap64 (Ad + a2)) (wrap64 (Ac + a3)) Av _ ?side1 ?side2 D3.out).mono ?_); (case side1 => exact Z44); (case side2 => exact Bc.out); rintro e En ⟨rfl, hb⟩; refine ⟨_, rfl, ?_⟩; replace Ae := roB Ae hb; replace Aa := bkB Aa hb; replace Ab := bkB Ab hb; replace HB := hbS Z8 hb; (try clear hb); (try clear hb2); (try clear hk); (try clear hi); refine hK.out _ _ Z104 (fun hHeld => ?_); clear hK K; refine noR 49 ?_; refine puR 12 50 #[true, true, true, true, true, true, true, true, true, true, true, true, true] HT_ rfl rfl ?_; refine done_ (done_of HT_.out Z74) ?_
         try go_wp2
         go_roundg k2
         case measure => have := HK1.out; have := HK2.out; omega
         case rel => exact ⟨(Ai), (wrap64 (Ao + 1)), (wrap64 (Ac + 1)), Z18, Z18, H', ⟨Z149⟩, ⟨Z108⟩, ⟨Z26⟩, ⟨Z9⟩, ⟨Z8⟩⟩
        ·rw [if_neg Bv] at H
         have c17b0 : (Ay == Av) = false := beq_eq_false_iff_ne.mpr Bv; have c17b1 : (Ay != Av) = true := bne_iff_ne.mpr Bv
         by_cases Cp : Ai.length < 8796093022208
         ·rw [if_pos Cp] at H
          have LMc25 := Aside0.mk Cp; clear Cp; obtain ⟨B9, Bf⟩ : ∃ y_ : List (S79), y_ = (Ai ++ [(⟨Ad, Ac⟩ : S79)]) := ⟨_, rfl⟩
          replace H : (spec_l13Wrong.l1 k2 a2 a3 B9 (wrap64 (Ao + 1)) Ad (wrap64 (Ac + 1)) Aj Ak Al Ag Ah Af) = some (r1, r2) := by first | (rw [Bf]; with_reducible exact H) | (have H2_ := (Option.bind_some _ _).symm.trans H; rw [Bf]; with_reducible exact H2_) | (have H2_ := (Option.bind_some _ _).symm.trans H; with_reducible exact H2_) | with_reducible exact H | (rw [Bf]; exact H) | exact H
          have Ca := Aside0.mk Bf; clear Bf; have H' := Aside0.mk H; clear H; have D6 := Ap.out; have D7 := Aq.out; obtain ⟨Cq, Cr, Cs⟩ := bz3 Aa; obtain ⟨Ct, Cu, Cv⟩ := fz3 Aa; obtain ⟨Cw, Cx, Cy⟩ := bz3 Ab; obtain ⟨Cz, C2, C3⟩ := fz3 Ab
          try go_wp2_with (first | ((with_reducible refine gate_callee (f := 64) rfl ?_); refine glE (some 34) Try.func64 #[.agg #[.int .i64 Ag, .int .i64 Ah, .slice Aw Af.length Ax], .int .i64 (wrap64 (Ad + a2)), .int .i64 (wrap64 (Ac + a3))] ?_; (with_reducible refine (spec_l2Within.calls k2 Ag Ah _ _ Af (wrap64 (Ad + a2)) (wrap64 (Ac + a3)) true _ ?side1 ?side2 Dv.out).mono ?_); (case side1 => exact Z44); (case side2 => exact Bc.out); rintro e Ei ⟨rfl, hb⟩; refine ⟨_, rfl, ?_⟩; replace Ae := roB Ae hb; replace Aa := bkB Aa hb; replace Ab := bkB Ab hb; replace HB := hbS Z8 hb; (try clear hb)))
          replace Ae := aM (Kd.R_drew Ae.out); replace Aa := aM (blk_drew Aa.out); replace Ab := aM (blk_drew Ab.out); replace HB := aM (below_drew1 HB.out); refine start_ (n := 13) (S := fun w' => w'.cell? ⟨Ar, 0, none⟩ = some (.int .i64 Aj) ∧ w'.cell? ⟨Ar, 1, none⟩ = some (.int .i64 Ak) ∧ w'.cell? ⟨Ar, 2, none⟩ = some (.slice Az Al.length Ba) ∧ w'.cell? ⟨Au, 0, none⟩ = some (.int .i64 Ag) ∧ w'.cell? ⟨Au, 1, none⟩ = some (.int .i64 Ah) ∧ w'.cell? ⟨Au, 2, none⟩ = some (.slice Aw Af.length Ax)) (ds := []) #[false, false, false, false, false, false, false, false, false, false, false, false, false] Z74 rfl rfl ⟨(blk_cell Aa.out 0).trans rfl, (blk_cell Aa.out 1).trans rfl, (blk_cell Aa.out 2).trans rfl, (blk_cell Ab.out 0).trans rfl, (blk_cell Ab.out 1).trans rfl, (blk_cell Ab.out 2).trans rfl⟩ (fun hHeld => ?_); refine with_tabW spec_l13Wrong.tab10 spec_l13Wrong.bits10 (fun HT_ HW_ => ?_)
          generalize Ei.drew = Eo at Ae Aa Ab HB hHeld ⊢
          refine puR 1 39 #[false, true, false, false, false, false, false, false, false, false, false, false, false] HT_ rfl rfl ?_; refine puR 2 40 #[false, true, true, false, false, false, false, false, false, false, false, false, false] HT_ rfl rfl ?_; refine puR 5 43 #[false, true, true, false, false, true, false, false, false, false, false, false, false] HT_ rfl rfl ?_; refine puR 6 44 #[false, true, true, false, false, true, true, false, false, false, false, false, false] HT_ rfl rfl ?_; refine puR 7 45 #[false, true, true, false, false, true, true, true, false, false, false, false, false] HT_ rfl rfl ?_; refine puR 8 46 #[false, true, true, false, false, true, true, true, true, false, false, false, false] HT_ rfl rfl ?_; refine puR 9 47 #[false, true, true, false, false, true, true, true, true, true, false, false, false] HT_ rfl rfl ?_; refine puR 10 48 #[false, true, true, false, false, true, true, true, true, true, true, false, false] HT_ rfl rfl ?_; refine taR 0 38 #[true, true, true, false, false, true, true, true, true, true, true, false, false] HT_ HW_ hHeld rfl rfl ?_; refine taR 4 42 #[true, true, true, false, true, true, true, true, true, true, true, false, false] HT_ HW_ hHeld rfl rfl ?_; refine one_ (i := 3) (N := some 41) #[true, true, true, true, true, true, true, true, true, true, true, false, false] rfl rfl (one_of HT_.out Z74) (by decide) (fun K hK => ?_); refine goes_ Try.func65 Z74 rfl #[.agg #[.int .i64 Aj, .int .i64 Ak, .slice Az Al.length Ba], .int .i64 Ad, .int .i64 Ac] (by rfl) rfl rfl Z33 ?_; (with_reducible refine (spec_l2At.calls Aj Ak _ _ Al Ad Ac Ay _ ?side1 ?side2 D2.out).mono ?_); (case side1 => exact Z122); (case side2 => exact Bt.out); rintro e Ep ⟨rfl, hb⟩; refine ⟨_, rfl, ?_⟩; replace Ae := roB Ae hb; replace Aa := bkB Aa hb; replace Ab := bkB Ab hb; replace HB := hbS Z8 hb; (try clear hb); (try clear hb2); (try clear hk); (try clear hi); refine hK.out _ _ Z104 (fun hHeld => ?_); clear hK K; refine noR 41 ?_; refine one_ (i := 11) (N := some 49) #[true, true, true, true, true, true, true, true, true, true, true, true, false] rfl rfl (one_of HT_.out Z74) (by decide) (fun K hK => ?_); refine goes_ Try.func65 Z74 rfl #[.agg #[.int .i64 Ag, .int .i64 Ah, .slice Aw Af.length Ax], .int .i64 (wrap64 (Ad + a2)), .int .i64 (wrap64 (Ac + a3))] (by rfl) rfl rfl Z33 ?_; (with_reducible refine (spec_l2At.calls Ag Ah _ _ Af (wrap64 (Ad + a2)) (wrap64 (Ac + a3)) Av _ ?side1 ?side2 D3.out).mono ?_); (case side1 => exact Z44); (case side2 => exact Bc.out); rintro e Er ⟨rfl, hb⟩; refine ⟨_, rfl, ?_⟩; replace Ae := roB Ae hb; replace Aa := bkB Aa hb; replace Ab := bkB Ab hb; replace HB := hbS Z8 hb; (try clear hb); (try clear hb2); (try clear hk); (try clear hi); refine hK.out _ _ Z104 (fun hHeld => ?_); clear hK K; refine noR 49 ?_; refine puR 12 50 #[true, true, true, true, true, true, true, true, true, true, true, true, true] HT_ rfl rfl ?_; refine done_ (done_of HT_.out Z74) ?_
          try go_wp2_with (first | ((with_reducible refine gate_builtin (b := .append) (xs := #[.tmp 51, .tmp 55]) rfl ?_); at_builtin; refine Kd.R_append k79 (w0 := w) w.heap.size rfl (.tmp 51) (.tmp 55) 47 79 (.agg #[(.int .i64 0), (.int .i64 0)]) 16 rfl Try.underlying47 info79 rfl (by decide) (by omega) u10 Ai (⟨Ad, Ac⟩ : S79) [.int .i64 Ad, .int .i64 Ac] (fun _ => True) (fun _ => False) rfl rfl ?aP (fun _ hk => hk.elim) ?aF ?aO ?aB ?aS ?aL ?_; (case aP => exact k79_mkM _ _ _ (⟨Ad, Ac⟩ : S79)); (case aB => exact Z8); (case aF => exact (fun _ _ => trivial)); (case aO => exact Z108); (case aS => exact (below_size Z8)); (case aL => have := LMc25.out; omega); intro Ej Es ho hb hg hat; rw [← Ca.out] at ho; replace Aa := aM (blk_grown (g := Ar) (o := .cells #[.int .i64 Aj, .int .i64 Ak, .slice Az Al.length Ba] 28 (0, 0)) Z26 hg (Kd.R_ne Ae.out Aa.out (by decide))); replace Ab := aM (blk_grown (g := Au) (o := .cells #[.int .i64 Ag, .int .i64 Ah, .slice Aw Af.length Ax] 28 (0, 0)) Z9 hg (Kd.R_ne Ae.out Ab.out (by decide))); replace HB := aM (hb); have Cb := aM (ho); clear Ae; clear ho hb hg hat))
          go_roundg k2
          case measure => have := HK1.out; have := HK2.out; omega
          case rel => exact ⟨(B9), (wrap64 (Ao + 1)), (wrap64 (Ac + 1)), Z18, Z18, H', ⟨Z149⟩, ⟨Z178⟩, ⟨Z26⟩, ⟨Z9⟩, ⟨Z8⟩⟩
         ·rw [if_neg Cp] at H
          exact absurd H (by simp)
       ·replace Cc := Bool.eq_false_iff.mpr Cc
        subst Cc
        have H1 : (spec_l13Wrong.l1 k2 a2 a3 Ai Ao Ad (wrap64 (Ac + 1)) Aj Ak Al Ag Ah Af) = some (r1, r2) := by rw [if_neg (show ¬ (false = true) by decide)] at H; exact H
        clear H; have H := H1; clear H1; have H' := Aside0.mk H; clear H; have D8 := Ap.out; have D9 := Aq.out; obtain ⟨C4, C5, C6⟩ := bz3 Aa; obtain ⟨C7, C8, C9⟩ := fz3 Aa; obtain ⟨Da, Db, Dc⟩ := bz3 Ab; obtain ⟨Dd, De, Df⟩ := fz3 Ab
        go_wp2_with (first | ((with_reducible refine gate_callee (f := 64) rfl ?_); refine glE (some 34) Try.func64 #[.agg #[.int .i64 Ag, .int .i64 Ah, .slice Aw Af.length Ax], .int .i64 (wrap64 (Ad + a2)), .int .i64 (wrap64 (Ac + a3))] ?_; (with_reducible refine (spec_l2Within.calls k2 Ag Ah _ _ Af (wrap64 (Ad + a2)) (wrap64 (Ac + a3)) false _ ?side1 ?side2 Dv.out).mono ?_); (case side1 => exact Z44); (case side2 => exact Bc.out); rintro e Et ⟨rfl, hb⟩; refine ⟨_, rfl, ?_⟩; replace Ae := roB Ae hb; replace Aa := bkB Aa hb; replace Ab := bkB Ab hb; replace HB := hbS Z8 hb; (try clear hb)))
        go_roundg k2
        case measure => have := HK1.out; have := HK2.out; omega
        case rel => exact ⟨(Ai), (Ao), (wrap64 (Ac + 1)), Z18, Z18, H', ⟨Z149⟩, ⟨Z108⟩, ⟨Z26⟩, ⟨Z9⟩, ⟨Z8⟩⟩
      ·rw [if_neg Bw] at H
       have c12b0 : decide (Ac < Aj) = false := decide_eq_false Bw; clear Bw; have H' := Aside0.mk H; clear H; have Ea := Ap.out; have Eb := Aq.out; obtain ⟨Dg, Dh, Di⟩ := bz3 Aa; obtain ⟨Dj, Dk, Dl⟩ := fz3 Aa
       go_wp2
       go_roundg k2
       case measure => have := HK1.out; have := HK2.out; omega
       case rel => exact ⟨(Ai), (Ao), (wrap64 (Ad + 1)), Z18, Z18, H', ⟨Z149⟩, ⟨Z108⟩, ⟨Z26⟩, ⟨Z9⟩, ⟨Z8⟩⟩
   ·rw [if_neg c9] at H
    have c9b0 : decide (Ad < Ak) = false := decide_eq_false c9; clear c9
    simp only [Option.some.injEq, Prod.mk.injEq] at H
    obtain ⟨rfl, rfl⟩ := H; have Ec := Ap.out; have Ed := Aq.out; obtain ⟨Dm, Dn, Dp⟩ := bz3 Aa; obtain ⟨Dq, Dr, Ds⟩ := fz3 Aa
    go_wp2
    go_ret2
    exact ⟨_, Z10, Z108, Z8⟩
def spec_DifferencesAt.f (k : Nat) (a0_0 : Int) (a0_1 : Int) (l0_2 : List Int) (a1_0 : Int) (a1_1 : Int) (l1_2 : List Int) (a2 : Int) (a3 : Int) : Option (Int × Int × Bool) := (spec_l13Shift.f k a0_0 a0_1 l0_2 a1_0 a1_1 l1_2 a2 a3).bind fun t133 => (if t133 = true then ((spec_l13Wrong.f k a0_0 a0_1 l0_2 a1_0 a1_1 l1_2 a2 a3).bind fun bt134 => (some ((bt134.1.length : Int), bt134.2, true))) else (some (0, 0, false)))
theorem spec_DifferencesAt.calls (k : Nat) (Af : Int) (Ag : Int) (An : Option Addr) (Ao : Nat) (Ad : List Int) (Ah : Int) (Ai : Int) (Ap : Option Addr) (Aq : Nat) (Ae : List Int) (a2 : Int) (a3 : Int) (r1 : Int) (r2 : Int) (r3 : Bool) (w : World) (Ay : Kd.C (Kd.int .i64) w An Ad.length Ad) (Az : Ad.length ≤ Ao) (Ba : Kd.C (Kd.int .i64) w Ap Ae.length Ae) (Bb : Ae.length ≤ Aq) (h : spec_DifferencesAt.f k Af Ag Ad Ah Ai Ae a2 a3 = some (r1, r2, r3)) :
  Calls Try.prog 14 #[.agg #[.int .i64 Af, .int .i64 Ag, .slice An Ad.length Ao], .agg #[.int .i64 Ah, .int .i64 Ai, .slice Ap Ae.length Aq], .int .i64 a2, .int .i64 a3] w fun e w' => e = .returned (.tuple #[.int .i64 r1, .int .i64 r2, .bool r3]) ∧ Below w.heap.size w w' := by
 have hu28 := Try.underlying28; have Ar := Aside0.mk Ay; have Au := Aside0.mk Az; clear Ay Az; have Av := Aside0.mk Ba; have Aw := Aside0.mk Bb; clear Ba Bb; have HB := aM (Below.refl w.heap.size w); have H : ((spec_l13Shift.f k Af Ag Ad Ah Ai Ae a2 a3).bind fun Ax => (if Ax = true then ((spec_l13Wrong.f k Af Ag Ad Ah Ai Ae a2 a3).bind fun Al => (some ((Al.1.length : Int), Al.2, true))) else (some (0, 0, false)))) = some (r1, r2, r3) := h; clear h; replace H := Option.bind_eq_some_iff.mp H; obtain ⟨Ax, Cq, H⟩ := H; replace H : (if Ax = true then ((spec_l13Wrong.f k Af Ag Ad Ah Ai Ae a2 a3).bind fun Al => (some ((Al.1.length : Int), Al.2, true))) else (some (0, 0, false))) = some (r1, r2, r3) := H; have A5 := Aside0.mk Cq; clear Cq
 by_cases c6 : Ax = true
 ·subst c6
  have H1 : ((spec_l13Wrong.f k Af Ag Ad Ah Ai Ae a2 a3).bind fun Al => (some ((Al.1.length : Int), Al.2, true))) = some (r1, r2, r3) := by rw [if_pos rfl] at H; exact H
  clear H; have H := H1; clear H1; replace H := Option.bind_eq_some_iff.mp H; obtain ⟨⟨Bc, Bd⟩, Cr, H⟩ := H; replace H : (some ((Bc.length : Int), Bd, true)) = some (r1, r2, r3) := H; have A7 := Aside0.mk Cr; clear Cr
  simp only [Option.some.injEq, Prod.mk.injEq] at H
  obtain ⟨rfl, rfl, rfl⟩ := H
  go_enter Try.func14, Try.ntmps14
  go_wp2_with (first | ((with_reducible refine gate_dst (N := 4) rfl ?_); refine bxE 4 #[.int .i64 Af, .int .i64 Ag, .slice An Ad.length Ao] 28 ?_; intro Bf hg w8 hbox hb; have Aa := aM (hbox); have Bg := gwS hg Z0; have Ab := gwS hg Z0; replace HB := hbS Z0 hb; clear hb hbox hg) | ((with_reducible refine gate_dst (N := 5) rfl ?_); refine bxE 5 #[.int .i64 Ah, .int .i64 Ai, .slice Ap Ae.length Aq] 28 ?_; intro Bh hg w9 hbox hb; have Ac := aM (hbox); have Bi := gwS hg Z7; have Am := gwS hg Z7; replace HB := hbS Z7 hb; have Aj := nbL hg Aa; have Ak := nbG hg Aa; replace Aa := bkB Aa hb; clear hb hbox hg; have Cs := Aj.out; have Ct := Ak.out; obtain ⟨Bk, Bl, Bm⟩ := bz3 Aa; obtain ⟨Bn, Bo, Bp⟩ := fz3 Aa; obtain ⟨Bq, Br, Bs⟩ := bz3 Ac; obtain ⟨Bt, Bu, Bv⟩ := fz3 Ac) | ((with_reducible refine gate_callee (f := 52) rfl ?_); refine glE (some 17) Try.func52 #[.agg #[.int .i64 Af, .int .i64 Ag, .slice An Ad.length Ao], .agg #[.int .i64 Ah, .int .i64 Ai, .slice Ap Ae.length Aq], .int .i64 a2, .int .i64 a3] ?_; (with_reducible refine (spec_l13Shift.calls k Af Ag _ _ Ad Ah Ai _ _ Ae a2 a3 true _ ?side1 ?side2 ?side3 ?side4 A5.out).mono ?_); (case side1 => exact Z45); (case side2 => exact Au.out); (case side3 => exact Z55); (case side4 => exact Aw.out); rintro e C2 ⟨rfl, hb⟩; refine ⟨_, rfl, ?_⟩; replace Aa := bkB Aa hb; replace Ac := bkB Ac hb; replace HB := hbS Z48 hb; (try clear hb); obtain ⟨Bw, Bx, Bz⟩ := bz3 Aa; obtain ⟨B0, B2, B6⟩ := fz3 Aa; obtain ⟨B7, B8, B9⟩ := bz3 Ac; obtain ⟨Ca, Cb, Cc⟩ := fz3 Ac) | ((with_reducible refine gate_callee (f := 53) rfl ?_); refine glE (some 24) Try.func53 #[.agg #[.int .i64 Af, .int .i64 Ag, .slice An Ad.length Ao], .agg #[.int .i64 Ah, .int .i64 Ai, .slice Ap Ae.length Aq], .int .i64 a2, .int .i64 a3] ?_; (with_reducible refine (spec_l13Wrong.calls k Af Ag _ _ Ad Ah Ai _ _ Ae a2 a3 Bc Bd _ ?side1 ?side2 ?side3 ?side4 A7.out).mono ?_); (case side1 => exact Z45); (case side2 => exact Au.out); (case side3 => exact Z55); (case side4 => exact Aw.out); rintro e C3 ⟨Cx, rfl, Cu, hb⟩; refine ⟨_, rfl, ?_⟩; have Bj := aM (Kd.R_lower Cu (below_size Z48)); replace Aa := bkB Aa hb; replace Ac := bkB Ac hb; replace HB := hbS Z48 hb; (try clear hb); (try clear Cu); obtain ⟨Cy, Cz, Cp⟩ := Kd.R_slice Bj.out; subst Cp))
  go_ret3
  exact ⟨Z10, Z48⟩
 ·replace c6 := Bool.eq_false_iff.mpr c6
  subst c6
  have H1 : (some (0, 0, false)) = some (r1, r2, r3) := by rw [if_neg (show ¬ (false = true) by decide)] at H; exact H
  clear H; have H := H1; clear H1
  simp only [Option.some.injEq, Prod.mk.injEq] at H
  obtain ⟨rfl, rfl, rfl⟩ := H
  go_enter Try.func14, Try.ntmps14
  go_wp2_with (first | ((with_reducible refine gate_dst (N := 4) rfl ?_); refine bxE 4 #[.int .i64 Af, .int .i64 Ag, .slice An Ad.length Ao] 28 ?_; intro Bf hg C4 hbox hb; have Aa := aM (hbox); have Bg := gwS hg Z0; have Ab := gwS hg Z0; replace HB := hbS Z0 hb; clear hb hbox hg) | ((with_reducible refine gate_dst (N := 5) rfl ?_); refine bxE 5 #[.int .i64 Ah, .int .i64 Ai, .slice Ap Ae.length Aq] 28 ?_; intro Bh hg C5 hbox hb; have Ac := aM (hbox); have Bi := gwS hg Z7; have Am := gwS hg Z7; replace HB := hbS Z7 hb; have Aj := nbL hg Aa; have Ak := nbG hg Aa; replace Aa := bkB Aa hb; clear hb hbox hg; have Cv := Aj.out; have Cw := Ak.out; obtain ⟨Cd, Ce, Cf⟩ := bz3 Aa; obtain ⟨Cg, Ch, Ci⟩ := fz3 Aa; obtain ⟨Cj, Ck, Cl⟩ := bz3 Ac; obtain ⟨Cm, Cn, Co⟩ := fz3 Ac) | ((with_reducible refine gate_callee (f := 52) rfl ?_); refine glE (some 17) Try.func52 #[.agg #[.int .i64 Af, .int .i64 Ag, .slice An Ad.length Ao], .agg #[.int .i64 Ah, .int .i64 Ai, .slice Ap Ae.length Aq], .int .i64 a2, .int .i64 a3] ?_; (with_reducible refine (spec_l13Shift.calls k Af Ag _ _ Ad Ah Ai _ _ Ae a2 a3 false _ ?side1 ?side2 ?side3 ?side4 A5.out).mono ?_); (case side1 => exact Z45); (case side2 => exact Au.out); (case side3 => exact Z55); (case side4 => exact Aw.out); rintro e C6 ⟨rfl, hb⟩; refine ⟨_, rfl, ?_⟩; replace Aa := bkB Aa hb; replace Ac := bkB Ac hb; replace HB := hbS Z48 hb; (try clear hb)))
  go_ret3
  exact ⟨Z10, Z48⟩
def impl_in.f (a0 : Int) (a1 : Int) (a2 : Int) : Option (Bool) := if a0 ≥ a1 then (some (decide (a0 ≤ a2))) else (some false)
theorem impl_in.calls (a0 : Int) (a1 : Int) (a2 : Int) (r : Bool) (w : World) (h : impl_in.f a0 a1 a2 = some r) :
  Calls Try.prog 73 #[.int .i64 a0, .int .i64 a1, .int .i64 a2] w fun e w' => e = .returned (.bool r) ∧ Drawn0 w w' := by
 have H : (if a0 ≥ a1 then (some (decide (a0 ≤ a2))) else (some false)) = some r := h; clear h
 by_cases c4 : a0 ≥ a1
 ·rw [if_pos c4] at H
  have c4b0 : decide (a1 ≤ a0) = true := decide_eq_true c4; clear c4; obtain rfl := Option.some.inj H
  go_enter Try.func73, Try.ntmps73
  go_wp2
  go_ret
  exact ⟨Z18, Z60⟩
 ·rw [if_neg c4] at H
  have c4b0 : decide (a1 ≤ a0) = false := decide_eq_false c4; clear c4; obtain rfl := Option.some.inj H
  go_enter Try.func73, Try.ntmps73
  go_wp2
  go_ret
  exact ⟨Z18, Z60⟩
theorem impl_in.eq (a b c : Int) : impl_in.f a b c = some (rng a b c) := by
 unfold impl_in.f rng; by_cases h : b ≤ a <;> simp [h]
def impl_isColor.f (a0 : Int) : Option (Bool) := (impl_in.f a0 0 5).bind fun t138 => (some t138)
theorem impl_isColor.calls (a0 : Int) (r : Bool) (w : World) (h : impl_isColor.f a0 = some r) :
  Calls Try.prog 68 #[.int .i64 a0] w fun e w' => e = .returned (.bool r) ∧ Drawn0 w w' := by
 have H : ((impl_in.f a0 0 5).bind fun Aa => (some Aa)) = some r := h; clear h; replace H := Option.bind_eq_some_iff.mp H; obtain ⟨Aa, Ab, H⟩ := H; replace H : (some Aa) = some r := H; have A2 := Aside0.mk Ab; clear Ab; obtain rfl := Option.some.inj H
 go_enter Try.func68, Try.ntmps68
 go_wp2_with (first | ((with_reducible refine gate_callee (f := 73) rfl ?_); refine glE (some 4) Try.func73 #[.int .i64 a0, .int .i64 0, .int .i64 5] ?_; (with_reducible refine (impl_in.calls a0 0 5 Aa _ A2.out).mono ?_); rintro e w' ⟨rfl, ⟨nd, rfl⟩⟩; refine ⟨_, rfl, ?_⟩))
 go_ret
 exact ⟨Z18, Z60⟩
def impl_isSide.f (a0 : Int) : Option (Bool) := (impl_in.f a0 1 8).bind fun t139 => (some t139)
theorem impl_isSide.calls (a0 : Int) (r : Bool) (w : World) (h : impl_isSide.f a0 = some r) :
  Calls Try.prog 93 #[.int .i64 a0] w fun e w' => e = .returned (.bool r) ∧ Drawn0 w w' := by
 have H : ((impl_in.f a0 1 8).bind fun Aa => (some Aa)) = some r := h; clear h; replace H := Option.bind_eq_some_iff.mp H; obtain ⟨Aa, Ab, H⟩ := H; replace H : (some Aa) = some r := H; have A2 := Aside0.mk Ab; clear Ab; obtain rfl := Option.some.inj H
 go_enter Try.func93, Try.ntmps93
 go_wp2_with (first | ((with_reducible refine gate_callee (f := 73) rfl ?_); refine glE (some 4) Try.func73 #[.int .i64 a0, .int .i64 1, .int .i64 8] ?_; (with_reducible refine (impl_in.calls a0 1 8 Aa _ A2.out).mono ?_); rintro e w' ⟨rfl, ⟨nd, rfl⟩⟩; refine ⟨_, rfl, ?_⟩))
 go_ret
 exact ⟨Z18, Z60⟩
set_option maxHeartbeats 4000000 in
theorem IndexFunc_int (p : Int → Bool) (g : Nat) (lb : Array Value) (A : Option Addr) (c : Nat) (xs : List Int) (w : World)
  (eg : ∀ args w, (callFunc g args).run Try.prog w = .ok (.enter g args) w) (hr : Kd.C (Kd.int .i64) w A xs.length xs)
  (hp : ∀ (W : World) (x : Int), Below w.heap.size w W → Calls Try.prog g (#[.int .i64 x] ++ lb) W fun e w' => e = .returned (.bool (p x)) ∧ Below W.heap.size W w') :
  Calls Try.prog 121 #[.slice A xs.length c, .func (.func g) #[] lb] w fun e w' => e = .returned (.int .i64 (findI p xs)) ∧ Below w.heap.size w w' := by
 have hlen := Aside0.mk hr.2.1; have HR := Aside0.mk hr; have HP := Aside0.mk hp; clear hr hp
 go_enter Try.func121, Try.ntmps121
 go_wp2
 go_loopg [5, 8] xs.length (fun gg _ s8 wr => ∃ x : Int, s8 = .int .i64 x ∧ Aside0 (0 ≤ x ∧ x ≤ (xs.length : Int) ∧ (xs.length : Int) - x ≤ gg) ∧ Aside0 (Below w.heap.size w wr) ∧ Aside0 (∀ j : Nat, (j : Int) < x → p (xs.getD j 0) = false))
 case atStart => exact ⟨0, rfl, ⟨by omega, by omega, by omega⟩, ⟨Below.refl _ _⟩, ⟨fun j hj => absurd hj (by omega)⟩⟩
 case round =>
  obtain ⟨x, rfl, HX, BW, HA⟩ := hrel
  by_cases hlt : x < (xs.length : Int)
  ·have c0 : decide (x < (xs.length : Int)) = true := decide_eq_true hlt
   obtain ⟨ad, e0, Aa⟩ := Kd.at_int (Kd.C_below HR.out BW.out) x HX.out.1 hlt; cases e0; have c1 : decide (0 ≤ x) = true := decide_eq_true HX.out.1; have p0 := eq_true HX.out.1; have p1 := eq_true hlt; have HL := Aside0.mk hlt; clear hlt; have hcall := HP.out _ (rd xs x) BW.out; have hget : Aside0 (xs.getD x.toNat 0 = (rd xs x)) := ⟨rfl⟩; cases hq : p (rd xs x) with
   | true =>
    rw [hq] at hcall; have HQ := Aside0.mk hq; have HC := Aside0.mk hcall; clear hq hcall
    go_wp2_with fail
    refine HC.out.mono ?_; rintro e w' ⟨rfl, hb'⟩; have HB := aM (below_step BW.out hb'); clear hb'
    go_wp2
    go_ret
    refine ⟨?_, HB.out⟩; rw [findI_hit p 0 xs x.toNat Z194 (fun j hj => HA.out j Z168) (by rw [hget.out]; exact HQ.out)]; rw [Int.toNat_of_nonneg HX.out.1]
    rfl
   | false =>
    rw [hq] at hcall; have HQ := Aside0.mk hq; have HC := Aside0.mk hcall; clear hq hcall
    go_wp2_with fail
    refine HC.out.mono ?_; rintro e w' ⟨rfl, hb'⟩; have HB := aM (below_step BW.out hb'); clear hb'
    go_wp2
    have hw1 : wrap64 (x + 1) = x + 1 := by have := HX.out; have := HL.out; have := hlen.out; unfold wrap64; omega
    go_roundg (xs.length - (x.toNat + 1))
    case measure => have := HX.out; have := HL.out; omega
    case rel =>
     refine ⟨x + 1, by first | rfl | rw [hw1] | simp [hw1], ⟨Z168, by have := HL.out; omega, Z194⟩, HB, ⟨fun j hj => ?_⟩⟩
     by_cases e : (j : Int) < x
     ·exact HA.out j e
     ·have hj' : j = x.toNat := by have := HX.out; omega
      subst hj'; rw [hget.out]
      exact HQ.out
  ·have c0 : decide (x < (xs.length : Int)) = false := decide_eq_false hlt
   have HL := Aside0.mk hlt; clear hlt
   go_wp2
   go_ret
   refine ⟨?_, BW.out⟩; rw [findI_miss p 0 xs (fun j hj => HA.out j (by have := HL.out; omega))]
   rfl
set_option maxHeartbeats 4000000 in
theorem ContainsFunc_int (p : Int → Bool) (g : Nat) (lb : Array Value) (A : Option Addr) (c : Nat) (xs : List Int) (w : World)
  (eg : ∀ args w, (callFunc g args).run Try.prog w = .ok (.enter g args) w) (hr : Kd.C (Kd.int .i64) w A xs.length xs)
  (hp : ∀ (W : World) (x : Int), Below w.heap.size w W → Calls Try.prog g (#[.int .i64 x] ++ lb) W fun e w' => e = .returned (.bool (p x)) ∧ Below W.heap.size W w') :
  Calls Try.prog 107 #[.slice A xs.length c, .func (.func g) #[] lb] w fun e w' => e = .returned (.bool (xs.any p)) ∧ Below w.heap.size w w' := by
 have HC := aM (IndexFunc_int p g lb A c xs w eg hr hp); clear hr hp eg; rw [← findI_any]
 go_enter Try.func107, Try.ntmps107
 go_wp2_with fail
 refine HC.out.mono ?_; rintro e w' ⟨rfl, hb'⟩
 go_wp2
 go_ret
 exact ⟨Z111, hb'⟩
set_option maxHeartbeats 4000000 in
theorem areAll_int_1 (p : Int → Bool) (g : Nat) (lb : Array Value) (b : Nat) (x : Int) (W : World)
  (eg : ∀ args w, (callFunc g args).run Try.prog w = .ok (.enter g args) w) (hc : W.cell? ⟨b, 0, none⟩ = some (.func (.func g) #[] lb))
  (hp : ∀ W1, Below W.heap.size W W1 → Calls Try.prog g (#[.int .i64 x] ++ lb) W1 fun e w' => e = .returned (.bool (p x)) ∧ Below W1.heap.size W1 w') (hb : b < W.heap.size) :
  Calls Try.prog 108 #[.int .i64 x, .pointer (some ⟨b, 0, none⟩)] W fun e w' => e = .returned (.bool (!p x)) ∧ Below W.heap.size W w' := by
 have HP := Aside0.mk hp; clear hp
 go_enter Try.func108, Try.ntmps108
 go_wp2_with fail
 refine (HP.out _ (Below.refl _ _)).mono ?_; rintro e w' ⟨rfl, hb'⟩
 go_wp2
 go_ret
 exact ⟨Z111, hb'⟩
set_option maxHeartbeats 4000000 in
theorem areAll_int (p : Int → Bool) (g : Nat) (lb : Array Value) (A : Option Addr) (c : Nat) (xs : List Int) (w : World)
  (eg : ∀ args w, (callFunc g args).run Try.prog w = .ok (.enter g args) w) (hr : Kd.C (Kd.int .i64) w A xs.length xs)
  (hp : ∀ (W : World) (x : Int), Below w.heap.size w W → Calls Try.prog g (#[.int .i64 x] ++ lb) W fun e w' => e = .returned (.bool (p x)) ∧ Below W.heap.size W w') :
  Calls Try.prog 94 #[.slice A xs.length c, .func (.func g) #[] lb] w fun e w' => e = .returned (.bool (xs.all p)) ∧ Below w.heap.size w w' := by
 have hmf : ∀ (fn : Fn) (first cap : Array Value) (w : World), (Instr.makeFunc fn first cap).run Try.prog w = .ok (.func fn first cap) w := fun _ _ _ _ => rfl
 have hB1 : Below w.heap.size w (w.alloc (.cells #[.func (.func g) #[] lb] 74)) := below_alloc (Below.refl _ _) _
 have Aa : (w.alloc (.cells #[.func (.func g) #[] lb] 74)).cell? ⟨w.heap.size, 0, none⟩ = some (.func (.func g) #[] lb) := by simp
 have hsz : w.heap.size < (w.alloc (.cells #[.func (.func g) #[] lb] 74)).heap.size := by simp
 have HC := aM (ContainsFunc_int (fun x => !p x) 108 #[.pointer (some ⟨w.heap.size, 0, none⟩)] A c xs (w.alloc (.cells #[.func (.func g) #[] lb] 74)) (enters_of Try.func108 Z74 rfl) (Kd.C_below hr hB1)
  (fun W x hW => areAll_int_1 p g lb w.heap.size x W eg ((hW.cell (p := ⟨w.heap.size, 0, none⟩) hsz).trans Aa) (fun W1 h1 => hp W1 x ((hB1.trans (hW.mono hB1.size)).trans (h1.mono (Nat.le_trans hB1.size hW.size)))) (Nat.lt_of_lt_of_le hsz hW.size)))
 have HB := Aside0.mk hB1; rw [← any_not]; clear hB1 Aa hsz hp hr eg
 go_enter Try.func94, Try.ntmps94
 go_wp2_with fail
 refine HC.out.mono ?_; rintro e w' ⟨rfl, hb'⟩
 go_wp2
 go_ret
 exact ⟨Z111, below_step HB.out hb'⟩
theorem impl_isColor.tot : ∀ x : Int, impl_isColor.f x = some ((fun x : Int => rng x 0 5) x) := fun x => by unfold impl_isColor.f; rw [impl_in.eq]; rfl
def areAll_impl_isColor.f (l0 : List Int) : Option Bool := some (l0.all (fun x : Int => rng x 0 5))
theorem areAll_impl_isColor.calls (A0 : Option Addr) (c0 : Nat) (l0 : List Int) (r : Bool) (w : World) (Aa : Kd.C (Kd.int .i64) w A0 l0.length l0) (Ac : l0.length ≤ c0) (h : areAll_impl_isColor.f l0 = some r) :
  Calls Try.prog 94 #[.slice A0 l0.length c0, .func (.func 68) #[] #[]] w fun e w' => e = .returned (.bool r) ∧ Below w.heap.size w w' := by
 have Ab := Option.some.inj h; subst Ab
 exact areAll_int (fun x : Int => rng x 0 5) 68 #[] A0 c0 l0 w (enters_of Try.func68 Z74 rfl) Aa (fun W x _ => (impl_isColor.calls x _ W (impl_isColor.tot x)).mono fun e w' ⟨he, hd⟩ => ⟨he, by first | exact hd | exact hd.below⟩)
def impl_IsChart.f (a0_0 : Int) (a0_1 : Int) (l0_2 : List Int) : Option (Bool) := (impl_isSide.f a0_0).bind fun t141 => (if t141 = true then ((impl_isSide.f a0_1).bind fun t142 => (if t142 = true then (if (l0_2.length : Int) = (wrap64 (a0_0 * a0_1)) then ((areAll_impl_isColor.f l0_2).bind fun t143 => (some t143)) else (some false)) else (some false))) else (some false))
theorem impl_IsChart.calls (Aa : Int) (Ac : Int) (Ah : Option Addr) (Ai : Nat) (Ab : List Int) (r : Bool) (w : World) (Am : Kd.C (Kd.int .i64) w Ah Ab.length Ab) (An : Ab.length ≤ Ai) (h : impl_IsChart.f Aa Ac Ab = some r) :
  Calls Try.prog 66 #[.agg #[.int .i64 Aa, .int .i64 Ac, .slice Ah Ab.length Ai]] w fun e w' => e = .returned (.bool r) ∧ Below w.heap.size w w' := by
 have hu28 := Try.underlying28; have Ao := Aside0.mk Am; have Ap := Aside0.mk An; clear Am An; have HB := aM (Below.refl w.heap.size w); have H : ((impl_isSide.f Aa).bind fun Al => (if Al = true then ((impl_isSide.f Ac).bind fun Ag => (if Ag = true then (if (Ab.length : Int) = (wrap64 (Aa * Ac)) then ((areAll_impl_isColor.f Ab).bind fun Af => (some Af)) else (some false)) else (some false))) else (some false))) = some r := h; clear h; replace H := Option.bind_eq_some_iff.mp H; obtain ⟨Al, Br, H⟩ := H; replace H : (if Al = true then ((impl_isSide.f Ac).bind fun Ag => (if Ag = true then (if (Ab.length : Int) = (wrap64 (Aa * Ac)) then ((areAll_impl_isColor.f Ab).bind fun Af => (some Af)) else (some false)) else (some false))) else (some false)) = some r := H; have A2 := Aside0.mk Br; clear Br
 by_cases c3 : Al = true
 ·subst c3
  have H1 : ((impl_isSide.f Ac).bind fun Ag => (if Ag = true then (if (Ab.length : Int) = (wrap64 (Aa * Ac)) then ((areAll_impl_isColor.f Ab).bind fun Af => (some Af)) else (some false)) else (some false))) = some r := by rw [if_pos rfl] at H; exact H
  clear H; have H := H1; clear H1; replace H := Option.bind_eq_some_iff.mp H; obtain ⟨Ag, Bs, H⟩ := H; replace H : (if Ag = true then (if (Ab.length : Int) = (wrap64 (Aa * Ac)) then ((areAll_impl_isColor.f Ab).bind fun Af => (some Af)) else (some false)) else (some false)) = some r := H; have A4 := Aside0.mk Bs; clear Bs
  by_cases c5 : Ag = true
  ·subst c5
   have H1 : (if (Ab.length : Int) = (wrap64 (Aa * Ac)) then ((areAll_impl_isColor.f Ab).bind fun Af => (some Af)) else (some false)) = some r := by rw [if_pos rfl] at H; exact H
   clear H; have H := H1; clear H1
   by_cases c6 : (Ab.length : Int) = (wrap64 (Aa * Ac))
   ·rw [if_pos c6] at H
    have c6b0 : ((Ab.length : Int) == (wrap64 (Aa * Ac))) = true := beq_iff_eq.mpr c6; have c6b1 : ((Ab.length : Int) != (wrap64 (Aa * Ac))) = false := bne_eq_false_iff_eq.mpr c6; clear c6; replace H := Option.bind_eq_some_iff.mp H; obtain ⟨Af, Bt, H⟩ := H; replace H : (some Af) = some r := H; have A7 := Aside0.mk Bt; clear Bt; obtain rfl := Option.some.inj H
    go_enter Try.func66, Try.ntmps66
    go_wp2_with (first | ((with_reducible refine gate_dst (N := 1) rfl ?_); (try (refine gate_guard (by rfl) ?_; dsimp only)); refine bxE 1 #[.int .i64 Aa, .int .i64 Ac, .slice Ah Ab.length Ai] 28 ?_; intro Aj hg w8 hbox hb; have Ad := aM (hbox); have Ak := gwS hg Z0; have Ae := gwS hg Z0; replace HB := hbS Z0 hb; clear hb hbox hg; obtain ⟨Bl, Bm, Bn⟩ := bz3 Ad; obtain ⟨Bo, Bp, Bq⟩ := fz3 Ad) | ((with_reducible refine gate_callee (f := 93) rfl ?_); refine glE (some 5) Try.func93 #[.int .i64 Aa] ?_; (with_reducible refine (impl_isSide.calls Aa true _ A2.out).mono ?_); rintro e w' ⟨rfl, ⟨nd, rfl⟩⟩; refine ⟨_, rfl, ?_⟩) | (go_at_call 93; (with_reducible refine (impl_isSide.calls Ac true _ A4.out).mono ?_); rintro e w' ⟨rfl, ⟨nd, rfl⟩⟩) | (go_at_call 94; (with_reducible refine (areAll_impl_isColor.calls _ _ Ab Af _ ?side1 ?side2 A7.out).mono ?_); (case side1 => repeat (first | exact (Kd.C_below Ao.out Z24) | (with_reducible refine Kd.C_alloc ?_ _) | (with_reducible refine Kd.C_drewN ?_ _) | (with_reducible refine Kd.C_drew ?_))); (case side2 => exact Ap.out); rintro e Bu ⟨rfl, hb⟩; replace Ad := bkB Ad hb; replace HB := hbS Z24 hb; (try clear hb)))
    go_ret
    exact ⟨Z10, Z24⟩
   ·rw [if_neg c6] at H
    have c6b0 : ((Ab.length : Int) == (wrap64 (Aa * Ac))) = false := beq_eq_false_iff_ne.mpr c6; have c6b1 : ((Ab.length : Int) != (wrap64 (Aa * Ac))) = true := bne_iff_ne.mpr c6; obtain rfl := Option.some.inj H
    go_enter Try.func66, Try.ntmps66
    go_wp2_with (first | ((with_reducible refine gate_dst (N := 1) rfl ?_); (try (refine gate_guard (by rfl) ?_; dsimp only)); refine bxE 1 #[.int .i64 Aa, .int .i64 Ac, .slice Ah Ab.length Ai] 28 ?_; intro Aj hg Bv hbox hb; have Ad := aM (hbox); have Ak := gwS hg Z0; have Ae := gwS hg Z0; replace HB := hbS Z0 hb; clear hb hbox hg; obtain ⟨Aq, Ar, Au⟩ := bz3 Ad; obtain ⟨Av, Aw, Ax⟩ := fz3 Ad) | ((with_reducible refine gate_callee (f := 93) rfl ?_); refine glE (some 5) Try.func93 #[.int .i64 Aa] ?_; (with_reducible refine (impl_isSide.calls Aa true _ A2.out).mono ?_); rintro e w' ⟨rfl, ⟨nd, rfl⟩⟩; refine ⟨_, rfl, ?_⟩) | (go_at_call 93; (with_reducible refine (impl_isSide.calls Ac true _ A4.out).mono ?_); rintro e w' ⟨rfl, ⟨nd, rfl⟩⟩))
    go_ret
    exact ⟨Z10, Z24⟩
  ·replace c5 := Bool.eq_false_iff.mpr c5
   subst c5
   have H1 : (some false) = some r := by rw [if_neg (show ¬ (false = true) by decide)] at H; exact H
   clear H; have H := H1; clear H1; obtain rfl := Option.some.inj H
   go_enter Try.func66, Try.ntmps66
   go_wp2_with (first | ((with_reducible refine gate_dst (N := 1) rfl ?_); (try (refine gate_guard (by rfl) ?_; dsimp only)); refine bxE 1 #[.int .i64 Aa, .int .i64 Ac, .slice Ah Ab.length Ai] 28 ?_; intro Aj hg Bw hbox hb; have Ad := aM (hbox); have Ak := gwS hg Z0; have Ae := gwS hg Z0; replace HB := hbS Z0 hb; clear hb hbox hg; obtain ⟨Ay, Az, Ba⟩ := bz3 Ad; obtain ⟨Bb, Bc, Bd⟩ := fz3 Ad) | ((with_reducible refine gate_callee (f := 93) rfl ?_); refine glE (some 5) Try.func93 #[.int .i64 Aa] ?_; (with_reducible refine (impl_isSide.calls Aa true _ A2.out).mono ?_); rintro e w' ⟨rfl, ⟨nd, rfl⟩⟩; refine ⟨_, rfl, ?_⟩) | (go_at_call 93; (with_reducible refine (impl_isSide.calls Ac false _ A4.out).mono ?_); rintro e w' ⟨rfl, ⟨nd, rfl⟩⟩))
   go_ret
   exact ⟨Z10, Z24⟩
 ·replace c3 := Bool.eq_false_iff.mpr c3
  subst c3
  have H1 : (some false) = some r := by rw [if_neg (show ¬ (false = true) by decide)] at H; exact H
  clear H; have H := H1; clear H1; obtain rfl := Option.some.inj H
  go_enter Try.func66, Try.ntmps66
  go_wp2_with (first | ((with_reducible refine gate_dst (N := 1) rfl ?_); (try (refine gate_guard (by rfl) ?_; dsimp only)); refine bxE 1 #[.int .i64 Aa, .int .i64 Ac, .slice Ah Ab.length Ai] 28 ?_; intro Aj hg Bx hbox hb; have Ad := aM (hbox); have Ak := gwS hg Z0; have Ae := gwS hg Z0; replace HB := hbS Z0 hb; clear hb hbox hg; obtain ⟨Bf, Bg, Bh⟩ := bz3 Ad; obtain ⟨Bi, Bj, Bk⟩ := fz3 Ad) | ((with_reducible refine gate_callee (f := 93) rfl ?_); refine glE (some 5) Try.func93 #[.int .i64 Aa] ?_; (with_reducible refine (impl_isSide.calls Aa false _ A2.out).mono ?_); rintro e w' ⟨rfl, ⟨nd, rfl⟩⟩; refine ⟨_, rfl, ?_⟩))
  go_ret
  exact ⟨Z10, Z24⟩
def impl_isShift.f (a0 : Int) (a1 : Int) : Option (Bool) := (impl_in.f a0 (-2) 2).bind fun t144 => (if t144 = true then ((impl_in.f a1 (-2) 2).bind fun t145 => (some t145)) else (some false))
theorem impl_isShift.calls (a0 : Int) (a1 : Int) (r : Bool) (w : World) (h : impl_isShift.f a0 a1 = some r) :
  Calls Try.prog 67 #[.int .i64 a0, .int .i64 a1] w fun e w' => e = .returned (.bool r) ∧ Drawn0 w w' := by
 have H : ((impl_in.f a0 (-2) 2).bind fun Ab => (if Ab = true then ((impl_in.f a1 (-2) 2).bind fun Aa => (some Aa)) else (some false))) = some r := h; clear h; replace H := Option.bind_eq_some_iff.mp H; obtain ⟨Ab, Ac, H⟩ := H; replace H : (if Ab = true then ((impl_in.f a1 (-2) 2).bind fun Aa => (some Aa)) else (some false)) = some r := H; have A3 := Aside0.mk Ac; clear Ac
 by_cases c4 : Ab = true
 ·subst c4
  have H1 : ((impl_in.f a1 (-2) 2).bind fun Aa => (some Aa)) = some r := by rw [if_pos rfl] at H; exact H
  clear H; have H := H1; clear H1; replace H := Option.bind_eq_some_iff.mp H; obtain ⟨Aa, Ad, H⟩ := H; replace H : (some Aa) = some r := H; have A5 := Aside0.mk Ad; clear Ad; obtain rfl := Option.some.inj H
  go_enter Try.func67, Try.ntmps67
  go_wp2_with (first | ((with_reducible refine gate_callee (f := 73) rfl ?_); refine glE (some 6) Try.func73 #[.int .i64 a0, .int .i64 (-2), .int .i64 2] ?_; (with_reducible refine (impl_in.calls a0 (-2) 2 true _ A3.out).mono ?_); rintro e w' ⟨rfl, ⟨nd, rfl⟩⟩; refine ⟨_, rfl, ?_⟩) | (go_at_call 73; (with_reducible refine (impl_in.calls a1 (-2) 2 Aa _ A5.out).mono ?_); rintro e w' ⟨rfl, ⟨nd, rfl⟩⟩))
  go_ret
  exact ⟨Z18, Z60⟩
 ·replace c4 := Bool.eq_false_iff.mpr c4
  subst c4
  have H1 : (some false) = some r := by rw [if_neg (show ¬ (false = true) by decide)] at H; exact H
  clear H; have H := H1; clear H1; obtain rfl := Option.some.inj H
  go_enter Try.func67, Try.ntmps67
  go_wp2_with (first | ((with_reducible refine gate_callee (f := 73) rfl ?_); refine glE (some 6) Try.func73 #[.int .i64 a0, .int .i64 (-2), .int .i64 2] ?_; (with_reducible refine (impl_in.calls a0 (-2) 2 false _ A3.out).mono ?_); rintro e w' ⟨rfl, ⟨nd, rfl⟩⟩; refine ⟨_, rfl, ?_⟩))
  go_ret
  exact ⟨Z18, Z60⟩
def impl_arePhotos.f (a0_0 : Int) (a0_1 : Int) (l0_2 : List Int) (a1_0 : Int) (a1_1 : Int) (l1_2 : List Int) (a2 : Int) (a3 : Int) : Option (Bool) := (impl_IsChart.f a0_0 a0_1 l0_2).bind fun t148 => (if t148 = true then ((impl_IsChart.f a1_0 a1_1 l1_2).bind fun t149 => (if t149 = true then ((impl_isShift.f a2 a3).bind fun t150 => (some t150)) else (some false))) else (some false))
theorem impl_arePhotos.calls (Ai : Int) (Aj : Int) (An : Option Addr) (Ao : Nat) (Ag : List Int) (Al : Int) (Am : Int) (Aq : Option Addr) (Ar : Nat) (Ah : List Int) (a2 : Int) (a3 : Int) (r : Bool) (w : World) (Ax : Kd.C (Kd.int .i64) w An Ag.length Ag) (Ay : Ag.length ≤ Ao) (Az : Kd.C (Kd.int .i64) w Aq Ah.length Ah) (Ba : Ah.length ≤ Ar) (h : impl_arePhotos.f Ai Aj Ag Al Am Ah a2 a3 = some r) :
  Calls Try.prog 55 #[.agg #[.int .i64 Ai, .int .i64 Aj, .slice An Ag.length Ao], .agg #[.int .i64 Al, .int .i64 Am, .slice Aq Ah.length Ar], .int .i64 a2, .int .i64 a3] w fun e w' => e = .returned (.bool r) ∧ Below w.heap.size w w' := by
 have hu28 := Try.underlying28; have Au := Aside0.mk Ax; have Av := Aside0.mk Ay; clear Ax Ay; have Bb := Aside0.mk Az; have Bc := Aside0.mk Ba; clear Az Ba; have HB := aM (Below.refl w.heap.size w); have H : ((impl_IsChart.f Ai Aj Ag).bind fun Aw => (if Aw = true then ((impl_IsChart.f Al Am Ah).bind fun Ap => (if Ap = true then ((impl_isShift.f a2 a3).bind fun Ak => (some Ak)) else (some false))) else (some false))) = some r := h; clear h; replace H := Option.bind_eq_some_iff.mp H; obtain ⟨Aw, Ch, H⟩ := H; replace H : (if Aw = true then ((impl_IsChart.f Al Am Ah).bind fun Ap => (if Ap = true then ((impl_isShift.f a2 a3).bind fun Ak => (some Ak)) else (some false))) else (some false)) = some r := H; have A5 := Aside0.mk Ch; clear Ch
 by_cases c6 : Aw = true
 ·subst c6
  have H1 : ((impl_IsChart.f Al Am Ah).bind fun Ap => (if Ap = true then ((impl_isShift.f a2 a3).bind fun Ak => (some Ak)) else (some false))) = some r := by rw [if_pos rfl] at H; exact H
  clear H; have H := H1; clear H1; replace H := Option.bind_eq_some_iff.mp H; obtain ⟨Ap, Ci, H⟩ := H; replace H : (if Ap = true then ((impl_isShift.f a2 a3).bind fun Ak => (some Ak)) else (some false)) = some r := H; have A7 := Aside0.mk Ci; clear Ci
  by_cases c8 : Ap = true
  ·subst c8
   have H1 : ((impl_isShift.f a2 a3).bind fun Ak => (some Ak)) = some r := by rw [if_pos rfl] at H; exact H
   clear H; have H := H1; clear H1; replace H := Option.bind_eq_some_iff.mp H; obtain ⟨Ak, Cj, H⟩ := H; replace H : (some Ak) = some r := H; have A9 := Aside0.mk Cj; clear Cj; obtain rfl := Option.some.inj H
   go_enter Try.func55, Try.ntmps55
   go_wp2_with (first | ((with_reducible refine gate_dst (N := 4) rfl ?_); refine bxE 4 #[.int .i64 Ai, .int .i64 Aj, .slice An Ag.length Ao] 28 ?_; intro Bd hg Cq hbox hb; have Aa := aM (hbox); have Bf := gwS hg Z0; have Ab := gwS hg Z0; replace HB := hbS Z0 hb; clear hb hbox hg) | ((with_reducible refine gate_dst (N := 5) rfl ?_); refine bxE 5 #[.int .i64 Al, .int .i64 Am, .slice Aq Ah.length Ar] 28 ?_; intro Bg hg Cr hbox hb; have Ac := aM (hbox); have Bh := gwS hg Z7; have Af := gwS hg Z7; replace HB := hbS Z7 hb; have Ad := nbL hg Aa; have Ae := nbG hg Aa; replace Aa := bkB Aa hb; clear hb hbox hg; have Ck := Ad.out; have Cl := Ae.out; obtain ⟨Bi, Bj, Bk⟩ := bz3 Aa; obtain ⟨Bl, Bm, Bn⟩ := fz3 Aa) | ((with_reducible refine gate_callee (f := 66) rfl ?_); refine glE (some 10) Try.func66 #[.agg #[.int .i64 Ai, .int .i64 Aj, .slice An Ag.length Ao]] ?_; (with_reducible refine (impl_IsChart.calls Ai Aj _ _ Ag true _ ?side1 ?side2 A5.out).mono ?_); (case side1 => exact Z83); (case side2 => exact Av.out); rintro e Cs ⟨rfl, hb⟩; refine ⟨_, rfl, ?_⟩; replace Aa := bkB Aa hb; replace Ac := bkB Ac hb; replace HB := hbS Z32 hb; (try clear hb); obtain ⟨Bo, Bp, Bq⟩ := bz3 Ac; obtain ⟨Br, Bs, Bt⟩ := fz3 Ac) | (go_at_call 66; (with_reducible refine (impl_IsChart.calls Al Am _ _ Ah true _ ?side1 ?side2 A7.out).mono ?_); (case side1 => exact Z44); (case side2 => exact Bc.out); rintro e Ct ⟨rfl, hb⟩; replace Aa := bkB Aa hb; replace Ac := bkB Ac hb; replace HB := hbS Z32 hb; (try clear hb)) | (go_at_call 67; (with_reducible refine (impl_isShift.calls a2 a3 Ak _ A9.out).mono ?_); rintro e w' ⟨rfl, ⟨nd, rfl⟩⟩))
   go_ret
   exact ⟨Z10, Z32⟩
  ·replace c8 := Bool.eq_false_iff.mpr c8
   subst c8
   have H1 : (some false) = some r := by rw [if_neg (show ¬ (false = true) by decide)] at H; exact H
   clear H; have H := H1; clear H1; obtain rfl := Option.some.inj H
   go_enter Try.func55, Try.ntmps55
   go_wp2_with (first | ((with_reducible refine gate_dst (N := 4) rfl ?_); refine bxE 4 #[.int .i64 Ai, .int .i64 Aj, .slice An Ag.length Ao] 28 ?_; intro Bd hg Cu hbox hb; have Aa := aM (hbox); have Bf := gwS hg Z0; have Ab := gwS hg Z0; replace HB := hbS Z0 hb; clear hb hbox hg) | ((with_reducible refine gate_dst (N := 5) rfl ?_); refine bxE 5 #[.int .i64 Al, .int .i64 Am, .slice Aq Ah.length Ar] 28 ?_; intro Bg hg Cv hbox hb; have Ac := aM (hbox); have Bh := gwS hg Z7; have Af := gwS hg Z7; replace HB := hbS Z7 hb; have Ad := nbL hg Aa; have Ae := nbG hg Aa; replace Aa := bkB Aa hb; clear hb hbox hg; have Cm := Ad.out; have Cn := Ae.out; obtain ⟨Bu, Bv, Bw⟩ := bz3 Aa; obtain ⟨Bx, Bz, B0⟩ := fz3 Aa) | ((with_reducible refine gate_callee (f := 66) rfl ?_); refine glE (some 10) Try.func66 #[.agg #[.int .i64 Ai, .int .i64 Aj, .slice An Ag.length Ao]] ?_; (with_reducible refine (impl_IsChart.calls Ai Aj _ _ Ag true _ ?side1 ?side2 A5.out).mono ?_); (case side1 => exact Z83); (case side2 => exact Av.out); rintro e Cw ⟨rfl, hb⟩; refine ⟨_, rfl, ?_⟩; replace Aa := bkB Aa hb; replace Ac := bkB Ac hb; replace HB := hbS Z32 hb; (try clear hb); obtain ⟨B2, B6, B7⟩ := bz3 Ac; obtain ⟨B8, B9, Ca⟩ := fz3 Ac) | (go_at_call 66; (with_reducible refine (impl_IsChart.calls Al Am _ _ Ah false _ ?side1 ?side2 A7.out).mono ?_); (case side1 => exact Z44); (case side2 => exact Bc.out); rintro e Cx ⟨rfl, hb⟩; replace Aa := bkB Aa hb; replace Ac := bkB Ac hb; replace HB := hbS Z32 hb; (try clear hb)))
   go_ret
   exact ⟨Z10, Z32⟩
 ·replace c6 := Bool.eq_false_iff.mpr c6
  subst c6
  have H1 : (some false) = some r := by rw [if_neg (show ¬ (false = true) by decide)] at H; exact H
  clear H; have H := H1; clear H1; obtain rfl := Option.some.inj H
  go_enter Try.func55, Try.ntmps55
  go_wp2_with (first | ((with_reducible refine gate_dst (N := 4) rfl ?_); refine bxE 4 #[.int .i64 Ai, .int .i64 Aj, .slice An Ag.length Ao] 28 ?_; intro Bd hg Cy hbox hb; have Aa := aM (hbox); have Bf := gwS hg Z0; have Ab := gwS hg Z0; replace HB := hbS Z0 hb; clear hb hbox hg) | ((with_reducible refine gate_dst (N := 5) rfl ?_); refine bxE 5 #[.int .i64 Al, .int .i64 Am, .slice Aq Ah.length Ar] 28 ?_; intro Bg hg Cz hbox hb; have Ac := aM (hbox); have Bh := gwS hg Z7; have Af := gwS hg Z7; replace HB := hbS Z7 hb; have Ad := nbL hg Aa; have Ae := nbG hg Aa; replace Aa := bkB Aa hb; clear hb hbox hg; have Co := Ad.out; have Cp := Ae.out; obtain ⟨Cb, Cc, Cd⟩ := bz3 Aa; obtain ⟨Ce, Cf, Cg⟩ := fz3 Aa) | ((with_reducible refine gate_callee (f := 66) rfl ?_); refine glE (some 10) Try.func66 #[.agg #[.int .i64 Ai, .int .i64 Aj, .slice An Ag.length Ao]] ?_; (with_reducible refine (impl_IsChart.calls Ai Aj _ _ Ag false _ ?side1 ?side2 A5.out).mono ?_); (case side1 => exact Z83); (case side2 => exact Av.out); rintro e C2 ⟨rfl, hb⟩; refine ⟨_, rfl, ?_⟩; replace Aa := bkB Aa hb; replace Ac := bkB Ac hb; replace HB := hbS Z32 hb; (try clear hb)))
  go_ret
  exact ⟨Z10, Z32⟩
def impl_Chart_at.f (a0_0 : Int) (a0_1 : Int) (l0_2 : List Int) (a1 : Int) (a2 : Int) : Option (Int) := if 0 ≤ (wrap64 ((wrap64 (a1 * a0_0)) + a2)) then (if (wrap64 ((wrap64 (a1 * a0_0)) + a2)) < (l0_2.length : Int) then (some (rd l0_2 (wrap64 ((wrap64 (a1 * a0_0)) + a2)))) else (none)) else (none)
theorem impl_Chart_at.calls (Ac : Int) (Ag : Int) (Ah : Option Addr) (Ai : Nat) (Aa : List Int) (a1 : Int) (a2 : Int) (r : Int) (w : World) (Ad : Kd.C (Kd.int .i64) w Ah Aa.length Aa) (Ae : Aa.length ≤ Ai) (h : impl_Chart_at.f Ac Ag Aa a1 a2 = some r) :
  Calls Try.prog 62 #[.agg #[.int .i64 Ac, .int .i64 Ag, .slice Ah Aa.length Ai], .int .i64 a1, .int .i64 a2] w fun e w' => e = .returned (.int .i64 r) ∧ Below w.heap.size w w' := by
 have hu28 := Try.underlying28; have Al := Aside0.mk Ad; have Av := Aside0.mk Ae; clear Ad Ae; have HB := aM (Below.refl w.heap.size w); have H : (if 0 ≤ (wrap64 ((wrap64 (a1 * Ac)) + a2)) then (if (wrap64 ((wrap64 (a1 * Ac)) + a2)) < (Aa.length : Int) then (some (rd Aa (wrap64 ((wrap64 (a1 * Ac)) + a2)))) else (none)) else (none)) = some r := h; clear h; obtain ⟨ji4, hji4⟩ : ∃ j_ : Int, (wrap64 ((wrap64 (a1 * Ac)) + a2)) = j_ := ⟨_, rfl⟩
 replace H : (if 0 ≤ (ji4) then (if (ji4) < (Aa.length : Int) then (some (rd Aa (ji4))) else (none)) else (none)) = some r := by first | (rw [hji4] at H; exact H) | (simp only [hji4] at H ⊢; exact H)
 have hji4w : (IntKind.i64.wrap ((wrap64 (a1 * Ac)) + a2)) = ji4 := (i64_w _).trans hji4
 by_cases c5 : 0 ≤ (ji4)
 ·rw [if_pos c5] at H
  have c5b0 : decide (0 ≤ (ji4)) = true := decide_eq_true c5; clear c5
  by_cases c6 : (ji4) < (Aa.length : Int)
  ·rw [if_pos c6] at H
   have c6b0 : decide ((ji4) < (Aa.length : Int)) = true := decide_eq_true c6; clear c6; obtain rfl := Option.some.inj H
   go_enter Try.func62, Try.ntmps62
   go_wp2_with (first | ((with_reducible refine gate_dst (N := 3) rfl ?_); refine bxE 3 #[.int .i64 Ac, .int .i64 Ag, .slice Ah Aa.length Ai] 28 ?_; intro Aw hg w7 hbox hb; have Af := aM (hbox); have Ax := gwS hg Z0; have Am := gwS hg Z0; replace HB := hbS Z0 hb; clear hb hbox hg; obtain ⟨An, Ao, Ap⟩ := bz3 Af; obtain ⟨Aq, Ar, Au⟩ := fz3 Af; have Aj : 0 ≤ ((ji4) : Int) := of_decide_eq_true Z37; have Ak : (ji4) < (Aa.length : Int) := of_decide_eq_true Z37; obtain ⟨ad152, e152, Ab⟩ := Kd.at_int Al.out (ji4) Aj Ak; cases e152; replace Ab := (HB.out.cell (World.block_lt_of_cell? w _ Ab)).trans Ab; replace Aj := eq_true Aj; replace Ak := eq_true Ak))
   go_ret
   exact ⟨Z155, Z75⟩
  ·rw [if_neg c6] at H
   exact absurd H (by simp)
 ·rw [if_neg c5] at H
  exact absurd H (by simp)
end Go.Proofs.Ytcjalfgnnabghaa.H
