-- by wip/pack.py of this repo
import Derived.Test.YtcjalfgnnabghaaZ09Hx0
import Derived.Test.YtcjalfgnnabghaaZ09Hx1
import Derived.Test.YtcjalfgnnabghaaZ09Hx2
import Derived.Test.YtcjalfgnnabghaaZ09WLast
import Derived.Test.YtcjalfgnnabghaaZ09WMore
import Derived.Test.YtcjalfgnnabghaaZ09WWords
import Derived.Test.YtcjalfgnnabghaaZ09Short
namespace Go.Proofs.Ytcjalfgnnabghaa.H
open Go.RowKit Go.Proofs.YtcjalfgnnabghaaW.PrintWords Go.Proofs.YtcjalfgnnabghaaW.PrintLast Go.Proofs.YtcjalfgnnabghaaW.PrintMore
attribute [local go_sem] max2_int min2_int max_two min_two max_three min_three max_four min_four
set_option maxHeartbeats 8000000
set_option maxRecDepth 100000
set_option linter.unusedVariables false
set_option linter.unusedSimpArgs false
mutual
def spec_SwappedColors.l0 : Nat → List (S79) → Int → Int → Int → List Int → Int → Int → List Int → Option ((List (S79)) × Bool)
 | 0, _, _, _, _, _, _, _, _ => none
 | k + 1, x6, x7, x226000, x226001, x226002, x227000, x227001, x227002 => if x7 < 6 then (spec_SwappedColors.l1 k x6 x7 0 x226000 x226001 x226002 x227000 x227001 x227002) else (some (x6, true))
def spec_SwappedColors.l1 : Nat → List (S79) → Int → Int → Int → Int → List Int → Int → Int → List Int → Option ((List (S79)) × Bool)
 | 0, _, _, _, _, _, _, _, _, _ => none
 | k + 1, x6, x7, x8, x226000, x226001, x226002, x227000, x227001, x227002 => if x8 < 6 then (spec_SwappedColors.l2 k x6 x7 x8 false 0 x226000 x226001 x226002 x227000 x227001 x227002) else (spec_SwappedColors.l0 k x6 (wrap64 (x7 + 1)) x226000 x226001 x226002 x227000 x227001 x227002)
def spec_SwappedColors.l2 : Nat → List (S79) → Int → Int → Bool → Int → Int → Int → List Int → Int → Int → List Int → Option ((List (S79)) × Bool)
 | 0, _, _, _, _, _, _, _, _, _, _, _ => none
 | k + 1, x6, x7, x8, x9, x10, x226000, x226001, x226002, x227000, x227001, x227002 => if x10 < (x226002.length : Int) then (if x9 = true then (spec_SwappedColors.l2 k x6 x7 x8 true (wrap64 (x10 + 1)) x226000 x226001 x226002 x227000 x227001 x227002) else (if x7 = x8 then (spec_SwappedColors.l2 k x6 x7 x8 false (wrap64 (x10 + 1)) x226000 x226001 x226002 x227000 x227001 x227002) else (if 0 ≤ x10 then (if (rd x226002 x10) = x7 then (if x10 < (x227002.length : Int) then (spec_SwappedColors.l2 k x6 x7 x8 ((rd x227002 x10) == x8) (wrap64 (x10 + 1)) x226000 x226001 x226002 x227000 x227001 x227002) else (none)) else (spec_SwappedColors.l2 k x6 x7 x8 false (wrap64 (x10 + 1)) x226000 x226001 x226002 x227000 x227001 x227002)) else (none)))) else (if x9 = true then (if x6.length < 8796093022208 then (spec_SwappedColors.l1 k (x6 ++ [(⟨x7, x8⟩ : S79)]) x7 (wrap64 (x8 + 1)) x226000 x226001 x226002 x227000 x227001 x227002) else (none)) else (spec_SwappedColors.l1 k x6 x7 (wrap64 (x8 + 1)) x226000 x226001 x226002 x227000 x227001 x227002))
end
def spec_SwappedColors.f (k : Nat) (a0_0 : Int) (a0_1 : Int) (l0_2 : List Int) (a1_0 : Int) (a1_1 : Int) (l1_2 : List Int) : Option ((List (S79)) × Bool) := (some (([] : List (S79)) : List (S79))).bind fun y227 => ((spec_l13Size.f k a0_0 a0_1 l0_2 a1_0 a1_1 l1_2).bind fun t230 => (if t230 = true then (spec_SwappedColors.l0 k y227 0 a0_0 a0_1 l0_2 a1_0 a1_1 l1_2) else (some (y227, false))))
theorem spec_SwappedColors.calls (k : Nat) (Al : Int) (Am : Int) (Av : Option Addr) (Aw : Nat) (Ad : List Int) (An : Int) (Ao : Int) (Ax : Option Addr) (Ay : Nat) (Af : List Int) (r1 : List (S79)) (r2 : Bool) (w : World) (B6 : Kd.C (Kd.int .i64) w Av Ad.length Ad) (B7 : Ad.length ≤ Aw) (B8 : Kd.C (Kd.int .i64) w Ax Af.length Af) (B9 : Af.length ≤ Ay) (h : spec_SwappedColors.f k Al Am Ad An Ao Af = some (r1, r2)) :
  Calls Try.prog 38 #[.agg #[.int .i64 Al, .int .i64 Am, .slice Av Ad.length Aw], .agg #[.int .i64 An, .int .i64 Ao, .slice Ax Af.length Ay]] w fun e w' => ∃ v0_ : Value, e = .returned (.tuple #[v0_, .bool r2]) ∧ Kd.R k79 79 w' w.heap.size (fun _ => True) v0_ r1 ∧ Below w.heap.size w w' := by
 have hu28 := Try.underlying28; have hu79 := Try.underlying79; have Bu := Aside0.mk B6; have Ca := Aside0.mk B7; clear B6 B7; have Bx := Aside0.mk B8; have Cb := Aside0.mk B9; clear B8 B9; have HB := aM (Below.refl w.heap.size w); have H : ((some (([] : List (S79)) : List (S79))).bind fun Az => ((spec_l13Size.f k Al Am Ad An Ao Af).bind fun Bw => (if Bw = true then (spec_SwappedColors.l0 k Az 0 Al Am Ad An Ao Af) else (some (Az, false))))) = some (r1, r2) := h; clear h; obtain ⟨Az, Bo⟩ : ∃ y_ : List (S79), y_ = (([] : List (S79))) := ⟨_, rfl⟩
 replace H : ((spec_l13Size.f k Al Am Ad An Ao Af).bind fun Bw => (if Bw = true then (spec_SwappedColors.l0 k Az 0 Al Am Ad An Ao Af) else (some (Az, false)))) = some (r1, r2) := by first | (rw [Bo]; with_reducible exact H) | (have H2_ := (Option.bind_some _ _).symm.trans H; rw [Bo]; with_reducible exact H2_) | (have H2_ := (Option.bind_some _ _).symm.trans H; with_reducible exact H2_) | with_reducible exact H | (rw [Bo]; exact H) | exact H
 have Bv := Aside0.mk Bo; clear Bo; replace H := Option.bind_eq_some_iff.mp H; obtain ⟨Bw, Ei, H⟩ := H; replace H : (if Bw = true then (spec_SwappedColors.l0 k Az 0 Al Am Ad An Ao Af) else (some (Az, false))) = some (r1, r2) := H; have A3 := Aside0.mk Ei; clear Ei
 by_cases c4 : Bw = true
 ·subst c4
  have H1 : (spec_SwappedColors.l0 k Az 0 Al Am Ad An Ao Af) = some (r1, r2) := by rw [if_pos rfl] at H; exact H
  clear H; have H := H1; clear H1; have H' := Aside0.mk H; clear H
  go_enter Try.func38, Try.ntmps38
  go_wp2_with (first | ((with_reducible refine gate_dst (N := 2) rfl ?_); refine bxE 2 #[.int .i64 Al, .int .i64 Am, .slice Av Ad.length Aw] 28 ?_; intro Bp hg w5 hbox hb; have Aa := aM (hbox); have Cj := gwS hg Z0; have Ae := gwS hg Z0; replace HB := hbS Z0 hb; clear hb hbox hg) | ((with_reducible refine gate_dst (N := 3) rfl ?_); refine bxE 3 #[.int .i64 An, .int .i64 Ao, .slice Ax Af.length Ay] 28 ?_; intro Bq hg w6 hbox hb; have Ac := aM (hbox); have Ck := gwS hg Z24; have Aj := gwS hg Z24; replace HB := hbS Z24 hb; have Ag := nbL hg Aa; have Ah := nbG hg Aa; replace Aa := bkB Aa hb; clear hb hbox hg) | ((with_reducible refine gate_dst (N := 11) rfl ?_); refine Kd.R_lit k79 _ 79 ?hg (N := 11) ?hd (xs := ([] : List (S79))) (inner := []) (ok := fun _ => True) (okp := fun _ => True) ?hr ?hp (fun _ hk => hk) trivial (Below.refl _ _) (Nat.le_refl _) (by simp) ?_; (case hd => rfl); (case hg => rfl); (case hr => first | (go_simp; done) | (go_simp; rfl)); (case hp => exact (Reps.none _ _)); intro Eh w7 Cl hb hg_ hnew_; clear hg_ hnew_; (first | rw [← Bv.out] at Cl | (simp only [Int.reduceToNat] at Cl; rw [← Bv.out] at Cl)); have Au := aM (Kd.R_lower Cl (below_size Z29)); replace Aa := bkB Aa hb; replace Ac := bkB Ac hb; replace HB := hbS Z29 hb; clear hb Cl; have Ez := Ag.out; have E0 := Ah.out; obtain ⟨Ba, Bb, Bc⟩ := bz3 Aa; obtain ⟨Bd, Bf, Bg⟩ := fz3 Aa; obtain ⟨Bh, Bi, Bj⟩ := bz3 Ac; obtain ⟨Bk, Bl, Bm⟩ := fz3 Ac) | ((with_reducible refine gate_callee (f := 57) rfl ?_); refine glE (some 14) Try.func57 #[.agg #[.int .i64 Al, .int .i64 Am, .slice Av Ad.length Aw], .agg #[.int .i64 An, .int .i64 Ao, .slice Ax Af.length Ay]] ?_; (with_reducible refine (spec_l13Size.calls k Al Am _ _ Ad An Ao _ _ Af true _ ?side1 ?side2 ?side3 ?side4 A3.out).mono ?_); (case side1 => exact Z151); (case side2 => exact Ca.out); (case side3 => exact Z152); (case side4 => exact Cb.out); rintro e E3 ⟨rfl, hb⟩; refine ⟨_, rfl, ?_⟩; replace Au := roB Au hb; replace Aa := bkB Aa hb; replace Ac := bkB Ac hb; replace HB := hbS Z29 hb; (try clear hb)))
  go_loopg [6, 7] k (fun kq v6 v7 w' => ∃ (B2 : List (S79)) (Ai : Int), v7 = .int .i64 Ai ∧ Aside0 (spec_SwappedColors.l0 kq B2 Ai Al Am Ad An Ao Af = some (r1, r2)) ∧ Aside0 (kq ≤ k) ∧ Aside0 (Kd.R k79 79 w' w.heap.size (fun _ => True) v6 B2) ∧ Aside0 (w'.heap[Bp]? = some (.cells #[.int .i64 Al, .int .i64 Am, (.slice Av Ad.length Aw)] 28 (0, 0))) ∧ Aside0 (w'.heap[Bq]? = some (.cells #[.int .i64 An, .int .i64 Ao, (.slice Ax Af.length Ay)] 28 (0, 0))) ∧ Aside0 (Below w.heap.size w w'))
  case atStart => exact ⟨(Az), (0), Z18, H', ⟨Nat.le_refl _⟩, ⟨Z180⟩, ⟨Z26⟩, ⟨Z36⟩, ⟨Z29⟩⟩
  case round =>
   clear H'; (try clear c1); (try clear p2); (try clear c3); (try clear c4); (try clear c5); (try clear c9); (try clear Ba); (try clear Bb); (try clear Bc); (try clear Bh); (try clear Bi); (try clear Bj); (try clear Bd); (try clear Bf); (try clear Bg); (try clear Bk); (try clear Bl); (try clear Bm); obtain ⟨B2, Ai, rfl, HA, HK1, Ar, Aa, Ac, HB⟩ := hrel; cases gk with
   | zero => exact absurd HA.out (by simp [spec_SwappedColors.l0])
   | succ k1 =>
    have H := HA.out; clear HA
    simp only [spec_SwappedColors.l0] at H
    by_cases Cc : Ai < 6
    ·rw [if_pos Cc] at H
     have c13b0 : decide (Ai < 6) = true := decide_eq_true Cc; clear Cc; have H' := Aside0.mk H; clear H
     go_wp2
     go_loopg [6, 8] k1 (fun kq v6 v8 w' => ∃ (Aq : List (S79)) (Ak : Int), v8 = .int .i64 Ak ∧ Aside0 (spec_SwappedColors.l1 kq Aq Ai Ak Al Am Ad An Ao Af = some (r1, r2)) ∧ Aside0 (kq ≤ k1) ∧ Aside0 (Kd.R k79 79 w' w.heap.size (fun _ => True) v6 Aq) ∧ Aside0 (w'.heap[Bp]? = some (.cells #[.int .i64 Al, .int .i64 Am, (.slice Av Ad.length Aw)] 28 (0, 0))) ∧ Aside0 (w'.heap[Bq]? = some (.cells #[.int .i64 An, .int .i64 Ao, (.slice Ax Af.length Ay)] 28 (0, 0))) ∧ Aside0 (Below w.heap.size w w'))
     case atStart => exact ⟨(B2), (0), Z18, H', ⟨Nat.le_refl _⟩, ⟨Z65⟩, ⟨Z26⟩, ⟨Z36⟩, ⟨Z29⟩⟩
     case round =>
      clear H'; (try clear c1); (try clear p2); (try clear c3); (try clear c4); (try clear c5); (try clear c9); (try clear Cc); (try clear c13b0); (try clear Ba); (try clear Bb); (try clear Bc); (try clear Bh); (try clear Bi); (try clear Bj); (try clear Bd); (try clear Bf); (try clear Bg); (try clear Bk); (try clear Bl); (try clear Bm); (try clear p2); obtain ⟨Aq, Ak, rfl, HA, HK2, Ar, Aa, Ac, HB⟩ := hrel; cases gk with
      | zero => exact absurd HA.out (by simp [spec_SwappedColors.l1])
      | succ k2 =>
       have H := HA.out; clear HA
       simp only [spec_SwappedColors.l1] at H
       by_cases Cd : Ak < 6
       ·rw [if_pos Cd] at H
        have c14b0 : decide (Ak < 6) = true := decide_eq_true Cd; clear Cd; have H' := Aside0.mk H; clear H
        go_wp2
        go_loopg [9, 10] k2 (fun kq v9 E1 w' => ∃ (Bz : Bool) (Ab : Int), v9 = .bool Bz ∧ E1 = .int .i64 Ab ∧ Aside0 (spec_SwappedColors.l2 kq Aq Ai Ak Bz Ab Al Am Ad An Ao Af = some (r1, r2)) ∧ Aside0 (kq ≤ k2) ∧ Aside0 (Kd.R k79 79 w' w.heap.size (fun _ => True) u6 Aq) ∧ Aside0 (w'.heap[Bp]? = some (.cells #[.int .i64 Al, .int .i64 Am, (.slice Av Ad.length Aw)] 28 (0, 0))) ∧ Aside0 (w'.heap[Bq]? = some (.cells #[.int .i64 An, .int .i64 Ao, (.slice Ax Af.length Ay)] 28 (0, 0))) ∧ Aside0 (Below w.heap.size w w'))
        case atStart => exact ⟨(false), (0), Z18, Z18, H', ⟨Nat.le_refl _⟩, ⟨Z65⟩, ⟨Z26⟩, ⟨Z36⟩, ⟨Z29⟩⟩
        case round =>
         clear H'; (try clear c1); (try clear p2); (try clear c3); (try clear c4); (try clear c5); (try clear c9); (try clear Cc); (try clear c13b0); (try clear Cd); (try clear c14b0); (try clear Ba); (try clear Bb); (try clear Bc); (try clear Bh); (try clear Bi); (try clear Bj); (try clear Bd); (try clear Bf); (try clear Bg); (try clear Bk); (try clear Bl); (try clear Bm); (try clear p2); obtain ⟨Bz, Ab, rfl, rfl, HA, HK3, Ar, Aa, Ac, HB⟩ := hrel; cases gk with
         | zero => exact absurd HA.out (by simp [spec_SwappedColors.l2])
         | succ k3 =>
          have H := HA.out; clear HA
          simp only [spec_SwappedColors.l2] at H
          by_cases Ci : Ab < (Ad.length : Int)
          ·rw [if_pos Ci] at H
           have c15b0 : decide (Ab < (Ad.length : Int)) = true := decide_eq_true Ci; clear Ci
           by_cases Cp : Bz = true
           ·subst Cp
            have H1 : (spec_SwappedColors.l2 k3 Aq Ai Ak true (wrap64 (Ab + 1)) Al Am Ad An Ao Af) = some (r1, r2) := by rw [if_pos rfl] at H; exact H
            clear H; have H := H1; clear H1; have H' := Aside0.mk H; clear H; have Ej := Ag.out; have Ek := Ah.out; obtain ⟨Cq, Cr, Cs⟩ := bz3 Aa; obtain ⟨Ct, Cu, Cv⟩ := fz3 Aa
            go_wp2
            go_roundg k3
            case measure => have := HK1.out; have := HK2.out; have := HK3.out; omega
            case rel => exact ⟨(true), (wrap64 (Ab + 1)), Z18, Z18, H', ⟨Z157⟩, ⟨Z65⟩, ⟨Z26⟩, ⟨Z36⟩, ⟨Z29⟩⟩
           ·replace Cp := Bool.eq_false_iff.mpr Cp
            subst Cp
            have H1 : (if Ai = Ak then (spec_SwappedColors.l2 k3 Aq Ai Ak false (wrap64 (Ab + 1)) Al Am Ad An Ao Af) else (if 0 ≤ Ab then (if (rd Ad Ab) = Ai then (if Ab < (Af.length : Int) then (spec_SwappedColors.l2 k3 Aq Ai Ak ((rd Af Ab) == Ak) (wrap64 (Ab + 1)) Al Am Ad An Ao Af) else (none)) else (spec_SwappedColors.l2 k3 Aq Ai Ak false (wrap64 (Ab + 1)) Al Am Ad An Ao Af)) else (none))) = some (r1, r2) := by rw [if_neg (show ¬ (false = true) by decide)] at H; exact H
            clear H; have H := H1; clear H1
            by_cases Ce : Ai = Ak
            ·rw [if_pos Ce] at H
             have c19b0 : (Ai == Ak) = true := beq_iff_eq.mpr Ce; have c19b1 : (Ai != Ak) = false := bne_eq_false_iff_eq.mpr Ce; clear Ce; have H' := Aside0.mk H; clear H; have El := Ag.out; have Em := Ah.out; obtain ⟨Cw, Cx, Cy⟩ := bz3 Aa; obtain ⟨Cz, C2, C3⟩ := fz3 Aa
             go_wp2
             go_roundg k3
             case measure => have := HK1.out; have := HK2.out; have := HK3.out; omega
             case rel => exact ⟨(false), (wrap64 (Ab + 1)), Z18, Z18, H', ⟨Z157⟩, ⟨Z65⟩, ⟨Z26⟩, ⟨Z36⟩, ⟨Z29⟩⟩
            ·rw [if_neg Ce] at H
             have c19b0 : (Ai == Ak) = false := beq_eq_false_iff_ne.mpr Ce; have c19b1 : (Ai != Ak) = true := bne_iff_ne.mpr Ce
             by_cases C4 : 0 ≤ Ab
             ·rw [if_pos C4] at H
              have c22b0 : decide (0 ≤ Ab) = true := decide_eq_true C4; clear C4
              by_cases Cf : (rd Ad Ab) = Ai
              ·rw [if_pos Cf] at H
               have c23b0 : ((rd Ad Ab) == Ai) = true := beq_iff_eq.mpr Cf; have c23b1 : ((rd Ad Ab) != Ai) = false := bne_eq_false_iff_eq.mpr Cf; clear Cf
               by_cases C5 : Ab < (Af.length : Int)
               ·rw [if_pos C5] at H
                have c24b0 : decide (Ab < (Af.length : Int)) = true := decide_eq_true C5; clear C5; have H' := Aside0.mk H; clear H; have En := Ag.out; have Eo := Ah.out; obtain ⟨C6, C7, C8⟩ := bz3 Aa; obtain ⟨C9, Da, Db⟩ := fz3 Aa; have Bs : 0 ≤ (Ab : Int) := of_decide_eq_true Z37; have Bt : Ab < (Ad.length : Int) := of_decide_eq_true Z37; obtain ⟨ad231, e231, Ap⟩ := Kd.at_int Bu.out Ab Bs Bt; cases e231; replace Ap := (HB.out.cell (World.block_lt_of_cell? w _ Ap)).trans Ap; replace Bs := eq_true Bs; replace Bt := eq_true Bt; obtain ⟨Dc, Dd, De⟩ := bz3 Ac; obtain ⟨Df, Dg, Dh⟩ := fz3 Ac; have Cg : 0 ≤ (Ab : Int) := of_decide_eq_true Z37; have Ch : Ab < (Af.length : Int) := of_decide_eq_true Z37; obtain ⟨ad232, e232, Bn⟩ := Kd.at_int Bx.out Ab Cg Ch; cases e232; replace Bn := (HB.out.cell (World.block_lt_of_cell? w _ Bn)).trans Bn; replace Cg := eq_true Cg; replace Ch := eq_true Ch
                go_wp2
                go_roundg k3
                case measure => have := HK1.out; have := HK2.out; have := HK3.out; omega
                case rel => exact ⟨(((rd Af Ab) == Ak)), (wrap64 (Ab + 1)), Z18, Z18, H', ⟨Z157⟩, ⟨Z65⟩, ⟨Z26⟩, ⟨Z36⟩, ⟨Z29⟩⟩
               ·rw [if_neg C5] at H
                exact absurd H (by simp)
              ·rw [if_neg Cf] at H
               have c23b0 : ((rd Ad Ab) == Ai) = false := beq_eq_false_iff_ne.mpr Cf; have c23b1 : ((rd Ad Ab) != Ai) = true := bne_iff_ne.mpr Cf; have H' := Aside0.mk H; clear H; have Ep := Ag.out; have Er := Ah.out; obtain ⟨Di, Dj, Dk⟩ := bz3 Aa; obtain ⟨Dl, Dm, Dn⟩ := fz3 Aa; have Bs : 0 ≤ (Ab : Int) := of_decide_eq_true Z37; have Bt : Ab < (Ad.length : Int) := of_decide_eq_true Z37; obtain ⟨ad231, e231, Ap⟩ := Kd.at_int Bu.out Ab Bs Bt; cases e231; replace Ap := (HB.out.cell (World.block_lt_of_cell? w _ Ap)).trans Ap; replace Bs := eq_true Bs; replace Bt := eq_true Bt
               go_wp2
               go_roundg k3
               case measure => have := HK1.out; have := HK2.out; have := HK3.out; omega
               case rel => exact ⟨(false), (wrap64 (Ab + 1)), Z18, Z18, H', ⟨Z157⟩, ⟨Z65⟩, ⟨Z26⟩, ⟨Z36⟩, ⟨Z29⟩⟩
             ·rw [if_neg C4] at H
              exact absurd H (by simp)
          ·rw [if_neg Ci] at H
           have c15b0 : decide (Ab < (Ad.length : Int)) = false := decide_eq_false Ci; clear Ci
           by_cases Dp : Bz = true
           ·subst Dp
            have H1 : (if Aq.length < 8796093022208 then (spec_SwappedColors.l1 k3 (Aq ++ [(⟨Ai, Ak⟩ : S79)]) Ai (wrap64 (Ak + 1)) Al Am Ad An Ao Af) else (none)) = some (r1, r2) := by rw [if_pos rfl] at H; exact H
            clear H; have H := H1; clear H1
            by_cases Dq : Aq.length < 8796093022208
            ·rw [if_pos Dq] at H
             have LMc31 := Aside0.mk Dq; clear Dq; obtain ⟨Cm, Br⟩ : ∃ y_ : List (S79), y_ = (Aq ++ [(⟨Ai, Ak⟩ : S79)]) := ⟨_, rfl⟩
             replace H : (spec_SwappedColors.l1 k3 Cm Ai (wrap64 (Ak + 1)) Al Am Ad An Ao Af) = some (r1, r2) := by first | (rw [Br]; with_reducible exact H) | (have H2_ := (Option.bind_some _ _).symm.trans H; rw [Br]; with_reducible exact H2_) | (have H2_ := (Option.bind_some _ _).symm.trans H; with_reducible exact H2_) | with_reducible exact H | (rw [Br]; exact H) | exact H
             have Cn := Aside0.mk Br; clear Br; have H' := Aside0.mk H; clear H; have Es := Ag.out; have Et := Ah.out; obtain ⟨Dr, Ds, Dt⟩ := bz3 Aa; obtain ⟨Du, Dv, Dw⟩ := fz3 Aa
             go_wp2_with (first | ((with_reducible refine gate_builtin (b := .append) (xs := #[.tmp 57, .tmp 61]) rfl ?_); at_builtin; refine Kd.R_append k79 (w0 := w) w.heap.size rfl (.tmp 57) (.tmp 61) 47 79 (.agg #[(.int .i64 0), (.int .i64 0)]) 16 rfl Try.underlying47 info79 rfl (by decide) (by omega) u6 Aq (⟨Ai, Ak⟩ : S79) [.int .i64 Ai, .int .i64 Ak] (fun _ => True) (fun _ => False) rfl rfl ?aP (fun _ hk => hk.elim) ?aF ?aO ?aB ?aS ?aL ?_; (case aP => exact k79_mkM _ _ _ (⟨Ai, Ak⟩ : S79)); (case aB => exact Z29); (case aF => exact (fun _ _ => trivial)); (case aO => exact Z65); (case aS => exact (below_size Z29)); (case aL => have := LMc31.out; omega); intro E2 E4 ho hb hg hat; rw [← Cn.out] at ho; replace Aa := aM (blk_grown (g := Bp) (o := .cells #[.int .i64 Al, .int .i64 Am, .slice Av Ad.length Aw] 28 (0, 0)) Z26 hg (Kd.R_ne Ar.out Aa.out (by decide))); replace Ac := aM (blk_grown (g := Bq) (o := .cells #[.int .i64 An, .int .i64 Ao, .slice Ax Af.length Ay] 28 (0, 0)) Z36 hg (Kd.R_ne Ar.out Ac.out (by decide))); replace HB := aM (hb); have Co := aM (ho); clear Ar; clear ho hb hg hat))
             go_roundg k3
             case measure => have := HK1.out; have := HK2.out; have := HK3.out; omega
             case rel => exact ⟨(Cm), (wrap64 (Ak + 1)), Z18, H', ⟨Z157⟩, ⟨by (with_reducible repeat (first | apply Kd.R_alloc | apply Kd.R_drewN | apply Kd.R_drew)); exact Co.out⟩, ⟨Z26⟩, ⟨Z36⟩, ⟨Z29⟩⟩
            ·rw [if_neg Dq] at H
             exact absurd H (by simp)
           ·replace Dp := Bool.eq_false_iff.mpr Dp
            subst Dp
            have H1 : (spec_SwappedColors.l1 k3 Aq Ai (wrap64 (Ak + 1)) Al Am Ad An Ao Af) = some (r1, r2) := by rw [if_neg (show ¬ (false = true) by decide)] at H; exact H
            clear H; have H := H1; clear H1; have H' := Aside0.mk H; clear H; have Eu := Ag.out; have Ew := Ah.out; obtain ⟨Dx, Dy, Dz⟩ := bz3 Aa; obtain ⟨D2, D3, D4⟩ := fz3 Aa
            go_wp2
            go_roundg k3
            case measure => have := HK1.out; have := HK2.out; have := HK3.out; omega
            case rel => exact ⟨(Aq), (wrap64 (Ak + 1)), Z18, H', ⟨Z157⟩, ⟨Z65⟩, ⟨Z26⟩, ⟨Z36⟩, ⟨Z29⟩⟩
       ·rw [if_neg Cd] at H
        have c14b0 : decide (Ak < 6) = false := decide_eq_false Cd; clear Cd; have H' := Aside0.mk H; clear H
        go_wp2
        go_roundg k2
        case measure => have := HK1.out; have := HK2.out; omega
        case rel => exact ⟨(Aq), (wrap64 (Ai + 1)), Z18, H', ⟨Z149⟩, ⟨Z65⟩, ⟨Z26⟩, ⟨Z36⟩, ⟨Z29⟩⟩
    ·rw [if_neg Cc] at H
     have c13b0 : decide (Ai < 6) = false := decide_eq_false Cc; clear Cc
     simp only [Option.some.injEq, Prod.mk.injEq] at H
     obtain ⟨rfl, rfl⟩ := H
     go_wp2
     go_ret2
     exact ⟨_, Z10, Z65, Z29⟩
 ·replace c4 := Bool.eq_false_iff.mpr c4
  subst c4
  have H1 : (some (Az, false)) = some (r1, r2) := by rw [if_neg (show ¬ (false = true) by decide)] at H; exact H
  clear H; have H := H1; clear H1
  simp only [Option.some.injEq, Prod.mk.injEq] at H
  obtain ⟨rfl, rfl⟩ := H
  go_enter Try.func38, Try.ntmps38
  go_wp2_with (first | ((with_reducible refine gate_dst (N := 2) rfl ?_); refine bxE 2 #[.int .i64 Al, .int .i64 Am, .slice Av Ad.length Aw] 28 ?_; intro Bp hg E5 hbox hb; have Aa := aM (hbox); have Cj := gwS hg Z0; have Ae := gwS hg Z0; replace HB := hbS Z0 hb; clear hb hbox hg) | ((with_reducible refine gate_dst (N := 3) rfl ?_); refine bxE 3 #[.int .i64 An, .int .i64 Ao, .slice Ax Af.length Ay] 28 ?_; intro Bq hg E6 hbox hb; have Ac := aM (hbox); have Ck := gwS hg Z24; have Aj := gwS hg Z24; replace HB := hbS Z24 hb; have Ag := nbL hg Aa; have Ah := nbG hg Aa; replace Aa := bkB Aa hb; clear hb hbox hg) | ((with_reducible refine gate_dst (N := 11) rfl ?_); refine Kd.R_lit k79 _ 79 ?hg (N := 11) ?hd (xs := ([] : List (S79))) (inner := []) (ok := fun _ => True) (okp := fun _ => True) ?hr ?hp (fun _ hk => hk) trivial (Below.refl _ _) (Nat.le_refl _) (by simp) ?_; (case hd => rfl); (case hg => rfl); (case hr => first | (go_simp; done) | (go_simp; rfl)); (case hp => exact (Reps.none _ _)); intro Eh E7 B0 hb hg_ hnew_; clear hg_ hnew_; (first | rw [← Bv.out] at B0 | (simp only [Int.reduceToNat] at B0; rw [← Bv.out] at B0)); have Au := aM (Kd.R_lower B0 (below_size Z29)); replace Aa := bkB Aa hb; replace Ac := bkB Ac hb; replace HB := hbS Z29 hb; clear hb B0; have Ex := Ag.out; have Ey := Ah.out; obtain ⟨D5, D6, D7⟩ := bz3 Aa; obtain ⟨D8, D9, Ea⟩ := fz3 Aa; obtain ⟨Eb, Ec, Ed⟩ := bz3 Ac; obtain ⟨Ee, Ef, Eg⟩ := fz3 Ac) | ((with_reducible refine gate_callee (f := 57) rfl ?_); refine glE (some 14) Try.func57 #[.agg #[.int .i64 Al, .int .i64 Am, .slice Av Ad.length Aw], .agg #[.int .i64 An, .int .i64 Ao, .slice Ax Af.length Ay]] ?_; (with_reducible refine (spec_l13Size.calls k Al Am _ _ Ad An Ao _ _ Af false _ ?side1 ?side2 ?side3 ?side4 A3.out).mono ?_); (case side1 => exact Z151); (case side2 => exact Ca.out); (case side3 => exact Z152); (case side4 => exact Cb.out); rintro e E8 ⟨rfl, hb⟩; refine ⟨_, rfl, ?_⟩; replace Au := roB Au hb; replace Aa := bkB Aa hb; replace Ac := bkB Ac hb; replace HB := hbS Z29 hb; (try clear hb)))
  go_ret2
  exact ⟨_, Z10, Z180, Z29⟩
set_option maxHeartbeats 4000000 in
set_option maxRecDepth 100000 in
theorem areAll_ch_1 (r : Bool) (g : Nat) (lb : Array Value) (b : Nat) (u0 v0 : Int) (s0 : Value) (W : World)
  (eg : ∀ args w, (callFunc g args).run Try.prog w = .ok (.enter g args) w) (hc : W.cell? ⟨b, 0, none⟩ = some (.func (.func g) #[] lb))
  (hp : ∀ W1, Below W.heap.size W W1 → Calls Try.prog g (#[.agg #[.int .i64 u0, .int .i64 v0, s0]] ++ lb) W1 fun e w' => e = .returned (.bool r) ∧ Below W1.heap.size W1 w') (hb : b < W.heap.size) :
  Calls Try.prog 106 #[.agg #[.int .i64 u0, .int .i64 v0, s0], .pointer (some ⟨b, 0, none⟩)] W fun e w' => e = .returned (.bool (!r)) ∧ Below W.heap.size W w' := by
 have hu28 := Try.underlying28; have HP := Aside0.mk hp; clear hp; have hB1 : Below W.heap.size W (W.alloc (.cells #[.int .i64 u0, .int .i64 v0, s0] 28)) := below_alloc (Below.refl _ _) _; have Aa : (W.alloc (.cells #[.int .i64 u0, .int .i64 v0, s0] 28)).cell? ⟨b, 0, none⟩ = some (.func (.func g) #[] lb) := (hB1.cell (p := ⟨b, 0, none⟩) hb).trans hc; have HB := Aside0.mk hB1; clear hB1 hc
 go_enter Try.func106, Try.ntmps106
 go_wp2_with fail
 refine (HP.out _ HB.out).mono ?_; rintro e w' ⟨rfl, hb'⟩
 go_wp2
 go_ret
 exact ⟨Z111, below_step HB.out hb'⟩
set_option maxHeartbeats 4000000 in
set_option maxRecDepth 100000 in
theorem isSameSize_1 (b : Nat) (Af Ai : Int) (Aa Ac : Int) (Ad : Option Addr) (Ae : Nat) (Ab : List Int) (bD : Bool) (W : World) (Ag : Kd.C (Kd.int .i64) W Ad Ab.length Ab) (Ah : Ab.length ≤ Ae) (hI : impl_IsChart.f Aa Ac Ab = some bD) (hz : W.cell? ⟨b, 0, none⟩ = some (.int .i64 Af) ∧ W.cell? ⟨b, 1, none⟩ = some (.int .i64 Ai)) (hb : b < W.heap.size) :
  Calls Try.prog 92 #[.agg #[.int .i64 Aa, .int .i64 Ac, .slice Ad Ab.length Ae], .pointer (some ⟨b, 0, none⟩)] W fun e w' => e = .returned (.bool (bD && (Aa == Af && Ac == Ai))) ∧ Below W.heap.size W w' := by
 have hu28 := Try.underlying28; have hB1 : Below W.heap.size W (W.alloc (.cells #[.int .i64 Aa, .int .i64 Ac, .slice Ad Ab.length Ae] 28)) := below_alloc (Below.refl _ _) _; have hk := heap_alloc_new W (.cells #[.int .i64 Aa, .int .i64 Ac, .slice Ad Ab.length Ae] 28)
 have hs : W.heap.size < (W.alloc (.cells #[.int .i64 Aa, .int .i64 Ac, .slice Ad Ab.length Ae] 28)).heap.size := by simp
 have CELLS : Aside0 (∀ W', Below (W.alloc (.cells #[.int .i64 Aa, .int .i64 Ac, .slice Ad Ab.length Ae] 28)).heap.size (W.alloc (.cells #[.int .i64 Aa, .int .i64 Ac, .slice Ad Ab.length Ae] 28)) W' → W'.cell? ⟨b, 0, none⟩ = some (.int .i64 Af) ∧ W'.cell? ⟨b, 1, none⟩ = some (.int .i64 Ai) ∧ W'.cell? ⟨W.heap.size, 0, none⟩ = some (.int .i64 Aa) ∧ W'.cell? ⟨W.heap.size, 1, none⟩ = some (.int .i64 Ac) ∧ W'.cell? ⟨W.heap.size, 2, none⟩ = some (.slice Ad Ab.length Ae)) :=
  ⟨fun W' h => ⟨(h.cell (p := ⟨b, 0, none⟩) (Nat.lt_trans hb hs)).trans ((hB1.cell (p := ⟨b, 0, none⟩) hb).trans hz.1), (h.cell (p := ⟨b, 1, none⟩) (Nat.lt_trans hb hs)).trans ((hB1.cell (p := ⟨b, 1, none⟩) hb).trans hz.2), (h.cell (p := ⟨W.heap.size, 0, none⟩) hs).trans ((blk_cell hk 0).trans rfl), (h.cell (p := ⟨W.heap.size, 1, none⟩) hs).trans ((blk_cell hk 1).trans rfl), (h.cell (p := ⟨W.heap.size, 2, none⟩) hs).trans ((blk_cell hk 2).trans rfl)⟩⟩
 have HA : Aside0 (∀ W', Below W.heap.size W W' → _) := ⟨fun W' h => impl_IsChart.calls Aa Ac Ad Ae Ab bD W' (Kd.C_below Ag h) Ah hI⟩; have HB := Aside0.mk hB1; clear hB1 hk hs hz hb Ag Ah hI; cases bD with
 | false =>
  rw [Bool.false_and]
  go_enter Try.func92, Try.ntmps92
  obtain ⟨y0, y1, z0, z1, z2⟩ := CELLS.out _ (Below.refl _ _)
  go_wp2_with fail
  refine (HA.out _ HB.out).mono ?_; rintro e w1 ⟨rfl, hb'⟩; have Aj := aM (below_step HB.out hb'); clear y0 y1 z0 z1 z2; obtain ⟨y0, y1, z0, z1, z2⟩ := CELLS.out _ hb'; clear hb'
  go_wp2
  repeat (go_quiet (fail); try go_wp2)
  go_ret
  exact ⟨Z18, Z175⟩
 | true =>
  rw [Bool.true_and]
  by_cases c1 : Aa = Af
  ·have d1 : (Aa == Af) = true := beq_iff_eq.2 c1
   have d2 : decide (Aa = Af) = true := decide_eq_true c1; rw [d1, Bool.true_and]; clear c1
   go_enter Try.func92, Try.ntmps92
   obtain ⟨y0, y1, z0, z1, z2⟩ := CELLS.out _ (Below.refl _ _)
   go_wp2_with fail
   refine (HA.out _ HB.out).mono ?_; rintro e w1 ⟨rfl, hb'⟩; have Aj := aM (below_step HB.out hb'); clear y0 y1 z0 z1 z2; obtain ⟨y0, y1, z0, z1, z2⟩ := CELLS.out _ hb'; clear hb'
   go_wp2
   repeat (go_quiet (fail); try go_wp2)
   go_ret
   exact ⟨Z18, Z175⟩
  ·have d1 : (Aa == Af) = false := beq_eq_false_iff_ne.2 c1
   have d2 : decide (Aa = Af) = false := decide_eq_false c1; rw [d1, Bool.false_and]; clear c1
   go_enter Try.func92, Try.ntmps92
   obtain ⟨y0, y1, z0, z1, z2⟩ := CELLS.out _ (Below.refl _ _)
   go_wp2_with fail
   refine (HA.out _ HB.out).mono ?_; rintro e w1 ⟨rfl, hb'⟩; have Aj := aM (below_step HB.out hb'); clear y0 y1 z0 z1 z2; obtain ⟨y0, y1, z0, z1, z2⟩ := CELLS.out _ hb'; clear hb'
   go_wp2
   repeat (go_quiet (fail); try go_wp2)
   go_ret
   exact ⟨Z18, Z175⟩
def cmp_isNaN_int.f (a0 : Int) : Option (Bool) := some (a0 != a0)
theorem cmp_isNaN_int.calls (a0 : Int) (r : Bool) (w : World) (h : cmp_isNaN_int.f a0 = some r) :
  Calls Try.prog 119 #[.int .i64 a0] w fun e w' => e = .returned (.bool r) ∧ Drawn0 w w' := by
 have H : (some (a0 != a0)) = some r := h; clear h; obtain rfl := Option.some.inj H
 go_enter Try.func119, Try.ntmps119
 go_wp2
 go_ret
 exact ⟨Z18, Z60⟩
def cmp_Compare_int.f (a0 : Int) (a1 : Int) : Option (Int) := (cmp_isNaN_int.f a0).bind fun t236 => ((cmp_isNaN_int.f a1).bind fun t237 => (if t236 = true then (if t237 = true then (some 0) else (some (-1))) else (if t237 = true then (some 1) else (if a0 < a1 then (some (-1)) else (if a0 > a1 then (some 1) else (some 0))))))
theorem cmp_Compare_int.calls (a0 : Int) (a1 : Int) (r : Int) (w : World) (h : cmp_Compare_int.f a0 a1 = some r) :
  Calls Try.prog 101 #[.int .i64 a0, .int .i64 a1] w fun e w' => e = .returned (.int .i64 r) ∧ Drawn0 w w' := by
 have H : ((cmp_isNaN_int.f a0).bind fun Ab => ((cmp_isNaN_int.f a1).bind fun Aa => (if Ab = true then (if Aa = true then (some 0) else (some (-1))) else (if Aa = true then (some 1) else (if a0 < a1 then (some (-1)) else (if a0 > a1 then (some 1) else (some 0))))))) = some r := h; clear h; replace H := Option.bind_eq_some_iff.mp H; obtain ⟨Ab, Ac, H⟩ := H; replace H : ((cmp_isNaN_int.f a1).bind fun Aa => (if Ab = true then (if Aa = true then (some 0) else (some (-1))) else (if Aa = true then (some 1) else (if a0 < a1 then (some (-1)) else (if a0 > a1 then (some 1) else (some 0)))))) = some r := H; have A3 := Aside0.mk Ac; clear Ac; replace H := Option.bind_eq_some_iff.mp H; obtain ⟨Aa, Ad, H⟩ := H; replace H : (if Ab = true then (if Aa = true then (some 0) else (some (-1))) else (if Aa = true then (some 1) else (if a0 < a1 then (some (-1)) else (if a0 > a1 then (some 1) else (some 0))))) = some r := H; have A4 := Aside0.mk Ad; clear Ad
 by_cases c5 : Ab = true
 ·subst c5
  have H1 : (if Aa = true then (some 0) else (some (-1))) = some r := by rw [if_pos rfl] at H; exact H
  clear H; have H := H1; clear H1
  by_cases c6 : Aa = true
  ·subst c6
   have H1 : (some 0) = some r := by rw [if_pos rfl] at H; exact H
   clear H; have H := H1; clear H1; obtain rfl := Option.some.inj H
   go_enter Try.func101, Try.ntmps101
   go_wp2_with (first | ((with_reducible refine gate_callee (f := 119) rfl ?_); refine glE (some 8) Try.func119 #[.int .i64 a0] ?_; (with_reducible refine (cmp_isNaN_int.calls a0 true _ A3.out).mono ?_); rintro e w' ⟨rfl, ⟨nd, rfl⟩⟩; refine ⟨_, rfl, ?_⟩) | ((with_reducible refine gate_callee (f := 119) rfl ?_); refine glE (some 10) Try.func119 #[.int .i64 a1] ?_; (with_reducible refine (cmp_isNaN_int.calls a1 true _ A4.out).mono ?_); rintro e w' ⟨rfl, ⟨nd, rfl⟩⟩; refine ⟨_, rfl, ?_⟩))
   go_ret
   exact ⟨Z18, Z60⟩
  ·replace c6 := Bool.eq_false_iff.mpr c6
   subst c6
   have H1 : (some (-1)) = some r := by rw [if_neg (show ¬ (false = true) by decide)] at H; exact H
   clear H; have H := H1; clear H1; obtain rfl := Option.some.inj H
   go_enter Try.func101, Try.ntmps101
   go_wp2_with (first | ((with_reducible refine gate_callee (f := 119) rfl ?_); refine glE (some 8) Try.func119 #[.int .i64 a0] ?_; (with_reducible refine (cmp_isNaN_int.calls a0 true _ A3.out).mono ?_); rintro e w' ⟨rfl, ⟨nd, rfl⟩⟩; refine ⟨_, rfl, ?_⟩) | ((with_reducible refine gate_callee (f := 119) rfl ?_); refine glE (some 10) Try.func119 #[.int .i64 a1] ?_; (with_reducible refine (cmp_isNaN_int.calls a1 false _ A4.out).mono ?_); rintro e w' ⟨rfl, ⟨nd, rfl⟩⟩; refine ⟨_, rfl, ?_⟩))
   go_ret
   exact ⟨Z18, Z60⟩
 ·replace c5 := Bool.eq_false_iff.mpr c5
  subst c5
  have H1 : (if Aa = true then (some 1) else (if a0 < a1 then (some (-1)) else (if a0 > a1 then (some 1) else (some 0)))) = some r := by rw [if_neg (show ¬ (false = true) by decide)] at H; exact H
  clear H; have H := H1; clear H1
  by_cases c7 : Aa = true
  ·subst c7
   have H1 : (some 1) = some r := by rw [if_pos rfl] at H; exact H
   clear H; have H := H1; clear H1; obtain rfl := Option.some.inj H
   go_enter Try.func101, Try.ntmps101
   go_wp2_with (first | ((with_reducible refine gate_callee (f := 119) rfl ?_); refine glE (some 8) Try.func119 #[.int .i64 a0] ?_; (with_reducible refine (cmp_isNaN_int.calls a0 false _ A3.out).mono ?_); rintro e w' ⟨rfl, ⟨nd, rfl⟩⟩; refine ⟨_, rfl, ?_⟩) | ((with_reducible refine gate_callee (f := 119) rfl ?_); refine glE (some 10) Try.func119 #[.int .i64 a1] ?_; (with_reducible refine (cmp_isNaN_int.calls a1 true _ A4.out).mono ?_); rintro e w' ⟨rfl, ⟨nd, rfl⟩⟩; refine ⟨_, rfl, ?_⟩))
   go_ret
   exact ⟨Z18, Z60⟩
  ·replace c7 := Bool.eq_false_iff.mpr c7
   subst c7
   have H1 : (if a0 < a1 then (some (-1)) else (if a0 > a1 then (some 1) else (some 0))) = some r := by rw [if_neg (show ¬ (false = true) by decide)] at H; exact H
   clear H; have H := H1; clear H1
   by_cases c8 : a0 < a1
   ·rw [if_pos c8] at H
    have c8b0 : decide (a0 < a1) = true := decide_eq_true c8; clear c8; obtain rfl := Option.some.inj H
    go_enter Try.func101, Try.ntmps101
    go_wp2_with (first | ((with_reducible refine gate_callee (f := 119) rfl ?_); refine glE (some 8) Try.func119 #[.int .i64 a0] ?_; (with_reducible refine (cmp_isNaN_int.calls a0 false _ A3.out).mono ?_); rintro e w' ⟨rfl, ⟨nd, rfl⟩⟩; refine ⟨_, rfl, ?_⟩) | ((with_reducible refine gate_callee (f := 119) rfl ?_); refine glE (some 10) Try.func119 #[.int .i64 a1] ?_; (with_reducible refine (cmp_isNaN_int.calls a1 false _ A4.out).mono ?_); rintro e w' ⟨rfl, ⟨nd, rfl⟩⟩; refine ⟨_, rfl, ?_⟩))
    go_ret
    exact ⟨Z18, Z60⟩
   ·rw [if_neg c8] at H
    have c8b0 : decide (a0 < a1) = false := decide_eq_false c8; clear c8
    by_cases c9 : a0 > a1
    ·rw [if_pos c9] at H
     have c9b0 : decide (a1 < a0) = true := decide_eq_true c9; clear c9; obtain rfl := Option.some.inj H
     go_enter Try.func101, Try.ntmps101
     go_wp2_with (first | ((with_reducible refine gate_callee (f := 119) rfl ?_); refine glE (some 8) Try.func119 #[.int .i64 a0] ?_; (with_reducible refine (cmp_isNaN_int.calls a0 false _ A3.out).mono ?_); rintro e w' ⟨rfl, ⟨nd, rfl⟩⟩; refine ⟨_, rfl, ?_⟩) | ((with_reducible refine gate_callee (f := 119) rfl ?_); refine glE (some 10) Try.func119 #[.int .i64 a1] ?_; (with_reducible refine (cmp_isNaN_int.calls a1 false _ A4.out).mono ?_); rintro e w' ⟨rfl, ⟨nd, rfl⟩⟩; refine ⟨_, rfl, ?_⟩))
     go_ret
     exact ⟨Z18, Z60⟩
    ·rw [if_neg c9] at H
     have c9b0 : decide (a1 < a0) = false := decide_eq_false c9; clear c9; obtain rfl := Option.some.inj H
     go_enter Try.func101, Try.ntmps101
     go_wp2_with (first | ((with_reducible refine gate_callee (f := 119) rfl ?_); refine glE (some 8) Try.func119 #[.int .i64 a0] ?_; (with_reducible refine (cmp_isNaN_int.calls a0 false _ A3.out).mono ?_); rintro e w' ⟨rfl, ⟨nd, rfl⟩⟩; refine ⟨_, rfl, ?_⟩) | ((with_reducible refine gate_callee (f := 119) rfl ?_); refine glE (some 10) Try.func119 #[.int .i64 a1] ?_; (with_reducible refine (cmp_isNaN_int.calls a1 false _ A4.out).mono ?_); rintro e w' ⟨rfl, ⟨nd, rfl⟩⟩; refine ⟨_, rfl, ?_⟩))
     go_ret
     exact ⟨Z18, Z60⟩
def slices_Compare_int_int.l0 : Nat → List Int → List Int → List Int → Int → Int → Option (Int)
 | 0, _, _, _, _, _ => none
 | k + 1, x0, x1, x9, x10, x11 => if x11 < x10 then (if 0 ≤ x11 then (if x11 < (x9.length : Int) then (if x11 ≥ (x1.length : Int) then (some 1) else (if x11 < (x1.length : Int) then ((cmp_Compare_int.f (rd x9 x11) (rd x1 x11)).bind fun t240 => (if t240 = 0 then (slices_Compare_int_int.l0 k x0 x1 x9 x10 (wrap64 (x11 + 1))) else (some t240))) else (none))) else (none)) else (none)) else (if (x0.length : Int) < (x1.length : Int) then (some (-1)) else (some 0))
def slices_Compare_int_int.f (k : Nat) (l0 : List Int) (l1 : List Int) : Option (Int) := slices_Compare_int_int.l0 k l0 l1 l0 (l0.length : Int) 0
theorem slices_Compare_int_int.calls (k : Nat) (A0 : Option Addr) (c0 : Nat) (l0 : List Int) (A1 : Option Addr) (c1 : Nat) (l1 : List Int) (r : Int) (w : World) (Ak : Kd.C (Kd.int .i64) w A0 l0.length l0) (Al : l0.length ≤ c0) (Am : Kd.C (Kd.int .i64) w A1 l1.length l1) (An : l1.length ≤ c1) (h : slices_Compare_int_int.f k l0 l1 = some r) :
  Calls Try.prog 82 #[.slice A0 l0.length c0, .slice A1 l1.length c1] w fun e w' => e = .returned (.int .i64 r) ∧ Drawn0 w w' := by
 have Aj := Aside0.mk Ak; have Ar := Aside0.mk Al; clear Ak Al; have Ao := Aside0.mk Am; have Au := Aside0.mk An; clear Am An; have H : (slices_Compare_int_int.l0 k l0 l1 l0 (l0.length : Int) 0) = some r := h; clear h; have H' := Aside0.mk H; clear H
 go_enter Try.func82, Try.ntmps82
 go_wp2
 go_loopg [11] k (fun kq Aq w' => ∃ (Aa : Int), Aq = .int .i64 Aa ∧ Aside0 (slices_Compare_int_int.l0 kq l0 l1 l0 (l0.length : Int) Aa = some r) ∧ Aside0 (kq ≤ k) ∧ Drawn0 w w')
 case atStart => exact ⟨(0), Z18, H', ⟨Nat.le_refl _⟩, Z60⟩
 case round =>
  clear H'; (try clear c1); (try clear p2); obtain ⟨Aa, rfl, HA, HK1, ⟨m1, rfl⟩⟩ := hrel; cases gk with
  | zero => exact absurd HA.out (by simp [slices_Compare_int_int.l0])
  | succ k1 =>
   have H := HA.out; clear HA
   simp only [slices_Compare_int_int.l0] at H
   by_cases c3 : Aa < (l0.length : Int)
   ·rw [if_pos c3] at H
    have c3b0 : decide (Aa < (l0.length : Int)) = true := decide_eq_true c3; clear c3
    by_cases c4 : 0 ≤ Aa
    ·rw [if_pos c4] at H
     have c4b0 : decide (0 ≤ Aa) = true := decide_eq_true c4; clear c4
     by_cases c5 : Aa < (l0.length : Int)
     ·rw [if_pos c5] at H
      have c5b0 : decide (Aa < (l0.length : Int)) = true := decide_eq_true c5; clear c5
      by_cases c6 : Aa ≥ (l1.length : Int)
      ·rw [if_pos c6] at H
       have c6b0 : decide ((l1.length : Int) ≤ Aa) = true := decide_eq_true c6; clear c6; obtain rfl := Option.some.inj H; have Ab : 0 ≤ (Aa : Int) := of_decide_eq_true Z37; have Ac : Aa < (l0.length : Int) := of_decide_eq_true Z37; obtain ⟨ad238, e238, Ag⟩ := Kd.at_int Aj.out Aa Ab Ac; cases e238; replace Ab := eq_true Ab; replace Ac := eq_true Ac
       go_wp2
       go_ret
       exact ⟨Z18, Z60⟩
      ·rw [if_neg c6] at H
       have c6b0 : decide ((l1.length : Int) ≤ Aa) = false := decide_eq_false c6; clear c6
       by_cases c7 : Aa < (l1.length : Int)
       ·rw [if_pos c7] at H
        have c7b0 : decide (Aa < (l1.length : Int)) = true := decide_eq_true c7; clear c7; replace H := Option.bind_eq_some_iff.mp H; obtain ⟨Ad, Ap, H⟩ := H; replace H : (if Ad = 0 then (slices_Compare_int_int.l0 k1 l0 l1 l0 (l0.length : Int) (wrap64 (Aa + 1))) else (some Ad)) = some r := H; have A8 := Aside0.mk Ap; clear Ap
        by_cases c9 : Ad = 0
        ·rw [if_pos c9] at H
         have c9b0 : (Ad == 0) = true := beq_iff_eq.mpr c9; have c9b1 : (Ad != 0) = false := bne_eq_false_iff_eq.mpr c9; clear c9; have H' := Aside0.mk H; clear H; have Ab : 0 ≤ (Aa : Int) := of_decide_eq_true Z37; have Ac : Aa < (l0.length : Int) := of_decide_eq_true Z37; obtain ⟨ad238, e238, Ag⟩ := Kd.at_int Aj.out Aa Ab Ac; cases e238; replace Ab := eq_true Ab; replace Ac := eq_true Ac; have Ae : 0 ≤ (Aa : Int) := of_decide_eq_true Z37; have Af : Aa < (l1.length : Int) := of_decide_eq_true Z37; obtain ⟨ad239, e239, Ah⟩ := Kd.at_int Ao.out Aa Ae Af; cases e239; replace Ae := eq_true Ae; replace Af := eq_true Af
         go_wp2_with (first | ((with_reducible refine gate_callee (f := 101) rfl ?_); refine glE (some 26) Try.func101 #[.int .i64 (rd l0 Aa), .int .i64 (rd l1 Aa)] ?_; (with_reducible refine (cmp_Compare_int.calls (rd l0 Aa) (rd l1 Aa) Ad _ A8.out).mono ?_); rintro e w' ⟨rfl, ⟨nd, rfl⟩⟩; refine ⟨_, rfl, ?_⟩))
         go_roundg k1
         case measure => have := HK1.out; omega
         case rel => exact ⟨(wrap64 (Aa + 1)), Z18, H', ⟨Z185⟩, Z60⟩
        ·rw [if_neg c9] at H
         have c9b0 : (Ad == 0) = false := beq_eq_false_iff_ne.mpr c9; have c9b1 : (Ad != 0) = true := bne_iff_ne.mpr c9; obtain rfl := Option.some.inj H; have Ab : 0 ≤ (Aa : Int) := of_decide_eq_true Z37; have Ac : Aa < (l0.length : Int) := of_decide_eq_true Z37; obtain ⟨ad238, e238, Ag⟩ := Kd.at_int Aj.out Aa Ab Ac; cases e238; replace Ab := eq_true Ab; replace Ac := eq_true Ac; have Ae : 0 ≤ (Aa : Int) := of_decide_eq_true Z37; have Af : Aa < (l1.length : Int) := of_decide_eq_true Z37; obtain ⟨ad239, e239, Ah⟩ := Kd.at_int Ao.out Aa Ae Af; cases e239; replace Ae := eq_true Ae; replace Af := eq_true Af
         go_wp2_with (first | ((with_reducible refine gate_callee (f := 101) rfl ?_); refine glE (some 26) Try.func101 #[.int .i64 (rd l0 Aa), .int .i64 (rd l1 Aa)] ?_; (with_reducible refine (cmp_Compare_int.calls (rd l0 Aa) (rd l1 Aa) Ad _ A8.out).mono ?_); rintro e w' ⟨rfl, ⟨nd, rfl⟩⟩; refine ⟨_, rfl, ?_⟩))
         go_ret
         exact ⟨Z18, Z60⟩
       ·rw [if_neg c7] at H
        exact absurd H (by simp)
     ·rw [if_neg c5] at H
      exact absurd H (by simp)
    ·rw [if_neg c4] at H
     exact absurd H (by simp)
   ·rw [if_neg c3] at H
    have c3b0 : decide (Aa < (l0.length : Int)) = false := decide_eq_false c3; clear c3
    by_cases Ai : (l0.length : Int) < (l1.length : Int)
    ·rw [if_pos Ai] at H
     have c10b0 : decide ((l0.length : Int) < (l1.length : Int)) = true := decide_eq_true Ai; have c10b1 : decide (l0.length < l1.length) = true := decide_eq_true (Int.ofNat_lt.mp Ai); clear Ai; obtain rfl := Option.some.inj H
     go_wp2
     go_ret
     exact ⟨Z18, Z60⟩
    ·rw [if_neg Ai] at H
     have c10b0 : decide ((l0.length : Int) < (l1.length : Int)) = false := decide_eq_false Ai; have c10b1 : decide (l0.length < l1.length) = false := decide_eq_false (fun h => Ai (Int.ofNat_lt.mpr h)); clear Ai; obtain rfl := Option.some.inj H
     go_wp2
     go_ret
     exact ⟨Z18, Z60⟩
end Go.Proofs.Ytcjalfgnnabghaa.H
