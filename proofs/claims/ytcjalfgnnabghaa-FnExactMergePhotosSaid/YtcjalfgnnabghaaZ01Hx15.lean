-- by wip/pack.py of this repo
import Derived.Test.YtcjalfgnnabghaaZ01Hx0
import Derived.Test.YtcjalfgnnabghaaZ01WApart
import Derived.Test.YtcjalfgnnabghaaZ01WKept
import Derived.Test.YtcjalfgnnabghaaZ01WLast
import Derived.Test.YtcjalfgnnabghaaZ01WMore
import Derived.Test.YtcjalfgnnabghaaZ01WWords
import Derived.Test.YtcjalfgnnabghaaZ01Short
namespace Go.Proofs.Ytcjalfgnnabghaa.H
open Go.RowKit Go.Proofs.YtcjalfgnnabghaaW.PrintWords Go.Proofs.YtcjalfgnnabghaaW.PrintLast Go.Proofs.YtcjalfgnnabghaaW.PrintMore
attribute [local go_sem] max2_int min2_int max_two min_two max_three min_three max_four min_four
set_option maxHeartbeats 8000000
set_option maxRecDepth 100000
set_option linter.unusedVariables false
set_option linter.unusedSimpArgs false
def laws_markIntS.l0 : Nat → List Int → Int → Int → Option (Int × List Int)
 | 0, _, _, _ => none
 | k + 1, x0, x1, x5 => if x5 < (x0.length : Int) then (if 0 ≤ x5 then (laws_markIntS.l0 k (x0.set (x5 : Int).toNat x1) (wrap64 (x1 + 1)) (wrap64 (x5 + 1))) else (none)) else (some (x1, x0))
def laws_markIntS.f (k : Nat) (l0 : List Int) (a1 : Int) : Option (Int × List Int) := laws_markIntS.l0 k l0 a1 0
theorem laws_markIntS.calls (k : Nat) (P0_ : Nat → Prop) (u9000_ : Value) (l0 : List Int) (a1 : Int) (r1 : Int) (r2 : List Int) (w0 w : World) (hB : Below w0.heap.size w0 w) (Ar : Kd.R (Kd.int .i64) 3 w w0.heap.size P0_ u9000_ l0) (h : laws_markIntS.f k l0 a1 = some (r1, r2)) :
  Calls Try.prog 27 #[u9000_, .int .i64 a1] w fun e w' => e = .returned (.int .i64 r1) ∧ Kd.R (Kd.int .i64) 3 w' w0.heap.size (fun k_ => (P0_ k_ ∨ w.heap.size ≤ k_)) u9000_ r2 ∧ Below w0.heap.size w0 w' ∧ Kept w w' (fun k_ => P0_ k_) := by
 have Au := aM (show Kd.R (Kd.int .i64) 3 w w0.heap.size (fun k_ => (P0_ k_ ∨ w.heap.size ≤ k_)) u9000_ l0 from Kd.R_mono Ar (fun k_ hk => (.inl hk))); have HK := aM (Kept.refl w (fun k_ => P0_ k_)); have A8 := Aside0.mk hB.size; have HB := Aside0.mk hB; clear hB; have H : (laws_markIntS.l0 k l0 a1 0) = some (r1, r2) := h; clear h; have H' := Aside0.mk H; clear H
 go_enter Try.func27, Try.ntmps27
 go_wp2
 go_loopg [1, 5] k (fun kq v1 v5 w' => ∃ (Ac : List Int) (Ad : Int) (Aa : Int), v1 = .int .i64 Ad ∧ v5 = .int .i64 Aa ∧ Aside0 (laws_markIntS.l0 kq Ac Ad Aa = some (r1, r2)) ∧ Aside0 (kq ≤ k) ∧ Aside0 (Kd.R (Kd.int .i64) 3 w' w0.heap.size (fun k_ => (P0_ k_ ∨ w.heap.size ≤ k_)) u9000_ Ac) ∧ Aside0 (Kept w w' (fun k_ => P0_ k_)) ∧ Aside0 (Below w0.heap.size w0 w'))
 case atStart => exact ⟨(l0), (a1), (0), Z25, Z25, H', ⟨Nat.le_refl _⟩, ⟨by (with_reducible repeat (first | apply Kd.R_alloc | apply Kd.R_drewN | apply Kd.R_drew)); exact Au.out⟩, ⟨Z66⟩, ⟨Z1⟩⟩
 case round =>
  clear H'; (try clear c2); (try clear p2); obtain ⟨Ac, Ad, Aa, rfl, rfl, HA, HK1, Ab, HK, HB⟩ := hrel; cases gk with
  | zero => exact absurd HA.out (by simp [laws_markIntS.l0])
  | succ k1 =>
   have H := HA.out; clear HA
   simp only [laws_markIntS.l0] at H
   by_cases c3 : Aa < (Ac.length : Int)
   ·rw [if_pos c3] at H
    have c3b0 : decide (Aa < (Ac.length : Int)) = true := decide_eq_true c3; clear c3
    by_cases c4 : 0 ≤ Aa
    ·rw [if_pos c4] at H
     have c4b0 : decide (0 ≤ Aa) = true := decide_eq_true c4; clear c4; obtain ⟨Ag, Ae⟩ : ∃ y_ : List Int, y_ = (Ac.set (Aa : Int).toNat Ad) := ⟨_, rfl⟩
     replace H : (laws_markIntS.l0 k1 Ag (wrap64 (Ad + 1)) (wrap64 (Aa + 1))) = some (r1, r2) := by first | (rw [Ae]; with_reducible exact H) | (have H2_ := (Option.bind_some _ _).symm.trans H; rw [Ae]; with_reducible exact H2_) | (have H2_ := (Option.bind_some _ _).symm.trans H; with_reducible exact H2_) | with_reducible exact H | (rw [Ae]; exact H) | exact H
     have Ah := Aside0.mk Ae; clear Ae; have H' := Aside0.mk H; clear H; obtain ⟨Ba, Av, Aw⟩ := Kd.R_slice Ab.out; subst Aw; have p5 : 0 ≤ (Aa : Int) := of_decide_eq_true Z31; have q5 : (Aa : Int) < ((Ac.length : Int) : Int) := of_decide_eq_true Z31; obtain ⟨Ai, Bb, Al, Am, gl5, cl5, HG5⟩ := Kd.R_form Ab.out (by omega)
     (first | cases Al | (injection Al with ea_ en_ ec_; (first | subst ea_ | (injection ea_ with ea_; subst ea_)); subst ec_; clear en_))
     have Ax := Aside0.mk Am; have Bc := Aside0.mk HG5; clear Am gl5 HG5; have An := aM (show (P0_ Ai ∨ w.heap.size ≤ Ai) from (Ab.out.1 _ rfl)); obtain ⟨Ap, Aq⟩ := Kd.R_celln 0 Ab.out (Aa : Int) p5 q5; replace p5 := eq_true p5; replace q5 := eq_true q5; have Aj := Kd.R_putg Ab.out (Aa : Int) Ad
     go_wp2_with (first | ((with_reducible refine gate_store (t := 3) (p := 15) rfl ?_); refine store_event (t := 3) (p := 15) (v := ?vo_w8) (w1 := (wr.setCell ⟨Ai, (Aa : Int).toNat, none⟩ (.int .i64 Ad))) ?hg ?ho ?hn ?hr ?_; (case ho => rfl); (case hg => rfl); (case hn => rfl); (case hr => first | (go_simp; done) | (go_simp; rfl)); intro w8 hw; have hg : wr.grownBy w8 (some Ai) := (by rw [hw]; exact Aj.2); have hp_ : Kd.R (Kd.int .i64) 3 w8 w0.heap.size (fun k_ => (P0_ k_ ∨ w.heap.size ≤ k_)) (.slice (some ⟨Ai, 0, none⟩) Ac.length Av) Ag := (by rw [hw, Ah.out]; exact Aj.1); clear Aj; replace HB := aM ((by rw [hw]; exact below_set (HB.out) Ax.out : Below w0.heap.size w0 w8)); replace HK := aM (Kept.of_grown (S := (fun k_ => P0_ k_)) hg Z66 (fun k_ e_ => (Ab.out.1 k_ e_))); replace Ab := aM (hp_); clear hg hw hp_))
     go_roundg k1
     case measure => have := HK1.out; omega
     case rel => exact ⟨(Ag), (wrap64 (Ad + 1)), (wrap64 (Aa + 1)), Z25, Z25, H', ⟨Z214⟩, ⟨Z205⟩, ⟨Z66⟩, ⟨Z1⟩⟩
    ·rw [if_neg c4] at H
     exact absurd H (by simp)
   ·rw [if_neg c3] at H
    have c3b0 : decide (Aa < (Ac.length : Int)) = false := decide_eq_false c3; clear c3
    simp only [Option.some.injEq, Prod.mk.injEq] at H
    obtain ⟨rfl, rfl⟩ := H; obtain ⟨Bd, Bf, Ay⟩ := Kd.R_slice Ab.out; subst Ay
    go_wp2
    go_ret
    exact ⟨Z12, Z205, Z1, Z66⟩
def laws_markChart.f (k : Nat) (Az : Int) (A6 : Int) (Ak : List Int) (a1 : Int) : Option (Int × List Int) := (laws_markIntS.f k Ak a1).bind fun Af => (some (Af.1, Af.2))
theorem laws_markChart.calls (k : Nat) (Ah : Int) (Ai : Int) (P0_2_ : Nat → Prop) (u9000_ : Value) (Ab : List Int) (a1 : Int) (r1 : Int) (r2 : List Int) (w0 w : World) (hB : Below w0.heap.size w0 w) (Aj : Kd.R (Kd.int .i64) 3 w w0.heap.size P0_2_ u9000_ Ab) (h : laws_markChart.f k Ah Ai Ab a1 = some (r1, r2)) :
  Calls Try.prog 20 #[.agg #[.int .i64 Ah, .int .i64 Ai, u9000_], .int .i64 a1] w fun e w' => e = .returned (.int .i64 r1) ∧ Kd.R (Kd.int .i64) 3 w' w0.heap.size (fun k_ => (P0_2_ k_ ∨ w.heap.size ≤ k_)) u9000_ r2 ∧ Below w0.heap.size w0 w' ∧ Kept w w' (fun k_ => P0_2_ k_) := by
 have hu28 := Try.underlying28; have Aa := aM (show Kd.R (Kd.int .i64) 3 w w0.heap.size (fun k_ => (P0_2_ k_ ∨ w.heap.size ≤ k_)) u9000_ Ab from Kd.R_mono Aj (fun k_ hk => (.inl hk))); have HK := aM (Kept.refl w (fun k_ => P0_2_ k_)); have A6 := Aside0.mk hB.size; have HB := Aside0.mk hB; clear hB; have H : ((laws_markIntS.f k Ab a1).bind fun Ad => (some (Ad.1, Ad.2))) = some (r1, r2) := h; clear h; replace H := Option.bind_eq_some_iff.mp H; obtain ⟨⟨Ak, Al⟩, Ax, H⟩ := H; replace H : (some (Ak, Al)) = some (r1, r2) := H; have A3 := Aside0.mk Ax; clear Ax
 simp only [Option.some.injEq, Prod.mk.injEq] at H
 obtain ⟨rfl, rfl⟩ := H; obtain ⟨Am, An, Az⟩ := Kd.R_slice Aa.out; subst Az
 go_enter Try.func20, Try.ntmps20
 go_wp2_with (first | ((with_reducible refine gate_dst (N := 2) rfl ?_); refine bxE 2 #[.int .i64 Ah, .int .i64 Ai, .slice Am Ab.length An] 28 ?_; intro Ae hg w5 hbox hb; replace Aa := roB Aa hb; have Ac := aM (hbox); have Af := aM ((by rw [hg]; exact (by first | exact HK.out.1 | exact (show Kept w _ (fun k_ => P0_2_ k_) from Z66).1) : w.heap.size ≤ Ae)); replace HK := aM (Kept.below (S := (fun k_ => P0_2_ k_)) Z66 hb); have Ag := aM ((by rw [hg]; exact (below_size Z1) : w0.heap.size ≤ Ae)); replace HB := hbS Z1 hb; clear hb hbox hg; obtain ⟨Ap, Aq, Ar⟩ := bz3 Ac; obtain ⟨Au, Av, Aw⟩ := fz3 Ac) | ((with_reducible refine gate_callee (f := 27) rfl ?_); refine glE (some 8) Try.func27 #[.slice Am Ab.length An, .int .i64 a1] ?_; (with_reducible refine (laws_markIntS.calls k (fun k_ => some k_ = (.slice Am Ab.length An : Value).ownBlock) (.slice Am Ab.length An) Ab a1 Ak Al w0 _ ?side1 ?side2 A3.out).mono ?_); (case side1 => exact Z41); (case side2 => exact Kd.R_tight rfl Aa.out); rintro e w7 ⟨rfl, Ay, hb, hkp⟩; refine ⟨_, rfl, ?_⟩; replace Ac := aM (blk_kept Z7 hkp (fun hs_ => (fun e_ => (Kd.R_ne Aa.out Ac.out (by decide)) e_) hs_)); replace HK := aM (Kept.then_ (S := (fun k_ => P0_2_ k_)) Z158 hkp (fun k_ hs_ => (fun e_ => (Aa.out.1 k_ e_.symm)) hs_)); replace Aa := aM (Kd.R_reok rfl Ay (fun k_ e_ => Aa.out.1 k_ e_)); replace HB := aM (hb); (try clear hb); (try clear hkp); (try clear Ay)))
 go_ret
 exact ⟨Z12, Z89, Z41, Z158⟩
end Go.Proofs.Ytcjalfgnnabghaa.H
