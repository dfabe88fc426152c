-- by wip/pack.py of this repo
import Derived.Test.YtffgmmfkiecheaaZ02Hx0
import Derived.Test.YtffgmmfkiecheaaZ02WLast
import Derived.Test.YtffgmmfkiecheaaZ02WMore
import Derived.Test.YtffgmmfkiecheaaZ02WRepsOne
import Derived.Test.YtffgmmfkiecheaaZ02WTab
import Derived.Test.YtffgmmfkiecheaaZ02WWords
import Derived.Test.YtffgmmfkiecheaaZ02Short
namespace Go.Proofs.Ytffgmmfkiecheaa.H
open Go.RowKit Go.Proofs.YtffgmmfkiecheaaW.PrintWords Go.Proofs.YtffgmmfkiecheaaW.PrintLast Go.Proofs.YtffgmmfkiecheaaW.PrintMore
attribute [local go_sem] max2_int min2_int max_two min_two max_three min_three max_four min_four
set_option maxHeartbeats 8000000
set_option maxRecDepth 100000
set_option linter.unusedVariables false
set_option linter.unusedSimpArgs false
def spec_l1Has.l0 : Nat → List Int → Int → Int → Option (Bool)
 | 0, _, _, _ => none
 | k + 1, x0, x1, x5 => if x5 < (x0.length : Int) then (if 0 ≤ x5 then (if (rd x0 x5) = x1 then (some true) else (spec_l1Has.l0 k x0 x1 (wrap64 (x5 + 1)))) else (none)) else (some false)
def spec_l1Has.f (k : Nat) (l0 : List Int) (a1 : Int) : Option (Bool) := spec_l1Has.l0 k l0 a1 0
theorem spec_l1Has.calls (k : Nat) (A0 : Option Addr) (c0 : Nat) (l0 : List Int) (a1 : Int) (r : Bool) (w : World) (Ae : Kd.C (Kd.int .i64) w A0 l0.length l0) (Af : l0.length ≤ c0) (h : spec_l1Has.f k l0 a1 = some r) :
  Calls Try.prog 63 #[.slice A0 l0.length c0, .int .i64 a1] w fun e w' => e = .returned (.bool r) ∧ Drawn0 w w' := by
 have Ag := Aside0.mk Ae; have Ah := Aside0.mk Af; clear Ae Af; have H : (spec_l1Has.l0 k l0 a1 0) = some r := h; clear h; have H' := Aside0.mk H; clear H
 go_enter Try.func63, Try.ntmps63
 go_wp2
 go_loopg [5] k (fun kq v5 w' => ∃ (Aa : Int), v5 = .int .i64 Aa ∧ Aside0 (spec_l1Has.l0 kq l0 a1 Aa = some r) ∧ Aside0 (kq ≤ k) ∧ Drawn0 w w')
 case atStart => exact ⟨(0), Z30, H', ⟨Nat.le_refl _⟩, Z58⟩
 case round =>
  clear H'; (try clear p2); obtain ⟨Aa, rfl, HA, HK1, ⟨m1, rfl⟩⟩ := hrel; cases gk with
  | zero => exact absurd HA.out (by simp [spec_l1Has.l0])
  | succ k1 =>
   have H := HA.out; clear HA
   simp only [spec_l1Has.l0] at H
   by_cases c3 : Aa < (l0.length : Int)
   ·rw [if_pos c3] at H
    have c3b0 : decide (Aa < (l0.length : Int)) = true := decide_eq_true c3; clear c3
    by_cases c4 : 0 ≤ Aa
    ·rw [if_pos c4] at H
     have c4b0 : decide (0 ≤ Aa) = true := decide_eq_true c4; clear c4
     by_cases c5 : (rd l0 Aa) = a1
     ·rw [if_pos c5] at H
      have c5b0 : ((rd l0 Aa) == a1) = true := beq_iff_eq.mpr c5; have c5b1 : ((rd l0 Aa) != a1) = false := bne_eq_false_iff_eq.mpr c5; clear c5; obtain rfl := Option.some.inj H; have Ab : 0 ≤ (Aa : Int) := of_decide_eq_true Z21; have Ac : Aa < (l0.length : Int) := of_decide_eq_true Z21; obtain ⟨ad123, e123, Ad⟩ := Kd.at_int Ag.out Aa Ab Ac; cases e123; replace Ab := eq_true Ab; replace Ac := eq_true Ac
      go_wp2
      go_ret
      exact ⟨Z30, Z58⟩
     ·rw [if_neg c5] at H
      have c5b0 : ((rd l0 Aa) == a1) = false := beq_eq_false_iff_ne.mpr c5; have c5b1 : ((rd l0 Aa) != a1) = true := bne_iff_ne.mpr c5; have H' := Aside0.mk H; clear H; have Ab : 0 ≤ (Aa : Int) := of_decide_eq_true Z21; have Ac : Aa < (l0.length : Int) := of_decide_eq_true Z21; obtain ⟨ad123, e123, Ad⟩ := Kd.at_int Ag.out Aa Ab Ac; cases e123; replace Ab := eq_true Ab; replace Ac := eq_true Ac
      go_wp2
      go_roundg k1
      case measure => have := HK1.out; omega
      case rel => exact ⟨(wrap64 (Aa + 1)), Z30, H', ⟨Z136⟩, Z58⟩
    ·rw [if_neg c4] at H
     exact absurd H (by simp)
   ·rw [if_neg c3] at H
    have c3b0 : decide (Aa < (l0.length : Int)) = false := decide_eq_false c3; clear c3; obtain rfl := Option.some.inj H
    go_wp2
    go_ret
    exact ⟨Z30, Z58⟩
def spec_l1Put.l0 : Nat → List Int → Int → Int → Option (List Int)
 | 0, _, _, _ => none
 | k + 1, x0, x1, x5 => if x5 < (x0.length : Int) then (if 0 ≤ x5 then (if (rd x0 x5) < x1 then (spec_l1Put.l0 k x0 x1 (wrap64 (x5 + 1))) else (if (rd x0 x5) = x1 then (none) else ((some (([] : List Int) : List Int)).bind fun y126 => (if x5 ≤ (x0.length : Int) then (if y126.length + (x0.take (x5 : Int).toNat).length < 17592186044416 then ((some (y126 ++ (x0.take (x5 : Int).toNat) : List Int)).bind fun y130 => ((some (([x1] : List Int) : List Int)).bind fun y133 => (if y130.length + y133.length < 17592186044416 then ((some (y130 ++ y133 : List Int)).bind fun y136 => (if y136.length + (x0.drop (x5 : Int).toNat).length < 17592186044416 then (some (y136 ++ (x0.drop (x5 : Int).toNat))) else (none))) else (none)))) else (none)) else (none))))) else (none)) else ((some (([] : List Int) : List Int)).bind fun y143 => (if 0 ≤ x5 then (if x5 ≤ (x0.length : Int) then (if y143.length + (x0.take (x5 : Int).toNat).length < 17592186044416 then ((some (y143 ++ (x0.take (x5 : Int).toNat) : List Int)).bind fun y147 => ((some (([x1] : List Int) : List Int)).bind fun y150 => (if y147.length + y150.length < 17592186044416 then ((some (y147 ++ y150 : List Int)).bind fun y153 => (if y153.length + (x0.drop (x5 : Int).toNat).length < 17592186044416 then (some (y153 ++ (x0.drop (x5 : Int).toNat))) else (none))) else (none)))) else (none)) else (none)) else (none)))
def spec_l1Put.f (k : Nat) (l0 : List Int) (a1 : Int) : Option (List Int) := spec_l1Put.l0 k l0 a1 0
def spec_l1Put.T6 : Bool × List (List Nat × List Nat) := (true, [([], []), ([], []), ([], []), ([1, 2], [1, 2]), ([0, 3], [0, 3]), ([], []), ([5], [5]), ([4, 6, 4], [4, 6]), ([], []), ([], []), ([8, 9], [8, 9]), ([7, 10, 7], [7, 10]), ([11, 11, 0, 1, 2, 3, 4, 5, 6, 7, 8, 9, 10, 11], [11])])
def spec_l1Put.B6 : List Nat := [0, 0, 0, 6, 15, 0, 32, 127, 0, 0, 768, 2047, 4095]
theorem spec_l1Put.tab6 : rtab .any (opsOf Try.f64 6) = spec_l1Put.T6 := by kernel_rfl
theorem spec_l1Put.bits6 : waitsOk spec_l1Put.T6.2 spec_l1Put.B6 = true := by kernel_rfl
theorem spec_l1Put.calls (k : Nat) (A0 : Option Addr) (c0 : Nat) (l0 : List Int) (a1 : Int) (r : List Int) (w : World) (C4 : Kd.C (Kd.int .i64) w A0 l0.length l0) (C5 : l0.length ≤ c0) (h : spec_l1Put.f k l0 a1 = some r) :
  Calls Try.prog 64 #[.slice A0 l0.length c0, .int .i64 a1] w fun e w' => ∃ v0_ : Value, e = .returned (v0_) ∧ Kd.R (Kd.int .i64) 3 w' w.heap.size (fun _ => True) v0_ r ∧ Below w.heap.size w w' := by
 have Cb := Aside0.mk C4; have Cs := Aside0.mk C5; clear C4 C5; have HB := aM (Below.refl w.heap.size w); have H : (spec_l1Put.l0 k l0 a1 0) = some r := h; clear h; have H' := Aside0.mk H; clear H
 go_enter Try.func64, Try.ntmps64
 go_wp2
 go_loopg [5] k (fun kq v5 w' => ∃ (Aa : Int), v5 = .int .i64 Aa ∧ Aside0 (spec_l1Put.l0 kq l0 a1 Aa = some r) ∧ Aside0 (kq ≤ k) ∧ Aside0 (Below w.heap.size w w'))
 case atStart => exact ⟨(0), Z30, H', ⟨Nat.le_refl _⟩, ⟨Z1⟩⟩
 case round =>
  clear H'; (try clear p2); obtain ⟨Aa, rfl, HA, HK1, HB⟩ := hrel; cases gk with
  | zero => exact absurd HA.out (by simp [spec_l1Put.l0])
  | succ k1 =>
   have H := HA.out; clear HA
   simp only [spec_l1Put.l0] at H
   by_cases c3 : Aa < (l0.length : Int)
   ·rw [if_pos c3] at H
    have c3b0 : decide (Aa < (l0.length : Int)) = true := decide_eq_true c3; clear c3
    by_cases c4 : 0 ≤ Aa
    ·rw [if_pos c4] at H
     have c4b0 : decide (0 ≤ Aa) = true := decide_eq_true c4; clear c4
     by_cases c5 : (rd l0 Aa) < a1
     ·rw [if_pos c5] at H
      have c5b0 : decide ((rd l0 Aa) < a1) = true := decide_eq_true c5; clear c5; have H' := Aside0.mk H; clear H; have Bq : 0 ≤ (Aa : Int) := of_decide_eq_true Z21; have Br : Aa < (l0.length : Int) := of_decide_eq_true Z21; obtain ⟨ad124, e124, Ad⟩ := Kd.at_int Cb.out Aa Bq Br; cases e124; replace Ad := (HB.out.cell (World.block_lt_of_cell? w _ Ad)).trans Ad; replace Bq := eq_true Bq; replace Br := eq_true Br
      go_wp2
      go_roundg k1
      case measure => have := HK1.out; omega
      case rel => exact ⟨(wrap64 (Aa + 1)), Z30, H', ⟨Z136⟩, ⟨Z1⟩⟩
     ·rw [if_neg c5] at H
      have c5b0 : decide ((rd l0 Aa) < a1) = false := decide_eq_false c5; clear c5
      by_cases c6 : (rd l0 Aa) = a1
      ·rw [if_pos c6] at H
       exact absurd H (by simp)
      ·rw [if_neg c6] at H
       have c6b0 : ((rd l0 Aa) == a1) = false := beq_eq_false_iff_ne.mpr c6; have c6b1 : ((rd l0 Aa) != a1) = true := bne_iff_ne.mpr c6; obtain ⟨Bs, Bd⟩ : ∃ y_ : List Int, y_ = (([] : List Int)) := ⟨_, rfl⟩
       replace H : (if Aa ≤ (l0.length : Int) then (if Bs.length + (l0.take (Aa : Int).toNat).length < 17592186044416 then ((some (Bs ++ (l0.take (Aa : Int).toNat) : List Int)).bind fun Aq => ((some (([a1] : List Int) : List Int)).bind fun Ak => (if Aq.length + Ak.length < 17592186044416 then ((some (Aq ++ Ak : List Int)).bind fun Am => (if Am.length + (l0.drop (Aa : Int).toNat).length < 17592186044416 then (some (Am ++ (l0.drop (Aa : Int).toNat))) else (none))) else (none)))) else (none)) else (none)) = some r := by first | (rw [Bd]; with_reducible exact H) | (have H2_ := (Option.bind_some _ _).symm.trans H; rw [Bd]; with_reducible exact H2_) | (have H2_ := (Option.bind_some _ _).symm.trans H; with_reducible exact H2_) | with_reducible exact H | (rw [Bd]; exact H) | exact H
       have Bu := Aside0.mk Bd; clear Bd; have c7b0 := eq_true (of_decide_eq_true Z21 : 0 ≤ Aa)
       by_cases c8 : Aa ≤ (l0.length : Int)
       ·rw [if_pos c8] at H
        have c8b0 := eq_true c8; have c8b1 : decide (Aa ≤ (l0.length : Int)) = true := decide_eq_true c8; clear c8
        by_cases c9 : Bs.length + (l0.take (Aa : Int).toNat).length < 17592186044416
        ·rw [if_pos c9] at H
         have LMc9 := Aside0.mk c9; clear c9; obtain ⟨Aq, Bf⟩ : ∃ y_ : List Int, y_ = (Bs ++ (l0.take (Aa : Int).toNat)) := ⟨_, rfl⟩
         replace H : ((some (([a1] : List Int) : List Int)).bind fun Ak => (if Aq.length + Ak.length < 17592186044416 then ((some (Aq ++ Ak : List Int)).bind fun Am => (if Am.length + (l0.drop (Aa : Int).toNat).length < 17592186044416 then (some (Am ++ (l0.drop (Aa : Int).toNat))) else (none))) else (none))) = some r := by first | (rw [Bf]; with_reducible exact H) | (have H2_ := (Option.bind_some _ _).symm.trans H; rw [Bf]; with_reducible exact H2_) | (have H2_ := (Option.bind_some _ _).symm.trans H; with_reducible exact H2_) | with_reducible exact H | (rw [Bf]; exact H) | exact H
         have Bz := Aside0.mk Bf; clear Bf; obtain ⟨Ak, Bg⟩ : ∃ y_ : List Int, y_ = (([a1] : List Int)) := ⟨_, rfl⟩
         replace H : (if Aq.length + Ak.length < 17592186044416 then ((some (Aq ++ Ak : List Int)).bind fun Am => (if Am.length + (l0.drop (Aa : Int).toNat).length < 17592186044416 then (some (Am ++ (l0.drop (Aa : Int).toNat))) else (none))) else (none)) = some r := by first | (rw [Bg]; with_reducible exact H) | (have H2_ := (Option.bind_some _ _).symm.trans H; rw [Bg]; with_reducible exact H2_) | (have H2_ := (Option.bind_some _ _).symm.trans H; with_reducible exact H2_) | with_reducible exact H | (rw [Bg]; exact H) | exact H
         have Ay := Aside0.mk Bg; clear Bg
         by_cases Ct : Aq.length + Ak.length < 17592186044416
         ·rw [if_pos Ct] at H
          have LMc10 := Aside0.mk Ct; clear Ct; obtain ⟨Am, Bh⟩ : ∃ y_ : List Int, y_ = (Aq ++ Ak) := ⟨_, rfl⟩
          replace H : (if Am.length + (l0.drop (Aa : Int).toNat).length < 17592186044416 then (some (Am ++ (l0.drop (Aa : Int).toNat))) else (none)) = some r := by first | (rw [Bh]; with_reducible exact H) | (have H2_ := (Option.bind_some _ _).symm.trans H; rw [Bh]; with_reducible exact H2_) | (have H2_ := (Option.bind_some _ _).symm.trans H; with_reducible exact H2_) | with_reducible exact H | (rw [Bh]; exact H) | exact H
          have Ce := Aside0.mk Bh; clear Bh; have c11b0 := eq_true (of_decide_eq_true Z21 : 0 ≤ Aa); have c12b0 := eq_true (of_decide_eq_true Z21 : Aa ≤ (l0.length : Int))
          by_cases Cu : Am.length + (l0.drop (Aa : Int).toNat).length < 17592186044416
          ·rw [if_pos Cu] at H
           have LMc13 := Aside0.mk Cu; clear Cu; obtain ⟨Cy, Bi⟩ : ∃ y_ : List Int, y_ = (Am ++ (l0.drop (Aa : Int).toNat)) := ⟨_, rfl⟩
           replace H : (some Cy) = some r := by first | (rw [Bi]; with_reducible exact H) | (have H2_ := (Option.bind_some _ _).symm.trans H; rw [Bi]; with_reducible exact H2_) | (have H2_ := (Option.bind_some _ _).symm.trans H; with_reducible exact H2_) | with_reducible exact H | (rw [Bi]; exact H) | exact H
           have Cf := Aside0.mk Bi; clear Bi; obtain rfl := Option.some.inj H; have Bq : 0 ≤ (Aa : Int) := of_decide_eq_true Z21; have Br : Aa < (l0.length : Int) := of_decide_eq_true Z21; obtain ⟨ad124, e124, Ad⟩ := Kd.at_int Cb.out Aa Bq Br; cases e124; replace Ad := (HB.out.cell (World.block_lt_of_cell? w _ Ad)).trans Ad; replace Bq := eq_true Bq; replace Br := eq_true Br; have Cc : 0 ≤ (Aa : Int) := of_decide_eq_true Z21; have Cd : Aa < (l0.length : Int) := of_decide_eq_true Z21; obtain ⟨ad125, e125, Ba⟩ := Kd.at_int Cb.out Aa Cc Cd; obtain rfl : ad124 = ad125 := (by injection e125); replace Ba := (HB.out.cell (World.block_lt_of_cell? w _ Ba)).trans Ba; replace Cc := eq_true Cc; replace Cd := eq_true Cd
           try go_wp2
           replace HB := aM (below_drew1 HB.out); obtain ⟨i015, hi015, _, hsz15, _⟩ := info_parts info3; obtain ⟨hcut15, hA15, hC15⟩ := print_take_of (P := Try.prog) (Value.int .i64) 0 26 3 .i64 Try.underlying26 hi015 hsz15 (some ad124) c0 l0 Aa (of_decide_eq_true Z21) (of_decide_eq_true Z21) Cs.out; have Ag := aM (Kd.C_of_reads (h1 := fun _ => rfl) (hA15 _ (Kd.reads_of_C Cb.out))); have C6 := Aside0.mk hC15; clear hA15 hC15 hi015 hsz15; obtain ⟨i016, hi016, _, hsz16, _⟩ := info_parts info3; obtain ⟨Di, hcut16, hA16, hC16⟩ := print_drop_of (P := Try.prog) (Value.int .i64) 0 26 3 .i64 Try.underlying26 hi016 hsz16 (some ad124) c0 l0 Aa (of_decide_eq_true Z21) (of_decide_eq_true Z21) Cs.out; have B0 := aM (Kd.C_of_reads (h1 := fun _ => rfl) (hA16 _ (Kd.reads_of_C Cb.out))); have C7 := Aside0.mk hC16; clear hA16 hC16 hi016 hsz16; refine start_ (n := 13) (S := fun w' => True) (ds := []) #[false, false, false, false, false, false, false, false, false, false, false, false, false] Z26 rfl rfl trivial (fun hHeld => ?_); refine with_tabW spec_l1Put.tab6 spec_l1Put.bits6 (fun HT_ HW_ => ?_)
           generalize wr.drew = Dj at HB Ag B0 hHeld ⊢
           refine puR 1 34 #[false, true, false, false, false, false, false, false, false, false, false, false, false] HT_ rfl rfl ?_; refine puR 2 35 #[false, true, true, false, false, false, false, false, false, false, false, false, false] HT_ rfl rfl ?_; refine puR 3 36 #[false, true, true, true, false, false, false, false, false, false, false, false, false] HT_ rfl rfl ?_; refine puR 5 38 #[false, true, true, true, false, true, false, false, false, false, false, false, false] HT_ rfl rfl ?_; refine puR 8 41 #[false, true, true, true, false, true, false, false, true, false, false, false, false] HT_ rfl rfl ?_; refine puR 9 42 #[false, true, true, true, false, true, false, false, true, true, false, false, false] HT_ rfl rfl ?_; refine puR 10 43 #[false, true, true, true, false, true, false, false, true, true, true, false, false] HT_ rfl rfl ?_; refine join_ (σ := Value × Value × Value) 3 #[true, true, true, true, true, true, true, false, true, true, true, false, false] (fun s_ => [(33, s_.1), (37, s_.2.1), (39, s_.2.2)]) (fun s_ w' => (Kd.R (Kd.int .i64) 3 w' w.heap.size (fun k_ => some k_ ≠ (s_.2.2 : Value).ownBlock) s_.2.1 Aq) ∧ (Kd.R (Kd.int .i64) 3 w' w.heap.size (fun k_ => some k_ ≠ (s_.2.1 : Value).ownBlock) s_.2.2 Ak) ∧ (Below w.heap.size w w')) ?_ ?_
           rotate_left
           ·intro hCont
            refine two_ (i := 0) (j := 6) (Ni := some 33) (Nj := some 39) #[true, true, true, true, false, true, false, false, true, true, true, false, false] #[false, true, true, true, false, true, true, false, true, true, true, false, false] rfl rfl rfl rfl (two_of HT_.out Z26) (by decide) (by decide) (fun K hK => ?_) (fun K hK => ?_)
            ·skip
             refine Kd.R_lit_step (Kd.int .i64) _ 3 ?hg (N := 33) ?hd (xs := ([] : List Int)) (inner := []) (ok := fun _ => True) (okp := fun _ => True) ?hr ?hp (fun _ hk => hk) trivial (Below.refl _ _) (Nat.le_refl _) (by simp) ?_; (case hd => rfl); (case hg => rfl); (case hr => first | (go_simp; done) | (go_simp; rfl)); (case hp => exact (Reps.none _ _)); intro Bj Dc Au hb hg_ hnew_; clear hg_ hnew_
             (first | rw [← Bu.out] at Au | (simp only [Int.reduceToNat] at Au; rw [← Bu.out] at Au))
             have Ah := aM (Kd.R_lower Au (below_size Z1)); replace HB := hbS Z1 hb; clear hb Au; refine hK.out _ _ trivial (fun hHeld => ?_); clear hK K; refine noR 33 ?_; refine two_ (i := 4) (j := 6) (Ni := some 37) (Nj := some 39) #[true, true, true, true, true, true, false, false, true, true, true, false, false] #[true, true, true, true, false, true, true, false, true, true, true, false, false] rfl rfl rfl rfl (two_of HT_.out Z26) (by decide) (by decide) (fun K hK => ?_) (fun K hK => ?_)
             ·skip
              refine Kd.R_append_rows_step (Kd.int .i64) (w0 := w) w.heap.size (by rfl) (.tmp 33) (.tmp 36) 26 3 (.int .i64 0) 8 rfl Try.underlying26 info3 rfl (by decide) (by omega) Bj Bs (l0.take (Aa : Int).toNat) _ _ _ (fun _ => True) (fun _ => False) rfl rfl ?aO ?aR (fun _ _ h => h) (fun _ h => h.elim) ?aF ?aB ?aS ?aL ?_; (case aR => first | ((rw [← show (l0.take (Aa : Int).toNat).length = Aa.toNat from Z165]; repeat (first | exact (Kd.C_below Ag.out HB.out) | (with_reducible refine Kd.C_alloc ?_ _) | (with_reducible refine Kd.C_drewN ?_ _) | (with_reducible refine Kd.C_drew ?_))); done) | ((repeat (first | exact (Kd.C_below Ag.out HB.out) | (with_reducible refine Kd.C_alloc ?_ _) | (with_reducible refine Kd.C_drewN ?_ _) | (with_reducible refine Kd.C_drew ?_))); done) | (have h_ := Kd.C_below Ag.out HB.out; rw [show (l0.take (Aa : Int).toNat).length = Aa.toNat from Z165] at h_; repeat (first | exact h_ | (with_reducible refine Kd.C_alloc ?_ _) | (with_reducible refine Kd.C_drewN ?_ _) | (with_reducible refine Kd.C_drew ?_)))); (case aB => exact Z1); (case aF => exact (fun _ _ => trivial)); (case aO => exact Z62); (case aS => exact (below_size Z1)); (case aL => have := LMc9.out; have hlx_ := (show (l0.take (Aa : Int).toNat).length = Aa.toNat from Z165); omega); intro Bb C8 ho hb hg hat; rw [← Bz.out] at ho; replace HB := aM (hb); have Ae := aM (ho); clear Ah; clear ho hb hg hat; refine hK.out _ _ trivial (fun hHeld => ?_); clear hK K; refine noR 37 ?_; refine one_ (i := 6) (N := some 39) #[true, true, true, true, true, true, true, false, true, true, true, false, false] rfl rfl (one_of HT_.out Z26) (by decide) (fun K hK => ?_); refine Kd.R_lit_step (Kd.int .i64) _ 3 ?hg (N := 39) ?hd (xs := ([a1] : List Int)) (inner := [.int .i64 a1]) (ok := fun _ => True) (okp := fun _ => True) ?hr ?hp (fun _ hk => hk) trivial (Below.refl _ _) (Nat.le_refl _) (by simp) ?_; (case hd => rfl); (case hg => rfl); (case hr => first | (go_simp; done) | (go_simp; rfl)); (case hp => exact (Reps.one (show Kd.M (Kd.int .i64) _ _ _ a1 [.int .i64 a1] from rfl) (Reps.none _ _))); intro Aw Dk Bw hb hg_ hnew_; clear hg_ hnew_
              (first | rw [← Ay.out] at Bw | (simp only [Int.reduceToNat] at Bw; rw [← Ay.out] at Bw))
              have Ab := aM (Kd.R_lower (Kd.R_new' Bw (Kd.R_lt Z19)) (below_size Z1)); replace Ae := aM (Kd.R_elder' Z19 (Kd.R_base Bw) hb); replace HB := hbS Z1 hb; clear hb Bw; refine hK.out _ _ trivial (fun hHeld => ?_); clear hK K; refine noR 39 ?_
              exact norm_ Z92 (hCont (Bj, Bb, Aw) _ ⟨(by (with_reducible repeat (first | apply Kd.R_alloc | apply Kd.R_drewN | apply Kd.R_drew)); exact Kd.R_mono Ae.out (fun _ hk => hk.2)), Z121, Z1⟩)
             ·skip
              refine Kd.R_lit_step (Kd.int .i64) _ 3 ?hg (N := 39) ?hd (xs := ([a1] : List Int)) (inner := [.int .i64 a1]) (ok := fun _ => True) (okp := fun _ => True) ?hr ?hp (fun _ hk => hk) trivial (Below.refl _ _) (Nat.le_refl _) (by simp) ?_; (case hd => rfl); (case hg => rfl); (case hr => first | (go_simp; done) | (go_simp; rfl)); (case hp => exact (Reps.one (show Kd.M (Kd.int .i64) _ _ _ a1 [.int .i64 a1] from rfl) (Reps.none _ _))); intro Aw C8 Ao hb hg_ hnew_; clear hg_ hnew_
              (first | rw [← Ay.out] at Ao | (simp only [Int.reduceToNat] at Ao; rw [← Ay.out] at Ao))
              have Ab := aM (Kd.R_lower (Kd.R_new' Ao (Kd.R_lt Z62)) (below_size Z1)); replace Ah := aM (Kd.R_elder' Z62 (Kd.R_base Ao) hb); replace HB := hbS Z1 hb; clear hb Ao; refine hK.out _ _ trivial (fun hHeld => ?_); clear hK K; refine noR 39 ?_; refine one_ (i := 4) (N := some 37) #[true, true, true, true, true, true, true, false, true, true, true, false, false] rfl rfl (one_of HT_.out Z26) (by decide) (fun K hK => ?_); refine Kd.R_append_rows_step (Kd.int .i64) (w0 := w) w.heap.size (by rfl) (.tmp 33) (.tmp 36) 26 3 (.int .i64 0) 8 rfl Try.underlying26 info3 rfl (by decide) (by omega) Bj Bs (l0.take (Aa : Int).toNat) _ _ _ (fun k_ => nV k_ Aw) (fun _ => False) rfl rfl ?aO ?aR (fun _ _ h => h) (fun _ h => h.elim) ?aF ?aB ?aS ?aL ?_; (case aR => first | ((rw [← show (l0.take (Aa : Int).toNat).length = Aa.toNat from Z165]; repeat (first | exact (Kd.C_below Ag.out HB.out) | (with_reducible refine Kd.C_alloc ?_ _) | (with_reducible refine Kd.C_drewN ?_ _) | (with_reducible refine Kd.C_drew ?_))); done) | ((repeat (first | exact (Kd.C_below Ag.out HB.out) | (with_reducible refine Kd.C_alloc ?_ _) | (with_reducible refine Kd.C_drewN ?_ _) | (with_reducible refine Kd.C_drew ?_))); done) | (have h_ := Kd.C_below Ag.out HB.out; rw [show (l0.take (Aa : Int).toNat).length = Aa.toNat from Z165] at h_; repeat (first | exact h_ | (with_reducible refine Kd.C_alloc ?_ _) | (with_reducible refine Kd.C_drewN ?_ _) | (with_reducible refine Kd.C_drew ?_)))); (case aB => exact Z1); (case aF => exact (fun k_ hk => Kd.fresh' (Kd.R_lt Z79) k_ hk)); (case aO => exact Z103); (case aS => exact (below_size Z1)); (case aL => have := LMc9.out; have hlx_ := (show (l0.take (Aa : Int).toNat).length = Aa.toNat from Z165); omega); intro Bb Dd ho hb hg hat; rw [← Bz.out] at ho; replace Ab := aM (Kd.R_after (ok := (fun _ => True)) Z79 hg hat); replace HB := aM (hb); have Ae := aM (ho); clear Ah; clear ho hb hg hat; refine hK.out _ _ trivial (fun hHeld => ?_); clear hK K; refine noR 37 ?_
              exact norm_ Z92 (hCont (Bj, Bb, Aw) _ ⟨Z19, Z121, Z1⟩)
            ·skip
             refine Kd.R_lit_step (Kd.int .i64) _ 3 ?hg (N := 39) ?hd (xs := ([a1] : List Int)) (inner := [.int .i64 a1]) (ok := fun _ => True) (okp := fun _ => True) ?hr ?hp (fun _ hk => hk) trivial (Below.refl _ _) (Nat.le_refl _) (by simp) ?_; (case hd => rfl); (case hg => rfl); (case hr => first | (go_simp; done) | (go_simp; rfl)); (case hp => exact (Reps.one (show Kd.M (Kd.int .i64) _ _ _ a1 [.int .i64 a1] from rfl) (Reps.none _ _))); intro Aw Dc Au hb hg_ hnew_; clear hg_ hnew_
             (first | rw [← Ay.out] at Au | (simp only [Int.reduceToNat] at Au; rw [← Ay.out] at Au))
             have Ab := aM (Kd.R_lower Au (below_size Z1)); replace HB := hbS Z1 hb; clear hb Au; refine hK.out _ _ trivial (fun hHeld => ?_); clear hK K; refine noR 39 ?_; refine one_ (i := 0) (N := some 33) #[true, true, true, true, false, true, true, false, true, true, true, false, false] rfl rfl (one_of HT_.out Z26) (by decide) (fun K hK => ?_); refine Kd.R_lit_step (Kd.int .i64) _ 3 ?hg (N := 33) ?hd (xs := ([] : List Int)) (inner := []) (ok := fun _ => True) (okp := fun _ => True) ?hr ?hp (fun _ hk => hk) trivial (Below.refl _ _) (Nat.le_refl _) (by simp) ?_; (case hd => rfl); (case hg => rfl); (case hr => first | (go_simp; done) | (go_simp; rfl)); (case hp => exact (Reps.none _ _)); intro Bj C8 Ao hb hg_ hnew_; clear hg_ hnew_
             (first | rw [← Bu.out] at Ao | (simp only [Int.reduceToNat] at Ao; rw [← Bu.out] at Ao))
             have Ah := aM (Kd.R_lower (Kd.R_new' Ao (Kd.R_lt Z79)) (below_size Z1)); replace Ab := aM (Kd.R_elder' Z79 (Kd.R_base Ao) hb); replace HB := hbS Z1 hb; clear hb Ao; refine hK.out _ _ trivial (fun hHeld => ?_); clear hK K; refine noR 33 ?_; refine one_ (i := 4) (N := some 37) #[true, true, true, true, true, true, true, false, true, true, true, false, false] rfl rfl (one_of HT_.out Z26) (by decide) (fun K hK => ?_); refine Kd.R_append_rows_step (Kd.int .i64) (w0 := w) w.heap.size (by rfl) (.tmp 33) (.tmp 36) 26 3 (.int .i64 0) 8 rfl Try.underlying26 info3 rfl (by decide) (by omega) Bj Bs (l0.take (Aa : Int).toNat) _ _ _ (fun k_ => nV k_ Aw) (fun _ => False) rfl rfl ?aO ?aR (fun _ _ h => h) (fun _ h => h.elim) ?aF ?aB ?aS ?aL ?_; (case aR => first | ((rw [← show (l0.take (Aa : Int).toNat).length = Aa.toNat from Z165]; repeat (first | exact (Kd.C_below Ag.out HB.out) | (with_reducible refine Kd.C_alloc ?_ _) | (with_reducible refine Kd.C_drewN ?_ _) | (with_reducible refine Kd.C_drew ?_))); done) | ((repeat (first | exact (Kd.C_below Ag.out HB.out) | (with_reducible refine Kd.C_alloc ?_ _) | (with_reducible refine Kd.C_drewN ?_ _) | (with_reducible refine Kd.C_drew ?_))); done) | (have h_ := Kd.C_below Ag.out HB.out; rw [show (l0.take (Aa : Int).toNat).length = Aa.toNat from Z165] at h_; repeat (first | exact h_ | (with_reducible refine Kd.C_alloc ?_ _) | (with_reducible refine Kd.C_drewN ?_ _) | (with_reducible refine Kd.C_drew ?_)))); (case aB => exact Z1); (case aF => exact (fun k_ hk => Kd.fresh' (Kd.R_lt Z79) k_ hk)); (case aO => exact Z103); (case aS => exact (below_size Z1)); (case aL => have := LMc9.out; have hlx_ := (show (l0.take (Aa : Int).toNat).length = Aa.toNat from Z165); omega); intro Bb Dd ho hb hg hat; rw [← Bz.out] at ho; replace Ab := aM (Kd.R_after (ok := (fun _ => True)) Z79 hg hat); replace HB := aM (hb); have Ae := aM (ho); clear Ah; clear ho hb hg hat; refine hK.out _ _ trivial (fun hHeld => ?_); clear hK K; refine noR 37 ?_
             exact norm_ Z92 (hCont (Bj, Bb, Aw) _ ⟨Z19, Z121, Z1⟩)
           rintro ⟨Bj, Bb, Aw⟩ Cz ⟨h0_, h1_, h2_⟩; have n0_ : Aside0 (Kd.R (Kd.int .i64) 3 Cz w.heap.size (fun k_ => nV k_ Aw) Bb Aq) := ⟨h0_⟩; have n1_ : Aside0 (Kd.R (Kd.int .i64) 3 Cz w.heap.size (fun k_ => nV k_ Bb) Aw Ak) := ⟨h1_⟩; have n2_ : Aside0 (Below w.heap.size w Cz) := ⟨h2_⟩; clear HB; clear h0_ h1_ h2_; have Ae := n0_; have Ab := n1_; have HB := n2_; clear n0_ n1_ n2_; have hHeld := trivial; obtain ⟨Cg, Ch, Ci⟩ := Kd.R_slice Ab.out
           (first | subst Ci | (injection Ci with f1_ f2_ f3_; have f4_ := f1_.symm; have f5_ := f3_.symm; clear f1_ f2_ f3_; subst f4_; subst f5_))
           refine norm_ (a' := ?_) ?_ ?_
           rotate_left
           ·simp only [putAll, Act.put, List.setIfInBounds_toArray, List.set_cons_zero, List.set_cons_succ]
            rfl
           refine one_ (i := 7) (N := some 40) #[true, true, true, true, true, true, true, true, true, true, true, false, false] rfl rfl (one_of HT_.out Z26) (by decide) (fun K hK => ?_); refine Kd.R_append_rows_step (Kd.int .i64) (w0 := w) w.heap.size (by rfl) (.tmp 37) (.tmp 39) 26 3 (.int .i64 0) 8 rfl Try.underlying26 info3 rfl (by decide) (by omega) Bb Aq Ak _ _ _ (fun k_ => nS k_ Cg Ak.length Ch) (fun _ => False) rfl rfl ?aO ?aR (fun _ _ h => h) (fun _ h => h.elim) ?aF ?aB ?aS ?aL ?_; (case aR => repeat (first | exact (Kd.R_reads' Ab.out).2.2 | (with_reducible refine Kd.C_alloc ?_ _) | (with_reducible refine Kd.C_drewN ?_ _) | (with_reducible refine Kd.C_drew ?_))); (case aB => exact Z1); (case aF => exact (fun k_ hk => Kd.fresh' (Kd.R_lt Z79) k_ hk)); (case aO => exact Z19); (case aS => exact (below_size Z1)); (case aL => have := LMc10.out; omega); intro C0 Dl ho hb hg hat; rw [← Ce.out] at ho; replace Ab := aM (Kd.R_after (ok := (fun _ => True)) (by (with_reducible repeat (first | apply Kd.R_alloc | apply Kd.R_drewN | apply Kd.R_drew)); exact Kd.R_mono Ab.out (fun _ hk => ⟨trivial, hk⟩)) hg hat); replace HB := aM (hb); have B9 := aM (ho); clear Ae; clear ho hb hg hat; refine hK.out _ _ trivial (fun hHeld => ?_); clear hK K; refine noR 40 ?_; refine one_ (i := 11) (N := some 44) #[true, true, true, true, true, true, true, true, true, true, true, true, false] rfl rfl (one_of HT_.out Z26) (by decide) (fun K hK => ?_); refine Kd.R_append_rows_step (Kd.int .i64) (w0 := w) w.heap.size (by rfl) (.tmp 40) (.tmp 43) 26 3 (.int .i64 0) 8 rfl Try.underlying26 info3 rfl (by decide) (by omega) C0 Am (l0.drop (Aa : Int).toNat) _ _ _ (fun k_ => nS k_ Cg Ak.length Ch) (fun _ => False) rfl rfl ?aO ?aR (fun _ _ h => h) (fun _ h => h.elim) ?aF ?aB ?aS ?aL ?_; (case aR => first | (rw [← show (l0.drop (Aa : Int).toNat).length = (l0.length - Aa.toNat) from List.length_drop]; repeat (first | exact (Kd.C_below B0.out HB.out) | (with_reducible refine Kd.C_alloc ?_ _) | (with_reducible refine Kd.C_drewN ?_ _) | (with_reducible refine Kd.C_drew ?_))) | (repeat (first | exact (Kd.C_below B0.out HB.out) | (with_reducible refine Kd.C_alloc ?_ _) | (with_reducible refine Kd.C_drewN ?_ _) | (with_reducible refine Kd.C_drew ?_)))); (case aB => exact Z1); (case aF => exact (fun k_ hk => Kd.fresh' (Kd.R_lt Z79) k_ hk)); (case aO => exact (by (with_reducible repeat (first | apply Kd.R_alloc | apply Kd.R_drewN | apply Kd.R_drew)); exact B9.out)); (case aS => exact (below_size Z1)); (case aL => have := LMc13.out; have hlx_ := (show (l0.drop (Aa : Int).toNat).length = (l0.length - Aa.toNat) from List.length_drop); omega); intro De Dm ho hb hg hat; rw [← Cf.out] at ho; replace Ab := aM (Kd.R_after (ok := (fun _ => True)) Z79 hg hat); replace HB := aM (hb); have Cj := aM (ho); clear B9; clear ho hb hg hat; refine hK.out _ _ trivial (fun hHeld => ?_); clear hK K; refine noR 44 ?_; refine puR 12 4 #[true, true, true, true, true, true, true, true, true, true, true, true, true] HT_ rfl rfl ?_; refine done_ (done_of HT_.out Z26) ?_
           try go_wp2
           go_ret
           exact ⟨_, Z20, by (with_reducible repeat (first | apply Kd.R_alloc | apply Kd.R_drewN | apply Kd.R_drew)); exact Kd.R_mono Cj.out (fun _ hk => trivial), Z1⟩
          ·rw [if_neg Cu] at H
           exact absurd H (by simp)
         ·rw [if_neg Ct] at H
          exact absurd H (by simp)
        ·rw [if_neg c9] at H
         exact absurd H (by simp)
       ·rw [if_neg c8] at H
        exact absurd H (by simp)
    ·rw [if_neg c4] at H
     exact absurd H (by simp)
   ·rw [if_neg c3] at H
    have c3b0 : decide (Aa < (l0.length : Int)) = false := decide_eq_false c3; clear c3; obtain ⟨Bt, Bk⟩ : ∃ y_ : List Int, y_ = (([] : List Int)) := ⟨_, rfl⟩
    replace H : (if 0 ≤ Aa then (if Aa ≤ (l0.length : Int) then (if Bt.length + (l0.take (Aa : Int).toNat).length < 17592186044416 then ((some (Bt ++ (l0.take (Aa : Int).toNat) : List Int)).bind fun Ar => ((some (([a1] : List Int) : List Int)).bind fun Al => (if Ar.length + Al.length < 17592186044416 then ((some (Ar ++ Al : List Int)).bind fun An => (if An.length + (l0.drop (Aa : Int).toNat).length < 17592186044416 then (some (An ++ (l0.drop (Aa : Int).toNat))) else (none))) else (none)))) else (none)) else (none)) else (none)) = some r := by first | (rw [Bk]; with_reducible exact H) | (have H2_ := (Option.bind_some _ _).symm.trans H; rw [Bk]; with_reducible exact H2_) | (have H2_ := (Option.bind_some _ _).symm.trans H; with_reducible exact H2_) | with_reducible exact H | (rw [Bk]; exact H) | exact H
    have Bv := Aside0.mk Bk; clear Bk
    by_cases Ck : 0 ≤ Aa
    ·rw [if_pos Ck] at H
     have c26b0 := eq_true Ck; have c26b1 : decide (0 ≤ Aa) = true := decide_eq_true Ck; clear Ck
     by_cases Cl : Aa ≤ (l0.length : Int)
     ·rw [if_pos Cl] at H
      have c27b0 := eq_true Cl; have c27b1 : decide (Aa ≤ (l0.length : Int)) = true := decide_eq_true Cl; clear Cl
      by_cases Cv : Bt.length + (l0.take (Aa : Int).toNat).length < 17592186044416
      ·rw [if_pos Cv] at H
       have LMc28 := Aside0.mk Cv; clear Cv; obtain ⟨Ar, Bl⟩ : ∃ y_ : List Int, y_ = (Bt ++ (l0.take (Aa : Int).toNat)) := ⟨_, rfl⟩
       replace H : ((some (([a1] : List Int) : List Int)).bind fun Al => (if Ar.length + Al.length < 17592186044416 then ((some (Ar ++ Al : List Int)).bind fun An => (if An.length + (l0.drop (Aa : Int).toNat).length < 17592186044416 then (some (An ++ (l0.drop (Aa : Int).toNat))) else (none))) else (none))) = some r := by first | (rw [Bl]; with_reducible exact H) | (have H2_ := (Option.bind_some _ _).symm.trans H; rw [Bl]; with_reducible exact H2_) | (have H2_ := (Option.bind_some _ _).symm.trans H; with_reducible exact H2_) | with_reducible exact H | (rw [Bl]; exact H) | exact H
       have B5 := Aside0.mk Bl; clear Bl; obtain ⟨Al, Bm⟩ : ∃ y_ : List Int, y_ = (([a1] : List Int)) := ⟨_, rfl⟩
       replace H : (if Ar.length + Al.length < 17592186044416 then ((some (Ar ++ Al : List Int)).bind fun An => (if An.length + (l0.drop (Aa : Int).toNat).length < 17592186044416 then (some (An ++ (l0.drop (Aa : Int).toNat))) else (none))) else (none)) = some r := by first | (rw [Bm]; with_reducible exact H) | (have H2_ := (Option.bind_some _ _).symm.trans H; rw [Bm]; with_reducible exact H2_) | (have H2_ := (Option.bind_some _ _).symm.trans H; with_reducible exact H2_) | with_reducible exact H | (rw [Bm]; exact H) | exact H
       have Az := Aside0.mk Bm; clear Bm
       by_cases Cw : Ar.length + Al.length < 17592186044416
       ·rw [if_pos Cw] at H
        have LMc29 := Aside0.mk Cw; clear Cw; obtain ⟨An, Bn⟩ : ∃ y_ : List Int, y_ = (Ar ++ Al) := ⟨_, rfl⟩
        replace H : (if An.length + (l0.drop (Aa : Int).toNat).length < 17592186044416 then (some (An ++ (l0.drop (Aa : Int).toNat))) else (none)) = some r := by first | (rw [Bn]; with_reducible exact H) | (have H2_ := (Option.bind_some _ _).symm.trans H; rw [Bn]; with_reducible exact H2_) | (have H2_ := (Option.bind_some _ _).symm.trans H; with_reducible exact H2_) | with_reducible exact H | (rw [Bn]; exact H) | exact H
        have Cm := Aside0.mk Bn; clear Bn; have c30b0 := eq_true (of_decide_eq_true Z21 : 0 ≤ Aa); have c31b0 := eq_true (of_decide_eq_true Z21 : Aa ≤ (l0.length : Int))
        by_cases Cx : An.length + (l0.drop (Aa : Int).toNat).length < 17592186044416
        ·rw [if_pos Cx] at H
         have LMc32 := Aside0.mk Cx; clear Cx; obtain ⟨C1, Bo⟩ : ∃ y_ : List Int, y_ = (An ++ (l0.drop (Aa : Int).toNat)) := ⟨_, rfl⟩
         replace H : (some C1) = some r := by first | (rw [Bo]; with_reducible exact H) | (have H2_ := (Option.bind_some _ _).symm.trans H; rw [Bo]; with_reducible exact H2_) | (have H2_ := (Option.bind_some _ _).symm.trans H; with_reducible exact H2_) | with_reducible exact H | (rw [Bo]; exact H) | exact H
         have Cn := Aside0.mk Bo; clear Bo; obtain rfl := Option.some.inj H
         try go_wp2
         replace HB := aM (below_drew1 HB.out); obtain ⟨i034, hi034, _, hsz34, _⟩ := info_parts info3; obtain ⟨hcut34, hA34, hC34⟩ := print_take_of (P := Try.prog) (Value.int .i64) 0 26 3 .i64 Try.underlying26 hi034 hsz34 A0 c0 l0 Aa (of_decide_eq_true Z21) (of_decide_eq_true Z21) Cs.out; have Ai := aM (Kd.C_of_reads (h1 := fun _ => rfl) (hA34 _ (Kd.reads_of_C Cb.out))); have C9 := Aside0.mk hC34; clear hA34 hC34 hi034 hsz34; obtain ⟨i035, hi035, _, hsz35, _⟩ := info_parts info3; obtain ⟨Dn, hcut35, hA35, hC35⟩ := print_drop_of (P := Try.prog) (Value.int .i64) 0 26 3 .i64 Try.underlying26 hi035 hsz35 A0 c0 l0 Aa (of_decide_eq_true Z21) (of_decide_eq_true Z21) Cs.out; have B7 := aM (Kd.C_of_reads (h1 := fun _ => rfl) (hA35 _ (Kd.reads_of_C Cb.out))); have Da := Aside0.mk hC35; clear hA35 hC35 hi035 hsz35; refine start_ (n := 13) (S := fun w' => True) (ds := []) #[false, false, false, false, false, false, false, false, false, false, false, false, false] Z26 rfl rfl trivial (fun hHeld => ?_); refine with_tabW spec_l1Put.tab6 spec_l1Put.bits6 (fun HT_ HW_ => ?_)
         generalize wr.drew = Dp at HB Ai B7 hHeld ⊢
         refine puR 1 34 #[false, true, false, false, false, false, false, false, false, false, false, false, false] HT_ rfl rfl ?_; refine puR 2 35 #[false, true, true, false, false, false, false, false, false, false, false, false, false] HT_ rfl rfl ?_; refine puR 3 36 #[false, true, true, true, false, false, false, false, false, false, false, false, false] HT_ rfl rfl ?_; refine puR 5 38 #[false, true, true, true, false, true, false, false, false, false, false, false, false] HT_ rfl rfl ?_; refine puR 8 41 #[false, true, true, true, false, true, false, false, true, false, false, false, false] HT_ rfl rfl ?_; refine puR 9 42 #[false, true, true, true, false, true, false, false, true, true, false, false, false] HT_ rfl rfl ?_; refine puR 10 43 #[false, true, true, true, false, true, false, false, true, true, true, false, false] HT_ rfl rfl ?_; refine join_ (σ := Value × Value × Value) 3 #[true, true, true, true, true, true, true, false, true, true, true, false, false] (fun s_ => [(33, s_.1), (37, s_.2.1), (39, s_.2.2)]) (fun s_ w' => (Kd.R (Kd.int .i64) 3 w' w.heap.size (fun k_ => some k_ ≠ (s_.2.2 : Value).ownBlock) s_.2.1 Ar) ∧ (Kd.R (Kd.int .i64) 3 w' w.heap.size (fun k_ => some k_ ≠ (s_.2.1 : Value).ownBlock) s_.2.2 Al) ∧ (Below w.heap.size w w')) ?_ ?_
         rotate_left
         ·intro hCont
          refine two_ (i := 0) (j := 6) (Ni := some 33) (Nj := some 39) #[true, true, true, true, false, true, false, false, true, true, true, false, false] #[false, true, true, true, false, true, true, false, true, true, true, false, false] rfl rfl rfl rfl (two_of HT_.out Z26) (by decide) (by decide) (fun K hK => ?_) (fun K hK => ?_)
          ·skip
           refine Kd.R_lit_step (Kd.int .i64) _ 3 ?hg (N := 33) ?hd (xs := ([] : List Int)) (inner := []) (ok := fun _ => True) (okp := fun _ => True) ?hr ?hp (fun _ hk => hk) trivial (Below.refl _ _) (Nat.le_refl _) (by simp) ?_; (case hd => rfl); (case hg => rfl); (case hr => first | (go_simp; done) | (go_simp; rfl)); (case hp => exact (Reps.none _ _)); intro Bp Df Av hb hg_ hnew_; clear hg_ hnew_
           (first | rw [← Bv.out] at Av | (simp only [Int.reduceToNat] at Av; rw [← Bv.out] at Av))
           have Aj := aM (Kd.R_lower Av (below_size Z1)); replace HB := hbS Z1 hb; clear hb Av; refine hK.out _ _ trivial (fun hHeld => ?_); clear hK K; refine noR 33 ?_; refine two_ (i := 4) (j := 6) (Ni := some 37) (Nj := some 39) #[true, true, true, true, true, true, false, false, true, true, true, false, false] #[true, true, true, true, false, true, true, false, true, true, true, false, false] rfl rfl rfl rfl (two_of HT_.out Z26) (by decide) (by decide) (fun K hK => ?_) (fun K hK => ?_)
           ·skip
            refine Kd.R_append_rows_step (Kd.int .i64) (w0 := w) w.heap.size (by rfl) (.tmp 33) (.tmp 36) 26 3 (.int .i64 0) 8 rfl Try.underlying26 info3 rfl (by decide) (by omega) Bp Bt (l0.take (Aa : Int).toNat) _ _ _ (fun _ => True) (fun _ => False) rfl rfl ?aO ?aR (fun _ _ h => h) (fun _ h => h.elim) ?aF ?aB ?aS ?aL ?_; (case aR => first | ((rw [← show (l0.take (Aa : Int).toNat).length = Aa.toNat from Z165]; repeat (first | exact (Kd.C_below Ai.out HB.out) | (with_reducible refine Kd.C_alloc ?_ _) | (with_reducible refine Kd.C_drewN ?_ _) | (with_reducible refine Kd.C_drew ?_))); done) | ((repeat (first | exact (Kd.C_below Ai.out HB.out) | (with_reducible refine Kd.C_alloc ?_ _) | (with_reducible refine Kd.C_drewN ?_ _) | (with_reducible refine Kd.C_drew ?_))); done) | (have h_ := Kd.C_below Ai.out HB.out; rw [show (l0.take (Aa : Int).toNat).length = Aa.toNat from Z165] at h_; repeat (first | exact h_ | (with_reducible refine Kd.C_alloc ?_ _) | (with_reducible refine Kd.C_drewN ?_ _) | (with_reducible refine Kd.C_drew ?_)))); (case aB => exact Z1); (case aF => exact (fun _ _ => trivial)); (case aO => exact Z61); (case aS => exact (below_size Z1)); (case aL => have := LMc28.out; have hlx_ := (show (l0.take (Aa : Int).toNat).length = Aa.toNat from Z165); omega); intro Bc Db ho hb hg hat; rw [← B5.out] at ho; replace HB := aM (hb); have Af := aM (ho); clear Aj; clear ho hb hg hat; refine hK.out _ _ trivial (fun hHeld => ?_); clear hK K; refine noR 37 ?_; refine one_ (i := 6) (N := some 39) #[true, true, true, true, true, true, true, false, true, true, true, false, false] rfl rfl (one_of HT_.out Z26) (by decide) (fun K hK => ?_); refine Kd.R_lit_step (Kd.int .i64) _ 3 ?hg (N := 39) ?hd (xs := ([a1] : List Int)) (inner := [.int .i64 a1]) (ok := fun _ => True) (okp := fun _ => True) ?hr ?hp (fun _ hk => hk) trivial (Below.refl _ _) (Nat.le_refl _) (by simp) ?_; (case hd => rfl); (case hg => rfl); (case hr => first | (go_simp; done) | (go_simp; rfl)); (case hp => exact (Reps.one (show Kd.M (Kd.int .i64) _ _ _ a1 [.int .i64 a1] from rfl) (Reps.none _ _))); intro Ax Dq Bx hb hg_ hnew_; clear hg_ hnew_
            (first | rw [← Az.out] at Bx | (simp only [Int.reduceToNat] at Bx; rw [← Az.out] at Bx))
            have Ac := aM (Kd.R_lower (Kd.R_new' Bx (Kd.R_lt Z54)) (below_size Z1)); replace Af := aM (Kd.R_elder' Z54 (Kd.R_base Bx) hb); replace HB := hbS Z1 hb; clear hb Bx; refine hK.out _ _ trivial (fun hHeld => ?_); clear hK K; refine noR 39 ?_
            exact norm_ Z92 (hCont (Bp, Bc, Ax) _ ⟨(by (with_reducible repeat (first | apply Kd.R_alloc | apply Kd.R_drewN | apply Kd.R_drew)); exact Kd.R_mono Af.out (fun _ hk => hk.2)), Z122, Z1⟩)
           ·skip
            refine Kd.R_lit_step (Kd.int .i64) _ 3 ?hg (N := 39) ?hd (xs := ([a1] : List Int)) (inner := [.int .i64 a1]) (ok := fun _ => True) (okp := fun _ => True) ?hr ?hp (fun _ hk => hk) trivial (Below.refl _ _) (Nat.le_refl _) (by simp) ?_; (case hd => rfl); (case hg => rfl); (case hr => first | (go_simp; done) | (go_simp; rfl)); (case hp => exact (Reps.one (show Kd.M (Kd.int .i64) _ _ _ a1 [.int .i64 a1] from rfl) (Reps.none _ _))); intro Ax Db Ap hb hg_ hnew_; clear hg_ hnew_
            (first | rw [← Az.out] at Ap | (simp only [Int.reduceToNat] at Ap; rw [← Az.out] at Ap))
            have Ac := aM (Kd.R_lower (Kd.R_new' Ap (Kd.R_lt Z61)) (below_size Z1)); replace Aj := aM (Kd.R_elder' Z61 (Kd.R_base Ap) hb); replace HB := hbS Z1 hb; clear hb Ap; refine hK.out _ _ trivial (fun hHeld => ?_); clear hK K; refine noR 39 ?_; refine one_ (i := 4) (N := some 37) #[true, true, true, true, true, true, true, false, true, true, true, false, false] rfl rfl (one_of HT_.out Z26) (by decide) (fun K hK => ?_); refine Kd.R_append_rows_step (Kd.int .i64) (w0 := w) w.heap.size (by rfl) (.tmp 33) (.tmp 36) 26 3 (.int .i64 0) 8 rfl Try.underlying26 info3 rfl (by decide) (by omega) Bp Bt (l0.take (Aa : Int).toNat) _ _ _ (fun k_ => nV k_ Ax) (fun _ => False) rfl rfl ?aO ?aR (fun _ _ h => h) (fun _ h => h.elim) ?aF ?aB ?aS ?aL ?_; (case aR => first | ((rw [← show (l0.take (Aa : Int).toNat).length = Aa.toNat from Z165]; repeat (first | exact (Kd.C_below Ai.out HB.out) | (with_reducible refine Kd.C_alloc ?_ _) | (with_reducible refine Kd.C_drewN ?_ _) | (with_reducible refine Kd.C_drew ?_))); done) | ((repeat (first | exact (Kd.C_below Ai.out HB.out) | (with_reducible refine Kd.C_alloc ?_ _) | (with_reducible refine Kd.C_drewN ?_ _) | (with_reducible refine Kd.C_drew ?_))); done) | (have h_ := Kd.C_below Ai.out HB.out; rw [show (l0.take (Aa : Int).toNat).length = Aa.toNat from Z165] at h_; repeat (first | exact h_ | (with_reducible refine Kd.C_alloc ?_ _) | (with_reducible refine Kd.C_drewN ?_ _) | (with_reducible refine Kd.C_drew ?_)))); (case aB => exact Z1); (case aF => exact (fun k_ hk => Kd.fresh' (Kd.R_lt Z13) k_ hk)); (case aO => exact Z139); (case aS => exact (below_size Z1)); (case aL => have := LMc28.out; have hlx_ := (show (l0.take (Aa : Int).toNat).length = Aa.toNat from Z165); omega); intro Bc Dg ho hb hg hat; rw [← B5.out] at ho; replace Ac := aM (Kd.R_after (ok := (fun _ => True)) Z13 hg hat); replace HB := aM (hb); have Af := aM (ho); clear Aj; clear ho hb hg hat; refine hK.out _ _ trivial (fun hHeld => ?_); clear hK K; refine noR 37 ?_
            exact norm_ Z92 (hCont (Bp, Bc, Ax) _ ⟨Z54, Z122, Z1⟩)
          ·skip
           refine Kd.R_lit_step (Kd.int .i64) _ 3 ?hg (N := 39) ?hd (xs := ([a1] : List Int)) (inner := [.int .i64 a1]) (ok := fun _ => True) (okp := fun _ => True) ?hr ?hp (fun _ hk => hk) trivial (Below.refl _ _) (Nat.le_refl _) (by simp) ?_; (case hd => rfl); (case hg => rfl); (case hr => first | (go_simp; done) | (go_simp; rfl)); (case hp => exact (Reps.one (show Kd.M (Kd.int .i64) _ _ _ a1 [.int .i64 a1] from rfl) (Reps.none _ _))); intro Ax Df Av hb hg_ hnew_; clear hg_ hnew_
           (first | rw [← Az.out] at Av | (simp only [Int.reduceToNat] at Av; rw [← Az.out] at Av))
           have Ac := aM (Kd.R_lower Av (below_size Z1)); replace HB := hbS Z1 hb; clear hb Av; refine hK.out _ _ trivial (fun hHeld => ?_); clear hK K; refine noR 39 ?_; refine one_ (i := 0) (N := some 33) #[true, true, true, true, false, true, true, false, true, true, true, false, false] rfl rfl (one_of HT_.out Z26) (by decide) (fun K hK => ?_); refine Kd.R_lit_step (Kd.int .i64) _ 3 ?hg (N := 33) ?hd (xs := ([] : List Int)) (inner := []) (ok := fun _ => True) (okp := fun _ => True) ?hr ?hp (fun _ hk => hk) trivial (Below.refl _ _) (Nat.le_refl _) (by simp) ?_; (case hd => rfl); (case hg => rfl); (case hr => first | (go_simp; done) | (go_simp; rfl)); (case hp => exact (Reps.none _ _)); intro Bp Db Ap hb hg_ hnew_; clear hg_ hnew_
           (first | rw [← Bv.out] at Ap | (simp only [Int.reduceToNat] at Ap; rw [← Bv.out] at Ap))
           have Aj := aM (Kd.R_lower (Kd.R_new' Ap (Kd.R_lt Z13)) (below_size Z1)); replace Ac := aM (Kd.R_elder' Z13 (Kd.R_base Ap) hb); replace HB := hbS Z1 hb; clear hb Ap; refine hK.out _ _ trivial (fun hHeld => ?_); clear hK K; refine noR 33 ?_; refine one_ (i := 4) (N := some 37) #[true, true, true, true, true, true, true, false, true, true, true, false, false] rfl rfl (one_of HT_.out Z26) (by decide) (fun K hK => ?_); refine Kd.R_append_rows_step (Kd.int .i64) (w0 := w) w.heap.size (by rfl) (.tmp 33) (.tmp 36) 26 3 (.int .i64 0) 8 rfl Try.underlying26 info3 rfl (by decide) (by omega) Bp Bt (l0.take (Aa : Int).toNat) _ _ _ (fun k_ => nV k_ Ax) (fun _ => False) rfl rfl ?aO ?aR (fun _ _ h => h) (fun _ h => h.elim) ?aF ?aB ?aS ?aL ?_; (case aR => first | ((rw [← show (l0.take (Aa : Int).toNat).length = Aa.toNat from Z165]; repeat (first | exact (Kd.C_below Ai.out HB.out) | (with_reducible refine Kd.C_alloc ?_ _) | (with_reducible refine Kd.C_drewN ?_ _) | (with_reducible refine Kd.C_drew ?_))); done) | ((repeat (first | exact (Kd.C_below Ai.out HB.out) | (with_reducible refine Kd.C_alloc ?_ _) | (with_reducible refine Kd.C_drewN ?_ _) | (with_reducible refine Kd.C_drew ?_))); done) | (have h_ := Kd.C_below Ai.out HB.out; rw [show (l0.take (Aa : Int).toNat).length = Aa.toNat from Z165] at h_; repeat (first | exact h_ | (with_reducible refine Kd.C_alloc ?_ _) | (with_reducible refine Kd.C_drewN ?_ _) | (with_reducible refine Kd.C_drew ?_)))); (case aB => exact Z1); (case aF => exact (fun k_ hk => Kd.fresh' (Kd.R_lt Z13) k_ hk)); (case aO => exact Z139); (case aS => exact (below_size Z1)); (case aL => have := LMc28.out; have hlx_ := (show (l0.take (Aa : Int).toNat).length = Aa.toNat from Z165); omega); intro Bc Dg ho hb hg hat; rw [← B5.out] at ho; replace Ac := aM (Kd.R_after (ok := (fun _ => True)) Z13 hg hat); replace HB := aM (hb); have Af := aM (ho); clear Aj; clear ho hb hg hat; refine hK.out _ _ trivial (fun hHeld => ?_); clear hK K; refine noR 37 ?_
           exact norm_ Z92 (hCont (Bp, Bc, Ax) _ ⟨Z54, Z122, Z1⟩)
         rintro ⟨Bp, Bc, Ax⟩ C2 ⟨h0_, h1_, h2_⟩; have n0_ : Aside0 (Kd.R (Kd.int .i64) 3 C2 w.heap.size (fun k_ => nV k_ Ax) Bc Ar) := ⟨h0_⟩; have n1_ : Aside0 (Kd.R (Kd.int .i64) 3 C2 w.heap.size (fun k_ => nV k_ Bc) Ax Al) := ⟨h1_⟩; have n2_ : Aside0 (Below w.heap.size w C2) := ⟨h2_⟩; clear HB; clear h0_ h1_ h2_; have Af := n0_; have Ac := n1_; have HB := n2_; clear n0_ n1_ n2_; have hHeld := trivial; obtain ⟨Co, Cp, Cq⟩ := Kd.R_slice Ac.out
         (first | subst Cq | (injection Cq with f1_ f2_ f3_; have f4_ := f1_.symm; have f5_ := f3_.symm; clear f1_ f2_ f3_; subst f4_; subst f5_))
         refine norm_ (a' := ?_) ?_ ?_
         rotate_left
         ·simp only [putAll, Act.put, List.setIfInBounds_toArray, List.set_cons_zero, List.set_cons_succ]
          rfl
         refine one_ (i := 7) (N := some 40) #[true, true, true, true, true, true, true, true, true, true, true, false, false] rfl rfl (one_of HT_.out Z26) (by decide) (fun K hK => ?_); refine Kd.R_append_rows_step (Kd.int .i64) (w0 := w) w.heap.size (by rfl) (.tmp 37) (.tmp 39) 26 3 (.int .i64 0) 8 rfl Try.underlying26 info3 rfl (by decide) (by omega) Bc Ar Al _ _ _ (fun k_ => nS k_ Co Al.length Cp) (fun _ => False) rfl rfl ?aO ?aR (fun _ _ h => h) (fun _ h => h.elim) ?aF ?aB ?aS ?aL ?_; (case aR => repeat (first | exact (Kd.R_reads' Ac.out).2.2 | (with_reducible refine Kd.C_alloc ?_ _) | (with_reducible refine Kd.C_drewN ?_ _) | (with_reducible refine Kd.C_drew ?_))); (case aB => exact Z1); (case aF => exact (fun k_ hk => Kd.fresh' (Kd.R_lt Z13) k_ hk)); (case aO => exact Z54); (case aS => exact (below_size Z1)); (case aL => have := LMc29.out; omega); intro C3 Dr ho hb hg hat; rw [← Cm.out] at ho; replace Ac := aM (Kd.R_after (ok := (fun _ => True)) (by (with_reducible repeat (first | apply Kd.R_alloc | apply Kd.R_drewN | apply Kd.R_drew)); exact Kd.R_mono Ac.out (fun _ hk => ⟨trivial, hk⟩)) hg hat); replace HB := aM (hb); have Ca := aM (ho); clear Af; clear ho hb hg hat; refine hK.out _ _ trivial (fun hHeld => ?_); clear hK K; refine noR 40 ?_; refine one_ (i := 11) (N := some 44) #[true, true, true, true, true, true, true, true, true, true, true, true, false] rfl rfl (one_of HT_.out Z26) (by decide) (fun K hK => ?_); refine Kd.R_append_rows_step (Kd.int .i64) (w0 := w) w.heap.size (by rfl) (.tmp 40) (.tmp 43) 26 3 (.int .i64 0) 8 rfl Try.underlying26 info3 rfl (by decide) (by omega) C3 An (l0.drop (Aa : Int).toNat) _ _ _ (fun k_ => nS k_ Co Al.length Cp) (fun _ => False) rfl rfl ?aO ?aR (fun _ _ h => h) (fun _ h => h.elim) ?aF ?aB ?aS ?aL ?_; (case aR => first | (rw [← show (l0.drop (Aa : Int).toNat).length = (l0.length - Aa.toNat) from List.length_drop]; repeat (first | exact (Kd.C_below B7.out HB.out) | (with_reducible refine Kd.C_alloc ?_ _) | (with_reducible refine Kd.C_drewN ?_ _) | (with_reducible refine Kd.C_drew ?_))) | (repeat (first | exact (Kd.C_below B7.out HB.out) | (with_reducible refine Kd.C_alloc ?_ _) | (with_reducible refine Kd.C_drewN ?_ _) | (with_reducible refine Kd.C_drew ?_)))); (case aB => exact Z1); (case aF => exact (fun k_ hk => Kd.fresh' (Kd.R_lt Z13) k_ hk)); (case aO => exact (by (with_reducible repeat (first | apply Kd.R_alloc | apply Kd.R_drewN | apply Kd.R_drew)); exact Ca.out)); (case aS => exact (below_size Z1)); (case aL => have := LMc32.out; have hlx_ := (show (l0.drop (Aa : Int).toNat).length = (l0.length - Aa.toNat) from List.length_drop); omega); intro Dh Ds ho hb hg hat; rw [← Cn.out] at ho; replace Ac := aM (Kd.R_after (ok := (fun _ => True)) Z13 hg hat); replace HB := aM (hb); have Cr := aM (ho); clear Ca; clear ho hb hg hat; refine hK.out _ _ trivial (fun hHeld => ?_); clear hK K; refine noR 44 ?_; refine puR 12 4 #[true, true, true, true, true, true, true, true, true, true, true, true, true] HT_ rfl rfl ?_; refine done_ (done_of HT_.out Z26) ?_
         try go_wp2
         go_ret
         exact ⟨_, Z20, by (with_reducible repeat (first | apply Kd.R_alloc | apply Kd.R_drewN | apply Kd.R_drew)); exact Kd.R_mono Cr.out (fun _ hk => trivial), Z1⟩
        ·rw [if_neg Cx] at H
         exact absurd H (by simp)
       ·rw [if_neg Cw] at H
        exact absurd H (by simp)
      ·rw [if_neg Cv] at H
       exact absurd H (by simp)
     ·rw [if_neg Cl] at H
      exact absurd H (by simp)
    ·rw [if_neg Ck] at H
     exact absurd H (by simp)
def spec_l14Weavers.l0 : Nat → List (S48) → List Int → Int → Option (List Int)
 | 0, _, _, _ => none
 | k + 1, x0, x3, x4 => if x4 < (x0.length : Int) then (if 0 ≤ x4 then ((spec_l1Has.f k x3 ((rd_T48 x0 x4).f0)).bind fun t164 => (if t164 = true then (spec_l14Weavers.l0 k x0 x3 (wrap64 (x4 + 1))) else ((spec_l1Put.f k x3 ((rd_T48 x0 x4).f0)).bind fun t166 => (spec_l14Weavers.l0 k x0 t166 (wrap64 (x4 + 1)))))) else (none)) else (some x3)
def spec_l14Weavers.f (k : Nat) (l0 : List (S48)) : Option (List Int) := spec_l14Weavers.l0 k l0 (([] : List Int)) 0
theorem spec_l14Weavers.calls (k : Nat) (A0 : Option Addr) (c0 : Nat) (l0 : List (S48)) (r : List Int) (w : World) (Bh : Kd.C k48 w A0 l0.length l0) (Bi : l0.length ≤ c0) (h : spec_l14Weavers.f k l0 = some r) :
  Calls Try.prog 36 #[.slice A0 l0.length c0] w fun e w' => ∃ v0_ : Value, e = .returned (v0_) ∧ Kd.R (Kd.int .i64) 3 w' w.heap.size (fun _ => True) v0_ r ∧ Below w.heap.size w w' := by
 have Bd := Aside0.mk Bh; have Bq := Aside0.mk Bi; clear Bh Bi; have HB := aM (Below.refl w.heap.size w); have H : (spec_l14Weavers.l0 k l0 (([] : List Int)) 0) = some r := h; clear h; obtain ⟨Aw, An⟩ : ∃ y_ : List Int, y_ = (([] : List Int)) := ⟨_, rfl⟩
 replace H : (spec_l14Weavers.l0 k l0 Aw 0) = some r := by first | (rw [An]; with_reducible exact H) | (have H2_ := (Option.bind_some _ _).symm.trans H; rw [An]; with_reducible exact H2_) | (have H2_ := (Option.bind_some _ _).symm.trans H; with_reducible exact H2_) | with_reducible exact H | (rw [An]; exact H) | exact H
 have Ar := Aside0.mk An; clear An; have H' := Aside0.mk H; clear H
 go_enter Try.func36, Try.ntmps36
 go_wp2_with (first | ((with_reducible refine gate_dst (N := 5) rfl ?_); refine Kd.R_lit (Kd.int .i64) _ 3 ?hg (N := 5) ?hd (xs := ([] : List Int)) (inner := []) (ok := fun _ => True) (okp := fun _ => True) ?hr ?hp (fun _ hk => hk) trivial (Below.refl _ _) (Nat.le_refl _) (by simp) ?_; (case hd => rfl); (case hg => rfl); (case hr => first | (go_simp; done) | (go_simp; rfl)); (case hp => exact (Reps.none _ _)); intro Bl w2 Ax hb hg_ hnew_; clear hg_ hnew_; (first | rw [← Ar.out] at Ax | (simp only [Int.reduceToNat] at Ax; rw [← Ar.out] at Ax)); have Ay := aM (Kd.R_lower Ax (below_size Z1)); replace HB := hbS Z1 hb; clear hb Ax))
 go_loopg [3, 4] k (fun kq v3 v4 w' => ∃ (Ag : List Int) (Aa : Int), v4 = .int .i64 Aa ∧ Aside0 (spec_l14Weavers.l0 kq l0 Ag Aa = some r) ∧ Aside0 (kq ≤ k) ∧ Aside0 (Kd.R (Kd.int .i64) 3 w' w.heap.size (fun _ => True) v3 Ag) ∧ Aside0 (Below w.heap.size w w'))
 case atStart => exact ⟨(Aw), (0), Z30, H', ⟨Nat.le_refl _⟩, ⟨Z146⟩, ⟨Z1⟩⟩
 case round =>
  clear H'; (try clear p2); (try clear c3); obtain ⟨Ag, Aa, rfl, HA, HK1, Ah, HB⟩ := hrel; cases gk with
  | zero => exact absurd HA.out (by simp [spec_l14Weavers.l0])
  | succ k1 =>
   have H := HA.out; clear HA
   simp only [spec_l14Weavers.l0] at H
   by_cases c4 : Aa < (l0.length : Int)
   ·rw [if_pos c4] at H
    have c4b0 : decide (Aa < (l0.length : Int)) = true := decide_eq_true c4; clear c4
    by_cases c5 : 0 ≤ Aa
    ·rw [if_pos c5] at H
     have c5b0 : decide (0 ≤ Aa) = true := decide_eq_true c5; clear c5; replace H := Option.bind_eq_some_iff.mp H; obtain ⟨Az, Bj, H⟩ := H; replace H : (if Az = true then (spec_l14Weavers.l0 k1 l0 Ag (wrap64 (Aa + 1))) else ((spec_l1Put.f k1 Ag ((rd_T48 l0 Aa).f0)).bind fun Ao => (spec_l14Weavers.l0 k1 l0 Ao (wrap64 (Aa + 1))))) = some r := H; have A6 := Aside0.mk Bj; clear Bj
     by_cases c7 : Az = true
     ·subst c7
      have H1 : (spec_l14Weavers.l0 k1 l0 Ag (wrap64 (Aa + 1))) = some r := by rw [if_pos rfl] at H; exact H
      clear H; have H := H1; clear H1; have H' := Aside0.mk H; clear H; have Ap : 0 ≤ (Aa : Int) := of_decide_eq_true Z21; have Aq : Aa < (l0.length : Int) := of_decide_eq_true Z21; obtain ⟨ad163, e163, Ab, Ac, Ad, Ae, Af⟩ := at_T48 Bd.out Aa Ap Aq; cases e163; replace Ab := (HB.out.cell (World.block_lt_of_cell? w _ Ab)).trans Ab; replace Ac := (HB.out.cell (World.block_lt_of_cell? w _ Ac)).trans Ac; replace Ad := (HB.out.cell (World.block_lt_of_cell? w _ Ad)).trans Ad; replace Ae := (HB.out.cell (World.block_lt_of_cell? w _ Ae)).trans Ae; replace Af := (HB.out.cell (World.block_lt_of_cell? w _ Af)).trans Af; replace Ap := eq_true Ap; replace Aq := eq_true Aq; obtain ⟨Bm, Bn, Bo⟩ := Kd.R_slice Ah.out; subst Bo
      go_wp2_with (first | ((with_reducible refine gate_callee (f := 63) rfl ?_); refine glE (some 18) Try.func63 #[.slice Bm Ag.length Bn, .int .i64 ((rd_T48 l0 Aa).f0)] ?_; (with_reducible refine (spec_l1Has.calls k1 _ _ Ag ((rd_T48 l0 Aa).f0) true _ ?side1 ?side2 A6.out).mono ?_); (case side1 => exact Z108); (case side2 => exact (Kd.R_reads' Ah.out).2.1); rintro e w' ⟨rfl, ⟨nd, rfl⟩⟩; refine ⟨_, rfl, ?_⟩))
      go_roundg k1
      case measure => have := HK1.out; omega
      case rel => exact ⟨(Ag), (wrap64 (Aa + 1)), Z30, H', ⟨Z136⟩, ⟨Z62⟩, ⟨Z1⟩⟩
     ·replace c7 := Bool.eq_false_iff.mpr c7
      subst c7
      have H1 : ((spec_l1Put.f k1 Ag ((rd_T48 l0 Aa).f0)).bind fun Ao => (spec_l14Weavers.l0 k1 l0 Ao (wrap64 (Aa + 1)))) = some r := by rw [if_neg (show ¬ (false = true) by decide)] at H; exact H
      clear H; have H := H1; clear H1; replace H := Option.bind_eq_some_iff.mp H; obtain ⟨Ao, Bk, H⟩ := H; replace H : (spec_l14Weavers.l0 k1 l0 Ao (wrap64 (Aa + 1))) = some r := H; have A9 := Aside0.mk Bk; clear Bk; have H' := Aside0.mk H; clear H; have Ap : 0 ≤ (Aa : Int) := of_decide_eq_true Z21; have Aq : Aa < (l0.length : Int) := of_decide_eq_true Z21; obtain ⟨ad163, e163, Ab, Ac, Ad, Ae, Af⟩ := at_T48 Bd.out Aa Ap Aq; cases e163; replace Ab := (HB.out.cell (World.block_lt_of_cell? w _ Ab)).trans Ab; replace Ac := (HB.out.cell (World.block_lt_of_cell? w _ Ac)).trans Ac; replace Ad := (HB.out.cell (World.block_lt_of_cell? w _ Ad)).trans Ad; replace Ae := (HB.out.cell (World.block_lt_of_cell? w _ Ae)).trans Ae; replace Af := (HB.out.cell (World.block_lt_of_cell? w _ Af)).trans Af; replace Ap := eq_true Ap; replace Aq := eq_true Aq; obtain ⟨Ba, Bb, Bf⟩ := Kd.R_slice Ah.out; subst Bf
      go_wp2_with (first | ((with_reducible refine gate_callee (f := 63) rfl ?_); refine glE (some 18) Try.func63 #[.slice Ba Ag.length Bb, .int .i64 ((rd_T48 l0 Aa).f0)] ?_; (with_reducible refine (spec_l1Has.calls k1 _ _ Ag ((rd_T48 l0 Aa).f0) false _ ?side1 ?side2 A6.out).mono ?_); (case side1 => exact Z108); (case side2 => exact (Kd.R_reads' Ah.out).2.1); rintro e w' ⟨rfl, ⟨nd, rfl⟩⟩; refine ⟨_, rfl, ?_⟩; have Au : 0 ≤ (Aa : Int) := of_decide_eq_true Z21; have Av : Aa < (l0.length : Int) := of_decide_eq_true Z21; obtain ⟨ad165, e165, Ai, Aj, Ak, Al, Am⟩ := at_T48 Bd.out Aa Au Av; obtain rfl : ad163 = ad165 := (by injection e165); replace Ai := (HB.out.cell (World.block_lt_of_cell? w _ Ai)).trans Ai; replace Aj := (HB.out.cell (World.block_lt_of_cell? w _ Aj)).trans Aj; replace Ak := (HB.out.cell (World.block_lt_of_cell? w _ Ak)).trans Ak; replace Al := (HB.out.cell (World.block_lt_of_cell? w _ Al)).trans Al; replace Am := (HB.out.cell (World.block_lt_of_cell? w _ Am)).trans Am; replace Au := eq_true Au; replace Av := eq_true Av) | ((with_reducible refine gate_callee (f := 64) rfl ?_); refine glE (some 26) Try.func64 #[.slice Ba Ag.length Bb, .int .i64 ((rd_T48 l0 Aa).f0)] ?_; (with_reducible refine (spec_l1Put.calls k1 _ _ Ag ((rd_T48 l0 Aa).f0) Ao _ ?side1 ?side2 A9.out).mono ?_); (case side1 => exact Z108); (case side2 => exact (Kd.R_reads' Ah.out).2.1); rintro e Br ⟨Bp, rfl, Bg, hb⟩; refine ⟨_, rfl, ?_⟩; have Bc := aM (Kd.R_lower (Kd.R_new' Bg (Kd.R_lt Z62)) (below_size Z1)); replace Ah := aM (Kd.R_elder' Z62 (Kd.R_base Bg) hb); replace HB := hbS Z1 hb; (try clear hb); (try clear Bg)))
      go_roundg k1
      case measure => have := HK1.out; omega
      case rel => exact ⟨(Ao), (wrap64 (Aa + 1)), Z30, H', ⟨Z136⟩, ⟨by (with_reducible repeat (first | apply Kd.R_alloc | apply Kd.R_drewN | apply Kd.R_drew)); exact Kd.R_mono Bc.out (fun _ hk => trivial)⟩, ⟨Z1⟩⟩
    ·rw [if_neg c5] at H
     exact absurd H (by simp)
   ·rw [if_neg c4] at H
    have c4b0 : decide (Aa < (l0.length : Int)) = false := decide_eq_false c4; clear c4; obtain rfl := Option.some.inj H
    go_wp2
    go_ret
    exact ⟨_, Z20, Z62, Z1⟩
def spec_l1Most.f (a0 : Int) (a1 : Int) : Option (Int) := if a0 > a1 then (some a0) else (some a1)
theorem spec_l1Most.calls (a0 : Int) (a1 : Int) (r : Int) (w : World) (h : spec_l1Most.f a0 a1 = some r) :
  Calls Try.prog 70 #[.int .i64 a0, .int .i64 a1] w fun e w' => e = .returned (.int .i64 r) ∧ Drawn0 w w' := by
 have H : (if a0 > a1 then (some a0) else (some a1)) = some r := h; clear h
 by_cases c3 : a0 > a1
 ·rw [if_pos c3] at H
  have c3b0 : decide (a1 < a0) = true := decide_eq_true c3; clear c3; obtain rfl := Option.some.inj H
  go_enter Try.func70, Try.ntmps70
  go_wp2
  go_ret
  exact ⟨Z30, Z58⟩
 ·rw [if_neg c3] at H
  have c3b0 : decide (a1 < a0) = false := decide_eq_false c3; clear c3; obtain rfl := Option.some.inj H
  go_enter Try.func70, Try.ntmps70
  go_wp2
  go_ret
  exact ⟨Z30, Z58⟩
def impl_in.f (a0 : Int) (a1 : Int) (a2 : Int) : Option (Bool) := if a0 ≥ a1 then (some (decide (a0 ≤ a2))) else (some false)
theorem impl_in.calls (a0 : Int) (a1 : Int) (a2 : Int) (r : Bool) (w : World) (h : impl_in.f a0 a1 a2 = some r) :
  Calls Try.prog 52 #[.int .i64 a0, .int .i64 a1, .int .i64 a2] w fun e w' => e = .returned (.bool r) ∧ Drawn0 w w' := by
 have H : (if a0 ≥ a1 then (some (decide (a0 ≤ a2))) else (some false)) = some r := h; clear h
 by_cases c4 : a0 ≥ a1
 ·rw [if_pos c4] at H
  have c4b0 : decide (a1 ≤ a0) = true := decide_eq_true c4; clear c4; obtain rfl := Option.some.inj H
  go_enter Try.func52, Try.ntmps52
  go_wp2
  go_ret
  exact ⟨Z30, Z58⟩
 ·rw [if_neg c4] at H
  have c4b0 : decide (a1 ≤ a0) = false := decide_eq_false c4; clear c4; obtain rfl := Option.some.inj H
  go_enter Try.func52, Try.ntmps52
  go_wp2
  go_ret
  exact ⟨Z30, Z58⟩
theorem impl_in.eq (a b c : Int) : impl_in.f a b c = some (rng a b c) := by
 unfold impl_in.f rng; by_cases h : b ≤ a <;> simp [h]
def impl_isId.f (a0 : Int) : Option (Bool) := (impl_in.f a0 1 99).bind fun t213 => (some t213)
theorem impl_isId.calls (a0 : Int) (r : Bool) (w : World) (h : impl_isId.f a0 = some r) :
  Calls Try.prog 55 #[.int .i64 a0] w fun e w' => e = .returned (.bool r) ∧ Drawn0 w w' := by
 have H : ((impl_in.f a0 1 99).bind fun Aa => (some Aa)) = some r := h; clear h; replace H := Option.bind_eq_some_iff.mp H; obtain ⟨Aa, Ab, H⟩ := H; replace H : (some Aa) = some r := H; have A2 := Aside0.mk Ab; clear Ab; obtain rfl := Option.some.inj H
 go_enter Try.func55, Try.ntmps55
 go_wp2_with (first | ((with_reducible refine gate_callee (f := 52) rfl ?_); refine glE (some 4) Try.func52 #[.int .i64 a0, .int .i64 1, .int .i64 99] ?_; (with_reducible refine (impl_in.calls a0 1 99 Aa _ A2.out).mono ?_); rintro e w' ⟨rfl, ⟨nd, rfl⟩⟩; refine ⟨_, rfl, ?_⟩))
 go_ret
 exact ⟨Z30, Z58⟩
def impl_isDay.f (a0 : Int) : Option (Bool) := (impl_in.f a0 0 4000).bind fun t214 => (some t214)
theorem impl_isDay.calls (a0 : Int) (r : Bool) (w : World) (h : impl_isDay.f a0 = some r) :
  Calls Try.prog 56 #[.int .i64 a0] w fun e w' => e = .returned (.bool r) ∧ Drawn0 w w' := by
 have H : ((impl_in.f a0 0 4000).bind fun Aa => (some Aa)) = some r := h; clear h; replace H := Option.bind_eq_some_iff.mp H; obtain ⟨Aa, Ab, H⟩ := H; replace H : (some Aa) = some r := H; have A2 := Aside0.mk Ab; clear Ab; obtain rfl := Option.some.inj H
 go_enter Try.func56, Try.ntmps56
 go_wp2_with (first | ((with_reducible refine gate_callee (f := 52) rfl ?_); refine glE (some 4) Try.func52 #[.int .i64 a0, .int .i64 0, .int .i64 4000] ?_; (with_reducible refine (impl_in.calls a0 0 4000 Aa _ A2.out).mono ?_); rintro e w' ⟨rfl, ⟨nd, rfl⟩⟩; refine ⟨_, rfl, ?_⟩))
 go_ret
 exact ⟨Z30, Z58⟩
def impl_IsWorkSheet.f (a0_0 : Int) (a0_1 : Int) (a0_2 : Int) (a0_3 : Int) (a0_4 : Int) : Option (Bool) := (impl_isId.f a0_0).bind fun t216 => (if t216 = true then ((impl_isDay.f a0_1).bind fun t217 => (if t217 = true then ((impl_in.f a0_2 0 12000).bind fun t218 => (if t218 = true then ((impl_in.f a0_3 0 a0_2).bind fun t219 => (if t219 = true then ((impl_in.f a0_4 0 12).bind fun t220 => (some t220)) else (some false))) else (some false))) else (some false))) else (some false))
theorem impl_IsWorkSheet.calls (Ad : Int) (Ah : Int) (Aa : Int) (Af : Int) (Ae : Int) (r : Bool) (w : World) (h : impl_IsWorkSheet.f Ad Ah Aa Af Ae = some r) :
  Calls Try.prog 33 #[.agg #[.int .i64 Ad, .int .i64 Ah, .int .i64 Aa, .int .i64 Af, .int .i64 Ae]] w fun e w' => e = .returned (.bool r) ∧ Below w.heap.size w w' := by
 have hu48 := Try.underlying48; have HB := aM (Below.refl w.heap.size w); have H : ((impl_isId.f Ad).bind fun An => (if An = true then ((impl_isDay.f Ah).bind fun Ak => (if Ak = true then ((impl_in.f Aa 0 12000).bind fun Aj => (if Aj = true then ((impl_in.f Af 0 Aa).bind fun Ag => (if Ag = true then ((impl_in.f Ae 0 12).bind fun Ac => (some Ac)) else (some false))) else (some false))) else (some false))) else (some false))) = some r := h; clear h; replace H := Option.bind_eq_some_iff.mp H; obtain ⟨An, Cn, H⟩ := H; replace H : (if An = true then ((impl_isDay.f Ah).bind fun Ak => (if Ak = true then ((impl_in.f Aa 0 12000).bind fun Aj => (if Aj = true then ((impl_in.f Af 0 Aa).bind fun Ag => (if Ag = true then ((impl_in.f Ae 0 12).bind fun Ac => (some Ac)) else (some false))) else (some false))) else (some false))) else (some false)) = some r := H; have A2 := Aside0.mk Cn; clear Cn
 by_cases c3 : An = true
 ·subst c3
  have H1 : ((impl_isDay.f Ah).bind fun Ak => (if Ak = true then ((impl_in.f Aa 0 12000).bind fun Aj => (if Aj = true then ((impl_in.f Af 0 Aa).bind fun Ag => (if Ag = true then ((impl_in.f Ae 0 12).bind fun Ac => (some Ac)) else (some false))) else (some false))) else (some false))) = some r := by rw [if_pos rfl] at H; exact H
  clear H; have H := H1; clear H1; replace H := Option.bind_eq_some_iff.mp H; obtain ⟨Ak, Co, H⟩ := H; replace H : (if Ak = true then ((impl_in.f Aa 0 12000).bind fun Aj => (if Aj = true then ((impl_in.f Af 0 Aa).bind fun Ag => (if Ag = true then ((impl_in.f Ae 0 12).bind fun Ac => (some Ac)) else (some false))) else (some false))) else (some false)) = some r := H; have A4 := Aside0.mk Co; clear Co
  by_cases c5 : Ak = true
  ·subst c5
   have H1 : ((impl_in.f Aa 0 12000).bind fun Aj => (if Aj = true then ((impl_in.f Af 0 Aa).bind fun Ag => (if Ag = true then ((impl_in.f Ae 0 12).bind fun Ac => (some Ac)) else (some false))) else (some false))) = some r := by rw [if_pos rfl] at H; exact H
   clear H; have H := H1; clear H1; replace H := Option.bind_eq_some_iff.mp H; obtain ⟨Aj, Cp, H⟩ := H; replace H : (if Aj = true then ((impl_in.f Af 0 Aa).bind fun Ag => (if Ag = true then ((impl_in.f Ae 0 12).bind fun Ac => (some Ac)) else (some false))) else (some false)) = some r := H; have A6 := Aside0.mk Cp; clear Cp
   by_cases c7 : Aj = true
   ·subst c7
    have H1 : ((impl_in.f Af 0 Aa).bind fun Ag => (if Ag = true then ((impl_in.f Ae 0 12).bind fun Ac => (some Ac)) else (some false))) = some r := by rw [if_pos rfl] at H; exact H
    clear H; have H := H1; clear H1; replace H := Option.bind_eq_some_iff.mp H; obtain ⟨Ag, Cq, H⟩ := H; replace H : (if Ag = true then ((impl_in.f Ae 0 12).bind fun Ac => (some Ac)) else (some false)) = some r := H; have A8 := Aside0.mk Cq; clear Cq
    by_cases c9 : Ag = true
    ·subst c9
     have H1 : ((impl_in.f Ae 0 12).bind fun Ac => (some Ac)) = some r := by rw [if_pos rfl] at H; exact H
     clear H; have H := H1; clear H1; replace H := Option.bind_eq_some_iff.mp H; obtain ⟨Ac, Ao, H⟩ := H; replace H : (some Ac) = some r := H; have Cr := Aside0.mk Ao; clear Ao; obtain rfl := Option.some.inj H
     go_enter Try.func33, Try.ntmps33
     go_wp2_with (first | ((with_reducible refine gate_dst (N := 1) rfl ?_); refine bxE 1 #[.int .i64 Ad, .int .i64 Ah, .int .i64 Aa, .int .i64 Af, .int .i64 Ae] 48 ?_; intro Al hg Cs hbox hb; have Ab := aM (hbox); have Am := gwS hg Z1; have Ai := gwS hg Z1; replace HB := hbS Z1 hb; clear hb hbox hg; obtain ⟨Ap, Aq, Ar, Au, Av⟩ := bz5 Ab; obtain ⟨Aw, Ax, Ay, Az, Ba⟩ := fz5 Ab) | ((with_reducible refine gate_callee (f := 55) rfl ?_); refine glE (some 5) Try.func55 #[.int .i64 Ad] ?_; (with_reducible refine (impl_isId.calls Ad true _ A2.out).mono ?_); rintro e w' ⟨rfl, ⟨nd, rfl⟩⟩; refine ⟨_, rfl, ?_⟩) | (go_at_call 56; (with_reducible refine (impl_isDay.calls Ah true _ A4.out).mono ?_); rintro e w' ⟨rfl, ⟨nd, rfl⟩⟩) | (go_at_call 52; (with_reducible refine (impl_in.calls Aa 0 12000 true _ A6.out).mono ?_); rintro e w' ⟨rfl, ⟨nd, rfl⟩⟩) | (go_at_call 52; (with_reducible refine (impl_in.calls Af 0 Aa true _ A8.out).mono ?_); rintro e w' ⟨rfl, ⟨nd, rfl⟩⟩) | (go_at_call 52; (with_reducible refine (impl_in.calls Ae 0 12 Ac _ Cr.out).mono ?_); rintro e w' ⟨rfl, ⟨nd, rfl⟩⟩))
     go_ret
     exact ⟨Z20, Z15⟩
    ·replace c9 := Bool.eq_false_iff.mpr c9
     subst c9
     have H1 : (some false) = some r := by rw [if_neg (show ¬ (false = true) by decide)] at H; exact H
     clear H; have H := H1; clear H1; obtain rfl := Option.some.inj H
     go_enter Try.func33, Try.ntmps33
     go_wp2_with (first | ((with_reducible refine gate_dst (N := 1) rfl ?_); refine bxE 1 #[.int .i64 Ad, .int .i64 Ah, .int .i64 Aa, .int .i64 Af, .int .i64 Ae] 48 ?_; intro Al hg Ct hbox hb; have Ab := aM (hbox); have Am := gwS hg Z1; have Ai := gwS hg Z1; replace HB := hbS Z1 hb; clear hb hbox hg; obtain ⟨Bb, Bc, Bd, Bf, Bg⟩ := bz5 Ab; obtain ⟨Bh, Bi, Bj, Bk, Bl⟩ := fz5 Ab) | ((with_reducible refine gate_callee (f := 55) rfl ?_); refine glE (some 5) Try.func55 #[.int .i64 Ad] ?_; (with_reducible refine (impl_isId.calls Ad true _ A2.out).mono ?_); rintro e w' ⟨rfl, ⟨nd, rfl⟩⟩; refine ⟨_, rfl, ?_⟩) | (go_at_call 56; (with_reducible refine (impl_isDay.calls Ah true _ A4.out).mono ?_); rintro e w' ⟨rfl, ⟨nd, rfl⟩⟩) | (go_at_call 52; (with_reducible refine (impl_in.calls Aa 0 12000 true _ A6.out).mono ?_); rintro e w' ⟨rfl, ⟨nd, rfl⟩⟩) | (go_at_call 52; (with_reducible refine (impl_in.calls Af 0 Aa false _ A8.out).mono ?_); rintro e w' ⟨rfl, ⟨nd, rfl⟩⟩))
     go_ret
     exact ⟨Z20, Z15⟩
   ·replace c7 := Bool.eq_false_iff.mpr c7
    subst c7
    have H1 : (some false) = some r := by rw [if_neg (show ¬ (false = true) by decide)] at H; exact H
    clear H; have H := H1; clear H1; obtain rfl := Option.some.inj H
    go_enter Try.func33, Try.ntmps33
    go_wp2_with (first | ((with_reducible refine gate_dst (N := 1) rfl ?_); refine bxE 1 #[.int .i64 Ad, .int .i64 Ah, .int .i64 Aa, .int .i64 Af, .int .i64 Ae] 48 ?_; intro Al hg Cu hbox hb; have Ab := aM (hbox); have Am := gwS hg Z1; have Ai := gwS hg Z1; replace HB := hbS Z1 hb; clear hb hbox hg; obtain ⟨Bm, Bn, Bo, Bp, Bq⟩ := bz5 Ab; obtain ⟨Br, Bs, Bt, Bu, Bv⟩ := fz5 Ab) | ((with_reducible refine gate_callee (f := 55) rfl ?_); refine glE (some 5) Try.func55 #[.int .i64 Ad] ?_; (with_reducible refine (impl_isId.calls Ad true _ A2.out).mono ?_); rintro e w' ⟨rfl, ⟨nd, rfl⟩⟩; refine ⟨_, rfl, ?_⟩) | (go_at_call 56; (with_reducible refine (impl_isDay.calls Ah true _ A4.out).mono ?_); rintro e w' ⟨rfl, ⟨nd, rfl⟩⟩) | (go_at_call 52; (with_reducible refine (impl_in.calls Aa 0 12000 false _ A6.out).mono ?_); rintro e w' ⟨rfl, ⟨nd, rfl⟩⟩))
    go_ret
    exact ⟨Z20, Z15⟩
  ·replace c5 := Bool.eq_false_iff.mpr c5
   subst c5
   have H1 : (some false) = some r := by rw [if_neg (show ¬ (false = true) by decide)] at H; exact H
   clear H; have H := H1; clear H1; obtain rfl := Option.some.inj H
   go_enter Try.func33, Try.ntmps33
   go_wp2_with (first | ((with_reducible refine gate_dst (N := 1) rfl ?_); refine bxE 1 #[.int .i64 Ad, .int .i64 Ah, .int .i64 Aa, .int .i64 Af, .int .i64 Ae] 48 ?_; intro Al hg Cv hbox hb; have Ab := aM (hbox); have Am := gwS hg Z1; have Ai := gwS hg Z1; replace HB := hbS Z1 hb; clear hb hbox hg; obtain ⟨Bw, Bx, Bz, B0, B5⟩ := bz5 Ab; obtain ⟨B7, B9, Ca, Cb, Cc⟩ := fz5 Ab) | ((with_reducible refine gate_callee (f := 55) rfl ?_); refine glE (some 5) Try.func55 #[.int .i64 Ad] ?_; (with_reducible refine (impl_isId.calls Ad true _ A2.out).mono ?_); rintro e w' ⟨rfl, ⟨nd, rfl⟩⟩; refine ⟨_, rfl, ?_⟩) | (go_at_call 56; (with_reducible refine (impl_isDay.calls Ah false _ A4.out).mono ?_); rintro e w' ⟨rfl, ⟨nd, rfl⟩⟩))
   go_ret
   exact ⟨Z20, Z15⟩
 ·replace c3 := Bool.eq_false_iff.mpr c3
  subst c3
  have H1 : (some false) = some r := by rw [if_neg (show ¬ (false = true) by decide)] at H; exact H
  clear H; have H := H1; clear H1; obtain rfl := Option.some.inj H
  go_enter Try.func33, Try.ntmps33
  go_wp2_with (first | ((with_reducible refine gate_dst (N := 1) rfl ?_); refine bxE 1 #[.int .i64 Ad, .int .i64 Ah, .int .i64 Aa, .int .i64 Af, .int .i64 Ae] 48 ?_; intro Al hg Cw hbox hb; have Ab := aM (hbox); have Am := gwS hg Z1; have Ai := gwS hg Z1; replace HB := hbS Z1 hb; clear hb hbox hg; obtain ⟨Cd, Ce, Cf, Cg, Ch⟩ := bz5 Ab; obtain ⟨Ci, Cj, Ck, Cl, Cm⟩ := fz5 Ab) | ((with_reducible refine gate_callee (f := 55) rfl ?_); refine glE (some 5) Try.func55 #[.int .i64 Ad] ?_; (with_reducible refine (impl_isId.calls Ad false _ A2.out).mono ?_); rintro e w' ⟨rfl, ⟨nd, rfl⟩⟩; refine ⟨_, rfl, ?_⟩))
  go_ret
  exact ⟨Z20, Z15⟩
set_option maxHeartbeats 4000000 in
theorem IndexFunc_ws (p : S48 → Bool) (g : Nat) (lb : Array Value) (A : Option Addr) (c : Nat) (xs : List S48) (w : World)
  (eg : ∀ args w, (callFunc g args).run Try.prog w = .ok (.enter g args) w) (hr : Kd.C k48 w A xs.length xs)
  (hp : ∀ (W : World) (x : S48), Below w.heap.size w W → Calls Try.prog g (#[.agg #[.int .i64 x.f0, .int .i64 x.f1, .int .i64 x.f2, .int .i64 x.f3, .int .i64 x.f4]] ++ lb) W fun e w' => e = .returned (.bool (p x)) ∧ Below W.heap.size W w') :
  Calls Try.prog 86 #[.slice A xs.length c, .func (.func g) #[] lb] w fun e w' => e = .returned (.int .i64 (findI p xs)) ∧ Below w.heap.size w w' := by
 have hu_ := Try.underlying48; have hlen := Aside0.mk hr.2.1; have HR := Aside0.mk hr; have HP := Aside0.mk hp; clear hr hp
 go_enter Try.func86, Try.ntmps86
 go_wp2
 go_loopg [5, 8] xs.length (fun gg _ s8 wr => ∃ x : Int, s8 = .int .i64 x ∧ Aside0 (0 ≤ x ∧ x ≤ (xs.length : Int) ∧ (xs.length : Int) - x ≤ gg) ∧ Aside0 (Below w.heap.size w wr) ∧ Aside0 (∀ j : Nat, (j : Int) < x → p (xs.getD j z48) = false))
 case atStart => exact ⟨0, rfl, ⟨by omega, by omega, by omega⟩, ⟨Below.refl _ _⟩, ⟨fun j hj => absurd hj (by omega)⟩⟩
 case round =>
  obtain ⟨x, rfl, HX, BW, HA⟩ := hrel
  by_cases hlt : x < (xs.length : Int)
  ·have c0 : decide (x < (xs.length : Int)) = true := decide_eq_true hlt
   obtain ⟨ad, e0, Aa, Ab, Ac, Ad, Ae⟩ := at_T48 (Kd.C_below HR.out BW.out) x HX.out.1 hlt; cases e0; have c1 : decide (0 ≤ x) = true := decide_eq_true HX.out.1; have p0 := eq_true HX.out.1; have p1 := eq_true hlt; have HL := Aside0.mk hlt; clear hlt; have hcall := HP.out _ (rd_T48 xs x) BW.out; have hget : Aside0 (xs.getD x.toNat z48 = (rd_T48 xs x)) := ⟨rfl⟩; cases hq : p (rd_T48 xs x) with
   | true =>
    rw [hq] at hcall; have HQ := Aside0.mk hq; have HC := Aside0.mk hcall; clear hq hcall
    go_wp2_with fail
    refine HC.out.mono ?_; rintro e w' ⟨rfl, hb'⟩; have HB := aM (below_step BW.out hb'); clear hb'
    go_wp2
    go_ret
    refine ⟨?_, HB.out⟩; rw [findI_hit p z48 xs x.toNat Z153 (fun j hj => HA.out j Z160) (by rw [hget.out]; exact HQ.out)]; rw [Int.toNat_of_nonneg HX.out.1]
    rfl
   | false =>
    rw [hq] at hcall; have HQ := Aside0.mk hq; have HC := Aside0.mk hcall; clear hq hcall
    go_wp2_with fail
    refine HC.out.mono ?_; rintro e w' ⟨rfl, hb'⟩; have HB := aM (below_step BW.out hb'); clear hb'
    go_wp2
    have hw1 : wrap64 (x + 1) = x + 1 := by have := HX.out; have := HL.out; have := hlen.out; unfold wrap64; omega
    go_roundg (xs.length - (x.toNat + 1))
    case measure => have := HX.out; have := HL.out; omega
    case rel =>
     refine ⟨x + 1, Z161, ⟨Z160, Z157, Z153⟩, HB, ⟨fun j hj => ?_⟩⟩
     by_cases e : (j : Int) < x
     ·exact HA.out j e
     ·have hj' : j = x.toNat := by have := HX.out; omega
      subst hj'; rw [hget.out]
      exact HQ.out
  ·have c0 : decide (x < (xs.length : Int)) = false := decide_eq_false hlt
   have HL := Aside0.mk hlt; clear hlt
   go_wp2
   go_ret
   refine ⟨?_, BW.out⟩; rw [findI_miss p z48 xs (fun j hj => HA.out j Z157)]
   rfl
set_option maxHeartbeats 4000000 in
theorem ContainsFunc_ws (p : S48 → Bool) (g : Nat) (lb : Array Value) (A : Option Addr) (c : Nat) (xs : List S48) (w : World)
  (eg : ∀ args w, (callFunc g args).run Try.prog w = .ok (.enter g args) w) (hr : Kd.C k48 w A xs.length xs)
  (hp : ∀ (W : World) (x : S48), Below w.heap.size w W → Calls Try.prog g (#[.agg #[.int .i64 x.f0, .int .i64 x.f1, .int .i64 x.f2, .int .i64 x.f3, .int .i64 x.f4]] ++ lb) W fun e w' => e = .returned (.bool (p x)) ∧ Below W.heap.size W w') :
  Calls Try.prog 79 #[.slice A xs.length c, .func (.func g) #[] lb] w fun e w' => e = .returned (.bool (xs.any p)) ∧ Below w.heap.size w w' := by
 have HC := aM (IndexFunc_ws p g lb A c xs w eg hr hp); clear hr hp eg; rw [← findI_any]
 go_enter Try.func79, Try.ntmps79
 go_wp2_with fail
 refine HC.out.mono ?_; rintro e w' ⟨rfl, hb'⟩
 go_wp2
 go_ret
 exact ⟨Z140, hb'⟩
set_option maxHeartbeats 4000000 in
theorem areAll_ws_1 (p : S48 → Bool) (g : Nat) (lb : Array Value) (b : Nat) (x : S48) (W : World)
  (eg : ∀ args w, (callFunc g args).run Try.prog w = .ok (.enter g args) w) (hc : W.cell? ⟨b, 0, none⟩ = some (.func (.func g) #[] lb))
  (hp : ∀ W1, Below W.heap.size W W1 → Calls Try.prog g (#[.agg #[.int .i64 x.f0, .int .i64 x.f1, .int .i64 x.f2, .int .i64 x.f3, .int .i64 x.f4]] ++ lb) W1 fun e w' => e = .returned (.bool (p x)) ∧ Below W1.heap.size W1 w') (hb : b < W.heap.size) :
  Calls Try.prog 80 #[.agg #[.int .i64 x.f0, .int .i64 x.f1, .int .i64 x.f2, .int .i64 x.f3, .int .i64 x.f4], .pointer (some ⟨b, 0, none⟩)] W fun e w' => e = .returned (.bool (!p x)) ∧ Below W.heap.size W w' := by
 have hu_ := Try.underlying48; have HP := Aside0.mk hp; clear hp; have hB1 : Below W.heap.size W (W.alloc (.cells #[.int .i64 x.f0, .int .i64 x.f1, .int .i64 x.f2, .int .i64 x.f3, .int .i64 x.f4] 48)) := below_alloc (Below.refl _ _) _; have Aa : (W.alloc (.cells #[.int .i64 x.f0, .int .i64 x.f1, .int .i64 x.f2, .int .i64 x.f3, .int .i64 x.f4] 48)).cell? ⟨b, 0, none⟩ = some (.func (.func g) #[] lb) := (hB1.cell (p := ⟨b, 0, none⟩) hb).trans hc; have HB := Aside0.mk hB1; clear hB1 hc
 go_enter Try.func80, Try.ntmps80
 go_wp2_with fail
 refine (HP.out _ HB.out).mono ?_; rintro e w' ⟨rfl, hb'⟩
 go_wp2
 go_ret
 exact ⟨Z140, below_step HB.out hb'⟩
set_option maxHeartbeats 4000000 in
theorem areAll_ws (p : S48 → Bool) (g : Nat) (lb : Array Value) (A : Option Addr) (c : Nat) (xs : List S48) (w : World)
  (eg : ∀ args w, (callFunc g args).run Try.prog w = .ok (.enter g args) w) (hr : Kd.C k48 w A xs.length xs)
  (hp : ∀ (W : World) (x : S48), Below w.heap.size w W → Calls Try.prog g (#[.agg #[.int .i64 x.f0, .int .i64 x.f1, .int .i64 x.f2, .int .i64 x.f3, .int .i64 x.f4]] ++ lb) W fun e w' => e = .returned (.bool (p x)) ∧ Below W.heap.size W w') :
  Calls Try.prog 65 #[.slice A xs.length c, .func (.func g) #[] lb] w fun e w' => e = .returned (.bool (xs.all p)) ∧ Below w.heap.size w w' := by
 have hmf : ∀ (fn : Fn) (first cap : Array Value) (w : World), (Instr.makeFunc fn first cap).run Try.prog w = .ok (.func fn first cap) w := fun _ _ _ _ => rfl
 have hB1 : Below w.heap.size w (w.alloc (.cells #[.func (.func g) #[] lb] 60)) := below_alloc (Below.refl _ _) _
 have Aa : (w.alloc (.cells #[.func (.func g) #[] lb] 60)).cell? ⟨w.heap.size, 0, none⟩ = some (.func (.func g) #[] lb) := by simp
 have hsz : w.heap.size < (w.alloc (.cells #[.func (.func g) #[] lb] 60)).heap.size := by simp
 have HC := aM (ContainsFunc_ws (fun x => !p x) 80 #[.pointer (some ⟨w.heap.size, 0, none⟩)] A c xs (w.alloc (.cells #[.func (.func g) #[] lb] 60)) (enters_of Try.func80 Z26 rfl) (Kd.C_below hr hB1)
  (fun W x hW => areAll_ws_1 p g lb w.heap.size x W eg ((hW.cell (p := ⟨w.heap.size, 0, none⟩) hsz).trans Aa) (fun W1 h1 => hp W1 x ((hB1.trans (hW.mono hB1.size)).trans (h1.mono (Nat.le_trans hB1.size hW.size)))) (Nat.lt_of_lt_of_le hsz hW.size)))
 have HB := Aside0.mk hB1; rw [← any_not]; clear hB1 Aa hsz hp hr eg
 go_enter Try.func65, Try.ntmps65
 go_wp2_with fail
 refine HC.out.mono ?_; rintro e w' ⟨rfl, hb'⟩
 go_wp2
 go_ret
 exact ⟨Z140, below_step HB.out hb'⟩
end Go.Proofs.Ytffgmmfkiecheaa.H
