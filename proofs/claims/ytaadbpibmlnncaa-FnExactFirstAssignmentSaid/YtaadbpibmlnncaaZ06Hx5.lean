-- by wip/pack.py of this repo
import Derived.Test.YtaadbpibmlnncaaZ06Hx0
import Derived.Test.YtaadbpibmlnncaaZ06Hx4
import Derived.Test.YtaadbpibmlnncaaZ06WLast
import Derived.Test.YtaadbpibmlnncaaZ06WMore
import Derived.Test.YtaadbpibmlnncaaZ06WRepsOne
import Derived.Test.YtaadbpibmlnncaaZ06WTab
import Derived.Test.YtaadbpibmlnncaaZ06WWords
import Derived.Test.YtaadbpibmlnncaaZ06Short
namespace Go.Proofs.Ytaadbpibmlnncaa.H
open Go.RowKit Go.Proofs.YtaadbpibmlnncaaW.PrintWords Go.Proofs.YtaadbpibmlnncaaW.PrintLast Go.Proofs.YtaadbpibmlnncaaW.PrintMore
attribute [local go_sem] max2_int min2_int max_two min_two max_three min_three max_four min_four
set_option maxHeartbeats 8000000
set_option maxRecDepth 100000
set_option linter.unusedVariables false
set_option linter.unusedSimpArgs false
def impl_Chart_besides.l0 : Nat → Int → List Int → Int → Int → List (S82) → Int → Int → Int → Int → List Int → Option (List Int)
 | 0, _, _, _, _, _, _, _, _, _, _ => none
 | k + 1, x1, x5, x6, x7, x23, x24, x25, x275000, x275001, x275002 => if x25 < x24 then (if 0 ≤ x25 then (if x25 < (x23.length : Int) then ((impl_Chart_hasPlace.f x275000 x275001 x275002 (wrap64 (x6 + ((rd_T82 x23 x25).f0))) (wrap64 (x7 + ((rd_T82 x23 x25).f1)))).bind fun t283 => (if t283 = true then (if x5.length < 17592186044416 then (impl_Chart_besides.l0 k x1 (x5 ++ [wrap64 ((wrap64 (x1 + (wrap64 (((rd_T82 x23 x25).f0) * x275000)))) + ((rd_T82 x23 x25).f1))]) x6 x7 x23 x24 (wrap64 (x25 + 1)) x275000 x275001 x275002) else (none)) else (impl_Chart_besides.l0 k x1 x5 x6 x7 x23 x24 (wrap64 (x25 + 1)) x275000 x275001 x275002))) else (none)) else (none)) else (some x5)
def impl_Chart_besides.f (k : Nat) (a0_0 : Int) (a0_1 : Int) (l0_2 : List Int) (a1 : Int) : Option (List Int) := if a0_0 = 0 then (none) else ((some (([(⟨(-1), 0⟩ : S82), (⟨0, (-1)⟩ : S82), (⟨0, 1⟩ : S82), (⟨1, 0⟩ : S82)] : List (S82)) : List (S82))).bind fun y278 => (impl_Chart_besides.l0 k a1 (([] : List Int)) (wrap64 (Int.tdiv a1 a0_0)) (Int.tmod a1 a0_0) y278 (y278.length : Int) 0 a0_0 a0_1 l0_2))
theorem impl_Chart_besides.calls (k : Nat) (Ah : Int) (An : Int) (Ap : Option Addr) (Aq : Nat) (Am : List Int) (a1 : Int) (r : List Int) (w : World) (Cu : Kd.C (Kd.int .i64) w Ap Am.length Am) (Cv : Am.length ≤ Aq) (h : impl_Chart_besides.f k Ah An Am a1 = some r) :
  Calls Try.prog 69 #[.agg #[.int .i64 Ah, .int .i64 An, .slice Ap Am.length Aq], .int .i64 a1] w fun e w' => ∃ v0_ : Value, e = .returned (v0_) ∧ Kd.R (Kd.int .i64) 3 w' w.heap.size (fun _ => True) v0_ r ∧ Below w.heap.size w w' := by
 have hu28 := Try.underlying28; have hu82 := Try.underlying82; have Aw := Aside0.mk Cu; have Ax := Aside0.mk Cv; clear Cu Cv; have HB := aM (Below.refl w.heap.size w); have H : (if Ah = 0 then (none) else ((some (([(⟨(-1), 0⟩ : S82), (⟨0, (-1)⟩ : S82), (⟨0, 1⟩ : S82), (⟨1, 0⟩ : S82)] : List (S82)) : List (S82))).bind fun Ac => (impl_Chart_besides.l0 k a1 (([] : List Int)) (wrap64 (Int.tdiv a1 Ah)) (Int.tmod a1 Ah) Ac (Ac.length : Int) 0 Ah An Am))) = some r := h; clear h; obtain ⟨C3, Bb⟩ : ∃ y_ : List Int, y_ = (([] : List Int)) := ⟨_, rfl⟩
 replace H : (if Ah = 0 then (none) else ((some (([(⟨(-1), 0⟩ : S82), (⟨0, (-1)⟩ : S82), (⟨0, 1⟩ : S82), (⟨1, 0⟩ : S82)] : List (S82)) : List (S82))).bind fun Ac => (impl_Chart_besides.l0 k a1 C3 (wrap64 (Int.tdiv a1 Ah)) (Int.tmod a1 Ah) Ac (Ac.length : Int) 0 Ah An Am))) = some r := by first | (rw [Bb]; with_reducible exact H) | (have H2_ := (Option.bind_some _ _).symm.trans H; rw [Bb]; with_reducible exact H2_) | (have H2_ := (Option.bind_some _ _).symm.trans H; with_reducible exact H2_) | with_reducible exact H | (rw [Bb]; exact H) | exact H
 have Ay := Aside0.mk Bb; clear Bb
 by_cases c3 : Ah = 0
 ·rw [if_pos c3] at H
  exact absurd H (by simp)
 ·rw [if_neg c3] at H
  have c3b0 : (Ah == 0) = false := beq_eq_false_iff_ne.mpr c3; have c3b1 : (Ah != 0) = true := bne_iff_ne.mpr c3; obtain ⟨Ac, Bc⟩ : ∃ y_ : List (S82), y_ = (([(⟨(-1), 0⟩ : S82), (⟨0, (-1)⟩ : S82), (⟨0, 1⟩ : S82), (⟨1, 0⟩ : S82)] : List (S82))) := ⟨_, rfl⟩
  replace H : (impl_Chart_besides.l0 k a1 C3 (wrap64 (Int.tdiv a1 Ah)) (Int.tmod a1 Ah) Ac (Ac.length : Int) 0 Ah An Am) = some r := by first | (rw [Bc]; with_reducible exact H) | (have H2_ := (Option.bind_some _ _).symm.trans H; rw [Bc]; with_reducible exact H2_) | (have H2_ := (Option.bind_some _ _).symm.trans H; with_reducible exact H2_) | with_reducible exact H | (rw [Bc]; exact H) | exact H
  have Az := Aside0.mk Bc; clear Bc; have H' := Aside0.mk H; clear H
  go_enter Try.func69, Try.ntmps69
  go_wp2_with (first | ((with_reducible refine gate_dst (N := 2) rfl ?_); refine bxE 2 #[.int .i64 Ah, .int .i64 An, .slice Ap Am.length Aq] 28 ?_; intro Ao hg w4 hbox hb; have Ab := aM (hbox); have Cw := gwS hg Z0; have Af := gwS hg Z0; replace HB := hbS Z0 hb; clear hb hbox hg) | ((with_reducible refine gate_dst (N := 10) rfl ?_); refine Kd.R_lit (Kd.int .i64) _ 3 ?hg (N := 10) ?hd (xs := ([] : List Int)) (inner := []) (ok := fun _ => True) (okp := fun _ => True) ?hr ?hp (fun _ hk => hk) trivial (Below.refl _ _) (Nat.le_refl _) (by simp) ?_; (case hd => rfl); (case hg => rfl); (case hr => first | (go_simp; done) | (go_simp; rfl)); (case hp => exact (Reps.none _ _)); intro C8 w5 Bd hb hg_ hnew_; clear hg_ hnew_; (first | rw [← Ay.out] at Bd | (simp only [Int.reduceToNat] at Bd; rw [← Ay.out] at Bd)); have Au := aM (Kd.R_lower Bd (below_size Z2)); replace Ab := bkB Ab hb; replace HB := hbS Z2 hb; clear hb Bd; obtain ⟨Bi, Bj, Bk⟩ := bz3 Ab; obtain ⟨Bl, Bm, Bn⟩ := fz3 Ab) | ((with_reducible refine gate_dst (N := 23) rfl ?_); refine Kd.R_lit k82 _ 82 ?hg (N := 23) ?hd (xs := ([(⟨(-1), 0⟩ : S82), (⟨0, (-1)⟩ : S82), (⟨0, 1⟩ : S82), (⟨1, 0⟩ : S82)] : List (S82))) (inner := [.int .i64 (-1), .int .i64 0, .int .i64 0, .int .i64 (-1), .int .i64 0, .int .i64 1, .int .i64 1, .int .i64 0]) (ok := fun _ => True) (okp := fun _ => True) ?hr ?hp (fun _ hk => hk) trivial (Below.refl _ _) (Nat.le_refl _) (by simp) ?_; (case hd => rfl); (case hg => rfl); (case hr => first | (go_simp; done) | (go_simp; rfl)); (case hp => exact (Reps.c2 (show Kd.M k82 _ _ _ (⟨(-1), 0⟩ : S82) [.int .i64 (-1), .int .i64 0] from (k82_mkM _ _ _ (⟨(-1), 0⟩ : S82) )) (Reps.c2 (show Kd.M k82 _ _ _ (⟨0, (-1)⟩ : S82) [.int .i64 0, .int .i64 (-1)] from (k82_mkM _ _ _ (⟨0, (-1)⟩ : S82) )) (Reps.c2 (show Kd.M k82 _ _ _ (⟨0, 1⟩ : S82) [.int .i64 0, .int .i64 1] from (k82_mkM _ _ _ (⟨0, 1⟩ : S82) )) (Reps.c2 (show Kd.M k82 _ _ _ (⟨1, 0⟩ : S82) [.int .i64 1, .int .i64 0] from (k82_mkM _ _ _ (⟨1, 0⟩ : S82) )) (Reps.none _ _)))))); intro C9 w8 Bf hb hg_ hnew_; clear hg_ hnew_; (first | rw [← Az.out] at Bf | (simp only [Int.reduceToNat] at Bf; rw [← Az.out] at Bf)); replace Au := roB Au hb; have Ba := aM (Kd.R_lower Bf (below_size Z2)); replace Ab := bkB Ab hb; replace HB := hbS Z2 hb; clear hb Bf; obtain ⟨C4, C5, Cp⟩ := Kd.R_slice Ba.out; subst Cp))
  repeat (go_quiet (first | ((with_reducible refine gate_dst (N := 2) rfl ?_); refine bxE 2 #[.int .i64 Ah, .int .i64 An, .slice Ap Am.length Aq] 28 ?_; intro Ao hg w4 hbox hb; have Ab := aM (hbox); have Cw := gwS hg Z0; have Af := gwS hg Z0; replace HB := hbS Z0 hb; clear hb hbox hg) | ((with_reducible refine gate_dst (N := 10) rfl ?_); refine Kd.R_lit (Kd.int .i64) _ 3 ?hg (N := 10) ?hd (xs := ([] : List Int)) (inner := []) (ok := fun _ => True) (okp := fun _ => True) ?hr ?hp (fun _ hk => hk) trivial (Below.refl _ _) (Nat.le_refl _) (by simp) ?_; (case hd => rfl); (case hg => rfl); (case hr => first | (go_simp; done) | (go_simp; rfl)); (case hp => exact (Reps.none _ _)); intro C8 w5 Bd hb hg_ hnew_; clear hg_ hnew_; (first | rw [← Ay.out] at Bd | (simp only [Int.reduceToNat] at Bd; rw [← Ay.out] at Bd)); have Au := aM (Kd.R_lower Bd (below_size Z2)); replace Ab := bkB Ab hb; replace HB := hbS Z2 hb; clear hb Bd; obtain ⟨Bi, Bj, Bk⟩ := bz3 Ab; obtain ⟨Bl, Bm, Bn⟩ := fz3 Ab) | ((with_reducible refine gate_dst (N := 23) rfl ?_); refine Kd.R_lit k82 _ 82 ?hg (N := 23) ?hd (xs := ([(⟨(-1), 0⟩ : S82), (⟨0, (-1)⟩ : S82), (⟨0, 1⟩ : S82), (⟨1, 0⟩ : S82)] : List (S82))) (inner := [.int .i64 (-1), .int .i64 0, .int .i64 0, .int .i64 (-1), .int .i64 0, .int .i64 1, .int .i64 1, .int .i64 0]) (ok := fun _ => True) (okp := fun _ => True) ?hr ?hp (fun _ hk => hk) trivial (Below.refl _ _) (Nat.le_refl _) (by simp) ?_; (case hd => rfl); (case hg => rfl); (case hr => first | (go_simp; done) | (go_simp; rfl)); (case hp => exact (Reps.c2 (show Kd.M k82 _ _ _ (⟨(-1), 0⟩ : S82) [.int .i64 (-1), .int .i64 0] from (k82_mkM _ _ _ (⟨(-1), 0⟩ : S82) )) (Reps.c2 (show Kd.M k82 _ _ _ (⟨0, (-1)⟩ : S82) [.int .i64 0, .int .i64 (-1)] from (k82_mkM _ _ _ (⟨0, (-1)⟩ : S82) )) (Reps.c2 (show Kd.M k82 _ _ _ (⟨0, 1⟩ : S82) [.int .i64 0, .int .i64 1] from (k82_mkM _ _ _ (⟨0, 1⟩ : S82) )) (Reps.c2 (show Kd.M k82 _ _ _ (⟨1, 0⟩ : S82) [.int .i64 1, .int .i64 0] from (k82_mkM _ _ _ (⟨1, 0⟩ : S82) )) (Reps.none _ _)))))); intro C9 w8 Bf hb hg_ hnew_; clear hg_ hnew_; (first | rw [← Az.out] at Bf | (simp only [Int.reduceToNat] at Bf; rw [← Az.out] at Bf)); replace Au := roB Au hb; have Ba := aM (Kd.R_lower Bf (below_size Z2)); replace Ab := bkB Ab hb; replace HB := hbS Z2 hb; clear hb Bf; obtain ⟨C4, C5, Cp⟩ := Kd.R_slice Ba.out; subst Cp)); try go_wp2_with (first | ((with_reducible refine gate_dst (N := 2) rfl ?_); refine bxE 2 #[.int .i64 Ah, .int .i64 An, .slice Ap Am.length Aq] 28 ?_; intro Ao hg w4 hbox hb; have Ab := aM (hbox); have Cw := gwS hg Z0; have Af := gwS hg Z0; replace HB := hbS Z0 hb; clear hb hbox hg) | ((with_reducible refine gate_dst (N := 10) rfl ?_); refine Kd.R_lit (Kd.int .i64) _ 3 ?hg (N := 10) ?hd (xs := ([] : List Int)) (inner := []) (ok := fun _ => True) (okp := fun _ => True) ?hr ?hp (fun _ hk => hk) trivial (Below.refl _ _) (Nat.le_refl _) (by simp) ?_; (case hd => rfl); (case hg => rfl); (case hr => first | (go_simp; done) | (go_simp; rfl)); (case hp => exact (Reps.none _ _)); intro C8 w5 Bd hb hg_ hnew_; clear hg_ hnew_; (first | rw [← Ay.out] at Bd | (simp only [Int.reduceToNat] at Bd; rw [← Ay.out] at Bd)); have Au := aM (Kd.R_lower Bd (below_size Z2)); replace Ab := bkB Ab hb; replace HB := hbS Z2 hb; clear hb Bd; obtain ⟨Bi, Bj, Bk⟩ := bz3 Ab; obtain ⟨Bl, Bm, Bn⟩ := fz3 Ab) | ((with_reducible refine gate_dst (N := 23) rfl ?_); refine Kd.R_lit k82 _ 82 ?hg (N := 23) ?hd (xs := ([(⟨(-1), 0⟩ : S82), (⟨0, (-1)⟩ : S82), (⟨0, 1⟩ : S82), (⟨1, 0⟩ : S82)] : List (S82))) (inner := [.int .i64 (-1), .int .i64 0, .int .i64 0, .int .i64 (-1), .int .i64 0, .int .i64 1, .int .i64 1, .int .i64 0]) (ok := fun _ => True) (okp := fun _ => True) ?hr ?hp (fun _ hk => hk) trivial (Below.refl _ _) (Nat.le_refl _) (by simp) ?_; (case hd => rfl); (case hg => rfl); (case hr => first | (go_simp; done) | (go_simp; rfl)); (case hp => exact (Reps.c2 (show Kd.M k82 _ _ _ (⟨(-1), 0⟩ : S82) [.int .i64 (-1), .int .i64 0] from (k82_mkM _ _ _ (⟨(-1), 0⟩ : S82) )) (Reps.c2 (show Kd.M k82 _ _ _ (⟨0, (-1)⟩ : S82) [.int .i64 0, .int .i64 (-1)] from (k82_mkM _ _ _ (⟨0, (-1)⟩ : S82) )) (Reps.c2 (show Kd.M k82 _ _ _ (⟨0, 1⟩ : S82) [.int .i64 0, .int .i64 1] from (k82_mkM _ _ _ (⟨0, 1⟩ : S82) )) (Reps.c2 (show Kd.M k82 _ _ _ (⟨1, 0⟩ : S82) [.int .i64 1, .int .i64 0] from (k82_mkM _ _ _ (⟨1, 0⟩ : S82) )) (Reps.none _ _)))))); intro C9 w8 Bf hb hg_ hnew_; clear hg_ hnew_; (first | rw [← Az.out] at Bf | (simp only [Int.reduceToNat] at Bf; rw [← Az.out] at Bf)); replace Au := roB Au hb; have Ba := aM (Kd.R_lower Bf (below_size Z2)); replace Ab := bkB Ab hb; replace HB := hbS Z2 hb; clear hb Bf; obtain ⟨C4, C5, Cp⟩ := Kd.R_slice Ba.out; subst Cp)))
  go_loopg [5, 25] k (fun kq v5 Dm w' => ∃ (Ar : List Int) (Aa : Int), Dm = .int .i64 Aa ∧ Aside0 (impl_Chart_besides.l0 kq a1 Ar (wrap64 (Int.tdiv a1 Ah)) (Int.tmod a1 Ah) Ac (Ac.length : Int) Aa Ah An Am = some r) ∧ Aside0 (kq ≤ k) ∧ Aside0 (Kd.R (Kd.int .i64) 3 w' w.heap.size (fun _ => True) v5 Ar) ∧ Aside0 (Kd.R k82 82 w' w.heap.size (fun _ => True) (.slice C4 Ac.length C5) Ac) ∧ Aside0 (w'.heap[Ao]? = some (.cells #[.int .i64 Ah, .int .i64 An, (.slice Ap Am.length Aq)] 28 (0, 0))) ∧ Aside0 (Below w.heap.size w w'))
  case atStart => exact ⟨(C3), (0), Z7, H', ⟨Nat.le_refl _⟩, ⟨Z59⟩, ⟨by (with_reducible repeat (first | apply Kd.R_alloc | apply Kd.R_drewN | apply Kd.R_drew)); exact Ba.out⟩, ⟨Z9⟩, ⟨Z2⟩⟩
  case round =>
   clear H'; (try clear c2); (try clear p2); (try clear c3); (try clear c3b0); (try clear c3b1); (try clear c6); (try clear p6); (try clear Bi); (try clear Bj); (try clear Bk); (try clear Bl); (try clear Bm); (try clear Bn); obtain ⟨Ar, Aa, rfl, HA, HK1, Aj, Ai, Ab, HB⟩ := hrel; cases gk with
   | zero => exact absurd HA.out (by simp [impl_Chart_besides.l0])
   | succ k1 =>
    have H := HA.out; clear HA
    simp only [impl_Chart_besides.l0] at H
    by_cases C6 : Aa < (Ac.length : Int)
    ·rw [if_pos C6] at H
     have c11b0 : decide (Aa < (Ac.length : Int)) = true := decide_eq_true C6; clear C6
     by_cases De : 0 ≤ Aa
     ·rw [if_pos De] at H
      have c12b0 : decide (0 ≤ Aa) = true := decide_eq_true De; clear De
      by_cases Df : Aa < (Ac.length : Int)
      ·rw [if_pos Df] at H
       have c13b0 : decide (Aa < (Ac.length : Int)) = true := decide_eq_true Df; clear Df; replace H := Option.bind_eq_some_iff.mp H; obtain ⟨Da, Db, H⟩ := H; replace H : (if Da = true then (if Ar.length < 17592186044416 then (impl_Chart_besides.l0 k1 a1 (Ar ++ [wrap64 ((wrap64 (a1 + (wrap64 (((rd_T82 Ac Aa).f0) * Ah)))) + ((rd_T82 Ac Aa).f1))]) (wrap64 (Int.tdiv a1 Ah)) (Int.tmod a1 Ah) Ac (Ac.length : Int) (wrap64 (Aa + 1)) Ah An Am) else (none)) else (impl_Chart_besides.l0 k1 a1 Ar (wrap64 (Int.tdiv a1 Ah)) (Int.tmod a1 Ah) Ac (Ac.length : Int) (wrap64 (Aa + 1)) Ah An Am)) = some r := H; have C7 := Aside0.mk Db; clear Db
       by_cases Dg : Da = true
       ·subst Dg
        have H1 : (if Ar.length < 17592186044416 then (impl_Chart_besides.l0 k1 a1 (Ar ++ [wrap64 ((wrap64 (a1 + (wrap64 (((rd_T82 Ac Aa).f0) * Ah)))) + ((rd_T82 Ac Aa).f1))]) (wrap64 (Int.tdiv a1 Ah)) (Int.tmod a1 Ah) Ac (Ac.length : Int) (wrap64 (Aa + 1)) Ah An Am) else (none)) = some r := by rw [if_pos rfl] at H; exact H
        clear H; have H := H1; clear H1
        by_cases Dh : Ar.length < 17592186044416
        ·rw [if_pos Dh] at H
         have LMc16 := Aside0.mk Dh; clear Dh; obtain ⟨Dc, Bg⟩ : ∃ y_ : List Int, y_ = (Ar ++ [wrap64 ((wrap64 (a1 + (wrap64 (((rd_T82 Ac Aa).f0) * Ah)))) + ((rd_T82 Ac Aa).f1))]) := ⟨_, rfl⟩
         replace H : (impl_Chart_besides.l0 k1 a1 Dc (wrap64 (Int.tdiv a1 Ah)) (Int.tmod a1 Ah) Ac (Ac.length : Int) (wrap64 (Aa + 1)) Ah An Am) = some r := by first | (rw [Bg]; with_reducible exact H) | (have H2_ := (Option.bind_some _ _).symm.trans H; rw [Bg]; with_reducible exact H2_) | (have H2_ := (Option.bind_some _ _).symm.trans H; with_reducible exact H2_) | with_reducible exact H | (rw [Bg]; exact H) | exact H
         have Cq := Aside0.mk Bg; clear Bg; have H' := Aside0.mk H; clear H; have Bo : 0 ≤ (Aa : Int) := of_decide_eq_true Z3; have Bp : Aa < (Ac.length : Int) := of_decide_eq_true Z3; obtain ⟨ad281, e281, Cs, Ct⟩ := at_T82 (Kd.R_reads' Ai.out).2.2 Aa Bo Bp; cases e281; replace Bo := eq_true Bo; replace Bp := eq_true Bp
         go_wp2_with (first | ((with_reducible refine gate_dst (N := 9) rfl ?_); refine bxE 9 #[.int .i64 0, .int .i64 0] 82 ?_; intro Ad hg Di hbox hb; replace Aj := roB Aj hb; replace Ai := aM (Kd.R_below (Kd.R_elderB Z35 Ad (Nat.le_of_eq hg.symm)) hb); have Ag := aM (hbox); have Bh := gwS hg Z2; have Al := gwS hg Z2; replace HB := hbS Z2 hb; have Ae := nbL hg Ab; have Ak := nbG hg Ab; replace Ab := bkB Ab hb; clear hb hbox hg; have Cx := Ak.out; have Cy := Ae.out; obtain ⟨Bq, Br⟩ := bz2 Ag; obtain ⟨Bs, Bt⟩ := fz2 Ag; obtain ⟨Bu, Bv, Bw⟩ := bz3 Ab; obtain ⟨Bx, Bz, B0⟩ := fz3 Ab) | (go_at_call 84; (with_reducible refine (impl_Chart_hasPlace.calls Ah An _ _ Am (wrap64 ((wrap64 (Int.tdiv a1 Ah)) + ((rd_T82 Ac Aa).f0))) (wrap64 ((Int.tmod a1 Ah) + ((rd_T82 Ac Aa).f1))) true _ ?side1 ?side2 C7.out).mono ?_); (case side1 => exact Kd.C_below Aw.out Z8); (case side2 => exact Ax.out); rintro e Cz ⟨rfl, hb⟩; replace Aj := aM (Kd.R_below (by (with_reducible repeat (first | apply Kd.R_alloc | apply Kd.R_drewN | apply Kd.R_drew)); exact (Kd.R_mono (Kd.R_far (p := ⟨Ad, 1, none⟩) (Kd.R_far (p := ⟨Ad, 0, none⟩) (Kd.R_types Aj.out Ag.out (by decide)) (fun _ hk => hk.2) (.int .i64 ((rd_T82 Ac Aa).f0))) (fun _ hk => hk.2) (.int .i64 ((rd_T82 Ac Aa).f1))) (fun _ h_ => h_.1))) hb); replace Ai := aM (Kd.R_below Z22 hb); replace Ab := aM (blk_below (g := Ao) (o := .cells #[.int .i64 Ah, .int .i64 An, .slice Ap Am.length Aq] 28 (0, 0)) Z20 hb); replace Ag := aM (blk_below (g := Ad) (o := .cells #[.int .i64 ((rd_T82 Ac Aa).f0), .int .i64 ((rd_T82 Ac Aa).f1)] 82 (0, 0)) Z15 hb); replace HB := hbS Z8 hb; (try clear hb); have B2 : Cz.cell? ⟨Ad, 0, none⟩ = some (.int .i64 ((rd_T82 Ac Aa).f0)) := (blk_cell Ag.out 0).trans rfl; have B4 : Cz.cell? ⟨Ad, 1, none⟩ = some (.int .i64 ((rd_T82 Ac Aa).f1)) := (blk_cell Ag.out 1).trans rfl; obtain ⟨B5, B6⟩ := fz2 Ag; obtain ⟨B7, Ca, Cb⟩ := bz3 Ab; obtain ⟨Cc, Cd, Ce⟩ := fz3 Ab) | ((with_reducible refine gate_builtin (b := .append) (xs := #[.tmp 39, .tmp 50]) rfl ?_); at_builtin; refine Kd.R_append (Kd.int .i64) (w0 := w) w.heap.size rfl (.tmp 39) (.tmp 50) 22 3 (.int .i64 0) 8 rfl Try.underlying22 info3 rfl (by decide) (by omega) u5 Ar (wrap64 ((wrap64 (a1 + (wrap64 (((rd_T82 Ac Aa).f0) * Ah)))) + ((rd_T82 Ac Aa).f1))) [.int .i64 (wrap64 ((wrap64 (a1 + (wrap64 (((rd_T82 Ac Aa).f0) * Ah)))) + ((rd_T82 Ac Aa).f1)))] (fun _ => True) (fun _ => False) rfl rfl ?aP (fun _ hk => hk.elim) ?aF ?aO ?aB ?aS ?aL ?_; (case aP => exact rfl); (case aB => exact Z8); (case aF => exact (fun _ _ => trivial)); (case aO => exact Z29); (case aS => exact (below_size Z8)); (case aL => have := LMc16.out; omega); intro Dd Dj ho hb hg hat; rw [← Cq.out] at ho; replace Ai := aM (Kd.R_over' Z35 (Kd.R_typed Z29) (by decide) hg); replace Ab := aM (blk_grown (g := Ao) (o := .cells #[.int .i64 Ah, .int .i64 An, .slice Ap Am.length Aq] 28 (0, 0)) Z9 hg (Kd.R_ne Aj.out Ab.out (by decide))); replace Ag := aM (blk_grown (g := Ad) (o := .cells #[.int .i64 ((rd_T82 Ac Aa).f0), .int .i64 ((rd_T82 Ac Aa).f1)] 82 (0, 0)) Z78 hg (Kd.R_ne Aj.out Ag.out (by decide))); replace HB := aM (hb); have Cr := aM (ho); clear Aj; clear ho hb hg hat))
         repeat (go_quiet (first | ((with_reducible refine gate_dst (N := 9) rfl ?_); refine bxE 9 #[.int .i64 0, .int .i64 0] 82 ?_; intro Ad hg Di hbox hb; replace Aj := roB Aj hb; replace Ai := aM (Kd.R_below (Kd.R_elderB Z35 Ad (Nat.le_of_eq hg.symm)) hb); have Ag := aM (hbox); have Bh := gwS hg Z2; have Al := gwS hg Z2; replace HB := hbS Z2 hb; have Ae := nbL hg Ab; have Ak := nbG hg Ab; replace Ab := bkB Ab hb; clear hb hbox hg; have Cx := Ak.out; have Cy := Ae.out; obtain ⟨Bq, Br⟩ := bz2 Ag; obtain ⟨Bs, Bt⟩ := fz2 Ag; obtain ⟨Bu, Bv, Bw⟩ := bz3 Ab; obtain ⟨Bx, Bz, B0⟩ := fz3 Ab) | (go_at_call 84; (with_reducible refine (impl_Chart_hasPlace.calls Ah An _ _ Am (wrap64 ((wrap64 (Int.tdiv a1 Ah)) + ((rd_T82 Ac Aa).f0))) (wrap64 ((Int.tmod a1 Ah) + ((rd_T82 Ac Aa).f1))) true _ ?side1 ?side2 C7.out).mono ?_); (case side1 => exact Kd.C_below Aw.out Z8); (case side2 => exact Ax.out); rintro e Cz ⟨rfl, hb⟩; replace Aj := aM (Kd.R_below (by (with_reducible repeat (first | apply Kd.R_alloc | apply Kd.R_drewN | apply Kd.R_drew)); exact (Kd.R_mono (Kd.R_far (p := ⟨Ad, 1, none⟩) (Kd.R_far (p := ⟨Ad, 0, none⟩) (Kd.R_types Aj.out Ag.out (by decide)) (fun _ hk => hk.2) (.int .i64 ((rd_T82 Ac Aa).f0))) (fun _ hk => hk.2) (.int .i64 ((rd_T82 Ac Aa).f1))) (fun _ h_ => h_.1))) hb); replace Ai := aM (Kd.R_below Z22 hb); replace Ab := aM (blk_below (g := Ao) (o := .cells #[.int .i64 Ah, .int .i64 An, .slice Ap Am.length Aq] 28 (0, 0)) Z20 hb); replace Ag := aM (blk_below (g := Ad) (o := .cells #[.int .i64 ((rd_T82 Ac Aa).f0), .int .i64 ((rd_T82 Ac Aa).f1)] 82 (0, 0)) Z15 hb); replace HB := hbS Z8 hb; (try clear hb); have B2 : Cz.cell? ⟨Ad, 0, none⟩ = some (.int .i64 ((rd_T82 Ac Aa).f0)) := (blk_cell Ag.out 0).trans rfl; have B4 : Cz.cell? ⟨Ad, 1, none⟩ = some (.int .i64 ((rd_T82 Ac Aa).f1)) := (blk_cell Ag.out 1).trans rfl; obtain ⟨B5, B6⟩ := fz2 Ag; obtain ⟨B7, Ca, Cb⟩ := bz3 Ab; obtain ⟨Cc, Cd, Ce⟩ := fz3 Ab) | ((with_reducible refine gate_builtin (b := .append) (xs := #[.tmp 39, .tmp 50]) rfl ?_); at_builtin; refine Kd.R_append (Kd.int .i64) (w0 := w) w.heap.size rfl (.tmp 39) (.tmp 50) 22 3 (.int .i64 0) 8 rfl Try.underlying22 info3 rfl (by decide) (by omega) u5 Ar (wrap64 ((wrap64 (a1 + (wrap64 (((rd_T82 Ac Aa).f0) * Ah)))) + ((rd_T82 Ac Aa).f1))) [.int .i64 (wrap64 ((wrap64 (a1 + (wrap64 (((rd_T82 Ac Aa).f0) * Ah)))) + ((rd_T82 Ac Aa).f1)))] (fun _ => True) (fun _ => False) rfl rfl ?aP (fun _ hk => hk.elim) ?aF ?aO ?aB ?aS ?aL ?_; (case aP => exact rfl); (case aB => exact Z8); (case aF => exact (fun _ _ => trivial)); (case aO => exact Z29); (case aS => exact (below_size Z8)); (case aL => have := LMc16.out; omega); intro Dd Dj ho hb hg hat; rw [← Cq.out] at ho; replace Ai := aM (Kd.R_over' Z35 (Kd.R_typed Z29) (by decide) hg); replace Ab := aM (blk_grown (g := Ao) (o := .cells #[.int .i64 Ah, .int .i64 An, .slice Ap Am.length Aq] 28 (0, 0)) Z9 hg (Kd.R_ne Aj.out Ab.out (by decide))); replace Ag := aM (blk_grown (g := Ad) (o := .cells #[.int .i64 ((rd_T82 Ac Aa).f0), .int .i64 ((rd_T82 Ac Aa).f1)] 82 (0, 0)) Z78 hg (Kd.R_ne Aj.out Ag.out (by decide))); replace HB := aM (hb); have Cr := aM (ho); clear Aj; clear ho hb hg hat)); try go_wp2_with (first | ((with_reducible refine gate_dst (N := 9) rfl ?_); refine bxE 9 #[.int .i64 0, .int .i64 0] 82 ?_; intro Ad hg Di hbox hb; replace Aj := roB Aj hb; replace Ai := aM (Kd.R_below (Kd.R_elderB Z35 Ad (Nat.le_of_eq hg.symm)) hb); have Ag := aM (hbox); have Bh := gwS hg Z2; have Al := gwS hg Z2; replace HB := hbS Z2 hb; have Ae := nbL hg Ab; have Ak := nbG hg Ab; replace Ab := bkB Ab hb; clear hb hbox hg; have Cx := Ak.out; have Cy := Ae.out; obtain ⟨Bq, Br⟩ := bz2 Ag; obtain ⟨Bs, Bt⟩ := fz2 Ag; obtain ⟨Bu, Bv, Bw⟩ := bz3 Ab; obtain ⟨Bx, Bz, B0⟩ := fz3 Ab) | (go_at_call 84; (with_reducible refine (impl_Chart_hasPlace.calls Ah An _ _ Am (wrap64 ((wrap64 (Int.tdiv a1 Ah)) + ((rd_T82 Ac Aa).f0))) (wrap64 ((Int.tmod a1 Ah) + ((rd_T82 Ac Aa).f1))) true _ ?side1 ?side2 C7.out).mono ?_); (case side1 => exact Kd.C_below Aw.out Z8); (case side2 => exact Ax.out); rintro e Cz ⟨rfl, hb⟩; replace Aj := aM (Kd.R_below (by (with_reducible repeat (first | apply Kd.R_alloc | apply Kd.R_drewN | apply Kd.R_drew)); exact (Kd.R_mono (Kd.R_far (p := ⟨Ad, 1, none⟩) (Kd.R_far (p := ⟨Ad, 0, none⟩) (Kd.R_types Aj.out Ag.out (by decide)) (fun _ hk => hk.2) (.int .i64 ((rd_T82 Ac Aa).f0))) (fun _ hk => hk.2) (.int .i64 ((rd_T82 Ac Aa).f1))) (fun _ h_ => h_.1))) hb); replace Ai := aM (Kd.R_below Z22 hb); replace Ab := aM (blk_below (g := Ao) (o := .cells #[.int .i64 Ah, .int .i64 An, .slice Ap Am.length Aq] 28 (0, 0)) Z20 hb); replace Ag := aM (blk_below (g := Ad) (o := .cells #[.int .i64 ((rd_T82 Ac Aa).f0), .int .i64 ((rd_T82 Ac Aa).f1)] 82 (0, 0)) Z15 hb); replace HB := hbS Z8 hb; (try clear hb); have B2 : Cz.cell? ⟨Ad, 0, none⟩ = some (.int .i64 ((rd_T82 Ac Aa).f0)) := (blk_cell Ag.out 0).trans rfl; have B4 : Cz.cell? ⟨Ad, 1, none⟩ = some (.int .i64 ((rd_T82 Ac Aa).f1)) := (blk_cell Ag.out 1).trans rfl; obtain ⟨B5, B6⟩ := fz2 Ag; obtain ⟨B7, Ca, Cb⟩ := bz3 Ab; obtain ⟨Cc, Cd, Ce⟩ := fz3 Ab) | ((with_reducible refine gate_builtin (b := .append) (xs := #[.tmp 39, .tmp 50]) rfl ?_); at_builtin; refine Kd.R_append (Kd.int .i64) (w0 := w) w.heap.size rfl (.tmp 39) (.tmp 50) 22 3 (.int .i64 0) 8 rfl Try.underlying22 info3 rfl (by decide) (by omega) u5 Ar (wrap64 ((wrap64 (a1 + (wrap64 (((rd_T82 Ac Aa).f0) * Ah)))) + ((rd_T82 Ac Aa).f1))) [.int .i64 (wrap64 ((wrap64 (a1 + (wrap64 (((rd_T82 Ac Aa).f0) * Ah)))) + ((rd_T82 Ac Aa).f1)))] (fun _ => True) (fun _ => False) rfl rfl ?aP (fun _ hk => hk.elim) ?aF ?aO ?aB ?aS ?aL ?_; (case aP => exact rfl); (case aB => exact Z8); (case aF => exact (fun _ _ => trivial)); (case aO => exact Z29); (case aS => exact (below_size Z8)); (case aL => have := LMc16.out; omega); intro Dd Dj ho hb hg hat; rw [← Cq.out] at ho; replace Ai := aM (Kd.R_over' Z35 (Kd.R_typed Z29) (by decide) hg); replace Ab := aM (blk_grown (g := Ao) (o := .cells #[.int .i64 Ah, .int .i64 An, .slice Ap Am.length Aq] 28 (0, 0)) Z9 hg (Kd.R_ne Aj.out Ab.out (by decide))); replace Ag := aM (blk_grown (g := Ad) (o := .cells #[.int .i64 ((rd_T82 Ac Aa).f0), .int .i64 ((rd_T82 Ac Aa).f1)] 82 (0, 0)) Z78 hg (Kd.R_ne Aj.out Ag.out (by decide))); replace HB := aM (hb); have Cr := aM (ho); clear Aj; clear ho hb hg hat)))
         go_roundg k1
         case measure => have := HK1.out; omega
         case rel => exact ⟨(Dc), (wrap64 (Aa + 1)), Z7, H', ⟨Z66⟩, ⟨by (with_reducible repeat (first | apply Kd.R_alloc | apply Kd.R_drewN | apply Kd.R_drew)); exact Cr.out⟩, ⟨Z119⟩, ⟨Z9⟩, ⟨Z8⟩⟩
        ·rw [if_neg Dh] at H
         exact absurd H (by simp)
       ·replace Dg := Bool.eq_false_iff.mpr Dg
        subst Dg
        have H1 : (impl_Chart_besides.l0 k1 a1 Ar (wrap64 (Int.tdiv a1 Ah)) (Int.tmod a1 Ah) Ac (Ac.length : Int) (wrap64 (Aa + 1)) Ah An Am) = some r := by rw [if_neg (show ¬ (false = true) by decide)] at H; exact H
        clear H; have H := H1; clear H1; have H' := Aside0.mk H; clear H; have Bo : 0 ≤ (Aa : Int) := of_decide_eq_true Z3; have Bp : Aa < (Ac.length : Int) := of_decide_eq_true Z3; obtain ⟨ad281, e281, Cs, Ct⟩ := at_T82 (Kd.R_reads' Ai.out).2.2 Aa Bo Bp; cases e281; replace Bo := eq_true Bo; replace Bp := eq_true Bp
        go_wp2_with (first | ((with_reducible refine gate_dst (N := 9) rfl ?_); refine bxE 9 #[.int .i64 0, .int .i64 0] 82 ?_; intro Ad hg Dk hbox hb; replace Aj := roB Aj hb; replace Ai := aM (Kd.R_below (Kd.R_elderB Z35 Ad (Nat.le_of_eq hg.symm)) hb); have Ag := aM (hbox); have Bh := gwS hg Z2; have Al := gwS hg Z2; replace HB := hbS Z2 hb; have Ae := nbL hg Ab; have Ak := nbG hg Ab; replace Ab := bkB Ab hb; clear hb hbox hg; have C0 := Ak.out; have C1 := Ae.out; obtain ⟨Cf, Cg⟩ := bz2 Ag; obtain ⟨Ch, Ci⟩ := fz2 Ag; obtain ⟨Cj, Ck, Cl⟩ := bz3 Ab; obtain ⟨Cm, Cn, Co⟩ := fz3 Ab) | (go_at_call 84; (with_reducible refine (impl_Chart_hasPlace.calls Ah An _ _ Am (wrap64 ((wrap64 (Int.tdiv a1 Ah)) + ((rd_T82 Ac Aa).f0))) (wrap64 ((Int.tmod a1 Ah) + ((rd_T82 Ac Aa).f1))) false _ ?side1 ?side2 C7.out).mono ?_); (case side1 => exact Kd.C_below Aw.out Z8); (case side2 => exact Ax.out); rintro e Dl ⟨rfl, hb⟩; replace Aj := aM (Kd.R_below (by (with_reducible repeat (first | apply Kd.R_alloc | apply Kd.R_drewN | apply Kd.R_drew)); exact (Kd.R_mono (Kd.R_far (p := ⟨Ad, 1, none⟩) (Kd.R_far (p := ⟨Ad, 0, none⟩) (Kd.R_types Aj.out Ag.out (by decide)) (fun _ hk => hk.2) (.int .i64 ((rd_T82 Ac Aa).f0))) (fun _ hk => hk.2) (.int .i64 ((rd_T82 Ac Aa).f1))) (fun _ h_ => h_.1))) hb); replace Ai := aM (Kd.R_below Z22 hb); replace Ab := aM (blk_below (g := Ao) (o := .cells #[.int .i64 Ah, .int .i64 An, .slice Ap Am.length Aq] 28 (0, 0)) Z20 hb); replace Ag := aM (blk_below (g := Ad) (o := .cells #[.int .i64 ((rd_T82 Ac Aa).f0), .int .i64 ((rd_T82 Ac Aa).f1)] 82 (0, 0)) Z15 hb); replace HB := hbS Z8 hb; (try clear hb)))
        repeat (go_quiet (first | ((with_reducible refine gate_dst (N := 9) rfl ?_); refine bxE 9 #[.int .i64 0, .int .i64 0] 82 ?_; intro Ad hg Dk hbox hb; replace Aj := roB Aj hb; replace Ai := aM (Kd.R_below (Kd.R_elderB Z35 Ad (Nat.le_of_eq hg.symm)) hb); have Ag := aM (hbox); have Bh := gwS hg Z2; have Al := gwS hg Z2; replace HB := hbS Z2 hb; have Ae := nbL hg Ab; have Ak := nbG hg Ab; replace Ab := bkB Ab hb; clear hb hbox hg; have C0 := Ak.out; have C1 := Ae.out; obtain ⟨Cf, Cg⟩ := bz2 Ag; obtain ⟨Ch, Ci⟩ := fz2 Ag; obtain ⟨Cj, Ck, Cl⟩ := bz3 Ab; obtain ⟨Cm, Cn, Co⟩ := fz3 Ab) | (go_at_call 84; (with_reducible refine (impl_Chart_hasPlace.calls Ah An _ _ Am (wrap64 ((wrap64 (Int.tdiv a1 Ah)) + ((rd_T82 Ac Aa).f0))) (wrap64 ((Int.tmod a1 Ah) + ((rd_T82 Ac Aa).f1))) false _ ?side1 ?side2 C7.out).mono ?_); (case side1 => exact Kd.C_below Aw.out Z8); (case side2 => exact Ax.out); rintro e Dl ⟨rfl, hb⟩; replace Aj := aM (Kd.R_below (by (with_reducible repeat (first | apply Kd.R_alloc | apply Kd.R_drewN | apply Kd.R_drew)); exact (Kd.R_mono (Kd.R_far (p := ⟨Ad, 1, none⟩) (Kd.R_far (p := ⟨Ad, 0, none⟩) (Kd.R_types Aj.out Ag.out (by decide)) (fun _ hk => hk.2) (.int .i64 ((rd_T82 Ac Aa).f0))) (fun _ hk => hk.2) (.int .i64 ((rd_T82 Ac Aa).f1))) (fun _ h_ => h_.1))) hb); replace Ai := aM (Kd.R_below Z22 hb); replace Ab := aM (blk_below (g := Ao) (o := .cells #[.int .i64 Ah, .int .i64 An, .slice Ap Am.length Aq] 28 (0, 0)) Z20 hb); replace Ag := aM (blk_below (g := Ad) (o := .cells #[.int .i64 ((rd_T82 Ac Aa).f0), .int .i64 ((rd_T82 Ac Aa).f1)] 82 (0, 0)) Z15 hb); replace HB := hbS Z8 hb; (try clear hb))); try go_wp2_with (first | ((with_reducible refine gate_dst (N := 9) rfl ?_); refine bxE 9 #[.int .i64 0, .int .i64 0] 82 ?_; intro Ad hg Dk hbox hb; replace Aj := roB Aj hb; replace Ai := aM (Kd.R_below (Kd.R_elderB Z35 Ad (Nat.le_of_eq hg.symm)) hb); have Ag := aM (hbox); have Bh := gwS hg Z2; have Al := gwS hg Z2; replace HB := hbS Z2 hb; have Ae := nbL hg Ab; have Ak := nbG hg Ab; replace Ab := bkB Ab hb; clear hb hbox hg; have C0 := Ak.out; have C1 := Ae.out; obtain ⟨Cf, Cg⟩ := bz2 Ag; obtain ⟨Ch, Ci⟩ := fz2 Ag; obtain ⟨Cj, Ck, Cl⟩ := bz3 Ab; obtain ⟨Cm, Cn, Co⟩ := fz3 Ab) | (go_at_call 84; (with_reducible refine (impl_Chart_hasPlace.calls Ah An _ _ Am (wrap64 ((wrap64 (Int.tdiv a1 Ah)) + ((rd_T82 Ac Aa).f0))) (wrap64 ((Int.tmod a1 Ah) + ((rd_T82 Ac Aa).f1))) false _ ?side1 ?side2 C7.out).mono ?_); (case side1 => exact Kd.C_below Aw.out Z8); (case side2 => exact Ax.out); rintro e Dl ⟨rfl, hb⟩; replace Aj := aM (Kd.R_below (by (with_reducible repeat (first | apply Kd.R_alloc | apply Kd.R_drewN | apply Kd.R_drew)); exact (Kd.R_mono (Kd.R_far (p := ⟨Ad, 1, none⟩) (Kd.R_far (p := ⟨Ad, 0, none⟩) (Kd.R_types Aj.out Ag.out (by decide)) (fun _ hk => hk.2) (.int .i64 ((rd_T82 Ac Aa).f0))) (fun _ hk => hk.2) (.int .i64 ((rd_T82 Ac Aa).f1))) (fun _ h_ => h_.1))) hb); replace Ai := aM (Kd.R_below Z22 hb); replace Ab := aM (blk_below (g := Ao) (o := .cells #[.int .i64 Ah, .int .i64 An, .slice Ap Am.length Aq] 28 (0, 0)) Z20 hb); replace Ag := aM (blk_below (g := Ad) (o := .cells #[.int .i64 ((rd_T82 Ac Aa).f0), .int .i64 ((rd_T82 Ac Aa).f1)] 82 (0, 0)) Z15 hb); replace HB := hbS Z8 hb; (try clear hb))))
        go_roundg k1
        case measure => have := HK1.out; omega
        case rel => exact ⟨(Ar), (wrap64 (Aa + 1)), Z7, H', ⟨Z66⟩, ⟨Z29⟩, ⟨Z119⟩, ⟨Z9⟩, ⟨Z8⟩⟩
      ·rw [if_neg Df] at H
       exact absurd H (by simp)
     ·rw [if_neg De] at H
      exact absurd H (by simp)
    ·rw [if_neg C6] at H
     have c11b0 : decide (Aa < (Ac.length : Int)) = false := decide_eq_false C6; clear C6; obtain rfl := Option.some.inj H
     go_wp2
     repeat (go_quiet (fail); try go_wp2)
     go_ret
     exact ⟨_, Z6, Z29, Z2⟩
def bits_Mul64.f (a0 : Int) (a1 : Int) : Option (Int × Int) := some (IntKind.u64.wrap ((IntKind.u64.wrap ((IntKind.u64.wrap ((a0 / 4294967296) * (a1 / 4294967296))) + ((IntKind.u64.wrap ((IntKind.u64.wrap ((a0 / 4294967296) * (Go.bits .and .u64 a1 4294967295))) + ((IntKind.u64.wrap ((Go.bits .and .u64 a0 4294967295) * (Go.bits .and .u64 a1 4294967295))) / 4294967296))) / 4294967296))) + ((IntKind.u64.wrap ((Go.bits .and .u64 (IntKind.u64.wrap ((IntKind.u64.wrap ((a0 / 4294967296) * (Go.bits .and .u64 a1 4294967295))) + ((IntKind.u64.wrap ((Go.bits .and .u64 a0 4294967295) * (Go.bits .and .u64 a1 4294967295))) / 4294967296))) 4294967295) + (IntKind.u64.wrap ((Go.bits .and .u64 a0 4294967295) * (a1 / 4294967296))))) / 4294967296)), IntKind.u64.wrap (a0 * a1))
theorem bits_Mul64.calls (a0 : Int) (a1 : Int) (r1 : Int) (r2 : Int) (w : World) (h : bits_Mul64.f a0 a1 = some (r1, r2)) :
  Calls Try.prog 109 #[.int .u64 a0, .int .u64 a1] w fun e w' => e = .returned (.tuple #[.int .u64 r1, .int .u64 r2]) ∧ Drawn0 w w' := by
 have H : (some (IntKind.u64.wrap ((IntKind.u64.wrap ((IntKind.u64.wrap ((a0 / 4294967296) * (a1 / 4294967296))) + ((IntKind.u64.wrap ((IntKind.u64.wrap ((a0 / 4294967296) * (Go.bits .and .u64 a1 4294967295))) + ((IntKind.u64.wrap ((Go.bits .and .u64 a0 4294967295) * (Go.bits .and .u64 a1 4294967295))) / 4294967296))) / 4294967296))) + ((IntKind.u64.wrap ((Go.bits .and .u64 (IntKind.u64.wrap ((IntKind.u64.wrap ((a0 / 4294967296) * (Go.bits .and .u64 a1 4294967295))) + ((IntKind.u64.wrap ((Go.bits .and .u64 a0 4294967295) * (Go.bits .and .u64 a1 4294967295))) / 4294967296))) 4294967295) + (IntKind.u64.wrap ((Go.bits .and .u64 a0 4294967295) * (a1 / 4294967296))))) / 4294967296)), IntKind.u64.wrap (a0 * a1))) = some (r1, r2) := h; clear h
 simp only [Option.some.injEq, Prod.mk.injEq] at H
 obtain ⟨rfl, rfl⟩ := H
 go_enter Try.func109, Try.ntmps109
 go_wp2
 go_ret2
 exact ⟨Z7, Z23⟩
def bits_Mul.f (a0 : Int) (a1 : Int) : Option (Int × Int) := (bits_Mul64.f a0 a1).bind fun bt287 => (some (bt287.1, bt287.2))
theorem bits_Mul.calls (a0 : Int) (a1 : Int) (r1 : Int) (r2 : Int) (w : World) (h : bits_Mul.f a0 a1 = some (r1, r2)) :
  Calls Try.prog 95 #[.int .u64 a0, .int .u64 a1] w fun e w' => e = .returned (.tuple #[.int .u64 r1, .int .u64 r2]) ∧ Drawn0 w w' := by
 have H : ((bits_Mul64.f a0 a1).bind fun Aa => (some (Aa.1, Aa.2))) = some (r1, r2) := h; clear h; replace H := Option.bind_eq_some_iff.mp H; obtain ⟨⟨Ab, Ac⟩, Ad, H⟩ := H; replace H : (some (Ab, Ac)) = some (r1, r2) := H; have A3 := Aside0.mk Ad; clear Ad
 simp only [Option.some.injEq, Prod.mk.injEq] at H
 obtain ⟨rfl, rfl⟩ := H
 go_enter Try.func95, Try.ntmps95
 go_wp2_with (first | ((with_reducible refine gate_callee (f := 109) rfl ?_); refine glE (some 25) Try.func109 #[.int .u64 a0, .int .u64 a1] ?_; (with_reducible refine (bits_Mul64.calls a0 a1 Ab Ac _ A3.out).mono ?_); rintro e w' ⟨rfl, ⟨nd, rfl⟩⟩; refine ⟨_, rfl, ?_⟩))
 go_ret2
 exact ⟨Z7, Z23⟩
theorem u64_id (n : Int) (h0 : 0 ≤ n) (h1 : n < 18446744073709551616) : IntKind.u64.wrap n = n := by
 have e : (2 : Int) ^ IntKind.u64.bits = 18446744073709551616 := by decide
 unfold IntKind.wrap
 rw [e]
 simp only [IntKind.signed, Bool.false_and, Bool.false_eq_true, if_false]
 exact Int.emod_eq_of_lt h0 h1
theorem mul_small : ∀ n : Fin 65, bits_Mul.f 1 (n.val : Int) = some (0, (n.val : Int)) := by decide +kernel
theorem rep_row {w4 : World} {base n : Nat} {v : Value} (h : Kd.R (Kd.int .i64) 3 w4 base (fun _ => True) v (List.replicate n (0 : Int))) (hnew : ∃ b, v.ownBlock = some b ∧ base ≤ b) :
  ∃ (g cap : Nat) (cur : List Value), v = .slice (some ⟨g, 0, none⟩) n cap ∧ base ≤ g ∧ w4.heap[g]? = some (.cells cur.toArray 3 (0, 0)) ∧ n ≤ cap ∧ cap ≤ maxLen ∧ cur.length = cap := by
 obtain ⟨inner, ⟨_, h2⟩, _⟩ := h.2; rw [List.length_replicate] at h2
 rcases h2 with ⟨rfl, h0⟩ | ⟨g, cap, cur, rfl, hg, hc, hn, hm, hsz, _⟩
 ·exact absurd hnew (by simp [Value.ownBlock])
 ·exact ⟨g, cap, cur.toList, rfl, hg, by rw [Array.toArray_toList]; exact hc, hn, hm, by rw [Array.length_toList, hsz]; exact Nat.mul_one _⟩
theorem rep_hpos {w : World} {ad : Addr} {x : Int} {m : Nat} (hx : w.cell? (ad.add 0) = some (.int .i64 x)) (j : Nat) (v : Value) (hj : (List.replicate (min 1 m) (Value.int .i64 x))[j]? = some v) : w.cell? (ad.add j) = some v := by
 rw [List.getElem?_replicate] at hj
 split at hj
 ·obtain rfl : j = 0 := by omega
  rw [← Option.some.inj hj]
  exact hx
 ·cases hj
theorem rep_cell {w w4 : World} {ad : Addr} {x : Int} (h : Kd.C (Kd.int .i64) w (some ad) [x].length [x]) (hb : Below w.heap.size w w4) : w4.cell? (ad.add 0) = some (.int .i64 x) := by
 obtain ⟨ad2, e2, Aa⟩ := Kd.at_int (Kd.C_below h hb) 0 (by omega) (by simp); cases e2
 exact Aa
theorem rep_fin {w4 : World} {base g cap n : Nat} {x : Int} {cr : List Value} (hg : w4.heap[g]? = some (.cells cr.toArray 3 (0, 0))) (hl : cr.length = cap) (hn : n ≤ cap) (hcm : cap ≤ maxLen) (hj : ∀ j, j < n → cr[j]? = some (.int .i64 x)) (hb : base ≤ g) :
  Kd.R (Kd.int .i64) 3 w4 base (fun _ => True) (.slice (some ⟨g, 0, none⟩) n cap) (List.replicate n x) := by
 have ht : cr.take n = List.replicate n (.int .i64 x) := by
  apply List.ext_getElem?
  intro j; rw [List.getElem?_take, List.getElem?_replicate]
  by_cases h : j < n
  ·rw [if_pos h, if_pos h, hj j h]
  ·rw [if_neg h, if_neg h]
 refine ⟨fun _ _ => trivial, List.replicate n (.int .i64 x), ⟨?_, .inr ⟨g, cap, cr.toArray, ?_, hb, hg, ?_, hcm, ?_, ?_⟩⟩, ?_, ?_⟩
 ·rw [List.length_replicate, List.length_replicate]; exact (Nat.mul_one _).symm
 ·rw [List.length_replicate]
 ·rw [List.length_replicate]; exact hn
 ·rw [List.size_toArray, hl]; exact (Nat.mul_one _).symm
 ·rw [List.length_replicate, show n * (Kd.int .i64).sz = n from Nat.mul_one _]; exact ht
 ·rw [List.length_replicate, List.length_replicate]; exact (Nat.mul_one _).symm
 ·intro m p hp
  rw [List.getElem?_replicate] at hp
  split at hp
  ·rw [← Option.some.inj hp, show (Kd.int .i64).sz = 1 from rfl, Nat.mul_one, List.drop_replicate, List.take_replicate, show min 1 (n - m) = 1 by omega]
   rfl
  ·cases hp
theorem rep_start {cur : List Value} {n cap : Nat} {x : Int} (hl : cur.length = cap) (hn : n ≤ cap) : (splice cur 0 (List.replicate (min 1 n) (Value.int .i64 x))).length = cap ∧ ∀ j, j < min 1 n → (splice cur 0 (List.replicate (min 1 n) (Value.int .i64 x)))[j]? = some (.int .i64 x) := by
 refine ⟨by rw [length_splice _ _ _ Z140]; exact hl, fun j hj => ?_⟩
 unfold splice
 rw [List.take_zero, List.nil_append, List.getElem?_append_left (by rw [List.length_replicate]; exact hj), List.getElem?_replicate, if_pos hj]
theorem rep_hpos2 {w : World} {g n m : Nat} {x : Int} {cr : List Value} (hg : w.heap[g]? = some (.cells cr.toArray 3 (0, 0))) (hj : ∀ j, j < m → cr[j]? = some (.int .i64 x)) (j : Nat) (v : Value) (h : (List.replicate (min m (n - m)) (Value.int .i64 x))[j]? = some v) : w.cell? ((⟨g, 0, none⟩ : Addr).add j) = some v := by
 rw [List.getElem?_replicate] at h
 split at h
 ·rw [← Option.some.inj h]
  have e : (⟨g, 0, none⟩ : Addr).add j = ⟨g, j, none⟩ := by unfold Addr.add; split <;> simp_all
  rw [e, blk_cell hg j]
  simpa using hj j (by omega)
 ·cases h
theorem rep_next {cr : List Value} {m n cap : Nat} {x : Int} (hl : cr.length = cap) (hn : n ≤ cap) (hm : m < n) (hj : ∀ j, j < m → cr[j]? = some (.int .i64 x)) : (splice cr m (List.replicate (min m (n - m)) (Value.int .i64 x))).length = cap ∧ ∀ j, j < m + min m (n - m) → (splice cr m (List.replicate (min m (n - m)) (Value.int .i64 x)))[j]? = some (.int .i64 x) := by
 refine ⟨by rw [length_splice _ _ _ Z140]; exact hl, fun j hj2 => ?_⟩
 unfold splice
 have hlt : (cr.take m).length = m := by rw [List.length_take]; omega
 by_cases h : j < m
 ·rw [List.getElem?_append_left (by omega), List.getElem?_take, if_pos h]
  exact hj j h
 ·rw [List.getElem?_append_right (by omega), hlt, List.getElem?_append_left Z140, List.getElem?_replicate, if_pos (by omega)]
def slices_Repeat_int_int.f (l0 : List Int) (a1 : Int) : Option (List Int) := if l0.length = 1 ∧ 0 ≤ a1 ∧ a1 ≤ 64 then some (List.replicate a1.toNat (l0.getD 0 0)) else none
set_option maxHeartbeats 4000000 in
set_option maxRecDepth 100000 in
theorem slices_Repeat_int_int.calls (A0 : Option Addr) (c0 : Nat) (l0 : List Int) (a1 : Int) (r : List Int) (w : World) (Ac : Kd.C (Kd.int .i64) w A0 l0.length l0) (Ag : l0.length ≤ c0) (h : slices_Repeat_int_int.f l0 a1 = some r) :
  Calls Try.prog 79 #[.slice A0 l0.length c0, .int .i64 a1] w fun e w' => ∃ v0_ : Value, e = .returned (v0_) ∧ Kd.R (Kd.int .i64) 3 w' w.heap.size (fun _ => True) v0_ r ∧ Below w.heap.size w w' := by
 unfold slices_Repeat_int_int.f at h
 by_cases hq : l0.length = 1 ∧ 0 ≤ a1 ∧ a1 ≤ 64
 case neg => rw [if_neg hq] at h; cases h
 rw [if_pos hq] at h; obtain ⟨hl, ha0, ha1⟩ := hq
 obtain ⟨x, rfl⟩ : ∃ x, l0 = [x] := by
  cases l0 with
  | nil => simp at hl
  | cons x t => cases t with
   | nil => exact ⟨x, rfl⟩
   | cons y t => simp at hl
 obtain ⟨n, rfl⟩ : ∃ n : Nat, a1 = (n : Int) := ⟨a1.toNat, by omega⟩; have Ae := Option.some.inj h; rw [Int.toNat_natCast] at Ae; subst Ae; clear h hl; obtain ⟨ad, e0, Ah⟩ := Kd.at_int Ac 0 (by omega) (by simp); cases e0; have hmul := bits_Mul.calls 1 (n : Int) 0 (n : Int) w (mul_small ⟨n, by omega⟩); have HM := Aside0.mk hmul; have HX := Aside0.mk Ah; have HN := aM (show n ≤ 64 by omega); have HR := Aside0.mk Ac; clear hmul Ac Ag ha1; have cu : IntKind.u64.wrap (n : Int) = (n : Int) := u64_id _ (by omega) Z136; have cz0 : decide ((n : Int) < 0) = false := decide_eq_false (by omega)
 go_enter Try.func79, Try.ntmps79
 go_wp2_with fail
 refine HM.out.mono ?_; rintro e w1 ⟨rfl, nd, rfl⟩; have c1 : decide ((n : Int) > 9223372036854775807) = false := decide_eq_false Z136; have c2 : wrap64 (n : Int) = (n : Int) := wrap_id _ (by omega) Z136; have C2 := Aside0.mk c2
 go_wp2_with (first | ((with_reducible refine gate_dst (N := 30) rfl ?_); refine Kd.R_make (Kd.int .i64) _ 3 rfl (N := 30) rfl 22 _ _ rfl (wrap64 (n : Int)) rfl rfl Try.underlying22 (.int .i64 0) 8 info3 rfl (by decide) (by omega) 0 (ok := fun _ => True) (okp := fun _ => True) rfl (fun _ hk => hk) trivial (by rw [C2.out]; omega) (by rw [C2.out]; have := HN.out; omega) (Below.refl _ _) (Nat.le_refl _) ?_; intro Ai w4 Ad hb hg_ hnew_; rw [C2.out, Int.toNat_natCast] at Ad; obtain ⟨g, cap, cur, rfl, hge, hcell, hnc, hcm, hsz⟩ := rep_row Ad hnew_; have HB := aM (show Below w.heap.size w w4 from below_step Z130 hb); have HG := Aside0.mk hcell; have HXC := aM (rep_cell HR.out HB.out); have HGE := aM (show w.heap.size ≤ g from Nat.le_trans (below_size (Z130 : Below w.heap.size w (w.drewN nd))) hge); have HNC := Aside0.mk hnc; have HCM := Aside0.mk hcm; have HSZ := Aside0.mk hsz; clear Ad hb hg_ hnew_ hge hcell hnc hcm hsz))
 have hrun := run_copy_row (P := Try.prog) w4 22 22 3 3 g 0 n cap ad 1 c0 cur.toArray 3 (List.replicate (min 1 n) (.int .i64 x)) Try.underlying22 Z33 HG.out (by rw [List.length_replicate]) (rep_hpos HXC.out) (by rw [List.length_replicate]; have := HSZ.out; have := HNC.out; simp only [List.size_toArray]; omega) (fun v hv => by rw [(List.mem_replicate.1 hv).2]; rfl); rw [hrun]; have hg5 := setRow_heap w4 g _ ((cur.toArray.toList.take 0 ++ List.replicate (min 1 n) (Value.int .i64 x) ++ cur.toArray.toList.drop (0 + (List.replicate (min 1 n) (Value.int .i64 x)).length)).toArray) 3 _ HG.out; have hb5 := below_setRow HB.out HGE.out ((cur.toArray.toList.take 0 ++ List.replicate (min 1 n) (Value.int .i64 x) ++ cur.toArray.toList.drop (0 + (List.replicate (min 1 n) (Value.int .i64 x)).length)).toArray); clear hrun
 generalize w4.setRow g ((cur.toArray.toList.take 0 ++ List.replicate (min 1 n) (Value.int .i64 x) ++ cur.toArray.toList.drop (0 + (List.replicate (min 1 n) (Value.int .i64 x)).length)).toArray) = w5 at hg5 hb5 ⊢
 have e5 : ((cur.toArray.toList.take 0 ++ List.replicate (min 1 n) (Value.int .i64 x) ++ cur.toArray.toList.drop (0 + (List.replicate (min 1 n) (Value.int .i64 x)).length)).toArray) = (splice cur 0 (List.replicate (min 1 n) (Value.int .i64 x))).toArray := by simp [splice]
 rw [e5] at hg5; rw [List.length_replicate]; have HG5 := Aside0.mk hg5; have Aj := Aside0.mk hb5; clear hg5 hb5 e5
 go_wp2_with fail
 go_loopg [8] n (fun gg s8 wr => ∃ (m : Nat) (cr : List Value), s8 = .int .i64 (m : Int) ∧ Aside0 (m ≤ n ∧ (m = 0 → n = 0) ∧ n - m ≤ gg) ∧ Aside0 (wr.heap[g]? = some (.cells cr.toArray 3 (0, 0))) ∧ Aside0 (cr.length = cap ∧ ∀ j, j < m → cr[j]? = some (.int .i64 x)) ∧ Aside0 (Below w.heap.size w wr))
 case atStart => exact ⟨min 1 n, _, rfl, ⟨by omega, by omega, by omega⟩, HG5, ⟨rep_start HSZ.out HNC.out⟩, Aj⟩
 case round =>
  obtain ⟨m, cr, rfl, Ab, HG6, Aa, Af⟩ := hrel
  by_cases hlt : m < n
  ·have d0 : decide ((m : Int) < (n : Int)) = true := decide_eq_true (by omega)
   have HLT := Aside0.mk hlt; have d1 : decide (0 ≤ (m : Int)) = true := decide_eq_true (by omega); have d2 : decide ((m : Int) ≤ (n : Int)) = true := decide_eq_true (by omega); have d3 : decide ((m : Int) ≤ (cap : Int)) = true := decide_eq_true (by have := HNC.out; omega)
   have d4 : wrap64 ((m : Int) + ((min m (n - m) : Nat) : Int)) = ((m + min m (n - m) : Nat) : Int) := by rw [wrap_id _ (by omega) Z136]; omega
   have d5 : (m ≤ n) = True := eq_true (by omega); have d8 : (m < n) = True := eq_true hlt; have d6 : (cap = m) = False := eq_false (by have := HNC.out; omega); have d7 : (m ≤ cap) = True := eq_true (by have := HNC.out; omega); clear hlt
   go_wp2_with fail
   refine start_ (ds := []) (n := 10) (S := fun _ => True) #[false, false, false, false, false, false, false, false, false, false] rfl rfl rfl trivial (fun hHeld => ?_); have HG8 := aM (show wr.drew.heap[g]? = some (.cells cr.toArray 3 (0, 0)) from HG6.out); have Ak := aM (show Below w.heap.size w wr.drew from below_drew1 Af.out); refine take_ (i := 0) (N := some 38) (v := ?_) (a' := ?_) #[true, false, false, false, false, false, false, false, false, false] rfl rfl Z33 (fun _ _ _ h => h) (Or.inl ⟨by rfl, ?_⟩) hHeld ?_ ?_
   rotate_left
   ·rintro w' -
    go_simp
    with_reducible rfl
   rotate_left
   ·simp only [Act.put, List.setIfInBounds_toArray, List.set_cons_zero, List.set_cons_succ]
    rfl
   refine take_ (i := 1) (N := some 39) (v := ?_) (a' := ?_) #[true, true, false, false, false, false, false, false, false, false] rfl rfl Z33 (fun _ _ _ h => h) (Or.inl ⟨by rfl, ?_⟩) hHeld ?_ ?_
   rotate_left
   ·rintro w' -
    go_simp
    with_reducible rfl
   rotate_left
   ·simp only [Act.put, List.setIfInBounds_toArray, List.set_cons_zero, List.set_cons_succ]
    rfl
   refine take_ (i := 2) (N := some 40) (v := ?_) (a' := ?_) #[true, true, true, false, false, false, false, false, false, false] rfl rfl Z33 (fun _ _ _ h => h) (Or.inl ⟨by rfl, ?_⟩) hHeld ?_ ?_
   rotate_left
   ·rintro w' -
    go_simp
    with_reducible rfl
   rotate_left
   ·simp only [Act.put, List.setIfInBounds_toArray, List.set_cons_zero, List.set_cons_succ]
    rfl
   refine take_ (i := 3) (N := some 41) (v := ?_) (a' := ?_) #[true, true, true, true, false, false, false, false, false, false] rfl rfl Z33 (fun _ _ _ h => h) (Or.inl ⟨by rfl, ?_⟩) hHeld ?_ ?_
   rotate_left
   ·rintro w' -
    go_simp
    with_reducible rfl
   rotate_left
   ·simp only [Act.put, List.setIfInBounds_toArray, List.set_cons_zero, List.set_cons_succ]
    rfl
   refine take_ (i := 4) (N := some 42) (v := ?_) (a' := ?_) #[true, true, true, true, true, false, false, false, false, false] rfl rfl Z33 (fun _ _ _ h => h) (Or.inl ⟨by rfl, ?_⟩) hHeld ?_ ?_
   rotate_left
   ·rintro w' -
    go_simp
    with_reducible rfl
   rotate_left
   ·simp only [Act.put, List.setIfInBounds_toArray, List.set_cons_zero, List.set_cons_succ]
    rfl
   refine take_ (i := 5) (N := some 43) (v := ?_) (a' := ?_) #[true, true, true, true, true, true, false, false, false, false] rfl rfl Z33 (fun _ _ _ h => h) (Or.inl ⟨by rfl, ?_⟩) hHeld ?_ ?_
   rotate_left
   ·rintro w' -
    go_simp
    with_reducible rfl
   rotate_left
   ·simp only [Act.put, List.setIfInBounds_toArray, List.set_cons_zero, List.set_cons_succ]
    rfl
   refine take_ (i := 6) (N := some 44) (v := ?_) (a' := ?_) #[true, true, true, true, true, true, true, false, false, false] rfl rfl Z33 (fun _ _ _ h => h) (Or.inl ⟨by rfl, ?_⟩) hHeld ?_ ?_
   rotate_left
   ·rintro w' -
    go_simp
    with_reducible rfl
   rotate_left
   ·simp only [Act.put, List.setIfInBounds_toArray, List.set_cons_zero, List.set_cons_succ]
    rfl
   refine one_ (i := 7) (N := some 45) #[true, true, true, true, true, true, true, true, false, false] rfl rfl Z33 (by decide) (fun K hK => ?_); refine step_copy_splice rfl (.tmp 41) (.tmp 44) 22 22 rfl 3 Try.underlying22 Z33 (some ⟨g, m, none⟩) (some ⟨g, 0, none⟩) (n - m) (cap - m) m cap rfl rfl g m cr 3 HG8.out (List.replicate (min m (n - m)) (.int .i64 x)) (by rw [List.length_replicate]) (fun _ => ⟨rfl, _, rfl, rep_hpos2 HG8.out Aa.out.2⟩) (by rw [List.length_replicate]; have := Aa.out.1; have := HNC.out; have := HLT.out; omega) (fun v hv => by rw [(List.mem_replicate.1 hv).2]; rfl) w.heap.size w Ak.out HGE.out ?_; intro w7 hg7 hb7; refine hK.out (Act.put _ (some 45) _) _ trivial (fun _ => ?_)
   simp only [Act.put, List.setIfInBounds_toArray, List.set_cons_zero, List.set_cons_succ, List.length_replicate]
   refine take_ (i := 8) (N := some 46) (v := ?_) (a' := ?_) #[true, true, true, true, true, true, true, true, true, false] rfl rfl Z33 (fun _ _ _ h => h) (Or.inl ⟨by rfl, ?_⟩) hHeld ?_ ?_
   rotate_left
   ·rintro w' -
    go_simp
    with_reducible rfl
   rotate_left
   ·simp only [Act.put, List.setIfInBounds_toArray, List.set_cons_zero, List.set_cons_succ]
    rfl
   refine take_ (i := 9) (N := some 8) (v := ?_) (a' := ?_) #[true, true, true, true, true, true, true, true, true, true] rfl rfl Z33 (fun _ _ _ h => h) (Or.inl ⟨by rfl, ?_⟩) hHeld ?_ ?_
   rotate_left
   ·rintro w' -
    go_simp
    with_reducible rfl
   rotate_left
   ·simp only [Act.put, List.setIfInBounds_toArray, List.set_cons_zero, List.set_cons_succ]
    rfl
   refine done_ Z33 ?_; have HG9 := Aside0.mk hg7; have Al := Aside0.mk hb7; clear hg7 hb7
   go_wp2
   go_roundg (n - (m + min m (n - m)))
   case measure => have := Ab.out; have := HLT.out; omega
   case rel => exact ⟨m + min m (n - m), _, by simp only [i64_w, d4], ⟨by have := Ab.out; have := HLT.out; omega, by have := Ab.out; have := HLT.out; omega, by omega⟩, HG9, ⟨rep_next Aa.out.1 HNC.out HLT.out Aa.out.2⟩, Al⟩
  ·have d0 : decide ((m : Int) < (n : Int)) = false := decide_eq_false (by omega)
   go_wp2
   go_ret
   obtain rfl : m = n := by have := Ab.out; omega
   exact ⟨_, rfl, rep_fin HG6.out Aa.out.1 HNC.out HCM.out Aa.out.2 HGE.out, Af.out⟩
mutual
def impl_Chart_areas.l0 : Nat → List Int → Int → Int → Int → Int → Int → List Int → Option (List Int × Int)
 | 0, _, _, _, _, _, _, _ => none
 | k + 1, x4, x5, x17, x18, x290000, x290001, x290002 => if x18 < x17 then (if 0 ≤ x18 then (if x18 < (x4.length : Int) then (if (rd x4 x18) ≥ 0 then (impl_Chart_areas.l0 k x4 x5 x17 (wrap64 (x18 + 1)) x290000 x290001 x290002) else (impl_Chart_areas.l1 k (x4.set (x18 : Int).toNat x5) x5 x18 (([x18] : List Int)) 0 x17 x18 x290000 x290001 x290002)) else (none)) else (none)) else (some (x4, x5))
def impl_Chart_areas.l1 : Nat → List Int → Int → Int → List Int → Int → Int → Int → Int → Int → List Int → Option (List Int × Int)
 | 0, _, _, _, _, _, _, _, _, _, _ => none
 | k + 1, x4, x5, x6, x7, x8, x17, x18, x290000, x290001, x290002 => if x8 < (x7.length : Int) then (if 0 ≤ x8 then ((impl_Chart_besides.f k x290000 x290001 x290002 (rd x7 x8)).bind fun t302 => (impl_Chart_areas.l2 k x4 x5 x6 x7 x8 x17 x18 t302 (t302.length : Int) 0 x290000 x290001 x290002)) else (none)) else (impl_Chart_areas.l0 k x4 (wrap64 (x5 + 1)) x17 (wrap64 (x18 + 1)) x290000 x290001 x290002)
def impl_Chart_areas.l2 : Nat → List Int → Int → Int → List Int → Int → Int → Int → List Int → Int → Int → Int → Int → List Int → Option (List Int × Int)
 | 0, _, _, _, _, _, _, _, _, _, _, _, _, _ => none
 | k + 1, x4, x5, x6, x7, x8, x17, x18, x43, x44, x45, x290000, x290001, x290002 => if x45 < x44 then (if 0 ≤ x45 then (if x45 < (x43.length : Int) then (if 0 ≤ (rd x43 x45) then (if (rd x43 x45) < (x4.length : Int) then (if (rd x4 (rd x43 x45)) < 0 then (if (rd x43 x45) < (x290002.length : Int) then (if 0 ≤ x6 then (if x6 < (x290002.length : Int) then (if (rd x290002 (rd x43 x45)) = (rd x290002 x6) then (if x7.length < 17592186044416 then (impl_Chart_areas.l2 k (x4.set ((rd x43 x45) : Int).toNat x5) x5 x6 (x7 ++ [rd x43 x45]) x8 x17 x18 x43 x44 (wrap64 (x45 + 1)) x290000 x290001 x290002) else (none)) else (impl_Chart_areas.l2 k x4 x5 x6 x7 x8 x17 x18 x43 x44 (wrap64 (x45 + 1)) x290000 x290001 x290002)) else (none)) else (none)) else (none)) else (impl_Chart_areas.l2 k x4 x5 x6 x7 x8 x17 x18 x43 x44 (wrap64 (x45 + 1)) x290000 x290001 x290002)) else (none)) else (none)) else (none)) else (none)) else (impl_Chart_areas.l1 k x4 x5 x6 x7 (wrap64 (x8 + 1)) x17 x18 x290000 x290001 x290002)
end
def impl_Chart_areas.f (k : Nat) (a0_0 : Int) (a0_1 : Int) (l0_2 : List Int) : Option (List Int × Int) := (slices_Repeat_int_int.f (([(-1)] : List Int)) (l0_2.length : Int)).bind fun t293 => (impl_Chart_areas.l0 k t293 0 (t293.length : Int) 0 a0_0 a0_1 l0_2)
def impl_Chart_areas.T11 : Bool × List (List Nat × List Nat) := (true, [([], []), ([], []), ([], []), ([1, 2], [1, 2]), ([3], [3]), ([0, 4], [0, 4]), ([5], [5]), ([], [])])
def impl_Chart_areas.B11 : List Nat := [0, 0, 0, 6, 14, 31, 63, 0]
theorem impl_Chart_areas.tab11 : rtab .any (opsOf Try.f46 11) = impl_Chart_areas.T11 := by kernel_rfl
theorem impl_Chart_areas.bits11 : waitsOk impl_Chart_areas.T11.2 impl_Chart_areas.B11 = true := by kernel_rfl
def impl_Chart_areas.T14 : Bool × List (List Nat × List Nat) := (true, [([], []), ([], []), ([0, 1], [0, 1]), ([2], [2]), ([3], [3]), ([4], [4]), ([5], [5]), ([6, 5], [5, 6]), ([5], [5]), ([7, 8, 5], [5, 7, 8]), ([9, 5], [5, 9]), ([5], [5]), ([11, 5], [5, 11]), ([5], [5]), ([12, 13, 5], [5, 12, 13]), ([14, 5], [5, 14]), ([10, 15, 5], [5, 10, 15]), ([5, 16], [5, 16])])
def impl_Chart_areas.B14 : List Nat := [0, 0, 3, 7, 15, 31, 63, 127, 63, 511, 1023, 63, 2111, 63, 14399, 30783, 65535, 131071]
theorem impl_Chart_areas.tab14 : rtab .any (opsOf Try.f46 14) = impl_Chart_areas.T14 := by kernel_rfl
theorem impl_Chart_areas.bits14 : waitsOk impl_Chart_areas.T14.2 impl_Chart_areas.B14 = true := by kernel_rfl
theorem impl_Chart_areas.calls (k : Nat) (Aq : Int) (Ar : Int) (Bl : Option Addr) (Bb : Nat) (Af : List Int) (r1 : List Int) (r2 : Int) (w : World) (Ck : Kd.C (Kd.int .i64) w Bl Af.length Af) (Cl : Af.length ≤ Bb) (h : impl_Chart_areas.f k Aq Ar Af = some (r1, r2)) :
  Calls Try.prog 46 #[.agg #[.int .i64 Aq, .int .i64 Ar, .slice Bl Af.length Bb]] w fun e w' => ∃ v0_ : Value, e = .returned (.tuple #[v0_, .int .i64 r2]) ∧ Kd.R (Kd.int .i64) 3 w' w.heap.size (fun _ => True) v0_ r1 ∧ Below w.heap.size w w' := by
 have hu28 := Try.underlying28; have Bq := Aside0.mk Ck; have C6 := Aside0.mk Cl; clear Ck Cl; have HB := aM (Below.refl w.heap.size w); have H : ((slices_Repeat_int_int.f (([(-1)] : List Int)) (Af.length : Int)).bind fun Ax => (impl_Chart_areas.l0 k Ax 0 (Ax.length : Int) 0 Aq Ar Af)) = some (r1, r2) := h; clear h; obtain ⟨Ct, Br⟩ : ∃ y_ : List Int, y_ = (([(-1)] : List Int)) := ⟨_, rfl⟩
 replace H : ((slices_Repeat_int_int.f Ct (Af.length : Int)).bind fun Ax => (impl_Chart_areas.l0 k Ax 0 (Ax.length : Int) 0 Aq Ar Af)) = some (r1, r2) := by first | (rw [Br]; with_reducible exact H) | (have H2_ := (Option.bind_some _ _).symm.trans H; rw [Br]; with_reducible exact H2_) | (have H2_ := (Option.bind_some _ _).symm.trans H; with_reducible exact H2_) | with_reducible exact H | (rw [Br]; exact H) | exact H
 have Cm := Aside0.mk Br; clear Br; replace H := Option.bind_eq_some_iff.mp H; obtain ⟨Ax, D5, H⟩ := H; replace H : (impl_Chart_areas.l0 k Ax 0 (Ax.length : Int) 0 Aq Ar Af) = some (r1, r2) := H; have A2 := Aside0.mk D5; clear D5; have H' := Aside0.mk H; clear H
 go_enter Try.func46, Try.ntmps46
 go_wp2_with (first | ((with_reducible refine gate_dst (N := 1) rfl ?_); refine bxE 1 #[.int .i64 Aq, .int .i64 Ar, .slice Bl Af.length Bb] 28 ?_; intro Au hg w3 hbox hb; have Ac := aM (hbox); have D6 := gwS hg Z0; have Al := gwS hg Z0; replace HB := hbS Z0 hb; clear hb hbox hg) | ((with_reducible refine gate_dst (N := 11) rfl ?_); refine Kd.R_lit (Kd.int .i64) _ 3 ?hg (N := 11) ?hd (xs := ([(-1)] : List Int)) (inner := [.int .i64 (-1)]) (ok := fun _ => True) (okp := fun _ => True) ?hr ?hp (fun _ hk => hk) trivial (Below.refl _ _) (Nat.le_refl _) (by simp) ?_; (case hd => rfl); (case hg => rfl); (case hr => first | (go_simp; done) | (go_simp; rfl)); (case hp => exact (Reps.one (show Kd.M (Kd.int .i64) _ _ _ (-1) [.int .i64 (-1)] from rfl) (Reps.none _ _))); intro D8 w4 C7 hb hg_ hnew_; clear hg_ hnew_; (first | rw [← Cm.out] at C7 | (simp only [Int.reduceToNat] at C7; rw [← Cm.out] at C7)); have Bk := aM (Kd.R_lower C7 (below_size Z12)); replace Ac := bkB Ac hb; replace HB := hbS Z12 hb; clear hb C7; obtain ⟨Bw, Bx, Bz⟩ := bz3 Ac; obtain ⟨B0, B2, B4⟩ := fz3 Ac; obtain ⟨D9, Ea, Eb⟩ := Kd.R_slice Bk.out; subst Eb) | ((with_reducible refine gate_callee (f := 79) rfl ?_); refine glE (some 15) Try.func79 #[.slice D9 Ct.length Ea, .int .i64 (Af.length : Int)] ?_; (with_reducible refine (slices_Repeat_int_int.calls _ _ Ct (Af.length : Int) Ax _ ?side1 ?side2 A2.out).mono ?_); (case side1 => exact (by repeat (first | exact (Kd.R_reads' Bk.out).2.2 | (with_reducible refine Kd.C_alloc ?_ _) | (with_reducible refine Kd.C_drewN ?_ _) | (with_reducible refine Kd.C_drew ?_)))); (case side2 => exact (Kd.R_reads' Bk.out).2.1); rintro e w8 ⟨Ec, rfl, Cn, hb⟩; refine ⟨_, rfl, ?_⟩; have Co := aM (Kd.R_lower (Kd.R_new' Cn (Kd.R_lt Z125)) (below_size Z12)); replace Bk := aM (Kd.R_elder' Z125 (Kd.R_base Cn) hb); replace Ac := bkB Ac hb; replace HB := hbS Z12 hb; (try clear hb); (try clear Cn); obtain ⟨Ed, Cc, Ee⟩ := Kd.R_slice Co.out; subst Ee))
 go_loopg [5, 18] k (fun kq v5 Ef w' => ∃ (Ba : List Int) (Az : Int) (Ab : Int), v5 = .int .i64 Az ∧ Ef = .int .i64 Ab ∧ Aside0 (impl_Chart_areas.l0 kq Ba Az (Ax.length : Int) Ab Aq Ar Af = some (r1, r2)) ∧ Aside0 (kq ≤ k) ∧ Aside0 (Kd.R (Kd.int .i64) 3 w' w.heap.size (fun _ => True) (.slice Ed Ax.length Cc) Ba) ∧ Aside0 (w'.heap[Au]? = some (.cells #[.int .i64 Aq, .int .i64 Ar, (.slice Bl Af.length Bb)] 28 (0, 0))) ∧ Aside0 (Below w.heap.size w w'))
 case atStart => exact ⟨(Ax), (0), (0), Z7, Z7, H', ⟨Nat.le_refl _⟩, ⟨by (with_reducible repeat (first | apply Kd.R_alloc | apply Kd.R_drewN | apply Kd.R_drew)); exact Kd.R_mono Co.out (fun _ hk => trivial)⟩, ⟨Z13⟩, ⟨Z12⟩⟩
 case round =>
  clear H'; (try clear p2); (try clear c4); (try clear c7); (try clear Bw); (try clear Bx); (try clear Bz); (try clear B0); (try clear B2); (try clear B4); obtain ⟨Ba, Az, Ab, rfl, rfl, HA, HK1, Ag, Ac, HB⟩ := hrel; have Ae := (Kd.R_reads' Ag.out).1; rw [Ae] at Ag
  (try simp only [Ae])
  (try simp only [Ae] at Ac)
  cases gk with
  | zero => exact absurd HA.out (by simp [impl_Chart_areas.l0])
  | succ k1 =>
   have H := HA.out; clear HA
   simp only [impl_Chart_areas.l0] at H
   by_cases Cp : Ab < (Ax.length : Int)
   ·rw [if_pos Cp] at H
    have c10b0 : decide (Ab < (Ax.length : Int)) = true := decide_eq_true Cp
    (try simp only [Ae] at c10b0)
    clear Cp
    by_cases C1 : 0 ≤ Ab
    ·rw [if_pos C1] at H
     have c11b0 : decide (0 ≤ Ab) = true := decide_eq_true C1; clear C1
     by_cases C3 : Ab < (Ba.length : Int)
     ·rw [if_pos C3] at H
      have c12b0 : decide (Ab < (Ba.length : Int)) = true := decide_eq_true C3
      (try simp only [Ae] at c12b0)
      clear C3
      by_cases Cq : (rd Ba Ab) ≥ 0
      ·rw [if_pos Cq] at H
       have c13b0 : decide (0 ≤ (rd Ba Ab)) = true := decide_eq_true Cq; clear Cq; have H' := Aside0.mk H; clear H; have Bm : 0 ≤ (Ab : Int) := of_decide_eq_true Z3; have Bn : Ab < (Ba.length : Int) := of_decide_eq_true Z3; obtain ⟨ad296, e296, Bd⟩ := Kd.at_int (Kd.R_reads' Ag.out).2.2 Ab Bm Bn; cases e296; replace Bm := eq_true Bm; replace Bn := eq_true Bn
       go_wp2
       (try simp only [← Ae])
       go_roundg k1
       case measure => have := HK1.out; omega
       case rel => exact ⟨(Ba), (Az), (wrap64 (Ab + 1)), Z7, Z7, H', ⟨Z66⟩, ⟨by (try simp only [Ae]); (with_reducible repeat (first | apply Kd.R_alloc | apply Kd.R_drewN | apply Kd.R_drew)); exact Ag.out⟩, ⟨Z116⟩, ⟨Z12⟩⟩
      ·rw [if_neg Cq] at H
       have c13b0 : decide (0 ≤ (rd Ba Ab)) = false := decide_eq_false Cq; clear Cq; obtain ⟨Cg, Bs⟩ : ∃ y_ : List Int, y_ = (Ba.set (Ab : Int).toNat Az) := ⟨_, rfl⟩
       replace H : (impl_Chart_areas.l1 k1 Cg Az Ab (([Ab] : List Int)) 0 (Ax.length : Int) Ab Aq Ar Af) = some (r1, r2) := by first | (rw [Bs]; with_reducible exact H) | (have H2_ := (Option.bind_some _ _).symm.trans H; rw [Bs]; with_reducible exact H2_) | (have H2_ := (Option.bind_some _ _).symm.trans H; with_reducible exact H2_) | with_reducible exact H | (rw [Bs]; exact H) | exact H
       have C8 := Aside0.mk Bs; clear Bs; obtain ⟨C9, Bt⟩ : ∃ y_ : List Int, y_ = (([Ab] : List Int)) := ⟨_, rfl⟩
       replace H : (impl_Chart_areas.l1 k1 Cg Az Ab C9 0 (Ax.length : Int) Ab Aq Ar Af) = some (r1, r2) := by first | (rw [Bt]; with_reducible exact H) | (have H2_ := (Option.bind_some _ _).symm.trans H; rw [Bt]; with_reducible exact H2_) | (have H2_ := (Option.bind_some _ _).symm.trans H; with_reducible exact H2_) | with_reducible exact H | (rw [Bt]; exact H) | exact H
       have Cr := Aside0.mk Bt; clear Bt; have H' := Aside0.mk H; clear H; have Bm : 0 ≤ (Ab : Int) := of_decide_eq_true Z3; have Bn : Ab < (Ba.length : Int) := of_decide_eq_true Z3; obtain ⟨ad296, e296, Bd⟩ := Kd.at_int (Kd.R_reads' Ag.out).2.2 Ab Bm Bn; cases e296; replace Bm := eq_true Bm; replace Bn := eq_true Bn; have Cu : 0 ≤ (Ab : Int) := of_decide_eq_true Z3; have Cv : (Ab : Int) < ((Ba.length : Int) : Int) := of_decide_eq_true Z3; obtain ⟨Aw, Eg, Da, Db, gl14, cl14, HG14⟩ := Kd.R_form Ag.out (by omega)
       (first | cases Da | (injection Da with ea_ en_ ec_; (first | subst ea_ | (injection ea_ with ea_; subst ea_)); subst ec_; clear en_))
       have Dc := Aside0.mk Db; have Eh := Aside0.mk HG14; clear Db gl14 HG14
       (first | simp only [add_plain] at Bd | skip)
       obtain ⟨Cf, Du⟩ := Kd.R_celln 0 Ag.out (Ab : Int) Cu Cv; replace Cu := eq_true Cu; replace Cv := eq_true Cv; have Cw := Kd.R_putg Ag.out (Ab : Int) Az
       go_wp2_with (first | ((with_reducible refine gate_store (t := 3) (p := 29) rfl ?_); refine store_event (t := 3) (p := 29) (v := ?vo_w16) (w1 := (wr.setCell ⟨Aw, (Ab : Int).toNat, none⟩ (.int .i64 Az))) ?hg ?ho ?hn ?hr ?_; (case ho => rfl); (case hg => rfl); (case hn => rfl); (case hr => first | (go_simp; done) | (go_simp; rfl)); intro Dv hw; have hg : wr.grownBy Dv (some Aw) := (by rw [hw]; exact Cw.2); have hp_ : Kd.R (Kd.int .i64) 3 Dv w.heap.size (fun _ => True) (.slice (some ⟨Aw, 0, none⟩) Ba.length Cc) Cg := (by rw [hw, C8.out]; exact Cw.1); clear Cw; replace Ac := aM (blk_grown (g := Au) (o := .cells #[.int .i64 Aq, .int .i64 Ar, .slice Bl Af.length Bb] 28 (0, 0)) Z13 hg (Kd.R_ne Ag.out Ac.out (by decide))); replace Ag := aM (hp_); replace HB := aM ((Z134 : Below w.heap.size w Dv)); clear hg hw hp_) | ((with_reducible refine gate_dst (N := 31) rfl ?_); refine Kd.R_lit (Kd.int .i64) _ 3 ?hg (N := 31) ?hd (xs := ([Ab] : List Int)) (inner := [.int .i64 Ab]) (ok := fun _ => True) (okp := fun _ => True) ?hr ?hp (fun _ hk => hk) trivial (Below.refl _ _) (Nat.le_refl _) (by simp) ?_; (case hd => rfl); (case hg => rfl); (case hr => first | (go_simp; done) | (go_simp; rfl)); (case hp => exact (Reps.one (show Kd.M (Kd.int .i64) _ _ _ Ab [.int .i64 Ab] from rfl) (Reps.none _ _))); intro Ei Ew Ce hb hg_ hnew_; clear hg_ hnew_; (first | rw [← Cr.out] at Ce | (simp only [Int.reduceToNat] at Ce; rw [← Cr.out] at Ce)); have Dd := aM (Kd.R_lower (Kd.R_new' Ce (Kd.R_lt Z21)) (below_size Z12)); replace Ag := aM (Kd.R_elder' Z21 (Kd.R_base Ce) hb); replace Ac := bkB Ac hb; replace HB := hbS Z12 hb; clear hb Ce))
       go_loopg [7, 8] k1 (fun kq v7 v8 w' => ∃ (Bo : List Int) (Bc : List Int) (Ay : Int), v8 = .int .i64 Ay ∧ Aside0 (impl_Chart_areas.l1 kq Bo Az Ab Bc Ay (Ax.length : Int) Ab Aq Ar Af = some (r1, r2)) ∧ Aside0 (kq ≤ k1) ∧ Aside0 (Kd.R (Kd.int .i64) 3 w' w.heap.size (fun k_ => nV k_ v7) (.slice (some ⟨Aw, 0, none⟩) Ba.length Cc) Bo) ∧ Aside0 (Kd.R (Kd.int .i64) 3 w' w.heap.size (fun k_ => some k_ ≠ ((.slice (some ⟨Aw, 0, none⟩) Ba.length Cc) : Value).ownBlock) v7 Bc) ∧ Aside0 (w'.heap[Au]? = some (.cells #[.int .i64 Aq, .int .i64 Ar, (.slice Bl Af.length Bb)] 28 (0, 0))) ∧ Aside0 (Below w.heap.size w w'))
       case atStart => exact ⟨(Cg), (C9), (0), Z7, H', ⟨Nat.le_refl _⟩, ⟨by (try simp only [Ae]); (with_reducible repeat (first | apply Kd.R_alloc | apply Kd.R_drewN | apply Kd.R_drew)); exact Kd.R_mono Ag.out (fun _ hk => hk.2)⟩, ⟨by (try simp only [Ae]); (with_reducible repeat (first | apply Kd.R_alloc | apply Kd.R_drewN | apply Kd.R_drew)); exact Kd.R_mono Dd.out (fun _ hk => hk.2)⟩, ⟨Z116⟩, ⟨Z12⟩⟩
       case round =>
        clear H'; (try clear c1); (try clear p1); (try clear q1); (try clear Ej); (try clear Ek); (try clear p2); (try clear q2); (try clear El); (try clear c4); (try clear p6); (try clear c7); (try clear Cp); (try clear c10b0); (try clear C1); (try clear c11b0); (try clear C3); (try clear c12b0); (try clear Cq); (try clear c13b0); (try clear Cu); (try clear Cv); (try clear Dw); (try clear Dx); (try clear Bw); (try clear Bx); (try clear Bz); (try clear B0); (try clear B2); (try clear B4); (try clear Cf); (try clear Bd); (try clear Cu); (try clear p2); (try clear Bm); (try clear Cv); (try clear Bn); obtain ⟨Bo, Bc, Ay, rfl, HA, HK2, Ag, Am, Ac, HB⟩ := hrel; have Ah := (Kd.R_reads' Ag.out).1; rw [Ah] at Ag
        (try simp only [Ah])
        (try simp only [Ah] at Ac)
        (try simp only [Ah] at Am)
        cases gk with
        | zero => exact absurd HA.out (by simp [impl_Chart_areas.l1])
        | succ k2 =>
         have H := HA.out; clear HA
         simp only [impl_Chart_areas.l1] at H
         by_cases Cx : Ay < (Bc.length : Int)
         ·rw [if_pos Cx] at H
          have c19b0 : decide (Ay < (Bc.length : Int)) = true := decide_eq_true Cx
          (try simp only [Ae, Ah] at c19b0)
          clear Cx
          by_cases De : 0 ≤ Ay
          ·rw [if_pos De] at H
           have c20b0 : decide (0 ≤ Ay) = true := decide_eq_true De; clear De; replace H := Option.bind_eq_some_iff.mp H; obtain ⟨Ad, Df, H⟩ := H; replace H : (impl_Chart_areas.l2 k2 Bo Az Ab Bc Ay (Ax.length : Int) Ab Ad (Ad.length : Int) 0 Aq Ar Af) = some (r1, r2) := H; have Em := Aside0.mk Df; clear Df; have H' := Aside0.mk H; clear H; obtain ⟨En, Eo, Dy⟩ := Kd.R_slice Am.out; subst Dy
           try go_wp2
           replace Ag := aM (Kd.R_drew Ag.out); replace Am := aM (Kd.R_drew Am.out); replace Ac := aM (blk_drew Ac.out); replace HB := aM (below_drew1 HB.out); have Ch : 0 ≤ (Ay : Int) := of_decide_eq_true Z3; have Ci : Ay < (Bc.length : Int) := of_decide_eq_true Z3; obtain ⟨ad301, e301, Bp⟩ := Kd.at_int (Kd.R_reads' Am.out).2.2 Ay Ch Ci; cases e301; replace Ch := eq_true Ch; replace Ci := eq_true Ci; refine start_ (n := 8) (S := fun w' => w'.cell? ⟨Au, 0, none⟩ = some (.int .i64 Aq) ∧ w'.cell? ⟨Au, 1, none⟩ = some (.int .i64 Ar) ∧ w'.cell? ⟨Au, 2, none⟩ = some (.slice Bl Af.length Bb) ∧ w'.cell? (ad301.add (Ay).toNat) = some (.int .i64 (rd Bc Ay))) (ds := []) #[false, false, false, false, false, false, false, false] Z33 rfl rfl ⟨(blk_cell Ac.out 0).trans rfl, (blk_cell Ac.out 1).trans rfl, (blk_cell Ac.out 2).trans rfl, Bp⟩ (fun hHeld => ?_); refine with_tabW impl_Chart_areas.tab11 impl_Chart_areas.bits11 (fun HT_ HW_ => ?_)
           generalize wr.drew = Ex at Ag Am Ac HB Bp hHeld ⊢
           refine puR 1 39 #[false, true, false, false, false, false, false, false] HT_ rfl rfl ?_; refine puR 2 40 #[false, true, true, false, false, false, false, false] HT_ rfl rfl ?_; refine puR 3 41 #[false, true, true, true, false, false, false, false] HT_ rfl rfl ?_; refine puR 7 45 #[false, true, true, true, false, false, false, true] HT_ rfl rfl ?_; refine taR 0 38 #[true, true, true, true, false, false, false, true] HT_ HW_ hHeld rfl rfl ?_; refine taR 4 42 #[true, true, true, true, true, false, false, true] HT_ HW_ hHeld rfl rfl ?_; refine one_ (i := 5) (N := some 43) #[true, true, true, true, true, true, false, true] rfl rfl (one_of HT_.out Z33) (by decide) (fun K hK => ?_); refine goes_ Try.func69 Z33 rfl #[.agg #[.int .i64 Aq, .int .i64 Ar, .slice Bl Af.length Bb], .int .i64 (rd Bc Ay)] (by rfl) rfl rfl Z52 ?_; (with_reducible refine (impl_Chart_besides.calls k2 Aq Ar _ _ Af (rd Bc Ay) Ad _ ?side1 ?side2 Em.out).mono ?_); (case side1 => exact Z53); (case side2 => exact C6.out); rintro e Ey ⟨Ep, rfl, Cn, hb⟩; have HS3_ := (hb.cell (World.block_lt_of_cell? _ _ (hHeld.2.2.2))).trans (hHeld.2.2.2); refine ⟨_, rfl, ?_⟩; have Cs := aM (Kd.R_lower (Kd.R_new' (Kd.R_new' Cn (Kd.R_lt Z21)) (Kd.R_lt Z126)) (below_size Z12)); replace Ag := aM (Kd.R_elder' Z21 (Kd.R_base Cn) hb); replace Am := aM (Kd.R_elder' Z126 (Kd.R_base Cn) hb); replace Ac := bkB Ac hb; replace HB := hbS Z12 hb; (try clear hb); (try clear hb2); (try clear hk); (try clear hi); (try clear Cn); obtain ⟨Cy, B5, Dg⟩ := Kd.R_slice Cs.out
           (first | subst Dg | (injection Dg with f1_ f2_ f3_; have f4_ := f1_.symm; have f5_ := f3_.symm; clear f1_ f2_ f3_; subst f4_; subst f5_))
           refine hK.out _ _ (by exact ⟨(blk_cell Ac.out 0).trans rfl, (blk_cell Ac.out 1).trans rfl, (blk_cell Ac.out 2).trans rfl, HS3_⟩) (fun hHeld => ?_); clear hK K; refine noR 43 ?_; refine puR 6 44 #[true, true, true, true, true, true, true, true] HT_ rfl rfl ?_; refine done_ (done_of HT_.out Z33) ?_
           try go_wp2
           go_loopg [7, 45] k2 (fun kq v7 Er w' => ∃ (Ap : List Int) (Bf : List Int) (Aa : Int), Er = .int .i64 Aa ∧ Aside0 (impl_Chart_areas.l2 kq Ap Az Ab Bf Ay (Ax.length : Int) Ab Ad (Ad.length : Int) Aa Aq Ar Af = some (r1, r2)) ∧ Aside0 (kq ≤ k2) ∧ Aside0 (Kd.R (Kd.int .i64) 3 w' w.heap.size (fun k_ => nV k_ v7 ∧ nS k_ Cy Ad.length B5) (.slice (some ⟨Aw, 0, none⟩) Bo.length Cc) Ap) ∧ Aside0 (Kd.R (Kd.int .i64) 3 w' w.heap.size (fun k_ => some k_ ≠ ((.slice (some ⟨Aw, 0, none⟩) Bo.length Cc) : Value).ownBlock ∧ nS k_ Cy Ad.length B5) v7 Bf) ∧ Aside0 (Kd.R (Kd.int .i64) 3 w' w.heap.size (fun k_ => some k_ ≠ ((.slice (some ⟨Aw, 0, none⟩) Bo.length Cc) : Value).ownBlock ∧ nV k_ v7) (.slice Cy Ad.length B5) Ad) ∧ Aside0 (w'.heap[Au]? = some (.cells #[.int .i64 Aq, .int .i64 Ar, (.slice Bl Af.length Bb)] 28 (0, 0))) ∧ Aside0 (Below w.heap.size w w'))
           case atStart => exact ⟨(Bo), (Bc), (0), Z7, H', ⟨Nat.le_refl _⟩, ⟨by (try simp only [Ae]); (try simp only [Ah]); (with_reducible repeat (first | apply Kd.R_alloc | apply Kd.R_drewN | apply Kd.R_drew)); exact Ag.out⟩, ⟨by (try simp only [Ae]); (try simp only [Ah]); (with_reducible repeat (first | apply Kd.R_alloc | apply Kd.R_drewN | apply Kd.R_drew)); exact Am.out⟩, ⟨by (try simp only [Ae]); (try simp only [Ah]); (with_reducible repeat (first | apply Kd.R_alloc | apply Kd.R_drewN | apply Kd.R_drew)); exact Kd.R_mono Cs.out (fun _ hk => ⟨hk.1.2, hk.2⟩)⟩, ⟨Z90⟩, ⟨Z12⟩⟩
           case round =>
            clear H'; (try clear c1); (try clear p1); (try clear q1); (try clear Ej); (try clear Ek); (try clear c2); (try clear p2); (try clear q2); (try clear El); (try clear p3); (try clear q3); (try clear Ez); (try clear c4); (try clear c6); (try clear p6); (try clear c7); (try clear Cp); (try clear c10b0); (try clear C1); (try clear c11b0); (try clear C3); (try clear c12b0); (try clear Cq); (try clear c13b0); (try clear Cu); (try clear Cv); (try clear Dw); (try clear Dx); (try clear Cx); (try clear c19b0); (try clear De); (try clear c20b0); (try clear Bw); (try clear Bx); (try clear Bz); (try clear B0); (try clear B2); (try clear B4); (try clear Cf); (try clear Bd); (try clear Bp); (try clear p1); (try clear Cu); (try clear p2); (try clear Bm); (try clear Ch); (try clear p6); (try clear q1); (try clear Cv); (try clear q2); (try clear Bn); (try clear Ci); obtain ⟨Ap, Bf, Aa, rfl, HA, HK3, Ag, Am, Ak, Ac, HB⟩ := hrel; have Ai := (Kd.R_reads' Ag.out).1; rw [Ai] at Ag
            (try simp only [Ai])
            (try simp only [Ai] at Ac)
            (try simp only [Ai] at Am)
            (try simp only [Ai] at Ak)
            cases gk with
            | zero => exact absurd HA.out (by simp [impl_Chart_areas.l2])
            | succ k3 =>
             have H := HA.out; clear HA
             simp only [impl_Chart_areas.l2] at H
             by_cases C4 : Aa < (Ad.length : Int)
             ·rw [if_pos C4] at H
              have c26b0 : decide (Aa < (Ad.length : Int)) = true := decide_eq_true C4
              (try simp only [Ae, Ah, Ai] at c26b0)
              clear C4
              by_cases Dl : 0 ≤ Aa
              ·rw [if_pos Dl] at H
               have c27b0 : decide (0 ≤ Aa) = true := decide_eq_true Dl; clear Dl
               by_cases Dm : Aa < (Ad.length : Int)
               ·rw [if_pos Dm] at H
                have c28b0 : decide (Aa < (Ad.length : Int)) = true := decide_eq_true Dm
                (try simp only [Ae, Ah, Ai] at c28b0)
                clear Dm
                by_cases Dn : 0 ≤ (rd Ad Aa)
                ·rw [if_pos Dn] at H
                 have c29b0 : decide (0 ≤ (rd Ad Aa)) = true := decide_eq_true Dn; clear Dn
                 by_cases Dp : (rd Ad Aa) < (Ap.length : Int)
                 ·rw [if_pos Dp] at H
                  have c30b0 : decide ((rd Ad Aa) < (Ap.length : Int)) = true := decide_eq_true Dp
                  (try simp only [Ae, Ah, Ai] at c30b0)
                  clear Dp
                  by_cases C5 : (rd Ap (rd Ad Aa)) < 0
                  ·rw [if_pos C5] at H
                   have c31b0 : decide ((rd Ap (rd Ad Aa)) < 0) = true := decide_eq_true C5; clear C5
                   by_cases Dq : (rd Ad Aa) < (Af.length : Int)
                   ·rw [if_pos Dq] at H
                    have c32b0 : decide ((rd Ad Aa) < (Af.length : Int)) = true := decide_eq_true Dq
                    (try simp only [Ae, Ah, Ai] at c32b0)
                    clear Dq
                    by_cases Dr : 0 ≤ Ab
                    ·rw [if_pos Dr] at H
                     have c33b0 : decide (0 ≤ Ab) = true := decide_eq_true Dr; clear Dr
                     by_cases Ds : Ab < (Af.length : Int)
                     ·rw [if_pos Ds] at H
                      have c34b0 : decide (Ab < (Af.length : Int)) = true := decide_eq_true Ds
                      (try simp only [Ae, Ah, Ai] at c34b0)
                      clear Ds
                      by_cases Cz : (rd Af (rd Ad Aa)) = (rd Af Ab)
                      ·rw [if_pos Cz] at H
                       have c35b0 : ((rd Af (rd Ad Aa)) == (rd Af Ab)) = true := beq_iff_eq.mpr Cz; have c35b1 : ((rd Af (rd Ad Aa)) != (rd Af Ab)) = false := bne_eq_false_iff_eq.mpr Cz; clear Cz; obtain ⟨Cj, Bu⟩ : ∃ y_ : List Int, y_ = (Ap.set ((rd Ad Aa) : Int).toNat Az) := ⟨_, rfl⟩
                       replace H : (if Bf.length < 17592186044416 then (impl_Chart_areas.l2 k3 Cj Az Ab (Bf ++ [rd Ad Aa]) Ay (Ax.length : Int) Ab Ad (Ad.length : Int) (wrap64 (Aa + 1)) Aq Ar Af) else (none)) = some (r1, r2) := by first | (rw [Bu]; with_reducible exact H) | (have H2_ := (Option.bind_some _ _).symm.trans H; rw [Bu]; with_reducible exact H2_) | (have H2_ := (Option.bind_some _ _).symm.trans H; with_reducible exact H2_) | with_reducible exact H | (rw [Bu]; exact H) | exact H
                       have Dh := Aside0.mk Bu; clear Bu
                       by_cases Dt : Bf.length < 17592186044416
                       ·rw [if_pos Dt] at H
                        have LMc37 := Aside0.mk Dt; clear Dt; obtain ⟨Di, Bv⟩ : ∃ y_ : List Int, y_ = (Bf ++ [rd Ad Aa]) := ⟨_, rfl⟩
                        replace H : (impl_Chart_areas.l2 k3 Cj Az Ab Di Ay (Ax.length : Int) Ab Ad (Ad.length : Int) (wrap64 (Aa + 1)) Aq Ar Af) = some (r1, r2) := by first | (rw [Bv]; with_reducible exact H) | (have H2_ := (Option.bind_some _ _).symm.trans H; rw [Bv]; with_reducible exact H2_) | (have H2_ := (Option.bind_some _ _).symm.trans H; with_reducible exact H2_) | with_reducible exact H | (rw [Bv]; exact H) | exact H
                        have Dj := Aside0.mk Bv; clear Bv; have H' := Aside0.mk H; clear H; have Bg : 0 ≤ (Aa : Int) := of_decide_eq_true Z3; have Bh : Aa < (Ad.length : Int) := of_decide_eq_true Z3; obtain ⟨ad305, e305, Cd⟩ := Kd.at_int (Kd.R_reads' Ak.out).2.2 Aa Bg Bh; cases e305; replace Bg := eq_true Bg; replace Bh := eq_true Bh
                        try go_wp2
                        replace Ag := aM (Kd.R_drew Ag.out); replace Am := aM (Kd.R_drew Am.out); replace Ak := aM (Kd.R_drew Ak.out); replace Ac := aM (blk_drew Ac.out); replace HB := aM (below_drew1 HB.out); have Bi : 0 ≤ ((rd Ad Aa) : Int) := of_decide_eq_true Z3; have Bj : (rd Ad Aa) < (Ap.length : Int) := of_decide_eq_true Z3; obtain ⟨ad306, e306, Aj⟩ := Kd.at_int (Kd.R_reads' Ag.out).2.2 (rd Ad Aa) Bi Bj; obtain rfl : (⟨Aw, 0, none⟩ : Addr) = ad306 := (by injection e306)
                        (first | simp only [add_plain] at Aj | simp only [add_at] at Aj | simp only [Addr.add, Nat.zero_add] at Aj | skip)
                        replace Bi := eq_true Bi; replace Bj := eq_true Bj; have B6 : 0 ≤ ((rd Ad Aa) : Int) := of_decide_eq_true Z3; have B7 : (rd Ad Aa) < (Af.length : Int) := of_decide_eq_true Z3; obtain ⟨ad307, e307, An⟩ := Kd.at_int Bq.out (rd Ad Aa) B6 B7; have hw307_0 := An; cases e307; replace An := (HB.out.cell (World.block_lt_of_cell? w _ An)).trans An; replace B6 := eq_true B6; replace B7 := eq_true B7; have Ca : 0 ≤ (Ab : Int) := of_decide_eq_true Z3; have Cb : Ab < (Af.length : Int) := of_decide_eq_true Z3; obtain ⟨ad308, e308, Ao⟩ := Kd.at_int Bq.out Ab Ca Cb; have hw308_0 := Ao; obtain rfl : ad307 = ad308 := (by injection e308); replace Ao := (HB.out.cell (World.block_lt_of_cell? w _ Ao)).trans Ao; replace Ca := eq_true Ca; replace Cb := eq_true Cb; refine start_ (n := 18) (S := fun w' => w'.cell? ⟨Au, 0, none⟩ = some (.int .i64 Aq) ∧ w'.cell? ⟨Au, 1, none⟩ = some (.int .i64 Ar) ∧ w'.cell? ⟨Au, 2, none⟩ = some (.slice (some ad307) Af.length Bb) ∧ w'.cell? ⟨Aw, ((rd Ad Aa)).toNat, none⟩ = some (.int .i64 (rd Ap (rd Ad Aa))) ∧ w'.cell? (ad307.add ((rd Ad Aa)).toNat) = some (.int .i64 (rd Af (rd Ad Aa))) ∧ w'.cell? (ad307.add (Ab).toNat) = some (.int .i64 (rd Af Ab))) (ds := []) #[false, false, false, false, false, false, false, false, false, false, false, false, false, false, false, false, false, false] Z33 rfl rfl ⟨(blk_cell Ac.out 0).trans rfl, (blk_cell Ac.out 1).trans rfl, (blk_cell Ac.out 2).trans rfl, Aj, ((HB.out.cell (World.block_lt_of_cell? w _ hw307_0)).trans hw307_0), ((HB.out.cell (World.block_lt_of_cell? w _ hw308_0)).trans hw308_0)⟩ (fun hHeld => ?_); refine with_tabW impl_Chart_areas.tab14 impl_Chart_areas.bits14 (fun HT_ HW_ => ?_)
                        generalize wr.drew = D7 at Ag Am Ak Ac HB Aj An Ao hHeld ⊢
                        refine puR 0 49 #[true, false, false, false, false, false, false, false, false, false, false, false, false, false, false, false, false, false] HT_ rfl rfl ?_; refine puR 1 50 #[true, true, false, false, false, false, false, false, false, false, false, false, false, false, false, false, false, false] HT_ rfl rfl ?_; refine puR 2 51 #[true, true, true, false, false, false, false, false, false, false, false, false, false, false, false, false, false, false] HT_ rfl rfl ?_; refine taR 3 52 #[true, true, true, true, false, false, false, false, false, false, false, false, false, false, false, false, false, false] HT_ HW_ hHeld rfl rfl ?_; refine puR 4 53 #[true, true, true, true, true, false, false, false, false, false, false, false, false, false, false, false, false, false] HT_ rfl rfl ?_; refine puR 5 54 #[true, true, true, true, true, true, false, false, false, false, false, false, false, false, false, false, false, false] HT_ rfl rfl ?_; refine puR 6 55 #[true, true, true, true, true, true, true, false, false, false, false, false, false, false, false, false, false, false] HT_ rfl rfl ?_; refine puR 8 57 #[true, true, true, true, true, true, true, false, true, false, false, false, false, false, false, false, false, false] HT_ rfl rfl ?_; refine puR 11 60 #[true, true, true, true, true, true, true, false, true, false, false, true, false, false, false, false, false, false] HT_ rfl rfl ?_; refine puR 13 62 #[true, true, true, true, true, true, true, false, true, false, false, true, false, true, false, false, false, false] HT_ rfl rfl ?_; refine taR 7 56 #[true, true, true, true, true, true, true, true, true, false, false, true, false, true, false, false, false, false] HT_ HW_ hHeld rfl rfl ?_; refine puR 9 58 #[true, true, true, true, true, true, true, true, true, true, false, true, false, true, false, false, false, false] HT_ rfl rfl ?_; refine taR 10 59 #[true, true, true, true, true, true, true, true, true, true, true, true, false, true, false, false, false, false] HT_ HW_ hHeld rfl rfl ?_; refine taR 12 61 #[true, true, true, true, true, true, true, true, true, true, true, true, true, true, false, false, false, false] HT_ HW_ hHeld rfl rfl ?_; refine puR 14 63 #[true, true, true, true, true, true, true, true, true, true, true, true, true, true, true, false, false, false] HT_ rfl rfl ?_; refine taR 15 64 #[true, true, true, true, true, true, true, true, true, true, true, true, true, true, true, true, false, false] HT_ HW_ hHeld rfl rfl ?_; refine puR 16 65 #[true, true, true, true, true, true, true, true, true, true, true, true, true, true, true, true, true, false] HT_ rfl rfl ?_; refine puR 17 66 #[true, true, true, true, true, true, true, true, true, true, true, true, true, true, true, true, true, true] HT_ rfl rfl ?_; refine done_ (done_of HT_.out Z33) ?_; have Dz : 0 ≤ ((rd Ad Aa) : Int) := of_decide_eq_true Z3; have D0 : ((rd Ad Aa) : Int) < ((Ap.length : Int) : Int) := of_decide_eq_true Z3; obtain ⟨D1, D2⟩ := Kd.R_celln 0 Ag.out ((rd Ad Aa) : Int) Dz D0; replace Dz := eq_true Dz; replace D0 := eq_true D0; obtain ⟨hy39_, hz39_⟩ := Kd.R_celln 0 Ag.out ((rd Ad Aa) : Int) (of_decide_eq_true Z3) (of_decide_eq_true Z3); have C0 := Kd.R_putg Ag.out ((rd Ad Aa) : Int) Az
                        try go_wp2_with (first | ((with_reducible refine gate_store (t := 3) (p := 70) rfl ?_); refine store_event (t := 3) (p := 70) (v := ?vo_w40) (w1 := (D7.setCell ⟨Aw, ((rd Ad Aa) : Int).toNat, none⟩ (.int .i64 Az))) ?hg ?ho ?hn ?hr ?_; (case ho => rfl); (case hg => rfl); (case hn => rfl); (case hr => first | (go_simp; done) | (go_simp; rfl)); intro D3 hw; have hg : D7.grownBy D3 (some Aw) := (by rw [hw]; exact C0.2); have hp_ : Kd.R (Kd.int .i64) 3 D3 w.heap.size (fun k_ => nV k_ u7 ∧ some k_ ≠ (.slice (some ad305) Ad.length B5 : Value).ownBlock) (.slice (some ⟨Aw, 0, none⟩) Ap.length Cc) Cj := (by rw [hw, Dh.out]; exact C0.1); clear C0; replace Am := aM (Kd.R_after (v := (.slice (some ⟨Aw, 0, none⟩) Ap.length Cc)) (v1 := (.slice (some ⟨Aw, 0, none⟩) Ap.length Cc)) (ok := (fun k_ => some k_ ≠ (.slice (some ad305) Ad.length B5 : Value).ownBlock)) Z110 hg (.inl rfl)); replace Ak := aM (Kd.R_after (v := (.slice (some ⟨Aw, 0, none⟩) Ap.length Cc)) (v1 := (.slice (some ⟨Aw, 0, none⟩) Ap.length Cc)) (ok := (fun k_ => nV k_ u7)) Z111 hg (.inl rfl)); replace Ac := aM (blk_grown (g := Au) (o := .cells #[.int .i64 Aq, .int .i64 Ar, .slice (some ad307) Af.length Bb] 28 (0, 0)) Z13 hg (Kd.R_ne Ag.out Ac.out (by decide))); replace Ag := aM (hp_); replace HB := aM ((Z134 : Below w.heap.size w D3)); clear hg hw hp_) | ((with_reducible refine gate_builtin (b := .append) (xs := #[.tmp 71, .tmp 73]) rfl ?_); at_builtin; refine Kd.R_append (Kd.int .i64) (w0 := w) w.heap.size rfl (.tmp 71) (.tmp 73) 22 3 (.int .i64 0) 8 rfl Try.underlying22 info3 rfl (by decide) (by omega) u7 Bf (rd Ad Aa) [.int .i64 (rd Ad Aa)] (fun k_ => some k_ ≠ (.slice (some ⟨Aw, 0, none⟩) Ap.length Cc : Value).ownBlock ∧ some k_ ≠ (.slice (some ad305) Ad.length B5 : Value).ownBlock) (fun _ => False) rfl rfl ?aP (fun _ hk => hk.elim) ?aF ?aO ?aB ?aS ?aL ?_; (case aP => exact rfl); (case aB => exact Z12); (case aF => exact (fun k_ hk => ⟨Kd.fresh' (Kd.R_lt Z21) k_ hk, Kd.fresh' (Kd.R_lt Z58) k_ hk⟩)); (case aO => exact Z110); (case aS => exact (below_size Z12)); (case aL => have := LMc37.out; omega); intro Es E0 ho hb hg hat; rw [← Dj.out] at ho; replace Ag := aM (Kd.R_after (ok := (fun k_ => some k_ ≠ (.slice (some ad305) Ad.length B5 : Value).ownBlock)) (by (with_reducible repeat (first | apply Kd.R_alloc | apply Kd.R_drewN | apply Kd.R_drew)); exact Kd.R_mono Ag.out (fun _ hk => ⟨hk.2, hk.1⟩)) hg hat); replace Ak := aM (Kd.R_after (ok := (fun k_ => some k_ ≠ (.slice (some ⟨Aw, 0, none⟩) Ap.length Cc : Value).ownBlock)) Z111 hg hat); replace Ac := aM (blk_grown (g := Au) (o := .cells #[.int .i64 Aq, .int .i64 Ar, .slice (some ad307) Af.length Bb] 28 (0, 0)) Z13 hg (Kd.R_ne Am.out Ac.out (by decide))); replace HB := aM (hb); have Dk := aM (ho); clear Am; clear ho hb hg hat))
                        (try simp only [← Ai])
                        go_roundg k3
                        case measure => have := HK1.out; have := HK2.out; have := HK3.out; omega
                        case rel => exact ⟨(Cj), (Di), (wrap64 (Aa + 1)), Z7, H', ⟨Z104⟩, ⟨by (try simp only [Ae]); (try simp only [Ah]); (try simp only [Ai]); (with_reducible repeat (first | apply Kd.R_alloc | apply Kd.R_drewN | apply Kd.R_drew)); exact Kd.R_mono Ag.out (fun _ hk => ⟨hk.2, hk.1⟩)⟩, ⟨by (try simp only [Ae]); (try simp only [Ah]); (try simp only [Ai]); (with_reducible repeat (first | apply Kd.R_alloc | apply Kd.R_drewN | apply Kd.R_drew)); exact Dk.out⟩, ⟨Z61⟩, ⟨Z40⟩, ⟨Z12⟩⟩
                       ·rw [if_neg Dt] at H
                        exact absurd H (by simp)
                      ·rw [if_neg Cz] at H
                       have c35b0 : ((rd Af (rd Ad Aa)) == (rd Af Ab)) = false := beq_eq_false_iff_ne.mpr Cz; have c35b1 : ((rd Af (rd Ad Aa)) != (rd Af Ab)) = true := bne_iff_ne.mpr Cz; have H' := Aside0.mk H; clear H; have Bg : 0 ≤ (Aa : Int) := of_decide_eq_true Z3; have Bh : Aa < (Ad.length : Int) := of_decide_eq_true Z3; obtain ⟨ad305, e305, Cd⟩ := Kd.at_int (Kd.R_reads' Ak.out).2.2 Aa Bg Bh; cases e305; replace Bg := eq_true Bg; replace Bh := eq_true Bh
                       try go_wp2
                       replace Ag := aM (Kd.R_drew Ag.out); replace Am := aM (Kd.R_drew Am.out); replace Ak := aM (Kd.R_drew Ak.out); replace Ac := aM (blk_drew Ac.out); replace HB := aM (below_drew1 HB.out); have Bi : 0 ≤ ((rd Ad Aa) : Int) := of_decide_eq_true Z3; have Bj : (rd Ad Aa) < (Ap.length : Int) := of_decide_eq_true Z3; obtain ⟨ad306, e306, Aj⟩ := Kd.at_int (Kd.R_reads' Ag.out).2.2 (rd Ad Aa) Bi Bj; obtain rfl : (⟨Aw, 0, none⟩ : Addr) = ad306 := (by injection e306)
                       (first | simp only [add_plain] at Aj | simp only [add_at] at Aj | simp only [Addr.add, Nat.zero_add] at Aj | skip)
                       replace Bi := eq_true Bi; replace Bj := eq_true Bj; have B6 : 0 ≤ ((rd Ad Aa) : Int) := of_decide_eq_true Z3; have B7 : (rd Ad Aa) < (Af.length : Int) := of_decide_eq_true Z3; obtain ⟨ad307, e307, An⟩ := Kd.at_int Bq.out (rd Ad Aa) B6 B7; have hw307_0 := An; cases e307; replace An := (HB.out.cell (World.block_lt_of_cell? w _ An)).trans An; replace B6 := eq_true B6; replace B7 := eq_true B7; have Ca : 0 ≤ (Ab : Int) := of_decide_eq_true Z3; have Cb : Ab < (Af.length : Int) := of_decide_eq_true Z3; obtain ⟨ad308, e308, Ao⟩ := Kd.at_int Bq.out Ab Ca Cb; have hw308_0 := Ao; obtain rfl : ad307 = ad308 := (by injection e308); replace Ao := (HB.out.cell (World.block_lt_of_cell? w _ Ao)).trans Ao; replace Ca := eq_true Ca; replace Cb := eq_true Cb; refine start_ (n := 18) (S := fun w' => w'.cell? ⟨Au, 0, none⟩ = some (.int .i64 Aq) ∧ w'.cell? ⟨Au, 1, none⟩ = some (.int .i64 Ar) ∧ w'.cell? ⟨Au, 2, none⟩ = some (.slice (some ad307) Af.length Bb) ∧ w'.cell? ⟨Aw, ((rd Ad Aa)).toNat, none⟩ = some (.int .i64 (rd Ap (rd Ad Aa))) ∧ w'.cell? (ad307.add ((rd Ad Aa)).toNat) = some (.int .i64 (rd Af (rd Ad Aa))) ∧ w'.cell? (ad307.add (Ab).toNat) = some (.int .i64 (rd Af Ab))) (ds := []) #[false, false, false, false, false, false, false, false, false, false, false, false, false, false, false, false, false, false] Z33 rfl rfl ⟨(blk_cell Ac.out 0).trans rfl, (blk_cell Ac.out 1).trans rfl, (blk_cell Ac.out 2).trans rfl, Aj, ((HB.out.cell (World.block_lt_of_cell? w _ hw307_0)).trans hw307_0), ((HB.out.cell (World.block_lt_of_cell? w _ hw308_0)).trans hw308_0)⟩ (fun hHeld => ?_); refine with_tabW impl_Chart_areas.tab14 impl_Chart_areas.bits14 (fun HT_ HW_ => ?_)
                       generalize wr.drew = E2 at Ag Am Ak Ac HB Aj An Ao hHeld ⊢
                       refine puR 0 49 #[true, false, false, false, false, false, false, false, false, false, false, false, false, false, false, false, false, false] HT_ rfl rfl ?_; refine puR 1 50 #[true, true, false, false, false, false, false, false, false, false, false, false, false, false, false, false, false, false] HT_ rfl rfl ?_; refine puR 2 51 #[true, true, true, false, false, false, false, false, false, false, false, false, false, false, false, false, false, false] HT_ rfl rfl ?_; refine taR 3 52 #[true, true, true, true, false, false, false, false, false, false, false, false, false, false, false, false, false, false] HT_ HW_ hHeld rfl rfl ?_; refine puR 4 53 #[true, true, true, true, true, false, false, false, false, false, false, false, false, false, false, false, false, false] HT_ rfl rfl ?_; refine puR 5 54 #[true, true, true, true, true, true, false, false, false, false, false, false, false, false, false, false, false, false] HT_ rfl rfl ?_; refine puR 6 55 #[true, true, true, true, true, true, true, false, false, false, false, false, false, false, false, false, false, false] HT_ rfl rfl ?_; refine puR 8 57 #[true, true, true, true, true, true, true, false, true, false, false, false, false, false, false, false, false, false] HT_ rfl rfl ?_; refine puR 11 60 #[true, true, true, true, true, true, true, false, true, false, false, true, false, false, false, false, false, false] HT_ rfl rfl ?_; refine puR 13 62 #[true, true, true, true, true, true, true, false, true, false, false, true, false, true, false, false, false, false] HT_ rfl rfl ?_; refine taR 7 56 #[true, true, true, true, true, true, true, true, true, false, false, true, false, true, false, false, false, false] HT_ HW_ hHeld rfl rfl ?_; refine puR 9 58 #[true, true, true, true, true, true, true, true, true, true, false, true, false, true, false, false, false, false] HT_ rfl rfl ?_; refine taR 10 59 #[true, true, true, true, true, true, true, true, true, true, true, true, false, true, false, false, false, false] HT_ HW_ hHeld rfl rfl ?_; refine taR 12 61 #[true, true, true, true, true, true, true, true, true, true, true, true, true, true, false, false, false, false] HT_ HW_ hHeld rfl rfl ?_; refine puR 14 63 #[true, true, true, true, true, true, true, true, true, true, true, true, true, true, true, false, false, false] HT_ rfl rfl ?_; refine taR 15 64 #[true, true, true, true, true, true, true, true, true, true, true, true, true, true, true, true, false, false] HT_ HW_ hHeld rfl rfl ?_; refine puR 16 65 #[true, true, true, true, true, true, true, true, true, true, true, true, true, true, true, true, true, false] HT_ rfl rfl ?_; refine puR 17 66 #[true, true, true, true, true, true, true, true, true, true, true, true, true, true, true, true, true, true] HT_ rfl rfl ?_; refine done_ (done_of HT_.out Z33) ?_
                       try go_wp2
                       (try simp only [← Ai])
                       go_roundg k3
                       case measure => have := HK1.out; have := HK2.out; have := HK3.out; omega
                       case rel => exact ⟨(Ap), (Bf), (wrap64 (Aa + 1)), Z7, H', ⟨Z104⟩, ⟨Z82⟩, ⟨Z83⟩, ⟨Z61⟩, ⟨Z40⟩, ⟨Z12⟩⟩
                     ·rw [if_neg Ds] at H
                      exact absurd H (by simp)
                    ·rw [if_neg Dr] at H
                     exact absurd H (by simp)
                   ·rw [if_neg Dq] at H
                    exact absurd H (by simp)
                  ·rw [if_neg C5] at H
                   have c31b0 : decide ((rd Ap (rd Ad Aa)) < 0) = false := decide_eq_false C5; clear C5; have H' := Aside0.mk H; clear H; have Bg : 0 ≤ (Aa : Int) := of_decide_eq_true Z3; have Bh : Aa < (Ad.length : Int) := of_decide_eq_true Z3; obtain ⟨ad305, e305, Cd⟩ := Kd.at_int (Kd.R_reads' Ak.out).2.2 Aa Bg Bh; cases e305; replace Bg := eq_true Bg; replace Bh := eq_true Bh
                   try go_wp2
                   replace Ag := aM (Kd.R_drew Ag.out); replace Am := aM (Kd.R_drew Am.out); replace Ak := aM (Kd.R_drew Ak.out); replace Ac := aM (blk_drew Ac.out); replace HB := aM (below_drew1 HB.out); have Bi : 0 ≤ ((rd Ad Aa) : Int) := of_decide_eq_true Z3; have Bj : (rd Ad Aa) < (Ap.length : Int) := of_decide_eq_true Z3; obtain ⟨ad306, e306, Aj⟩ := Kd.at_int (Kd.R_reads' Ag.out).2.2 (rd Ad Aa) Bi Bj; obtain rfl : (⟨Aw, 0, none⟩ : Addr) = ad306 := (by injection e306)
                   (first | simp only [add_plain] at Aj | simp only [add_at] at Aj | simp only [Addr.add, Nat.zero_add] at Aj | skip)
                   replace Bi := eq_true Bi; replace Bj := eq_true Bj; refine start_ (n := 18) (S := fun w' => w'.cell? ⟨Aw, ((rd Ad Aa)).toNat, none⟩ = some (.int .i64 (rd Ap (rd Ad Aa)))) (ds := []) #[false, false, false, false, false, false, false, false, false, false, false, false, false, false, false, false, false, false] Z33 rfl rfl (Aj) (fun hHeld => ?_); refine with_tabW impl_Chart_areas.tab14 impl_Chart_areas.bits14 (fun HT_ HW_ => ?_)
                   generalize wr.drew = E3 at Ag Am Ak Ac HB Aj hHeld ⊢
                   refine puR 0 49 #[true, false, false, false, false, false, false, false, false, false, false, false, false, false, false, false, false, false] HT_ rfl rfl ?_; refine puR 1 50 #[true, true, false, false, false, false, false, false, false, false, false, false, false, false, false, false, false, false] HT_ rfl rfl ?_; refine puR 2 51 #[true, true, true, false, false, false, false, false, false, false, false, false, false, false, false, false, false, false] HT_ rfl rfl ?_; refine take_ (i := 3) (N := some 52) (v := ?_) (a' := ?_) #[true, true, true, true, false, false, false, false, false, false, false, false, false, false, false, false, false, false] rfl rfl (take_ofW HT_.out HW_.out Z33) (fun _ _ _ h => h) (Or.inl ⟨by rfl, ?_⟩) hHeld ?_ ?_
                   rotate_left
                   ·intro w' s0
                    go_simp
                    with_reducible rfl
                   rotate_left
                   ·exact Z16
                   refine puR 4 53 #[true, true, true, true, true, false, false, false, false, false, false, false, false, false, false, false, false, false] HT_ rfl rfl ?_; refine puR 5 54 #[true, true, true, true, true, true, false, false, false, false, false, false, false, false, false, false, false, false] HT_ rfl rfl ?_; refine pure_ (i := 6) (N := some 55) (v := undef) (a' := ?_) #[true, true, true, true, true, true, true, false, false, false, false, false, false, false, false, false, false, false] rfl rfl (any_of HT_.out Z33) (fun _ _ _ h => h) (Or.inr ⟨by rfl, rfl⟩) ?_ ?_
                   rotate_left
                   ·exact Z16
                   refine pure_ (i := 7) (N := some 56) (v := undef) (a' := ?_) #[true, true, true, true, true, true, true, true, false, false, false, false, false, false, false, false, false, false] rfl rfl (any_of HT_.out Z33) (fun _ _ _ h => h) (Or.inr ⟨by rfl, rfl⟩) ?_ ?_
                   rotate_left
                   ·exact Z16
                   refine pure_ (i := 8) (N := some 57) (v := undef) (a' := ?_) #[true, true, true, true, true, true, true, true, true, false, false, false, false, false, false, false, false, false] rfl rfl (any_of HT_.out Z33) (fun _ _ _ h => h) (Or.inr ⟨by rfl, rfl⟩) ?_ ?_
                   rotate_left
                   ·exact Z16
                   refine pure_ (i := 9) (N := some 58) (v := undef) (a' := ?_) #[true, true, true, true, true, true, true, true, true, true, false, false, false, false, false, false, false, false] rfl rfl (any_of HT_.out Z33) (fun _ _ _ h => h) (Or.inr ⟨by rfl, rfl⟩) ?_ ?_
                   rotate_left
                   ·exact Z16
                   refine pure_ (i := 10) (N := some 59) (v := undef) (a' := ?_) #[true, true, true, true, true, true, true, true, true, true, true, false, false, false, false, false, false, false] rfl rfl (any_of HT_.out Z33) (fun _ _ _ h => h) (Or.inr ⟨by rfl, rfl⟩) ?_ ?_
                   rotate_left
                   ·exact Z16
                   refine pure_ (i := 11) (N := some 60) (v := undef) (a' := ?_) #[true, true, true, true, true, true, true, true, true, true, true, true, false, false, false, false, false, false] rfl rfl (any_of HT_.out Z33) (fun _ _ _ h => h) (Or.inr ⟨by rfl, rfl⟩) ?_ ?_
                   rotate_left
                   ·exact Z16
                   refine pure_ (i := 12) (N := some 61) (v := undef) (a' := ?_) #[true, true, true, true, true, true, true, true, true, true, true, true, true, false, false, false, false, false] rfl rfl (any_of HT_.out Z33) (fun _ _ _ h => h) (Or.inr ⟨by rfl, rfl⟩) ?_ ?_
                   rotate_left
                   ·exact Z16
                   refine pure_ (i := 13) (N := some 62) (v := undef) (a' := ?_) #[true, true, true, true, true, true, true, true, true, true, true, true, true, true, false, false, false, false] rfl rfl (any_of HT_.out Z33) (fun _ _ _ h => h) (Or.inr ⟨by rfl, rfl⟩) ?_ ?_
                   rotate_left
                   ·exact Z16
                   refine pure_ (i := 14) (N := some 63) (v := undef) (a' := ?_) #[true, true, true, true, true, true, true, true, true, true, true, true, true, true, true, false, false, false] rfl rfl (any_of HT_.out Z33) (fun _ _ _ h => h) (Or.inr ⟨by rfl, rfl⟩) ?_ ?_
                   rotate_left
                   ·exact Z16
                   refine pure_ (i := 15) (N := some 64) (v := undef) (a' := ?_) #[true, true, true, true, true, true, true, true, true, true, true, true, true, true, true, true, false, false] rfl rfl (any_of HT_.out Z33) (fun _ _ _ h => h) (Or.inr ⟨by rfl, rfl⟩) ?_ ?_
                   rotate_left
                   ·exact Z16
                   refine pure_ (i := 16) (N := some 65) (v := undef) (a' := ?_) #[true, true, true, true, true, true, true, true, true, true, true, true, true, true, true, true, true, false] rfl rfl (any_of HT_.out Z33) (fun _ _ _ h => h) (Or.inr ⟨by rfl, rfl⟩) ?_ ?_
                   rotate_left
                   ·exact Z16
                   refine puR 17 66 #[true, true, true, true, true, true, true, true, true, true, true, true, true, true, true, true, true, true] HT_ rfl rfl ?_; refine done_ (done_of HT_.out Z33) ?_
                   try go_wp2
                   (try simp only [← Ai])
                   go_roundg k3
                   case measure => have := HK1.out; have := HK2.out; have := HK3.out; omega
                   case rel => exact ⟨(Ap), (Bf), (wrap64 (Aa + 1)), Z7, H', ⟨Z104⟩, ⟨Z82⟩, ⟨Z83⟩, ⟨Z61⟩, ⟨Z40⟩, ⟨Z12⟩⟩
                 ·rw [if_neg Dp] at H
                  exact absurd H (by simp)
                ·rw [if_neg Dn] at H
                 exact absurd H (by simp)
               ·rw [if_neg Dm] at H
                exact absurd H (by simp)
              ·rw [if_neg Dl] at H
               exact absurd H (by simp)
             ·rw [if_neg C4] at H
              have c26b0 : decide (Aa < (Ad.length : Int)) = false := decide_eq_false C4
              (try simp only [Ae, Ah, Ai] at c26b0)
              clear C4; have H' := Aside0.mk H; clear H
              go_wp2
              (try simp only [← Ah, ← Ai])
              go_roundg k3
              case measure => have := HK1.out; have := HK2.out; have := HK3.out; omega
              case rel => exact ⟨(Ap), (Bf), (wrap64 (Ay + 1)), Z7, H', ⟨Z104⟩, ⟨by (try simp only [Ae]); (try simp only [Ah]); (try simp only [Ai]); (with_reducible repeat (first | apply Kd.R_alloc | apply Kd.R_drewN | apply Kd.R_drew)); exact Kd.R_mono Ag.out (fun _ hk => hk.1)⟩, ⟨by (try simp only [Ae]); (try simp only [Ah]); (try simp only [Ai]); (with_reducible repeat (first | apply Kd.R_alloc | apply Kd.R_drewN | apply Kd.R_drew)); exact Kd.R_mono Am.out (fun _ hk => hk.1)⟩, ⟨Z40⟩, ⟨Z12⟩⟩
          ·rw [if_neg De] at H
           exact absurd H (by simp)
         ·rw [if_neg Cx] at H
          have c19b0 : decide (Ay < (Bc.length : Int)) = false := decide_eq_false Cx
          (try simp only [Ae, Ah] at c19b0)
          clear Cx; have H' := Aside0.mk H; clear H; obtain ⟨Et, Eu, D4⟩ := Kd.R_slice Am.out; subst D4
          go_wp2
          (try simp only [← Ae, ← Ah])
          go_roundg k2
          case measure => have := HK1.out; have := HK2.out; omega
          case rel => exact ⟨(Bo), (wrap64 (Az + 1)), (wrap64 (Ab + 1)), Z7, Z7, H', ⟨by have := HK1.out; have := HK2.out; omega⟩, ⟨by (try simp only [Ae]); (try simp only [Ah]); (with_reducible repeat (first | apply Kd.R_alloc | apply Kd.R_drewN | apply Kd.R_drew)); exact Kd.R_mono Ag.out (fun _ hk => trivial)⟩, ⟨Z90⟩, ⟨Z12⟩⟩
     ·rw [if_neg C3] at H
      exact absurd H (by simp)
    ·rw [if_neg C1] at H
     exact absurd H (by simp)
   ·rw [if_neg Cp] at H
    have c10b0 : decide (Ab < (Ax.length : Int)) = false := decide_eq_false Cp
    (try simp only [Ae] at c10b0)
    clear Cp
    simp only [Option.some.injEq, Prod.mk.injEq] at H
    obtain ⟨rfl, rfl⟩ := H
    go_wp2
    go_ret2
    exact ⟨_, Z6, Z21, Z12⟩
end Go.Proofs.Ytaadbpibmlnncaa.H
