-- by wip/pack.py of this repo
import Derived.Test.YtffgmmfkiecheaaZ01Hx0
import Derived.Test.YtffgmmfkiecheaaZ01WLast
import Derived.Test.YtffgmmfkiecheaaZ01WMore
import Derived.Test.YtffgmmfkiecheaaZ01WRepsOne
import Derived.Test.YtffgmmfkiecheaaZ01WTab
import Derived.Test.YtffgmmfkiecheaaZ01WWords
import Derived.Test.YtffgmmfkiecheaaZ01Short
namespace Go.Proofs.Ytffgmmfkiecheaa.H
open Go.RowKit Go.Proofs.YtffgmmfkiecheaaW.PrintWords Go.Proofs.YtffgmmfkiecheaaW.PrintLast Go.Proofs.YtffgmmfkiecheaaW.PrintMore
attribute [local go_sem] max2_int min2_int max_two min_two max_three min_three max_four min_four
set_option maxHeartbeats 8000000
set_option maxRecDepth 100000
set_option linter.unusedVariables false
set_option linter.unusedSimpArgs false
def spec_l1Has.l0 : Nat → List Int → Int → Int → Option (Bool)
 | 0, _, _, _ => none
 | k + 1, x0, x1, x5 => if x5 < (x0.length : Int) then (if 0 ≤ x5 then (if (rd x0 x5) = x1 then (some true) else (spec_l1Has.l0 k x0 x1 (wrap64 (x5 + 1)))) else (none)) else (some false)
def spec_l1Has.f (k : Nat) (l0 : List Int) (a1 : Int) : Option (Bool) := spec_l1Has.l0 k l0 a1 0
theorem spec_l1Has.calls (k : Nat) (A0 : Option Addr) (c0 : Nat) (l0 : List Int) (a1 : Int) (r : Bool) (w : World) (Ae : Kd.C (Kd.int .i64) w A0 l0.length l0) (Af : l0.length ≤ c0) (h : spec_l1Has.f k l0 a1 = some r) :
  Calls Try.prog 63 #[.slice A0 l0.length c0, .int .i64 a1] w fun e w' => e = .returned (.bool r) ∧ Drawn0 w w' := by
 have Ag := Aside0.mk Ae; have Ah := Aside0.mk Af; clear Ae Af; have H : (spec_l1Has.l0 k l0 a1 0) = some r := h; clear h; have H' := Aside0.mk H; clear H
 go_enter Try.func63, Try.ntmps63
 go_wp2
 go_loopg [5] k (fun kq v5 w' => ∃ (Aa : Int), v5 = .int .i64 Aa ∧ Aside0 (spec_l1Has.l0 kq l0 a1 Aa = some r) ∧ Aside0 (kq ≤ k) ∧ Drawn0 w w')
 case atStart => exact ⟨(0), Z3, H', ⟨Nat.le_refl _⟩, Z9⟩
 case round =>
  clear H'; (try clear p2); obtain ⟨Aa, rfl, HA, HK1, ⟨m1, rfl⟩⟩ := hrel; cases gk with
  | zero => exact absurd HA.out (by simp [spec_l1Has.l0])
  | succ k1 =>
   have H := HA.out; clear HA
   simp only [spec_l1Has.l0] at H
   by_cases c3 : Aa < (l0.length : Int)
   ·rw [if_pos c3] at H
    have c3b0 : decide (Aa < (l0.length : Int)) = true := decide_eq_true c3; clear c3
    by_cases c4 : 0 ≤ Aa
    ·rw [if_pos c4] at H
     have c4b0 : decide (0 ≤ Aa) = true := decide_eq_true c4; clear c4
     by_cases c5 : (rd l0 Aa) = a1
     ·rw [if_pos c5] at H
      have c5b0 : ((rd l0 Aa) == a1) = true := beq_iff_eq.mpr c5; have c5b1 : ((rd l0 Aa) != a1) = false := bne_eq_false_iff_eq.mpr c5; clear c5; obtain rfl := Option.some.inj H; have Ab : 0 ≤ (Aa : Int) := of_decide_eq_true Z2; have Ac : Aa < (l0.length : Int) := of_decide_eq_true Z2; obtain ⟨ad143, e143, Ad⟩ := Kd.at_int Ag.out Aa Ab Ac; cases e143; replace Ab := eq_true Ab; replace Ac := eq_true Ac
      go_wp2
      go_ret
      exact ⟨Z3, Z9⟩
     ·rw [if_neg c5] at H
      have c5b0 : ((rd l0 Aa) == a1) = false := beq_eq_false_iff_ne.mpr c5; have c5b1 : ((rd l0 Aa) != a1) = true := bne_iff_ne.mpr c5; have H' := Aside0.mk H; clear H; have Ab : 0 ≤ (Aa : Int) := of_decide_eq_true Z2; have Ac : Aa < (l0.length : Int) := of_decide_eq_true Z2; obtain ⟨ad143, e143, Ad⟩ := Kd.at_int Ag.out Aa Ab Ac; cases e143; replace Ab := eq_true Ab; replace Ac := eq_true Ac
      go_wp2
      go_roundg k1
      case measure => have := HK1.out; omega
      case rel => exact ⟨(wrap64 (Aa + 1)), Z3, H', ⟨Z39⟩, Z9⟩
    ·rw [if_neg c4] at H
     exact absurd H (by simp)
   ·rw [if_neg c3] at H
    have c3b0 : decide (Aa < (l0.length : Int)) = false := decide_eq_false c3; clear c3; obtain rfl := Option.some.inj H
    go_wp2
    go_ret
    exact ⟨Z3, Z9⟩
def spec_l1Put.l0 : Nat → List Int → Int → Int → Option (List Int)
 | 0, _, _, _ => none
 | k + 1, x0, x1, x5 => if x5 < (x0.length : Int) then (if 0 ≤ x5 then (if (rd x0 x5) < x1 then (spec_l1Put.l0 k x0 x1 (wrap64 (x5 + 1))) else (if (rd x0 x5) = x1 then (none) else ((some (([] : List Int) : List Int)).bind fun y146 => (if x5 ≤ (x0.length : Int) then (if y146.length + (x0.take (x5 : Int).toNat).length < 17592186044416 then ((some (y146 ++ (x0.take (x5 : Int).toNat) : List Int)).bind fun y150 => ((some (([x1] : List Int) : List Int)).bind fun y153 => (if y150.length + y153.length < 17592186044416 then ((some (y150 ++ y153 : List Int)).bind fun y156 => (if y156.length + (x0.drop (x5 : Int).toNat).length < 17592186044416 then (some (y156 ++ (x0.drop (x5 : Int).toNat))) else (none))) else (none)))) else (none)) else (none))))) else (none)) else ((some (([] : List Int) : List Int)).bind fun y163 => (if 0 ≤ x5 then (if x5 ≤ (x0.length : Int) then (if y163.length + (x0.take (x5 : Int).toNat).length < 17592186044416 then ((some (y163 ++ (x0.take (x5 : Int).toNat) : List Int)).bind fun y167 => ((some (([x1] : List Int) : List Int)).bind fun y170 => (if y167.length + y170.length < 17592186044416 then ((some (y167 ++ y170 : List Int)).bind fun y173 => (if y173.length + (x0.drop (x5 : Int).toNat).length < 17592186044416 then (some (y173 ++ (x0.drop (x5 : Int).toNat))) else (none))) else (none)))) else (none)) else (none)) else (none)))
def spec_l1Put.f (k : Nat) (l0 : List Int) (a1 : Int) : Option (List Int) := spec_l1Put.l0 k l0 a1 0
def spec_l1Put.T6 : Bool × List (List Nat × List Nat) := (true, [([], []), ([], []), ([], []), ([1, 2], [1, 2]), ([0, 3], [0, 3]), ([], []), ([5], [5]), ([4, 6, 4], [4, 6]), ([], []), ([], []), ([8, 9], [8, 9]), ([7, 10, 7], [7, 10]), ([11, 11, 0, 1, 2, 3, 4, 5, 6, 7, 8, 9, 10, 11], [11])])
def spec_l1Put.B6 : List Nat := [0, 0, 0, 6, 15, 0, 32, 127, 0, 0, 768, 2047, 4095]
theorem spec_l1Put.tab6 : rtab .any (opsOf Try.f64 6) = spec_l1Put.T6 := by kernel_rfl
theorem spec_l1Put.bits6 : waitsOk spec_l1Put.T6.2 spec_l1Put.B6 = true := by kernel_rfl
theorem spec_l1Put.calls (k : Nat) (A0 : Option Addr) (c0 : Nat) (l0 : List Int) (a1 : Int) (r : List Int) (w : World) (Cz : Kd.C (Kd.int .i64) w A0 l0.length l0) (C0 : l0.length ≤ c0) (h : spec_l1Put.f k l0 a1 = some r) :
  Calls Try.prog 64 #[.slice A0 l0.length c0, .int .i64 a1] w fun e w' => ∃ v0_ : Value, e = .returned (v0_) ∧ Kd.R (Kd.int .i64) 3 w' w.heap.size (fun _ => True) v0_ r ∧ Below w.heap.size w w' := by
 have B5 := Aside0.mk Cz; have Cn := Aside0.mk C0; clear Cz C0; have HB := aM (Below.refl w.heap.size w); have H : (spec_l1Put.l0 k l0 a1 0) = some r := h; clear h; have H' := Aside0.mk H; clear H
 go_enter Try.func64, Try.ntmps64
 go_wp2
 go_loopg [5] k (fun kq v5 w' => ∃ (Aa : Int), v5 = .int .i64 Aa ∧ Aside0 (spec_l1Put.l0 kq l0 a1 Aa = some r) ∧ Aside0 (kq ≤ k) ∧ Aside0 (Below w.heap.size w w'))
 case atStart => exact ⟨(0), Z3, H', ⟨Nat.le_refl _⟩, ⟨Z0⟩⟩
 case round =>
  clear H'; (try clear p2); obtain ⟨Aa, rfl, HA, HK1, HB⟩ := hrel; cases gk with
  | zero => exact absurd HA.out (by simp [spec_l1Put.l0])
  | succ k1 =>
   have H := HA.out; clear HA
   simp only [spec_l1Put.l0] at H
   by_cases c3 : Aa < (l0.length : Int)
   ·rw [if_pos c3] at H
    have c3b0 : decide (Aa < (l0.length : Int)) = true := decide_eq_true c3; clear c3
    by_cases c4 : 0 ≤ Aa
    ·rw [if_pos c4] at H
     have c4b0 : decide (0 ≤ Aa) = true := decide_eq_true c4; clear c4
     by_cases c5 : (rd l0 Aa) < a1
     ·rw [if_pos c5] at H
      have c5b0 : decide ((rd l0 Aa) < a1) = true := decide_eq_true c5; clear c5; have H' := Aside0.mk H; clear H; have Bp : 0 ≤ (Aa : Int) := of_decide_eq_true Z2; have Bq : Aa < (l0.length : Int) := of_decide_eq_true Z2; obtain ⟨ad144, e144, Ad⟩ := Kd.at_int B5.out Aa Bp Bq; cases e144; replace Ad := (HB.out.cell (World.block_lt_of_cell? w _ Ad)).trans Ad; replace Bp := eq_true Bp; replace Bq := eq_true Bq
      go_wp2
      go_roundg k1
      case measure => have := HK1.out; omega
      case rel => exact ⟨(wrap64 (Aa + 1)), Z3, H', ⟨Z39⟩, ⟨Z0⟩⟩
     ·rw [if_neg c5] at H
      have c5b0 : decide ((rd l0 Aa) < a1) = false := decide_eq_false c5; clear c5
      by_cases c6 : (rd l0 Aa) = a1
      ·rw [if_pos c6] at H
       exact absurd H (by simp)
      ·rw [if_neg c6] at H
       have c6b0 : ((rd l0 Aa) == a1) = false := beq_eq_false_iff_ne.mpr c6; have c6b1 : ((rd l0 Aa) != a1) = true := bne_iff_ne.mpr c6; obtain ⟨Br, Bc⟩ : ∃ y_ : List Int, y_ = (([] : List Int)) := ⟨_, rfl⟩
       replace H : (if Aa ≤ (l0.length : Int) then (if Br.length + (l0.take (Aa : Int).toNat).length < 17592186044416 then ((some (Br ++ (l0.take (Aa : Int).toNat) : List Int)).bind fun Aq => ((some (([a1] : List Int) : List Int)).bind fun Ak => (if Aq.length + Ak.length < 17592186044416 then ((some (Aq ++ Ak : List Int)).bind fun Am => (if Am.length + (l0.drop (Aa : Int).toNat).length < 17592186044416 then (some (Am ++ (l0.drop (Aa : Int).toNat))) else (none))) else (none)))) else (none)) else (none)) = some r := by first | (rw [Bc]; with_reducible exact H) | (have H2_ := (Option.bind_some _ _).symm.trans H; rw [Bc]; with_reducible exact H2_) | (have H2_ := (Option.bind_some _ _).symm.trans H; with_reducible exact H2_) | with_reducible exact H | (rw [Bc]; exact H) | exact H
       have Bt := Aside0.mk Bc; clear Bc; have c7b0 := eq_true (of_decide_eq_true Z2 : 0 ≤ Aa)
       by_cases c8 : Aa ≤ (l0.length : Int)
       ·rw [if_pos c8] at H
        have c8b0 := eq_true c8; have c8b1 : decide (Aa ≤ (l0.length : Int)) = true := decide_eq_true c8; clear c8
        by_cases c9 : Br.length + (l0.take (Aa : Int).toNat).length < 17592186044416
        ·rw [if_pos c9] at H
         have LMc9 := Aside0.mk c9; clear c9; obtain ⟨Aq, Bd⟩ : ∃ y_ : List Int, y_ = (Br ++ (l0.take (Aa : Int).toNat)) := ⟨_, rfl⟩
         replace H : ((some (([a1] : List Int) : List Int)).bind fun Ak => (if Aq.length + Ak.length < 17592186044416 then ((some (Aq ++ Ak : List Int)).bind fun Am => (if Am.length + (l0.drop (Aa : Int).toNat).length < 17592186044416 then (some (Am ++ (l0.drop (Aa : Int).toNat))) else (none))) else (none))) = some r := by first | (rw [Bd]; with_reducible exact H) | (have H2_ := (Option.bind_some _ _).symm.trans H; rw [Bd]; with_reducible exact H2_) | (have H2_ := (Option.bind_some _ _).symm.trans H; with_reducible exact H2_) | with_reducible exact H | (rw [Bd]; exact H) | exact H
         have Bx := Aside0.mk Bd; clear Bd; obtain ⟨Ak, Bf⟩ : ∃ y_ : List Int, y_ = (([a1] : List Int)) := ⟨_, rfl⟩
         replace H : (if Aq.length + Ak.length < 17592186044416 then ((some (Aq ++ Ak : List Int)).bind fun Am => (if Am.length + (l0.drop (Aa : Int).toNat).length < 17592186044416 then (some (Am ++ (l0.drop (Aa : Int).toNat))) else (none))) else (none)) = some r := by first | (rw [Bf]; with_reducible exact H) | (have H2_ := (Option.bind_some _ _).symm.trans H; rw [Bf]; with_reducible exact H2_) | (have H2_ := (Option.bind_some _ _).symm.trans H; with_reducible exact H2_) | with_reducible exact H | (rw [Bf]; exact H) | exact H
         have Ay := Aside0.mk Bf; clear Bf
         by_cases Co : Aq.length + Ak.length < 17592186044416
         ·rw [if_pos Co] at H
          have LMc10 := Aside0.mk Co; clear Co; obtain ⟨Am, Bg⟩ : ∃ y_ : List Int, y_ = (Aq ++ Ak) := ⟨_, rfl⟩
          replace H : (if Am.length + (l0.drop (Aa : Int).toNat).length < 17592186044416 then (some (Am ++ (l0.drop (Aa : Int).toNat))) else (none)) = some r := by first | (rw [Bg]; with_reducible exact H) | (have H2_ := (Option.bind_some _ _).symm.trans H; rw [Bg]; with_reducible exact H2_) | (have H2_ := (Option.bind_some _ _).symm.trans H; with_reducible exact H2_) | with_reducible exact H | (rw [Bg]; exact H) | exact H
          have B9 := Aside0.mk Bg; clear Bg; have c11b0 := eq_true (of_decide_eq_true Z2 : 0 ≤ Aa); have c12b0 := eq_true (of_decide_eq_true Z2 : Aa ≤ (l0.length : Int))
          by_cases Cp : Am.length + (l0.drop (Aa : Int).toNat).length < 17592186044416
          ·rw [if_pos Cp] at H
           have LMc13 := Aside0.mk Cp; clear Cp; obtain ⟨Ct, Bh⟩ : ∃ y_ : List Int, y_ = (Am ++ (l0.drop (Aa : Int).toNat)) := ⟨_, rfl⟩
           replace H : (some Ct) = some r := by first | (rw [Bh]; with_reducible exact H) | (have H2_ := (Option.bind_some _ _).symm.trans H; rw [Bh]; with_reducible exact H2_) | (have H2_ := (Option.bind_some _ _).symm.trans H; with_reducible exact H2_) | with_reducible exact H | (rw [Bh]; exact H) | exact H
           have Ca := Aside0.mk Bh; clear Bh; obtain rfl := Option.some.inj H; have Bp : 0 ≤ (Aa : Int) := of_decide_eq_true Z2; have Bq : Aa < (l0.length : Int) := of_decide_eq_true Z2; obtain ⟨ad144, e144, Ad⟩ := Kd.at_int B5.out Aa Bp Bq; cases e144; replace Ad := (HB.out.cell (World.block_lt_of_cell? w _ Ad)).trans Ad; replace Bp := eq_true Bp; replace Bq := eq_true Bq; have B7 : 0 ≤ (Aa : Int) := of_decide_eq_true Z2; have B8 : Aa < (l0.length : Int) := of_decide_eq_true Z2; obtain ⟨ad145, e145, A3⟩ := Kd.at_int B5.out Aa B7 B8; obtain rfl : ad144 = ad145 := (by injection e145); replace A3 := (HB.out.cell (World.block_lt_of_cell? w _ A3)).trans A3; replace B7 := eq_true B7; replace B8 := eq_true B8
           try go_wp2
           replace HB := aM (below_drew1 HB.out); obtain ⟨i015, hi015, _, hsz15, _⟩ := info_parts info3; obtain ⟨hcut15, hA15, hC15⟩ := print_take_of (P := Try.prog) (Value.int .i64) 0 26 3 .i64 Try.underlying26 hi015 hsz15 (some ad144) c0 l0 Aa (of_decide_eq_true Z2) (of_decide_eq_true Z2) Cn.out; have Ag := aM (Kd.C_of_reads (h1 := fun _ => rfl) (hA15 _ (Kd.reads_of_C B5.out))); have C1 := Aside0.mk hC15; clear hA15 hC15 hi015 hsz15; obtain ⟨i016, hi016, _, hsz16, _⟩ := info_parts info3; obtain ⟨Dd, hcut16, hA16, hC16⟩ := print_drop_of (P := Try.prog) (Value.int .i64) 0 26 3 .i64 Try.underlying26 hi016 hsz16 (some ad144) c0 l0 Aa (of_decide_eq_true Z2) (of_decide_eq_true Z2) Cn.out; have Bz := aM (Kd.C_of_reads (h1 := fun _ => rfl) (hA16 _ (Kd.reads_of_C B5.out))); have C2 := Aside0.mk hC16; clear hA16 hC16 hi016 hsz16; refine start_ (n := 13) (S := fun w' => True) (ds := []) #[false, false, false, false, false, false, false, false, false, false, false, false, false] Z6 rfl rfl trivial (fun hHeld => ?_); refine with_tabW spec_l1Put.tab6 spec_l1Put.bits6 (fun HT_ HW_ => ?_)
           generalize wr.drew = De at HB Ag Bz hHeld ⊢
           refine puR 1 34 #[false, true, false, false, false, false, false, false, false, false, false, false, false] HT_ rfl rfl ?_; refine puR 2 35 #[false, true, true, false, false, false, false, false, false, false, false, false, false] HT_ rfl rfl ?_; refine puR 3 36 #[false, true, true, true, false, false, false, false, false, false, false, false, false] HT_ rfl rfl ?_; refine puR 5 38 #[false, true, true, true, false, true, false, false, false, false, false, false, false] HT_ rfl rfl ?_; refine puR 8 41 #[false, true, true, true, false, true, false, false, true, false, false, false, false] HT_ rfl rfl ?_; refine puR 9 42 #[false, true, true, true, false, true, false, false, true, true, false, false, false] HT_ rfl rfl ?_; refine puR 10 43 #[false, true, true, true, false, true, false, false, true, true, true, false, false] HT_ rfl rfl ?_; refine join_ (σ := Value × Value × Value) 3 #[true, true, true, true, true, true, true, false, true, true, true, false, false] (fun s_ => [(33, s_.1), (37, s_.2.1), (39, s_.2.2)]) (fun s_ w' => (Kd.R (Kd.int .i64) 3 w' w.heap.size (fun k_ => some k_ ≠ (s_.2.2 : Value).ownBlock) s_.2.1 Aq) ∧ (Kd.R (Kd.int .i64) 3 w' w.heap.size (fun k_ => some k_ ≠ (s_.2.1 : Value).ownBlock) s_.2.2 Ak) ∧ (Below w.heap.size w w')) ?_ ?_
           rotate_left
           ·intro hCont
            refine two_ (i := 0) (j := 6) (Ni := some 33) (Nj := some 39) #[true, true, true, true, false, true, false, false, true, true, true, false, false] #[false, true, true, true, false, true, true, false, true, true, true, false, false] rfl rfl rfl rfl (two_of HT_.out Z6) (by decide) (by decide) (fun K hK => ?_) (fun K hK => ?_)
            ·skip
             refine Kd.R_lit_step (Kd.int .i64) _ 3 ?hg (N := 33) ?hd (xs := ([] : List Int)) (inner := []) (ok := fun _ => True) (okp := fun _ => True) ?hr ?hp (fun _ hk => hk) trivial (Below.refl _ _) (Nat.le_refl _) (by simp) ?_; (case hd => rfl); (case hg => rfl); (case hr => first | (go_simp; done) | (go_simp; rfl)); (case hp => exact (Reps.none _ _)); intro Bi C7 Au hb hg_ hnew_; clear hg_ hnew_
             (first | rw [← Bt.out] at Au | (simp only [Int.reduceToNat] at Au; rw [← Bt.out] at Au))
             have Ah := aM (Kd.R_lower Au (below_size Z0)); replace HB := hbS Z0 hb; clear hb Au; refine hK.out _ _ trivial (fun hHeld => ?_); clear hK K; refine noR 33 ?_; refine two_ (i := 4) (j := 6) (Ni := some 37) (Nj := some 39) #[true, true, true, true, true, true, false, false, true, true, true, false, false] #[true, true, true, true, false, true, true, false, true, true, true, false, false] rfl rfl rfl rfl (two_of HT_.out Z6) (by decide) (by decide) (fun K hK => ?_) (fun K hK => ?_)
             ·skip
              refine Kd.R_append_rows_step (Kd.int .i64) (w0 := w) w.heap.size (by rfl) (.tmp 33) (.tmp 36) 26 3 (.int .i64 0) 8 rfl Try.underlying26 info3 rfl (by decide) (by omega) Bi Br (l0.take (Aa : Int).toNat) _ _ _ (fun _ => True) (fun _ => False) rfl rfl ?aO ?aR (fun _ _ h => h) (fun _ h => h.elim) ?aF ?aB ?aS ?aL ?_; (case aR => first | ((rw [← show (l0.take (Aa : Int).toNat).length = Aa.toNat from Z62]; repeat (first | exact (Kd.C_below Ag.out HB.out) | (with_reducible refine Kd.C_alloc ?_ _) | (with_reducible refine Kd.C_drewN ?_ _) | (with_reducible refine Kd.C_drew ?_))); done) | ((repeat (first | exact (Kd.C_below Ag.out HB.out) | (with_reducible refine Kd.C_alloc ?_ _) | (with_reducible refine Kd.C_drewN ?_ _) | (with_reducible refine Kd.C_drew ?_))); done) | (have h_ := Kd.C_below Ag.out HB.out; rw [show (l0.take (Aa : Int).toNat).length = Aa.toNat from Z62] at h_; repeat (first | exact h_ | (with_reducible refine Kd.C_alloc ?_ _) | (with_reducible refine Kd.C_drewN ?_ _) | (with_reducible refine Kd.C_drew ?_)))); (case aB => exact Z0); (case aF => exact (fun _ _ => trivial)); (case aO => exact Z17); (case aS => exact (below_size Z0)); (case aL => have := LMc9.out; have hlx_ := (show (l0.take (Aa : Int).toNat).length = Aa.toNat from Z62); omega); intro Ba C3 ho hb hg hat; rw [← Bx.out] at ho; replace HB := aM (hb); have Ae := aM (ho); clear Ah; clear ho hb hg hat; refine hK.out _ _ trivial (fun hHeld => ?_); clear hK K; refine noR 37 ?_; refine one_ (i := 6) (N := some 39) #[true, true, true, true, true, true, true, false, true, true, true, false, false] rfl rfl (one_of HT_.out Z6) (by decide) (fun K hK => ?_); refine Kd.R_lit_step (Kd.int .i64) _ 3 ?hg (N := 39) ?hd (xs := ([a1] : List Int)) (inner := [.int .i64 a1]) (ok := fun _ => True) (okp := fun _ => True) ?hr ?hp (fun _ hk => hk) trivial (Below.refl _ _) (Nat.le_refl _) (by simp) ?_; (case hd => rfl); (case hg => rfl); (case hr => first | (go_simp; done) | (go_simp; rfl)); (case hp => exact (Reps.one (show Kd.M (Kd.int .i64) _ _ _ a1 [.int .i64 a1] from rfl) (Reps.none _ _))); intro Aw Df Bv hb hg_ hnew_; clear hg_ hnew_
              (first | rw [← Ay.out] at Bv | (simp only [Int.reduceToNat] at Bv; rw [← Ay.out] at Bv))
              have Ab := aM (Kd.R_lower (Kd.R_new' Bv (Kd.R_lt Z25)) (below_size Z0)); replace Ae := aM (Kd.R_elder' Z25 (Kd.R_base Bv) hb); replace HB := hbS Z0 hb; clear hb Bv; refine hK.out _ _ trivial (fun hHeld => ?_); clear hK K; refine noR 39 ?_
              exact norm_ Z23 (hCont (Bi, Ba, Aw) _ ⟨(by (with_reducible repeat (first | apply Kd.R_alloc | apply Kd.R_drewN | apply Kd.R_drew)); exact Kd.R_mono Ae.out (fun _ hk => hk.2)), Z30, Z0⟩)
             ·skip
              refine Kd.R_lit_step (Kd.int .i64) _ 3 ?hg (N := 39) ?hd (xs := ([a1] : List Int)) (inner := [.int .i64 a1]) (ok := fun _ => True) (okp := fun _ => True) ?hr ?hp (fun _ hk => hk) trivial (Below.refl _ _) (Nat.le_refl _) (by simp) ?_; (case hd => rfl); (case hg => rfl); (case hr => first | (go_simp; done) | (go_simp; rfl)); (case hp => exact (Reps.one (show Kd.M (Kd.int .i64) _ _ _ a1 [.int .i64 a1] from rfl) (Reps.none _ _))); intro Aw C3 Ao hb hg_ hnew_; clear hg_ hnew_
              (first | rw [← Ay.out] at Ao | (simp only [Int.reduceToNat] at Ao; rw [← Ay.out] at Ao))
              have Ab := aM (Kd.R_lower (Kd.R_new' Ao (Kd.R_lt Z17)) (below_size Z0)); replace Ah := aM (Kd.R_elder' Z17 (Kd.R_base Ao) hb); replace HB := hbS Z0 hb; clear hb Ao; refine hK.out _ _ trivial (fun hHeld => ?_); clear hK K; refine noR 39 ?_; refine one_ (i := 4) (N := some 37) #[true, true, true, true, true, true, true, false, true, true, true, false, false] rfl rfl (one_of HT_.out Z6) (by decide) (fun K hK => ?_); refine Kd.R_append_rows_step (Kd.int .i64) (w0 := w) w.heap.size (by rfl) (.tmp 33) (.tmp 36) 26 3 (.int .i64 0) 8 rfl Try.underlying26 info3 rfl (by decide) (by omega) Bi Br (l0.take (Aa : Int).toNat) _ _ _ (fun k_ => nV k_ Aw) (fun _ => False) rfl rfl ?aO ?aR (fun _ _ h => h) (fun _ h => h.elim) ?aF ?aB ?aS ?aL ?_; (case aR => first | ((rw [← show (l0.take (Aa : Int).toNat).length = Aa.toNat from Z62]; repeat (first | exact (Kd.C_below Ag.out HB.out) | (with_reducible refine Kd.C_alloc ?_ _) | (with_reducible refine Kd.C_drewN ?_ _) | (with_reducible refine Kd.C_drew ?_))); done) | ((repeat (first | exact (Kd.C_below Ag.out HB.out) | (with_reducible refine Kd.C_alloc ?_ _) | (with_reducible refine Kd.C_drewN ?_ _) | (with_reducible refine Kd.C_drew ?_))); done) | (have h_ := Kd.C_below Ag.out HB.out; rw [show (l0.take (Aa : Int).toNat).length = Aa.toNat from Z62] at h_; repeat (first | exact h_ | (with_reducible refine Kd.C_alloc ?_ _) | (with_reducible refine Kd.C_drewN ?_ _) | (with_reducible refine Kd.C_drew ?_)))); (case aB => exact Z0); (case aF => exact (fun k_ hk => Kd.fresh' (Kd.R_lt Z14) k_ hk)); (case aO => exact Z43); (case aS => exact (below_size Z0)); (case aL => have := LMc9.out; have hlx_ := (show (l0.take (Aa : Int).toNat).length = Aa.toNat from Z62); omega); intro Ba C8 ho hb hg hat; rw [← Bx.out] at ho; replace Ab := aM (Kd.R_after (ok := (fun _ => True)) Z14 hg hat); replace HB := aM (hb); have Ae := aM (ho); clear Ah; clear ho hb hg hat; refine hK.out _ _ trivial (fun hHeld => ?_); clear hK K; refine noR 37 ?_
              exact norm_ Z23 (hCont (Bi, Ba, Aw) _ ⟨Z25, Z30, Z0⟩)
            ·skip
             refine Kd.R_lit_step (Kd.int .i64) _ 3 ?hg (N := 39) ?hd (xs := ([a1] : List Int)) (inner := [.int .i64 a1]) (ok := fun _ => True) (okp := fun _ => True) ?hr ?hp (fun _ hk => hk) trivial (Below.refl _ _) (Nat.le_refl _) (by simp) ?_; (case hd => rfl); (case hg => rfl); (case hr => first | (go_simp; done) | (go_simp; rfl)); (case hp => exact (Reps.one (show Kd.M (Kd.int .i64) _ _ _ a1 [.int .i64 a1] from rfl) (Reps.none _ _))); intro Aw C7 Au hb hg_ hnew_; clear hg_ hnew_
             (first | rw [← Ay.out] at Au | (simp only [Int.reduceToNat] at Au; rw [← Ay.out] at Au))
             have Ab := aM (Kd.R_lower Au (below_size Z0)); replace HB := hbS Z0 hb; clear hb Au; refine hK.out _ _ trivial (fun hHeld => ?_); clear hK K; refine noR 39 ?_; refine one_ (i := 0) (N := some 33) #[true, true, true, true, false, true, true, false, true, true, true, false, false] rfl rfl (one_of HT_.out Z6) (by decide) (fun K hK => ?_); refine Kd.R_lit_step (Kd.int .i64) _ 3 ?hg (N := 33) ?hd (xs := ([] : List Int)) (inner := []) (ok := fun _ => True) (okp := fun _ => True) ?hr ?hp (fun _ hk => hk) trivial (Below.refl _ _) (Nat.le_refl _) (by simp) ?_; (case hd => rfl); (case hg => rfl); (case hr => first | (go_simp; done) | (go_simp; rfl)); (case hp => exact (Reps.none _ _)); intro Bi C3 Ao hb hg_ hnew_; clear hg_ hnew_
             (first | rw [← Bt.out] at Ao | (simp only [Int.reduceToNat] at Ao; rw [← Bt.out] at Ao))
             have Ah := aM (Kd.R_lower (Kd.R_new' Ao (Kd.R_lt Z14)) (below_size Z0)); replace Ab := aM (Kd.R_elder' Z14 (Kd.R_base Ao) hb); replace HB := hbS Z0 hb; clear hb Ao; refine hK.out _ _ trivial (fun hHeld => ?_); clear hK K; refine noR 33 ?_; refine one_ (i := 4) (N := some 37) #[true, true, true, true, true, true, true, false, true, true, true, false, false] rfl rfl (one_of HT_.out Z6) (by decide) (fun K hK => ?_); refine Kd.R_append_rows_step (Kd.int .i64) (w0 := w) w.heap.size (by rfl) (.tmp 33) (.tmp 36) 26 3 (.int .i64 0) 8 rfl Try.underlying26 info3 rfl (by decide) (by omega) Bi Br (l0.take (Aa : Int).toNat) _ _ _ (fun k_ => nV k_ Aw) (fun _ => False) rfl rfl ?aO ?aR (fun _ _ h => h) (fun _ h => h.elim) ?aF ?aB ?aS ?aL ?_; (case aR => first | ((rw [← show (l0.take (Aa : Int).toNat).length = Aa.toNat from Z62]; repeat (first | exact (Kd.C_below Ag.out HB.out) | (with_reducible refine Kd.C_alloc ?_ _) | (with_reducible refine Kd.C_drewN ?_ _) | (with_reducible refine Kd.C_drew ?_))); done) | ((repeat (first | exact (Kd.C_below Ag.out HB.out) | (with_reducible refine Kd.C_alloc ?_ _) | (with_reducible refine Kd.C_drewN ?_ _) | (with_reducible refine Kd.C_drew ?_))); done) | (have h_ := Kd.C_below Ag.out HB.out; rw [show (l0.take (Aa : Int).toNat).length = Aa.toNat from Z62] at h_; repeat (first | exact h_ | (with_reducible refine Kd.C_alloc ?_ _) | (with_reducible refine Kd.C_drewN ?_ _) | (with_reducible refine Kd.C_drew ?_)))); (case aB => exact Z0); (case aF => exact (fun k_ hk => Kd.fresh' (Kd.R_lt Z14) k_ hk)); (case aO => exact Z43); (case aS => exact (below_size Z0)); (case aL => have := LMc9.out; have hlx_ := (show (l0.take (Aa : Int).toNat).length = Aa.toNat from Z62); omega); intro Ba C8 ho hb hg hat; rw [← Bx.out] at ho; replace Ab := aM (Kd.R_after (ok := (fun _ => True)) Z14 hg hat); replace HB := aM (hb); have Ae := aM (ho); clear Ah; clear ho hb hg hat; refine hK.out _ _ trivial (fun hHeld => ?_); clear hK K; refine noR 37 ?_
             exact norm_ Z23 (hCont (Bi, Ba, Aw) _ ⟨Z25, Z30, Z0⟩)
           rintro ⟨Bi, Ba, Aw⟩ Cu ⟨h0_, h1_, h2_⟩; have n0_ : Aside0 (Kd.R (Kd.int .i64) 3 Cu w.heap.size (fun k_ => nV k_ Aw) Ba Aq) := ⟨h0_⟩; have n1_ : Aside0 (Kd.R (Kd.int .i64) 3 Cu w.heap.size (fun k_ => nV k_ Ba) Aw Ak) := ⟨h1_⟩; have n2_ : Aside0 (Below w.heap.size w Cu) := ⟨h2_⟩; clear HB; clear h0_ h1_ h2_; have Ae := n0_; have Ab := n1_; have HB := n2_; clear n0_ n1_ n2_; have hHeld := trivial; obtain ⟨Cb, Cc, Cd⟩ := Kd.R_slice Ab.out
           (first | subst Cd | (injection Cd with f1_ f2_ f3_; have f4_ := f1_.symm; have f5_ := f3_.symm; clear f1_ f2_ f3_; subst f4_; subst f5_))
           refine norm_ (a' := ?_) ?_ ?_
           rotate_left
           ·simp only [putAll, Act.put, List.setIfInBounds_toArray, List.set_cons_zero, List.set_cons_succ]
            rfl
           refine one_ (i := 7) (N := some 40) #[true, true, true, true, true, true, true, true, true, true, true, false, false] rfl rfl (one_of HT_.out Z6) (by decide) (fun K hK => ?_); refine Kd.R_append_rows_step (Kd.int .i64) (w0 := w) w.heap.size (by rfl) (.tmp 37) (.tmp 39) 26 3 (.int .i64 0) 8 rfl Try.underlying26 info3 rfl (by decide) (by omega) Ba Aq Ak _ _ _ (fun k_ => nS k_ Cb Ak.length Cc) (fun _ => False) rfl rfl ?aO ?aR (fun _ _ h => h) (fun _ h => h.elim) ?aF ?aB ?aS ?aL ?_; (case aR => repeat (first | exact (Kd.R_reads' Ab.out).2.2 | (with_reducible refine Kd.C_alloc ?_ _) | (with_reducible refine Kd.C_drewN ?_ _) | (with_reducible refine Kd.C_drew ?_))); (case aB => exact Z0); (case aF => exact (fun k_ hk => Kd.fresh' (Kd.R_lt Z14) k_ hk)); (case aO => exact Z25); (case aS => exact (below_size Z0)); (case aL => have := LMc10.out; omega); intro Cv Dg ho hb hg hat; rw [← B9.out] at ho; replace Ab := aM (Kd.R_after (ok := (fun _ => True)) (by (with_reducible repeat (first | apply Kd.R_alloc | apply Kd.R_drewN | apply Kd.R_drew)); exact Kd.R_mono Ab.out (fun _ hk => ⟨trivial, hk⟩)) hg hat); replace HB := aM (hb); have B2 := aM (ho); clear Ae; clear ho hb hg hat; refine hK.out _ _ trivial (fun hHeld => ?_); clear hK K; refine noR 40 ?_; refine one_ (i := 11) (N := some 44) #[true, true, true, true, true, true, true, true, true, true, true, true, false] rfl rfl (one_of HT_.out Z6) (by decide) (fun K hK => ?_); refine Kd.R_append_rows_step (Kd.int .i64) (w0 := w) w.heap.size (by rfl) (.tmp 40) (.tmp 43) 26 3 (.int .i64 0) 8 rfl Try.underlying26 info3 rfl (by decide) (by omega) Cv Am (l0.drop (Aa : Int).toNat) _ _ _ (fun k_ => nS k_ Cb Ak.length Cc) (fun _ => False) rfl rfl ?aO ?aR (fun _ _ h => h) (fun _ h => h.elim) ?aF ?aB ?aS ?aL ?_; (case aR => first | (rw [← show (l0.drop (Aa : Int).toNat).length = (l0.length - Aa.toNat) from List.length_drop]; repeat (first | exact (Kd.C_below Bz.out HB.out) | (with_reducible refine Kd.C_alloc ?_ _) | (with_reducible refine Kd.C_drewN ?_ _) | (with_reducible refine Kd.C_drew ?_))) | (repeat (first | exact (Kd.C_below Bz.out HB.out) | (with_reducible refine Kd.C_alloc ?_ _) | (with_reducible refine Kd.C_drewN ?_ _) | (with_reducible refine Kd.C_drew ?_)))); (case aB => exact Z0); (case aF => exact (fun k_ hk => Kd.fresh' (Kd.R_lt Z14) k_ hk)); (case aO => exact (by (with_reducible repeat (first | apply Kd.R_alloc | apply Kd.R_drewN | apply Kd.R_drew)); exact B2.out)); (case aS => exact (below_size Z0)); (case aL => have := LMc13.out; have hlx_ := (show (l0.drop (Aa : Int).toNat).length = (l0.length - Aa.toNat) from List.length_drop); omega); intro C9 Dh ho hb hg hat; rw [← Ca.out] at ho; replace Ab := aM (Kd.R_after (ok := (fun _ => True)) Z14 hg hat); replace HB := aM (hb); have Ce := aM (ho); clear B2; clear ho hb hg hat; refine hK.out _ _ trivial (fun hHeld => ?_); clear hK K; refine noR 44 ?_; refine puR 12 4 #[true, true, true, true, true, true, true, true, true, true, true, true, true] HT_ rfl rfl ?_; refine done_ (done_of HT_.out Z6) ?_
           try go_wp2
           go_ret
           exact ⟨_, Z4, by (with_reducible repeat (first | apply Kd.R_alloc | apply Kd.R_drewN | apply Kd.R_drew)); exact Kd.R_mono Ce.out (fun _ hk => trivial), Z0⟩
          ·rw [if_neg Cp] at H
           exact absurd H (by simp)
         ·rw [if_neg Co] at H
          exact absurd H (by simp)
        ·rw [if_neg c9] at H
         exact absurd H (by simp)
       ·rw [if_neg c8] at H
        exact absurd H (by simp)
    ·rw [if_neg c4] at H
     exact absurd H (by simp)
   ·rw [if_neg c3] at H
    have c3b0 : decide (Aa < (l0.length : Int)) = false := decide_eq_false c3; clear c3; obtain ⟨Bs, Bj⟩ : ∃ y_ : List Int, y_ = (([] : List Int)) := ⟨_, rfl⟩
    replace H : (if 0 ≤ Aa then (if Aa ≤ (l0.length : Int) then (if Bs.length + (l0.take (Aa : Int).toNat).length < 17592186044416 then ((some (Bs ++ (l0.take (Aa : Int).toNat) : List Int)).bind fun Ar => ((some (([a1] : List Int) : List Int)).bind fun Al => (if Ar.length + Al.length < 17592186044416 then ((some (Ar ++ Al : List Int)).bind fun An => (if An.length + (l0.drop (Aa : Int).toNat).length < 17592186044416 then (some (An ++ (l0.drop (Aa : Int).toNat))) else (none))) else (none)))) else (none)) else (none)) else (none)) = some r := by first | (rw [Bj]; with_reducible exact H) | (have H2_ := (Option.bind_some _ _).symm.trans H; rw [Bj]; with_reducible exact H2_) | (have H2_ := (Option.bind_some _ _).symm.trans H; with_reducible exact H2_) | with_reducible exact H | (rw [Bj]; exact H) | exact H
    have Bu := Aside0.mk Bj; clear Bj
    by_cases Cf : 0 ≤ Aa
    ·rw [if_pos Cf] at H
     have c26b0 := eq_true Cf; have c26b1 : decide (0 ≤ Aa) = true := decide_eq_true Cf; clear Cf
     by_cases Cg : Aa ≤ (l0.length : Int)
     ·rw [if_pos Cg] at H
      have c27b0 := eq_true Cg; have c27b1 : decide (Aa ≤ (l0.length : Int)) = true := decide_eq_true Cg; clear Cg
      by_cases Cq : Bs.length + (l0.take (Aa : Int).toNat).length < 17592186044416
      ·rw [if_pos Cq] at H
       have LMc28 := Aside0.mk Cq; clear Cq; obtain ⟨Ar, Bk⟩ : ∃ y_ : List Int, y_ = (Bs ++ (l0.take (Aa : Int).toNat)) := ⟨_, rfl⟩
       replace H : ((some (([a1] : List Int) : List Int)).bind fun Al => (if Ar.length + Al.length < 17592186044416 then ((some (Ar ++ Al : List Int)).bind fun An => (if An.length + (l0.drop (Aa : Int).toNat).length < 17592186044416 then (some (An ++ (l0.drop (Aa : Int).toNat))) else (none))) else (none))) = some r := by first | (rw [Bk]; with_reducible exact H) | (have H2_ := (Option.bind_some _ _).symm.trans H; rw [Bk]; with_reducible exact H2_) | (have H2_ := (Option.bind_some _ _).symm.trans H; with_reducible exact H2_) | with_reducible exact H | (rw [Bk]; exact H) | exact H
       have B0 := Aside0.mk Bk; clear Bk; obtain ⟨Al, Bl⟩ : ∃ y_ : List Int, y_ = (([a1] : List Int)) := ⟨_, rfl⟩
       replace H : (if Ar.length + Al.length < 17592186044416 then ((some (Ar ++ Al : List Int)).bind fun An => (if An.length + (l0.drop (Aa : Int).toNat).length < 17592186044416 then (some (An ++ (l0.drop (Aa : Int).toNat))) else (none))) else (none)) = some r := by first | (rw [Bl]; with_reducible exact H) | (have H2_ := (Option.bind_some _ _).symm.trans H; rw [Bl]; with_reducible exact H2_) | (have H2_ := (Option.bind_some _ _).symm.trans H; with_reducible exact H2_) | with_reducible exact H | (rw [Bl]; exact H) | exact H
       have Az := Aside0.mk Bl; clear Bl
       by_cases Cr : Ar.length + Al.length < 17592186044416
       ·rw [if_pos Cr] at H
        have LMc29 := Aside0.mk Cr; clear Cr; obtain ⟨An, Bm⟩ : ∃ y_ : List Int, y_ = (Ar ++ Al) := ⟨_, rfl⟩
        replace H : (if An.length + (l0.drop (Aa : Int).toNat).length < 17592186044416 then (some (An ++ (l0.drop (Aa : Int).toNat))) else (none)) = some r := by first | (rw [Bm]; with_reducible exact H) | (have H2_ := (Option.bind_some _ _).symm.trans H; rw [Bm]; with_reducible exact H2_) | (have H2_ := (Option.bind_some _ _).symm.trans H; with_reducible exact H2_) | with_reducible exact H | (rw [Bm]; exact H) | exact H
        have Ch := Aside0.mk Bm; clear Bm; have c30b0 := eq_true (of_decide_eq_true Z2 : 0 ≤ Aa); have c31b0 := eq_true (of_decide_eq_true Z2 : Aa ≤ (l0.length : Int))
        by_cases Cs : An.length + (l0.drop (Aa : Int).toNat).length < 17592186044416
        ·rw [if_pos Cs] at H
         have LMc32 := Aside0.mk Cs; clear Cs; obtain ⟨Cw, Bn⟩ : ∃ y_ : List Int, y_ = (An ++ (l0.drop (Aa : Int).toNat)) := ⟨_, rfl⟩
         replace H : (some Cw) = some r := by first | (rw [Bn]; with_reducible exact H) | (have H2_ := (Option.bind_some _ _).symm.trans H; rw [Bn]; with_reducible exact H2_) | (have H2_ := (Option.bind_some _ _).symm.trans H; with_reducible exact H2_) | with_reducible exact H | (rw [Bn]; exact H) | exact H
         have Ci := Aside0.mk Bn; clear Bn; obtain rfl := Option.some.inj H
         try go_wp2
         replace HB := aM (below_drew1 HB.out); obtain ⟨i034, hi034, _, hsz34, _⟩ := info_parts info3; obtain ⟨hcut34, hA34, hC34⟩ := print_take_of (P := Try.prog) (Value.int .i64) 0 26 3 .i64 Try.underlying26 hi034 hsz34 A0 c0 l0 Aa (of_decide_eq_true Z2) (of_decide_eq_true Z2) Cn.out; have Ai := aM (Kd.C_of_reads (h1 := fun _ => rfl) (hA34 _ (Kd.reads_of_C B5.out))); have C4 := Aside0.mk hC34; clear hA34 hC34 hi034 hsz34; obtain ⟨i035, hi035, _, hsz35, _⟩ := info_parts info3; obtain ⟨Di, hcut35, hA35, hC35⟩ := print_drop_of (P := Try.prog) (Value.int .i64) 0 26 3 .i64 Try.underlying26 hi035 hsz35 A0 c0 l0 Aa (of_decide_eq_true Z2) (of_decide_eq_true Z2) Cn.out; have B1 := aM (Kd.C_of_reads (h1 := fun _ => rfl) (hA35 _ (Kd.reads_of_C B5.out))); have C5 := Aside0.mk hC35; clear hA35 hC35 hi035 hsz35; refine start_ (n := 13) (S := fun w' => True) (ds := []) #[false, false, false, false, false, false, false, false, false, false, false, false, false] Z6 rfl rfl trivial (fun hHeld => ?_); refine with_tabW spec_l1Put.tab6 spec_l1Put.bits6 (fun HT_ HW_ => ?_)
         generalize wr.drew = Dj at HB Ai B1 hHeld ⊢
         refine puR 1 34 #[false, true, false, false, false, false, false, false, false, false, false, false, false] HT_ rfl rfl ?_; refine puR 2 35 #[false, true, true, false, false, false, false, false, false, false, false, false, false] HT_ rfl rfl ?_; refine puR 3 36 #[false, true, true, true, false, false, false, false, false, false, false, false, false] HT_ rfl rfl ?_; refine puR 5 38 #[false, true, true, true, false, true, false, false, false, false, false, false, false] HT_ rfl rfl ?_; refine puR 8 41 #[false, true, true, true, false, true, false, false, true, false, false, false, false] HT_ rfl rfl ?_; refine puR 9 42 #[false, true, true, true, false, true, false, false, true, true, false, false, false] HT_ rfl rfl ?_; refine puR 10 43 #[false, true, true, true, false, true, false, false, true, true, true, false, false] HT_ rfl rfl ?_; refine join_ (σ := Value × Value × Value) 3 #[true, true, true, true, true, true, true, false, true, true, true, false, false] (fun s_ => [(33, s_.1), (37, s_.2.1), (39, s_.2.2)]) (fun s_ w' => (Kd.R (Kd.int .i64) 3 w' w.heap.size (fun k_ => some k_ ≠ (s_.2.2 : Value).ownBlock) s_.2.1 Ar) ∧ (Kd.R (Kd.int .i64) 3 w' w.heap.size (fun k_ => some k_ ≠ (s_.2.1 : Value).ownBlock) s_.2.2 Al) ∧ (Below w.heap.size w w')) ?_ ?_
         rotate_left
         ·intro hCont
          refine two_ (i := 0) (j := 6) (Ni := some 33) (Nj := some 39) #[true, true, true, true, false, true, false, false, true, true, true, false, false] #[false, true, true, true, false, true, true, false, true, true, true, false, false] rfl rfl rfl rfl (two_of HT_.out Z6) (by decide) (by decide) (fun K hK => ?_) (fun K hK => ?_)
          ·skip
           refine Kd.R_lit_step (Kd.int .i64) _ 3 ?hg (N := 33) ?hd (xs := ([] : List Int)) (inner := []) (ok := fun _ => True) (okp := fun _ => True) ?hr ?hp (fun _ hk => hk) trivial (Below.refl _ _) (Nat.le_refl _) (by simp) ?_; (case hd => rfl); (case hg => rfl); (case hr => first | (go_simp; done) | (go_simp; rfl)); (case hp => exact (Reps.none _ _)); intro Bo Da Av hb hg_ hnew_; clear hg_ hnew_
           (first | rw [← Bu.out] at Av | (simp only [Int.reduceToNat] at Av; rw [← Bu.out] at Av))
           have Aj := aM (Kd.R_lower Av (below_size Z0)); replace HB := hbS Z0 hb; clear hb Av; refine hK.out _ _ trivial (fun hHeld => ?_); clear hK K; refine noR 33 ?_; refine two_ (i := 4) (j := 6) (Ni := some 37) (Nj := some 39) #[true, true, true, true, true, true, false, false, true, true, true, false, false] #[true, true, true, true, false, true, true, false, true, true, true, false, false] rfl rfl rfl rfl (two_of HT_.out Z6) (by decide) (by decide) (fun K hK => ?_) (fun K hK => ?_)
           ·skip
            refine Kd.R_append_rows_step (Kd.int .i64) (w0 := w) w.heap.size (by rfl) (.tmp 33) (.tmp 36) 26 3 (.int .i64 0) 8 rfl Try.underlying26 info3 rfl (by decide) (by omega) Bo Bs (l0.take (Aa : Int).toNat) _ _ _ (fun _ => True) (fun _ => False) rfl rfl ?aO ?aR (fun _ _ h => h) (fun _ h => h.elim) ?aF ?aB ?aS ?aL ?_; (case aR => first | ((rw [← show (l0.take (Aa : Int).toNat).length = Aa.toNat from Z62]; repeat (first | exact (Kd.C_below Ai.out HB.out) | (with_reducible refine Kd.C_alloc ?_ _) | (with_reducible refine Kd.C_drewN ?_ _) | (with_reducible refine Kd.C_drew ?_))); done) | ((repeat (first | exact (Kd.C_below Ai.out HB.out) | (with_reducible refine Kd.C_alloc ?_ _) | (with_reducible refine Kd.C_drewN ?_ _) | (with_reducible refine Kd.C_drew ?_))); done) | (have h_ := Kd.C_below Ai.out HB.out; rw [show (l0.take (Aa : Int).toNat).length = Aa.toNat from Z62] at h_; repeat (first | exact h_ | (with_reducible refine Kd.C_alloc ?_ _) | (with_reducible refine Kd.C_drewN ?_ _) | (with_reducible refine Kd.C_drew ?_)))); (case aB => exact Z0); (case aF => exact (fun _ _ => trivial)); (case aO => exact Z38); (case aS => exact (below_size Z0)); (case aL => have := LMc28.out; have hlx_ := (show (l0.take (Aa : Int).toNat).length = Aa.toNat from Z62); omega); intro Bb C6 ho hb hg hat; rw [← B0.out] at ho; replace HB := aM (hb); have Af := aM (ho); clear Aj; clear ho hb hg hat; refine hK.out _ _ trivial (fun hHeld => ?_); clear hK K; refine noR 37 ?_; refine one_ (i := 6) (N := some 39) #[true, true, true, true, true, true, true, false, true, true, true, false, false] rfl rfl (one_of HT_.out Z6) (by decide) (fun K hK => ?_); refine Kd.R_lit_step (Kd.int .i64) _ 3 ?hg (N := 39) ?hd (xs := ([a1] : List Int)) (inner := [.int .i64 a1]) (ok := fun _ => True) (okp := fun _ => True) ?hr ?hp (fun _ hk => hk) trivial (Below.refl _ _) (Nat.le_refl _) (by simp) ?_; (case hd => rfl); (case hg => rfl); (case hr => first | (go_simp; done) | (go_simp; rfl)); (case hp => exact (Reps.one (show Kd.M (Kd.int .i64) _ _ _ a1 [.int .i64 a1] from rfl) (Reps.none _ _))); intro Ax Dk Bw hb hg_ hnew_; clear hg_ hnew_
            (first | rw [← Az.out] at Bw | (simp only [Int.reduceToNat] at Bw; rw [← Az.out] at Bw))
            have Ac := aM (Kd.R_lower (Kd.R_new' Bw (Kd.R_lt Z7)) (below_size Z0)); replace Af := aM (Kd.R_elder' Z7 (Kd.R_base Bw) hb); replace HB := hbS Z0 hb; clear hb Bw; refine hK.out _ _ trivial (fun hHeld => ?_); clear hK K; refine noR 39 ?_
            exact norm_ Z23 (hCont (Bo, Bb, Ax) _ ⟨(by (with_reducible repeat (first | apply Kd.R_alloc | apply Kd.R_drewN | apply Kd.R_drew)); exact Kd.R_mono Af.out (fun _ hk => hk.2)), Z31, Z0⟩)
           ·skip
            refine Kd.R_lit_step (Kd.int .i64) _ 3 ?hg (N := 39) ?hd (xs := ([a1] : List Int)) (inner := [.int .i64 a1]) (ok := fun _ => True) (okp := fun _ => True) ?hr ?hp (fun _ hk => hk) trivial (Below.refl _ _) (Nat.le_refl _) (by simp) ?_; (case hd => rfl); (case hg => rfl); (case hr => first | (go_simp; done) | (go_simp; rfl)); (case hp => exact (Reps.one (show Kd.M (Kd.int .i64) _ _ _ a1 [.int .i64 a1] from rfl) (Reps.none _ _))); intro Ax C6 Ap hb hg_ hnew_; clear hg_ hnew_
            (first | rw [← Az.out] at Ap | (simp only [Int.reduceToNat] at Ap; rw [← Az.out] at Ap))
            have Ac := aM (Kd.R_lower (Kd.R_new' Ap (Kd.R_lt Z38)) (below_size Z0)); replace Aj := aM (Kd.R_elder' Z38 (Kd.R_base Ap) hb); replace HB := hbS Z0 hb; clear hb Ap; refine hK.out _ _ trivial (fun hHeld => ?_); clear hK K; refine noR 39 ?_; refine one_ (i := 4) (N := some 37) #[true, true, true, true, true, true, true, false, true, true, true, false, false] rfl rfl (one_of HT_.out Z6) (by decide) (fun K hK => ?_); refine Kd.R_append_rows_step (Kd.int .i64) (w0 := w) w.heap.size (by rfl) (.tmp 33) (.tmp 36) 26 3 (.int .i64 0) 8 rfl Try.underlying26 info3 rfl (by decide) (by omega) Bo Bs (l0.take (Aa : Int).toNat) _ _ _ (fun k_ => nV k_ Ax) (fun _ => False) rfl rfl ?aO ?aR (fun _ _ h => h) (fun _ h => h.elim) ?aF ?aB ?aS ?aL ?_; (case aR => first | ((rw [← show (l0.take (Aa : Int).toNat).length = Aa.toNat from Z62]; repeat (first | exact (Kd.C_below Ai.out HB.out) | (with_reducible refine Kd.C_alloc ?_ _) | (with_reducible refine Kd.C_drewN ?_ _) | (with_reducible refine Kd.C_drew ?_))); done) | ((repeat (first | exact (Kd.C_below Ai.out HB.out) | (with_reducible refine Kd.C_alloc ?_ _) | (with_reducible refine Kd.C_drewN ?_ _) | (with_reducible refine Kd.C_drew ?_))); done) | (have h_ := Kd.C_below Ai.out HB.out; rw [show (l0.take (Aa : Int).toNat).length = Aa.toNat from Z62] at h_; repeat (first | exact h_ | (with_reducible refine Kd.C_alloc ?_ _) | (with_reducible refine Kd.C_drewN ?_ _) | (with_reducible refine Kd.C_drew ?_)))); (case aB => exact Z0); (case aF => exact (fun k_ hk => Kd.fresh' (Kd.R_lt Z16) k_ hk)); (case aO => exact Z44); (case aS => exact (below_size Z0)); (case aL => have := LMc28.out; have hlx_ := (show (l0.take (Aa : Int).toNat).length = Aa.toNat from Z62); omega); intro Bb Db ho hb hg hat; rw [← B0.out] at ho; replace Ac := aM (Kd.R_after (ok := (fun _ => True)) Z16 hg hat); replace HB := aM (hb); have Af := aM (ho); clear Aj; clear ho hb hg hat; refine hK.out _ _ trivial (fun hHeld => ?_); clear hK K; refine noR 37 ?_
            exact norm_ Z23 (hCont (Bo, Bb, Ax) _ ⟨Z7, Z31, Z0⟩)
          ·skip
           refine Kd.R_lit_step (Kd.int .i64) _ 3 ?hg (N := 39) ?hd (xs := ([a1] : List Int)) (inner := [.int .i64 a1]) (ok := fun _ => True) (okp := fun _ => True) ?hr ?hp (fun _ hk => hk) trivial (Below.refl _ _) (Nat.le_refl _) (by simp) ?_; (case hd => rfl); (case hg => rfl); (case hr => first | (go_simp; done) | (go_simp; rfl)); (case hp => exact (Reps.one (show Kd.M (Kd.int .i64) _ _ _ a1 [.int .i64 a1] from rfl) (Reps.none _ _))); intro Ax Da Av hb hg_ hnew_; clear hg_ hnew_
           (first | rw [← Az.out] at Av | (simp only [Int.reduceToNat] at Av; rw [← Az.out] at Av))
           have Ac := aM (Kd.R_lower Av (below_size Z0)); replace HB := hbS Z0 hb; clear hb Av; refine hK.out _ _ trivial (fun hHeld => ?_); clear hK K; refine noR 39 ?_; refine one_ (i := 0) (N := some 33) #[true, true, true, true, false, true, true, false, true, true, true, false, false] rfl rfl (one_of HT_.out Z6) (by decide) (fun K hK => ?_); refine Kd.R_lit_step (Kd.int .i64) _ 3 ?hg (N := 33) ?hd (xs := ([] : List Int)) (inner := []) (ok := fun _ => True) (okp := fun _ => True) ?hr ?hp (fun _ hk => hk) trivial (Below.refl _ _) (Nat.le_refl _) (by simp) ?_; (case hd => rfl); (case hg => rfl); (case hr => first | (go_simp; done) | (go_simp; rfl)); (case hp => exact (Reps.none _ _)); intro Bo C6 Ap hb hg_ hnew_; clear hg_ hnew_
           (first | rw [← Bu.out] at Ap | (simp only [Int.reduceToNat] at Ap; rw [← Bu.out] at Ap))
           have Aj := aM (Kd.R_lower (Kd.R_new' Ap (Kd.R_lt Z16)) (below_size Z0)); replace Ac := aM (Kd.R_elder' Z16 (Kd.R_base Ap) hb); replace HB := hbS Z0 hb; clear hb Ap; refine hK.out _ _ trivial (fun hHeld => ?_); clear hK K; refine noR 33 ?_; refine one_ (i := 4) (N := some 37) #[true, true, true, true, true, true, true, false, true, true, true, false, false] rfl rfl (one_of HT_.out Z6) (by decide) (fun K hK => ?_); refine Kd.R_append_rows_step (Kd.int .i64) (w0 := w) w.heap.size (by rfl) (.tmp 33) (.tmp 36) 26 3 (.int .i64 0) 8 rfl Try.underlying26 info3 rfl (by decide) (by omega) Bo Bs (l0.take (Aa : Int).toNat) _ _ _ (fun k_ => nV k_ Ax) (fun _ => False) rfl rfl ?aO ?aR (fun _ _ h => h) (fun _ h => h.elim) ?aF ?aB ?aS ?aL ?_; (case aR => first | ((rw [← show (l0.take (Aa : Int).toNat).length = Aa.toNat from Z62]; repeat (first | exact (Kd.C_below Ai.out HB.out) | (with_reducible refine Kd.C_alloc ?_ _) | (with_reducible refine Kd.C_drewN ?_ _) | (with_reducible refine Kd.C_drew ?_))); done) | ((repeat (first | exact (Kd.C_below Ai.out HB.out) | (with_reducible refine Kd.C_alloc ?_ _) | (with_reducible refine Kd.C_drewN ?_ _) | (with_reducible refine Kd.C_drew ?_))); done) | (have h_ := Kd.C_below Ai.out HB.out; rw [show (l0.take (Aa : Int).toNat).length = Aa.toNat from Z62] at h_; repeat (first | exact h_ | (with_reducible refine Kd.C_alloc ?_ _) | (with_reducible refine Kd.C_drewN ?_ _) | (with_reducible refine Kd.C_drew ?_)))); (case aB => exact Z0); (case aF => exact (fun k_ hk => Kd.fresh' (Kd.R_lt Z16) k_ hk)); (case aO => exact Z44); (case aS => exact (below_size Z0)); (case aL => have := LMc28.out; have hlx_ := (show (l0.take (Aa : Int).toNat).length = Aa.toNat from Z62); omega); intro Bb Db ho hb hg hat; rw [← B0.out] at ho; replace Ac := aM (Kd.R_after (ok := (fun _ => True)) Z16 hg hat); replace HB := aM (hb); have Af := aM (ho); clear Aj; clear ho hb hg hat; refine hK.out _ _ trivial (fun hHeld => ?_); clear hK K; refine noR 37 ?_
           exact norm_ Z23 (hCont (Bo, Bb, Ax) _ ⟨Z7, Z31, Z0⟩)
         rintro ⟨Bo, Bb, Ax⟩ Cx ⟨h0_, h1_, h2_⟩; have n0_ : Aside0 (Kd.R (Kd.int .i64) 3 Cx w.heap.size (fun k_ => nV k_ Ax) Bb Ar) := ⟨h0_⟩; have n1_ : Aside0 (Kd.R (Kd.int .i64) 3 Cx w.heap.size (fun k_ => nV k_ Bb) Ax Al) := ⟨h1_⟩; have n2_ : Aside0 (Below w.heap.size w Cx) := ⟨h2_⟩; clear HB; clear h0_ h1_ h2_; have Af := n0_; have Ac := n1_; have HB := n2_; clear n0_ n1_ n2_; have hHeld := trivial; obtain ⟨Cj, Ck, Cl⟩ := Kd.R_slice Ac.out
         (first | subst Cl | (injection Cl with f1_ f2_ f3_; have f4_ := f1_.symm; have f5_ := f3_.symm; clear f1_ f2_ f3_; subst f4_; subst f5_))
         refine norm_ (a' := ?_) ?_ ?_
         rotate_left
         ·simp only [putAll, Act.put, List.setIfInBounds_toArray, List.set_cons_zero, List.set_cons_succ]
          rfl
         refine one_ (i := 7) (N := some 40) #[true, true, true, true, true, true, true, true, true, true, true, false, false] rfl rfl (one_of HT_.out Z6) (by decide) (fun K hK => ?_); refine Kd.R_append_rows_step (Kd.int .i64) (w0 := w) w.heap.size (by rfl) (.tmp 37) (.tmp 39) 26 3 (.int .i64 0) 8 rfl Try.underlying26 info3 rfl (by decide) (by omega) Bb Ar Al _ _ _ (fun k_ => nS k_ Cj Al.length Ck) (fun _ => False) rfl rfl ?aO ?aR (fun _ _ h => h) (fun _ h => h.elim) ?aF ?aB ?aS ?aL ?_; (case aR => repeat (first | exact (Kd.R_reads' Ac.out).2.2 | (with_reducible refine Kd.C_alloc ?_ _) | (with_reducible refine Kd.C_drewN ?_ _) | (with_reducible refine Kd.C_drew ?_))); (case aB => exact Z0); (case aF => exact (fun k_ hk => Kd.fresh' (Kd.R_lt Z16) k_ hk)); (case aO => exact Z7); (case aS => exact (below_size Z0)); (case aL => have := LMc29.out; omega); intro Cy Dl ho hb hg hat; rw [← Ch.out] at ho; replace Ac := aM (Kd.R_after (ok := (fun _ => True)) (by (with_reducible repeat (first | apply Kd.R_alloc | apply Kd.R_drewN | apply Kd.R_drew)); exact Kd.R_mono Ac.out (fun _ hk => ⟨trivial, hk⟩)) hg hat); replace HB := aM (hb); have B3 := aM (ho); clear Af; clear ho hb hg hat; refine hK.out _ _ trivial (fun hHeld => ?_); clear hK K; refine noR 40 ?_; refine one_ (i := 11) (N := some 44) #[true, true, true, true, true, true, true, true, true, true, true, true, false] rfl rfl (one_of HT_.out Z6) (by decide) (fun K hK => ?_); refine Kd.R_append_rows_step (Kd.int .i64) (w0 := w) w.heap.size (by rfl) (.tmp 40) (.tmp 43) 26 3 (.int .i64 0) 8 rfl Try.underlying26 info3 rfl (by decide) (by omega) Cy An (l0.drop (Aa : Int).toNat) _ _ _ (fun k_ => nS k_ Cj Al.length Ck) (fun _ => False) rfl rfl ?aO ?aR (fun _ _ h => h) (fun _ h => h.elim) ?aF ?aB ?aS ?aL ?_; (case aR => first | (rw [← show (l0.drop (Aa : Int).toNat).length = (l0.length - Aa.toNat) from List.length_drop]; repeat (first | exact (Kd.C_below B1.out HB.out) | (with_reducible refine Kd.C_alloc ?_ _) | (with_reducible refine Kd.C_drewN ?_ _) | (with_reducible refine Kd.C_drew ?_))) | (repeat (first | exact (Kd.C_below B1.out HB.out) | (with_reducible refine Kd.C_alloc ?_ _) | (with_reducible refine Kd.C_drewN ?_ _) | (with_reducible refine Kd.C_drew ?_)))); (case aB => exact Z0); (case aF => exact (fun k_ hk => Kd.fresh' (Kd.R_lt Z16) k_ hk)); (case aO => exact (by (with_reducible repeat (first | apply Kd.R_alloc | apply Kd.R_drewN | apply Kd.R_drew)); exact B3.out)); (case aS => exact (below_size Z0)); (case aL => have := LMc32.out; have hlx_ := (show (l0.drop (Aa : Int).toNat).length = (l0.length - Aa.toNat) from List.length_drop); omega); intro Dc Dm ho hb hg hat; rw [← Ci.out] at ho; replace Ac := aM (Kd.R_after (ok := (fun _ => True)) Z16 hg hat); replace HB := aM (hb); have Cm := aM (ho); clear B3; clear ho hb hg hat; refine hK.out _ _ trivial (fun hHeld => ?_); clear hK K; refine noR 44 ?_; refine puR 12 4 #[true, true, true, true, true, true, true, true, true, true, true, true, true] HT_ rfl rfl ?_; refine done_ (done_of HT_.out Z6) ?_
         try go_wp2
         go_ret
         exact ⟨_, Z4, by (with_reducible repeat (first | apply Kd.R_alloc | apply Kd.R_drewN | apply Kd.R_drew)); exact Kd.R_mono Cm.out (fun _ hk => trivial), Z0⟩
        ·rw [if_neg Cs] at H
         exact absurd H (by simp)
       ·rw [if_neg Cr] at H
        exact absurd H (by simp)
      ·rw [if_neg Cq] at H
       exact absurd H (by simp)
     ·rw [if_neg Cg] at H
      exact absurd H (by simp)
    ·rw [if_neg Cf] at H
     exact absurd H (by simp)
def spec_l14Weavers.l0 : Nat → List (S48) → List Int → Int → Option (List Int)
 | 0, _, _, _ => none
 | k + 1, x0, x3, x4 => if x4 < (x0.length : Int) then (if 0 ≤ x4 then ((spec_l1Has.f k x3 ((rd_T48 x0 x4).f0)).bind fun t184 => (if t184 = true then (spec_l14Weavers.l0 k x0 x3 (wrap64 (x4 + 1))) else ((spec_l1Put.f k x3 ((rd_T48 x0 x4).f0)).bind fun t186 => (spec_l14Weavers.l0 k x0 t186 (wrap64 (x4 + 1)))))) else (none)) else (some x3)
def spec_l14Weavers.f (k : Nat) (l0 : List (S48)) : Option (List Int) := spec_l14Weavers.l0 k l0 (([] : List Int)) 0
theorem spec_l14Weavers.calls (k : Nat) (A0 : Option Addr) (c0 : Nat) (l0 : List (S48)) (r : List Int) (w : World) (Bg : Kd.C k48 w A0 l0.length l0) (Bh : l0.length ≤ c0) (h : spec_l14Weavers.f k l0 = some r) :
  Calls Try.prog 36 #[.slice A0 l0.length c0] w fun e w' => ∃ v0_ : Value, e = .returned (v0_) ∧ Kd.R (Kd.int .i64) 3 w' w.heap.size (fun _ => True) v0_ r ∧ Below w.heap.size w w' := by
 have Bc := Aside0.mk Bg; have Bp := Aside0.mk Bh; clear Bg Bh; have HB := aM (Below.refl w.heap.size w); have H : (spec_l14Weavers.l0 k l0 (([] : List Int)) 0) = some r := h; clear h; obtain ⟨Aw, An⟩ : ∃ y_ : List Int, y_ = (([] : List Int)) := ⟨_, rfl⟩
 replace H : (spec_l14Weavers.l0 k l0 Aw 0) = some r := by first | (rw [An]; with_reducible exact H) | (have H2_ := (Option.bind_some _ _).symm.trans H; rw [An]; with_reducible exact H2_) | (have H2_ := (Option.bind_some _ _).symm.trans H; with_reducible exact H2_) | with_reducible exact H | (rw [An]; exact H) | exact H
 have Ar := Aside0.mk An; clear An; have H' := Aside0.mk H; clear H
 go_enter Try.func36, Try.ntmps36
 go_wp2_with (first | ((with_reducible refine gate_dst (N := 5) rfl ?_); refine Kd.R_lit (Kd.int .i64) _ 3 ?hg (N := 5) ?hd (xs := ([] : List Int)) (inner := []) (ok := fun _ => True) (okp := fun _ => True) ?hr ?hp (fun _ hk => hk) trivial (Below.refl _ _) (Nat.le_refl _) (by simp) ?_; (case hd => rfl); (case hg => rfl); (case hr => first | (go_simp; done) | (go_simp; rfl)); (case hp => exact (Reps.none _ _)); intro Bk w2 Ax hb hg_ hnew_; clear hg_ hnew_; (first | rw [← Ar.out] at Ax | (simp only [Int.reduceToNat] at Ax; rw [← Ar.out] at Ax)); have Ay := aM (Kd.R_lower Ax (below_size Z0)); replace HB := hbS Z0 hb; clear hb Ax))
 go_loopg [3, 4] k (fun kq v3 v4 w' => ∃ (Ag : List Int) (Aa : Int), v4 = .int .i64 Aa ∧ Aside0 (spec_l14Weavers.l0 kq l0 Ag Aa = some r) ∧ Aside0 (kq ≤ k) ∧ Aside0 (Kd.R (Kd.int .i64) 3 w' w.heap.size (fun _ => True) v3 Ag) ∧ Aside0 (Below w.heap.size w w'))
 case atStart => exact ⟨(Aw), (0), Z3, H', ⟨Nat.le_refl _⟩, ⟨Z48⟩, ⟨Z0⟩⟩
 case round =>
  clear H'; (try clear p2); (try clear c3); obtain ⟨Ag, Aa, rfl, HA, HK1, Ah, HB⟩ := hrel; cases gk with
  | zero => exact absurd HA.out (by simp [spec_l14Weavers.l0])
  | succ k1 =>
   have H := HA.out; clear HA
   simp only [spec_l14Weavers.l0] at H
   by_cases c4 : Aa < (l0.length : Int)
   ·rw [if_pos c4] at H
    have c4b0 : decide (Aa < (l0.length : Int)) = true := decide_eq_true c4; clear c4
    by_cases c5 : 0 ≤ Aa
    ·rw [if_pos c5] at H
     have c5b0 : decide (0 ≤ Aa) = true := decide_eq_true c5; clear c5; replace H := Option.bind_eq_some_iff.mp H; obtain ⟨Az, Bi, H⟩ := H; replace H : (if Az = true then (spec_l14Weavers.l0 k1 l0 Ag (wrap64 (Aa + 1))) else ((spec_l1Put.f k1 Ag ((rd_T48 l0 Aa).f0)).bind fun Ao => (spec_l14Weavers.l0 k1 l0 Ao (wrap64 (Aa + 1))))) = some r := H; have A6 := Aside0.mk Bi; clear Bi
     by_cases c7 : Az = true
     ·subst c7
      have H1 : (spec_l14Weavers.l0 k1 l0 Ag (wrap64 (Aa + 1))) = some r := by rw [if_pos rfl] at H; exact H
      clear H; have H := H1; clear H1; have H' := Aside0.mk H; clear H; have Ap : 0 ≤ (Aa : Int) := of_decide_eq_true Z2; have Aq : Aa < (l0.length : Int) := of_decide_eq_true Z2; obtain ⟨ad183, e183, Ab, Ac, Ad, Ae, Af⟩ := at_T48 Bc.out Aa Ap Aq; cases e183; replace Ab := (HB.out.cell (World.block_lt_of_cell? w _ Ab)).trans Ab; replace Ac := (HB.out.cell (World.block_lt_of_cell? w _ Ac)).trans Ac; replace Ad := (HB.out.cell (World.block_lt_of_cell? w _ Ad)).trans Ad; replace Ae := (HB.out.cell (World.block_lt_of_cell? w _ Ae)).trans Ae; replace Af := (HB.out.cell (World.block_lt_of_cell? w _ Af)).trans Af; replace Ap := eq_true Ap; replace Aq := eq_true Aq; obtain ⟨Bl, Bm, Bn⟩ := Kd.R_slice Ah.out; subst Bn
      go_wp2_with (first | ((with_reducible refine gate_callee (f := 63) rfl ?_); refine glE (some 18) Try.func63 #[.slice Bl Ag.length Bm, .int .i64 ((rd_T48 l0 Aa).f0)] ?_; (with_reducible refine (spec_l1Has.calls k1 _ _ Ag ((rd_T48 l0 Aa).f0) true _ ?side1 ?side2 A6.out).mono ?_); (case side1 => exact Z24); (case side2 => exact (Kd.R_reads' Ah.out).2.1); rintro e w' ⟨rfl, ⟨nd, rfl⟩⟩; refine ⟨_, rfl, ?_⟩))
      go_roundg k1
      case measure => have := HK1.out; omega
      case rel => exact ⟨(Ag), (wrap64 (Aa + 1)), Z3, H', ⟨Z39⟩, ⟨Z17⟩, ⟨Z0⟩⟩
     ·replace c7 := Bool.eq_false_iff.mpr c7
      subst c7
      have H1 : ((spec_l1Put.f k1 Ag ((rd_T48 l0 Aa).f0)).bind fun Ao => (spec_l14Weavers.l0 k1 l0 Ao (wrap64 (Aa + 1)))) = some r := by rw [if_neg (show ¬ (false = true) by decide)] at H; exact H
      clear H; have H := H1; clear H1; replace H := Option.bind_eq_some_iff.mp H; obtain ⟨Ao, Bj, H⟩ := H; replace H : (spec_l14Weavers.l0 k1 l0 Ao (wrap64 (Aa + 1))) = some r := H; have A9 := Aside0.mk Bj; clear Bj; have H' := Aside0.mk H; clear H; have Ap : 0 ≤ (Aa : Int) := of_decide_eq_true Z2; have Aq : Aa < (l0.length : Int) := of_decide_eq_true Z2; obtain ⟨ad183, e183, Ab, Ac, Ad, Ae, Af⟩ := at_T48 Bc.out Aa Ap Aq; cases e183; replace Ab := (HB.out.cell (World.block_lt_of_cell? w _ Ab)).trans Ab; replace Ac := (HB.out.cell (World.block_lt_of_cell? w _ Ac)).trans Ac; replace Ad := (HB.out.cell (World.block_lt_of_cell? w _ Ad)).trans Ad; replace Ae := (HB.out.cell (World.block_lt_of_cell? w _ Ae)).trans Ae; replace Af := (HB.out.cell (World.block_lt_of_cell? w _ Af)).trans Af; replace Ap := eq_true Ap; replace Aq := eq_true Aq; obtain ⟨A3, Ba, Bd⟩ := Kd.R_slice Ah.out; subst Bd
      go_wp2_with (first | ((with_reducible refine gate_callee (f := 63) rfl ?_); refine glE (some 18) Try.func63 #[.slice A3 Ag.length Ba, .int .i64 ((rd_T48 l0 Aa).f0)] ?_; (with_reducible refine (spec_l1Has.calls k1 _ _ Ag ((rd_T48 l0 Aa).f0) false _ ?side1 ?side2 A6.out).mono ?_); (case side1 => exact Z24); (case side2 => exact (Kd.R_reads' Ah.out).2.1); rintro e w' ⟨rfl, ⟨nd, rfl⟩⟩; refine ⟨_, rfl, ?_⟩; have Au : 0 ≤ (Aa : Int) := of_decide_eq_true Z2; have Av : Aa < (l0.length : Int) := of_decide_eq_true Z2; obtain ⟨ad185, e185, Ai, Aj, Ak, Al, Am⟩ := at_T48 Bc.out Aa Au Av; obtain rfl : ad183 = ad185 := (by injection e185); replace Ai := (HB.out.cell (World.block_lt_of_cell? w _ Ai)).trans Ai; replace Aj := (HB.out.cell (World.block_lt_of_cell? w _ Aj)).trans Aj; replace Ak := (HB.out.cell (World.block_lt_of_cell? w _ Ak)).trans Ak; replace Al := (HB.out.cell (World.block_lt_of_cell? w _ Al)).trans Al; replace Am := (HB.out.cell (World.block_lt_of_cell? w _ Am)).trans Am; replace Au := eq_true Au; replace Av := eq_true Av) | ((with_reducible refine gate_callee (f := 64) rfl ?_); refine glE (some 26) Try.func64 #[.slice A3 Ag.length Ba, .int .i64 ((rd_T48 l0 Aa).f0)] ?_; (with_reducible refine (spec_l1Put.calls k1 _ _ Ag ((rd_T48 l0 Aa).f0) Ao _ ?side1 ?side2 A9.out).mono ?_); (case side1 => exact Z24); (case side2 => exact (Kd.R_reads' Ah.out).2.1); rintro e Bq ⟨Bo, rfl, Bf, hb⟩; refine ⟨_, rfl, ?_⟩; have Bb := aM (Kd.R_lower (Kd.R_new' Bf (Kd.R_lt Z17)) (below_size Z0)); replace Ah := aM (Kd.R_elder' Z17 (Kd.R_base Bf) hb); replace HB := hbS Z0 hb; (try clear hb); (try clear Bf)))
      go_roundg k1
      case measure => have := HK1.out; omega
      case rel => exact ⟨(Ao), (wrap64 (Aa + 1)), Z3, H', ⟨Z39⟩, ⟨by (with_reducible repeat (first | apply Kd.R_alloc | apply Kd.R_drewN | apply Kd.R_drew)); exact Kd.R_mono Bb.out (fun _ hk => trivial)⟩, ⟨Z0⟩⟩
    ·rw [if_neg c5] at H
     exact absurd H (by simp)
   ·rw [if_neg c4] at H
    have c4b0 : decide (Aa < (l0.length : Int)) = false := decide_eq_false c4; clear c4; obtain rfl := Option.some.inj H
    go_wp2
    go_ret
    exact ⟨_, Z4, Z17, Z0⟩
def spec_l1Most.f (a0 : Int) (a1 : Int) : Option (Int) := if a0 > a1 then (some a0) else (some a1)
theorem spec_l1Most.calls (a0 : Int) (a1 : Int) (r : Int) (w : World) (h : spec_l1Most.f a0 a1 = some r) :
  Calls Try.prog 70 #[.int .i64 a0, .int .i64 a1] w fun e w' => e = .returned (.int .i64 r) ∧ Drawn0 w w' := by
 have H : (if a0 > a1 then (some a0) else (some a1)) = some r := h; clear h
 by_cases c3 : a0 > a1
 ·rw [if_pos c3] at H
  have c3b0 : decide (a1 < a0) = true := decide_eq_true c3; clear c3; obtain rfl := Option.some.inj H
  go_enter Try.func70, Try.ntmps70
  go_wp2
  go_ret
  exact ⟨Z3, Z9⟩
 ·rw [if_neg c3] at H
  have c3b0 : decide (a1 < a0) = false := decide_eq_false c3; clear c3; obtain rfl := Option.some.inj H
  go_enter Try.func70, Try.ntmps70
  go_wp2
  go_ret
  exact ⟨Z3, Z9⟩
def spec_l14Errors.l0 : Nat → List (S48) → Int → Int → Int → Int → Option (Int × Int)
 | 0, _, _, _, _, _ => none
 | k + 1, x0, x1, x6, x7, x8 => if x8 < (x0.length : Int) then (if 0 ≤ x8 then (if ((rd_T48 x0 x8).f0) = x1 then (spec_l14Errors.l0 k x0 x1 (wrap64 (x6 + ((rd_T48 x0 x8).f3))) (wrap64 (x7 + ((rd_T48 x0 x8).f2))) (wrap64 (x8 + 1))) else (spec_l14Errors.l0 k x0 x1 x6 x7 (wrap64 (x8 + 1)))) else (none)) else ((spec_l1Most.f 1 x7).bind fun t192 => (some (x6, t192)))
def spec_l14Errors.f (k : Nat) (l0 : List (S48)) (a1 : Int) : Option (Int × Int) := spec_l14Errors.l0 k l0 a1 0 0 0
theorem spec_l14Errors.calls (k : Nat) (A0 : Option Addr) (c0 : Nat) (l0 : List (S48)) (a1 : Int) (r1 : Int) (r2 : Int) (w : World) (Bb : Kd.C k48 w A0 l0.length l0) (Bc : l0.length ≤ c0) (h : spec_l14Errors.f k l0 a1 = some (r1, r2)) :
  Calls Try.prog 42 #[.slice A0 l0.length c0, .int .i64 a1] w fun e w' => e = .returned (.tuple #[.int .i64 r1, .int .i64 r2]) ∧ Drawn0 w w' := by
 have Ap := Aside0.mk Bb; have Bf := Aside0.mk Bc; clear Bb Bc; have H : (spec_l14Errors.l0 k l0 a1 0 0 0) = some (r1, r2) := h; clear h; have H' := Aside0.mk H; clear H
 go_enter Try.func42, Try.ntmps42
 go_wp2
 go_loopg [6, 7, 8] k (fun kq v6 v7 v8 w' => ∃ (Ae : Int) (Ab : Int) (Aa : Int), v6 = .int .i64 Ae ∧ v7 = .int .i64 Ab ∧ v8 = .int .i64 Aa ∧ Aside0 (spec_l14Errors.l0 kq l0 a1 Ae Ab Aa = some (r1, r2)) ∧ Aside0 (kq ≤ k) ∧ Drawn0 w w')
 case atStart => exact ⟨(0), (0), (0), Z3, Z3, Z3, H', ⟨Nat.le_refl _⟩, Z9⟩
 case round =>
  clear H'; (try clear p2); obtain ⟨Ae, Ab, Aa, rfl, rfl, rfl, HA, HK1, ⟨m1, rfl⟩⟩ := hrel; cases gk with
  | zero => exact absurd HA.out (by simp [spec_l14Errors.l0])
  | succ k1 =>
   have H := HA.out; clear HA
   simp only [spec_l14Errors.l0] at H
   by_cases c3 : Aa < (l0.length : Int)
   ·rw [if_pos c3] at H
    have c3b0 : decide (Aa < (l0.length : Int)) = true := decide_eq_true c3; clear c3
    by_cases c4 : 0 ≤ Aa
    ·rw [if_pos c4] at H
     have c4b0 : decide (0 ≤ Aa) = true := decide_eq_true c4; clear c4
     by_cases c5 : ((rd_T48 l0 Aa).f0) = a1
     ·rw [if_pos c5] at H
      have c5b0 : (((rd_T48 l0 Aa).f0) == a1) = true := beq_iff_eq.mpr c5; have c5b1 : (((rd_T48 l0 Aa).f0) != a1) = false := bne_eq_false_iff_eq.mpr c5; clear c5; have H' := Aside0.mk H; clear H; have Ac : 0 ≤ (Aa : Int) := of_decide_eq_true Z2; have Ad : Aa < (l0.length : Int) := of_decide_eq_true Z2; obtain ⟨ad189, e189, Af, Ag, Ah, Ai, Aj⟩ := at_T48 Ap.out Aa Ac Ad; cases e189; replace Ac := eq_true Ac; replace Ad := eq_true Ad; have Ak : 0 ≤ (Aa : Int) := of_decide_eq_true Z2; have Al : Aa < (l0.length : Int) := of_decide_eq_true Z2; obtain ⟨ad190, e190, Aq, Ar, Au, Av, Aw⟩ := at_T48 Ap.out Aa Ak Al; obtain rfl : ad189 = ad190 := (by injection e190); replace Ak := eq_true Ak; replace Al := eq_true Al; have Am : 0 ≤ (Aa : Int) := of_decide_eq_true Z2; have An : Aa < (l0.length : Int) := of_decide_eq_true Z2; obtain ⟨ad191, e191, Ax, Ay, Az, A3, Ba⟩ := at_T48 Ap.out Aa Am An; obtain rfl : ad189 = ad191 := (by injection e191); replace Am := eq_true Am; replace An := eq_true An
      go_wp2
      go_roundg k1
      case measure => have := HK1.out; omega
      case rel => exact ⟨(wrap64 (Ae + ((rd_T48 l0 Aa).f3))), (wrap64 (Ab + ((rd_T48 l0 Aa).f2))), (wrap64 (Aa + 1)), Z3, Z3, Z3, H', ⟨Z39⟩, Z9⟩
     ·rw [if_neg c5] at H
      have c5b0 : (((rd_T48 l0 Aa).f0) == a1) = false := beq_eq_false_iff_ne.mpr c5; have c5b1 : (((rd_T48 l0 Aa).f0) != a1) = true := bne_iff_ne.mpr c5; have H' := Aside0.mk H; clear H; have Ac : 0 ≤ (Aa : Int) := of_decide_eq_true Z2; have Ad : Aa < (l0.length : Int) := of_decide_eq_true Z2; obtain ⟨ad189, e189, Af, Ag, Ah, Ai, Aj⟩ := at_T48 Ap.out Aa Ac Ad; cases e189; replace Ac := eq_true Ac; replace Ad := eq_true Ad
      go_wp2
      go_roundg k1
      case measure => have := HK1.out; omega
      case rel => exact ⟨(Ae), (Ab), (wrap64 (Aa + 1)), Z3, Z3, Z3, H', ⟨Z39⟩, Z9⟩
    ·rw [if_neg c4] at H
     exact absurd H (by simp)
   ·rw [if_neg c3] at H
    have c3b0 : decide (Aa < (l0.length : Int)) = false := decide_eq_false c3; clear c3; replace H := Option.bind_eq_some_iff.mp H; obtain ⟨Ao, Bd, H⟩ := H; replace H : (some (Ae, Ao)) = some (r1, r2) := H; have A6 := Aside0.mk Bd; clear Bd
    simp only [Option.some.injEq, Prod.mk.injEq] at H
    obtain ⟨rfl, rfl⟩ := H
    go_wp2_with (first | ((with_reducible refine gate_callee (f := 70) rfl ?_); refine glE (some 38) Try.func70 #[.int .i64 1, .int .i64 Ab] ?_; (with_reducible refine (spec_l1Most.calls 1 Ab Ao _ A6.out).mono ?_); rintro e w' ⟨rfl, ⟨nd, rfl⟩⟩; refine ⟨_, rfl, ?_⟩))
    go_ret2
    exact ⟨Z3, Z9⟩
end Go.Proofs.Ytffgmmfkiecheaa.H
