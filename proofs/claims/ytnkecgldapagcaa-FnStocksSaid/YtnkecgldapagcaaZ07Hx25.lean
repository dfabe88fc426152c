-- by wip/pack.py of this repo
import Derived.Test.YtnkecgldapagcaaZ07Hx0
import Derived.Test.YtnkecgldapagcaaZ07Hx12
import Derived.Test.YtnkecgldapagcaaZ07Hx14
import Derived.Test.YtnkecgldapagcaaZ07Hx16
import Derived.Test.YtnkecgldapagcaaZ07Hx18
import Derived.Test.YtnkecgldapagcaaZ07Hx20
import Derived.Test.YtnkecgldapagcaaZ07Hx21
import Derived.Test.YtnkecgldapagcaaZ07Hx22
import Derived.Test.YtnkecgldapagcaaZ07WGuard
import Derived.Test.YtnkecgldapagcaaZ07WLast
import Derived.Test.YtnkecgldapagcaaZ07WMore
import Derived.Test.YtnkecgldapagcaaZ07WQPut
import Derived.Test.YtnkecgldapagcaaZ07WRepsOne
import Derived.Test.YtnkecgldapagcaaZ07WWords
import Derived.Test.YtnkecgldapagcaaZ07Short
namespace Go.Proofs.Ytnkecgldapagcaa.H
open Go.RowKit Go.Proofs.YtnkecgldapagcaaW.PrintWords Go.Proofs.YtnkecgldapagcaaW.PrintLast Go.Proofs.YtnkecgldapagcaaW.PrintMore
attribute [local go_sem] max2_int min2_int max_two min_two max_three min_three max_four min_four
set_option maxHeartbeats 8000000
set_option maxRecDepth 100000
set_option linter.unusedVariables false
set_option linter.unusedSimpArgs false
mutual
def spec_l1Cur_stock10.l0 : Nat → List Int → Int → List Int → Int → Int → Option (List Int × Int × Int)
 | 0, _, _, _, _, _ => none
 | k + 1, x3, x4, x1000, x1001, x1002 => if x4 < 6 then ((spec_l1Cur_among.f x1000 x1001 x1002 (([0, 100, 500, 2000, 10000, 1000000] : List Int))).bind fun bt887 => (if x3.length < 17592186044416 then (spec_l1Cur_stock10.l0 k (x3 ++ [bt887.1]) (wrap64 (x4 + 1)) x1000 bt887.2.1 bt887.2.2) else (none))) else ((spec_l1Cur_pick.f x1000 x1001 x1002 24).bind fun bt893 => (if bt893.1 = 0 then (if 1 ≤ (x3.length : Int) then (some ((x3.drop (1 : Int).toNat), bt893.2.1, bt893.2.2)) else (none)) else (if bt893.1 = 1 then ((spec_l1Cur_pick.f x1000 bt893.2.1 bt893.2.2 6).bind fun bt899 => (if 0 ≤ bt899.1 then (if bt899.1 < (x3.length : Int) then (some ((x3.set (bt899.1 : Int).toNat (-1)), bt899.2.1, bt899.2.2)) else (none)) else (none))) else (if bt893.1 = 2 then (spec_l1Cur_stock10.l1 k x3 0 x1000 bt893.2.1 bt893.2.2) else (some (x3, bt893.2.1, bt893.2.2))))))
def spec_l1Cur_stock10.l1 : Nat → List Int → Int → List Int → Int → Int → Option (List Int × Int × Int)
 | 0, _, _, _, _, _ => none
 | k + 1, x3, x5, x1000, x1001, x1002 => if x5 < 6 then (if 0 ≤ x5 then (if x5 < (x3.length : Int) then (spec_l1Cur_stock10.l1 k (x3.set (x5 : Int).toNat 100000000) (wrap64 (x5 + 1)) x1000 x1001 x1002) else (none)) else (none)) else (some (x3, x1001, x1002))
end
def spec_l1Cur_stock10.f (k : Nat) (s0_0 : List Int) (s0_1 : Int) (s0_2 : Int) : Option (List Int × Int × Int) := spec_l1Cur_stock10.l0 k (([] : List Int)) 0 s0_0 s0_1 s0_2
theorem spec_l1Cur_stock10.calls (k : Nat) (g : Nat) (s0_0 : List Int) (s0_1 : Int) (s0_2 : Int) (r1 : List Int) (r2 : Int) (r3 : Int) (w0 w : World) (hI : IsS77 w0 w g s0_0 s0_1 s0_2) (hB : Below w0.heap.size w0 w) (h : spec_l1Cur_stock10.f k s0_0 s0_1 s0_2 = some (r1, r2, r3)) :
  Calls Try.prog 84 #[.pointer (some ⟨g, 0, none⟩)] w fun e w' => ∃ v0_ : Value, e = .returned (v0_) ∧ Kd.Q (Kd.int .i64) 3 w' w.heap.size (fun _ => True) v0_ r1 ∧ IsS77 w0 w' g s0_0 r2 r3 ∧ Below w0.heap.size w0 w' ∧ KeepBut w w' g none := by
 have HI0 := Aside0.mk hI
 have HK := Aside0.mk (KeepBut.refl w g none)
 have HL := Aside0.mk hB.size
 clear hI
 have HW0 := Aside0.mk hB.size
 have HB := Aside0.mk hB
 clear hB
 have H : (spec_l1Cur_stock10.l0 k (([] : List Int)) 0 s0_0 s0_1 s0_2) = some (r1, r2, r3) := h
 clear h
 obtain ⟨y881, hy881⟩ : ∃ y_ : List Int, y_ = (([] : List Int)) := ⟨_, rfl⟩
 replace H : (spec_l1Cur_stock10.l0 k y881 0 s0_0 s0_1 s0_2) = some (r1, r2, r3) := by first | (rw [hy881]; with_reducible exact H) | (have H2_ := (Option.bind_some _ _).symm.trans H; rw [hy881]; with_reducible exact H2_) | (have H2_ := (Option.bind_some _ _).symm.trans H; with_reducible exact H2_) | with_reducible exact H | (rw [hy881]; exact H) | exact H
 have Ny881 := Aside0.mk hy881
 clear hy881
 have H' := Aside0.mk H
 clear H
 go_enter Try.func84, Try.ntmps84
 go_wp2_with (first | ((with_reducible refine gate_dst (N := 6) rfl ?_); refine Kd.R_lit (Kd.int .i64) _ 3 ?hg (N := 6) ?hd (xs := ([] : List Int)) (inner := []) (ok := fun _ => True) (okp := fun _ => True) ?hr ?hp (fun _ hk => hk) trivial (Below.refl _ _) (Nat.le_refl _) (by simp) ?_; (case hd => rfl); (case hg => rfl); (case hr => first | (go_simp; done) | (go_simp; rfl)); (case hp => exact (Reps.none _ _)); intro v882 w2 ho3 hb hg_ hnew_; clear hg_ hnew_; (first | rw [← Ny881.out] at ho3 | (simp only [Int.reduceToNat] at ho3; rw [← Ny881.out] at ho3)); have HO883 := Aside0.mk (Kd.R_lower ho3 (keep_size (w := w) (g := g) (row := none) Z7)); replace HK := Aside0.mk (KeepBut.trans Z7 (KeepBut.of_below hb g none) (.inl rfl)); replace HB := Aside0.mk (below_step Z10 hb); replace HI0 := Aside0.mk (IsS77.below Z4 hb); clear hb ho3))
 go_loopg [3, 4] k (fun kq v3 v4 w' => ∃ (x3_1 : List Int) (x4_1 : Int) (x1001_1 : Int) (x1002_1 : Int), v4 = .int .i64 x4_1 ∧ Aside0 (spec_l1Cur_stock10.l0 kq x3_1 x4_1 s0_0 x1001_1 x1002_1 = some (r1, r2, r3)) ∧ Aside0 (kq ≤ k) ∧ Aside0 (Kd.Q (Kd.int .i64) 3 w' w.heap.size (fun _ => True) v3 x3_1) ∧ Aside0 (IsS77 w0 w' g s0_0 x1001_1 x1002_1) ∧ Aside0 (KeepBut w w' g none) ∧ Aside0 (Below w0.heap.size w0 w'))
 case atStart => exact ⟨(y881), (0), (s0_1), (s0_2), Z20, H', ⟨Nat.le_refl _⟩, ⟨Kd.Q_of_R (by (with_reducible repeat (first | apply Kd.R_alloc | apply Kd.R_drewN | apply Kd.R_drew)); exact HO883.out)⟩, ⟨Z4⟩, ⟨Z7⟩, ⟨Z10⟩⟩
 case round =>
  clear H'
  try clear p2
  obtain ⟨x3_1, x4_1, x1001_1, x1002_1, rfl, HA, HK1, HO_3, HI0, HK, HB⟩ := hrel
  cases gk with
  | zero => exact absurd HA.out (by simp [spec_l1Cur_stock10.l0])
  | succ k1 =>
   have H := HA.out
   clear HA
   simp only [spec_l1Cur_stock10.l0] at H
   by_cases c4 : x4_1 < 6
   ·rw [if_pos c4] at H
    have c4b0 : decide (x4_1 < 6) = true := decide_eq_true c4
    clear c4
    obtain ⟨y884, hy884⟩ : ∃ y_ : List Int, y_ = (([0, 100, 500, 2000, 10000, 1000000] : List Int)) := ⟨_, rfl⟩
    replace H : ((spec_l1Cur_among.f s0_0 x1001_1 x1002_1 y884).bind fun bt887 => (if x3_1.length < 17592186044416 then (spec_l1Cur_stock10.l0 k1 (x3_1 ++ [bt887.1]) (wrap64 (x4_1 + 1)) s0_0 bt887.2.1 bt887.2.2) else (none))) = some (r1, r2, r3) := by first | (rw [hy884]; with_reducible exact H) | (have H2_ := (Option.bind_some _ _).symm.trans H; rw [hy884]; with_reducible exact H2_) | (have H2_ := (Option.bind_some _ _).symm.trans H; with_reducible exact H2_) | with_reducible exact H | (rw [hy884]; exact H) | exact H
    have Ny884 := Aside0.mk hy884
    clear hy884
    replace H := Option.bind_eq_some_iff.mp H
    obtain ⟨⟨t887, t888, t889⟩, A50, H⟩ := H
    replace H : (if x3_1.length < 17592186044416 then (spec_l1Cur_stock10.l0 k1 (x3_1 ++ [t887]) (wrap64 (x4_1 + 1)) s0_0 t888 t889) else (none)) = some (r1, r2, r3) := H
    have A5 := Aside0.mk A50
    clear A50
    by_cases c6 : x3_1.length < 17592186044416
    ·rw [if_pos c6] at H
     have LMc6 := Aside0.mk c6
     clear c6
     obtain ⟨y890, hy890⟩ : ∃ y_ : List Int, y_ = (x3_1 ++ [t887]) := ⟨_, rfl⟩
     replace H : (spec_l1Cur_stock10.l0 k1 y890 (wrap64 (x4_1 + 1)) s0_0 t888 t889) = some (r1, r2, r3) := by first | (rw [hy890]; with_reducible exact H) | (have H2_ := (Option.bind_some _ _).symm.trans H; rw [hy890]; with_reducible exact H2_) | (have H2_ := (Option.bind_some _ _).symm.trans H; with_reducible exact H2_) | with_reducible exact H | (rw [hy890]; exact H) | exact H
     have Ny890 := Aside0.mk hy890
     clear hy890
     have H' := Aside0.mk H
     clear H
     go_wp2_with (first | ((with_reducible refine gate_dst (N := 13) rfl ?_); refine Kd.R_lit (Kd.int .i64) _ 3 ?hg (N := 13) ?hd (xs := ([0, 100, 500, 2000, 10000, 1000000] : List Int)) (inner := [.int .i64 0, .int .i64 100, .int .i64 500, .int .i64 2000, .int .i64 10000, .int .i64 1000000]) (ok := fun _ => True) (okp := fun _ => True) ?hr ?hp (fun _ hk => hk) trivial (Below.refl _ _) (Nat.le_refl _) (by simp) ?_; (case hd => rfl); (case hg => rfl); (case hr => first | (go_simp; done) | (go_simp; rfl)); (case hp => exact (Reps.one (show Kd.M (Kd.int .i64) _ _ _ 0 [.int .i64 0] from rfl) (Reps.one (show Kd.M (Kd.int .i64) _ _ _ 100 [.int .i64 100] from rfl) (Reps.one (show Kd.M (Kd.int .i64) _ _ _ 500 [.int .i64 500] from rfl) (Reps.one (show Kd.M (Kd.int .i64) _ _ _ 2000 [.int .i64 2000] from rfl) (Reps.one (show Kd.M (Kd.int .i64) _ _ _ 10000 [.int .i64 10000] from rfl) (Reps.one (show Kd.M (Kd.int .i64) _ _ _ 1000000 [.int .i64 1000000] from rfl) (Reps.none _ _)))))))); intro v885 w7 ho8 hb hg_ hnew_; clear hg_ hnew_; (first | rw [← Ny884.out] at ho8 | (simp only [Int.reduceToNat] at ho8; rw [← Ny884.out] at ho8)); have HO886 := Aside0.mk (Kd.R_lower (Kd.R_new' ho8 (Kd.Q_lt Z54)) (keep_size (w := w) (g := g) (row := none) Z7)); replace HO_3 := Aside0.mk (Kd.Q_elder' Z54 (Kd.R_base ho8) hb); replace HK := Aside0.mk (KeepBut.trans Z7 (KeepBut.of_below hb g none) (.inl rfl)); replace HB := Aside0.mk (below_step Z10 hb); replace HI0 := Aside0.mk (IsS77.below Z4 hb); clear hb ho8; obtain ⟨Ao9, co9, eo9⟩ := Kd.R_slice HO886.out; subst eo9) | ((with_reducible refine gate_callee (f := 65) rfl ?_); refine glE (some 14) Try.func65 #[.pointer (some ⟨g, 0, none⟩), .slice Ao9 y884.length co9] ?_; (with_reducible refine (spec_l1Cur_among.calls g s0_0 x1001_1 x1002_1 _ _ y884 t887 t888 t889 w0 _ ?side1 ?side2 ?side3 ?side4 ?side5 A5.out).mono ?_); (case side1 => exact Z4); (case side2 => exact Z10); (case side3 => exact (by repeat (first | exact (Kd.R_reads' HO886.out).2.2 | (with_reducible refine Kd.C_alloc ?_ _) | (with_reducible refine Kd.C_drewN ?_ _) | (with_reducible refine Kd.C_drew ?_)))); (case side4 => exact (Kd.R_reads' HO886.out).2.1); (case side5 => exact far_slice (IsS77.own_ne HI0.out HO886.out (by decide))); rintro e w10 ⟨rfl, hi, hb, hk⟩; refine ⟨_, rfl, ?_⟩; replace HO_3 := Aside0.mk (Kd.Q_mono (Kd.Q_keep (IsS77.apartQ (show IsS77 w0 _ g s0_0 x1001_1 x1002_1 from Z4) Z54 (by decide)) hk (fun _ h => h.2)) (fun _ h => h.1)); replace HO886 := Aside0.mk (Kd.R_mono (Kd.R_keep (IsS77.apart (show IsS77 w0 _ g s0_0 x1001_1 x1002_1 from Z4) Z144 (by decide)) hk (fun _ h => h.2)) (fun _ h => h.1)); replace HK := Aside0.mk (KeepBut.trans Z7 hk (.inl rfl)); replace HB := Aside0.mk (hb); replace HI0 := Aside0.mk (hi); (try clear hb); (try clear hk); (try clear hi)) | ((with_reducible refine gate_builtin (b := .append) (xs := #[.tmp 11, .tmp 15]) rfl ?_); at_builtin; refine Kd.Q_append (Kd.int .i64) w.heap.size rfl (.tmp 11) (.tmp 15) 22 3 (.int .i64 0) 8 rfl Try.underlying22 info3 rfl (by decide) (by omega) u3 x3_1 t887 [.int .i64 t887] (fun k_ => some k_ ≠ (.slice Ao9 y884.length co9 : Value).ownBlock) (fun _ => False) rfl rfl ?aP (fun _ hk => hk.elim) ?aF ?aO (Below.refl _ _) ?aS ?aL ?_; (case aP => exact rfl); (case aF => exact (fun k_ hk => Kd.fresh' (Kd.R_lt Z144) k_ hk)); (case aO => exact (by (with_reducible repeat (first | apply Kd.Q_alloc | apply Kd.Q_drewN | apply Kd.Q_drew)); exact Kd.Q_mono HO_3.out (fun _ hk => hk.2))); (case aS => exact (keep_size (w := w) (g := g) (row := none) Z7)); (case aL => have := LMc6.out; omega); intro v891 w11 ho hb hg hat; rw [← Ny890.out] at ho; replace HO886 := Aside0.mk (Kd.R_after (ok := (fun _ => True)) Z144 hg hat); replace HB := Aside0.mk (below_weaken Z10 HL.out hb); replace HI0 := Aside0.mk (IsS77.grown Z4 hg (IsS77.own_neQ HI0.out HO_3.out (by decide))); replace HK := Aside0.mk (KeepBut.trans Z7 (KeepBut.of_grown hg g) (Kd.Q_base2 HO_3.out)); have HO892 := Aside0.mk (ho); clear HO_3; clear ho hb hg hat))
     go_roundg k1
     case measure => have := HK1.out; omega
     case rel => exact ⟨(y890), (wrap64 (x4_1 + 1)), (t888), (t889), Z20, H', ⟨Z126⟩, ⟨by (with_reducible repeat (first | apply Kd.Q_alloc | apply Kd.Q_drewN | apply Kd.Q_drew)); exact Kd.Q_mono HO892.out (fun _ hk => trivial)⟩, ⟨Z4⟩, ⟨Z7⟩, ⟨Z10⟩⟩
    ·rw [if_neg c6] at H
     exact absurd H (by simp)
   ·rw [if_neg c4] at H
    have c4b0 : decide (x4_1 < 6) = false := decide_eq_false c4
    clear c4
    replace H := Option.bind_eq_some_iff.mp H
    obtain ⟨⟨t893, t894, t895⟩, A120, H⟩ := H
    replace H : (if t893 = 0 then (if 1 ≤ (x3_1.length : Int) then (some ((x3_1.drop (1 : Int).toNat), t894, t895)) else (none)) else (if t893 = 1 then ((spec_l1Cur_pick.f s0_0 t894 t895 6).bind fun bt899 => (if 0 ≤ bt899.1 then (if bt899.1 < (x3_1.length : Int) then (some ((x3_1.set (bt899.1 : Int).toNat (-1)), bt899.2.1, bt899.2.2)) else (none)) else (none))) else (if t893 = 2 then (spec_l1Cur_stock10.l1 k1 x3_1 0 s0_0 t894 t895) else (some (x3_1, t894, t895))))) = some (r1, r2, r3) := H
    have A12 := Aside0.mk A120
    clear A120
    by_cases c13 : t893 = 0
    ·rw [if_pos c13] at H
     have c13b0 : (t893 == 0) = true := beq_iff_eq.mpr c13
     have c13b1 : (t893 != 0) = false := bne_eq_false_iff_eq.mpr c13
     clear c13
     by_cases c14 : 1 ≤ (x3_1.length : Int)
     ·rw [if_pos c14] at H
      have c14b0 := eq_true c14
      have c14b1 : decide (1 ≤ (x3_1.length : Int)) = true := decide_eq_true c14
      clear c14
      obtain ⟨y896, hy896⟩ : ∃ y_ : List Int, y_ = (x3_1.drop (1 : Int).toNat) := ⟨_, rfl⟩
      replace H : (some (y896, t894, t895)) = some (r1, r2, r3) := by first | (rw [hy896]; with_reducible exact H) | (have H2_ := (Option.bind_some _ _).symm.trans H; rw [hy896]; with_reducible exact H2_) | (have H2_ := (Option.bind_some _ _).symm.trans H; with_reducible exact H2_) | with_reducible exact H | (rw [hy896]; exact H) | exact H
      have Ny896 := Aside0.mk hy896
      clear hy896
      simp only [Option.some.injEq, Prod.mk.injEq] at H
      obtain ⟨rfl, rfl, rfl⟩ := H
      go_wp2_with (first | ((with_reducible refine gate_callee (f := 83) rfl ?_); refine glE (some 18) Try.func83 #[.pointer (some ⟨g, 0, none⟩), .int .i64 24] ?_; (with_reducible refine (spec_l1Cur_pick.calls g s0_0 x1001_1 x1002_1 24 t893 t894 t895 w0 _ ?side1 ?side2 A12.out).mono ?_); (case side1 => exact Z4); (case side2 => exact Z10); rintro e w15 ⟨rfl, hi, hb, hk⟩; refine ⟨_, rfl, ?_⟩; replace HO_3 := Aside0.mk (Kd.Q_mono (Kd.Q_keep (IsS77.apartQ (show IsS77 w0 _ g s0_0 x1001_1 x1002_1 from Z4) Z54 (by decide)) hk (fun _ h => h.2)) (fun _ h => h.1)); replace HK := Aside0.mk (KeepBut.trans Z7 hk (.inl rfl)); replace HB := Aside0.mk (hb); replace HI0 := Aside0.mk (hi); (try clear hb); (try clear hk); (try clear hi); obtain ⟨Ao16, co16, eo16, _⟩ := Kd.Q_slice HO_3.out; subst eo16; have q17 : (1 : Int) ≤ ((x3_1.length : Int) : Int) := of_decide_eq_true Z19; obtain ⟨i017, hi017, _, hsz17, _⟩ := info_parts info3; have hcut17 := cut_from (P := Try.prog) 22 3 .i64 Try.underlying22 hi017 1 hsz17 Ao16 x3_1.length co16 1 (by omega) q17; have hr17 := Kd.Q_drop (k := (1 : Int).toNat) HO_3.out (by omega); obtain ⟨A17, hA17⟩ : ∃ A1, A1 = (if co16 = (1 : Int).toNat then Ao16 else (Ao16 : Option Addr).map (·.add ((1 : Int).toNat * 1))) := ⟨_, rfl⟩; obtain ⟨c17, hc17⟩ : ∃ c1, c1 = co16 - (1 : Int).toNat := ⟨_, rfl⟩; have hy17 : y896.length = x3_1.length - (1 : Int).toNat := (by rw [Ny896.out, List.length_drop]); rw [← Ny896.out] at hr17; rw [← hy17, ← hA17, ← hc17] at hcut17; replace hr17 : Kd.Q (Kd.int .i64) 3 w15 w.heap.size (fun _ => True) (.slice A17 y896.length c17) y896 := (by rw [hA17, hc17, hy17]; exact hr17); have HE17 : Aside0 ((Value.slice A17 y896.length c17).ownBlock = (.slice Ao16 x3_1.length co16 : Value).ownBlock) := ⟨by rw [hA17]; split <;> (cases (Ao16 : Option Addr) <;> rfl)⟩; clear hy17 hi017 hsz17 HO_3 hA17 hc17; have HO898 := Aside0.mk hr17; clear hr17; replace q17 := eq_true q17))
      go_ret
      exact ⟨_, Z11, by (with_reducible repeat (first | apply Kd.Q_alloc | apply Kd.Q_drewN | apply Kd.Q_drew)); exact HO898.out, Z4, Z10, Z7⟩
     ·rw [if_neg c14] at H
      exact absurd H (by simp)
    ·rw [if_neg c13] at H
     have c13b0 : (t893 == 0) = false := beq_eq_false_iff_ne.mpr c13
     have c13b1 : (t893 != 0) = true := bne_iff_ne.mpr c13
     by_cases c18 : t893 = 1
     ·rw [if_pos c18] at H
      have c18b0 : (t893 == 1) = true := beq_iff_eq.mpr c18
      have c18b1 : (t893 != 1) = false := bne_eq_false_iff_eq.mpr c18
      clear c18
      replace H := Option.bind_eq_some_iff.mp H
      obtain ⟨⟨t899, t900, t901⟩, A190, H⟩ := H
      replace H : (if 0 ≤ t899 then (if t899 < (x3_1.length : Int) then (some ((x3_1.set (t899 : Int).toNat (-1)), t900, t901)) else (none)) else (none)) = some (r1, r2, r3) := H
      have A19 := Aside0.mk A190
      clear A190
      by_cases c20 : 0 ≤ t899
      ·rw [if_pos c20] at H
       have c20b0 : decide (0 ≤ t899) = true := decide_eq_true c20
       clear c20
       by_cases c21 : t899 < (x3_1.length : Int)
       ·rw [if_pos c21] at H
        have c21b0 : decide (t899 < (x3_1.length : Int)) = true := decide_eq_true c21
        clear c21
        obtain ⟨y902, hy902⟩ : ∃ y_ : List Int, y_ = (x3_1.set (t899 : Int).toNat (-1)) := ⟨_, rfl⟩
        replace H : (some (y902, t900, t901)) = some (r1, r2, r3) := by first | (rw [hy902]; with_reducible exact H) | (have H2_ := (Option.bind_some _ _).symm.trans H; rw [hy902]; with_reducible exact H2_) | (have H2_ := (Option.bind_some _ _).symm.trans H; with_reducible exact H2_) | with_reducible exact H | (rw [hy902]; exact H) | exact H
        have Ny902 := Aside0.mk hy902
        clear hy902
        simp only [Option.some.injEq, Prod.mk.injEq] at H
        obtain ⟨rfl, rfl, rfl⟩ := H
        go_wp2_with (first | ((with_reducible refine gate_callee (f := 83) rfl ?_); refine glE (some 18) Try.func83 #[.pointer (some ⟨g, 0, none⟩), .int .i64 24] ?_; (with_reducible refine (spec_l1Cur_pick.calls g s0_0 x1001_1 x1002_1 24 t893 t894 t895 w0 _ ?side1 ?side2 A12.out).mono ?_); (case side1 => exact Z4); (case side2 => exact Z10); rintro e w23 ⟨rfl, hi, hb, hk⟩; refine ⟨_, rfl, ?_⟩; replace HO_3 := Aside0.mk (Kd.Q_mono (Kd.Q_keep (IsS77.apartQ (show IsS77 w0 _ g s0_0 x1001_1 x1002_1 from Z4) Z54 (by decide)) hk (fun _ h => h.2)) (fun _ h => h.1)); replace HK := Aside0.mk (KeepBut.trans Z7 hk (.inl rfl)); replace HB := Aside0.mk (hb); replace HI0 := Aside0.mk (hi); (try clear hb); (try clear hk); (try clear hi)) | ((with_reducible refine gate_callee (f := 83) rfl ?_); refine glE (some 27) Try.func83 #[.pointer (some ⟨g, 0, none⟩), .int .i64 6] ?_; (with_reducible refine (spec_l1Cur_pick.calls g s0_0 t894 t895 6 t899 t900 t901 w0 _ ?side1 ?side2 A19.out).mono ?_); (case side1 => exact Z4); (case side2 => exact Z10); rintro e w24 ⟨rfl, hi, hb, hk⟩; refine ⟨_, rfl, ?_⟩; replace HO_3 := Aside0.mk (Kd.Q_mono (Kd.Q_keep (IsS77.apartQ (show IsS77 w0 _ g s0_0 t894 t895 from Z4) Z54 (by decide)) hk (fun _ h => h.2)) (fun _ h => h.1)); replace HK := Aside0.mk (KeepBut.trans Z7 hk (.inl rfl)); replace HB := Aside0.mk (hb); replace HI0 := Aside0.mk (hi); (try clear hb); (try clear hk); (try clear hi); have p22 : 0 ≤ (t899 : Int) := of_decide_eq_true Z19; have q22 : (t899 : Int) < ((x3_1.length : Int) : Int) := of_decide_eq_true Z19; obtain ⟨go22, oo22, co22, eo22, gb22, gl22, cl22, HG22⟩ := Kd.Q_form HO_3.out (by omega); (first | cases eo22 | (injection eo22 with ea_ en_ ec_; (first | subst ea_ | (injection ea_ with ea_; subst ea_)); subst ec_; clear en_)); have GB22 := Aside0.mk gb22; have GG22 := Aside0.mk HG22; clear gb22 gl22 HG22; obtain ⟨hx22_0, hf22_0⟩ := Kd.Q_cell 0 HO_3.out (t899 : Int) p22 q22; replace p22 := eq_true p22; replace q22 := eq_true q22; obtain ⟨hy25_, hz25_⟩ := Kd.Q_cell 0 HO_3.out (t899 : Int) (of_decide_eq_true Z19) (of_decide_eq_true Z19); have HP25 := Kd.Q_putg HO_3.out (t899 : Int) (of_decide_eq_true Z19) (by have h_ : (t899 : Int) < ((x3_1.length : Int) : Int) := of_decide_eq_true Z19; first | exact h_ | (have e_ := (Kd.Q_reads' HO_3.out).1; omega) | simpa using h_) (-1)) | ((with_reducible refine gate_store (t := 3) (p := 28) rfl ?_); refine store_event (t := 3) (p := 28) (v := ?vo_w26) (w1 := (w24.setCell ⟨go22, oo22 + (t899 : Int).toNat, none⟩ (.int .i64 (-1)))) ?hg ?ho ?hn ?hr ?_; (case ho => rfl); (case hg => rfl); (case hn => rfl); (case hr => first | (go_simp; done) | (go_simp; rfl)); intro w26 hw; have hg : w24.grownBy w26 (some go22) := (by rw [hw]; exact HP25.2); have hp_ : Kd.Q (Kd.int .i64) 3 w26 w.heap.size (fun _ => True) (.slice (some ⟨go22, oo22, none⟩) x3_1.length co22) y902 := (by rw [hw, Ny902.out]; exact HP25.1); clear HP25; replace HI0 := Aside0.mk (IsS77.grown Z4 hg (IsS77.own_neQ HI0.out HO_3.out (by decide))); replace HB := Aside0.mk ((by rw [hw]; exact below_set (HB.out) (Nat.le_trans HL.out GB22.out) : Below w0.heap.size w0 w26)); replace HK := Aside0.mk (KeepBut.trans Z7 (KeepBut.of_grown hg g) (Kd.Q_base2 HO_3.out)); replace HO_3 := Aside0.mk (hp_); clear hg hw hp_))
        go_ret
        exact ⟨_, Z11, Z54, Z4, Z10, Z7⟩
       ·rw [if_neg c21] at H
        exact absurd H (by simp)
      ·rw [if_neg c20] at H
       exact absurd H (by simp)
     ·rw [if_neg c18] at H
      have c18b0 : (t893 == 1) = false := beq_eq_false_iff_ne.mpr c18
      have c18b1 : (t893 != 1) = true := bne_iff_ne.mpr c18
      by_cases c27 : t893 = 2
      ·rw [if_pos c27] at H
       have c27b0 : (t893 == 2) = true := beq_iff_eq.mpr c27
       have c27b1 : (t893 != 2) = false := bne_eq_false_iff_eq.mpr c27
       clear c27
       have H' := Aside0.mk H
       clear H
       go_wp2_with (first | ((with_reducible refine gate_callee (f := 83) rfl ?_); refine glE (some 18) Try.func83 #[.pointer (some ⟨g, 0, none⟩), .int .i64 24] ?_; (with_reducible refine (spec_l1Cur_pick.calls g s0_0 x1001_1 x1002_1 24 t893 t894 t895 w0 _ ?side1 ?side2 A12.out).mono ?_); (case side1 => exact Z4); (case side2 => exact Z10); rintro e w28 ⟨rfl, hi, hb, hk⟩; refine ⟨_, rfl, ?_⟩; replace HO_3 := Aside0.mk (Kd.Q_mono (Kd.Q_keep (IsS77.apartQ (show IsS77 w0 _ g s0_0 x1001_1 x1002_1 from Z4) Z54 (by decide)) hk (fun _ h => h.2)) (fun _ h => h.1)); replace HK := Aside0.mk (KeepBut.trans Z7 hk (.inl rfl)); replace HB := Aside0.mk (hb); replace HI0 := Aside0.mk (hi); (try clear hb); (try clear hk); (try clear hi)))
       go_loopg [5] k1 (fun kq v5 w' => ∃ (x3_2 : List Int) (x5_2 : Int), v5 = .int .i64 x5_2 ∧ Aside0 (spec_l1Cur_stock10.l1 kq x3_2 x5_2 s0_0 t894 t895 = some (r1, r2, r3)) ∧ Aside0 (kq ≤ k1) ∧ Aside0 (Kd.Q (Kd.int .i64) 3 w' w.heap.size (fun _ => True) u3 x3_2) ∧ Aside0 (IsS77 w0 w' g s0_0 t894 t895) ∧ Aside0 (KeepBut w w' g none) ∧ Aside0 (Below w0.heap.size w0 w'))
       case atStart => exact ⟨(x3_1), (0), Z20, H', ⟨Nat.le_refl _⟩, ⟨Z54⟩, ⟨Z4⟩, ⟨Z7⟩, ⟨Z10⟩⟩
       case round =>
        clear H'
        try clear c1
        try clear q1
        try clear c2
        try clear p2
        try clear q2
        try clear hx2
        try clear hf2
        try clear c4
        try clear c4b0
        try clear c6
        try clear p6
        try clear c8
        try clear c13
        try clear c13b0
        try clear c13b1
        try clear c14
        try clear c14b0
        try clear c14b1
        try clear c17
        try clear q17
        try clear c18
        try clear c18b0
        try clear c18b1
        try clear c20
        try clear c20b0
        try clear c21
        try clear c21b0
        try clear p22
        try clear q22
        try clear hx22
        try clear hf22
        try clear c27
        try clear c27b0
        try clear c27b1
        try clear hx22_0
        try clear p2
        try clear p22
        try clear q17
        try clear q22
        obtain ⟨x3_2, x5_2, rfl, HA, HK2, HO_3, HI0, HK, HB⟩ := hrel
        cases gk with
        | zero => exact absurd HA.out (by simp [spec_l1Cur_stock10.l1])
        | succ k2 =>
         have H := HA.out
         clear HA
         simp only [spec_l1Cur_stock10.l1] at H
         by_cases c29 : x5_2 < 6
         ·rw [if_pos c29] at H
          have c29b0 : decide (x5_2 < 6) = true := decide_eq_true c29
          clear c29
          by_cases c30 : 0 ≤ x5_2
          ·rw [if_pos c30] at H
           have c30b0 : decide (0 ≤ x5_2) = true := decide_eq_true c30
           clear c30
           by_cases c31 : x5_2 < (x3_2.length : Int)
           ·rw [if_pos c31] at H
            have c31b0 : decide (x5_2 < (x3_2.length : Int)) = true := decide_eq_true c31
            clear c31
            obtain ⟨y903, hy903⟩ : ∃ y_ : List Int, y_ = (x3_2.set (x5_2 : Int).toNat 100000000) := ⟨_, rfl⟩
            replace H : (spec_l1Cur_stock10.l1 k2 y903 (wrap64 (x5_2 + 1)) s0_0 t894 t895) = some (r1, r2, r3) := by first | (rw [hy903]; with_reducible exact H) | (have H2_ := (Option.bind_some _ _).symm.trans H; rw [hy903]; with_reducible exact H2_) | (have H2_ := (Option.bind_some _ _).symm.trans H; with_reducible exact H2_) | with_reducible exact H | (rw [hy903]; exact H) | exact H
            have Ny903 := Aside0.mk hy903
            clear hy903
            have H' := Aside0.mk H
            clear H
            have p32 : 0 ≤ (x5_2 : Int) := of_decide_eq_true Z19
            have q32 : (x5_2 : Int) < ((x3_2.length : Int) : Int) := of_decide_eq_true Z19
            obtain ⟨go32, oo32, co32, eo32, gb32, gl32, cl32, HG32⟩ := Kd.Q_form HO_3.out (by omega)
            (first | cases eo32 | (injection eo32 with ea_ en_ ec_; (first | subst ea_ | (injection ea_ with ea_; subst ea_)); subst ec_; clear en_))
            have GB32 := Aside0.mk gb32
            have GG32 := Aside0.mk HG32
            clear gb32 gl32 HG32
            obtain ⟨hx32_0, hf32_0⟩ := Kd.Q_cell 0 HO_3.out (x5_2 : Int) p32 q32
            replace p32 := eq_true p32
            replace q32 := eq_true q32
            have HP33 := Kd.Q_putg HO_3.out (x5_2 : Int) (of_decide_eq_true Z19) (by have h_ : (x5_2 : Int) < ((x3_2.length : Int) : Int) := of_decide_eq_true Z19; first | exact h_ | (have e_ := (Kd.Q_reads' HO_3.out).1; omega) | simpa using h_) 100000000
            go_wp2_with (first | ((with_reducible refine gate_store (t := 3) (p := 37) rfl ?_); refine store_event (t := 3) (p := 37) (v := ?vo_w34) (w1 := (wr.setCell ⟨go32, oo32 + (x5_2 : Int).toNat, none⟩ (.int .i64 100000000))) ?hg ?ho ?hn ?hr ?_; (case ho => rfl); (case hg => rfl); (case hn => rfl); (case hr => first | (go_simp; done) | (go_simp; rfl)); intro w34 hw; have hg : wr.grownBy w34 (some go32) := (by rw [hw]; exact HP33.2); have hp_ : Kd.Q (Kd.int .i64) 3 w34 w.heap.size (fun _ => True) (.slice (some ⟨go32, oo32, none⟩) x3_2.length co32) y903 := (by rw [hw, Ny903.out]; exact HP33.1); clear HP33; replace HI0 := Aside0.mk (IsS77.grown Z4 hg (IsS77.own_neQ HI0.out HO_3.out (by decide))); replace HB := Aside0.mk ((by rw [hw]; exact below_set (HB.out) (Nat.le_trans HL.out GB32.out) : Below w0.heap.size w0 w34)); replace HK := Aside0.mk (KeepBut.trans Z7 (KeepBut.of_grown hg g) (Kd.Q_base2 HO_3.out)); replace HO_3 := Aside0.mk (hp_); clear hg hw hp_))
            go_roundg k2
            case measure => have := HK1.out; have := HK2.out; omega
            case rel => exact ⟨(y903), (wrap64 (x5_2 + 1)), Z20, H', ⟨by have := HK1.out; have := HK2.out; omega⟩, ⟨Z54⟩, ⟨Z4⟩, ⟨Z7⟩, ⟨Z10⟩⟩
           ·rw [if_neg c31] at H
            exact absurd H (by simp)
          ·rw [if_neg c30] at H
           exact absurd H (by simp)
         ·rw [if_neg c29] at H
          have c29b0 : decide (x5_2 < 6) = false := decide_eq_false c29
          clear c29
          simp only [Option.some.injEq, Prod.mk.injEq] at H
          obtain ⟨rfl, rfl, rfl⟩ := H
          go_wp2
          go_ret
          exact ⟨_, Z11, Z54, Z4, Z10, Z7⟩
      ·rw [if_neg c27] at H
       have c27b0 : (t893 == 2) = false := beq_eq_false_iff_ne.mpr c27
       have c27b1 : (t893 != 2) = true := bne_iff_ne.mpr c27
       simp only [Option.some.injEq, Prod.mk.injEq] at H
       obtain ⟨rfl, rfl, rfl⟩ := H
       go_wp2_with (first | ((with_reducible refine gate_callee (f := 83) rfl ?_); refine glE (some 18) Try.func83 #[.pointer (some ⟨g, 0, none⟩), .int .i64 24] ?_; (with_reducible refine (spec_l1Cur_pick.calls g s0_0 x1001_1 x1002_1 24 t893 t894 t895 w0 _ ?side1 ?side2 A12.out).mono ?_); (case side1 => exact Z4); (case side2 => exact Z10); rintro e w35 ⟨rfl, hi, hb, hk⟩; refine ⟨_, rfl, ?_⟩; replace HO_3 := Aside0.mk (Kd.Q_mono (Kd.Q_keep (IsS77.apartQ (show IsS77 w0 _ g s0_0 x1001_1 x1002_1 from Z4) Z54 (by decide)) hk (fun _ h => h.2)) (fun _ h => h.1)); replace HK := Aside0.mk (KeepBut.trans Z7 hk (.inl rfl)); replace HB := Aside0.mk (hb); replace HI0 := Aside0.mk (hi); (try clear hb); (try clear hk); (try clear hi)))
       go_ret
       exact ⟨_, Z11, Z54, Z4, Z10, Z7⟩
def spec_DrawShortColors.f (k : Nat) (l0 : List Int) : Option (Int × Int × List Int × Int × Int × Int × Int × List Int) := (spec_l1Cur_chart.f k l0 0 0).bind fun bt907 => ((spec_l1Cur_yarn.f l0 bt907.2.2.2.1 bt907.2.2.2.2).bind fun bt914 => ((spec_l1Cur_stock10.f k l0 bt914.2.2.2.2.1 bt914.2.2.2.2.2).bind fun bt920 => (some (bt907.1, bt907.2.1, bt907.2.2.1, bt914.1, bt914.2.1, bt914.2.2.1, bt914.2.2.2.1, bt920.1))))
theorem spec_DrawShortColors.calls (k : Nat) (A0 : Option Addr) (c0 : Nat) (l0 : List Int) (r1 : Int) (r2 : Int) (r3 : List Int) (r4 : Int) (r5 : Int) (r6 : Int) (r7 : Int) (r8 : List Int) (w : World) (hr0 : Kd.C (Kd.int .u8) w A0 l0.length l0) (hc0 : l0.length ≤ c0) (h : spec_DrawShortColors.f k l0 = some (r1, r2, r3, r4, r5, r6, r7, r8)) :
  Calls Try.prog 71 #[.slice A0 l0.length c0] w fun e w' => ∃ v2_ v7_ : Value, e = .returned (.tuple #[.agg #[.int .i64 r1, .int .i64 r2, v2_], .agg #[.int .i64 r4, .int .i64 r5, .int .i64 r6, .int .i64 r7], v7_]) ∧ Kd.R (Kd.int .i64) 3 w' w.heap.size (fun k_ => some k_ ≠ (v7_ : Value).ownBlock) v2_ r3 ∧ Kd.Q (Kd.int .i64) 3 w' w.heap.size (fun k_ => some k_ ≠ (v2_ : Value).ownBlock) v7_ r8 ∧ Below w.heap.size w w' := by
 have hu30 := Try.underlying30
 have hu32 := Try.underlying32
 have hu77 := Try.underlying77
 have HR0 := Aside0.mk hr0
 have HC0 := Aside0.mk hc0
 clear hr0 hc0
 have HB := Aside0.mk (Below.refl w.heap.size w)
 have H : ((spec_l1Cur_chart.f k l0 0 0).bind fun bt907 => ((spec_l1Cur_yarn.f l0 bt907.2.2.2.1 bt907.2.2.2.2).bind fun bt914 => ((spec_l1Cur_stock10.f k l0 bt914.2.2.2.2.1 bt914.2.2.2.2.2).bind fun bt920 => (some (bt907.1, bt907.2.1, bt907.2.2.1, bt914.1, bt914.2.1, bt914.2.2.1, bt914.2.2.2.1, bt920.1))))) = some (r1, r2, r3, r4, r5, r6, r7, r8) := h
 clear h
 replace H := Option.bind_eq_some_iff.mp H
 obtain ⟨⟨t907, t908, t909, t912, t913⟩, A20, H⟩ := H
 replace H : ((spec_l1Cur_yarn.f l0 t912 t913).bind fun bt914 => ((spec_l1Cur_stock10.f k l0 bt914.2.2.2.2.1 bt914.2.2.2.2.2).bind fun bt920 => (some (t907, t908, t909, bt914.1, bt914.2.1, bt914.2.2.1, bt914.2.2.2.1, bt920.1)))) = some (r1, r2, r3, r4, r5, r6, r7, r8) := H
 have A2 := Aside0.mk A20
 clear A20
 replace H := Option.bind_eq_some_iff.mp H
 obtain ⟨⟨t914, t915, t916, t917, t918, t919⟩, A30, H⟩ := H
 replace H : ((spec_l1Cur_stock10.f k l0 t918 t919).bind fun bt920 => (some (t907, t908, t909, t914, t915, t916, t917, bt920.1))) = some (r1, r2, r3, r4, r5, r6, r7, r8) := H
 have A3 := Aside0.mk A30
 clear A30
 replace H := Option.bind_eq_some_iff.mp H
 obtain ⟨⟨t920, t923, t924⟩, A40, H⟩ := H
 replace H : (some (t907, t908, t909, t914, t915, t916, t917, t920)) = some (r1, r2, r3, r4, r5, r6, r7, r8) := H
 have A4 := Aside0.mk A40
 clear A40
 simp only [Option.some.injEq, Prod.mk.injEq] at H
 obtain ⟨rfl, rfl, rfl, rfl, rfl, rfl, rfl, rfl⟩ := H
 go_enter Try.func71, Try.ntmps71
 go_wp2_with (first | ((with_reducible refine gate_dst (N := 2) rfl ?_); refine bxE 2 #[.int .i64 0, .int .i64 0, .slice none 0 0] 30 ?_; intro gb904 hg w5 hbox hb; have BK904 := Aside0.mk (hbox); have GW904 := gwS hg Z1; have GE904 := gwS hg Z1; replace HB := hbS Z1 hb; clear hb hbox hg) | ((with_reducible refine gate_dst (N := 3) rfl ?_); refine bxE 3 #[.int .i64 0, .int .i64 0, .int .i64 0, .int .i64 0] 32 ?_; intro gb905 hg w6 hbox hb; have BK905 := Aside0.mk (hbox); have GW905 := gwS hg Z114; have GE905 := gwS hg Z114; replace HB := hbS Z114 hb; have NB904_905 := nbL hg BK904; have NB905_904 := nbG hg BK904; replace BK904 := bkB BK904 hb; clear hb hbox hg) | ((with_reducible refine gate_dst (N := 8) rfl ?_); refine bxE 8 #[.slice A0 l0.length c0, .int .i64 0, .int .u64 0] 77 ?_; intro gb906 hg w7 hbox hb; have NB904_906 := nbL hg BK904; have NB906_904 := nbG hg BK904; replace BK904 := bkB BK904 hb; have NB905_906 := nbL hg BK905; have NB906_905 := nbG hg BK905; replace BK905 := bkB BK905 hb; have HI906 := Aside0.mk ((⟨A0, c0, hbox, (by rw [hg]; exact (below_size Z127) : w.heap.size ≤ gb906), HR0.out⟩ : IsS77 w _ gb906 l0 0 0)); replace HB := hbS Z127 hb; clear hb hbox hg) | ((with_reducible refine gate_callee (f := 73) rfl ?_); refine glE (some 10) Try.func73 #[.pointer (some ⟨gb906, 0, none⟩)] ?_; (with_reducible refine (spec_l1Cur_chart.calls k gb906 l0 0 0 t907 t908 t909 t912 t913 w _ ?side1 ?side2 A2.out).mono ?_); (case side1 => exact Z56); (case side2 => exact Z51); rintro e w8 ⟨v910, rfl, ho0, hi, hb, hk⟩; refine ⟨_, rfl, ?_⟩; replace BK904 := Aside0.mk (KeepBut.blk hk (g' := gb904) (o := .cells #[.int .i64 0, .int .i64 0, .slice none 0 0] 30 (0, 0)) Z135 NB904_906.out (by simp)); replace BK905 := Aside0.mk (KeepBut.blk hk (g' := gb905) (o := .cells #[.int .i64 0, .int .i64 0, .int .i64 0, .int .i64 0] 32 (0, 0)) Z136 NB905_906.out (by simp)); have HO911 := Aside0.mk (Kd.R_lower ho0 (below_size Z51)); replace HB := Aside0.mk (hb); replace HI906 := Aside0.mk (hi); (try clear hb); (try clear hk); (try clear hi); (try clear ho0)) | ((with_reducible refine gate_callee (f := 64) rfl ?_); refine glE (some 12) Try.func64 #[.pointer (some ⟨gb906, 0, none⟩)] ?_; (with_reducible refine (spec_l1Cur_yarn.calls gb906 l0 t912 t913 t914 t915 t916 t917 t918 t919 w _ ?side1 ?side2 A3.out).mono ?_); (case side1 => exact Z56); (case side2 => exact Z51); rintro e w9 ⟨rfl, hi, hb, hk⟩; refine ⟨_, rfl, ?_⟩; replace BK904 := Aside0.mk (KeepBut.blk hk (g' := gb904) (o := .cells #[.int .i64 0, .int .i64 0, .slice none 0 0] 30 (0, 0)) Z135 NB904_906.out (by simp)); replace BK905 := Aside0.mk (KeepBut.blk hk (g' := gb905) (o := .cells #[.int .i64 0, .int .i64 0, .int .i64 0, .int .i64 0] 32 (0, 0)) Z136 NB905_906.out (by simp)); replace HO911 := Aside0.mk (Kd.R_mono (Kd.R_keep (IsS77.apart (show IsS77 w _ gb906 l0 t912 t913 from Z56) Z145 (by decide)) hk (fun _ h => h.2)) (fun _ h => h.1)); replace HB := Aside0.mk (hb); replace HI906 := Aside0.mk (hi); (try clear hb); (try clear hk); (try clear hi)) | ((with_reducible refine gate_callee (f := 84) rfl ?_); refine glE (some 14) Try.func84 #[.pointer (some ⟨gb906, 0, none⟩)] ?_; (with_reducible refine (spec_l1Cur_stock10.calls k gb906 l0 t918 t919 t920 t923 t924 w _ ?side1 ?side2 A4.out).mono ?_); (case side1 => exact Z56); (case side2 => exact Z51); rintro e w10 ⟨v921, rfl, ho0, hi, hb, hk⟩; refine ⟨_, rfl, ?_⟩; replace BK904 := Aside0.mk (KeepBut.blk hk (g' := gb904) (o := .cells #[.int .i64 0, .int .i64 0, .slice none 0 0] 30 (0, 0)) Z135 NB904_906.out (by simp)); replace BK905 := Aside0.mk (KeepBut.blk hk (g' := gb905) (o := .cells #[.int .i64 0, .int .i64 0, .int .i64 0, .int .i64 0] 32 (0, 0)) Z136 NB905_906.out (by simp)); have HO922 := Aside0.mk (Kd.Q_lower (Kd.Q_new' ho0 (Kd.R_lt Z145)) (below_size Z51)); replace HO911 := Aside0.mk (Kd.R_mono (Kd.R_told (Kd.R_oldK (IsS77.apart (show IsS77 w _ gb906 l0 t918 t919 from Z56) Z145 (by decide)) hk) (Kd.Q_base ho0)) (fun _ h_ => h_.1)); replace HB := Aside0.mk (hb); replace HI906 := Aside0.mk (hi); (try clear hb); (try clear hk); (try clear hi); (try clear ho0); have hnb11 := NB904_905.out; have hnc11 := NB905_904.out; have hnb12 := NB904_906.out; have hnc12 := NB906_904.out; obtain ⟨hcz13_0, hcz13_1, hcz13_2⟩ := bz3 BK904; obtain ⟨hfz13_0, hfz13_1, hfz13_2⟩ := fz3 BK904; obtain ⟨Ao14, co14, eo14⟩ := Kd.R_slice HO911.out; subst eo14; have hnb15 := NB905_906.out; have hnc15 := NB906_905.out; obtain ⟨hcz16_0, hcz16_1, hcz16_2, hcz16_3⟩ := bz4 BK905; obtain ⟨hfz16_0, hfz16_1, hfz16_2, hfz16_3⟩ := fz4 BK905))
 refine bodyPost_ret (results_list (rs := [.cell 2 30, .cell 3 32, .tmp 4]) rfl (by simp) (.cell gb904 30 #[.int .i64 t907, .int .i64 t908, .slice Ao14 t909.length co14] (0, 0) _ rfl (by (with_reducible repeat (first | refine blk_drewN ?_ _ | refine blk_drew ?_ | refine blk_alloc ?_ _)); refine blk_far ?_ NB904_905.out _; (with_reducible repeat (first | refine blk_drewN ?_ _ | refine blk_drew ?_ | refine blk_alloc ?_ _)); refine blk_far ?_ NB904_905.out _; (with_reducible repeat (first | refine blk_drewN ?_ _ | refine blk_drew ?_ | refine blk_alloc ?_ _)); refine blk_far ?_ NB904_905.out _; (with_reducible repeat (first | refine blk_drewN ?_ _ | refine blk_drew ?_ | refine blk_alloc ?_ _)); refine blk_far ?_ NB904_905.out _; (with_reducible repeat (first | refine blk_drewN ?_ _ | refine blk_drew ?_ | refine blk_alloc ?_ _)); refine blk_put (cs := #[.int .i64 t907, .int .i64 t908, .slice none 0 0]) ?_ 2 _ rfl; (with_reducible repeat (first | refine blk_drewN ?_ _ | refine blk_drew ?_ | refine blk_alloc ?_ _)); refine blk_put (cs := #[.int .i64 t907, .int .i64 0, .slice none 0 0]) ?_ 1 _ rfl; (with_reducible repeat (first | refine blk_drewN ?_ _ | refine blk_drew ?_ | refine blk_alloc ?_ _)); refine blk_put (cs := #[.int .i64 0, .int .i64 0, .slice none 0 0]) ?_ 0 _ rfl; (with_reducible repeat (first | refine blk_drewN ?_ _ | refine blk_drew ?_ | refine blk_alloc ?_ _)); exact BK904.out) Try.underlying30 rfl Z58 (.cell gb905 32 #[.int .i64 t914, .int .i64 t915, .int .i64 t916, .int .i64 t917] (0, 0) _ rfl (by (with_reducible repeat (first | refine blk_drewN ?_ _ | refine blk_drew ?_ | refine blk_alloc ?_ _)); refine blk_put (cs := #[.int .i64 t914, .int .i64 t915, .int .i64 t916, .int .i64 0]) ?_ 3 _ rfl; (with_reducible repeat (first | refine blk_drewN ?_ _ | refine blk_drew ?_ | refine blk_alloc ?_ _)); refine blk_put (cs := #[.int .i64 t914, .int .i64 t915, .int .i64 0, .int .i64 0]) ?_ 2 _ rfl; (with_reducible repeat (first | refine blk_drewN ?_ _ | refine blk_drew ?_ | refine blk_alloc ?_ _)); refine blk_put (cs := #[.int .i64 t914, .int .i64 0, .int .i64 0, .int .i64 0]) ?_ 1 _ rfl; (with_reducible repeat (first | refine blk_drewN ?_ _ | refine blk_drew ?_ | refine blk_alloc ?_ _)); refine blk_put (cs := #[.int .i64 0, .int .i64 0, .int .i64 0, .int .i64 0]) ?_ 0 _ rfl; (with_reducible repeat (first | refine blk_drewN ?_ _ | refine blk_drew ?_ | refine blk_alloc ?_ _)); refine blk_far ?_ NB905_904.out _; (with_reducible repeat (first | refine blk_drewN ?_ _ | refine blk_drew ?_ | refine blk_alloc ?_ _)); refine blk_far ?_ NB905_904.out _; (with_reducible repeat (first | refine blk_drewN ?_ _ | refine blk_drew ?_ | refine blk_alloc ?_ _)); refine blk_far ?_ NB905_904.out _; (with_reducible repeat (first | refine blk_drewN ?_ _ | refine blk_drew ?_ | refine blk_alloc ?_ _)); exact BK905.out) Try.underlying32 rfl Z58 (.tmp .nil)))) rfl ?_
 exact ⟨_, _, Z11, by (with_reducible repeat (first | apply Kd.R_alloc | apply Kd.R_drewN | apply Kd.R_drew)); exact Kd.R_mono (Kd.R_far (p := ⟨gb905, 3, none⟩) (Kd.R_far (p := ⟨gb905, 2, none⟩) (Kd.R_far (p := ⟨gb905, 1, none⟩) (Kd.R_far (p := ⟨gb905, 0, none⟩) (Kd.R_far (p := ⟨gb904, 2, none⟩) (Kd.R_far (p := ⟨gb904, 1, none⟩) (Kd.R_far (p := ⟨gb904, 0, none⟩) (Kd.R_types (Kd.R_types HO911.out BK904.out (by decide)) BK905.out (by decide)) (fun _ hk => hk.1.2) (.int .i64 t907)) (fun _ hk => hk.1.2) (.int .i64 t908)) (fun _ hk => hk.1.2) (.slice Ao14 t909.length co14)) (fun _ hk => hk.2) (.int .i64 t914)) (fun _ hk => hk.2) (.int .i64 t915)) (fun _ hk => hk.2) (.int .i64 t916)) (fun _ hk => hk.2) (.int .i64 t917)) (fun _ hk => hk.1.1.2), by (with_reducible repeat (first | apply Kd.Q_alloc | apply Kd.Q_drewN | apply Kd.Q_drew)); exact Kd.Q_mono (Kd.Q_far (p := ⟨gb905, 3, none⟩) (Kd.Q_far (p := ⟨gb905, 2, none⟩) (Kd.Q_far (p := ⟨gb905, 1, none⟩) (Kd.Q_far (p := ⟨gb905, 0, none⟩) (Kd.Q_far (p := ⟨gb904, 2, none⟩) (Kd.Q_far (p := ⟨gb904, 1, none⟩) (Kd.Q_far (p := ⟨gb904, 0, none⟩) (Kd.Q_types (Kd.Q_types HO922.out BK904.out (by decide)) BK905.out (by decide)) (fun _ hk => hk.1.2) (.int .i64 t907)) (fun _ hk => hk.1.2) (.int .i64 t908)) (fun _ hk => hk.1.2) (.slice Ao14 t909.length co14)) (fun _ hk => hk.2) (.int .i64 t914)) (fun _ hk => hk.2) (.int .i64 t915)) (fun _ hk => hk.2) (.int .i64 t916)) (fun _ hk => hk.2) (.int .i64 t917)) (fun _ hk => hk.1.1.2), Z51⟩
def spec_DrawCarpetsFrom.f (k : Nat) (l0 : List Int) : Option (Int × Int × List Int × Int × Int × Int × Int × List Int) := (spec_DrawShortColors.f k l0).bind fun bt927 => (some (bt927.1, bt927.2.1, bt927.2.2.1, bt927.2.2.2.1, bt927.2.2.2.2.1, bt927.2.2.2.2.2.1, bt927.2.2.2.2.2.2.1, bt927.2.2.2.2.2.2.2))
theorem spec_DrawCarpetsFrom.calls (k : Nat) (A0 : Option Addr) (c0 : Nat) (l0 : List Int) (r1 : Int) (r2 : Int) (r3 : List Int) (r4 : Int) (r5 : Int) (r6 : Int) (r7 : Int) (r8 : List Int) (w : World) (hr0 : Kd.C (Kd.int .u8) w A0 l0.length l0) (hc0 : l0.length ≤ c0) (h : spec_DrawCarpetsFrom.f k l0 = some (r1, r2, r3, r4, r5, r6, r7, r8)) :
  Calls Try.prog 43 #[.slice A0 l0.length c0] w fun e w' => ∃ v2_ v7_ : Value, e = .returned (.tuple #[.agg #[.int .i64 r1, .int .i64 r2, v2_], .agg #[.int .i64 r4, .int .i64 r5, .int .i64 r6, .int .i64 r7], v7_]) ∧ Kd.R (Kd.int .i64) 3 w' w.heap.size (fun k_ => some k_ ≠ (v7_ : Value).ownBlock) v2_ r3 ∧ Kd.Q (Kd.int .i64) 3 w' w.heap.size (fun k_ => some k_ ≠ (v2_ : Value).ownBlock) v7_ r8 ∧ Below w.heap.size w w' := by
 have hu30 := Try.underlying30
 have hu32 := Try.underlying32
 have HR0 := Aside0.mk hr0
 have HC0 := Aside0.mk hc0
 clear hr0 hc0
 have HB := Aside0.mk (Below.refl w.heap.size w)
 have H : ((spec_DrawShortColors.f k l0).bind fun bt927 => (some (bt927.1, bt927.2.1, bt927.2.2.1, bt927.2.2.2.1, bt927.2.2.2.2.1, bt927.2.2.2.2.2.1, bt927.2.2.2.2.2.2.1, bt927.2.2.2.2.2.2.2))) = some (r1, r2, r3, r4, r5, r6, r7, r8) := h
 clear h
 replace H := Option.bind_eq_some_iff.mp H
 obtain ⟨⟨t927, t928, t929, t932, t933, t934, t935, t936⟩, A20, H⟩ := H
 replace H : (some (t927, t928, t929, t932, t933, t934, t935, t936)) = some (r1, r2, r3, r4, r5, r6, r7, r8) := H
 have A2 := Aside0.mk A20
 clear A20
 simp only [Option.some.injEq, Prod.mk.injEq] at H
 obtain ⟨rfl, rfl, rfl, rfl, rfl, rfl, rfl, rfl⟩ := H
 go_enter Try.func43, Try.ntmps43
 go_wp2_with (first | ((with_reducible refine gate_dst (N := 2) rfl ?_); refine bxE 2 #[.int .i64 0, .int .i64 0, .slice none 0 0] 30 ?_; intro gb925 hg w3 hbox hb; have BK925 := Aside0.mk (hbox); have GW925 := gwS hg Z1; have GE925 := gwS hg Z1; replace HB := hbS Z1 hb; clear hb hbox hg) | ((with_reducible refine gate_dst (N := 3) rfl ?_); refine bxE 3 #[.int .i64 0, .int .i64 0, .int .i64 0, .int .i64 0] 32 ?_; intro gb926 hg w4 hbox hb; have BK926 := Aside0.mk (hbox); have GW926 := gwS hg Z115; have GE926 := gwS hg Z115; replace HB := hbS Z115 hb; have NB925_926 := nbL hg BK925; have NB926_925 := nbG hg BK925; replace BK925 := bkB BK925 hb; clear hb hbox hg) | ((with_reducible refine gate_callee (f := 71) rfl ?_); refine glE (some 6) Try.func71 #[.slice A0 l0.length c0] ?_; (with_reducible refine (spec_DrawShortColors.calls k _ _ l0 t927 t928 t929 t932 t933 t934 t935 t936 _ ?side1 ?side2 A2.out).mono ?_); (case side1 => exact Z76); (case side2 => exact HC0.out); rintro e w5 ⟨v930, v937, rfl, ho0, ho1, hb⟩; refine ⟨_, rfl, ?_⟩; have HO931 := Aside0.mk (Kd.R_lower ho0 (below_size Z85)); have HO938 := Aside0.mk (Kd.Q_lower ho1 (below_size Z85)); replace BK925 := bkB BK925 hb; replace BK926 := bkB BK926 hb; replace HB := hbS Z85 hb; (try clear hb); (try clear ho0); (try clear ho1); have hnb6 := NB925_926.out; have hnc6 := NB926_925.out; obtain ⟨hcz7_0, hcz7_1, hcz7_2⟩ := bz3 BK925; obtain ⟨hfz7_0, hfz7_1, hfz7_2⟩ := fz3 BK925; obtain ⟨Ao8, co8, eo8⟩ := Kd.R_slice HO931.out; subst eo8; obtain ⟨hcz9_0, hcz9_1, hcz9_2, hcz9_3⟩ := bz4 BK926; obtain ⟨hfz9_0, hfz9_1, hfz9_2, hfz9_3⟩ := fz4 BK926))
 refine bodyPost_ret (results_list (rs := [.cell 2 30, .cell 3 32, .tmp 4]) rfl (by simp) (.cell gb925 30 #[.int .i64 t927, .int .i64 t928, .slice Ao8 t929.length co8] (0, 0) _ rfl (by (with_reducible repeat (first | refine blk_drewN ?_ _ | refine blk_drew ?_ | refine blk_alloc ?_ _)); refine blk_far ?_ NB925_926.out _; (with_reducible repeat (first | refine blk_drewN ?_ _ | refine blk_drew ?_ | refine blk_alloc ?_ _)); refine blk_far ?_ NB925_926.out _; (with_reducible repeat (first | refine blk_drewN ?_ _ | refine blk_drew ?_ | refine blk_alloc ?_ _)); refine blk_far ?_ NB925_926.out _; (with_reducible repeat (first | refine blk_drewN ?_ _ | refine blk_drew ?_ | refine blk_alloc ?_ _)); refine blk_far ?_ NB925_926.out _; (with_reducible repeat (first | refine blk_drewN ?_ _ | refine blk_drew ?_ | refine blk_alloc ?_ _)); refine blk_put (cs := #[.int .i64 t927, .int .i64 t928, .slice none 0 0]) ?_ 2 _ rfl; (with_reducible repeat (first | refine blk_drewN ?_ _ | refine blk_drew ?_ | refine blk_alloc ?_ _)); refine blk_put (cs := #[.int .i64 t927, .int .i64 0, .slice none 0 0]) ?_ 1 _ rfl; (with_reducible repeat (first | refine blk_drewN ?_ _ | refine blk_drew ?_ | refine blk_alloc ?_ _)); refine blk_put (cs := #[.int .i64 0, .int .i64 0, .slice none 0 0]) ?_ 0 _ rfl; (with_reducible repeat (first | refine blk_drewN ?_ _ | refine blk_drew ?_ | refine blk_alloc ?_ _)); exact BK925.out) Try.underlying30 rfl Z58 (.cell gb926 32 #[.int .i64 t932, .int .i64 t933, .int .i64 t934, .int .i64 t935] (0, 0) _ rfl (by (with_reducible repeat (first | refine blk_drewN ?_ _ | refine blk_drew ?_ | refine blk_alloc ?_ _)); refine blk_put (cs := #[.int .i64 t932, .int .i64 t933, .int .i64 t934, .int .i64 0]) ?_ 3 _ rfl; (with_reducible repeat (first | refine blk_drewN ?_ _ | refine blk_drew ?_ | refine blk_alloc ?_ _)); refine blk_put (cs := #[.int .i64 t932, .int .i64 t933, .int .i64 0, .int .i64 0]) ?_ 2 _ rfl; (with_reducible repeat (first | refine blk_drewN ?_ _ | refine blk_drew ?_ | refine blk_alloc ?_ _)); refine blk_put (cs := #[.int .i64 t932, .int .i64 0, .int .i64 0, .int .i64 0]) ?_ 1 _ rfl; (with_reducible repeat (first | refine blk_drewN ?_ _ | refine blk_drew ?_ | refine blk_alloc ?_ _)); refine blk_put (cs := #[.int .i64 0, .int .i64 0, .int .i64 0, .int .i64 0]) ?_ 0 _ rfl; (with_reducible repeat (first | refine blk_drewN ?_ _ | refine blk_drew ?_ | refine blk_alloc ?_ _)); refine blk_far ?_ NB926_925.out _; (with_reducible repeat (first | refine blk_drewN ?_ _ | refine blk_drew ?_ | refine blk_alloc ?_ _)); refine blk_far ?_ NB926_925.out _; (with_reducible repeat (first | refine blk_drewN ?_ _ | refine blk_drew ?_ | refine blk_alloc ?_ _)); refine blk_far ?_ NB926_925.out _; (with_reducible repeat (first | refine blk_drewN ?_ _ | refine blk_drew ?_ | refine blk_alloc ?_ _)); exact BK926.out) Try.underlying32 rfl Z58 (.tmp .nil)))) rfl ?_
 exact ⟨_, _, Z11, by (with_reducible repeat (first | apply Kd.R_alloc | apply Kd.R_drewN | apply Kd.R_drew)); exact Kd.R_mono (Kd.R_far (p := ⟨gb926, 3, none⟩) (Kd.R_far (p := ⟨gb926, 2, none⟩) (Kd.R_far (p := ⟨gb926, 1, none⟩) (Kd.R_far (p := ⟨gb926, 0, none⟩) (Kd.R_far (p := ⟨gb925, 2, none⟩) (Kd.R_far (p := ⟨gb925, 1, none⟩) (Kd.R_far (p := ⟨gb925, 0, none⟩) (Kd.R_types (Kd.R_types HO931.out BK925.out (by decide)) BK926.out (by decide)) (fun _ hk => hk.1.2) (.int .i64 t927)) (fun _ hk => hk.1.2) (.int .i64 t928)) (fun _ hk => hk.1.2) (.slice Ao8 t929.length co8)) (fun _ hk => hk.2) (.int .i64 t932)) (fun _ hk => hk.2) (.int .i64 t933)) (fun _ hk => hk.2) (.int .i64 t934)) (fun _ hk => hk.2) (.int .i64 t935)) (fun _ hk => hk.1.1), by (with_reducible repeat (first | apply Kd.Q_alloc | apply Kd.Q_drewN | apply Kd.Q_drew)); exact Kd.Q_mono (Kd.Q_far (p := ⟨gb926, 3, none⟩) (Kd.Q_far (p := ⟨gb926, 2, none⟩) (Kd.Q_far (p := ⟨gb926, 1, none⟩) (Kd.Q_far (p := ⟨gb926, 0, none⟩) (Kd.Q_far (p := ⟨gb925, 2, none⟩) (Kd.Q_far (p := ⟨gb925, 1, none⟩) (Kd.Q_far (p := ⟨gb925, 0, none⟩) (Kd.Q_types (Kd.Q_types HO938.out BK925.out (by decide)) BK926.out (by decide)) (fun _ hk => hk.1.2) (.int .i64 t927)) (fun _ hk => hk.1.2) (.int .i64 t928)) (fun _ hk => hk.1.2) (.slice Ao8 t929.length co8)) (fun _ hk => hk.2) (.int .i64 t932)) (fun _ hk => hk.2) (.int .i64 t933)) (fun _ hk => hk.2) (.int .i64 t934)) (fun _ hk => hk.2) (.int .i64 t935)) (fun _ hk => hk.1.1), Z85⟩
def spec_DrawIsChart.f (k : Nat) (l0 : List Int) : Option (Int × Int × List Int) := (spec_l1Cur_chart.f k l0 0 0).bind fun bt941 => (some (bt941.1, bt941.2.1, bt941.2.2.1))
theorem spec_DrawIsChart.calls (k : Nat) (A0 : Option Addr) (c0 : Nat) (l0 : List Int) (r1 : Int) (r2 : Int) (r3 : List Int) (w : World) (hr0 : Kd.C (Kd.int .u8) w A0 l0.length l0) (hc0 : l0.length ≤ c0) (h : spec_DrawIsChart.f k l0 = some (r1, r2, r3)) :
  Calls Try.prog 72 #[.slice A0 l0.length c0] w fun e w' => ∃ v2_ : Value, e = .returned (.agg #[.int .i64 r1, .int .i64 r2, v2_]) ∧ Kd.R (Kd.int .i64) 3 w' w.heap.size (fun _ => True) v2_ r3 ∧ Below w.heap.size w w' := by
 have hu30 := Try.underlying30
 have hu77 := Try.underlying77
 have HR0 := Aside0.mk hr0
 have HC0 := Aside0.mk hc0
 clear hr0 hc0
 have HB := Aside0.mk (Below.refl w.heap.size w)
 have H : ((spec_l1Cur_chart.f k l0 0 0).bind fun bt941 => (some (bt941.1, bt941.2.1, bt941.2.2.1))) = some (r1, r2, r3) := h
 clear h
 replace H := Option.bind_eq_some_iff.mp H
 obtain ⟨⟨t941, t942, t943, t946, t947⟩, A20, H⟩ := H
 replace H : (some (t941, t942, t943)) = some (r1, r2, r3) := H
 have A2 := Aside0.mk A20
 clear A20
 simp only [Option.some.injEq, Prod.mk.injEq] at H
 obtain ⟨rfl, rfl, rfl⟩ := H
 go_enter Try.func72, Try.ntmps72
 go_wp2_with (first | ((with_reducible refine gate_dst (N := 2) rfl ?_); refine bxE 2 #[.int .i64 0, .int .i64 0, .slice none 0 0] 30 ?_; intro gb939 hg w3 hbox hb; have BK939 := Aside0.mk (hbox); have GW939 := gwS hg Z1; have GE939 := gwS hg Z1; replace HB := hbS Z1 hb; clear hb hbox hg) | ((with_reducible refine gate_dst (N := 6) rfl ?_); refine bxE 6 #[.slice A0 l0.length c0, .int .i64 0, .int .u64 0] 77 ?_; intro gb940 hg w4 hbox hb; have NB939_940 := nbL hg BK939; have NB940_939 := nbG hg BK939; replace BK939 := bkB BK939 hb; have HI940 := Aside0.mk ((⟨A0, c0, hbox, (by rw [hg]; exact (below_size Z141) : w.heap.size ≤ gb940), HR0.out⟩ : IsS77 w _ gb940 l0 0 0)); replace HB := hbS Z141 hb; clear hb hbox hg) | ((with_reducible refine gate_callee (f := 73) rfl ?_); refine glE (some 8) Try.func73 #[.pointer (some ⟨gb940, 0, none⟩)] ?_; (with_reducible refine (spec_l1Cur_chart.calls k gb940 l0 0 0 t941 t942 t943 t946 t947 w _ ?side1 ?side2 A2.out).mono ?_); (case side1 => exact (by repeat (first | (with_reducible first | exact HI940.out | apply IsS77.alloc | apply IsS77.drewN | apply IsS77.drew | apply IsS77.set_1 | apply IsS77.set_2 | refine IsS77.far ?_ NB940_939.out _) | exact HI940.out))); (case side2 => exact Z96); rintro e w5 ⟨v944, rfl, ho0, hi, hb, hk⟩; refine ⟨_, rfl, ?_⟩; replace BK939 := Aside0.mk (KeepBut.blk hk (g' := gb939) (o := .cells #[.int .i64 0, .int .i64 0, .slice none 0 0] 30 (0, 0)) (by (with_reducible repeat (first | refine blk_drewN ?_ _ | refine blk_drew ?_ | refine blk_alloc ?_ _)); exact BK939.out) NB939_940.out (by simp)); have HO945 := Aside0.mk (Kd.R_lower ho0 (below_size Z96)); replace HB := Aside0.mk (hb); replace HI940 := Aside0.mk (hi); (try clear hb); (try clear hk); (try clear hi); (try clear ho0); have hnb6 := NB939_940.out; have hnc6 := NB940_939.out; obtain ⟨hcz7_0, hcz7_1, hcz7_2⟩ := bz3 BK939; obtain ⟨hfz7_0, hfz7_1, hfz7_2⟩ := fz3 BK939; obtain ⟨Ao8, co8, eo8⟩ := Kd.R_slice HO945.out; subst eo8))
 refine bodyPost_ret (results_cell_row rfl _ _ gb939 30 #[.int .i64 t941, .int .i64 t942, .slice Ao8 t943.length co8] (0, 0) _ rfl (by (with_reducible repeat (first | refine blk_drewN ?_ _ | refine blk_drew ?_ | refine blk_alloc ?_ _)); refine blk_put (cs := #[.int .i64 t941, .int .i64 t942, .slice none 0 0]) ?_ 2 _ rfl; (with_reducible repeat (first | refine blk_drewN ?_ _ | refine blk_drew ?_ | refine blk_alloc ?_ _)); refine blk_put (cs := #[.int .i64 t941, .int .i64 0, .slice none 0 0]) ?_ 1 _ rfl; (with_reducible repeat (first | refine blk_drewN ?_ _ | refine blk_drew ?_ | refine blk_alloc ?_ _)); refine blk_put (cs := #[.int .i64 0, .int .i64 0, .slice none 0 0]) ?_ 0 _ rfl; (with_reducible repeat (first | refine blk_drewN ?_ _ | refine blk_drew ?_ | refine blk_alloc ?_ _)); exact BK939.out) Try.underlying30 rfl Z58) rfl ?_
 exact ⟨_, Z11, by (with_reducible repeat (first | apply Kd.R_alloc | apply Kd.R_drewN | apply Kd.R_drew)); exact Kd.R_mono (Kd.R_far (p := ⟨gb939, 2, none⟩) (Kd.R_far (p := ⟨gb939, 1, none⟩) (Kd.R_far (p := ⟨gb939, 0, none⟩) (Kd.R_types HO945.out BK939.out (by decide)) (fun _ hk => hk.2) (.int .i64 t941)) (fun _ hk => hk.2) (.int .i64 t942)) (fun _ hk => hk.2) (.slice Ao8 t943.length co8)) (fun _ hk => trivial), Z96⟩
def spec_DrawHungriestColor.f (k : Nat) (l0 : List Int) : Option (Int × Int × List Int) := (spec_DrawIsChart.f k l0).bind fun bt949 => (some (bt949.1, bt949.2.1, bt949.2.2))
theorem spec_DrawHungriestColor.calls (k : Nat) (A0 : Option Addr) (c0 : Nat) (l0 : List Int) (r1 : Int) (r2 : Int) (r3 : List Int) (w : World) (hr0 : Kd.C (Kd.int .u8) w A0 l0.length l0) (hc0 : l0.length ≤ c0) (h : spec_DrawHungriestColor.f k l0 = some (r1, r2, r3)) :
  Calls Try.prog 44 #[.slice A0 l0.length c0] w fun e w' => ∃ v2_ : Value, e = .returned (.agg #[.int .i64 r1, .int .i64 r2, v2_]) ∧ Kd.R (Kd.int .i64) 3 w' w.heap.size (fun _ => True) v2_ r3 ∧ Below w.heap.size w w' := by
 have hu30 := Try.underlying30
 have HR0 := Aside0.mk hr0
 have HC0 := Aside0.mk hc0
 clear hr0 hc0
 have HB := Aside0.mk (Below.refl w.heap.size w)
 have H : ((spec_DrawIsChart.f k l0).bind fun bt949 => (some (bt949.1, bt949.2.1, bt949.2.2))) = some (r1, r2, r3) := h
 clear h
 replace H := Option.bind_eq_some_iff.mp H
 obtain ⟨⟨t949, t950, t951⟩, A20, H⟩ := H
 replace H : (some (t949, t950, t951)) = some (r1, r2, r3) := H
 have A2 := Aside0.mk A20
 clear A20
 simp only [Option.some.injEq, Prod.mk.injEq] at H
 obtain ⟨rfl, rfl, rfl⟩ := H
 go_enter Try.func44, Try.ntmps44
 go_wp2_with (first | ((with_reducible refine gate_dst (N := 2) rfl ?_); refine bxE 2 #[.int .i64 0, .int .i64 0, .slice none 0 0] 30 ?_; intro gb948 hg w3 hbox hb; have BK948 := Aside0.mk (hbox); have GW948 := gwS hg Z1; have GE948 := gwS hg Z1; replace HB := hbS Z1 hb; clear hb hbox hg) | ((with_reducible refine gate_callee (f := 72) rfl ?_); refine glE (some 4) Try.func72 #[.slice A0 l0.length c0] ?_; (with_reducible refine (spec_DrawIsChart.calls k _ _ l0 t949 t950 t951 _ ?side1 ?side2 A2.out).mono ?_); (case side1 => exact Z76); (case side2 => exact HC0.out); rintro e w4 ⟨v952, rfl, ho0, hb⟩; refine ⟨_, rfl, ?_⟩; have HO953 := Aside0.mk (Kd.R_lower ho0 (below_size Z116)); replace BK948 := bkB BK948 hb; replace HB := hbS Z116 hb; (try clear hb); (try clear ho0); obtain ⟨hcz5_0, hcz5_1, hcz5_2⟩ := bz3 BK948; obtain ⟨hfz5_0, hfz5_1, hfz5_2⟩ := fz3 BK948; obtain ⟨Ao6, co6, eo6⟩ := Kd.R_slice HO953.out; subst eo6))
 refine bodyPost_ret (results_cell_row rfl _ _ gb948 30 #[.int .i64 t949, .int .i64 t950, .slice Ao6 t951.length co6] (0, 0) _ rfl (by (with_reducible repeat (first | refine blk_drewN ?_ _ | refine blk_drew ?_ | refine blk_alloc ?_ _)); refine blk_put (cs := #[.int .i64 t949, .int .i64 t950, .slice none 0 0]) ?_ 2 _ rfl; (with_reducible repeat (first | refine blk_drewN ?_ _ | refine blk_drew ?_ | refine blk_alloc ?_ _)); refine blk_put (cs := #[.int .i64 t949, .int .i64 0, .slice none 0 0]) ?_ 1 _ rfl; (with_reducible repeat (first | refine blk_drewN ?_ _ | refine blk_drew ?_ | refine blk_alloc ?_ _)); refine blk_put (cs := #[.int .i64 0, .int .i64 0, .slice none 0 0]) ?_ 0 _ rfl; (with_reducible repeat (first | refine blk_drewN ?_ _ | refine blk_drew ?_ | refine blk_alloc ?_ _)); exact BK948.out) Try.underlying30 rfl Z58) rfl ?_
 exact ⟨_, Z11, by (with_reducible repeat (first | apply Kd.R_alloc | apply Kd.R_drewN | apply Kd.R_drew)); exact Kd.R_mono (Kd.R_far (p := ⟨gb948, 2, none⟩) (Kd.R_far (p := ⟨gb948, 1, none⟩) (Kd.R_far (p := ⟨gb948, 0, none⟩) (Kd.R_types HO953.out BK948.out (by decide)) (fun _ hk => hk.2) (.int .i64 t949)) (fun _ hk => hk.2) (.int .i64 t950)) (fun _ hk => hk.2) (.slice Ao6 t951.length co6)) (fun _ hk => trivial), Z116⟩
def spec_l1Cur_color.f (s0_0 : List Int) (s0_1 : Int) (s0_2 : Int) : Option (Int × Int × Int) := (spec_l1Cur_among.f s0_0 s0_1 s0_2 (([0, 0, 1, 1, 2, 3, 5, 6, (-1)] : List Int))).bind fun bt957 => (some (bt957.1, bt957.2.1, bt957.2.2))
theorem spec_l1Cur_color.calls (g : Nat) (s0_0 : List Int) (s0_1 : Int) (s0_2 : Int) (r1 : Int) (r2 : Int) (r3 : Int) (w0 w : World) (hI : IsS77 w0 w g s0_0 s0_1 s0_2) (hB : Below w0.heap.size w0 w) (h : spec_l1Cur_color.f s0_0 s0_1 s0_2 = some (r1, r2, r3)) :
  Calls Try.prog 74 #[.pointer (some ⟨g, 0, none⟩)] w fun e w' => e = .returned (.int .i64 r1) ∧ IsS77 w0 w' g s0_0 r2 r3 ∧ Below w0.heap.size w0 w' ∧ KeepBut w w' g none := by
 have HI0 := Aside0.mk hI
 have HK := Aside0.mk (KeepBut.refl w g none)
 have HL := Aside0.mk hB.size
 clear hI
 have HW0 := Aside0.mk hB.size
 have HB := Aside0.mk hB
 clear hB
 have H : ((spec_l1Cur_among.f s0_0 s0_1 s0_2 (([0, 0, 1, 1, 2, 3, 5, 6, (-1)] : List Int))).bind fun bt957 => (some (bt957.1, bt957.2.1, bt957.2.2))) = some (r1, r2, r3) := h
 clear h
 obtain ⟨y954, hy954⟩ : ∃ y_ : List Int, y_ = (([0, 0, 1, 1, 2, 3, 5, 6, (-1)] : List Int)) := ⟨_, rfl⟩
 replace H : ((spec_l1Cur_among.f s0_0 s0_1 s0_2 y954).bind fun bt957 => (some (bt957.1, bt957.2.1, bt957.2.2))) = some (r1, r2, r3) := by first | (rw [hy954]; with_reducible exact H) | (have H2_ := (Option.bind_some _ _).symm.trans H; rw [hy954]; with_reducible exact H2_) | (have H2_ := (Option.bind_some _ _).symm.trans H; with_reducible exact H2_) | with_reducible exact H | (rw [hy954]; exact H) | exact H
 have Ny954 := Aside0.mk hy954
 clear hy954
 replace H := Option.bind_eq_some_iff.mp H
 obtain ⟨⟨t957, t958, t959⟩, A20, H⟩ := H
 replace H : (some (t957, t958, t959)) = some (r1, r2, r3) := H
 have A2 := Aside0.mk A20
 clear A20
 simp only [Option.some.injEq, Prod.mk.injEq] at H
 obtain ⟨rfl, rfl, rfl⟩ := H
 go_enter Try.func74, Try.ntmps74
 go_wp2_with (first | ((with_reducible refine gate_dst (N := 4) rfl ?_); refine Kd.R_lit (Kd.int .i64) _ 3 ?hg (N := 4) ?hd (xs := ([0, 0, 1, 1, 2, 3, 5, 6, (-1)] : List Int)) (inner := [.int .i64 0, .int .i64 0, .int .i64 1, .int .i64 1, .int .i64 2, .int .i64 3, .int .i64 5, .int .i64 6, .int .i64 (-1)]) (ok := fun _ => True) (okp := fun _ => True) ?hr ?hp (fun _ hk => hk) trivial (Below.refl _ _) (Nat.le_refl _) (by simp) ?_; (case hd => rfl); (case hg => rfl); (case hr => first | (go_simp; done) | (go_simp; rfl)); (case hp => exact (Reps.one (show Kd.M (Kd.int .i64) _ _ _ 0 [.int .i64 0] from rfl) (Reps.one (show Kd.M (Kd.int .i64) _ _ _ 0 [.int .i64 0] from rfl) (Reps.one (show Kd.M (Kd.int .i64) _ _ _ 1 [.int .i64 1] from rfl) (Reps.one (show Kd.M (Kd.int .i64) _ _ _ 1 [.int .i64 1] from rfl) (Reps.one (show Kd.M (Kd.int .i64) _ _ _ 2 [.int .i64 2] from rfl) (Reps.one (show Kd.M (Kd.int .i64) _ _ _ 3 [.int .i64 3] from rfl) (Reps.one (show Kd.M (Kd.int .i64) _ _ _ 5 [.int .i64 5] from rfl) (Reps.one (show Kd.M (Kd.int .i64) _ _ _ 6 [.int .i64 6] from rfl) (Reps.one (show Kd.M (Kd.int .i64) _ _ _ (-1) [.int .i64 (-1)] from rfl) (Reps.none _ _))))))))))); intro v955 w3 ho4 hb hg_ hnew_; clear hg_ hnew_; (first | rw [← Ny954.out] at ho4 | (simp only [Int.reduceToNat] at ho4; rw [← Ny954.out] at ho4)); have HO956 := Aside0.mk (Kd.R_lower ho4 (keep_size (w := w) (g := g) (row := none) Z7)); replace HK := Aside0.mk (KeepBut.trans Z7 (KeepBut.of_below hb g none) (.inl rfl)); replace HB := Aside0.mk (below_step Z10 hb); replace HI0 := Aside0.mk (IsS77.below Z4 hb); clear hb ho4; obtain ⟨Ao5, co5, eo5⟩ := Kd.R_slice HO956.out; subst eo5) | ((with_reducible refine gate_callee (f := 65) rfl ?_); refine glE (some 5) Try.func65 #[.pointer (some ⟨g, 0, none⟩), .slice Ao5 y954.length co5] ?_; (with_reducible refine (spec_l1Cur_among.calls g s0_0 s0_1 s0_2 _ _ y954 t957 t958 t959 w0 _ ?side1 ?side2 ?side3 ?side4 ?side5 A2.out).mono ?_); (case side1 => exact Z4); (case side2 => exact Z10); (case side3 => exact (by repeat (first | exact (Kd.R_reads' HO956.out).2.2 | (with_reducible refine Kd.C_alloc ?_ _) | (with_reducible refine Kd.C_drewN ?_ _) | (with_reducible refine Kd.C_drew ?_)))); (case side4 => exact (Kd.R_reads' HO956.out).2.1); (case side5 => exact far_slice (IsS77.own_ne HI0.out HO956.out (by decide))); rintro e w6 ⟨rfl, hi, hb, hk⟩; refine ⟨_, rfl, ?_⟩; replace HO956 := Aside0.mk (Kd.R_mono (Kd.R_keep (IsS77.apart (show IsS77 w0 _ g s0_0 s0_1 s0_2 from Z4) (by (with_reducible repeat (first | apply Kd.R_alloc | apply Kd.R_drewN | apply Kd.R_drew)); exact HO956.out) (by decide)) hk (fun _ h => h.2)) (fun _ h => h.1)); replace HK := Aside0.mk (KeepBut.trans Z7 hk (.inl rfl)); replace HB := Aside0.mk (hb); replace HI0 := Aside0.mk (hi); (try clear hb); (try clear hk); (try clear hi)))
 go_ret
 exact ⟨Z11, Z4, Z10, Z7⟩
def spec_DrawColorShare.f (k : Nat) (l0 : List Int) : Option (Int × Int × List Int × Int) := (spec_l1Cur_chart.f k l0 0 0).bind fun bt962 => ((spec_l1Cur_color.f l0 bt962.2.2.2.1 bt962.2.2.2.2).bind fun bt969 => (some (bt962.1, bt962.2.1, bt962.2.2.1, bt969.1)))
theorem spec_DrawColorShare.calls (k : Nat) (A0 : Option Addr) (c0 : Nat) (l0 : List Int) (r1 : Int) (r2 : Int) (r3 : List Int) (r4 : Int) (w : World) (hr0 : Kd.C (Kd.int .u8) w A0 l0.length l0) (hc0 : l0.length ≤ c0) (h : spec_DrawColorShare.f k l0 = some (r1, r2, r3, r4)) :
  Calls Try.prog 45 #[.slice A0 l0.length c0] w fun e w' => ∃ v2_ : Value, e = .returned (.tuple #[.agg #[.int .i64 r1, .int .i64 r2, v2_], .int .i64 r4]) ∧ Kd.R (Kd.int .i64) 3 w' w.heap.size (fun _ => True) v2_ r3 ∧ Below w.heap.size w w' := by
 have hu30 := Try.underlying30
 have hu77 := Try.underlying77
 have HR0 := Aside0.mk hr0
 have HC0 := Aside0.mk hc0
 clear hr0 hc0
 have HB := Aside0.mk (Below.refl w.heap.size w)
 have H : ((spec_l1Cur_chart.f k l0 0 0).bind fun bt962 => ((spec_l1Cur_color.f l0 bt962.2.2.2.1 bt962.2.2.2.2).bind fun bt969 => (some (bt962.1, bt962.2.1, bt962.2.2.1, bt969.1)))) = some (r1, r2, r3, r4) := h
 clear h
 replace H := Option.bind_eq_some_iff.mp H
 obtain ⟨⟨t962, t963, t964, t967, t968⟩, A20, H⟩ := H
 replace H : ((spec_l1Cur_color.f l0 t967 t968).bind fun bt969 => (some (t962, t963, t964, bt969.1))) = some (r1, r2, r3, r4) := H
 have A2 := Aside0.mk A20
 clear A20
 replace H := Option.bind_eq_some_iff.mp H
 obtain ⟨⟨t969, t970, t971⟩, A30, H⟩ := H
 replace H : (some (t962, t963, t964, t969)) = some (r1, r2, r3, r4) := H
 have A3 := Aside0.mk A30
 clear A30
 simp only [Option.some.injEq, Prod.mk.injEq] at H
 obtain ⟨rfl, rfl, rfl, rfl⟩ := H
 go_enter Try.func45, Try.ntmps45
 go_wp2_with (first | ((with_reducible refine gate_dst (N := 2) rfl ?_); refine bxE 2 #[.int .i64 0, .int .i64 0, .slice none 0 0] 30 ?_; intro gb960 hg w4 hbox hb; have BK960 := Aside0.mk (hbox); have GW960 := gwS hg Z1; have GE960 := gwS hg Z1; replace HB := hbS Z1 hb; clear hb hbox hg) | ((with_reducible refine gate_dst (N := 7) rfl ?_); refine bxE 7 #[.slice A0 l0.length c0, .int .i64 0, .int .u64 0] 77 ?_; intro gb961 hg w5 hbox hb; have NB960_961 := nbL hg BK960; have NB961_960 := nbG hg BK960; replace BK960 := bkB BK960 hb; have HI961 := Aside0.mk ((⟨A0, c0, hbox, (by rw [hg]; exact (below_size Z142) : w.heap.size ≤ gb961), HR0.out⟩ : IsS77 w _ gb961 l0 0 0)); replace HB := hbS Z142 hb; clear hb hbox hg) | ((with_reducible refine gate_callee (f := 73) rfl ?_); refine glE (some 9) Try.func73 #[.pointer (some ⟨gb961, 0, none⟩)] ?_; (with_reducible refine (spec_l1Cur_chart.calls k gb961 l0 0 0 t962 t963 t964 t967 t968 w _ ?side1 ?side2 A2.out).mono ?_); (case side1 => exact Z94); (case side2 => exact Z77); rintro e w6 ⟨v965, rfl, ho0, hi, hb, hk⟩; refine ⟨_, rfl, ?_⟩; replace BK960 := Aside0.mk (KeepBut.blk hk (g' := gb960) (o := .cells #[.int .i64 0, .int .i64 0, .slice none 0 0] 30 (0, 0)) Z162 NB960_961.out (by simp)); have HO966 := Aside0.mk (Kd.R_lower ho0 (below_size Z77)); replace HB := Aside0.mk (hb); replace HI961 := Aside0.mk (hi); (try clear hb); (try clear hk); (try clear hi); (try clear ho0)) | ((with_reducible refine gate_callee (f := 74) rfl ?_); refine glE (some 11) Try.func74 #[.pointer (some ⟨gb961, 0, none⟩)] ?_; (with_reducible refine (spec_l1Cur_color.calls gb961 l0 t967 t968 t969 t970 t971 w _ ?side1 ?side2 A3.out).mono ?_); (case side1 => exact Z94); (case side2 => exact Z77); rintro e w7 ⟨rfl, hi, hb, hk⟩; refine ⟨_, rfl, ?_⟩; replace BK960 := Aside0.mk (KeepBut.blk hk (g' := gb960) (o := .cells #[.int .i64 0, .int .i64 0, .slice none 0 0] 30 (0, 0)) Z162 NB960_961.out (by simp)); replace HO966 := Aside0.mk (Kd.R_mono (Kd.R_keep (IsS77.apart (show IsS77 w _ gb961 l0 t967 t968 from Z94) (by (with_reducible repeat (first | apply Kd.R_alloc | apply Kd.R_drewN | apply Kd.R_drew)); exact HO966.out) (by decide)) hk (fun _ h => h.2)) (fun _ h => h.1)); replace HB := Aside0.mk (hb); replace HI961 := Aside0.mk (hi); (try clear hb); (try clear hk); (try clear hi); have hnb8 := NB960_961.out; have hnc8 := NB961_960.out; obtain ⟨hcz9_0, hcz9_1, hcz9_2⟩ := bz3 BK960; obtain ⟨hfz9_0, hfz9_1, hfz9_2⟩ := fz3 BK960; obtain ⟨Ao10, co10, eo10⟩ := Kd.R_slice HO966.out; subst eo10))
 refine bodyPost_ret (results_ct rfl _ _ gb960 30 #[.int .i64 t962, .int .i64 t963, .slice Ao10 t964.length co10] (0, 0) _ rfl (by (with_reducible repeat (first | refine blk_drewN ?_ _ | refine blk_drew ?_ | refine blk_alloc ?_ _)); refine blk_put (cs := #[.int .i64 t962, .int .i64 t963, .slice none 0 0]) ?_ 2 _ rfl; (with_reducible repeat (first | refine blk_drewN ?_ _ | refine blk_drew ?_ | refine blk_alloc ?_ _)); refine blk_put (cs := #[.int .i64 t962, .int .i64 0, .slice none 0 0]) ?_ 1 _ rfl; (with_reducible repeat (first | refine blk_drewN ?_ _ | refine blk_drew ?_ | refine blk_alloc ?_ _)); refine blk_put (cs := #[.int .i64 0, .int .i64 0, .slice none 0 0]) ?_ 0 _ rfl; (with_reducible repeat (first | refine blk_drewN ?_ _ | refine blk_drew ?_ | refine blk_alloc ?_ _)); exact BK960.out) Try.underlying30 rfl Z58) rfl ?_
 exact ⟨_, Z11, by (with_reducible repeat (first | apply Kd.R_alloc | apply Kd.R_drewN | apply Kd.R_drew)); exact Kd.R_mono (Kd.R_far (p := ⟨gb960, 2, none⟩) (Kd.R_far (p := ⟨gb960, 1, none⟩) (Kd.R_far (p := ⟨gb960, 0, none⟩) (Kd.R_types HO966.out BK960.out (by decide)) (fun _ hk => hk.2) (.int .i64 t962)) (fun _ hk => hk.2) (.int .i64 t963)) (fun _ hk => hk.2) (.slice Ao10 t964.length co10)) (fun _ hk => trivial), Z77⟩
mutual
def laws_FnStocks.j0 : Nat → List Int → List Int → Int → Bool → Bool → Int → Int → List Int → Int → Int → Int → Int → Option (Bool)
 | 0, _, _, _, _, _, _, _, _, _, _, _, _ => none
 | k + 1, x0, x5, x6, x7, x63, x986000, x986001, x986002, x987000, x987001, x987002, x987003 => if x63 = true then (none) else ((impl_ShortColors.f k x986000 x986001 x986002 x987000 x987001 x987002 x987003 x5).bind fun bt991 => ((spec_ShortColors.f k x986000 x986001 x986002 x987000 x987001 x987002 x987003 x5).bind fun bt995 => (if (bt991.2 != bt995.2) = true then (laws_FnStocks.j1 k x0 true) else (if (bt991.2 != x7) = true then (laws_FnStocks.j1 k x0 true) else ((laws_vInts.f k bt991.1 bt995.1).bind fun t999 => (if t999 = true then (if x7 = true then (laws_FnStocks.j1 k x0 ((decide (x6 > 0)) != ((bt991.1.length : Int) == 0))) else (laws_FnStocks.j1 k x0 false)) else (laws_FnStocks.j1 k x0 true)))))))
def laws_FnStocks.j1 : Nat → List Int → Bool → Option (Bool)
 | 0, _, _ => none
 | k + 1, x0, x102 => if x102 = true then (none) else ((spec_DrawHungriestColor.f k x0).bind fun bt1000 => ((impl_HungriestColor.f k bt1000.1 bt1000.2.1 bt1000.2.2).bind fun bt1006 => ((spec_HungriestColor.f k bt1000.1 bt1000.2.1 bt1000.2.2).bind fun bt1008 => (if bt1006.1 = bt1008.1 then (laws_FnStocks.j2 k x0 bt1006.1 bt1006.2 (bt1006.2 != bt1008.2) bt1000.1 bt1000.2.1 bt1000.2.2) else (laws_FnStocks.j2 k x0 bt1006.1 bt1006.2 true bt1000.1 bt1000.2.1 bt1000.2.2)))))
def laws_FnStocks.j2 : Nat → List Int → Int → Bool → Bool → Int → Int → List Int → Option (Bool)
 | 0, _, _, _, _, _, _, _ => none
 | k + 1, x0, x15, x16, x122, x1006000, x1006001, x1006002 => if x122 = true then (none) else (if x16 = true then ((impl_ColorShare.f k x1006000 x1006001 x1006002 x15).bind fun bt1010 => (laws_FnStocks.l0 k x0 bt1010.1 bt1010.2.1 bt1010.2.2 0 x1006000 x1006001 x1006002)) else ((spec_DrawColorShare.f k x0).bind fun bt1029 => ((impl_ColorShare.f k bt1029.1 bt1029.2.1 bt1029.2.2.1 bt1029.2.2.2).bind fun bt1036 => ((spec_ColorShare.f k bt1029.1 bt1029.2.1 bt1029.2.2.1 bt1029.2.2.2).bind fun bt1039 => (if bt1036.1 = bt1039.1 then (if bt1036.2.1 = bt1039.2.1 then (some (bt1036.2.2 == bt1039.2.2)) else (none)) else (none))))))
def laws_FnStocks.l0 : Nat → List Int → Int → Int → Bool → Int → Int → Int → List Int → Option (Bool)
 | 0, _, _, _, _, _, _, _, _ => none
 | k + 1, x0, x19, x20, x21, x22, x1006000, x1006001, x1006002 => if x22 < 6 then (laws_FnStocks.j4 k x0 x19 x20 x21 x22 x21 x1006000 x1006001 x1006002) else (laws_FnStocks.j4 k x0 x19 x20 x21 x22 false x1006000 x1006001 x1006002)
def laws_FnStocks.j4 : Nat → List Int → Int → Int → Bool → Int → Bool → Int → Int → List Int → Option (Bool)
 | 0, _, _, _, _, _, _, _, _, _ => none
 | k + 1, x0, x19, x20, x21, x22, x135, x1006000, x1006001, x1006002 => if x135 = true then ((impl_ColorShare.f k x1006000 x1006001 x1006002 x22).bind fun bt1013 => (if bt1013.2.2 = true then (if (wrap64 (bt1013.1 * x20)) > (wrap64 (x19 * bt1013.2.1)) then (none) else (laws_FnStocks.l0 k x0 x19 x20 x21 (wrap64 (x22 + 1)) x1006000 x1006001 x1006002)) else (none))) else (if x21 = true then ((spec_DrawColorShare.f k x0).bind fun bt1016 => ((impl_ColorShare.f k bt1016.1 bt1016.2.1 bt1016.2.2.1 bt1016.2.2.2).bind fun bt1023 => ((spec_ColorShare.f k bt1016.1 bt1016.2.1 bt1016.2.2.1 bt1016.2.2.2).bind fun bt1026 => (if bt1023.1 = bt1026.1 then (if bt1023.2.1 = bt1026.2.1 then (some (bt1023.2.2 == bt1026.2.2)) else (none)) else (none))))) else (none))
end
def laws_FnStocks.f (k : Nat) (l0 : List Int) : Option (Bool) := (laws_vBig.f l0).bind fun t972 => (if t972 = true then (some true) else ((spec_DrawCarpetsFrom.f k l0).bind fun bt973 => ((impl_CarpetsFrom.f k bt973.1 bt973.2.1 bt973.2.2.1 bt973.2.2.2.1 bt973.2.2.2.2.1 bt973.2.2.2.2.2.1 bt973.2.2.2.2.2.2.1 bt973.2.2.2.2.2.2.2).bind fun bt987 => ((spec_CarpetsFrom.f k bt973.1 bt973.2.1 bt973.2.2.1 bt973.2.2.2.1 bt973.2.2.2.2.1 bt973.2.2.2.2.2.1 bt973.2.2.2.2.2.2.1 bt973.2.2.2.2.2.2.2).bind fun bt989 => (if bt987.1 = bt989.1 then (laws_FnStocks.j0 k l0 bt973.2.2.2.2.2.2.2 bt987.1 bt987.2 (bt987.2 != bt989.2) bt973.1 bt973.2.1 bt973.2.2.1 bt973.2.2.2.1 bt973.2.2.2.2.1 bt973.2.2.2.2.2.1 bt973.2.2.2.2.2.2.1) else (laws_FnStocks.j0 k l0 bt973.2.2.2.2.2.2.2 bt987.1 bt987.2 true bt973.1 bt973.2.1 bt973.2.2.1 bt973.2.2.2.1 bt973.2.2.2.2.1 bt973.2.2.2.2.2.1 bt973.2.2.2.2.2.2.1))))))
theorem laws_FnStocks.calls (k : Nat) (A0 : Option Addr) (c0 : Nat) (l0 : List Int) (r : Bool) (w : World) (hr0 : Kd.C (Kd.int .u8) w A0 l0.length l0) (hc0 : l0.length ≤ c0) (h : laws_FnStocks.f k l0 = some r) :
  Calls Try.prog 10 #[.slice A0 l0.length c0] w fun e w' => e = .returned (.bool r) ∧ Below w.heap.size w w' := by
 have hu30 := Try.underlying30
 have hu32 := Try.underlying32
 have HR0 := Aside0.mk hr0
 have HC0 := Aside0.mk hc0
 clear hr0 hc0
 have HB := Aside0.mk (Below.refl w.heap.size w)
 have H : ((laws_vBig.f l0).bind fun t972 => (if t972 = true then (some true) else ((spec_DrawCarpetsFrom.f k l0).bind fun bt973 => ((impl_CarpetsFrom.f k bt973.1 bt973.2.1 bt973.2.2.1 bt973.2.2.2.1 bt973.2.2.2.2.1 bt973.2.2.2.2.2.1 bt973.2.2.2.2.2.2.1 bt973.2.2.2.2.2.2.2).bind fun bt987 => ((spec_CarpetsFrom.f k bt973.1 bt973.2.1 bt973.2.2.1 bt973.2.2.2.1 bt973.2.2.2.2.1 bt973.2.2.2.2.2.1 bt973.2.2.2.2.2.2.1 bt973.2.2.2.2.2.2.2).bind fun bt989 => (if bt987.1 = bt989.1 then (laws_FnStocks.j0 k l0 bt973.2.2.2.2.2.2.2 bt987.1 bt987.2 (bt987.2 != bt989.2) bt973.1 bt973.2.1 bt973.2.2.1 bt973.2.2.2.1 bt973.2.2.2.2.1 bt973.2.2.2.2.2.1 bt973.2.2.2.2.2.2.1) else (laws_FnStocks.j0 k l0 bt973.2.2.2.2.2.2.2 bt987.1 bt987.2 true bt973.1 bt973.2.1 bt973.2.2.1 bt973.2.2.2.1 bt973.2.2.2.2.1 bt973.2.2.2.2.2.1 bt973.2.2.2.2.2.2.1))))))) = some r := h
 clear h
 replace H := Option.bind_eq_some_iff.mp H
 obtain ⟨t972, A20, H⟩ := H
 replace H : (if t972 = true then (some true) else ((spec_DrawCarpetsFrom.f k l0).bind fun bt973 => ((impl_CarpetsFrom.f k bt973.1 bt973.2.1 bt973.2.2.1 bt973.2.2.2.1 bt973.2.2.2.2.1 bt973.2.2.2.2.2.1 bt973.2.2.2.2.2.2.1 bt973.2.2.2.2.2.2.2).bind fun bt987 => ((spec_CarpetsFrom.f k bt973.1 bt973.2.1 bt973.2.2.1 bt973.2.2.2.1 bt973.2.2.2.2.1 bt973.2.2.2.2.2.1 bt973.2.2.2.2.2.2.1 bt973.2.2.2.2.2.2.2).bind fun bt989 => (if bt987.1 = bt989.1 then (laws_FnStocks.j0 k l0 bt973.2.2.2.2.2.2.2 bt987.1 bt987.2 (bt987.2 != bt989.2) bt973.1 bt973.2.1 bt973.2.2.1 bt973.2.2.2.1 bt973.2.2.2.2.1 bt973.2.2.2.2.2.1 bt973.2.2.2.2.2.2.1) else (laws_FnStocks.j0 k l0 bt973.2.2.2.2.2.2.2 bt987.1 bt987.2 true bt973.1 bt973.2.1 bt973.2.2.1 bt973.2.2.2.1 bt973.2.2.2.2.1 bt973.2.2.2.2.2.1 bt973.2.2.2.2.2.2.1)))))) = some r := H
 have A2 := Aside0.mk A20
 clear A20
 by_cases c3 : t972 = true
 ·subst c3
  have H1 : (some true) = some r := by rw [if_pos rfl] at H; exact H
  clear H
  have H := H1
  clear H1
  obtain rfl := Option.some.inj H
  go_enter Try.func10, Try.ntmps10
  go_wp2_with (first | ((with_reducible refine gate_callee (f := 32) rfl ?_); refine glE (some 35) Try.func32 #[.slice A0 l0.length c0] ?_; (with_reducible refine (laws_vBig.calls _ _ l0 true _ ?side1 ?side2 A2.out).mono ?_); (case side1 => exact Z97); (case side2 => exact HC0.out); rintro e w' ⟨rfl, ⟨nd, rfl⟩⟩; refine ⟨_, rfl, ?_⟩))
  go_ret
  exact ⟨Z11, Z1⟩
 ·replace c3 := Bool.eq_false_iff.mpr c3
  subst c3
  have H1 : ((spec_DrawCarpetsFrom.f k l0).bind fun bt973 => ((impl_CarpetsFrom.f k bt973.1 bt973.2.1 bt973.2.2.1 bt973.2.2.2.1 bt973.2.2.2.2.1 bt973.2.2.2.2.2.1 bt973.2.2.2.2.2.2.1 bt973.2.2.2.2.2.2.2).bind fun bt987 => ((spec_CarpetsFrom.f k bt973.1 bt973.2.1 bt973.2.2.1 bt973.2.2.2.1 bt973.2.2.2.2.1 bt973.2.2.2.2.2.1 bt973.2.2.2.2.2.2.1 bt973.2.2.2.2.2.2.2).bind fun bt989 => (if bt987.1 = bt989.1 then (laws_FnStocks.j0 k l0 bt973.2.2.2.2.2.2.2 bt987.1 bt987.2 (bt987.2 != bt989.2) bt973.1 bt973.2.1 bt973.2.2.1 bt973.2.2.2.1 bt973.2.2.2.2.1 bt973.2.2.2.2.2.1 bt973.2.2.2.2.2.2.1) else (laws_FnStocks.j0 k l0 bt973.2.2.2.2.2.2.2 bt987.1 bt987.2 true bt973.1 bt973.2.1 bt973.2.2.1 bt973.2.2.2.1 bt973.2.2.2.2.1 bt973.2.2.2.2.2.1 bt973.2.2.2.2.2.2.1))))) = some r := by rw [if_neg (show ¬ (false = true) by decide)] at H; exact H
  clear H
  have H := H1
  clear H1
  replace H := Option.bind_eq_some_iff.mp H
  obtain ⟨⟨t973, t974, t975, t978, t979, t980, t981, t982⟩, A40, H⟩ := H
  replace H : ((impl_CarpetsFrom.f k t973 t974 t975 t978 t979 t980 t981 t982).bind fun bt987 => ((spec_CarpetsFrom.f k t973 t974 t975 t978 t979 t980 t981 t982).bind fun bt989 => (if bt987.1 = bt989.1 then (laws_FnStocks.j0 k l0 t982 bt987.1 bt987.2 (bt987.2 != bt989.2) t973 t974 t975 t978 t979 t980 t981) else (laws_FnStocks.j0 k l0 t982 bt987.1 bt987.2 true t973 t974 t975 t978 t979 t980 t981)))) = some r := H
  have A4 := Aside0.mk A40
  clear A40
  replace H := Option.bind_eq_some_iff.mp H
  obtain ⟨⟨t987, t988⟩, A50, H⟩ := H
  replace H : ((spec_CarpetsFrom.f k t973 t974 t975 t978 t979 t980 t981 t982).bind fun bt989 => (if t987 = bt989.1 then (laws_FnStocks.j0 k l0 t982 t987 t988 (t988 != bt989.2) t973 t974 t975 t978 t979 t980 t981) else (laws_FnStocks.j0 k l0 t982 t987 t988 true t973 t974 t975 t978 t979 t980 t981))) = some r := H
  have A5 := Aside0.mk A50
  clear A50
  replace H := Option.bind_eq_some_iff.mp H
  obtain ⟨⟨t989, t990⟩, A60, H⟩ := H
  replace H : (if t987 = t989 then (laws_FnStocks.j0 k l0 t982 t987 t988 (t988 != t990) t973 t974 t975 t978 t979 t980 t981) else (laws_FnStocks.j0 k l0 t982 t987 t988 true t973 t974 t975 t978 t979 t980 t981)) = some r := H
  have A6 := Aside0.mk A60
  clear A60
  have HC7 := Aside0.mk H
  clear H
  go_enter Try.func10, Try.ntmps10
  go_upto_region 6 with (first | ((with_reducible refine gate_callee (f := 32) rfl ?_); refine glE (some 35) Try.func32 #[.slice A0 l0.length c0] ?_; (with_reducible refine (laws_vBig.calls _ _ l0 false _ ?side1 ?side2 A2.out).mono ?_); (case side1 => exact Z97); (case side2 => exact HC0.out); rintro e w' ⟨rfl, ⟨nd, rfl⟩⟩; refine ⟨_, rfl, ?_⟩) | ((with_reducible refine gate_callee (f := 43) rfl ?_); refine glE (some 38) Try.func43 #[.slice A0 l0.length c0] ?_; (with_reducible refine (spec_DrawCarpetsFrom.calls k _ _ l0 t973 t974 t975 t978 t979 t980 t981 t982 _ ?side1 ?side2 A4.out).mono ?_); (case side1 => exact Z97); (case side2 => exact HC0.out); rintro e w8 ⟨v976, v983, rfl, ho0, ho1, hb⟩; refine ⟨_, rfl, ?_⟩; have HO977 := Aside0.mk (Kd.R_lower ho0 (below_size Z1)); have HO984 := Aside0.mk (Kd.Q_lower ho1 (below_size Z1)); replace HB := hbS Z1 hb; (try clear hb); (try clear ho0); (try clear ho1)) | ((with_reducible refine gate_dst (N := 3) rfl ?_); (try (refine gate_guard (by rfl) ?_; dsimp only)); refine bxE 3 #[.int .i64 0, .int .i64 0, .slice none 0 0] 30 ?_; intro gb985 hg w9 hbox hb; replace HO977 := roB HO977 hb; replace HO984 := Aside0.mk (Kd.Q_below Z103 hb); have BK985 := Aside0.mk (hbox); have GW985 := gwS hg Z1; have GE985 := gwS hg Z1; replace HB := hbS Z1 hb; clear hb hbox hg) | ((with_reducible refine gate_dst (N := 4) rfl ?_); (try (refine gate_guard (by rfl) ?_; dsimp only)); refine bxE 4 #[.int .i64 0, .int .i64 0, .int .i64 0, .int .i64 0] 32 ?_; intro gb986 hg w10 hbox hb; replace HO977 := roB HO977 hb; replace HO984 := Aside0.mk (Kd.Q_below Z103 hb); have BK986 := Aside0.mk (hbox); have GW986 := gwS hg Z117; have GE986 := gwS hg Z117; replace HB := hbS Z117 hb; have NB985_986 := nbL hg BK985; have NB986_985 := nbG hg BK985; replace BK985 := bkB BK985 hb; clear hb hbox hg; have hnb11 := NB985_986.out; have hnc11 := NB986_985.out; obtain ⟨hcz12_0, hcz12_1, hcz12_2⟩ := bz3 BK985; obtain ⟨hfz12_0, hfz12_1, hfz12_2⟩ := fz3 BK985; obtain ⟨Ao13, co13, eo13⟩ := Kd.R_slice HO977.out; subst eo13; obtain ⟨hcz14_0, hcz14_1, hcz14_2, hcz14_3⟩ := bz4 BK986; obtain ⟨hfz14_0, hfz14_1, hfz14_2, hfz14_3⟩ := fz4 BK986; obtain ⟨Ao15, co15, eo15, _⟩ := Kd.Q_slice HO984.out; subst eo15) | ((with_reducible refine gate_callee (f := 27) rfl ?_); refine glE (some 46) Try.func27 #[.agg #[.int .i64 t973, .int .i64 t974, .slice Ao13 t975.length co13], .agg #[.int .i64 t978, .int .i64 t979, .int .i64 t980, .int .i64 t981], .slice Ao15 t982.length co15] ?_; (with_reducible refine (impl_CarpetsFrom.calls k t973 t974 _ _ t975 t978 t979 t980 t981 _ _ t982 t987 t988 _ ?side1 ?side2 ?side3 ?side4 A5.out).mono ?_); (case side1 => refine (Kd.R_reads' (e := 3) (base := w.heap.size) (ok := fun k_ => some k_ ≠ (.slice Ao15 t982.length co15 : Value).ownBlock) (n := t975.length) (c := co13) ?_).2.2; exact (by (with_reducible repeat (first | apply Kd.R_alloc | apply Kd.R_drewN | apply Kd.R_drew)); exact (Kd.R_mono (Kd.R_mono (Kd.R_far (p := ⟨gb986, 3, none⟩) (Kd.R_far (p := ⟨gb986, 2, none⟩) (Kd.R_far (p := ⟨gb986, 1, none⟩) (Kd.R_far (p := ⟨gb986, 0, none⟩) (Kd.R_far (p := ⟨gb985, 2, none⟩) (Kd.R_far (p := ⟨gb985, 1, none⟩) (Kd.R_far (p := ⟨gb985, 0, none⟩) (Kd.R_types (Kd.R_types HO977.out BK985.out (by decide)) BK986.out (by decide)) (fun _ hk => hk.1.2) (.int .i64 t973)) (fun _ hk => hk.1.2) (.int .i64 t974)) (fun _ hk => hk.1.2) (.slice Ao13 t975.length co13)) (fun _ hk => hk.2) (.int .i64 t978)) (fun _ hk => hk.2) (.int .i64 t979)) (fun _ hk => hk.2) (.int .i64 t980)) (fun _ hk => hk.2) (.int .i64 t981)) (fun _ h_ => h_.1)) (fun _ h_ => h_.1)))); (case side2 => exact (Kd.R_reads' HO977.out).2.1); (case side3 => refine (Kd.Q_reads' (e := 3) (base := w.heap.size) (ok := fun k_ => some k_ ≠ (.slice Ao13 t975.length co13 : Value).ownBlock) (n := t982.length) (c := co15) ?_).2.2; exact (by (with_reducible repeat (first | apply Kd.Q_alloc | apply Kd.Q_drewN | apply Kd.Q_drew)); exact (Kd.Q_mono (Kd.Q_mono (Kd.Q_far (p := ⟨gb986, 3, none⟩) (Kd.Q_far (p := ⟨gb986, 2, none⟩) (Kd.Q_far (p := ⟨gb986, 1, none⟩) (Kd.Q_far (p := ⟨gb986, 0, none⟩) (Kd.Q_far (p := ⟨gb985, 2, none⟩) (Kd.Q_far (p := ⟨gb985, 1, none⟩) (Kd.Q_far (p := ⟨gb985, 0, none⟩) (Kd.Q_types (Kd.Q_types HO984.out BK985.out (by decide)) BK986.out (by decide)) (fun _ hk => hk.1.2) (.int .i64 t973)) (fun _ hk => hk.1.2) (.int .i64 t974)) (fun _ hk => hk.1.2) (.slice Ao13 t975.length co13)) (fun _ hk => hk.2) (.int .i64 t978)) (fun _ hk => hk.2) (.int .i64 t979)) (fun _ hk => hk.2) (.int .i64 t980)) (fun _ hk => hk.2) (.int .i64 t981)) (fun _ h_ => h_.1)) (fun _ h_ => h_.1)))); (case side4 => exact (Kd.Q_reads' HO984.out).2.1); rintro e w16 ⟨rfl, hb⟩; refine ⟨_, rfl, ?_⟩; replace HO977 := Aside0.mk (Kd.R_below (by (with_reducible repeat (first | apply Kd.R_alloc | apply Kd.R_drewN | apply Kd.R_drew)); exact (Kd.R_mono (Kd.R_mono (Kd.R_far (p := ⟨gb986, 3, none⟩) (Kd.R_far (p := ⟨gb986, 2, none⟩) (Kd.R_far (p := ⟨gb986, 1, none⟩) (Kd.R_far (p := ⟨gb986, 0, none⟩) (Kd.R_far (p := ⟨gb985, 2, none⟩) (Kd.R_far (p := ⟨gb985, 1, none⟩) (Kd.R_far (p := ⟨gb985, 0, none⟩) (Kd.R_types (Kd.R_types HO977.out BK985.out (by decide)) BK986.out (by decide)) (fun _ hk => hk.1.2) (.int .i64 t973)) (fun _ hk => hk.1.2) (.int .i64 t974)) (fun _ hk => hk.1.2) (.slice Ao13 t975.length co13)) (fun _ hk => hk.2) (.int .i64 t978)) (fun _ hk => hk.2) (.int .i64 t979)) (fun _ hk => hk.2) (.int .i64 t980)) (fun _ hk => hk.2) (.int .i64 t981)) (fun _ h_ => h_.1)) (fun _ h_ => h_.1))) hb); replace HO984 := Aside0.mk (Kd.Q_below (by (with_reducible repeat (first | apply Kd.Q_alloc | apply Kd.Q_drewN | apply Kd.Q_drew)); exact (Kd.Q_mono (Kd.Q_mono (Kd.Q_far (p := ⟨gb986, 3, none⟩) (Kd.Q_far (p := ⟨gb986, 2, none⟩) (Kd.Q_far (p := ⟨gb986, 1, none⟩) (Kd.Q_far (p := ⟨gb986, 0, none⟩) (Kd.Q_far (p := ⟨gb985, 2, none⟩) (Kd.Q_far (p := ⟨gb985, 1, none⟩) (Kd.Q_far (p := ⟨gb985, 0, none⟩) (Kd.Q_types (Kd.Q_types HO984.out BK985.out (by decide)) BK986.out (by decide)) (fun _ hk => hk.1.2) (.int .i64 t973)) (fun _ hk => hk.1.2) (.int .i64 t974)) (fun _ hk => hk.1.2) (.slice Ao13 t975.length co13)) (fun _ hk => hk.2) (.int .i64 t978)) (fun _ hk => hk.2) (.int .i64 t979)) (fun _ hk => hk.2) (.int .i64 t980)) (fun _ hk => hk.2) (.int .i64 t981)) (fun _ h_ => h_.1)) (fun _ h_ => h_.1))) hb); replace BK985 := Aside0.mk (blk_below (g := gb985) (o := .cells #[.int .i64 t973, .int .i64 t974, .slice Ao13 t975.length co13] 30 (0, 0)) (by (with_reducible repeat (first | refine blk_drewN ?_ _ | refine blk_drew ?_ | refine blk_alloc ?_ _)); refine blk_far ?_ NB985_986.out _; (with_reducible repeat (first | refine blk_drewN ?_ _ | refine blk_drew ?_ | refine blk_alloc ?_ _)); refine blk_far ?_ NB985_986.out _; (with_reducible repeat (first | refine blk_drewN ?_ _ | refine blk_drew ?_ | refine blk_alloc ?_ _)); refine blk_far ?_ NB985_986.out _; (with_reducible repeat (first | refine blk_drewN ?_ _ | refine blk_drew ?_ | refine blk_alloc ?_ _)); refine blk_far ?_ NB985_986.out _; (with_reducible repeat (first | refine blk_drewN ?_ _ | refine blk_drew ?_ | refine blk_alloc ?_ _)); refine blk_put (cs := #[.int .i64 t973, .int .i64 t974, .slice none 0 0]) ?_ 2 _ rfl; (with_reducible repeat (first | refine blk_drewN ?_ _ | refine blk_drew ?_ | refine blk_alloc ?_ _)); refine blk_put (cs := #[.int .i64 t973, .int .i64 0, .slice none 0 0]) ?_ 1 _ rfl; (with_reducible repeat (first | refine blk_drewN ?_ _ | refine blk_drew ?_ | refine blk_alloc ?_ _)); refine blk_put (cs := #[.int .i64 0, .int .i64 0, .slice none 0 0]) ?_ 0 _ rfl; (with_reducible repeat (first | refine blk_drewN ?_ _ | refine blk_drew ?_ | refine blk_alloc ?_ _)); exact BK985.out) hb); replace BK986 := Aside0.mk (blk_below (g := gb986) (o := .cells #[.int .i64 t978, .int .i64 t979, .int .i64 t980, .int .i64 t981] 32 (0, 0)) (by (with_reducible repeat (first | refine blk_drewN ?_ _ | refine blk_drew ?_ | refine blk_alloc ?_ _)); refine blk_put (cs := #[.int .i64 t978, .int .i64 t979, .int .i64 t980, .int .i64 0]) ?_ 3 _ rfl; (with_reducible repeat (first | refine blk_drewN ?_ _ | refine blk_drew ?_ | refine blk_alloc ?_ _)); refine blk_put (cs := #[.int .i64 t978, .int .i64 t979, .int .i64 0, .int .i64 0]) ?_ 2 _ rfl; (with_reducible repeat (first | refine blk_drewN ?_ _ | refine blk_drew ?_ | refine blk_alloc ?_ _)); refine blk_put (cs := #[.int .i64 t978, .int .i64 0, .int .i64 0, .int .i64 0]) ?_ 1 _ rfl; (with_reducible repeat (first | refine blk_drewN ?_ _ | refine blk_drew ?_ | refine blk_alloc ?_ _)); refine blk_put (cs := #[.int .i64 0, .int .i64 0, .int .i64 0, .int .i64 0]) ?_ 0 _ rfl; (with_reducible repeat (first | refine blk_drewN ?_ _ | refine blk_drew ?_ | refine blk_alloc ?_ _)); refine blk_far ?_ NB986_985.out _; (with_reducible repeat (first | refine blk_drewN ?_ _ | refine blk_drew ?_ | refine blk_alloc ?_ _)); refine blk_far ?_ NB986_985.out _; (with_reducible repeat (first | refine blk_drewN ?_ _ | refine blk_drew ?_ | refine blk_alloc ?_ _)); refine blk_far ?_ NB986_985.out _; (with_reducible repeat (first | refine blk_drewN ?_ _ | refine blk_drew ?_ | refine blk_alloc ?_ _)); exact BK986.out) hb); replace HB := hbS Z31 hb; (try clear hb); obtain ⟨hcz17_0, hcz17_1, hcz17_2⟩ := bz3 BK985; obtain ⟨hfz17_0, hfz17_1, hfz17_2⟩ := fz3 BK985; obtain ⟨hcz18_0, hcz18_1, hcz18_2, hcz18_3⟩ := bz4 BK986; obtain ⟨hfz18_0, hfz18_1, hfz18_2, hfz18_3⟩ := fz4 BK986) | ((with_reducible refine gate_callee (f := 26) rfl ?_); refine glE (some 53) Try.func26 #[.agg #[.int .i64 t973, .int .i64 t974, .slice Ao13 t975.length co13], .agg #[.int .i64 t978, .int .i64 t979, .int .i64 t980, .int .i64 t981], .slice Ao15 t982.length co15] ?_; (with_reducible refine (spec_CarpetsFrom.calls k t973 t974 _ _ t975 t978 t979 t980 t981 _ _ t982 t989 t990 _ ?side1 ?side2 ?side3 ?side4 A6.out).mono ?_); (case side1 => exact (by repeat (first | exact (Kd.R_reads' HO977.out).2.2 | (with_reducible refine Kd.C_alloc ?_ _) | (with_reducible refine Kd.C_drewN ?_ _) | (with_reducible refine Kd.C_drew ?_)))); (case side2 => exact (Kd.R_reads' HO977.out).2.1); (case side3 => exact (by repeat (first | exact (Kd.Q_reads' HO984.out).2.2 | (with_reducible refine Kd.C_alloc ?_ _) | (with_reducible refine Kd.C_drewN ?_ _) | (with_reducible refine Kd.C_drew ?_)))); (case side4 => exact (Kd.Q_reads' HO984.out).2.1); rintro e w19 ⟨rfl, hb⟩; refine ⟨_, rfl, ?_⟩; replace HO977 := roB HO977 hb; replace HO984 := Aside0.mk (Kd.Q_below Z103 hb); replace BK985 := bkB BK985 hb; replace BK986 := bkB BK986 hb; replace HB := hbS Z31 hb; (try clear hb)))
  (try simp only [Act.put, List.setIfInBounds_toArray, List.set_cons_zero, List.set_cons_succ])
  go_cut [63] (fun v63 wc => ∃ (kq : Nat) (x63_6 : Bool), v63 = .bool x63_6 ∧ Aside0 (laws_FnStocks.j0 kq l0 t982 t987 t988 x63_6 t973 t974 t975 t978 t979 t980 t981 = some r) ∧ Aside0 (kq ≤ k) ∧ Aside0 (Kd.Q (Kd.int .i64) 3 wc w.heap.size (fun k_ => some k_ ≠ ((.slice Ao13 t975.length co13) : Value).ownBlock) (.slice Ao15 t982.length co15) t982) ∧ Aside0 (Kd.R (Kd.int .i64) 3 wc w.heap.size (fun k_ => some k_ ≠ ((.slice Ao15 t982.length co15) : Value).ownBlock) (.slice Ao13 t975.length co13) t975) ∧ Aside0 (wc.heap[gb985]? = some (.cells #[.int .i64 t973, .int .i64 t974, (.slice Ao13 t975.length co13)] 30 (0, 0))) ∧ Aside0 (wc.heap[gb986]? = some (.cells #[.int .i64 t978, .int .i64 t979, .int .i64 t980, .int .i64 t981] 32 (0, 0))) ∧ Aside0 (Below w.heap.size w wc))
  case first =>
   have H := HC7.out
   clear HC7
   by_cases c20 : t987 = t989
   ·rw [if_pos c20] at H
    have c20b0 : (t987 == t989) = true := beq_iff_eq.mpr c20
    have c20b1 : (t987 != t989) = false := bne_eq_false_iff_eq.mpr c20
    clear c20
    (first | rw [c20b0] | (simp only [i64_w, i32_w]; rw [c20b0]) | skip)
    have H' := Aside0.mk H
    clear H
    go_wp2
    go_meet
    case rel => exact ⟨_, ((t988 != t990)), Z20, H', ⟨Z91⟩, ⟨Z103⟩, ⟨Z167⟩, ⟨Z46⟩, ⟨Z47⟩, ⟨Z31⟩⟩
   ·rw [if_neg c20] at H
    have c20b0 : (t987 == t989) = false := beq_eq_false_iff_ne.mpr c20
    have c20b1 : (t987 != t989) = true := bne_iff_ne.mpr c20
    (first | rw [c20b0] | (simp only [i64_w, i32_w]; rw [c20b0]) | skip)
    have H' := Aside0.mk H
    clear H
    go_wp2
    go_meet
    case rel => exact ⟨_, (true), Z20, H', ⟨Z91⟩, ⟨Z103⟩, ⟨Z167⟩, ⟨Z46⟩, ⟨Z47⟩, ⟨Z31⟩⟩
  case rest =>
   clear HC7
   try clear c1
   try clear c2
   try clear p2
   try clear c3
   try clear c4
   try clear c10
   try clear c11
   try clear c20
   try clear c20b0
   try clear c20b1
   try clear hcz12_0
   try clear hcz12_1
   try clear hcz12_2
   try clear hcz14_0
   try clear hcz14_1
   try clear hcz14_2
   try clear hcz14_3
   try clear hcz17_0
   try clear hcz17_1
   try clear hcz17_2
   try clear hcz18_0
   try clear hcz18_1
   try clear hcz18_2
   try clear hcz18_3
   try clear hfz12_0
   try clear hfz12_1
   try clear hfz12_2
   try clear hfz14_0
   try clear hfz14_1
   try clear hfz14_2
   try clear hfz14_3
   try clear hfz17_0
   try clear hfz17_1
   try clear hfz17_2
   try clear hfz18_0
   try clear hfz18_1
   try clear hfz18_2
   try clear hfz18_3
   obtain ⟨kq, x63_6, rfl, HA, HJ6, HO_5, HO_986002, BK985, BK986, HB⟩ := hcut
   cases kq with
   | zero => exact absurd HA.out (by simp [laws_FnStocks.j0])
   | succ kj6 =>
    have H := HA.out
    clear HA
    simp only [laws_FnStocks.j0] at H
    by_cases c21 : x63_6 = true
    ·subst c21
     have H1 : (none) = some r := by rw [if_pos rfl] at H; exact H
     clear H
     have H := H1
     clear H1
     exact absurd H (by simp)
    ·replace c21 := Bool.eq_false_iff.mpr c21
     subst c21
     have H1 : ((impl_ShortColors.f kj6 t973 t974 t975 t978 t979 t980 t981 t982).bind fun bt991 => ((spec_ShortColors.f kj6 t973 t974 t975 t978 t979 t980 t981 t982).bind fun bt995 => (if (bt991.2 != bt995.2) = true then (laws_FnStocks.j1 kj6 l0 true) else (if (bt991.2 != t988) = true then (laws_FnStocks.j1 kj6 l0 true) else ((laws_vInts.f kj6 bt991.1 bt995.1).bind fun t999 => (if t999 = true then (if t988 = true then (laws_FnStocks.j1 kj6 l0 ((decide (t987 > 0)) != ((bt991.1.length : Int) == 0))) else (laws_FnStocks.j1 kj6 l0 false)) else (laws_FnStocks.j1 kj6 l0 true))))))) = some r := by rw [if_neg (show ¬ (false = true) by decide)] at H; exact H
     clear H
     have H := H1
     clear H1
     replace H := Option.bind_eq_some_iff.mp H
     obtain ⟨⟨t991, t994⟩, A220, H⟩ := H
     replace H : ((spec_ShortColors.f kj6 t973 t974 t975 t978 t979 t980 t981 t982).bind fun bt995 => (if (t994 != bt995.2) = true then (laws_FnStocks.j1 kj6 l0 true) else (if (t994 != t988) = true then (laws_FnStocks.j1 kj6 l0 true) else ((laws_vInts.f kj6 t991 bt995.1).bind fun t999 => (if t999 = true then (if t988 = true then (laws_FnStocks.j1 kj6 l0 ((decide (t987 > 0)) != ((t991.length : Int) == 0))) else (laws_FnStocks.j1 kj6 l0 false)) else (laws_FnStocks.j1 kj6 l0 true)))))) = some r := H
     have A22 := Aside0.mk A220
     clear A220
     replace H := Option.bind_eq_some_iff.mp H
     obtain ⟨⟨t995, t998⟩, A230, H⟩ := H
     replace H : (if (t994 != t998) = true then (laws_FnStocks.j1 kj6 l0 true) else (if (t994 != t988) = true then (laws_FnStocks.j1 kj6 l0 true) else ((laws_vInts.f kj6 t991 t995).bind fun t999 => (if t999 = true then (if t988 = true then (laws_FnStocks.j1 kj6 l0 ((decide (t987 > 0)) != ((t991.length : Int) == 0))) else (laws_FnStocks.j1 kj6 l0 false)) else (laws_FnStocks.j1 kj6 l0 true))))) = some r := H
     have A23 := Aside0.mk A230
     clear A230
     have HC24 := Aside0.mk H
     clear H
     have hnb25 := NB985_986.out
     have hnc25 := NB986_985.out
     obtain ⟨hcz26_0, hcz26_1, hcz26_2⟩ := bz3 BK985
     obtain ⟨hfz26_0, hfz26_1, hfz26_2⟩ := fz3 BK985
     obtain ⟨hcz27_0, hcz27_1, hcz27_2, hcz27_3⟩ := bz4 BK986
     obtain ⟨hfz27_0, hfz27_1, hfz27_2, hfz27_3⟩ := fz4 BK986
     go_upto_region 10 with (first | ((with_reducible refine gate_callee (f := 25) rfl ?_); refine glE (some 68) Try.func25 #[.agg #[.int .i64 t973, .int .i64 t974, .slice Ao13 t975.length co13], .agg #[.int .i64 t978, .int .i64 t979, .int .i64 t980, .int .i64 t981], .slice Ao15 t982.length co15] ?_; (with_reducible refine (impl_ShortColors.calls kj6 t973 t974 _ _ t975 t978 t979 t980 t981 _ _ t982 t991 t994 _ ?side1 ?side2 ?side3 ?side4 A22.out).mono ?_); (case side1 => exact Z129); (case side2 => exact (Kd.R_reads' HO_986002.out).2.1); (case side3 => exact Z139); (case side4 => exact (Kd.Q_reads' HO_5.out).2.1); rintro e w28 ⟨v992, rfl, ho0, hb⟩; refine ⟨_, rfl, ?_⟩; have HO993 := Aside0.mk (Kd.R_lower (Kd.R_new' (Kd.R_new' ho0 (Kd.Q_lt Z123)) (Kd.R_lt Z48)) (below_size Z31)); replace HO_5 := Aside0.mk (Kd.Q_elder' Z123 (Kd.R_base ho0) hb); replace HO_986002 := Aside0.mk (Kd.R_elder' Z48 (Kd.R_base ho0) hb); replace BK985 := bkB BK985 hb; replace BK986 := bkB BK986 hb; replace HB := hbS Z31 hb; (try clear hb); (try clear ho0); obtain ⟨hcz29_0, hcz29_1, hcz29_2⟩ := bz3 BK985; obtain ⟨hfz29_0, hfz29_1, hfz29_2⟩ := fz3 BK985; obtain ⟨hcz30_0, hcz30_1, hcz30_2, hcz30_3⟩ := bz4 BK986; obtain ⟨hfz30_0, hfz30_1, hfz30_2, hfz30_3⟩ := fz4 BK986) | ((with_reducible refine gate_callee (f := 23) rfl ?_); refine glE (some 75) Try.func23 #[.agg #[.int .i64 t973, .int .i64 t974, .slice Ao13 t975.length co13], .agg #[.int .i64 t978, .int .i64 t979, .int .i64 t980, .int .i64 t981], .slice Ao15 t982.length co15] ?_; (with_reducible refine (spec_ShortColors.calls kj6 t973 t974 _ _ t975 t978 t979 t980 t981 _ _ t982 t995 t998 _ ?side1 ?side2 ?side3 ?side4 A23.out).mono ?_); (case side1 => exact Z129); (case side2 => exact (Kd.R_reads' HO_986002.out).2.1); (case side3 => exact Z139); (case side4 => exact (Kd.Q_reads' HO_5.out).2.1); rintro e w31 ⟨v996, rfl, ho0, hb⟩; refine ⟨_, rfl, ?_⟩; have HO997 := Aside0.mk (Kd.R_lower (Kd.R_new' (Kd.R_new' (Kd.R_new' ho0 (Kd.Q_lt Z123)) (Kd.R_lt Z48)) (Kd.R_lt Z168)) (below_size Z31)); replace HO_5 := Aside0.mk (Kd.Q_elder' Z123 (Kd.R_base ho0) hb); replace HO_986002 := Aside0.mk (Kd.R_elder' Z48 (Kd.R_base ho0) hb); replace HO993 := Aside0.mk (Kd.R_elder' Z168 (Kd.R_base ho0) hb); replace BK985 := bkB BK985 hb; replace BK986 := bkB BK986 hb; replace HB := hbS Z31 hb; (try clear hb); (try clear ho0)))
     (try simp only [Act.put, List.setIfInBounds_toArray, List.set_cons_zero, List.set_cons_succ])
     go_cut [102] (fun v102 wc => ∃ (kq : Nat) (x102_23 : Bool), v102 = .bool x102_23 ∧ Aside0 (laws_FnStocks.j1 kq l0 x102_23 = some r) ∧ Aside0 (kq ≤ kj6) ∧ Aside0 (Kd.R (Kd.int .i64) 3 wc w.heap.size (fun _ => True) (.slice Ao13 t975.length co13) t975) ∧ Aside0 (wc.heap[gb985]? = some (.cells #[.int .i64 t973, .int .i64 t974, (.slice Ao13 t975.length co13)] 30 (0, 0))) ∧ Aside0 (wc.heap[gb986]? = some (.cells #[.int .i64 t978, .int .i64 t979, .int .i64 t980, .int .i64 t981] 32 (0, 0))) ∧ Aside0 (Below w.heap.size w wc))
     case first =>
      have H := HC24.out
      clear HC24
      by_cases c32 : (t994 != t998) = true
      ·rw [if_pos c32] at H
       have c32b0 : (t994 != t998) = true := c32
       (try (have c32b1 : decide (t994 = t998) = false := Z175))
       (try (have c32b2 : (t994 == t998) = false := Z175))
       (try (have c32b3 : ¬ (t994 = t998) := Z175))
       clear c32
       (first | rw [c32b0] | (simp only [i64_w, i32_w]; rw [c32b0]) | skip)
       have H' := Aside0.mk H
       clear H
       go_wp2
       go_meet
       case rel => exact ⟨_, (true), Z20, H', ⟨Z156⟩, ⟨Z88⟩, ⟨Z46⟩, ⟨Z47⟩, ⟨Z31⟩⟩
      ·rw [if_neg c32] at H
       have c32b0 : (t994 != t998) = false := by simpa using c32
       (try (have c32b1 : decide (t994 = t998) = true := Z175))
       (try (have c32b2 : (t994 == t998) = true := Z175))
       clear c32
       (first | rw [c32b0] | (simp only [i64_w, i32_w]; rw [c32b0]) | skip)
       by_cases c33 : (t994 != t988) = true
       ·rw [if_pos c33] at H
        have c33b0 : (t994 != t988) = true := c33
        (try (have c33b1 : decide (t994 = t988) = false := Z176))
        (try (have c33b2 : (t994 == t988) = false := Z176))
        (try (have c33b3 : ¬ (t994 = t988) := Z176))
        clear c33
        have H' := Aside0.mk H
        clear H
        go_wp2
        go_meet
        case rel => exact ⟨_, (true), Z20, H', ⟨Z156⟩, ⟨Z88⟩, ⟨Z46⟩, ⟨Z47⟩, ⟨Z31⟩⟩
       ·rw [if_neg c33] at H
        have c33b0 : (t994 != t988) = false := by simpa using c33
        (try (have c33b1 : decide (t994 = t988) = true := Z176))
        (try (have c33b2 : (t994 == t988) = true := Z176))
        clear c33
        replace H := Option.bind_eq_some_iff.mp H
        obtain ⟨t999, A340, H⟩ := H
        replace H : (if t999 = true then (if t988 = true then (laws_FnStocks.j1 kj6 l0 ((decide (t987 > 0)) != ((t991.length : Int) == 0))) else (laws_FnStocks.j1 kj6 l0 false)) else (laws_FnStocks.j1 kj6 l0 true)) = some r := H
        have A34 := Aside0.mk A340
        clear A340
        by_cases c35 : t999 = true
        ·subst c35
         have H1 : (if t988 = true then (laws_FnStocks.j1 kj6 l0 ((decide (t987 > 0)) != ((t991.length : Int) == 0))) else (laws_FnStocks.j1 kj6 l0 false)) = some r := by rw [if_pos rfl] at H; exact H
         clear H
         have H := H1
         clear H1
         by_cases c36 : t988 = true
         ·subst c36
          have H1 : (laws_FnStocks.j1 kj6 l0 ((decide (t987 > 0)) != ((t991.length : Int) == 0))) = some r := by rw [if_pos rfl] at H; exact H
          clear H
          have H := H1
          clear H1
          have H' := Aside0.mk H
          clear H
          obtain ⟨Ao37, co37, eo37⟩ := Kd.R_slice HO993.out
          subst eo37
          obtain ⟨Ao38, co38, eo38⟩ := Kd.R_slice HO997.out
          subst eo38
          go_wp2_with (first | (go_at_call 40; (with_reducible refine (laws_vInts.calls kj6 _ _ t991 _ _ t995 true _ ?side1 ?side2 ?side3 ?side4 A34.out).mono ?_); (case side1 => exact Z105); (case side2 => exact (Kd.R_reads' HO993.out).2.1); (case side3 => exact Z106); (case side4 => exact (Kd.R_reads' HO997.out).2.1); rintro e w' ⟨rfl, ⟨nd, rfl⟩⟩))
          go_meet
          case rel => exact ⟨_, (((decide (t987 > 0)) != ((t991.length : Int) == 0))), Z20, H', ⟨Z156⟩, ⟨Z88⟩, ⟨Z46⟩, ⟨Z47⟩, ⟨Z31⟩⟩
         ·replace c36 := Bool.eq_false_iff.mpr c36
          subst c36
          have H1 : (laws_FnStocks.j1 kj6 l0 false) = some r := by rw [if_neg (show ¬ (false = true) by decide)] at H; exact H
          clear H
          have H := H1
          clear H1
          have H' := Aside0.mk H
          clear H
          obtain ⟨Ao39, co39, eo39⟩ := Kd.R_slice HO993.out
          subst eo39
          obtain ⟨Ao40, co40, eo40⟩ := Kd.R_slice HO997.out
          subst eo40
          go_wp2_with (first | (go_at_call 40; (with_reducible refine (laws_vInts.calls kj6 _ _ t991 _ _ t995 true _ ?side1 ?side2 ?side3 ?side4 A34.out).mono ?_); (case side1 => exact Z105); (case side2 => exact (Kd.R_reads' HO993.out).2.1); (case side3 => exact Z106); (case side4 => exact (Kd.R_reads' HO997.out).2.1); rintro e w' ⟨rfl, ⟨nd, rfl⟩⟩))
          go_meet
          case rel => exact ⟨_, (false), Z20, H', ⟨Z156⟩, ⟨Z88⟩, ⟨Z46⟩, ⟨Z47⟩, ⟨Z31⟩⟩
        ·replace c35 := Bool.eq_false_iff.mpr c35
         subst c35
         have H1 : (laws_FnStocks.j1 kj6 l0 true) = some r := by rw [if_neg (show ¬ (false = true) by decide)] at H; exact H
         clear H
         have H := H1
         clear H1
         have H' := Aside0.mk H
         clear H
         obtain ⟨Ao41, co41, eo41⟩ := Kd.R_slice HO993.out
         subst eo41
         obtain ⟨Ao42, co42, eo42⟩ := Kd.R_slice HO997.out
         subst eo42
         go_wp2_with (first | (go_at_call 40; (with_reducible refine (laws_vInts.calls kj6 _ _ t991 _ _ t995 false _ ?side1 ?side2 ?side3 ?side4 A34.out).mono ?_); (case side1 => exact Z105); (case side2 => exact (Kd.R_reads' HO993.out).2.1); (case side3 => exact Z106); (case side4 => exact (Kd.R_reads' HO997.out).2.1); rintro e w' ⟨rfl, ⟨nd, rfl⟩⟩))
         go_meet
         case rel => exact ⟨_, (true), Z20, H', ⟨Z156⟩, ⟨Z88⟩, ⟨Z46⟩, ⟨Z47⟩, ⟨Z31⟩⟩
     case rest =>
      clear HC24
      try clear c1
      try clear c2
      try clear p2
      try clear c3
      try clear c4
      try clear c10
      try clear c11
      try clear c20
      try clear c20b0
      try clear c20b1
      try clear c21
      try clear c23
      try clear c25
      try clear c26
      try clear c27
      try clear c32
      try clear c32b0
      try clear c32b1
      try clear c32b2
      try clear c33
      try clear c33b0
      try clear c33b1
      try clear c33b2
      try clear c35
      try clear c36
      try clear hcz12_0
      try clear hcz12_1
      try clear hcz12_2
      try clear hcz14_0
      try clear hcz14_1
      try clear hcz14_2
      try clear hcz14_3
      try clear hcz17_0
      try clear hcz17_1
      try clear hcz17_2
      try clear hcz18_0
      try clear hcz18_1
      try clear hcz18_2
      try clear hcz18_3
      try clear hcz26_0
      try clear hcz26_1
      try clear hcz26_2
      try clear hcz27_0
      try clear hcz27_1
      try clear hcz27_2
      try clear hcz27_3
      try clear hcz29_0
      try clear hcz29_1
      try clear hcz29_2
      try clear hcz30_0
      try clear hcz30_1
      try clear hcz30_2
      try clear hcz30_3
      try clear hfz12_0
      try clear hfz12_1
      try clear hfz12_2
      try clear hfz14_0
      try clear hfz14_1
      try clear hfz14_2
      try clear hfz14_3
      try clear hfz17_0
      try clear hfz17_1
      try clear hfz17_2
      try clear hfz18_0
      try clear hfz18_1
      try clear hfz18_2
      try clear hfz18_3
      try clear hfz26_0
      try clear hfz26_1
      try clear hfz26_2
      try clear hfz27_0
      try clear hfz27_1
      try clear hfz27_2
      try clear hfz27_3
      try clear hfz29_0
      try clear hfz29_1
      try clear hfz29_2
      try clear hfz30_0
      try clear hfz30_1
      try clear hfz30_2
      try clear hfz30_3
      try clear p2
      obtain ⟨kq, x102_23, rfl, HA, HJ23, HO_986002, BK985, BK986, HB⟩ := hcut
      cases kq with
      | zero => exact absurd HA.out (by simp [laws_FnStocks.j1])
      | succ kj23 =>
       have H := HA.out
       clear HA
       simp only [laws_FnStocks.j1] at H
       by_cases c43 : x102_23 = true
       ·subst c43
        have H1 : (none) = some r := by rw [if_pos rfl] at H; exact H
        clear H
        have H := H1
        clear H1
        exact absurd H (by simp)
       ·replace c43 := Bool.eq_false_iff.mpr c43
        subst c43
        have H1 : ((spec_DrawHungriestColor.f kj23 l0).bind fun bt1000 => ((impl_HungriestColor.f kj23 bt1000.1 bt1000.2.1 bt1000.2.2).bind fun bt1006 => ((spec_HungriestColor.f kj23 bt1000.1 bt1000.2.1 bt1000.2.2).bind fun bt1008 => (if bt1006.1 = bt1008.1 then (laws_FnStocks.j2 kj23 l0 bt1006.1 bt1006.2 (bt1006.2 != bt1008.2) bt1000.1 bt1000.2.1 bt1000.2.2) else (laws_FnStocks.j2 kj23 l0 bt1006.1 bt1006.2 true bt1000.1 bt1000.2.1 bt1000.2.2))))) = some r := by rw [if_neg (show ¬ (false = true) by decide)] at H; exact H
        clear H
        have H := H1
        clear H1
        replace H := Option.bind_eq_some_iff.mp H
        obtain ⟨⟨t1000, t1001, t1002⟩, A440, H⟩ := H
        replace H : ((impl_HungriestColor.f kj23 t1000 t1001 t1002).bind fun bt1006 => ((spec_HungriestColor.f kj23 t1000 t1001 t1002).bind fun bt1008 => (if bt1006.1 = bt1008.1 then (laws_FnStocks.j2 kj23 l0 bt1006.1 bt1006.2 (bt1006.2 != bt1008.2) t1000 t1001 t1002) else (laws_FnStocks.j2 kj23 l0 bt1006.1 bt1006.2 true t1000 t1001 t1002)))) = some r := H
        have A44 := Aside0.mk A440
        clear A440
        replace H := Option.bind_eq_some_iff.mp H
        obtain ⟨⟨t1006, t1007⟩, A450, H⟩ := H
        replace H : ((spec_HungriestColor.f kj23 t1000 t1001 t1002).bind fun bt1008 => (if t1006 = bt1008.1 then (laws_FnStocks.j2 kj23 l0 t1006 t1007 (t1007 != bt1008.2) t1000 t1001 t1002) else (laws_FnStocks.j2 kj23 l0 t1006 t1007 true t1000 t1001 t1002))) = some r := H
        have A45 := Aside0.mk A450
        clear A450
        replace H := Option.bind_eq_some_iff.mp H
        obtain ⟨⟨t1008, t1009⟩, A460, H⟩ := H
        replace H : (if t1006 = t1008 then (laws_FnStocks.j2 kj23 l0 t1006 t1007 (t1007 != t1009) t1000 t1001 t1002) else (laws_FnStocks.j2 kj23 l0 t1006 t1007 true t1000 t1001 t1002)) = some r := H
        have A46 := Aside0.mk A460
        clear A460
        have HC47 := Aside0.mk H
        clear H
        go_upto_region 15 with (first | ((with_reducible refine gate_callee (f := 44) rfl ?_); refine glE (some 104) Try.func44 #[.slice A0 l0.length c0] ?_; (with_reducible refine (spec_DrawHungriestColor.calls kj23 _ _ l0 t1000 t1001 t1002 _ ?side1 ?side2 A44.out).mono ?_); (case side1 => exact Z76); (case side2 => exact HC0.out); rintro e w48 ⟨v1003, rfl, ho0, hb⟩; refine ⟨_, rfl, ?_⟩; have HO1004 := Aside0.mk (Kd.R_lower (Kd.R_new' ho0 (Kd.R_lt Z48)) (below_size Z31)); replace HO_986002 := Aside0.mk (Kd.R_elder' Z48 (Kd.R_base ho0) hb); replace BK985 := bkB BK985 hb; replace BK986 := bkB BK986 hb; replace HB := hbS Z31 hb; (try clear hb); (try clear ho0)) | ((with_reducible refine gate_dst (N := 14) rfl ?_); (try (refine gate_guard (by rfl) ?_; dsimp only)); refine bxE 14 #[.int .i64 0, .int .i64 0, .slice none 0 0] 30 ?_; intro gb1005 hg w49 hbox hb; replace HO_986002 := roB HO_986002 hb; replace HO1004 := roB HO1004 hb; have BK1005 := Aside0.mk (hbox); have GW1005 := gwS hg Z31; have GE1005 := gwS hg Z31; replace HB := hbS Z31 hb; have NB985_1005 := nbL hg BK985; have NB1005_985 := nbG hg BK985; replace BK985 := bkB BK985 hb; have NB986_1005 := nbL hg BK986; have NB1005_986 := nbG hg BK986; replace BK986 := bkB BK986 hb; clear hb hbox hg; have hnb50 := NB1005_985.out; have hnc50 := NB985_1005.out; have hnb51 := NB1005_986.out; have hnc51 := NB986_1005.out; obtain ⟨hcz52_0, hcz52_1, hcz52_2⟩ := bz3 BK1005; obtain ⟨hfz52_0, hfz52_1, hfz52_2⟩ := fz3 BK1005; obtain ⟨Ao53, co53, eo53⟩ := Kd.R_slice HO1004.out; subst eo53) | ((with_reducible refine gate_callee (f := 29) rfl ?_); refine glE (some 107) Try.func29 #[.agg #[.int .i64 t1000, .int .i64 t1001, .slice Ao53 t1002.length co53]] ?_; (with_reducible refine (impl_HungriestColor.calls kj23 t1000 t1001 _ _ t1002 t1006 t1007 _ ?side1 ?side2 A45.out).mono ?_); (case side1 => refine (Kd.R_reads' (e := 3) (base := w.heap.size) (ok := fun k_ => (True ∧ some k_ ≠ (.slice Ao13 t975.length co13 : Value).ownBlock)) (n := t1002.length) (c := co53) ?_).2.2; exact (by (with_reducible repeat (first | apply Kd.R_alloc | apply Kd.R_drewN | apply Kd.R_drew)); exact (Kd.R_mono (Kd.R_far (p := ⟨gb1005, 2, none⟩) (Kd.R_far (p := ⟨gb1005, 1, none⟩) (Kd.R_far (p := ⟨gb1005, 0, none⟩) (Kd.R_types HO1004.out BK1005.out (by decide)) (fun _ hk => hk.2) (.int .i64 t1000)) (fun _ hk => hk.2) (.int .i64 t1001)) (fun _ hk => hk.2) (.slice Ao53 t1002.length co53)) (fun _ h_ => h_.1)))); (case side2 => exact (Kd.R_reads' HO1004.out).2.1); rintro e w54 ⟨rfl, hb⟩; refine ⟨_, rfl, ?_⟩; replace HO_986002 := Aside0.mk (Kd.R_below (by (with_reducible repeat (first | apply Kd.R_alloc | apply Kd.R_drewN | apply Kd.R_drew)); exact (Kd.R_mono (Kd.R_far (p := ⟨gb1005, 2, none⟩) (Kd.R_far (p := ⟨gb1005, 1, none⟩) (Kd.R_far (p := ⟨gb1005, 0, none⟩) (Kd.R_types HO_986002.out BK1005.out (by decide)) (fun _ hk => hk.2) (.int .i64 t1000)) (fun _ hk => hk.2) (.int .i64 t1001)) (fun _ hk => hk.2) (.slice Ao53 t1002.length co53)) (fun _ h_ => h_.1))) hb); replace HO1004 := Aside0.mk (Kd.R_below (by (with_reducible repeat (first | apply Kd.R_alloc | apply Kd.R_drewN | apply Kd.R_drew)); exact (Kd.R_mono (Kd.R_far (p := ⟨gb1005, 2, none⟩) (Kd.R_far (p := ⟨gb1005, 1, none⟩) (Kd.R_far (p := ⟨gb1005, 0, none⟩) (Kd.R_types HO1004.out BK1005.out (by decide)) (fun _ hk => hk.2) (.int .i64 t1000)) (fun _ hk => hk.2) (.int .i64 t1001)) (fun _ hk => hk.2) (.slice Ao53 t1002.length co53)) (fun _ h_ => h_.1))) hb); replace BK985 := Aside0.mk (blk_below (g := gb985) (o := .cells #[.int .i64 t973, .int .i64 t974, .slice Ao13 t975.length co13] 30 (0, 0)) (by (with_reducible repeat (first | refine blk_drewN ?_ _ | refine blk_drew ?_ | refine blk_alloc ?_ _)); refine blk_far ?_ NB985_1005.out _; (with_reducible repeat (first | refine blk_drewN ?_ _ | refine blk_drew ?_ | refine blk_alloc ?_ _)); refine blk_far ?_ NB985_1005.out _; (with_reducible repeat (first | refine blk_drewN ?_ _ | refine blk_drew ?_ | refine blk_alloc ?_ _)); refine blk_far ?_ NB985_1005.out _; (with_reducible repeat (first | refine blk_drewN ?_ _ | refine blk_drew ?_ | refine blk_alloc ?_ _)); exact BK985.out) hb); replace BK986 := Aside0.mk (blk_below (g := gb986) (o := .cells #[.int .i64 t978, .int .i64 t979, .int .i64 t980, .int .i64 t981] 32 (0, 0)) (by (with_reducible repeat (first | refine blk_drewN ?_ _ | refine blk_drew ?_ | refine blk_alloc ?_ _)); refine blk_far ?_ NB986_1005.out _; (with_reducible repeat (first | refine blk_drewN ?_ _ | refine blk_drew ?_ | refine blk_alloc ?_ _)); refine blk_far ?_ NB986_1005.out _; (with_reducible repeat (first | refine blk_drewN ?_ _ | refine blk_drew ?_ | refine blk_alloc ?_ _)); refine blk_far ?_ NB986_1005.out _; (with_reducible repeat (first | refine blk_drewN ?_ _ | refine blk_drew ?_ | refine blk_alloc ?_ _)); exact BK986.out) hb); replace BK1005 := Aside0.mk (blk_below (g := gb1005) (o := .cells #[.int .i64 t1000, .int .i64 t1001, .slice Ao53 t1002.length co53] 30 (0, 0)) (by (with_reducible repeat (first | refine blk_drewN ?_ _ | refine blk_drew ?_ | refine blk_alloc ?_ _)); refine blk_put (cs := #[.int .i64 t1000, .int .i64 t1001, .slice none 0 0]) ?_ 2 _ rfl; (with_reducible repeat (first | refine blk_drewN ?_ _ | refine blk_drew ?_ | refine blk_alloc ?_ _)); refine blk_put (cs := #[.int .i64 t1000, .int .i64 0, .slice none 0 0]) ?_ 1 _ rfl; (with_reducible repeat (first | refine blk_drewN ?_ _ | refine blk_drew ?_ | refine blk_alloc ?_ _)); refine blk_put (cs := #[.int .i64 0, .int .i64 0, .slice none 0 0]) ?_ 0 _ rfl; (with_reducible repeat (first | refine blk_drewN ?_ _ | refine blk_drew ?_ | refine blk_alloc ?_ _)); exact BK1005.out) hb); replace HB := hbS Z23 hb; (try clear hb); obtain ⟨hcz55_0, hcz55_1, hcz55_2⟩ := bz3 BK1005; obtain ⟨hfz55_0, hfz55_1, hfz55_2⟩ := fz3 BK1005) | ((with_reducible refine gate_callee (f := 28) rfl ?_); refine glE (some 112) Try.func28 #[.agg #[.int .i64 t1000, .int .i64 t1001, .slice Ao53 t1002.length co53]] ?_; (with_reducible refine (spec_HungriestColor.calls kj23 t1000 t1001 _ _ t1002 t1008 t1009 _ ?side1 ?side2 A46.out).mono ?_); (case side1 => exact (by repeat (first | exact (Kd.R_reads' HO1004.out).2.2 | (with_reducible refine Kd.C_alloc ?_ _) | (with_reducible refine Kd.C_drewN ?_ _) | (with_reducible refine Kd.C_drew ?_)))); (case side2 => exact (Kd.R_reads' HO1004.out).2.1); rintro e w56 ⟨rfl, hb⟩; refine ⟨_, rfl, ?_⟩; replace HO_986002 := roB HO_986002 hb; replace HO1004 := roB HO1004 hb; replace BK985 := bkB BK985 hb; replace BK986 := bkB BK986 hb; replace BK1005 := bkB BK1005 hb; replace HB := hbS Z23 hb; (try clear hb)))
        (try simp only [Act.put, List.setIfInBounds_toArray, List.set_cons_zero, List.set_cons_succ])
        go_cut [122] (fun v122 wc => ∃ (kq : Nat) (x122_46 : Bool), v122 = .bool x122_46 ∧ Aside0 (laws_FnStocks.j2 kq l0 t1006 t1007 x122_46 t1000 t1001 t1002 = some r) ∧ Aside0 (kq ≤ kj23) ∧ Aside0 (Kd.R (Kd.int .i64) 3 wc w.heap.size (fun k_ => some k_ ≠ ((.slice Ao53 t1002.length co53) : Value).ownBlock) (.slice Ao13 t975.length co13) t975) ∧ Aside0 (Kd.R (Kd.int .i64) 3 wc w.heap.size (fun k_ => some k_ ≠ ((.slice Ao13 t975.length co13) : Value).ownBlock) (.slice Ao53 t1002.length co53) t1002) ∧ Aside0 (wc.heap[gb985]? = some (.cells #[.int .i64 t973, .int .i64 t974, (.slice Ao13 t975.length co13)] 30 (0, 0))) ∧ Aside0 (wc.heap[gb986]? = some (.cells #[.int .i64 t978, .int .i64 t979, .int .i64 t980, .int .i64 t981] 32 (0, 0))) ∧ Aside0 (wc.heap[gb1005]? = some (.cells #[.int .i64 t1000, .int .i64 t1001, (.slice Ao53 t1002.length co53)] 30 (0, 0))) ∧ Aside0 (Below w.heap.size w wc))
        case first =>
         have H := HC47.out
         clear HC47
         by_cases c57 : t1006 = t1008
         ·rw [if_pos c57] at H
          have c57b0 : (t1006 == t1008) = true := beq_iff_eq.mpr c57
          have c57b1 : (t1006 != t1008) = false := bne_eq_false_iff_eq.mpr c57
          clear c57
          (first | rw [c57b0] | (simp only [i64_w, i32_w]; rw [c57b0]) | skip)
          have H' := Aside0.mk H
          clear H
          go_wp2
          go_meet
          case rel => exact ⟨_, ((t1007 != t1009)), Z20, H', ⟨Z172⟩, ⟨Z151⟩, ⟨Z153⟩, ⟨Z46⟩, ⟨Z47⟩, ⟨Z87⟩, ⟨Z23⟩⟩
         ·rw [if_neg c57] at H
          have c57b0 : (t1006 == t1008) = false := beq_eq_false_iff_ne.mpr c57
          have c57b1 : (t1006 != t1008) = true := bne_iff_ne.mpr c57
          (first | rw [c57b0] | (simp only [i64_w, i32_w]; rw [c57b0]) | skip)
          have H' := Aside0.mk H
          clear H
          go_wp2
          go_meet
          case rel => exact ⟨_, (true), Z20, H', ⟨Z172⟩, ⟨Z151⟩, ⟨Z153⟩, ⟨Z46⟩, ⟨Z47⟩, ⟨Z87⟩, ⟨Z23⟩⟩
        case rest =>
         clear HC47
         try clear c1
         try clear c2
         try clear p2
         try clear c3
         try clear c4
         try clear c5
         try clear c10
         try clear c11
         try clear c20
         try clear c20b0
         try clear c20b1
         try clear c21
         try clear c23
         try clear c25
         try clear c26
         try clear c27
         try clear c28
         try clear c29
         try clear c32
         try clear c32b0
         try clear c32b1
         try clear c32b2
         try clear c33
         try clear c33b0
         try clear c33b1
         try clear c33b2
         try clear c35
         try clear c36
         try clear c43
         try clear c44
         try clear c50
         try clear c51
         try clear c57
         try clear c57b0
         try clear c57b1
         try clear hcz12_0
         try clear hcz12_1
         try clear hcz12_2
         try clear hcz14_0
         try clear hcz14_1
         try clear hcz14_2
         try clear hcz14_3
         try clear hcz17_0
         try clear hcz17_1
         try clear hcz17_2
         try clear hcz18_0
         try clear hcz18_1
         try clear hcz18_2
         try clear hcz18_3
         try clear hcz26_0
         try clear hcz26_1
         try clear hcz26_2
         try clear hcz27_0
         try clear hcz27_1
         try clear hcz27_2
         try clear hcz27_3
         try clear hcz29_0
         try clear hcz29_1
         try clear hcz29_2
         try clear hcz30_0
         try clear hcz30_1
         try clear hcz30_2
         try clear hcz30_3
         try clear hcz52_0
         try clear hcz52_1
         try clear hcz52_2
         try clear hcz55_0
         try clear hcz55_1
         try clear hcz55_2
         try clear hfz12_0
         try clear hfz12_1
         try clear hfz12_2
         try clear hfz14_0
         try clear hfz14_1
         try clear hfz14_2
         try clear hfz14_3
         try clear hfz17_0
         try clear hfz17_1
         try clear hfz17_2
         try clear hfz18_0
         try clear hfz18_1
         try clear hfz18_2
         try clear hfz18_3
         try clear hfz26_0
         try clear hfz26_1
         try clear hfz26_2
         try clear hfz27_0
         try clear hfz27_1
         try clear hfz27_2
         try clear hfz27_3
         try clear hfz29_0
         try clear hfz29_1
         try clear hfz29_2
         try clear hfz30_0
         try clear hfz30_1
         try clear hfz30_2
         try clear hfz30_3
         try clear hfz52_0
         try clear hfz52_1
         try clear hfz52_2
         try clear hfz55_0
         try clear hfz55_1
         try clear hfz55_2
         try clear p2
         obtain ⟨kq, x122_46, rfl, HA, HJ46, HO_986002, HO_1006002, BK985, BK986, BK1005, HB⟩ := hcut
         cases kq with
         | zero => exact absurd HA.out (by simp [laws_FnStocks.j2])
         | succ kj46 =>
          have H := HA.out
          clear HA
          simp only [laws_FnStocks.j2] at H
          by_cases c58 : x122_46 = true
          ·subst c58
           have H1 : (none) = some r := by rw [if_pos rfl] at H; exact H
           clear H
           have H := H1
           clear H1
           exact absurd H (by simp)
          ·replace c58 := Bool.eq_false_iff.mpr c58
           subst c58
           have H1 : (if t1007 = true then ((impl_ColorShare.f kj46 t1000 t1001 t1002 t1006).bind fun bt1010 => (laws_FnStocks.l0 kj46 l0 bt1010.1 bt1010.2.1 bt1010.2.2 0 t1000 t1001 t1002)) else ((spec_DrawColorShare.f kj46 l0).bind fun bt1029 => ((impl_ColorShare.f kj46 bt1029.1 bt1029.2.1 bt1029.2.2.1 bt1029.2.2.2).bind fun bt1036 => ((spec_ColorShare.f kj46 bt1029.1 bt1029.2.1 bt1029.2.2.1 bt1029.2.2.2).bind fun bt1039 => (if bt1036.1 = bt1039.1 then (if bt1036.2.1 = bt1039.2.1 then (some (bt1036.2.2 == bt1039.2.2)) else (none)) else (none)))))) = some r := by rw [if_neg (show ¬ (false = true) by decide)] at H; exact H
           clear H
           have H := H1
           clear H1
           by_cases c59 : t1007 = true
           ·subst c59
            have H1 : ((impl_ColorShare.f kj46 t1000 t1001 t1002 t1006).bind fun bt1010 => (laws_FnStocks.l0 kj46 l0 bt1010.1 bt1010.2.1 bt1010.2.2 0 t1000 t1001 t1002)) = some r := by rw [if_pos rfl] at H; exact H
            clear H
            have H := H1
            clear H1
            replace H := Option.bind_eq_some_iff.mp H
            obtain ⟨⟨t1010, t1011, t1012⟩, A600, H⟩ := H
            replace H : (laws_FnStocks.l0 kj46 l0 t1010 t1011 t1012 0 t1000 t1001 t1002) = some r := H
            have A60 := Aside0.mk A600
            clear A600
            have H' := Aside0.mk H
            clear H
            have hnb61 := NB1005_985.out
            have hnc61 := NB985_1005.out
            have hnb62 := NB1005_986.out
            have hnc62 := NB986_1005.out
            obtain ⟨hcz63_0, hcz63_1, hcz63_2⟩ := bz3 BK1005
            obtain ⟨hfz63_0, hfz63_1, hfz63_2⟩ := fz3 BK1005
            go_wp2_with (first | ((with_reducible refine gate_callee (f := 31) rfl ?_); refine glE (some 127) Try.func31 #[.agg #[.int .i64 t1000, .int .i64 t1001, .slice Ao53 t1002.length co53], .int .i64 t1006] ?_; (with_reducible refine (impl_ColorShare.calls kj46 t1000 t1001 _ _ t1002 t1006 t1010 t1011 t1012 _ ?side1 ?side2 A60.out).mono ?_); (case side1 => exact Z128); (case side2 => exact (Kd.R_reads' HO_1006002.out).2.1); rintro e w64 ⟨rfl, hb⟩; refine ⟨_, rfl, ?_⟩; replace HO_986002 := roB HO_986002 hb; replace HO_1006002 := roB HO_1006002 hb; replace BK985 := bkB BK985 hb; replace BK986 := bkB BK986 hb; replace BK1005 := bkB BK1005 hb; replace HB := hbS Z23 hb; (try clear hb)))
            go_loopg [22] kj46 (fun kq v22 w' => ∃ (x22_4 : Int), v22 = .int .i64 x22_4 ∧ Aside0 (laws_FnStocks.l0 kq l0 t1010 t1011 t1012 x22_4 t1000 t1001 t1002 = some r) ∧ Aside0 (kq ≤ kj46) ∧ Aside0 (Kd.R (Kd.int .i64) 3 w' w.heap.size (fun k_ => some k_ ≠ ((.slice Ao53 t1002.length co53) : Value).ownBlock) (.slice Ao13 t975.length co13) t975) ∧ Aside0 (Kd.R (Kd.int .i64) 3 w' w.heap.size (fun k_ => some k_ ≠ ((.slice Ao13 t975.length co13) : Value).ownBlock) (.slice Ao53 t1002.length co53) t1002) ∧ Aside0 (w'.heap[gb985]? = some (.cells #[.int .i64 t973, .int .i64 t974, (.slice Ao13 t975.length co13)] 30 (0, 0))) ∧ Aside0 (w'.heap[gb986]? = some (.cells #[.int .i64 t978, .int .i64 t979, .int .i64 t980, .int .i64 t981] 32 (0, 0))) ∧ Aside0 (w'.heap[gb1005]? = some (.cells #[.int .i64 t1000, .int .i64 t1001, (.slice Ao53 t1002.length co53)] 30 (0, 0))) ∧ Aside0 (Below w.heap.size w w'))
            case atStart => exact ⟨(0), Z20, H', ⟨Nat.le_refl _⟩, ⟨Z48⟩, ⟨Z71⟩, ⟨Z46⟩, ⟨Z47⟩, ⟨Z87⟩, ⟨Z23⟩⟩
            case round =>
             clear H'
             try clear c1
             try clear c2
             try clear p2
             try clear c3
             try clear c4
             try clear c5
             try clear c6
             try clear c10
             try clear c11
             try clear c20
             try clear c20b0
             try clear c20b1
             try clear c21
             try clear c23
             try clear c25
             try clear c26
             try clear c27
             try clear c28
             try clear c29
             try clear c31
             try clear c32
             try clear c32b0
             try clear c32b1
             try clear c32b2
             try clear c33
             try clear c33b0
             try clear c33b1
             try clear c33b2
             try clear c35
             try clear c36
             try clear c43
             try clear c44
             try clear c50
             try clear c51
             try clear c57
             try clear c57b0
             try clear c57b1
             try clear c58
             try clear c59
             try clear c61
             try clear c62
             try clear hcz12_0
             try clear hcz12_1
             try clear hcz12_2
             try clear hcz14_0
             try clear hcz14_1
             try clear hcz14_2
             try clear hcz14_3
             try clear hcz17_0
             try clear hcz17_1
             try clear hcz17_2
             try clear hcz18_0
             try clear hcz18_1
             try clear hcz18_2
             try clear hcz18_3
             try clear hcz26_0
             try clear hcz26_1
             try clear hcz26_2
             try clear hcz27_0
             try clear hcz27_1
             try clear hcz27_2
             try clear hcz27_3
             try clear hcz29_0
             try clear hcz29_1
             try clear hcz29_2
             try clear hcz30_0
             try clear hcz30_1
             try clear hcz30_2
             try clear hcz30_3
             try clear hcz52_0
             try clear hcz52_1
             try clear hcz52_2
             try clear hcz55_0
             try clear hcz55_1
             try clear hcz55_2
             try clear hcz63_0
             try clear hcz63_1
             try clear hcz63_2
             try clear hfz12_0
             try clear hfz12_1
             try clear hfz12_2
             try clear hfz14_0
             try clear hfz14_1
             try clear hfz14_2
             try clear hfz14_3
             try clear hfz17_0
             try clear hfz17_1
             try clear hfz17_2
             try clear hfz18_0
             try clear hfz18_1
             try clear hfz18_2
             try clear hfz18_3
             try clear hfz26_0
             try clear hfz26_1
             try clear hfz26_2
             try clear hfz27_0
             try clear hfz27_1
             try clear hfz27_2
             try clear hfz27_3
             try clear hfz29_0
             try clear hfz29_1
             try clear hfz29_2
             try clear hfz30_0
             try clear hfz30_1
             try clear hfz30_2
             try clear hfz30_3
             try clear hfz52_0
             try clear hfz52_1
             try clear hfz52_2
             try clear hfz55_0
             try clear hfz55_1
             try clear hfz55_2
             try clear hfz63_0
             try clear hfz63_1
             try clear hfz63_2
             try clear p2
             obtain ⟨x22_4, rfl, HA, HK4, HO_986002, HO_1006002, BK985, BK986, BK1005, HB⟩ := hrel
             cases gk with
             | zero => exact absurd HA.out (by simp [laws_FnStocks.l0])
             | succ k4 =>
              have H := HA.out
              clear HA
              simp only [laws_FnStocks.l0] at H
              have HC65 := Aside0.mk H
              clear H
              go_upto_region 20 with (fail)
              go_cut [135] (fun v135 wc => ∃ (kq : Nat) (x135_64 : Bool), v135 = .bool x135_64 ∧ Aside0 (laws_FnStocks.j4 kq l0 t1010 t1011 t1012 x22_4 x135_64 t1000 t1001 t1002 = some r) ∧ Aside0 (kq ≤ k4) ∧ Aside0 (Kd.R (Kd.int .i64) 3 wc w.heap.size (fun k_ => some k_ ≠ ((.slice Ao53 t1002.length co53) : Value).ownBlock) (.slice Ao13 t975.length co13) t975) ∧ Aside0 (Kd.R (Kd.int .i64) 3 wc w.heap.size (fun k_ => some k_ ≠ ((.slice Ao13 t975.length co13) : Value).ownBlock) (.slice Ao53 t1002.length co53) t1002) ∧ Aside0 (wc.heap[gb985]? = some (.cells #[.int .i64 t973, .int .i64 t974, (.slice Ao13 t975.length co13)] 30 (0, 0))) ∧ Aside0 (wc.heap[gb986]? = some (.cells #[.int .i64 t978, .int .i64 t979, .int .i64 t980, .int .i64 t981] 32 (0, 0))) ∧ Aside0 (wc.heap[gb1005]? = some (.cells #[.int .i64 t1000, .int .i64 t1001, (.slice Ao53 t1002.length co53)] 30 (0, 0))) ∧ Aside0 (Below w.heap.size w wc))
              case first =>
               have H := HC65.out
               clear HC65
               by_cases c66 : x22_4 < 6
               ·rw [if_pos c66] at H
                have c66b0 : decide (x22_4 < 6) = true := decide_eq_true c66
                clear c66
                (first | rw [c66b0] | (simp only [i64_w, i32_w]; rw [c66b0]) | skip)
                have H' := Aside0.mk H
                clear H
                go_wp2
                go_meet
                case rel => exact ⟨_, (t1012), Z20, H', ⟨Z163⟩, ⟨Z48⟩, ⟨Z71⟩, ⟨Z46⟩, ⟨Z47⟩, ⟨Z87⟩, ⟨Z23⟩⟩
               ·rw [if_neg c66] at H
                have c66b0 : decide (x22_4 < 6) = false := decide_eq_false c66
                clear c66
                (first | rw [c66b0] | (simp only [i64_w, i32_w]; rw [c66b0]) | skip)
                have H' := Aside0.mk H
                clear H
                go_wp2
                go_meet
                case rel => exact ⟨_, (false), Z20, H', ⟨Z163⟩, ⟨Z48⟩, ⟨Z71⟩, ⟨Z46⟩, ⟨Z47⟩, ⟨Z87⟩, ⟨Z23⟩⟩
              case rest =>
               clear HC65
               try clear c1
               try clear c2
               try clear p2
               try clear c3
               try clear c4
               try clear c5
               try clear c6
               try clear c10
               try clear c11
               try clear c20
               try clear c20b0
               try clear c20b1
               try clear c21
               try clear c23
               try clear c25
               try clear c26
               try clear c27
               try clear c28
               try clear c29
               try clear c31
               try clear c32
               try clear c32b0
               try clear c32b1
               try clear c32b2
               try clear c33
               try clear c33b0
               try clear c33b1
               try clear c33b2
               try clear c35
               try clear c36
               try clear c43
               try clear c44
               try clear c50
               try clear c51
               try clear c57
               try clear c57b0
               try clear c57b1
               try clear c58
               try clear c59
               try clear c61
               try clear c62
               try clear c66
               try clear c66b0
               try clear hcz12_0
               try clear hcz12_1
               try clear hcz12_2
               try clear hcz14_0
               try clear hcz14_1
               try clear hcz14_2
               try clear hcz14_3
               try clear hcz17_0
               try clear hcz17_1
               try clear hcz17_2
               try clear hcz18_0
               try clear hcz18_1
               try clear hcz18_2
               try clear hcz18_3
               try clear hcz26_0
               try clear hcz26_1
               try clear hcz26_2
               try clear hcz27_0
               try clear hcz27_1
               try clear hcz27_2
               try clear hcz27_3
               try clear hcz29_0
               try clear hcz29_1
               try clear hcz29_2
               try clear hcz30_0
               try clear hcz30_1
               try clear hcz30_2
               try clear hcz30_3
               try clear hcz52_0
               try clear hcz52_1
               try clear hcz52_2
               try clear hcz55_0
               try clear hcz55_1
               try clear hcz55_2
               try clear hcz63_0
               try clear hcz63_1
               try clear hcz63_2
               try clear hfz12_0
               try clear hfz12_1
               try clear hfz12_2
               try clear hfz14_0
               try clear hfz14_1
               try clear hfz14_2
               try clear hfz14_3
               try clear hfz17_0
               try clear hfz17_1
               try clear hfz17_2
               try clear hfz18_0
               try clear hfz18_1
               try clear hfz18_2
               try clear hfz18_3
               try clear hfz26_0
               try clear hfz26_1
               try clear hfz26_2
               try clear hfz27_0
               try clear hfz27_1
               try clear hfz27_2
               try clear hfz27_3
               try clear hfz29_0
               try clear hfz29_1
               try clear hfz29_2
               try clear hfz30_0
               try clear hfz30_1
               try clear hfz30_2
               try clear hfz30_3
               try clear hfz52_0
               try clear hfz52_1
               try clear hfz52_2
               try clear hfz55_0
               try clear hfz55_1
               try clear hfz55_2
               try clear hfz63_0
               try clear hfz63_1
               try clear hfz63_2
               try clear p2
               obtain ⟨kq, x135_64, rfl, HA, HJ64, HO_986002, HO_1006002, BK985, BK986, BK1005, HB⟩ := hcut
               cases kq with
               | zero => exact absurd HA.out (by simp [laws_FnStocks.j4])
               | succ kj64 =>
                have H := HA.out
                clear HA
                simp only [laws_FnStocks.j4] at H
                by_cases c67 : x135_64 = true
                ·subst c67
                 have H1 : ((impl_ColorShare.f kj64 t1000 t1001 t1002 x22_4).bind fun bt1013 => (if bt1013.2.2 = true then (if (wrap64 (bt1013.1 * t1011)) > (wrap64 (t1010 * bt1013.2.1)) then (none) else (laws_FnStocks.l0 kj64 l0 t1010 t1011 t1012 (wrap64 (x22_4 + 1)) t1000 t1001 t1002)) else (none))) = some r := by rw [if_pos rfl] at H; exact H
                 clear H
                 have H := H1
                 clear H1
                 replace H := Option.bind_eq_some_iff.mp H
                 obtain ⟨⟨t1013, t1014, t1015⟩, A680, H⟩ := H
                 replace H : (if t1015 = true then (if (wrap64 (t1013 * t1011)) > (wrap64 (t1010 * t1014)) then (none) else (laws_FnStocks.l0 kj64 l0 t1010 t1011 t1012 (wrap64 (x22_4 + 1)) t1000 t1001 t1002)) else (none)) = some r := H
                 have A68 := Aside0.mk A680
                 clear A680
                 by_cases c69 : t1015 = true
                 ·subst c69
                  have H1 : (if (wrap64 (t1013 * t1011)) > (wrap64 (t1010 * t1014)) then (none) else (laws_FnStocks.l0 kj64 l0 t1010 t1011 t1012 (wrap64 (x22_4 + 1)) t1000 t1001 t1002)) = some r := by rw [if_pos rfl] at H; exact H
                  clear H
                  have H := H1
                  clear H1
                  by_cases c70 : (wrap64 (t1013 * t1011)) > (wrap64 (t1010 * t1014))
                  ·rw [if_pos c70] at H
                   exact absurd H (by simp)
                  ·rw [if_neg c70] at H
                   have c70b0 : decide ((wrap64 (t1010 * t1014)) < (wrap64 (t1013 * t1011))) = false := decide_eq_false c70
                   clear c70
                   have H' := Aside0.mk H
                   clear H
                   have hnb71 := NB1005_985.out
                   have hnc71 := NB985_1005.out
                   have hnb72 := NB1005_986.out
                   have hnc72 := NB986_1005.out
                   obtain ⟨hcz73_0, hcz73_1, hcz73_2⟩ := bz3 BK1005
                   obtain ⟨hfz73_0, hfz73_1, hfz73_2⟩ := fz3 BK1005
                   go_wp2_with (first | ((with_reducible refine gate_callee (f := 31) rfl ?_); refine glE (some 141) Try.func31 #[.agg #[.int .i64 t1000, .int .i64 t1001, .slice Ao53 t1002.length co53], .int .i64 x22_4] ?_; (with_reducible refine (impl_ColorShare.calls kj64 t1000 t1001 _ _ t1002 x22_4 t1013 t1014 true _ ?side1 ?side2 A68.out).mono ?_); (case side1 => exact Z128); (case side2 => exact (Kd.R_reads' HO_1006002.out).2.1); rintro e w74 ⟨rfl, hb⟩; refine ⟨_, rfl, ?_⟩; replace HO_986002 := roB HO_986002 hb; replace HO_1006002 := roB HO_1006002 hb; replace BK985 := bkB BK985 hb; replace BK986 := bkB BK986 hb; replace BK1005 := bkB BK1005 hb; replace HB := hbS Z23 hb; (try clear hb)))
                   go_roundg kj64
                   case measure => have := HJ6.out; have := HJ23.out; have := HJ46.out; have := HK4.out; have := HJ64.out; omega
                   case rel => exact ⟨(wrap64 (x22_4 + 1)), Z20, H', ⟨by have := HJ6.out; have := HJ23.out; have := HJ46.out; have := HK4.out; have := HJ64.out; omega⟩, ⟨Z48⟩, ⟨Z71⟩, ⟨Z46⟩, ⟨Z47⟩, ⟨Z87⟩, ⟨Z23⟩⟩
                 ·replace c69 := Bool.eq_false_iff.mpr c69
                  subst c69
                  have H1 : (none) = some r := by rw [if_neg (show ¬ (false = true) by decide)] at H; exact H
                  clear H
                  have H := H1
                  clear H1
                  exact absurd H (by simp)
                ·replace c67 := Bool.eq_false_iff.mpr c67
                 subst c67
                 have H1 : (if t1012 = true then ((spec_DrawColorShare.f kj64 l0).bind fun bt1016 => ((impl_ColorShare.f kj64 bt1016.1 bt1016.2.1 bt1016.2.2.1 bt1016.2.2.2).bind fun bt1023 => ((spec_ColorShare.f kj64 bt1016.1 bt1016.2.1 bt1016.2.2.1 bt1016.2.2.2).bind fun bt1026 => (if bt1023.1 = bt1026.1 then (if bt1023.2.1 = bt1026.2.1 then (some (bt1023.2.2 == bt1026.2.2)) else (none)) else (none))))) else (none)) = some r := by rw [if_neg (show ¬ (false = true) by decide)] at H; exact H
                 clear H
                 have H := H1
                 clear H1
                 by_cases c75 : t1012 = true
                 ·subst c75
                  have H1 : ((spec_DrawColorShare.f kj64 l0).bind fun bt1016 => ((impl_ColorShare.f kj64 bt1016.1 bt1016.2.1 bt1016.2.2.1 bt1016.2.2.2).bind fun bt1023 => ((spec_ColorShare.f kj64 bt1016.1 bt1016.2.1 bt1016.2.2.1 bt1016.2.2.2).bind fun bt1026 => (if bt1023.1 = bt1026.1 then (if bt1023.2.1 = bt1026.2.1 then (some (bt1023.2.2 == bt1026.2.2)) else (none)) else (none))))) = some r := by rw [if_pos rfl] at H; exact H
                  clear H
                  have H := H1
                  clear H1
                  replace H := Option.bind_eq_some_iff.mp H
                  obtain ⟨⟨t1016, t1017, t1018, t1021⟩, A760, H⟩ := H
                  replace H : ((impl_ColorShare.f kj64 t1016 t1017 t1018 t1021).bind fun bt1023 => ((spec_ColorShare.f kj64 t1016 t1017 t1018 t1021).bind fun bt1026 => (if bt1023.1 = bt1026.1 then (if bt1023.2.1 = bt1026.2.1 then (some (bt1023.2.2 == bt1026.2.2)) else (none)) else (none)))) = some r := H
                  have A76 := Aside0.mk A760
                  clear A760
                  replace H := Option.bind_eq_some_iff.mp H
                  obtain ⟨⟨t1023, t1024, t1025⟩, A770, H⟩ := H
                  replace H : ((spec_ColorShare.f kj64 t1016 t1017 t1018 t1021).bind fun bt1026 => (if t1023 = bt1026.1 then (if t1024 = bt1026.2.1 then (some (t1025 == bt1026.2.2)) else (none)) else (none))) = some r := H
                  have A77 := Aside0.mk A770
                  clear A770
                  replace H := Option.bind_eq_some_iff.mp H
                  obtain ⟨⟨t1026, t1027, t1028⟩, A780, H⟩ := H
                  replace H : (if t1023 = t1026 then (if t1024 = t1027 then (some (t1025 == t1028)) else (none)) else (none)) = some r := H
                  have A78 := Aside0.mk A780
                  clear A780
                  by_cases c79 : t1023 = t1026
                  ·rw [if_pos c79] at H
                   have c79b0 : (t1023 == t1026) = true := beq_iff_eq.mpr c79
                   have c79b1 : (t1023 != t1026) = false := bne_eq_false_iff_eq.mpr c79
                   clear c79
                   by_cases c80 : t1024 = t1027
                   ·rw [if_pos c80] at H
                    have c80b0 : (t1024 == t1027) = true := beq_iff_eq.mpr c80
                    have c80b1 : (t1024 != t1027) = false := bne_eq_false_iff_eq.mpr c80
                    clear c80
                    obtain rfl := Option.some.inj H
                    go_wp2_with (first | ((with_reducible refine gate_callee (f := 45) rfl ?_); refine glE (some 160) Try.func45 #[.slice A0 l0.length c0] ?_; (with_reducible refine (spec_DrawColorShare.calls kj64 _ _ l0 t1016 t1017 t1018 t1021 _ ?side1 ?side2 A76.out).mono ?_); (case side1 => exact Z76); (case side2 => exact HC0.out); rintro e w81 ⟨v1019, rfl, ho0, hb⟩; refine ⟨_, rfl, ?_⟩; have HO1020 := Aside0.mk (Kd.R_lower (Kd.R_new' (Kd.R_new' ho0 (Kd.R_lt Z48)) (Kd.R_lt Z71)) (below_size Z23)); replace HO_986002 := Aside0.mk (Kd.R_elder' Z48 (Kd.R_base ho0) hb); replace HO_1006002 := Aside0.mk (Kd.R_elder' Z71 (Kd.R_base ho0) hb); replace BK985 := bkB BK985 hb; replace BK986 := bkB BK986 hb; replace BK1005 := bkB BK1005 hb; replace HB := hbS Z23 hb; (try clear hb); (try clear ho0)) | ((with_reducible refine gate_dst (N := 26) rfl ?_); (try (refine gate_guard (by rfl) ?_; dsimp only)); refine bxE 26 #[.int .i64 0, .int .i64 0, .slice none 0 0] 30 ?_; intro gb1022 hg w82 hbox hb; replace HO_986002 := roB HO_986002 hb; replace HO_1006002 := roB HO_1006002 hb; replace HO1020 := roB HO1020 hb; have BK1022 := Aside0.mk (hbox); have GW1022 := gwS hg Z23; have GE1022 := gwS hg Z23; replace HB := hbS Z23 hb; have NB985_1022 := nbL hg BK985; have NB1022_985 := nbG hg BK985; replace BK985 := bkB BK985 hb; have NB986_1022 := nbL hg BK986; have NB1022_986 := nbG hg BK986; replace BK986 := bkB BK986 hb; have NB1005_1022 := nbL hg BK1005; have NB1022_1005 := nbG hg BK1005; replace BK1005 := bkB BK1005 hb; clear hb hbox hg; have hnb83 := NB1022_985.out; have hnc83 := NB985_1022.out; have hnb84 := NB1022_986.out; have hnc84 := NB986_1022.out; have hnb85 := NB1022_1005.out; have hnc85 := NB1005_1022.out; obtain ⟨hcz86_0, hcz86_1, hcz86_2⟩ := bz3 BK1022; obtain ⟨hfz86_0, hfz86_1, hfz86_2⟩ := fz3 BK1022; obtain ⟨Ao87, co87, eo87⟩ := Kd.R_slice HO1020.out; subst eo87) | ((with_reducible refine gate_callee (f := 31) rfl ?_); refine glE (some 166) Try.func31 #[.agg #[.int .i64 t1016, .int .i64 t1017, .slice Ao87 t1018.length co87], .int .i64 t1021] ?_; (with_reducible refine (impl_ColorShare.calls kj64 t1016 t1017 _ _ t1018 t1021 t1023 t1024 t1025 _ ?side1 ?side2 A77.out).mono ?_); (case side1 => refine (Kd.R_reads' (e := 3) (base := w.heap.size) (ok := fun k_ => ((True ∧ some k_ ≠ (.slice Ao13 t975.length co13 : Value).ownBlock) ∧ some k_ ≠ (.slice Ao53 t1002.length co53 : Value).ownBlock)) (n := t1018.length) (c := co87) ?_).2.2; exact (by (with_reducible repeat (first | apply Kd.R_alloc | apply Kd.R_drewN | apply Kd.R_drew)); exact (Kd.R_mono (Kd.R_far (p := ⟨gb1022, 2, none⟩) (Kd.R_far (p := ⟨gb1022, 1, none⟩) (Kd.R_far (p := ⟨gb1022, 0, none⟩) (Kd.R_types HO1020.out BK1022.out (by decide)) (fun _ hk => hk.2) (.int .i64 t1016)) (fun _ hk => hk.2) (.int .i64 t1017)) (fun _ hk => hk.2) (.slice Ao87 t1018.length co87)) (fun _ h_ => h_.1)))); (case side2 => exact (Kd.R_reads' HO1020.out).2.1); rintro e w88 ⟨rfl, hb⟩; refine ⟨_, rfl, ?_⟩; replace HO_986002 := Aside0.mk (Kd.R_below (by (with_reducible repeat (first | apply Kd.R_alloc | apply Kd.R_drewN | apply Kd.R_drew)); exact (Kd.R_mono (Kd.R_far (p := ⟨gb1022, 2, none⟩) (Kd.R_far (p := ⟨gb1022, 1, none⟩) (Kd.R_far (p := ⟨gb1022, 0, none⟩) (Kd.R_types HO_986002.out BK1022.out (by decide)) (fun _ hk => hk.2) (.int .i64 t1016)) (fun _ hk => hk.2) (.int .i64 t1017)) (fun _ hk => hk.2) (.slice Ao87 t1018.length co87)) (fun _ h_ => h_.1))) hb); replace HO_1006002 := Aside0.mk (Kd.R_below (by (with_reducible repeat (first | apply Kd.R_alloc | apply Kd.R_drewN | apply Kd.R_drew)); exact (Kd.R_mono (Kd.R_far (p := ⟨gb1022, 2, none⟩) (Kd.R_far (p := ⟨gb1022, 1, none⟩) (Kd.R_far (p := ⟨gb1022, 0, none⟩) (Kd.R_types HO_1006002.out BK1022.out (by decide)) (fun _ hk => hk.2) (.int .i64 t1016)) (fun _ hk => hk.2) (.int .i64 t1017)) (fun _ hk => hk.2) (.slice Ao87 t1018.length co87)) (fun _ h_ => h_.1))) hb); replace HO1020 := Aside0.mk (Kd.R_below (by (with_reducible repeat (first | apply Kd.R_alloc | apply Kd.R_drewN | apply Kd.R_drew)); exact (Kd.R_mono (Kd.R_far (p := ⟨gb1022, 2, none⟩) (Kd.R_far (p := ⟨gb1022, 1, none⟩) (Kd.R_far (p := ⟨gb1022, 0, none⟩) (Kd.R_types HO1020.out BK1022.out (by decide)) (fun _ hk => hk.2) (.int .i64 t1016)) (fun _ hk => hk.2) (.int .i64 t1017)) (fun _ hk => hk.2) (.slice Ao87 t1018.length co87)) (fun _ h_ => h_.1))) hb); replace BK985 := Aside0.mk (blk_below (g := gb985) (o := .cells #[.int .i64 t973, .int .i64 t974, .slice Ao13 t975.length co13] 30 (0, 0)) (by (with_reducible repeat (first | refine blk_drewN ?_ _ | refine blk_drew ?_ | refine blk_alloc ?_ _)); refine blk_far ?_ NB985_1022.out _; (with_reducible repeat (first | refine blk_drewN ?_ _ | refine blk_drew ?_ | refine blk_alloc ?_ _)); refine blk_far ?_ NB985_1022.out _; (with_reducible repeat (first | refine blk_drewN ?_ _ | refine blk_drew ?_ | refine blk_alloc ?_ _)); refine blk_far ?_ NB985_1022.out _; (with_reducible repeat (first | refine blk_drewN ?_ _ | refine blk_drew ?_ | refine blk_alloc ?_ _)); exact BK985.out) hb); replace BK986 := Aside0.mk (blk_below (g := gb986) (o := .cells #[.int .i64 t978, .int .i64 t979, .int .i64 t980, .int .i64 t981] 32 (0, 0)) (by (with_reducible repeat (first | refine blk_drewN ?_ _ | refine blk_drew ?_ | refine blk_alloc ?_ _)); refine blk_far ?_ NB986_1022.out _; (with_reducible repeat (first | refine blk_drewN ?_ _ | refine blk_drew ?_ | refine blk_alloc ?_ _)); refine blk_far ?_ NB986_1022.out _; (with_reducible repeat (first | refine blk_drewN ?_ _ | refine blk_drew ?_ | refine blk_alloc ?_ _)); refine blk_far ?_ NB986_1022.out _; (with_reducible repeat (first | refine blk_drewN ?_ _ | refine blk_drew ?_ | refine blk_alloc ?_ _)); exact BK986.out) hb); replace BK1005 := Aside0.mk (blk_below (g := gb1005) (o := .cells #[.int .i64 t1000, .int .i64 t1001, .slice Ao53 t1002.length co53] 30 (0, 0)) (by (with_reducible repeat (first | refine blk_drewN ?_ _ | refine blk_drew ?_ | refine blk_alloc ?_ _)); refine blk_far ?_ NB1005_1022.out _; (with_reducible repeat (first | refine blk_drewN ?_ _ | refine blk_drew ?_ | refine blk_alloc ?_ _)); refine blk_far ?_ NB1005_1022.out _; (with_reducible repeat (first | refine blk_drewN ?_ _ | refine blk_drew ?_ | refine blk_alloc ?_ _)); refine blk_far ?_ NB1005_1022.out _; (with_reducible repeat (first | refine blk_drewN ?_ _ | refine blk_drew ?_ | refine blk_alloc ?_ _)); exact BK1005.out) hb); replace BK1022 := Aside0.mk (blk_below (g := gb1022) (o := .cells #[.int .i64 t1016, .int .i64 t1017, .slice Ao87 t1018.length co87] 30 (0, 0)) (by (with_reducible repeat (first | refine blk_drewN ?_ _ | refine blk_drew ?_ | refine blk_alloc ?_ _)); refine blk_put (cs := #[.int .i64 t1016, .int .i64 t1017, .slice none 0 0]) ?_ 2 _ rfl; (with_reducible repeat (first | refine blk_drewN ?_ _ | refine blk_drew ?_ | refine blk_alloc ?_ _)); refine blk_put (cs := #[.int .i64 t1016, .int .i64 0, .slice none 0 0]) ?_ 1 _ rfl; (with_reducible repeat (first | refine blk_drewN ?_ _ | refine blk_drew ?_ | refine blk_alloc ?_ _)); refine blk_put (cs := #[.int .i64 0, .int .i64 0, .slice none 0 0]) ?_ 0 _ rfl; (with_reducible repeat (first | refine blk_drewN ?_ _ | refine blk_drew ?_ | refine blk_alloc ?_ _)); exact BK1022.out) hb); replace HB := hbS Z83 hb; (try clear hb); obtain ⟨hcz89_0, hcz89_1, hcz89_2⟩ := bz3 BK1022; obtain ⟨hfz89_0, hfz89_1, hfz89_2⟩ := fz3 BK1022) | ((with_reducible refine gate_callee (f := 30) rfl ?_); refine glE (some 173) Try.func30 #[.agg #[.int .i64 t1016, .int .i64 t1017, .slice Ao87 t1018.length co87], .int .i64 t1021] ?_; (with_reducible refine (spec_ColorShare.calls kj64 t1016 t1017 _ _ t1018 t1021 t1026 t1027 t1028 _ ?side1 ?side2 A78.out).mono ?_); (case side1 => exact (by repeat (first | exact (Kd.R_reads' HO1020.out).2.2 | (with_reducible refine Kd.C_alloc ?_ _) | (with_reducible refine Kd.C_drewN ?_ _) | (with_reducible refine Kd.C_drew ?_)))); (case side2 => exact (Kd.R_reads' HO1020.out).2.1); rintro e w90 ⟨rfl, hb⟩; refine ⟨_, rfl, ?_⟩; replace HO_986002 := roB HO_986002 hb; replace HO_1006002 := roB HO_1006002 hb; replace HO1020 := roB HO1020 hb; replace BK985 := bkB BK985 hb; replace BK986 := bkB BK986 hb; replace BK1005 := bkB BK1005 hb; replace BK1022 := bkB BK1022 hb; replace HB := hbS Z83 hb; (try clear hb)))
                    go_ret
                    exact ⟨Z11, Z83⟩
                   ·rw [if_neg c80] at H
                    exact absurd H (by simp)
                  ·rw [if_neg c79] at H
                   exact absurd H (by simp)
                 ·replace c75 := Bool.eq_false_iff.mpr c75
                  subst c75
                  have H1 : (none) = some r := by rw [if_neg (show ¬ (false = true) by decide)] at H; exact H
                  clear H
                  have H := H1
                  clear H1
                  exact absurd H (by simp)
           ·replace c59 := Bool.eq_false_iff.mpr c59
            subst c59
            have H1 : ((spec_DrawColorShare.f kj46 l0).bind fun bt1029 => ((impl_ColorShare.f kj46 bt1029.1 bt1029.2.1 bt1029.2.2.1 bt1029.2.2.2).bind fun bt1036 => ((spec_ColorShare.f kj46 bt1029.1 bt1029.2.1 bt1029.2.2.1 bt1029.2.2.2).bind fun bt1039 => (if bt1036.1 = bt1039.1 then (if bt1036.2.1 = bt1039.2.1 then (some (bt1036.2.2 == bt1039.2.2)) else (none)) else (none))))) = some r := by rw [if_neg (show ¬ (false = true) by decide)] at H; exact H
            clear H
            have H := H1
            clear H1
            replace H := Option.bind_eq_some_iff.mp H
            obtain ⟨⟨t1029, t1030, t1031, t1034⟩, A910, H⟩ := H
            replace H : ((impl_ColorShare.f kj46 t1029 t1030 t1031 t1034).bind fun bt1036 => ((spec_ColorShare.f kj46 t1029 t1030 t1031 t1034).bind fun bt1039 => (if bt1036.1 = bt1039.1 then (if bt1036.2.1 = bt1039.2.1 then (some (bt1036.2.2 == bt1039.2.2)) else (none)) else (none)))) = some r := H
            have A91 := Aside0.mk A910
            clear A910
            replace H := Option.bind_eq_some_iff.mp H
            obtain ⟨⟨t1036, t1037, t1038⟩, A920, H⟩ := H
            replace H : ((spec_ColorShare.f kj46 t1029 t1030 t1031 t1034).bind fun bt1039 => (if t1036 = bt1039.1 then (if t1037 = bt1039.2.1 then (some (t1038 == bt1039.2.2)) else (none)) else (none))) = some r := H
            have A92 := Aside0.mk A920
            clear A920
            replace H := Option.bind_eq_some_iff.mp H
            obtain ⟨⟨t1039, t1040, t1041⟩, A930, H⟩ := H
            replace H : (if t1036 = t1039 then (if t1037 = t1040 then (some (t1038 == t1041)) else (none)) else (none)) = some r := H
            have A93 := Aside0.mk A930
            clear A930
            by_cases c94 : t1036 = t1039
            ·rw [if_pos c94] at H
             have c94b0 : (t1036 == t1039) = true := beq_iff_eq.mpr c94
             have c94b1 : (t1036 != t1039) = false := bne_eq_false_iff_eq.mpr c94
             clear c94
             by_cases c95 : t1037 = t1040
             ·rw [if_pos c95] at H
              have c95b0 : (t1037 == t1040) = true := beq_iff_eq.mpr c95
              have c95b1 : (t1037 != t1040) = false := bne_eq_false_iff_eq.mpr c95
              clear c95
              obtain rfl := Option.some.inj H
              go_wp2_with (first | ((with_reducible refine gate_callee (f := 45) rfl ?_); refine glE (some 160) Try.func45 #[.slice A0 l0.length c0] ?_; (with_reducible refine (spec_DrawColorShare.calls kj46 _ _ l0 t1029 t1030 t1031 t1034 _ ?side1 ?side2 A91.out).mono ?_); (case side1 => exact Z76); (case side2 => exact HC0.out); rintro e w96 ⟨v1032, rfl, ho0, hb⟩; refine ⟨_, rfl, ?_⟩; have HO1033 := Aside0.mk (Kd.R_lower (Kd.R_new' (Kd.R_new' ho0 (Kd.R_lt Z48)) (Kd.R_lt Z71)) (below_size Z23)); replace HO_986002 := Aside0.mk (Kd.R_elder' Z48 (Kd.R_base ho0) hb); replace HO_1006002 := Aside0.mk (Kd.R_elder' Z71 (Kd.R_base ho0) hb); replace BK985 := bkB BK985 hb; replace BK986 := bkB BK986 hb; replace BK1005 := bkB BK1005 hb; replace HB := hbS Z23 hb; (try clear hb); (try clear ho0)) | ((with_reducible refine gate_dst (N := 26) rfl ?_); (try (refine gate_guard (by rfl) ?_; dsimp only)); refine bxE 26 #[.int .i64 0, .int .i64 0, .slice none 0 0] 30 ?_; intro gb1035 hg w97 hbox hb; replace HO_986002 := roB HO_986002 hb; replace HO_1006002 := roB HO_1006002 hb; replace HO1033 := roB HO1033 hb; have BK1035 := Aside0.mk (hbox); have GW1035 := gwS hg Z23; have GE1035 := gwS hg Z23; replace HB := hbS Z23 hb; have NB985_1035 := nbL hg BK985; have NB1035_985 := nbG hg BK985; replace BK985 := bkB BK985 hb; have NB986_1035 := nbL hg BK986; have NB1035_986 := nbG hg BK986; replace BK986 := bkB BK986 hb; have NB1005_1035 := nbL hg BK1005; have NB1035_1005 := nbG hg BK1005; replace BK1005 := bkB BK1005 hb; clear hb hbox hg; have hnb98 := NB1035_985.out; have hnc98 := NB985_1035.out; have hnb99 := NB1035_986.out; have hnc99 := NB986_1035.out; have hnb100 := NB1035_1005.out; have hnc100 := NB1005_1035.out; obtain ⟨hcz101_0, hcz101_1, hcz101_2⟩ := bz3 BK1035; obtain ⟨hfz101_0, hfz101_1, hfz101_2⟩ := fz3 BK1035; obtain ⟨Ao102, co102, eo102⟩ := Kd.R_slice HO1033.out; subst eo102) | ((with_reducible refine gate_callee (f := 31) rfl ?_); refine glE (some 166) Try.func31 #[.agg #[.int .i64 t1029, .int .i64 t1030, .slice Ao102 t1031.length co102], .int .i64 t1034] ?_; (with_reducible refine (impl_ColorShare.calls kj46 t1029 t1030 _ _ t1031 t1034 t1036 t1037 t1038 _ ?side1 ?side2 A92.out).mono ?_); (case side1 => refine (Kd.R_reads' (e := 3) (base := w.heap.size) (ok := fun k_ => ((True ∧ some k_ ≠ (.slice Ao13 t975.length co13 : Value).ownBlock) ∧ some k_ ≠ (.slice Ao53 t1002.length co53 : Value).ownBlock)) (n := t1031.length) (c := co102) ?_).2.2; exact (by (with_reducible repeat (first | apply Kd.R_alloc | apply Kd.R_drewN | apply Kd.R_drew)); exact (Kd.R_mono (Kd.R_far (p := ⟨gb1035, 2, none⟩) (Kd.R_far (p := ⟨gb1035, 1, none⟩) (Kd.R_far (p := ⟨gb1035, 0, none⟩) (Kd.R_types HO1033.out BK1035.out (by decide)) (fun _ hk => hk.2) (.int .i64 t1029)) (fun _ hk => hk.2) (.int .i64 t1030)) (fun _ hk => hk.2) (.slice Ao102 t1031.length co102)) (fun _ h_ => h_.1)))); (case side2 => exact (Kd.R_reads' HO1033.out).2.1); rintro e w103 ⟨rfl, hb⟩; refine ⟨_, rfl, ?_⟩; replace HO_986002 := Aside0.mk (Kd.R_below (by (with_reducible repeat (first | apply Kd.R_alloc | apply Kd.R_drewN | apply Kd.R_drew)); exact (Kd.R_mono (Kd.R_far (p := ⟨gb1035, 2, none⟩) (Kd.R_far (p := ⟨gb1035, 1, none⟩) (Kd.R_far (p := ⟨gb1035, 0, none⟩) (Kd.R_types HO_986002.out BK1035.out (by decide)) (fun _ hk => hk.2) (.int .i64 t1029)) (fun _ hk => hk.2) (.int .i64 t1030)) (fun _ hk => hk.2) (.slice Ao102 t1031.length co102)) (fun _ h_ => h_.1))) hb); replace HO_1006002 := Aside0.mk (Kd.R_below (by (with_reducible repeat (first | apply Kd.R_alloc | apply Kd.R_drewN | apply Kd.R_drew)); exact (Kd.R_mono (Kd.R_far (p := ⟨gb1035, 2, none⟩) (Kd.R_far (p := ⟨gb1035, 1, none⟩) (Kd.R_far (p := ⟨gb1035, 0, none⟩) (Kd.R_types HO_1006002.out BK1035.out (by decide)) (fun _ hk => hk.2) (.int .i64 t1029)) (fun _ hk => hk.2) (.int .i64 t1030)) (fun _ hk => hk.2) (.slice Ao102 t1031.length co102)) (fun _ h_ => h_.1))) hb); replace HO1033 := Aside0.mk (Kd.R_below (by (with_reducible repeat (first | apply Kd.R_alloc | apply Kd.R_drewN | apply Kd.R_drew)); exact (Kd.R_mono (Kd.R_far (p := ⟨gb1035, 2, none⟩) (Kd.R_far (p := ⟨gb1035, 1, none⟩) (Kd.R_far (p := ⟨gb1035, 0, none⟩) (Kd.R_types HO1033.out BK1035.out (by decide)) (fun _ hk => hk.2) (.int .i64 t1029)) (fun _ hk => hk.2) (.int .i64 t1030)) (fun _ hk => hk.2) (.slice Ao102 t1031.length co102)) (fun _ h_ => h_.1))) hb); replace BK985 := Aside0.mk (blk_below (g := gb985) (o := .cells #[.int .i64 t973, .int .i64 t974, .slice Ao13 t975.length co13] 30 (0, 0)) (by (with_reducible repeat (first | refine blk_drewN ?_ _ | refine blk_drew ?_ | refine blk_alloc ?_ _)); refine blk_far ?_ NB985_1035.out _; (with_reducible repeat (first | refine blk_drewN ?_ _ | refine blk_drew ?_ | refine blk_alloc ?_ _)); refine blk_far ?_ NB985_1035.out _; (with_reducible repeat (first | refine blk_drewN ?_ _ | refine blk_drew ?_ | refine blk_alloc ?_ _)); refine blk_far ?_ NB985_1035.out _; (with_reducible repeat (first | refine blk_drewN ?_ _ | refine blk_drew ?_ | refine blk_alloc ?_ _)); exact BK985.out) hb); replace BK986 := Aside0.mk (blk_below (g := gb986) (o := .cells #[.int .i64 t978, .int .i64 t979, .int .i64 t980, .int .i64 t981] 32 (0, 0)) (by (with_reducible repeat (first | refine blk_drewN ?_ _ | refine blk_drew ?_ | refine blk_alloc ?_ _)); refine blk_far ?_ NB986_1035.out _; (with_reducible repeat (first | refine blk_drewN ?_ _ | refine blk_drew ?_ | refine blk_alloc ?_ _)); refine blk_far ?_ NB986_1035.out _; (with_reducible repeat (first | refine blk_drewN ?_ _ | refine blk_drew ?_ | refine blk_alloc ?_ _)); refine blk_far ?_ NB986_1035.out _; (with_reducible repeat (first | refine blk_drewN ?_ _ | refine blk_drew ?_ | refine blk_alloc ?_ _)); exact BK986.out) hb); replace BK1005 := Aside0.mk (blk_below (g := gb1005) (o := .cells #[.int .i64 t1000, .int .i64 t1001, .slice Ao53 t1002.length co53] 30 (0, 0)) (by (with_reducible repeat (first | refine blk_drewN ?_ _ | refine blk_drew ?_ | refine blk_alloc ?_ _)); refine blk_far ?_ NB1005_1035.out _; (with_reducible repeat (first | refine blk_drewN ?_ _ | refine blk_drew ?_ | refine blk_alloc ?_ _)); refine blk_far ?_ NB1005_1035.out _; (with_reducible repeat (first | refine blk_drewN ?_ _ | refine blk_drew ?_ | refine blk_alloc ?_ _)); refine blk_far ?_ NB1005_1035.out _; (with_reducible repeat (first | refine blk_drewN ?_ _ | refine blk_drew ?_ | refine blk_alloc ?_ _)); exact BK1005.out) hb); replace BK1035 := Aside0.mk (blk_below (g := gb1035) (o := .cells #[.int .i64 t1029, .int .i64 t1030, .slice Ao102 t1031.length co102] 30 (0, 0)) (by (with_reducible repeat (first | refine blk_drewN ?_ _ | refine blk_drew ?_ | refine blk_alloc ?_ _)); refine blk_put (cs := #[.int .i64 t1029, .int .i64 t1030, .slice none 0 0]) ?_ 2 _ rfl; (with_reducible repeat (first | refine blk_drewN ?_ _ | refine blk_drew ?_ | refine blk_alloc ?_ _)); refine blk_put (cs := #[.int .i64 t1029, .int .i64 0, .slice none 0 0]) ?_ 1 _ rfl; (with_reducible repeat (first | refine blk_drewN ?_ _ | refine blk_drew ?_ | refine blk_alloc ?_ _)); refine blk_put (cs := #[.int .i64 0, .int .i64 0, .slice none 0 0]) ?_ 0 _ rfl; (with_reducible repeat (first | refine blk_drewN ?_ _ | refine blk_drew ?_ | refine blk_alloc ?_ _)); exact BK1035.out) hb); replace HB := hbS Z84 hb; (try clear hb); obtain ⟨hcz104_0, hcz104_1, hcz104_2⟩ := bz3 BK1035; obtain ⟨hfz104_0, hfz104_1, hfz104_2⟩ := fz3 BK1035) | ((with_reducible refine gate_callee (f := 30) rfl ?_); refine glE (some 173) Try.func30 #[.agg #[.int .i64 t1029, .int .i64 t1030, .slice Ao102 t1031.length co102], .int .i64 t1034] ?_; (with_reducible refine (spec_ColorShare.calls kj46 t1029 t1030 _ _ t1031 t1034 t1039 t1040 t1041 _ ?side1 ?side2 A93.out).mono ?_); (case side1 => exact (by repeat (first | exact (Kd.R_reads' HO1033.out).2.2 | (with_reducible refine Kd.C_alloc ?_ _) | (with_reducible refine Kd.C_drewN ?_ _) | (with_reducible refine Kd.C_drew ?_)))); (case side2 => exact (Kd.R_reads' HO1033.out).2.1); rintro e w105 ⟨rfl, hb⟩; refine ⟨_, rfl, ?_⟩; replace HO_986002 := roB HO_986002 hb; replace HO_1006002 := roB HO_1006002 hb; replace HO1033 := roB HO1033 hb; replace BK985 := bkB BK985 hb; replace BK986 := bkB BK986 hb; replace BK1005 := bkB BK1005 hb; replace BK1035 := bkB BK1035 hb; replace HB := hbS Z84 hb; (try clear hb)))
              go_ret
              exact ⟨Z11, Z84⟩
             ·rw [if_neg c95] at H
              exact absurd H (by simp)
            ·rw [if_neg c94] at H
             exact absurd H (by simp)
end Go.Proofs.Ytnkecgldapagcaa.H
