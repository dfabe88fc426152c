-- by wip/pack.py of this repo
import Derived.Test.YtfeighajmkcjfaaDoorZ00Hx0
import Derived.Test.YtfeighajmkcjfaaDoorZ00Hx1
import Derived.Test.YtfeighajmkcjfaaDoorZ00WApart
import Derived.Test.YtfeighajmkcjfaaDoorZ00WFoot
import Derived.Test.YtfeighajmkcjfaaDoorZ00WLast
import Derived.Test.YtfeighajmkcjfaaDoorZ00WMore
import Derived.Test.YtfeighajmkcjfaaDoorZ00WN
import Derived.Test.YtfeighajmkcjfaaDoorZ00WRepsOne
import Derived.Test.YtfeighajmkcjfaaDoorZ00WTab
import Derived.Test.YtfeighajmkcjfaaDoorZ00WWords
import Derived.Test.YtfeighajmkcjfaaDoorZ00Short
namespace Go.Proofs.YtfeighajmkcjfaaDoor.H
open Go.RowKit Go.Proofs.YtfeighajmkcjfaaDoorW.PrintWords Go.Proofs.YtfeighajmkcjfaaDoorW.PrintLast Go.Proofs.YtfeighajmkcjfaaDoorW.PrintMore
attribute [local go_sem] max2_int min2_int max_two min_two max_three min_three max_four min_four
set_option maxHeartbeats 8000000
set_option maxRecDepth 100000
set_option linter.unusedVariables false
set_option linter.unusedSimpArgs false
def spec_l1Cur_bath.l0 : Nat → List (S43) → Int → List Int → Int → Int → Int → Int → Int → List Int → Option (Int × Int × Int × List Int × Int × Int)
 | 0, _, _, _, _, _, _, _, _, _ => none
 | k + 1, x1, x6, x1000, x1001, x1002, x199000, x199001, x199002, x199003 => if x6 < (x1.length : Int) then ((spec_l1Cur_among.f x1000 x1001 x1002 (([0, 100, 334, 2000, 2000, 50000] : List Int))).bind fun bt202 => (if x199003.length < 17592186044416 then (spec_l1Cur_bath.l0 k x1 (wrap64 (x6 + 1)) x1000 bt202.2.1 bt202.2.2 x199000 x199001 x199002 (x199003 ++ [bt202.1])) else (none))) else ((spec_l1Cur_pick.f x1000 x1001 x1002 50).bind fun bt208 => (if bt208.1 = 0 then ((spec_l1Cur_among.f x1000 bt208.2.1 bt208.2.2 (([0, 501] : List Int))).bind fun bt214 => (some (bt214.1, x199001, x199002, x199003, bt214.2.1, bt214.2.2))) else (if bt208.1 = 1 then ((spec_l1Cur_among.f x1000 bt208.2.1 bt208.2.2 (([(-1), 101] : List Int))).bind fun bt220 => (some (x199000, bt220.1, x199002, x199003, bt220.2.1, bt220.2.2))) else (if bt208.1 = 2 then ((spec_l1Cur_among.f x1000 bt208.2.1 bt208.2.2 (([(-1), 50001] : List Int))).bind fun bt226 => (some (x199000, x199001, bt226.1, x199003, bt226.2.1, bt226.2.2))) else (if bt208.1 = 3 then (if x199003.length < 17592186044416 then (some (x199000, x199001, x199002, (x199003 ++ [5]), bt208.2.1, bt208.2.2)) else (none)) else (if bt208.1 = 4 then (if (x199003.length : Int) > 0 then ((spec_l1Cur_among.f x1000 bt208.2.1 bt208.2.2 (([(-1), 50001] : List Int))).bind fun bt235 => (if 0 < (x199003.length : Int) then (some (x199000, x199001, x199002, (x199003.set (0 : Int).toNat bt235.1), bt235.2.1, bt235.2.2)) else (none))) else (some (x199000, x199001, x199002, x199003, bt208.2.1, bt208.2.2))) else (some (x199000, x199001, x199002, x199003, bt208.2.1, bt208.2.2))))))))
def spec_l1Cur_bath.f (k : Nat) (s0_0 : List Int) (s0_1 : Int) (s0_2 : Int) (l1 : List (S43)) : Option (Int × Int × Int × List Int × Int × Int) := (spec_l1Cur_among.f s0_0 s0_1 s0_2 (([1, 20, 40, 100, 500] : List Int))).bind fun bt183 => ((spec_l1Cur_among.f s0_0 bt183.2.1 bt183.2.2 (([0, 60, 80, 80, 95, 96] : List Int))).bind fun bt189 => ((spec_l1Cur_among.f s0_0 bt189.2.1 bt189.2.2 (([0, 1, 1000, 1001, 2000, 50000] : List Int))).bind fun bt195 => (spec_l1Cur_bath.l0 k l1 0 s0_0 bt195.2.1 bt195.2.2 bt183.1 bt189.1 bt195.1 ([] : List Int))))
def spec_l1Cur_bath.T5 : Bool × List (List Nat × List Nat) := (true, [([], []), ([0], [0]), ([], []), ([], []), ([2, 3], [2, 3]), ([4], [4]), ([1, 5, 4], [1, 5]), ([0, 1, 2, 3, 4, 5, 6], []), ([7, 6, 6, 0, 1, 2, 3, 4, 5, 6], [6, 7])])
def spec_l1Cur_bath.B5 : List Nat := [0, 1, 0, 0, 12, 28, 63, 127, 255]
theorem spec_l1Cur_bath.tab5 : rtab .any (opsOf Tryd.f37 5) = spec_l1Cur_bath.T5 := by kernel_rfl
theorem spec_l1Cur_bath.bits5 : waitsOk spec_l1Cur_bath.T5.2 spec_l1Cur_bath.B5 = true := by kernel_rfl
theorem spec_l1Cur_bath.calls (k : Nat) (g : Nat) (Ah : List Int) (Bu : Int) (Bv : Int) (A1 : Option Addr) (c1 : Nat) (l1 : List (S43)) (r1 : Int) (r2 : Int) (r3 : Int) (r4 : List Int) (r5 : Int) (r6 : Int) (w0 w : World) (hI : IsS59 w0 w g Ah Bu Bv) (hB : Below w0.heap.size w0 w) (Kf : ∀ W_, KeepBut w W_ g none → Kd.C k43 W_ A1 l1.length l1) (Kg : l1.length ≤ c1) (h : spec_l1Cur_bath.f k Ah Bu Bv l1 = some (r1, r2, r3, r4, r5, r6)) :
  Calls Tryd.prog 37 #[.pointer (some ⟨g, 0, none⟩), .slice A1 l1.length c1] w fun e w' => ∃ v3_ : Value, e = .returned (.agg #[.int .i64 r1, .int .i64 r2, .int .i64 r3, v3_]) ∧ Kd.R (Kd.int .i64) 3 w' w.heap.size (fun _ => True) v3_ r4 ∧ IsS59 w0 w' g Ah r5 r6 ∧ Below w0.heap.size w0 w' ∧ KeepBut w w' g none := by
 have hu27 := Tryd.underlying27; have L6 := Aside0.mk Kf; have L7 := Aside0.mk Kg; clear Kf Kg; have HI0 := Aside0.mk hI; have HK := aM (KeepBut.refl w g none); have HL := Aside0.mk hB.size; clear hI; have Kh := Aside0.mk hB.size; have HB := Aside0.mk hB; clear hB; have H : ((spec_l1Cur_among.f Ah Bu Bv (([1, 20, 40, 100, 500] : List Int))).bind fun Bl => ((spec_l1Cur_among.f Ah Bl.2.1 Bl.2.2 (([0, 60, 80, 80, 95, 96] : List Int))).bind fun Bd => ((spec_l1Cur_among.f Ah Bd.2.1 Bd.2.2 (([0, 1, 1000, 1001, 2000, 50000] : List Int))).bind fun Ay => (spec_l1Cur_bath.l0 k l1 0 Ah Ay.2.1 Ay.2.2 Bl.1 Bd.1 Ay.1 ([] : List Int))))) = some (r1, r2, r3, r4, r5, r6) := h; clear h; obtain ⟨Dx, Bw⟩ : ∃ y_ : List Int, y_ = (([1, 20, 40, 100, 500] : List Int)) := ⟨_, rfl⟩
 replace H : ((spec_l1Cur_among.f Ah Bu Bv Dx).bind fun Bl => ((spec_l1Cur_among.f Ah Bl.2.1 Bl.2.2 (([0, 60, 80, 80, 95, 96] : List Int))).bind fun Bd => ((spec_l1Cur_among.f Ah Bd.2.1 Bd.2.2 (([0, 1, 1000, 1001, 2000, 50000] : List Int))).bind fun Ay => (spec_l1Cur_bath.l0 k l1 0 Ah Ay.2.1 Ay.2.2 Bl.1 Bd.1 Ay.1 ([] : List Int))))) = some (r1, r2, r3, r4, r5, r6) := by first | (rw [Bw]; with_reducible exact H) | (have H2_ := (Option.bind_some _ _).symm.trans H; rw [Bw]; with_reducible exact H2_) | (have H2_ := (Option.bind_some _ _).symm.trans H; with_reducible exact H2_) | with_reducible exact H | (rw [Bw]; exact H) | exact H
 have Dh := Aside0.mk Bw; clear Bw; replace H := Option.bind_eq_some_iff.mp H; obtain ⟨⟨Ai, Cl, Cm⟩, Ki, H⟩ := H; replace H : ((spec_l1Cur_among.f Ah Cl Cm (([0, 60, 80, 80, 95, 96] : List Int))).bind fun Bd => ((spec_l1Cur_among.f Ah Bd.2.1 Bd.2.2 (([0, 1, 1000, 1001, 2000, 50000] : List Int))).bind fun Ay => (spec_l1Cur_bath.l0 k l1 0 Ah Ay.2.1 Ay.2.2 Ai Bd.1 Ay.1 ([] : List Int)))) = some (r1, r2, r3, r4, r5, r6) := H; have A3 := Aside0.mk Ki; clear Ki; obtain ⟨Dy, Bx⟩ : ∃ y_ : List Int, y_ = (([0, 60, 80, 80, 95, 96] : List Int)) := ⟨_, rfl⟩
 replace H : ((spec_l1Cur_among.f Ah Cl Cm Dy).bind fun Bd => ((spec_l1Cur_among.f Ah Bd.2.1 Bd.2.2 (([0, 1, 1000, 1001, 2000, 50000] : List Int))).bind fun Ay => (spec_l1Cur_bath.l0 k l1 0 Ah Ay.2.1 Ay.2.2 Ai Bd.1 Ay.1 ([] : List Int)))) = some (r1, r2, r3, r4, r5, r6) := by first | (rw [Bx]; with_reducible exact H) | (have H2_ := (Option.bind_some _ _).symm.trans H; rw [Bx]; with_reducible exact H2_) | (have H2_ := (Option.bind_some _ _).symm.trans H; with_reducible exact H2_) | with_reducible exact H | (rw [Bx]; exact H) | exact H
 have Di := Aside0.mk Bx; clear Bx; replace H := Option.bind_eq_some_iff.mp H; obtain ⟨⟨Ak, Cg, Ch⟩, Kj, H⟩ := H; replace H : ((spec_l1Cur_among.f Ah Cg Ch (([0, 1, 1000, 1001, 2000, 50000] : List Int))).bind fun Ay => (spec_l1Cur_bath.l0 k l1 0 Ah Ay.2.1 Ay.2.2 Ai Ak Ay.1 ([] : List Int))) = some (r1, r2, r3, r4, r5, r6) := H; have A4 := Aside0.mk Kj; clear Kj; obtain ⟨Dz, Bz⟩ : ∃ y_ : List Int, y_ = (([0, 1, 1000, 1001, 2000, 50000] : List Int)) := ⟨_, rfl⟩
 replace H : ((spec_l1Cur_among.f Ah Cg Ch Dz).bind fun Ay => (spec_l1Cur_bath.l0 k l1 0 Ah Ay.2.1 Ay.2.2 Ai Ak Ay.1 ([] : List Int))) = some (r1, r2, r3, r4, r5, r6) := by first | (rw [Bz]; with_reducible exact H) | (have H2_ := (Option.bind_some _ _).symm.trans H; rw [Bz]; with_reducible exact H2_) | (have H2_ := (Option.bind_some _ _).symm.trans H; with_reducible exact H2_) | with_reducible exact H | (rw [Bz]; exact H) | exact H
 have Dj := Aside0.mk Bz; clear Bz; replace H := Option.bind_eq_some_iff.mp H; obtain ⟨⟨Am, Cv, Cw⟩, Kk, H⟩ := H; replace H : (spec_l1Cur_bath.l0 k l1 0 Ah Cv Cw Ai Ak Am ([] : List Int)) = some (r1, r2, r3, r4, r5, r6) := H; have A5 := Aside0.mk Kk; clear Kk; have H' := Aside0.mk H; clear H
 go_enter Tryd.func37, Tryd.ntmps37
 go_wp2_with (first | ((with_reducible refine gate_dst (N := 4) rfl ?_); refine bxE 4 #[.int .i64 0, .int .i64 0, .int .i64 0, .slice none 0 0] 27 ?_; intro Ag hg w6 hbox hb; replace HB := aM (below_step Z7 hb); have Ae := aM (hbox); have Aj := aM ((Z162 : w.heap.size ≤ Ag)); have Ao := aM ((Nat.le_trans Kh.out (Z162 : w.heap.size ≤ Ag) : w0.heap.size ≤ Ag)); replace HK := aM (KeepBut.trans Z5 (KeepBut.of_below hb g none) (.inl rfl)); have Ac := aM ((by rw [hg]; exact Nat.ne_of_lt (IsS59.lt (show IsS59 w0 _ g Ah Bu Bv from Z1)) : g ≠ Ag)); have An := aM ((by rw [hg]; exact Nat.ne_of_gt (IsS59.lt (show IsS59 w0 _ g Ah Bu Bv from Z1)) : Ag ≠ g)); replace HI0 := aM (IsS59.below Z1 hb); clear hb hbox hg) | ((with_reducible refine gate_dst (N := 8) rfl ?_); refine Kd.R_lit (Kd.int .i64) _ 3 ?hg (N := 8) ?hd (xs := ([1, 20, 40, 100, 500] : List Int)) (inner := [.int .i64 1, .int .i64 20, .int .i64 40, .int .i64 100, .int .i64 500]) (ok := fun _ => True) (okp := fun _ => True) ?hr ?hp (fun _ hk => hk) trivial (Below.refl _ _) (Nat.le_refl _) (by simp) ?_; (case hd => rfl); (case hg => rfl); (case hr => first | (go_simp; done) | (go_simp; rfl)); (case hp => exact (Reps.one (show Kd.M (Kd.int .i64) _ _ _ 1 [.int .i64 1] from rfl) (Reps.one (show Kd.M (Kd.int .i64) _ _ _ 20 [.int .i64 20] from rfl) (Reps.one (show Kd.M (Kd.int .i64) _ _ _ 40 [.int .i64 40] from rfl) (Reps.one (show Kd.M (Kd.int .i64) _ _ _ 100 [.int .i64 100] from rfl) (Reps.one (show Kd.M (Kd.int .i64) _ _ _ 500 [.int .i64 500] from rfl) (Reps.none _ _))))))); intro Lh w7 Ef hb hg_ hnew_; clear hg_ hnew_; (first | rw [← Dh.out] at Ef | (simp only [Int.reduceToNat] at Ef; rw [← Dh.out] at Ef)); have Bc := aM (Kd.R_lower Ef (keep_size (w := w) (g := g) (row := none) Z9)); replace Ae := bkB Ae hb; replace HK := aM (KeepBut.trans Z9 (KeepBut.of_below hb g none) (.inl rfl)); replace HB := aM (below_step Z58 hb); replace HI0 := aM (IsS59.below Z28 hb); clear hb Ef; obtain ⟨Li, Lj, Lk⟩ := Kd.R_slice Bc.out; subst Lk) | ((with_reducible refine gate_callee (f := 53) rfl ?_); refine glE (some 9) Tryd.func53 #[.pointer (some ⟨g, 0, none⟩), .slice Li Dx.length Lj] ?_; (with_reducible refine (spec_l1Cur_among.calls g Ah Bu Bv _ _ Dx Ai Cl Cm w0 _ ?side1 ?side2 ?side3 ?side4 ?side5 A3.out).mono ?_); (case side1 => exact Z28); (case side2 => exact Z58); (case side3 => exact (by repeat (first | exact (Kd.R_reads' Bc.out).2.2 | (with_reducible refine Kd.C_alloc ?_ _) | (with_reducible refine Kd.C_drewN ?_ _) | (with_reducible refine Kd.C_drew ?_)))); (case side4 => exact (Kd.R_reads' Bc.out).2.1); (case side5 => exact far_slice (IsS59.own_ne HI0.out Bc.out (by decide))); rintro e L8 ⟨rfl, hi, hb, hk⟩; refine ⟨_, rfl, ?_⟩; replace Ae := aM (KeepBut.blk hk (g' := Ag) (o := .cells #[.int .i64 0, .int .i64 0, .int .i64 0, .slice none 0 0] 27 (0, 0)) Z25 An.out (by simp)); replace Bc := aM (Kd.R_mono (Kd.R_keep (IsS59.apart (show IsS59 w0 _ g Ah Bu Bv from Z28) Z68 (by decide)) hk (fun _ h => h.2)) (fun _ h => h.1)); replace HK := aM (KeepBut.trans Z9 hk (.inl rfl)); replace HB := aM (hb); replace HI0 := aM (hi); (try clear hb); (try clear hk); (try clear hi)) | ((with_reducible refine gate_dst (N := 11) rfl ?_); refine Kd.R_lit (Kd.int .i64) _ 3 ?hg (N := 11) ?hd (xs := ([0, 60, 80, 80, 95, 96] : List Int)) (inner := [.int .i64 0, .int .i64 60, .int .i64 80, .int .i64 80, .int .i64 95, .int .i64 96]) (ok := fun _ => True) (okp := fun _ => True) ?hr ?hp (fun _ hk => hk) trivial (Below.refl _ _) (Nat.le_refl _) (by simp) ?_; (case hd => rfl); (case hg => rfl); (case hr => first | (go_simp; done) | (go_simp; rfl)); (case hp => exact (Reps.one (show Kd.M (Kd.int .i64) _ _ _ 0 [.int .i64 0] from rfl) (Reps.one (show Kd.M (Kd.int .i64) _ _ _ 60 [.int .i64 60] from rfl) (Reps.one (show Kd.M (Kd.int .i64) _ _ _ 80 [.int .i64 80] from rfl) (Reps.one (show Kd.M (Kd.int .i64) _ _ _ 80 [.int .i64 80] from rfl) (Reps.one (show Kd.M (Kd.int .i64) _ _ _ 95 [.int .i64 95] from rfl) (Reps.one (show Kd.M (Kd.int .i64) _ _ _ 96 [.int .i64 96] from rfl) (Reps.none _ _)))))))); intro Ll L9 Cn hb hg_ hnew_; clear hg_ hnew_; (first | rw [← Di.out] at Cn | (simp only [Int.reduceToNat] at Cn; rw [← Di.out] at Cn)); have Bf := aM (Kd.R_lower (Kd.R_new' Cn (Kd.R_lt Z68)) (keep_size (w := w) (g := g) (row := none) Z9)); replace Bc := aM (Kd.R_elder' Z68 (Kd.R_base Cn) hb); replace Ae := bkB Ae hb; replace HK := aM (KeepBut.trans Z9 (KeepBut.of_below hb g none) (.inl rfl)); replace HB := aM (below_step Z58 hb); replace HI0 := aM (IsS59.below Z28 hb); clear hb Cn; obtain ⟨Je, Jf, Jg⟩ := Kd.R_slice Bf.out; subst Jg) | ((with_reducible refine gate_callee (f := 53) rfl ?_); refine glE (some 12) Tryd.func53 #[.pointer (some ⟨g, 0, none⟩), .slice Je Dy.length Jf] ?_; (with_reducible refine (spec_l1Cur_among.calls g Ah Cl Cm _ _ Dy Ak Cg Ch w0 _ ?side1 ?side2 ?side3 ?side4 ?side5 A4.out).mono ?_); (case side1 => exact Z28); (case side2 => exact Z58); (case side3 => exact (by repeat (first | exact (Kd.R_reads' Bf.out).2.2 | (with_reducible refine Kd.C_alloc ?_ _) | (with_reducible refine Kd.C_drewN ?_ _) | (with_reducible refine Kd.C_drew ?_)))); (case side4 => exact (Kd.R_reads' Bf.out).2.1); (case side5 => exact far_slice (IsS59.own_ne HI0.out Bf.out (by decide))); rintro e Ma ⟨rfl, hi, hb, hk⟩; refine ⟨_, rfl, ?_⟩; replace Ae := aM (KeepBut.blk hk (g' := Ag) (o := .cells #[.int .i64 0, .int .i64 0, .int .i64 0, .slice none 0 0] 27 (0, 0)) Z25 An.out (by simp)); replace Bc := aM (Kd.R_mono (Kd.R_keep (IsS59.apart (show IsS59 w0 _ g Ah Cl Cm from Z28) Z68 (by decide)) hk (fun _ h => h.2)) (fun _ h => h.1)); replace Bf := aM (Kd.R_mono (Kd.R_keep (IsS59.apart (show IsS59 w0 _ g Ah Cl Cm from Z28) Z85 (by decide)) hk (fun _ h => h.2)) (fun _ h => h.1)); replace HK := aM (KeepBut.trans Z9 hk (.inl rfl)); replace HB := aM (hb); replace HI0 := aM (hi); (try clear hb); (try clear hk); (try clear hi)) | ((with_reducible refine gate_dst (N := 14) rfl ?_); refine Kd.R_lit (Kd.int .i64) _ 3 ?hg (N := 14) ?hd (xs := ([0, 1, 1000, 1001, 2000, 50000] : List Int)) (inner := [.int .i64 0, .int .i64 1, .int .i64 1000, .int .i64 1001, .int .i64 2000, .int .i64 50000]) (ok := fun _ => True) (okp := fun _ => True) ?hr ?hp (fun _ hk => hk) trivial (Below.refl _ _) (Nat.le_refl _) (by simp) ?_; (case hd => rfl); (case hg => rfl); (case hr => first | (go_simp; done) | (go_simp; rfl)); (case hp => exact (Reps.one (show Kd.M (Kd.int .i64) _ _ _ 0 [.int .i64 0] from rfl) (Reps.one (show Kd.M (Kd.int .i64) _ _ _ 1 [.int .i64 1] from rfl) (Reps.one (show Kd.M (Kd.int .i64) _ _ _ 1000 [.int .i64 1000] from rfl) (Reps.one (show Kd.M (Kd.int .i64) _ _ _ 1001 [.int .i64 1001] from rfl) (Reps.one (show Kd.M (Kd.int .i64) _ _ _ 2000 [.int .i64 2000] from rfl) (Reps.one (show Kd.M (Kd.int .i64) _ _ _ 50000 [.int .i64 50000] from rfl) (Reps.none _ _)))))))); intro Lm Mb Ci hb hg_ hnew_; clear hg_ hnew_; (first | rw [← Dj.out] at Ci | (simp only [Int.reduceToNat] at Ci; rw [← Dj.out] at Ci)); have Bk := aM (Kd.R_lower (Kd.R_new' (Kd.R_new' Ci (Kd.R_lt Z68)) (Kd.R_lt Z85)) (keep_size (w := w) (g := g) (row := none) Z9)); replace Bc := aM (Kd.R_elder' Z68 (Kd.R_base Ci) hb); replace Bf := aM (Kd.R_elder' Z85 (Kd.R_base Ci) hb); replace Ae := bkB Ae hb; replace HK := aM (KeepBut.trans Z9 (KeepBut.of_below hb g none) (.inl rfl)); replace HB := aM (below_step Z58 hb); replace HI0 := aM (IsS59.below Z28 hb); clear hb Ci; obtain ⟨Jh, Ji, Jj⟩ := Kd.R_slice Bk.out; subst Jj) | ((with_reducible refine gate_callee (f := 53) rfl ?_); refine glE (some 15) Tryd.func53 #[.pointer (some ⟨g, 0, none⟩), .slice Jh Dz.length Ji] ?_; (with_reducible refine (spec_l1Cur_among.calls g Ah Cg Ch _ _ Dz Am Cv Cw w0 _ ?side1 ?side2 ?side3 ?side4 ?side5 A5.out).mono ?_); (case side1 => exact Z28); (case side2 => exact Z58); (case side3 => exact (by repeat (first | exact (Kd.R_reads' Bk.out).2.2 | (with_reducible refine Kd.C_alloc ?_ _) | (with_reducible refine Kd.C_drewN ?_ _) | (with_reducible refine Kd.C_drew ?_)))); (case side4 => exact (Kd.R_reads' Bk.out).2.1); (case side5 => exact far_slice (IsS59.own_ne HI0.out Bk.out (by decide))); rintro e Mc ⟨rfl, hi, hb, hk⟩; refine ⟨_, rfl, ?_⟩; replace Ae := aM (KeepBut.blk hk (g' := Ag) (o := .cells #[.int .i64 0, .int .i64 0, .int .i64 0, .slice none 0 0] 27 (0, 0)) Z25 An.out (by simp)); replace Bc := aM (Kd.R_mono (Kd.R_keep (IsS59.apart (show IsS59 w0 _ g Ah Cg Ch from Z28) Z68 (by decide)) hk (fun _ h => h.2)) (fun _ h => h.1)); replace Bf := aM (Kd.R_mono (Kd.R_keep (IsS59.apart (show IsS59 w0 _ g Ah Cg Ch from Z28) Z85 (by decide)) hk (fun _ h => h.2)) (fun _ h => h.1)); replace Bk := aM (Kd.R_mono (Kd.R_keep (IsS59.apart (show IsS59 w0 _ g Ah Cg Ch from Z28) (by (with_reducible repeat (first | apply Kd.R_alloc | apply Kd.R_drewN | apply Kd.R_drew)); exact Bk.out) (by decide)) hk (fun _ h => h.2)) (fun _ h => h.1)); replace HK := aM (KeepBut.trans Z9 hk (.inl rfl)); replace HB := aM (hb); replace HI0 := aM (hi); (try clear hb); (try clear hk); (try clear hi)) | ((with_reducible refine gate_dst (N := 5) rfl ?_); refine bxE 5 #[.int .i64 0, .int .i64 0, .int .i64 0, .slice none 0 0] 27 ?_; intro Au hg Md hbox hb; replace Bc := roB Bc hb; replace Bf := roB Bf hb; replace Bk := roB Bk hb; replace HB := aM (below_step Z58 hb); have Ad := aM (hbox); have Ap := aM ((Z165 : w.heap.size ≤ Au)); have Aw := aM ((Nat.le_trans Kh.out (Z165 : w.heap.size ≤ Au) : w0.heap.size ≤ Au)); replace HK := aM (KeepBut.trans Z9 (KeepBut.of_below hb g none) (.inl rfl)); have Al := nbL hg Ae; have Az := nbG hg Ae; replace Ae := bkB Ae hb; have Af := aM ((by rw [hg]; exact Nat.ne_of_lt (IsS59.lt (show IsS59 w0 _ g Ah Cv Cw from Z28)) : g ≠ Au)); have Av := aM ((by rw [hg]; exact Nat.ne_of_gt (IsS59.lt (show IsS59 w0 _ g Ah Cv Cw from Z28)) : Au ≠ g)); replace HI0 := aM (IsS59.below Z28 hb); clear hb hbox hg; have Kl := Az.out; have Km := Al.out; have Kn := Av.out; have Ko := Af.out; obtain ⟨C2, C3, C4, C5⟩ := bz4 Ad; obtain ⟨C6, C7, C8, C9⟩ := fz4 Ad))
 go_loopg [6] k (fun kq v6 w' => ∃ (Bq : Int) (Aq : Int) (Ar : Int) (Ab : List Int) (u199003 : Value), v6 = .int .i64 Bq ∧ Aside0 (spec_l1Cur_bath.l0 kq l1 Bq Ah Aq Ar Ai Ak Am Ab = some (r1, r2, r3, r4, r5, r6)) ∧ Aside0 (kq ≤ k) ∧ Aside0 (Kd.R (Kd.int .i64) 3 w' w.heap.size (fun _ => True) u199003 Ab) ∧ Aside0 (w'.heap[Ag]? = some (.cells #[.int .i64 0, .int .i64 0, .int .i64 0, (.slice none 0 0)] 27 (0, 0))) ∧ Aside0 (w'.heap[Au]? = some (.cells #[.int .i64 Ai, .int .i64 Ak, .int .i64 Am, u199003] 27 (0, 0))) ∧ Aside0 (IsS59 w0 w' g Ah Aq Ar) ∧ Aside0 (KeepBut w w' g none) ∧ Aside0 (Below w0.heap.size w0 w'))
 case atStart => exact ⟨(0), (Cv), (Cw), (([] : List Int)), (.slice none 0 0), Z20, H', ⟨Nat.le_refl _⟩, ⟨Z48⟩, ⟨by (with_reducible repeat (first | refine blk_drewN ?_ _ | refine blk_drew ?_ | refine blk_alloc ?_ _)); refine blk_far ?_ Al.out _; (with_reducible repeat (first | refine blk_drewN ?_ _ | refine blk_drew ?_ | refine blk_alloc ?_ _)); refine blk_far ?_ Al.out _; (with_reducible repeat (first | refine blk_drewN ?_ _ | refine blk_drew ?_ | refine blk_alloc ?_ _)); refine blk_far ?_ Al.out _; (with_reducible repeat (first | refine blk_drewN ?_ _ | refine blk_drew ?_ | refine blk_alloc ?_ _)); refine blk_far ?_ Al.out _; (with_reducible repeat (first | refine blk_drewN ?_ _ | refine blk_drew ?_ | refine blk_alloc ?_ _)); exact Ae.out⟩, ⟨by (with_reducible repeat (first | refine blk_drewN ?_ _ | refine blk_drew ?_ | refine blk_alloc ?_ _)); refine blk_put (cs := #[.int .i64 Ai, .int .i64 Ak, .int .i64 Am, .slice none 0 0]) ?_ 3 _ rfl; (with_reducible repeat (first | refine blk_drewN ?_ _ | refine blk_drew ?_ | refine blk_alloc ?_ _)); refine blk_put (cs := #[.int .i64 Ai, .int .i64 Ak, .int .i64 0, .slice none 0 0]) ?_ 2 _ rfl; (with_reducible repeat (first | refine blk_drewN ?_ _ | refine blk_drew ?_ | refine blk_alloc ?_ _)); refine blk_put (cs := #[.int .i64 Ai, .int .i64 0, .int .i64 0, .slice none 0 0]) ?_ 1 _ rfl; (with_reducible repeat (first | refine blk_drewN ?_ _ | refine blk_drew ?_ | refine blk_alloc ?_ _)); refine blk_put (cs := #[.int .i64 0, .int .i64 0, .int .i64 0, .slice none 0 0]) ?_ 0 _ rfl; (with_reducible repeat (first | refine blk_drewN ?_ _ | refine blk_drew ?_ | refine blk_alloc ?_ _)); exact Ad.out⟩, ⟨Z2⟩, ⟨Z10⟩, ⟨Z12⟩⟩
 case round =>
  clear H'; (try clear c1); (try clear c2); (try clear p2); (try clear c3); (try clear c5); (try clear Me); (try clear Mf); (try clear C2); (try clear C3); (try clear C4); (try clear C5); (try clear C6); (try clear C7); (try clear C8); (try clear C9); obtain ⟨Bq, Aq, Ar, Ab, u199003, rfl, HA, HK1, Aa, Ae, Ad, HI0, HK, HB⟩ := hrel; cases gk with
  | zero => exact absurd HA.out (by simp [spec_l1Cur_bath.l0])
  | succ k1 =>
   have H := HA.out; clear HA
   simp only [spec_l1Cur_bath.l0] at H
   by_cases Ed : Bq < (l1.length : Int)
   ·rw [if_pos Ed] at H
    have c23b0 : decide (Bq < (l1.length : Int)) = true := decide_eq_true Ed; clear Ed; obtain ⟨Da, B0⟩ : ∃ y_ : List Int, y_ = (([0, 100, 334, 2000, 2000, 50000] : List Int)) := ⟨_, rfl⟩
    replace H : ((spec_l1Cur_among.f Ah Aq Ar Da).bind fun Cx => (if Ab.length < 17592186044416 then (spec_l1Cur_bath.l0 k1 l1 (wrap64 (Bq + 1)) Ah Cx.2.1 Cx.2.2 Ai Ak Am (Ab ++ [Cx.1])) else (none))) = some (r1, r2, r3, r4, r5, r6) := by first | (rw [B0]; with_reducible exact H) | (have H2_ := (Option.bind_some _ _).symm.trans H; rw [B0]; with_reducible exact H2_) | (have H2_ := (Option.bind_some _ _).symm.trans H; with_reducible exact H2_) | with_reducible exact H | (rw [B0]; exact H) | exact H
    have Dk := Aside0.mk B0; clear B0; replace H := Option.bind_eq_some_iff.mp H; obtain ⟨⟨Cy, Db, Dc⟩, Eg, H⟩ := H; replace H : (if Ab.length < 17592186044416 then (spec_l1Cur_bath.l0 k1 l1 (wrap64 (Bq + 1)) Ah Db Dc Ai Ak Am (Ab ++ [Cy])) else (none)) = some (r1, r2, r3, r4, r5, r6) := H; have Ln := Aside0.mk Eg; clear Eg
    by_cases Gw : Ab.length < 17592186044416
    ·rw [if_pos Gw] at H
     have LMc25 := Aside0.mk Gw; clear Gw; obtain ⟨Dd, B2⟩ : ∃ y_ : List Int, y_ = (Ab ++ [Cy]) := ⟨_, rfl⟩
     replace H : (spec_l1Cur_bath.l0 k1 l1 (wrap64 (Bq + 1)) Ah Db Dc Ai Ak Am Dd) = some (r1, r2, r3, r4, r5, r6) := by first | (rw [B2]; with_reducible exact H) | (have H2_ := (Option.bind_some _ _).symm.trans H; rw [B2]; with_reducible exact H2_) | (have H2_ := (Option.bind_some _ _).symm.trans H; with_reducible exact H2_) | with_reducible exact H | (rw [B2]; exact H) | exact H
     have Eh := Aside0.mk B2; clear B2; have H' := Aside0.mk H; clear H
     try go_wp2
     replace Aa := aM (Kd.R_drew Aa.out); replace Ae := aM (blk_drew Ae.out); replace Ad := aM (blk_drew Ad.out); replace HI0 := aM (IsS59.drew HI0.out); replace HK := aM (keep_drew HK.out); replace HB := aM (below_drew1 HB.out); refine start_ (n := 9) (S := fun w' => w'.cell? ⟨Au, 0, none⟩ = some (.int .i64 Ai) ∧ w'.cell? ⟨Au, 1, none⟩ = some (.int .i64 Ak) ∧ w'.cell? ⟨Au, 2, none⟩ = some (.int .i64 Am) ∧ w'.cell? ⟨Au, 3, none⟩ = some (u199003)) (ds := [8]) #[false, false, false, false, false, false, false, false, false] Z37 rfl rfl ⟨(blk_cell Ad.out 0).trans rfl, (blk_cell Ad.out 1).trans rfl, (blk_cell Ad.out 2).trans rfl, (blk_cell Ad.out 3).trans rfl⟩ (fun hHeld => ?_); refine with_tabW spec_l1Cur_bath.tab5 spec_l1Cur_bath.bits5 (fun HT_ HW_ => ?_)
     generalize wr.drew = Mg at Aa Ae Ad HI0 HK HB hHeld ⊢
     refine puR 0 23 #[true, false, false, false, false, false, false, false, false] HT_ rfl rfl ?_; refine puR 2 25 #[true, false, true, false, false, false, false, false, false] HT_ rfl rfl ?_; refine taR 1 24 #[true, true, true, false, false, false, false, false, false] HT_ HW_ hHeld rfl rfl ?_; refine one_ (i := 3) (N := some 26) #[true, true, true, true, false, false, false, false, false] rfl rfl (one_of HT_.out Z37) (by decide) (fun K hK => ?_); refine Kd.R_lit_step (Kd.int .i64) _ 3 ?hg (N := 26) ?hd (xs := ([0, 100, 334, 2000, 2000, 50000] : List Int)) (inner := [.int .i64 0, .int .i64 100, .int .i64 334, .int .i64 2000, .int .i64 2000, .int .i64 50000]) (ok := fun _ => True) (okp := fun _ => True) ?hr ?hp (fun _ hk => hk) trivial (Below.refl _ _) (Nat.le_refl _) (by simp) ?_; (case hd => rfl); (case hg => rfl); (case hr => first | (go_simp; done) | (go_simp; rfl)); (case hp => exact (Reps.one (show Kd.M (Kd.int .i64) _ _ _ 0 [.int .i64 0] from rfl) (Reps.one (show Kd.M (Kd.int .i64) _ _ _ 100 [.int .i64 100] from rfl) (Reps.one (show Kd.M (Kd.int .i64) _ _ _ 334 [.int .i64 334] from rfl) (Reps.one (show Kd.M (Kd.int .i64) _ _ _ 2000 [.int .i64 2000] from rfl) (Reps.one (show Kd.M (Kd.int .i64) _ _ _ 2000 [.int .i64 2000] from rfl) (Reps.one (show Kd.M (Kd.int .i64) _ _ _ 50000 [.int .i64 50000] from rfl) (Reps.none _ _)))))))); intro Lo Mh Co hb hg_ hnew_; clear hg_ hnew_
     (first | rw [← Dk.out] at Co | (simp only [Int.reduceToNat] at Co; rw [← Dk.out] at Co))
     have Bh := aM (Kd.R_lower (Kd.R_new' Co (Kd.R_lt Z15)) (keep_size (w := w) (g := g) (row := none) Z10)); replace Aa := aM (Kd.R_elder' Z15 (Kd.R_base Co) hb); replace Ae := bkB Ae hb; replace Ad := bkB Ad hb; replace HK := aM (KeepBut.trans Z10 (KeepBut.of_below hb g none) (.inl rfl)); replace HB := aM (below_step Z12 hb); replace HI0 := aM (IsS59.below Z2 hb); clear hb Co; obtain ⟨Ei, Ej, Ek⟩ := Kd.R_slice Bh.out
     (first | subst Ek | (injection Ek with f1_ f2_ f3_; have f4_ := f1_.symm; have f5_ := f3_.symm; clear f1_ f2_ f3_; subst f4_; subst f5_))
     refine hK.out _ _ Z89 (fun hHeld => ?_); clear hK K; refine noR 26 ?_; refine one_ (i := 4) (N := some 27) #[true, true, true, true, true, false, false, false, false] rfl rfl (one_of HT_.out Z37) (by decide) (fun K hK => ?_); refine goes_ Tryd.func53 Z37 rfl #[.pointer (some ⟨g, 0, none⟩), .slice Ei Da.length Ej] (by rfl) rfl rfl Z31 ?_; (with_reducible refine (spec_l1Cur_among.calls g Ah Aq Ar _ _ Da Cy Db Dc w0 _ ?side1 ?side2 ?side3 ?side4 ?side5 Ln.out).mono ?_); (case side1 => exact Z2); (case side2 => exact Z12); (case side3 => exact (by repeat (first | exact (Kd.R_reads' Bh.out).2.2 | (with_reducible refine Kd.C_alloc ?_ _) | (with_reducible refine Kd.C_drewN ?_ _) | (with_reducible refine Kd.C_drew ?_)))); (case side4 => exact (Kd.R_reads' Bh.out).2.1); (case side5 => exact far_slice (IsS59.own_ne HI0.out Bh.out (by decide))); rintro e Mi ⟨rfl, hi, hb, hk⟩; refine ⟨_, rfl, ?_⟩; replace Aa := aM (Kd.R_mono (Kd.R_keep (IsS59.apart (show IsS59 w0 _ g Ah Aq Ar from Z2) Z15 (by decide)) hk (fun _ h => h.2)) (fun _ h => h.1)); replace Ae := aM (KeepBut.blk hk (g' := Ag) (o := .cells #[.int .i64 0, .int .i64 0, .int .i64 0, .slice none 0 0] 27 (0, 0)) Z25 An.out (by simp)); replace Ad := aM (KeepBut.blk hk (g' := Au) (o := .cells #[.int .i64 Ai, .int .i64 Ak, .int .i64 Am, u199003] 27 (0, 0)) Z13 Av.out (by simp)); replace Bh := aM (Kd.R_mono (Kd.R_keep (IsS59.apart (show IsS59 w0 _ g Ah Aq Ar from Z2) Z126 (by decide)) hk (fun _ h => h.2)) (fun _ h => h.1)); replace HK := aM (KeepBut.trans Z10 hk (.inl rfl)); replace HB := aM (hb); replace HI0 := aM (hi); (try clear hb); (try clear hb2); (try clear hk); (try clear hi); refine hK.out _ _ Z89 (fun hHeld => ?_); clear hK K; refine noR 27 ?_; refine one_ (i := 5) (N := some 28) #[true, true, true, true, true, true, false, false, false] rfl rfl (one_of HT_.out Z37) (by decide) (fun K hK => ?_); refine value_ (w1 := ?_) (v := ?_) (by rfl) rfl ?_ ?_
     rotate_left 2
     ·go_simp
      constructor
      ·rfl
      ·rfl
     refine hK.out _ _ (by exact ⟨(blk_cell (blk_alloc Ad.out _) 0).trans rfl, (blk_cell (blk_alloc Ad.out _) 1).trans rfl, (blk_cell (blk_alloc Ad.out _) 2).trans rfl, (blk_cell (blk_alloc Ad.out _) 3).trans rfl⟩) (fun hHeld => ?_); clear hK K; refine noR 28 ?_; refine one_ (i := 6) (N := some 29) #[true, true, true, true, true, true, true, false, false] rfl rfl (one_of HT_.out Z37) (by decide) (fun K hK => ?_); refine Kd.R_append_step (Kd.int .i64) w.heap.size (by rfl) (.tmp 24) (.tmp 28) 25 3 (.int .i64 0) 8 rfl Tryd.underlying25 info3 rfl (by decide) (by omega) u199003 Ab Cy [.int .i64 Cy] (fun k_ => nS k_ Ei Da.length Ej) (fun _ => False) rfl rfl ?aP (fun _ hk => hk.elim) ?aF ?aO (Below.refl _ _) ?aS ?aL ?_; (case aP => exact rfl); (case aF => exact (fun k_ hk => Kd.fresh' (Kd.R_lt Z126) k_ hk)); (case aO => exact (by (with_reducible repeat (first | apply Kd.R_alloc | apply Kd.R_drewN | apply Kd.R_drew)); exact Kd.R_mono Aa.out (fun _ hk => hk.2))); (case aS => exact (keep_size (w := w) (g := g) (row := none) Z10)); (case aL => have := LMc25.out; omega); intro Lp Lq ho hb hg hat; rw [← Eh.out] at ho; replace Ae := aM (blk_grown (g := Ag) (o := .cells #[.int .i64 0, .int .i64 0, .int .i64 0, .slice none 0 0] 27 (0, 0)) Z25 hg (Kd.R_ne Aa.out Ae.out (by decide))); replace Ad := aM (blk_grown (g := Au) (o := .cells #[.int .i64 Ai, .int .i64 Ak, .int .i64 Am, u199003] 27 (0, 0)) Z13 hg (Kd.R_ne Aa.out Ad.out (by decide))); replace Bh := aM (Kd.R_after (ok := (fun _ => True)) Z126 hg hat); replace HB := aM (below_weaken Z12 HL.out hb); replace HI0 := aM (IsS59.grown Z2 hg (IsS59.own_ne HI0.out Aa.out (by decide))); replace HK := aM (KeepBut.trans Z10 (KeepBut.of_grown hg g) (Kd.R_base2 Aa.out)); have Dl := aM (ho); clear Aa; clear ho hb hg hat; obtain ⟨El, Em, En⟩ := Kd.R_slice Dl.out
     (first | subst En | (injection En with f1_ f2_ f3_; have f4_ := f1_.symm; have f5_ := f3_.symm; clear f1_ f2_ f3_; subst f4_; subst f5_))
     refine hK.out _ _ Z89 (fun hHeld => ?_); clear hK K; refine noR 29 ?_; refine puR 7 30 #[true, true, true, true, true, true, true, true, false] HT_ rfl rfl ?_; refine last_ (i := 8) (N := none) #[true, true, true, true, true, true, true, true, true] rfl rfl (one_of HT_.out Z37) (by decide) (fun K hK => ?_); have hs33 : Lq.cell? ⟨Au, 3, none⟩ = some (u199003) := (blk_cell Ad.out 3).trans rfl; have hfs33 := blk_frozen Ad.out 3; have hns33_0 := Al.out; have hms33_0 := Az.out; refine skip_ (w1 := ?_) (by rfl) rfl ?_ ?_
     rotate_left
     ·go_simp
      rfl
     refine hK.out _ _ ?_; clear hK K; refine done_ (done_of HT_.out Z37) ?_
     try go_wp2
     go_roundg k1
     case measure => have := HK1.out; omega
     case rel => exact ⟨(wrap64 (Bq + 1)), (Db), (Dc), (Dd), (.slice El Dd.length Em), Z20, H', ⟨Z135⟩, ⟨by (with_reducible repeat (first | apply Kd.R_alloc | apply Kd.R_drewN | apply Kd.R_drew)); exact Kd.R_mono (Kd.R_far (p := ⟨Au, 3, none⟩) (Kd.R_types Dl.out Ad.out (by decide)) (fun _ hk => hk.2) (.slice El Dd.length Em)) (fun _ hk => trivial)⟩, ⟨by (with_reducible repeat (first | refine blk_drewN ?_ _ | refine blk_drew ?_ | refine blk_alloc ?_ _)); refine blk_far ?_ Al.out _; (with_reducible repeat (first | refine blk_drewN ?_ _ | refine blk_drew ?_ | refine blk_alloc ?_ _)); exact Ae.out⟩, ⟨by (with_reducible repeat (first | refine blk_drewN ?_ _ | refine blk_drew ?_ | refine blk_alloc ?_ _)); refine blk_put (cs := #[.int .i64 Ai, .int .i64 Ak, .int .i64 Am, u199003]) ?_ 3 _ rfl; (with_reducible repeat (first | refine blk_drewN ?_ _ | refine blk_drew ?_ | refine blk_alloc ?_ _)); exact Ad.out⟩, ⟨Z2⟩, ⟨Z10⟩, ⟨Z12⟩⟩
    ·rw [if_neg Gw] at H
     exact absurd H (by simp)
   ·rw [if_neg Ed] at H
    have c23b0 : decide (Bq < (l1.length : Int)) = false := decide_eq_false Ed; clear Ed; replace H := Option.bind_eq_some_iff.mp H; obtain ⟨⟨Ax, Ba, Bb⟩, Eo, H⟩ := H; replace H : (if Ax = 0 then ((spec_l1Cur_among.f Ah Ba Bb (([0, 501] : List Int))).bind fun Bm => (some (Bm.1, Ak, Am, Ab, Bm.2.1, Bm.2.2))) else (if Ax = 1 then ((spec_l1Cur_among.f Ah Ba Bb (([(-1), 101] : List Int))).bind fun Bn => (some (Ai, Bn.1, Am, Ab, Bn.2.1, Bn.2.2))) else (if Ax = 2 then ((spec_l1Cur_among.f Ah Ba Bb (([(-1), 50001] : List Int))).bind fun Bo => (some (Ai, Ak, Bo.1, Ab, Bo.2.1, Bo.2.2))) else (if Ax = 3 then (if Ab.length < 17592186044416 then (some (Ai, Ak, Am, (Ab ++ [5]), Ba, Bb)) else (none)) else (if Ax = 4 then (if (Ab.length : Int) > 0 then ((spec_l1Cur_among.f Ah Ba Bb (([(-1), 50001] : List Int))).bind fun Bp => (if 0 < (Ab.length : Int) then (some (Ai, Ak, Am, (Ab.set (0 : Int).toNat Bp.1), Bp.2.1, Bp.2.2)) else (none))) else (some (Ai, Ak, Am, Ab, Ba, Bb))) else (some (Ai, Ak, Am, Ab, Ba, Bb))))))) = some (r1, r2, r3, r4, r5, r6) := H; have D0 := Aside0.mk Eo; clear Eo
    by_cases D1 : Ax = 0
    ·rw [if_pos D1] at H
     have c35b0 : (Ax == 0) = true := beq_iff_eq.mpr D1; have c35b1 : (Ax != 0) = false := bne_eq_false_iff_eq.mpr D1; clear D1; obtain ⟨D2, B6⟩ : ∃ y_ : List Int, y_ = (([0, 501] : List Int)) := ⟨_, rfl⟩
     replace H : ((spec_l1Cur_among.f Ah Ba Bb D2).bind fun Bm => (some (Bm.1, Ak, Am, Ab, Bm.2.1, Bm.2.2))) = some (r1, r2, r3, r4, r5, r6) := by first | (rw [B6]; with_reducible exact H) | (have H2_ := (Option.bind_some _ _).symm.trans H; rw [B6]; with_reducible exact H2_) | (have H2_ := (Option.bind_some _ _).symm.trans H; with_reducible exact H2_) | with_reducible exact H | (rw [B6]; exact H) | exact H
     have Dm := Aside0.mk B6; clear B6; replace H := Option.bind_eq_some_iff.mp H; obtain ⟨⟨Ca, Ep, Er⟩, Es, H⟩ := H; replace H : (some (Ca, Ak, Am, Ab, Ep, Er)) = some (r1, r2, r3, r4, r5, r6) := H; have Lr := Aside0.mk Es; clear Es
     simp only [Option.some.injEq, Prod.mk.injEq] at H
     obtain ⟨rfl, rfl, rfl, rfl, rfl, rfl⟩ := H
     go_wp2_with (first | ((with_reducible refine gate_callee (f := 40) rfl ?_); refine glE (some 32) Tryd.func40 #[.pointer (some ⟨g, 0, none⟩), .int .i64 50] ?_; (with_reducible refine (spec_l1Cur_pick.calls g Ah Aq Ar 50 Ax Ba Bb w0 _ ?side1 ?side2 D0.out).mono ?_); (case side1 => exact Z2); (case side2 => exact Z12); rintro e Mj ⟨rfl, hi, hb, hk⟩; refine ⟨_, rfl, ?_⟩; replace Aa := aM (Kd.R_mono (Kd.R_keep (IsS59.apart (show IsS59 w0 _ g Ah Aq Ar from Z2) Z15 (by decide)) hk (fun _ h => h.2)) (fun _ h => h.1)); replace Ae := aM (KeepBut.blk hk (g' := Ag) (o := .cells #[.int .i64 0, .int .i64 0, .int .i64 0, .slice none 0 0] 27 (0, 0)) Z25 An.out (by simp)); replace Ad := aM (KeepBut.blk hk (g' := Au) (o := .cells #[.int .i64 Ai, .int .i64 Ak, .int .i64 Am, u199003] 27 (0, 0)) Z13 Av.out (by simp)); replace HK := aM (KeepBut.trans Z10 hk (.inl rfl)); replace HB := aM (hb); replace HI0 := aM (hi); (try clear hb); (try clear hk); (try clear hi)) | ((with_reducible refine gate_dst (N := 36) rfl ?_); refine Kd.R_lit (Kd.int .i64) _ 3 ?hg (N := 36) ?hd (xs := ([0, 501] : List Int)) (inner := [.int .i64 0, .int .i64 501]) (ok := fun _ => True) (okp := fun _ => True) ?hr ?hp (fun _ hk => hk) trivial (Below.refl _ _) (Nat.le_refl _) (by simp) ?_; (case hd => rfl); (case hg => rfl); (case hr => first | (go_simp; done) | (go_simp; rfl)); (case hp => exact (Reps.one (show Kd.M (Kd.int .i64) _ _ _ 0 [.int .i64 0] from rfl) (Reps.one (show Kd.M (Kd.int .i64) _ _ _ 501 [.int .i64 501] from rfl) (Reps.none _ _)))); intro Ls Mk Cp hb hg_ hnew_; clear hg_ hnew_; (first | rw [← Dm.out] at Cp | (simp only [Int.reduceToNat] at Cp; rw [← Dm.out] at Cp)); have Br := aM (Kd.R_lower (Kd.R_new' Cp (Kd.R_lt Z15)) (keep_size (w := w) (g := g) (row := none) Z10)); replace Aa := aM (Kd.R_elder' Z15 (Kd.R_base Cp) hb); replace Ae := bkB Ae hb; replace Ad := bkB Ad hb; replace HK := aM (KeepBut.trans Z10 (KeepBut.of_below hb g none) (.inl rfl)); replace HB := aM (below_step Z12 hb); replace HI0 := aM (IsS59.below Z2 hb); clear hb Cp; obtain ⟨Jk, Jl, Jm⟩ := Kd.R_slice Br.out; subst Jm) | ((with_reducible refine gate_callee (f := 53) rfl ?_); refine glE (some 37) Tryd.func53 #[.pointer (some ⟨g, 0, none⟩), .slice Jk D2.length Jl] ?_; (with_reducible refine (spec_l1Cur_among.calls g Ah Ba Bb _ _ D2 Ca Ep Er w0 _ ?side1 ?side2 ?side3 ?side4 ?side5 Lr.out).mono ?_); (case side1 => exact Z2); (case side2 => exact Z12); (case side3 => exact (by repeat (first | exact (Kd.R_reads' Br.out).2.2 | (with_reducible refine Kd.C_alloc ?_ _) | (with_reducible refine Kd.C_drewN ?_ _) | (with_reducible refine Kd.C_drew ?_)))); (case side4 => exact (Kd.R_reads' Br.out).2.1); (case side5 => exact far_slice (IsS59.own_ne HI0.out Br.out (by decide))); rintro e Ml ⟨rfl, hi, hb, hk⟩; refine ⟨_, rfl, ?_⟩; replace Aa := aM (Kd.R_mono (Kd.R_keep (IsS59.apart (show IsS59 w0 _ g Ah Ba Bb from Z2) Z15 (by decide)) hk (fun _ h => h.2)) (fun _ h => h.1)); replace Ae := aM (KeepBut.blk hk (g' := Ag) (o := .cells #[.int .i64 0, .int .i64 0, .int .i64 0, .slice none 0 0] 27 (0, 0)) Z25 An.out (by simp)); replace Ad := aM (KeepBut.blk hk (g' := Au) (o := .cells #[.int .i64 Ai, .int .i64 Ak, .int .i64 Am, u199003] 27 (0, 0)) Z13 Av.out (by simp)); replace Br := aM (Kd.R_mono (Kd.R_keep (IsS59.apart (show IsS59 w0 _ g Ah Ba Bb from Z2) (by (with_reducible repeat (first | apply Kd.R_alloc | apply Kd.R_drewN | apply Kd.R_drew)); exact Br.out) (by decide)) hk (fun _ h => h.2)) (fun _ h => h.1)); replace HK := aM (KeepBut.trans Z10 hk (.inl rfl)); replace HB := aM (hb); replace HI0 := aM (hi); (try clear hb); (try clear hk); (try clear hi); have Kp := Az.out; have Kq := Al.out; have Kr := Av.out; have Ks := Af.out; obtain ⟨Gx, Gy, Gz, G0⟩ := bz4 Ad; obtain ⟨G1, G2, G3, G4⟩ := fz4 Ad; have Kt := An.out; have Ku := Ac.out; obtain ⟨G5, G6, G7, G8⟩ := bz4 Ae; obtain ⟨G9, Ha, Hb, Hc⟩ := fz4 Ae; obtain ⟨Et, Eu, Jn⟩ := Kd.R_slice Aa.out; subst Jn))
     refine bodyPost_ret (results_cell_row rfl _ _ Ag 27 #[.int .i64 Ca, .int .i64 Ak, .int .i64 Am, .slice Et Ab.length Eu] (0, 0) _ rfl (by (with_reducible repeat (first | refine blk_drewN ?_ _ | refine blk_drew ?_ | refine blk_alloc ?_ _)); refine blk_put (cs := #[.int .i64 Ca, .int .i64 Ak, .int .i64 Am, .slice none 0 0]) ?_ 3 _ rfl; (with_reducible repeat (first | refine blk_drewN ?_ _ | refine blk_drew ?_ | refine blk_alloc ?_ _)); refine blk_put (cs := #[.int .i64 Ca, .int .i64 Ak, .int .i64 0, .slice none 0 0]) ?_ 2 _ rfl; (with_reducible repeat (first | refine blk_drewN ?_ _ | refine blk_drew ?_ | refine blk_alloc ?_ _)); refine blk_put (cs := #[.int .i64 Ca, .int .i64 0, .int .i64 0, .slice none 0 0]) ?_ 1 _ rfl; (with_reducible repeat (first | refine blk_drewN ?_ _ | refine blk_drew ?_ | refine blk_alloc ?_ _)); refine blk_put (cs := #[.int .i64 0, .int .i64 0, .int .i64 0, .slice none 0 0]) ?_ 0 _ rfl; (with_reducible repeat (first | refine blk_drewN ?_ _ | refine blk_drew ?_ | refine blk_alloc ?_ _)); refine blk_far ?_ Al.out _; (with_reducible repeat (first | refine blk_drewN ?_ _ | refine blk_drew ?_ | refine blk_alloc ?_ _)); exact Ae.out) Tryd.underlying27 rfl Z37) rfl ?_
     exact ⟨_, Z6, by (with_reducible repeat (first | apply Kd.R_alloc | apply Kd.R_drewN | apply Kd.R_drew)); exact Kd.R_mono (Kd.R_far (p := ⟨Ag, 3, none⟩) (Kd.R_far (p := ⟨Ag, 2, none⟩) (Kd.R_far (p := ⟨Ag, 1, none⟩) (Kd.R_far (p := ⟨Ag, 0, none⟩) (Kd.R_far (p := ⟨Au, 0, none⟩) (Kd.R_types (Kd.R_types Aa.out Ad.out (by decide)) Ae.out (by decide)) (fun _ hk => hk.1.2) (.int .i64 Ca)) (fun _ hk => hk.2) (.int .i64 Ca)) (fun _ hk => hk.2) (.int .i64 Ak)) (fun _ hk => hk.2) (.int .i64 Am)) (fun _ hk => hk.2) (.slice Et Ab.length Eu)) (fun _ hk => trivial), Z2, Z12, Z10⟩
    ·rw [if_neg D1] at H
     have c35b0 : (Ax == 0) = false := beq_eq_false_iff_ne.mpr D1; have c35b1 : (Ax != 0) = true := bne_iff_ne.mpr D1
     by_cases D3 : Ax = 1
     ·rw [if_pos D3] at H
      have c48b0 : (Ax == 1) = true := beq_iff_eq.mpr D3; have c48b1 : (Ax != 1) = false := bne_eq_false_iff_eq.mpr D3; clear D3; obtain ⟨D4, Cb⟩ : ∃ y_ : List Int, y_ = (([(-1), 101] : List Int)) := ⟨_, rfl⟩
      replace H : ((spec_l1Cur_among.f Ah Ba Bb D4).bind fun Bn => (some (Ai, Bn.1, Am, Ab, Bn.2.1, Bn.2.2))) = some (r1, r2, r3, r4, r5, r6) := by first | (rw [Cb]; with_reducible exact H) | (have H2_ := (Option.bind_some _ _).symm.trans H; rw [Cb]; with_reducible exact H2_) | (have H2_ := (Option.bind_some _ _).symm.trans H; with_reducible exact H2_) | with_reducible exact H | (rw [Cb]; exact H) | exact H
      have Dn := Aside0.mk Cb; clear Cb; replace H := Option.bind_eq_some_iff.mp H; obtain ⟨⟨Cj, Ew, Ex⟩, Ey, H⟩ := H; replace H : (some (Ai, Cj, Am, Ab, Ew, Ex)) = some (r1, r2, r3, r4, r5, r6) := H; have Lt := Aside0.mk Ey; clear Ey
      simp only [Option.some.injEq, Prod.mk.injEq] at H
      obtain ⟨rfl, rfl, rfl, rfl, rfl, rfl⟩ := H
      go_wp2_with (first | ((with_reducible refine gate_callee (f := 40) rfl ?_); refine glE (some 32) Tryd.func40 #[.pointer (some ⟨g, 0, none⟩), .int .i64 50] ?_; (with_reducible refine (spec_l1Cur_pick.calls g Ah Aq Ar 50 Ax Ba Bb w0 _ ?side1 ?side2 D0.out).mono ?_); (case side1 => exact Z2); (case side2 => exact Z12); rintro e Mm ⟨rfl, hi, hb, hk⟩; refine ⟨_, rfl, ?_⟩; replace Aa := aM (Kd.R_mono (Kd.R_keep (IsS59.apart (show IsS59 w0 _ g Ah Aq Ar from Z2) Z15 (by decide)) hk (fun _ h => h.2)) (fun _ h => h.1)); replace Ae := aM (KeepBut.blk hk (g' := Ag) (o := .cells #[.int .i64 0, .int .i64 0, .int .i64 0, .slice none 0 0] 27 (0, 0)) Z25 An.out (by simp)); replace Ad := aM (KeepBut.blk hk (g' := Au) (o := .cells #[.int .i64 Ai, .int .i64 Ak, .int .i64 Am, u199003] 27 (0, 0)) Z13 Av.out (by simp)); replace HK := aM (KeepBut.trans Z10 hk (.inl rfl)); replace HB := aM (hb); replace HI0 := aM (hi); (try clear hb); (try clear hk); (try clear hi)) | ((with_reducible refine gate_dst (N := 42) rfl ?_); refine Kd.R_lit (Kd.int .i64) _ 3 ?hg (N := 42) ?hd (xs := ([(-1), 101] : List Int)) (inner := [.int .i64 (-1), .int .i64 101]) (ok := fun _ => True) (okp := fun _ => True) ?hr ?hp (fun _ hk => hk) trivial (Below.refl _ _) (Nat.le_refl _) (by simp) ?_; (case hd => rfl); (case hg => rfl); (case hr => first | (go_simp; done) | (go_simp; rfl)); (case hp => exact (Reps.one (show Kd.M (Kd.int .i64) _ _ _ (-1) [.int .i64 (-1)] from rfl) (Reps.one (show Kd.M (Kd.int .i64) _ _ _ 101 [.int .i64 101] from rfl) (Reps.none _ _)))); intro Lu Mn Cq hb hg_ hnew_; clear hg_ hnew_; (first | rw [← Dn.out] at Cq | (simp only [Int.reduceToNat] at Cq; rw [← Dn.out] at Cq)); have Bs := aM (Kd.R_lower (Kd.R_new' Cq (Kd.R_lt Z15)) (keep_size (w := w) (g := g) (row := none) Z10)); replace Aa := aM (Kd.R_elder' Z15 (Kd.R_base Cq) hb); replace Ae := bkB Ae hb; replace Ad := bkB Ad hb; replace HK := aM (KeepBut.trans Z10 (KeepBut.of_below hb g none) (.inl rfl)); replace HB := aM (below_step Z12 hb); replace HI0 := aM (IsS59.below Z2 hb); clear hb Cq; obtain ⟨Jo, Jp, Jq⟩ := Kd.R_slice Bs.out; subst Jq) | ((with_reducible refine gate_callee (f := 53) rfl ?_); refine glE (some 43) Tryd.func53 #[.pointer (some ⟨g, 0, none⟩), .slice Jo D4.length Jp] ?_; (with_reducible refine (spec_l1Cur_among.calls g Ah Ba Bb _ _ D4 Cj Ew Ex w0 _ ?side1 ?side2 ?side3 ?side4 ?side5 Lt.out).mono ?_); (case side1 => exact Z2); (case side2 => exact Z12); (case side3 => exact (by repeat (first | exact (Kd.R_reads' Bs.out).2.2 | (with_reducible refine Kd.C_alloc ?_ _) | (with_reducible refine Kd.C_drewN ?_ _) | (with_reducible refine Kd.C_drew ?_)))); (case side4 => exact (Kd.R_reads' Bs.out).2.1); (case side5 => exact far_slice (IsS59.own_ne HI0.out Bs.out (by decide))); rintro e Mo ⟨rfl, hi, hb, hk⟩; refine ⟨_, rfl, ?_⟩; replace Aa := aM (Kd.R_mono (Kd.R_keep (IsS59.apart (show IsS59 w0 _ g Ah Ba Bb from Z2) Z15 (by decide)) hk (fun _ h => h.2)) (fun _ h => h.1)); replace Ae := aM (KeepBut.blk hk (g' := Ag) (o := .cells #[.int .i64 0, .int .i64 0, .int .i64 0, .slice none 0 0] 27 (0, 0)) Z25 An.out (by simp)); replace Ad := aM (KeepBut.blk hk (g' := Au) (o := .cells #[.int .i64 Ai, .int .i64 Ak, .int .i64 Am, u199003] 27 (0, 0)) Z13 Av.out (by simp)); replace Bs := aM (Kd.R_mono (Kd.R_keep (IsS59.apart (show IsS59 w0 _ g Ah Ba Bb from Z2) (by (with_reducible repeat (first | apply Kd.R_alloc | apply Kd.R_drewN | apply Kd.R_drew)); exact Bs.out) (by decide)) hk (fun _ h => h.2)) (fun _ h => h.1)); replace HK := aM (KeepBut.trans Z10 hk (.inl rfl)); replace HB := aM (hb); replace HI0 := aM (hi); (try clear hb); (try clear hk); (try clear hi); have Kv := Az.out; have Kw := Al.out; have Kx := Av.out; have Ky := Af.out; obtain ⟨Hd, He, Hf, Hg⟩ := bz4 Ad; obtain ⟨Hh, Hi, Hj, Hk⟩ := fz4 Ad; have Kz := An.out; have K0 := Ac.out; obtain ⟨Hl, Hm, Hn, Ho⟩ := bz4 Ae; obtain ⟨Hp, Hq, Hr, Hs⟩ := fz4 Ae; obtain ⟨Ez, E0, Jr⟩ := Kd.R_slice Aa.out; subst Jr))
      refine bodyPost_ret (results_cell_row rfl _ _ Ag 27 #[.int .i64 Ai, .int .i64 Cj, .int .i64 Am, .slice Ez Ab.length E0] (0, 0) _ rfl (by (with_reducible repeat (first | refine blk_drewN ?_ _ | refine blk_drew ?_ | refine blk_alloc ?_ _)); refine blk_put (cs := #[.int .i64 Ai, .int .i64 Cj, .int .i64 Am, .slice none 0 0]) ?_ 3 _ rfl; (with_reducible repeat (first | refine blk_drewN ?_ _ | refine blk_drew ?_ | refine blk_alloc ?_ _)); refine blk_put (cs := #[.int .i64 Ai, .int .i64 Cj, .int .i64 0, .slice none 0 0]) ?_ 2 _ rfl; (with_reducible repeat (first | refine blk_drewN ?_ _ | refine blk_drew ?_ | refine blk_alloc ?_ _)); refine blk_put (cs := #[.int .i64 Ai, .int .i64 0, .int .i64 0, .slice none 0 0]) ?_ 1 _ rfl; (with_reducible repeat (first | refine blk_drewN ?_ _ | refine blk_drew ?_ | refine blk_alloc ?_ _)); refine blk_put (cs := #[.int .i64 0, .int .i64 0, .int .i64 0, .slice none 0 0]) ?_ 0 _ rfl; (with_reducible repeat (first | refine blk_drewN ?_ _ | refine blk_drew ?_ | refine blk_alloc ?_ _)); refine blk_far ?_ Al.out _; (with_reducible repeat (first | refine blk_drewN ?_ _ | refine blk_drew ?_ | refine blk_alloc ?_ _)); exact Ae.out) Tryd.underlying27 rfl Z37) rfl ?_
      exact ⟨_, Z6, by (with_reducible repeat (first | apply Kd.R_alloc | apply Kd.R_drewN | apply Kd.R_drew)); exact Kd.R_mono (Kd.R_far (p := ⟨Ag, 3, none⟩) (Kd.R_far (p := ⟨Ag, 2, none⟩) (Kd.R_far (p := ⟨Ag, 1, none⟩) (Kd.R_far (p := ⟨Ag, 0, none⟩) (Kd.R_far (p := ⟨Au, 1, none⟩) (Kd.R_types (Kd.R_types Aa.out Ad.out (by decide)) Ae.out (by decide)) (fun _ hk => hk.1.2) (.int .i64 Cj)) (fun _ hk => hk.2) (.int .i64 Ai)) (fun _ hk => hk.2) (.int .i64 Cj)) (fun _ hk => hk.2) (.int .i64 Am)) (fun _ hk => hk.2) (.slice Ez Ab.length E0)) (fun _ hk => trivial), Z2, Z12, Z10⟩
     ·rw [if_neg D3] at H
      have c48b0 : (Ax == 1) = false := beq_eq_false_iff_ne.mpr D3; have c48b1 : (Ax != 1) = true := bne_iff_ne.mpr D3
      by_cases D5 : Ax = 2
      ·rw [if_pos D5] at H
       have c61b0 : (Ax == 2) = true := beq_iff_eq.mpr D5; have c61b1 : (Ax != 2) = false := bne_eq_false_iff_eq.mpr D5; clear D5; obtain ⟨D6, Cc⟩ : ∃ y_ : List Int, y_ = (([(-1), 50001] : List Int)) := ⟨_, rfl⟩
       replace H : ((spec_l1Cur_among.f Ah Ba Bb D6).bind fun Bo => (some (Ai, Ak, Bo.1, Ab, Bo.2.1, Bo.2.2))) = some (r1, r2, r3, r4, r5, r6) := by first | (rw [Cc]; with_reducible exact H) | (have H2_ := (Option.bind_some _ _).symm.trans H; rw [Cc]; with_reducible exact H2_) | (have H2_ := (Option.bind_some _ _).symm.trans H; with_reducible exact H2_) | with_reducible exact H | (rw [Cc]; exact H) | exact H
       have Dp := Aside0.mk Cc; clear Cc; replace H := Option.bind_eq_some_iff.mp H; obtain ⟨⟨Cr, E2, E3⟩, E4, H⟩ := H; replace H : (some (Ai, Ak, Cr, Ab, E2, E3)) = some (r1, r2, r3, r4, r5, r6) := H; have Lv := Aside0.mk E4; clear E4
       simp only [Option.some.injEq, Prod.mk.injEq] at H
       obtain ⟨rfl, rfl, rfl, rfl, rfl, rfl⟩ := H
       go_wp2_with (first | ((with_reducible refine gate_callee (f := 40) rfl ?_); refine glE (some 32) Tryd.func40 #[.pointer (some ⟨g, 0, none⟩), .int .i64 50] ?_; (with_reducible refine (spec_l1Cur_pick.calls g Ah Aq Ar 50 Ax Ba Bb w0 _ ?side1 ?side2 D0.out).mono ?_); (case side1 => exact Z2); (case side2 => exact Z12); rintro e Mp ⟨rfl, hi, hb, hk⟩; refine ⟨_, rfl, ?_⟩; replace Aa := aM (Kd.R_mono (Kd.R_keep (IsS59.apart (show IsS59 w0 _ g Ah Aq Ar from Z2) Z15 (by decide)) hk (fun _ h => h.2)) (fun _ h => h.1)); replace Ae := aM (KeepBut.blk hk (g' := Ag) (o := .cells #[.int .i64 0, .int .i64 0, .int .i64 0, .slice none 0 0] 27 (0, 0)) Z25 An.out (by simp)); replace Ad := aM (KeepBut.blk hk (g' := Au) (o := .cells #[.int .i64 Ai, .int .i64 Ak, .int .i64 Am, u199003] 27 (0, 0)) Z13 Av.out (by simp)); replace HK := aM (KeepBut.trans Z10 hk (.inl rfl)); replace HB := aM (hb); replace HI0 := aM (hi); (try clear hb); (try clear hk); (try clear hi)) | ((with_reducible refine gate_dst (N := 48) rfl ?_); refine Kd.R_lit (Kd.int .i64) _ 3 ?hg (N := 48) ?hd (xs := ([(-1), 50001] : List Int)) (inner := [.int .i64 (-1), .int .i64 50001]) (ok := fun _ => True) (okp := fun _ => True) ?hr ?hp (fun _ hk => hk) trivial (Below.refl _ _) (Nat.le_refl _) (by simp) ?_; (case hd => rfl); (case hg => rfl); (case hr => first | (go_simp; done) | (go_simp; rfl)); (case hp => exact (Reps.one (show Kd.M (Kd.int .i64) _ _ _ (-1) [.int .i64 (-1)] from rfl) (Reps.one (show Kd.M (Kd.int .i64) _ _ _ 50001 [.int .i64 50001] from rfl) (Reps.none _ _)))); intro Lw Mq Cs hb hg_ hnew_; clear hg_ hnew_; (first | rw [← Dp.out] at Cs | (simp only [Int.reduceToNat] at Cs; rw [← Dp.out] at Cs)); have Bt := aM (Kd.R_lower (Kd.R_new' Cs (Kd.R_lt Z15)) (keep_size (w := w) (g := g) (row := none) Z10)); replace Aa := aM (Kd.R_elder' Z15 (Kd.R_base Cs) hb); replace Ae := bkB Ae hb; replace Ad := bkB Ad hb; replace HK := aM (KeepBut.trans Z10 (KeepBut.of_below hb g none) (.inl rfl)); replace HB := aM (below_step Z12 hb); replace HI0 := aM (IsS59.below Z2 hb); clear hb Cs; obtain ⟨Js, Jt, Ju⟩ := Kd.R_slice Bt.out; subst Ju) | ((with_reducible refine gate_callee (f := 53) rfl ?_); refine glE (some 49) Tryd.func53 #[.pointer (some ⟨g, 0, none⟩), .slice Js D6.length Jt] ?_; (with_reducible refine (spec_l1Cur_among.calls g Ah Ba Bb _ _ D6 Cr E2 E3 w0 _ ?side1 ?side2 ?side3 ?side4 ?side5 Lv.out).mono ?_); (case side1 => exact Z2); (case side2 => exact Z12); (case side3 => exact (by repeat (first | exact (Kd.R_reads' Bt.out).2.2 | (with_reducible refine Kd.C_alloc ?_ _) | (with_reducible refine Kd.C_drewN ?_ _) | (with_reducible refine Kd.C_drew ?_)))); (case side4 => exact (Kd.R_reads' Bt.out).2.1); (case side5 => exact far_slice (IsS59.own_ne HI0.out Bt.out (by decide))); rintro e Mr ⟨rfl, hi, hb, hk⟩; refine ⟨_, rfl, ?_⟩; replace Aa := aM (Kd.R_mono (Kd.R_keep (IsS59.apart (show IsS59 w0 _ g Ah Ba Bb from Z2) Z15 (by decide)) hk (fun _ h => h.2)) (fun _ h => h.1)); replace Ae := aM (KeepBut.blk hk (g' := Ag) (o := .cells #[.int .i64 0, .int .i64 0, .int .i64 0, .slice none 0 0] 27 (0, 0)) Z25 An.out (by simp)); replace Ad := aM (KeepBut.blk hk (g' := Au) (o := .cells #[.int .i64 Ai, .int .i64 Ak, .int .i64 Am, u199003] 27 (0, 0)) Z13 Av.out (by simp)); replace Bt := aM (Kd.R_mono (Kd.R_keep (IsS59.apart (show IsS59 w0 _ g Ah Ba Bb from Z2) (by (with_reducible repeat (first | apply Kd.R_alloc | apply Kd.R_drewN | apply Kd.R_drew)); exact Bt.out) (by decide)) hk (fun _ h => h.2)) (fun _ h => h.1)); replace HK := aM (KeepBut.trans Z10 hk (.inl rfl)); replace HB := aM (hb); replace HI0 := aM (hi); (try clear hb); (try clear hk); (try clear hi); have K1 := Az.out; have K2 := Al.out; have K3 := Av.out; have K4 := Af.out; obtain ⟨Ht, Hu, Hv, Hw⟩ := bz4 Ad; obtain ⟨Hx, Hy, Hz, H0⟩ := fz4 Ad; have K5 := An.out; have K6 := Ac.out; obtain ⟨H2, H4, H5, H6⟩ := bz4 Ae; obtain ⟨H7, H8, H9, Ia⟩ := fz4 Ae; obtain ⟨E5, E6, Jv⟩ := Kd.R_slice Aa.out; subst Jv))
       refine bodyPost_ret (results_cell_row rfl _ _ Ag 27 #[.int .i64 Ai, .int .i64 Ak, .int .i64 Cr, .slice E5 Ab.length E6] (0, 0) _ rfl (by (with_reducible repeat (first | refine blk_drewN ?_ _ | refine blk_drew ?_ | refine blk_alloc ?_ _)); refine blk_put (cs := #[.int .i64 Ai, .int .i64 Ak, .int .i64 Cr, .slice none 0 0]) ?_ 3 _ rfl; (with_reducible repeat (first | refine blk_drewN ?_ _ | refine blk_drew ?_ | refine blk_alloc ?_ _)); refine blk_put (cs := #[.int .i64 Ai, .int .i64 Ak, .int .i64 0, .slice none 0 0]) ?_ 2 _ rfl; (with_reducible repeat (first | refine blk_drewN ?_ _ | refine blk_drew ?_ | refine blk_alloc ?_ _)); refine blk_put (cs := #[.int .i64 Ai, .int .i64 0, .int .i64 0, .slice none 0 0]) ?_ 1 _ rfl; (with_reducible repeat (first | refine blk_drewN ?_ _ | refine blk_drew ?_ | refine blk_alloc ?_ _)); refine blk_put (cs := #[.int .i64 0, .int .i64 0, .int .i64 0, .slice none 0 0]) ?_ 0 _ rfl; (with_reducible repeat (first | refine blk_drewN ?_ _ | refine blk_drew ?_ | refine blk_alloc ?_ _)); refine blk_far ?_ Al.out _; (with_reducible repeat (first | refine blk_drewN ?_ _ | refine blk_drew ?_ | refine blk_alloc ?_ _)); exact Ae.out) Tryd.underlying27 rfl Z37) rfl ?_
       exact ⟨_, Z6, by (with_reducible repeat (first | apply Kd.R_alloc | apply Kd.R_drewN | apply Kd.R_drew)); exact Kd.R_mono (Kd.R_far (p := ⟨Ag, 3, none⟩) (Kd.R_far (p := ⟨Ag, 2, none⟩) (Kd.R_far (p := ⟨Ag, 1, none⟩) (Kd.R_far (p := ⟨Ag, 0, none⟩) (Kd.R_far (p := ⟨Au, 2, none⟩) (Kd.R_types (Kd.R_types Aa.out Ad.out (by decide)) Ae.out (by decide)) (fun _ hk => hk.1.2) (.int .i64 Cr)) (fun _ hk => hk.2) (.int .i64 Ai)) (fun _ hk => hk.2) (.int .i64 Ak)) (fun _ hk => hk.2) (.int .i64 Cr)) (fun _ hk => hk.2) (.slice E5 Ab.length E6)) (fun _ hk => trivial), Z2, Z12, Z10⟩
      ·rw [if_neg D5] at H
       have c61b0 : (Ax == 2) = false := beq_eq_false_iff_ne.mpr D5; have c61b1 : (Ax != 2) = true := bne_iff_ne.mpr D5
       by_cases D7 : Ax = 3
       ·rw [if_pos D7] at H
        have c74b0 : (Ax == 3) = true := beq_iff_eq.mpr D7; have c74b1 : (Ax != 3) = false := bne_eq_false_iff_eq.mpr D7; clear D7
        by_cases Ib : Ab.length < 17592186044416
        ·rw [if_pos Ib] at H
         have LMc75 := Aside0.mk Ib; clear Ib; obtain ⟨De, Cd⟩ : ∃ y_ : List Int, y_ = (Ab ++ [5]) := ⟨_, rfl⟩
         replace H : (some (Ai, Ak, Am, De, Ba, Bb)) = some (r1, r2, r3, r4, r5, r6) := by first | (rw [Cd]; with_reducible exact H) | (have H2_ := (Option.bind_some _ _).symm.trans H; rw [Cd]; with_reducible exact H2_) | (have H2_ := (Option.bind_some _ _).symm.trans H; with_reducible exact H2_) | with_reducible exact H | (rw [Cd]; exact H) | exact H
         have E7 := Aside0.mk Cd; clear Cd
         simp only [Option.some.injEq, Prod.mk.injEq] at H
         obtain ⟨rfl, rfl, rfl, rfl, rfl, rfl⟩ := H
         go_wp2_with (first | ((with_reducible refine gate_callee (f := 40) rfl ?_); refine glE (some 32) Tryd.func40 #[.pointer (some ⟨g, 0, none⟩), .int .i64 50] ?_; (with_reducible refine (spec_l1Cur_pick.calls g Ah Aq Ar 50 Ax Ba Bb w0 _ ?side1 ?side2 D0.out).mono ?_); (case side1 => exact Z2); (case side2 => exact Z12); rintro e Ms ⟨rfl, hi, hb, hk⟩; refine ⟨_, rfl, ?_⟩; replace Aa := aM (Kd.R_mono (Kd.R_keep (IsS59.apart (show IsS59 w0 _ g Ah Aq Ar from Z2) Z15 (by decide)) hk (fun _ h => h.2)) (fun _ h => h.1)); replace Ae := aM (KeepBut.blk hk (g' := Ag) (o := .cells #[.int .i64 0, .int .i64 0, .int .i64 0, .slice none 0 0] 27 (0, 0)) Z25 An.out (by simp)); replace Ad := aM (KeepBut.blk hk (g' := Au) (o := .cells #[.int .i64 Ai, .int .i64 Ak, .int .i64 Am, u199003] 27 (0, 0)) Z13 Av.out (by simp)); replace HK := aM (KeepBut.trans Z10 hk (.inl rfl)); replace HB := aM (hb); replace HI0 := aM (hi); (try clear hb); (try clear hk); (try clear hi); have K7 := Az.out; have K8 := Al.out; have K9 := Av.out; have La := Af.out; obtain ⟨Ic, Ie, Ig, Ih⟩ := bz4 Ad; obtain ⟨Ii, Ij, Ik, Il⟩ := fz4 Ad) | ((with_reducible refine gate_builtin (b := .append) (xs := #[.tmp 54, .tmp 55]) rfl ?_); at_builtin; refine Kd.R_append (Kd.int .i64) w.heap.size rfl (.tmp 54) (.tmp 55) 25 3 (.int .i64 0) 8 rfl Tryd.underlying25 info3 rfl (by decide) (by omega) u199003 Ab 5 [.int .i64 5] (fun _ => True) (fun _ => False) rfl rfl ?aP (fun _ hk => hk.elim) ?aF ?aO (Below.refl _ _) ?aS ?aL ?_; (case aP => exact rfl); (case aF => exact (fun _ _ => trivial)); (case aO => exact Z15); (case aS => exact (keep_size (w := w) (g := g) (row := none) Z10)); (case aL => have := LMc75.out; omega); intro Lx Mt ho hb hg hat; rw [← E7.out] at ho; replace Ae := aM (blk_grown (g := Ag) (o := .cells #[.int .i64 0, .int .i64 0, .int .i64 0, .slice none 0 0] 27 (0, 0)) Z25 hg (Kd.R_ne Aa.out Ae.out (by decide))); replace Ad := aM (blk_grown (g := Au) (o := .cells #[.int .i64 Ai, .int .i64 Ak, .int .i64 Am, u199003] 27 (0, 0)) Z13 hg (Kd.R_ne Aa.out Ad.out (by decide))); replace HB := aM (below_weaken Z12 HL.out hb); replace HI0 := aM (IsS59.grown Z2 hg (IsS59.own_ne HI0.out Aa.out (by decide))); replace HK := aM (KeepBut.trans Z10 (KeepBut.of_grown hg g) (Kd.R_base2 Aa.out)); have Dq := aM (ho); clear Aa; clear ho hb hg hat; obtain ⟨D8, D9, Jw⟩ := Kd.R_slice Dq.out; subst Jw; obtain ⟨Im, Io, Ip, Iq⟩ := bz4 Ad; obtain ⟨Ir, Iu, Iv, Iw⟩ := fz4 Ad; have Lb := An.out; have Lc := Ac.out; obtain ⟨Ix, Iy, Iz, I0⟩ := bz4 Ae; obtain ⟨I1, I2, I3, I4⟩ := fz4 Ae))
         refine bodyPost_ret (results_cell_row rfl _ _ Ag 27 #[.int .i64 Ai, .int .i64 Ak, .int .i64 Am, .slice D8 De.length D9] (0, 0) _ rfl (by (with_reducible repeat (first | refine blk_drewN ?_ _ | refine blk_drew ?_ | refine blk_alloc ?_ _)); refine blk_put (cs := #[.int .i64 Ai, .int .i64 Ak, .int .i64 Am, .slice none 0 0]) ?_ 3 _ rfl; (with_reducible repeat (first | refine blk_drewN ?_ _ | refine blk_drew ?_ | refine blk_alloc ?_ _)); refine blk_put (cs := #[.int .i64 Ai, .int .i64 Ak, .int .i64 0, .slice none 0 0]) ?_ 2 _ rfl; (with_reducible repeat (first | refine blk_drewN ?_ _ | refine blk_drew ?_ | refine blk_alloc ?_ _)); refine blk_put (cs := #[.int .i64 Ai, .int .i64 0, .int .i64 0, .slice none 0 0]) ?_ 1 _ rfl; (with_reducible repeat (first | refine blk_drewN ?_ _ | refine blk_drew ?_ | refine blk_alloc ?_ _)); refine blk_put (cs := #[.int .i64 0, .int .i64 0, .int .i64 0, .slice none 0 0]) ?_ 0 _ rfl; (with_reducible repeat (first | refine blk_drewN ?_ _ | refine blk_drew ?_ | refine blk_alloc ?_ _)); refine blk_far ?_ Al.out _; (with_reducible repeat (first | refine blk_drewN ?_ _ | refine blk_drew ?_ | refine blk_alloc ?_ _)); exact Ae.out) Tryd.underlying27 rfl Z37) rfl ?_
         exact ⟨_, Z6, by (with_reducible repeat (first | apply Kd.R_alloc | apply Kd.R_drewN | apply Kd.R_drew)); exact Kd.R_mono (Kd.R_far (p := ⟨Ag, 3, none⟩) (Kd.R_far (p := ⟨Ag, 2, none⟩) (Kd.R_far (p := ⟨Ag, 1, none⟩) (Kd.R_far (p := ⟨Ag, 0, none⟩) (Kd.R_far (p := ⟨Au, 3, none⟩) (Kd.R_types (Kd.R_types Dq.out Ad.out (by decide)) Ae.out (by decide)) (fun _ hk => hk.1.2) (.slice D8 De.length D9)) (fun _ hk => hk.2) (.int .i64 Ai)) (fun _ hk => hk.2) (.int .i64 Ak)) (fun _ hk => hk.2) (.int .i64 Am)) (fun _ hk => hk.2) (.slice D8 De.length D9)) (fun _ hk => trivial), Z2, Z12, Z10⟩
        ·rw [if_neg Ib] at H
         exact absurd H (by simp)
       ·rw [if_neg D7] at H
        have c74b0 : (Ax == 3) = false := beq_eq_false_iff_ne.mpr D7; have c74b1 : (Ax != 3) = true := bne_iff_ne.mpr D7
        by_cases Ea : Ax = 4
        ·rw [if_pos Ea] at H
         have c85b0 : (Ax == 4) = true := beq_iff_eq.mpr Ea; have c85b1 : (Ax != 4) = false := bne_eq_false_iff_eq.mpr Ea; clear Ea
         by_cases Ee : (Ab.length : Int) > 0
         ·rw [if_pos Ee] at H
          have c86b0 : decide (0 < (Ab.length : Int)) = true := decide_eq_true Ee; have c86b1 : decide (0 < Ab.length) = true := decide_eq_true (by omega); clear Ee; obtain ⟨Ct, Ce⟩ : ∃ y_ : List Int, y_ = (([(-1), 50001] : List Int)) := ⟨_, rfl⟩
          replace H : ((spec_l1Cur_among.f Ah Ba Bb Ct).bind fun Bp => (if 0 < (Ab.length : Int) then (some (Ai, Ak, Am, (Ab.set (0 : Int).toNat Bp.1), Bp.2.1, Bp.2.2)) else (none))) = some (r1, r2, r3, r4, r5, r6) := by first | (rw [Ce]; with_reducible exact H) | (have H2_ := (Option.bind_some _ _).symm.trans H; rw [Ce]; with_reducible exact H2_) | (have H2_ := (Option.bind_some _ _).symm.trans H; with_reducible exact H2_) | with_reducible exact H | (rw [Ce]; exact H) | exact H
          have Dr := Aside0.mk Ce; clear Ce; replace H := Option.bind_eq_some_iff.mp H; obtain ⟨⟨Bj, Df, Dg⟩, E8, H⟩ := H; replace H : (if 0 < (Ab.length : Int) then (some (Ai, Ak, Am, (Ab.set (0 : Int).toNat Bj), Df, Dg)) else (none)) = some (r1, r2, r3, r4, r5, r6) := H; have Ly := Aside0.mk E8; clear E8
          by_cases I5 : 0 < (Ab.length : Int)
          ·rw [if_pos I5] at H
           have c88b0 : decide (0 < (Ab.length : Int)) = true := decide_eq_true I5; have c88b1 : decide (0 < Ab.length) = true := decide_eq_true (by omega); clear I5; obtain ⟨E9, Cf⟩ : ∃ y_ : List Int, y_ = (Ab.set (0 : Int).toNat Bj) := ⟨_, rfl⟩
           replace H : (some (Ai, Ak, Am, E9, Df, Dg)) = some (r1, r2, r3, r4, r5, r6) := by first | (rw [Cf]; with_reducible exact H) | (have H2_ := (Option.bind_some _ _).symm.trans H; rw [Cf]; with_reducible exact H2_) | (have H2_ := (Option.bind_some _ _).symm.trans H; with_reducible exact H2_) | with_reducible exact H | (rw [Cf]; exact H) | exact H
           have Fa := Aside0.mk Cf; clear Cf
           simp only [Option.some.injEq, Prod.mk.injEq] at H
           obtain ⟨rfl, rfl, rfl, rfl, rfl, rfl⟩ := H
           try go_wp2_with (first | ((with_reducible refine gate_callee (f := 40) rfl ?_); refine glE (some 32) Tryd.func40 #[.pointer (some ⟨g, 0, none⟩), .int .i64 50] ?_; (with_reducible refine (spec_l1Cur_pick.calls g Ah Aq Ar 50 Ax Ba Bb w0 _ ?side1 ?side2 D0.out).mono ?_); (case side1 => exact Z2); (case side2 => exact Z12); rintro e Lz ⟨rfl, hi, hb, hk⟩; refine ⟨_, rfl, ?_⟩; replace Aa := aM (Kd.R_mono (Kd.R_keep (IsS59.apart (show IsS59 w0 _ g Ah Aq Ar from Z2) Z15 (by decide)) hk (fun _ h => h.2)) (fun _ h => h.1)); replace Ae := aM (KeepBut.blk hk (g' := Ag) (o := .cells #[.int .i64 0, .int .i64 0, .int .i64 0, .slice none 0 0] 27 (0, 0)) Z25 An.out (by simp)); replace Ad := aM (KeepBut.blk hk (g' := Au) (o := .cells #[.int .i64 Ai, .int .i64 Ak, .int .i64 Am, u199003] 27 (0, 0)) Z13 Av.out (by simp)); replace HK := aM (KeepBut.trans Z10 hk (.inl rfl)); replace HB := aM (hb); replace HI0 := aM (hi); (try clear hb); (try clear hk); (try clear hi); have Ld := Az.out; have Le := Al.out; have Lf := Av.out; have Lg := Af.out; obtain ⟨I6, I7, I8, I9⟩ := bz4 Ad; obtain ⟨Ja, Jb, Jc, Jd⟩ := fz4 Ad; obtain ⟨Fb, Ck, Jx⟩ := Kd.R_slice Aa.out; subst Jx))
           replace Aa := aM (Kd.R_drew Aa.out); replace Ae := aM (blk_drew Ae.out); replace Ad := aM (blk_drew Ad.out); replace HI0 := aM (IsS59.drew HI0.out); replace HK := aM (keep_drew HK.out); replace HB := aM (below_drew1 HB.out); refine start_ (n := 7) (S := fun w' => w'.cell? ⟨Au, 0, none⟩ = some (.int .i64 Ai) ∧ w'.cell? ⟨Au, 1, none⟩ = some (.int .i64 Ak) ∧ w'.cell? ⟨Au, 2, none⟩ = some (.int .i64 Am) ∧ w'.cell? ⟨Au, 3, none⟩ = some (.slice Fb Ab.length Ck)) (ds := [6]) #[false, false, false, false, false, false, false] Z37 rfl rfl ⟨(blk_cell Ad.out 0).trans rfl, (blk_cell Ad.out 1).trans rfl, (blk_cell Ad.out 2).trans rfl, (blk_cell Ad.out 3).trans rfl⟩ (fun hHeld => ?_)
           generalize Lz.drew = Mu at Aa Ae Ad HI0 HK HB hHeld ⊢
           refine puK 0 64 #[true, false, false, false, false, false, false] rfl rfl ?_; refine puK 2 66 #[true, false, true, false, false, false, false] rfl rfl ?_; refine taK 1 65 #[true, true, true, false, false, false, false] hHeld rfl rfl ?_; refine one_ (i := 3) (N := some 67) #[true, true, true, true, false, false, false] rfl rfl Z37 (by decide) (fun K hK => ?_); refine Kd.R_lit_step (Kd.int .i64) _ 3 ?hg (N := 67) ?hd (xs := ([(-1), 50001] : List Int)) (inner := [.int .i64 (-1), .int .i64 50001]) (ok := fun _ => True) (okp := fun _ => True) ?hr ?hp (fun _ hk => hk) trivial (Below.refl _ _) (Nat.le_refl _) (by simp) ?_; (case hd => rfl); (case hg => rfl); (case hr => first | (go_simp; done) | (go_simp; rfl)); (case hp => exact (Reps.one (show Kd.M (Kd.int .i64) _ _ _ (-1) [.int .i64 (-1)] from rfl) (Reps.one (show Kd.M (Kd.int .i64) _ _ _ 50001 [.int .i64 50001] from rfl) (Reps.none _ _)))); intro L0 Mv Cu hb hg_ hnew_; clear hg_ hnew_
           (first | rw [← Dr.out] at Cu | (simp only [Int.reduceToNat] at Cu; rw [← Dr.out] at Cu))
           have Bi := aM (Kd.R_lower (Kd.R_new' Cu (Kd.R_lt Z15)) (keep_size (w := w) (g := g) (row := none) Z10)); replace Aa := aM (Kd.R_elder' Z15 (Kd.R_base Cu) hb); replace Ae := bkB Ae hb; replace Ad := bkB Ad hb; replace HK := aM (KeepBut.trans Z10 (KeepBut.of_below hb g none) (.inl rfl)); replace HB := aM (below_step Z12 hb); replace HI0 := aM (IsS59.below Z2 hb); clear hb Cu; obtain ⟨Eb, Ec, Fc⟩ := Kd.R_slice Bi.out
           (first | subst Fc | (injection Fc with f1_ f2_ f3_; have f4_ := f1_.symm; have f5_ := f3_.symm; clear f1_ f2_ f3_; subst f4_; subst f5_))
           refine hK.out _ _ Z89 (fun hHeld => ?_); clear hK K; refine noR 67 ?_; refine one_ (i := 4) (N := some 68) #[true, true, true, true, true, false, false] rfl rfl Z37 (by decide) (fun K hK => ?_); refine goes_ Tryd.func53 Z37 rfl #[.pointer (some ⟨g, 0, none⟩), .slice Eb Ct.length Ec] (by rfl) rfl rfl Z31 ?_; (with_reducible refine (spec_l1Cur_among.calls g Ah Ba Bb _ _ Ct Bj Df Dg w0 _ ?side1 ?side2 ?side3 ?side4 ?side5 Ly.out).mono ?_); (case side1 => exact Z2); (case side2 => exact Z12); (case side3 => exact Z119); (case side4 => exact (Kd.R_reads' Bi.out).2.1); (case side5 => exact far_slice (IsS59.own_ne HI0.out Bi.out (by decide))); rintro e Ds ⟨rfl, hi, hb, hk⟩; refine ⟨_, rfl, ?_⟩; replace Aa := aM (Kd.R_mono (Kd.R_keep (IsS59.apart (show IsS59 w0 _ g Ah Ba Bb from Z2) Z15 (by decide)) hk (fun _ h => h.2)) (fun _ h => h.1)); replace Ae := aM (KeepBut.blk hk (g' := Ag) (o := .cells #[.int .i64 0, .int .i64 0, .int .i64 0, .slice none 0 0] 27 (0, 0)) Z25 An.out (by simp)); replace Ad := aM (KeepBut.blk hk (g' := Au) (o := .cells #[.int .i64 Ai, .int .i64 Ak, .int .i64 Am, .slice Fb Ab.length Ck] 27 (0, 0)) Z13 Av.out (by simp)); replace Bi := aM (Kd.R_mono (Kd.R_keep (IsS59.apart (show IsS59 w0 _ g Ah Ba Bb from Z2) Z125 (by decide)) hk (fun _ h => h.2)) (fun _ h => h.1)); replace HK := aM (KeepBut.trans Z10 hk (.inl rfl)); replace HB := aM (hb); replace HI0 := aM (hi); (try clear hb); (try clear hb2); (try clear hk); (try clear hi); have Jy : 0 ≤ (0 : Int) := (by omega); have Jz : (0 : Int) < ((Ab.length : Int) : Int) := of_decide_eq_true Z8; have qi89 : (0 < Ab.length) = True := eq_true (by omega); obtain ⟨Bg, L1, Fd, Fe, gl89, cl89, HG89⟩ := Kd.R_form Aa.out (by omega)
           (first | cases Fd | (injection Fd with ea_ en_ ec_; (first | subst ea_ | (injection ea_ with ea_; subst ea_)); subst ec_; clear en_))
           have Ff := Aside0.mk Fe; have L2 := Aside0.mk HG89; clear Fe gl89 HG89; obtain ⟨Cz, C0⟩ := Kd.R_celln 0 Aa.out (0 : Int) Jy Jz
           (try rw [show ((0 : Int)).toNat = 0 from rfl] at Cz)
           (try simp only [Nat.reduceMul, Nat.zero_mul, Nat.zero_add, Nat.reduceAdd] at Cz)
           (try rw [show ((0 : Int)).toNat = 0 from rfl] at C0)
           (try simp only [Nat.reduceMul, Nat.zero_mul, Nat.zero_add, Nat.reduceAdd] at C0)
           replace Jy := eq_true Jy; replace Jz := eq_true Jz; have HN0_go89 := aM (show g ≠ Bg from by have h_ := IsS59.own_ne HI0.out Aa.out (by decide); intro e_; exact h_ Z152); have C1 := Kd.R_putn Aa.out (0 : Int) Bj; rw [← Fa.out] at C1; have HQ100 := Aside0.mk C1; clear C1; refine hK.out _ _ Z89 (fun hHeld => ?_); clear hK K; refine noR 68 ?_; refine puK 5 69 #[true, true, true, true, true, true, false] rfl rfl ?_; refine last_ (i := 6) (N := none) #[true, true, true, true, true, true, true] rfl rfl Z37 (by decide) (fun K hK => ?_); refine skip_ (w1 := ?_) (by rfl) rfl ?_ ?_
           rotate_left
           ·go_simp
            rfl
           refine hK.out _ _ ?_; clear hK K; refine done_ Z37 ?_; have n0_ : Aside0 (Kd.R (Kd.int .i64) 3 (Ds.setCell ⟨Bg, 0, none⟩ (.int .i64 Bj)) w.heap.size (fun k_ => nS k_ Eb Ct.length Ec) (.slice (some ⟨Bg, 0, none⟩) Ab.length Ck) E9) := ⟨by (with_reducible repeat (first | apply Kd.R_alloc | apply Kd.R_drewN | apply Kd.R_drew)); exact Kd.R_mono HQ100.out (fun _ hk => hk.2)⟩; have n1_ : Aside0 (Kd.R (Kd.int .i64) 3 (Ds.setCell ⟨Bg, 0, none⟩ (.int .i64 Bj)) w.heap.size (fun k_ => some k_ ≠ (.slice (some ⟨Bg, 0, none⟩) Ab.length Ck : Value).ownBlock) (.slice Eb Ct.length Ec) Ct) := ⟨by (with_reducible repeat (first | apply Kd.R_alloc | apply Kd.R_drewN | apply Kd.R_drew)); exact Kd.R_mono (Kd.R_far (p := ⟨Bg, 0, none⟩) (Kd.R_mono Bi.out (fun k_ hk => (⟨hk, fun e_ => hk.2 Z152⟩ : _ ∧ k_ ≠ Bg))) (fun _ hk => hk.2) (.int .i64 Bj)) (fun _ hk => hk.1.2)⟩; have n2_ : Aside0 ((Ds.setCell ⟨Bg, 0, none⟩ (.int .i64 Bj)).heap[Ag]? = some (.cells #[.int .i64 0, .int .i64 0, .int .i64 0, .slice none 0 0] 27 (0, 0))) := ⟨by (with_reducible repeat (first | refine blk_drewN ?_ _ | refine blk_drew ?_ | refine blk_alloc ?_ _)); refine blk_far ?_ (by have h_ := Kd.R_ne Aa.out Ae.out (by decide); intro e_; exact h_ Z152) _; (with_reducible repeat (first | refine blk_drewN ?_ _ | refine blk_drew ?_ | refine blk_alloc ?_ _)); exact Ae.out⟩; have n3_ : Aside0 ((Ds.setCell ⟨Bg, 0, none⟩ (.int .i64 Bj)).heap[Au]? = some (.cells #[.int .i64 Ai, .int .i64 Ak, .int .i64 Am, .slice (some ⟨Bg, 0, none⟩) Ab.length Ck] 27 (0, 0))) := ⟨by (with_reducible repeat (first | refine blk_drewN ?_ _ | refine blk_drew ?_ | refine blk_alloc ?_ _)); refine blk_far ?_ (by have h_ := Kd.R_ne Aa.out Ad.out (by decide); intro e_; exact h_ Z152) _; (with_reducible repeat (first | refine blk_drewN ?_ _ | refine blk_drew ?_ | refine blk_alloc ?_ _)); exact Ad.out⟩; have n4_ : Aside0 (IsS59 w0 (Ds.setCell ⟨Bg, 0, none⟩ (.int .i64 Bj)) g Ah Df Dg) := ⟨by repeat (first | (with_reducible first | exact HI0.out | apply IsS59.alloc | apply IsS59.drewN | apply IsS59.drew | apply IsS59.set_1 | apply IsS59.set_2 | refine IsS59.far ?_ HN0_go89.out _ | refine IsS59.far ?_ Ac.out _ | refine IsS59.far ?_ Af.out _) | exact HI0.out)⟩; have n5_ : Aside0 (KeepBut w (Ds.setCell ⟨Bg, 0, none⟩ (.int .i64 Bj)) g none) := ⟨by repeat (first | (with_reducible first | exact HK.out | apply KeepBut.set_ | apply keep_drewN | apply keep_drew | apply keep_alloc | refine keep_far ?_ Ff.out _ | refine keep_far ?_ Aj.out _ | refine keep_far ?_ Ap.out _) | exact HK.out)⟩; have n6_ : Aside0 (Below w0.heap.size w0 (Ds.setCell ⟨Bg, 0, none⟩ (.int .i64 Bj))) := ⟨by repeat (first | (with_reducible first | exact HB.out | apply below_alloc | apply pw_below_drewN | apply below_drew1 | refine below_set ?_ (Nat.le_trans HL.out Ff.out) | refine below_set ?_ (IsS59.ge HI0.out) | refine below_set ?_ Ao.out | refine below_set ?_ Aw.out) | exact HB.out)⟩; (try clear Aa); (try clear Bi); (try clear Ae); (try clear Ad); (try clear HI0); (try clear HK); (try clear HB)
           generalize (Ds.setCell ⟨Bg, 0, none⟩ (.int .i64 Bj)) = L3 at n0_ n1_ n2_ n3_ n4_ n5_ n6_ ⊢
           have Aa := n0_; have Bi := n1_; have Ae := n2_; have Ad := n3_; have HI0 := n4_; have HK := n5_; have HB := n6_; clear n0_ n1_ n2_ n3_ n4_ n5_ n6_; obtain ⟨Fg, Fh, Fi, Fj⟩ := bz4 Ad; obtain ⟨Fk, Fl, Fm, Fo⟩ := fz4 Ad; have J0 := An.out; have J1 := Ac.out; obtain ⟨Fp, Fq, Fr, Fs⟩ := bz4 Ae; obtain ⟨Ft, Fu, Fv, Fw⟩ := fz4 Ae
           try go_wp2
           refine bodyPost_ret (results_cell_row rfl _ _ Ag 27 #[.int .i64 Ai, .int .i64 Ak, .int .i64 Am, .slice (some ⟨Bg, 0, none⟩) Ab.length Ck] (0, 0) _ rfl Z32 Tryd.underlying27 rfl Z37) rfl ?_
           exact ⟨_, Z6, by (with_reducible repeat (first | apply Kd.R_alloc | apply Kd.R_drewN | apply Kd.R_drew)); exact Kd.R_mono (Kd.R_far (p := ⟨Ag, 3, none⟩) (Kd.R_far (p := ⟨Ag, 2, none⟩) (Kd.R_far (p := ⟨Ag, 1, none⟩) (Kd.R_far (p := ⟨Ag, 0, none⟩) (Kd.R_types Aa.out Ae.out (by decide)) (fun _ hk => hk.2) (.int .i64 Ai)) (fun _ hk => hk.2) (.int .i64 Ak)) (fun _ hk => hk.2) (.int .i64 Am)) (fun _ hk => hk.2) (.slice (some ⟨Bg, 0, none⟩) Ab.length Ck)) (fun _ hk => trivial), Z2, Z12, Z10⟩
          ·rw [if_neg I5] at H
           exact absurd H (by simp)
         ·rw [if_neg Ee] at H
          have c86b0 : decide (0 < (Ab.length : Int)) = false := decide_eq_false Ee; have c86b1 : decide (0 < Ab.length) = false := decide_eq_false (by omega); clear Ee
          simp only [Option.some.injEq, Prod.mk.injEq] at H
          obtain ⟨rfl, rfl, rfl, rfl, rfl, rfl⟩ := H
          go_wp2_with (first | ((with_reducible refine gate_callee (f := 40) rfl ?_); refine glE (some 32) Tryd.func40 #[.pointer (some ⟨g, 0, none⟩), .int .i64 50] ?_; (with_reducible refine (spec_l1Cur_pick.calls g Ah Aq Ar 50 Ax Ba Bb w0 _ ?side1 ?side2 D0.out).mono ?_); (case side1 => exact Z2); (case side2 => exact Z12); rintro e L4 ⟨rfl, hi, hb, hk⟩; refine ⟨_, rfl, ?_⟩; replace Aa := aM (Kd.R_mono (Kd.R_keep (IsS59.apart (show IsS59 w0 _ g Ah Aq Ar from Z2) Z15 (by decide)) hk (fun _ h => h.2)) (fun _ h => h.1)); replace Ae := aM (KeepBut.blk hk (g' := Ag) (o := .cells #[.int .i64 0, .int .i64 0, .int .i64 0, .slice none 0 0] 27 (0, 0)) Z25 An.out (by simp)); replace Ad := aM (KeepBut.blk hk (g' := Au) (o := .cells #[.int .i64 Ai, .int .i64 Ak, .int .i64 Am, u199003] 27 (0, 0)) Z13 Av.out (by simp)); replace HK := aM (KeepBut.trans Z10 hk (.inl rfl)); replace HB := aM (hb); replace HI0 := aM (hi); (try clear hb); (try clear hk); (try clear hi); have J2 := Az.out; have J3 := Al.out; have J4 := Av.out; have J5 := Af.out; obtain ⟨Fx, Fy, Fz, F0⟩ := bz4 Ad; obtain ⟨F1, F2, F3, F4⟩ := fz4 Ad; obtain ⟨Dt, Du, F5⟩ := Kd.R_slice Aa.out; subst F5; have J6 := An.out; have J7 := Ac.out; obtain ⟨F6, F7, F8, F9⟩ := bz4 Ae; obtain ⟨Ga, Gb, Gc, Gd⟩ := fz4 Ae))
          refine bodyPost_ret (results_cell_row rfl _ _ Ag 27 #[.int .i64 Ai, .int .i64 Ak, .int .i64 Am, .slice Dt Ab.length Du] (0, 0) _ rfl Z32 Tryd.underlying27 rfl Z37) rfl ?_
          exact ⟨_, Z6, by (with_reducible repeat (first | apply Kd.R_alloc | apply Kd.R_drewN | apply Kd.R_drew)); exact Kd.R_mono (Kd.R_far (p := ⟨Ag, 3, none⟩) (Kd.R_far (p := ⟨Ag, 2, none⟩) (Kd.R_far (p := ⟨Ag, 1, none⟩) (Kd.R_far (p := ⟨Ag, 0, none⟩) (Kd.R_types Aa.out Ae.out (by decide)) (fun _ hk => hk.2) (.int .i64 Ai)) (fun _ hk => hk.2) (.int .i64 Ak)) (fun _ hk => hk.2) (.int .i64 Am)) (fun _ hk => hk.2) (.slice Dt Ab.length Du)) (fun _ hk => trivial), Z2, Z12, Z10⟩
        ·rw [if_neg Ea] at H
         have c85b0 : (Ax == 4) = false := beq_eq_false_iff_ne.mpr Ea; have c85b1 : (Ax != 4) = true := bne_iff_ne.mpr Ea
         simp only [Option.some.injEq, Prod.mk.injEq] at H
         obtain ⟨rfl, rfl, rfl, rfl, rfl, rfl⟩ := H
         go_wp2_with (first | ((with_reducible refine gate_callee (f := 40) rfl ?_); refine glE (some 32) Tryd.func40 #[.pointer (some ⟨g, 0, none⟩), .int .i64 50] ?_; (with_reducible refine (spec_l1Cur_pick.calls g Ah Aq Ar 50 Ax Ba Bb w0 _ ?side1 ?side2 D0.out).mono ?_); (case side1 => exact Z2); (case side2 => exact Z12); rintro e L5 ⟨rfl, hi, hb, hk⟩; refine ⟨_, rfl, ?_⟩; replace Aa := aM (Kd.R_mono (Kd.R_keep (IsS59.apart (show IsS59 w0 _ g Ah Aq Ar from Z2) Z15 (by decide)) hk (fun _ h => h.2)) (fun _ h => h.1)); replace Ae := aM (KeepBut.blk hk (g' := Ag) (o := .cells #[.int .i64 0, .int .i64 0, .int .i64 0, .slice none 0 0] 27 (0, 0)) Z25 An.out (by simp)); replace Ad := aM (KeepBut.blk hk (g' := Au) (o := .cells #[.int .i64 Ai, .int .i64 Ak, .int .i64 Am, u199003] 27 (0, 0)) Z13 Av.out (by simp)); replace HK := aM (KeepBut.trans Z10 hk (.inl rfl)); replace HB := aM (hb); replace HI0 := aM (hi); (try clear hb); (try clear hk); (try clear hi); have J8 := Az.out; have J9 := Al.out; have Ka := Av.out; have Kb := Af.out; obtain ⟨Ge, Gf, Gg, Gh⟩ := bz4 Ad; obtain ⟨Gi, Gj, Gk, Gl⟩ := fz4 Ad; have Kc := An.out; have Ke := Ac.out; obtain ⟨Gm, Gn, Gp, Gq⟩ := bz4 Ae; obtain ⟨Gr, Gs, Gt, Gu⟩ := fz4 Ae; obtain ⟨Dv, Dw, Gv⟩ := Kd.R_slice Aa.out; subst Gv))
         refine bodyPost_ret (results_cell_row rfl _ _ Ag 27 #[.int .i64 Ai, .int .i64 Ak, .int .i64 Am, .slice Dv Ab.length Dw] (0, 0) _ rfl Z32 Tryd.underlying27 rfl Z37) rfl ?_
         exact ⟨_, Z6, by (with_reducible repeat (first | apply Kd.R_alloc | apply Kd.R_drewN | apply Kd.R_drew)); exact Kd.R_mono (Kd.R_far (p := ⟨Ag, 3, none⟩) (Kd.R_far (p := ⟨Ag, 2, none⟩) (Kd.R_far (p := ⟨Ag, 1, none⟩) (Kd.R_far (p := ⟨Ag, 0, none⟩) (Kd.R_types Aa.out Ae.out (by decide)) (fun _ hk => hk.2) (.int .i64 Ai)) (fun _ hk => hk.2) (.int .i64 Ak)) (fun _ hk => hk.2) (.int .i64 Am)) (fun _ hk => hk.2) (.slice Dv Ab.length Dw)) (fun _ hk => trivial), Z2, Z12, Z10⟩
def spec_DrawIsBath.f (k : Nat) (l0 : List Int) : Option ((List (S43)) × Int × Int × Int × List Int) := (spec_l1Cur_recipe.f k l0 0 0).bind fun bt241 => ((spec_l1Cur_bath.f k l0 bt241.2.1 bt241.2.2 bt241.1).bind fun bt246 => (some (bt241.1, bt246.1, bt246.2.1, bt246.2.2.1, bt246.2.2.2.1)))
theorem spec_DrawIsBath.calls (k : Nat) (A0 : Option Addr) (c0 : Nat) (l0 : List Int) (r1 : List (S43)) (r2 : Int) (r3 : Int) (r4 : Int) (r5 : List Int) (w : World) (Bi : Kd.C (Kd.int .u8) w A0 l0.length l0) (Bj : l0.length ≤ c0) (h : spec_DrawIsBath.f k l0 = some (r1, r2, r3, r4, r5)) :
  Calls Tryd.prog 20 #[.slice A0 l0.length c0] w fun e w' => ∃ v0_ v4_ : Value, e = .returned (.tuple #[v0_, .agg #[.int .i64 r2, .int .i64 r3, .int .i64 r4, v4_]]) ∧ Kd.R k43 43 w' w.heap.size (fun _ => True) v0_ r1 ∧ Kd.R (Kd.int .i64) 3 w' w.heap.size (fun _ => True) v4_ r5 ∧ Below w.heap.size w w' := by
 have hu27 := Tryd.underlying27; have hu59 := Tryd.underlying59; have Bn := Aside0.mk Bi; have Bv := Aside0.mk Bj; clear Bi Bj; have HB := aM (Below.refl w.heap.size w); have H : ((spec_l1Cur_recipe.f k l0 0 0).bind fun Ak => ((spec_l1Cur_bath.f k l0 Ak.2.1 Ak.2.2 Ak.1).bind fun Ad => (some (Ak.1, Ad.1, Ad.2.1, Ad.2.2.1, Ad.2.2.2.1)))) = some (r1, r2, r3, r4, r5) := h; clear h; replace H := Option.bind_eq_some_iff.mp H; obtain ⟨⟨Al, An, Ao⟩, Bk, H⟩ := H; replace H : ((spec_l1Cur_bath.f k l0 An Ao Al).bind fun Ad => (some (Al, Ad.1, Ad.2.1, Ad.2.2.1, Ad.2.2.2.1))) = some (r1, r2, r3, r4, r5) := H; have A2 := Aside0.mk Bk; clear Bk; replace H := Option.bind_eq_some_iff.mp H; obtain ⟨⟨Ai, Aj, Am, Ap, Bf, Bg⟩, Bl, H⟩ := H; replace H : (some (Al, Ai, Aj, Am, Ap)) = some (r1, r2, r3, r4, r5) := H; have A3 := Aside0.mk Bl; clear Bl
 simp only [Option.some.injEq, Prod.mk.injEq] at H
 obtain ⟨rfl, rfl, rfl, rfl, rfl⟩ := H
 go_enter Tryd.func20, Tryd.ntmps20
 go_wp2_with (first | ((with_reducible refine gate_dst (N := 3) rfl ?_); refine bxE 3 #[.int .i64 0, .int .i64 0, .int .i64 0, .slice none 0 0] 27 ?_; intro Ac hg w4 hbox hb; have Aa := aM (hbox); have Bm := gwS hg Z0; have Ag := gwS hg Z0; replace HB := hbS Z0 hb; clear hb hbox hg) | ((with_reducible refine gate_dst (N := 8) rfl ?_); refine bxE 8 #[.slice A0 l0.length c0, .int .i64 0, .int .u64 0] 59 ?_; intro Af hg w5 hbox hb; have Ae := nbL hg Aa; have Ab := nbG hg Aa; replace Aa := bkB Aa hb; have HI240 := aM ((⟨A0, c0, hbox, (by rw [hg]; exact (below_size Z66) : w.heap.size ≤ Af), Bn.out⟩ : IsS59 w _ Af l0 0 0)); replace HB := hbS Z66 hb; clear hb hbox hg) | ((with_reducible refine gate_callee (f := 36) rfl ?_); refine glE (some 10) Tryd.func36 #[.pointer (some ⟨Af, 0, none⟩)] ?_; (with_reducible refine (spec_l1Cur_recipe.calls k Af l0 0 0 Al An Ao w _ ?side1 ?side2 A2.out).mono ?_); (case side1 => exact Z80); (case side2 => exact Z73); rintro e w6 ⟨Bo, rfl, Av, hi, hb, hk⟩; refine ⟨_, rfl, ?_⟩; replace Aa := aM (KeepBut.blk hk (g' := Ac) (o := .cells #[.int .i64 0, .int .i64 0, .int .i64 0, .slice none 0 0] 27 (0, 0)) Z42 Ae.out (by simp)); have Ah := aM (Kd.R_lower Av (below_size Z73)); replace HB := aM (hb); replace HI240 := aM (hi); (try clear hb); (try clear hk); (try clear hi); (try clear Av); obtain ⟨Bp, Bq, Br⟩ := Kd.R_slice Ah.out; subst Br) | ((with_reducible refine gate_callee (f := 37) rfl ?_); refine glE (some 14) Tryd.func37 #[.pointer (some ⟨Af, 0, none⟩), .slice Bp Al.length Bq] ?_; (with_reducible refine (spec_l1Cur_bath.calls k Af l0 An Ao _ _ Al Ai Aj Am Ap Bf Bg w _ ?side1 ?side2 ?side3 ?side4 A3.out).mono ?_); (case side1 => exact Z80); (case side2 => exact Z73); (case side3 => exact Kd.C_foot_own (IsS59.apart (show IsS59 w _ Af l0 An Ao from Z80) Z76 (by decide)) (fun _ h_ => h_.2)); (case side4 => exact (Kd.R_reads' Ah.out).2.1); rintro e w8 ⟨Bs, rfl, Av, hi, hb, hk⟩; refine ⟨_, rfl, ?_⟩; replace Aa := aM (KeepBut.blk hk (g' := Ac) (o := .cells #[.int .i64 0, .int .i64 0, .int .i64 0, .slice none 0 0] 27 (0, 0)) Z42 Ae.out (by simp)); replace Ah := aM (Kd.R_mono (Kd.R_keep (IsS59.apart (show IsS59 w _ Af l0 An Ao from Z80) Z76 (by decide)) hk (fun _ h => h.2)) (fun _ h => h.1)); have Aq := aM (Kd.R_lower Av (below_size Z73)); replace HB := aM (hb); replace HI240 := aM (hi); (try clear hb); (try clear hk); (try clear hi); (try clear Av); have Bt := Ae.out; have Bu := Ab.out; obtain ⟨Aw, Ax, Ay, Az⟩ := bz4 Aa; obtain ⟨Ba, Bb, Bc, Bd⟩ := fz4 Aa; obtain ⟨Ar, Au, Bh⟩ := Kd.R_slice Aq.out; subst Bh))
 refine bodyPost_ret (results_tc rfl _ _ Ac 27 #[.int .i64 Ai, .int .i64 Aj, .int .i64 Am, .slice Ar Ap.length Au] (0, 0) _ rfl (by (with_reducible repeat (first | refine blk_drewN ?_ _ | refine blk_drew ?_ | refine blk_alloc ?_ _)); refine blk_put (cs := #[.int .i64 Ai, .int .i64 Aj, .int .i64 Am, .slice none 0 0]) ?_ 3 _ rfl; (with_reducible repeat (first | refine blk_drewN ?_ _ | refine blk_drew ?_ | refine blk_alloc ?_ _)); refine blk_put (cs := #[.int .i64 Ai, .int .i64 Aj, .int .i64 0, .slice none 0 0]) ?_ 2 _ rfl; (with_reducible repeat (first | refine blk_drewN ?_ _ | refine blk_drew ?_ | refine blk_alloc ?_ _)); refine blk_put (cs := #[.int .i64 Ai, .int .i64 0, .int .i64 0, .slice none 0 0]) ?_ 1 _ rfl; (with_reducible repeat (first | refine blk_drewN ?_ _ | refine blk_drew ?_ | refine blk_alloc ?_ _)); refine blk_put (cs := #[.int .i64 0, .int .i64 0, .int .i64 0, .slice none 0 0]) ?_ 0 _ rfl; (with_reducible repeat (first | refine blk_drewN ?_ _ | refine blk_drew ?_ | refine blk_alloc ?_ _)); exact Aa.out) Tryd.underlying27 rfl Z37) rfl ?_
 exact ⟨_, _, Z6, by (with_reducible repeat (first | apply Kd.R_alloc | apply Kd.R_drewN | apply Kd.R_drew)); exact Kd.R_mono (Kd.R_far (p := ⟨Ac, 3, none⟩) (Kd.R_far (p := ⟨Ac, 2, none⟩) (Kd.R_far (p := ⟨Ac, 1, none⟩) (Kd.R_far (p := ⟨Ac, 0, none⟩) (Kd.R_types Ah.out Aa.out (by decide)) (fun _ hk => hk.2) (.int .i64 Ai)) (fun _ hk => hk.2) (.int .i64 Aj)) (fun _ hk => hk.2) (.int .i64 Am)) (fun _ hk => hk.2) (.slice Ar Ap.length Au)) (fun _ hk => trivial), by (with_reducible repeat (first | apply Kd.R_alloc | apply Kd.R_drewN | apply Kd.R_drew)); exact Kd.R_mono (Kd.R_far (p := ⟨Ac, 3, none⟩) (Kd.R_far (p := ⟨Ac, 2, none⟩) (Kd.R_far (p := ⟨Ac, 1, none⟩) (Kd.R_far (p := ⟨Ac, 0, none⟩) (Kd.R_types Aq.out Aa.out (by decide)) (fun _ hk => hk.2) (.int .i64 Ai)) (fun _ hk => hk.2) (.int .i64 Aj)) (fun _ hk => hk.2) (.int .i64 Am)) (fun _ hk => hk.2) (.slice Ar Ap.length Au)) (fun _ hk => trivial), Z73⟩
def spec_DrawDyeYarn.f (k : Nat) (l0 : List Int) : Option ((List (S43)) × Int × Int × Int × List Int) := (spec_DrawIsBath.f k l0).bind fun bt255 => (some (bt255.1, bt255.2.1, bt255.2.2.1, bt255.2.2.2.1, bt255.2.2.2.2))
theorem spec_DrawDyeYarn.calls (k : Nat) (A0 : Option Addr) (c0 : Nat) (l0 : List Int) (r1 : List (S43)) (r2 : Int) (r3 : Int) (r4 : Int) (r5 : List Int) (w : World) (Ax : Kd.C (Kd.int .u8) w A0 l0.length l0) (Ay : l0.length ≤ c0) (h : spec_DrawDyeYarn.f k l0 = some (r1, r2, r3, r4, r5)) :
  Calls Tryd.prog 5 #[.slice A0 l0.length c0] w fun e w' => ∃ v0_ v4_ : Value, e = .returned (.tuple #[v0_, .agg #[.int .i64 r2, .int .i64 r3, .int .i64 r4, v4_]]) ∧ Kd.R k43 43 w' w.heap.size (fun _ => True) v0_ r1 ∧ Kd.R (Kd.int .i64) 3 w' w.heap.size (fun _ => True) v4_ r5 ∧ Below w.heap.size w w' := by
 have hu27 := Tryd.underlying27; have Bd := Aside0.mk Ax; have Bf := Aside0.mk Ay; clear Ax Ay; have HB := aM (Below.refl w.heap.size w); have H : ((spec_DrawIsBath.f k l0).bind fun Ac => (some (Ac.1, Ac.2.1, Ac.2.2.1, Ac.2.2.2.1, Ac.2.2.2.2))) = some (r1, r2, r3, r4, r5) := h; clear h; replace H := Option.bind_eq_some_iff.mp H; obtain ⟨⟨Aj, Ad, Ae, Ag, Ah⟩, Az, H⟩ := H; replace H : (some (Aj, Ad, Ae, Ag, Ah)) = some (r1, r2, r3, r4, r5) := H; have A2 := Aside0.mk Az; clear Az
 simp only [Option.some.injEq, Prod.mk.injEq] at H
 obtain ⟨rfl, rfl, rfl, rfl, rfl⟩ := H
 go_enter Tryd.func5, Tryd.ntmps5
 go_wp2_with (first | ((with_reducible refine gate_dst (N := 3) rfl ?_); refine bxE 3 #[.int .i64 0, .int .i64 0, .int .i64 0, .slice none 0 0] 27 ?_; intro Aa hg w3 hbox hb; have Ab := aM (hbox); have Ba := gwS hg Z0; have Af := gwS hg Z0; replace HB := hbS Z0 hb; clear hb hbox hg) | ((with_reducible refine gate_callee (f := 20) rfl ?_); refine glE (some 5) Tryd.func20 #[.slice A0 l0.length c0] ?_; (with_reducible refine (spec_DrawIsBath.calls k _ _ l0 Aj Ad Ae Ag Ah _ ?side1 ?side2 A2.out).mono ?_); (case side1 => exact Z117); (case side2 => exact Bf.out); rintro e w4 ⟨Bg, Bh, rfl, Bb, Bc, hb⟩; refine ⟨_, rfl, ?_⟩; have Ak := aM (Kd.R_lower Bb (below_size Z14)); have Ai := aM (Kd.R_lower Bc (below_size Z14)); replace Ab := bkB Ab hb; replace HB := hbS Z14 hb; (try clear hb); (try clear Bb); (try clear Bc); obtain ⟨Al, Am, An, Ao⟩ := bz4 Ab; obtain ⟨Ap, Aq, Ar, Au⟩ := fz4 Ab; obtain ⟨Av, Aw, Bi⟩ := Kd.R_slice Ai.out; subst Bi))
 refine bodyPost_ret (results_tc rfl _ _ Aa 27 #[.int .i64 Ad, .int .i64 Ae, .int .i64 Ag, .slice Av Ah.length Aw] (0, 0) _ rfl (by (with_reducible repeat (first | refine blk_drewN ?_ _ | refine blk_drew ?_ | refine blk_alloc ?_ _)); refine blk_put (cs := #[.int .i64 Ad, .int .i64 Ae, .int .i64 Ag, .slice none 0 0]) ?_ 3 _ rfl; (with_reducible repeat (first | refine blk_drewN ?_ _ | refine blk_drew ?_ | refine blk_alloc ?_ _)); refine blk_put (cs := #[.int .i64 Ad, .int .i64 Ae, .int .i64 0, .slice none 0 0]) ?_ 2 _ rfl; (with_reducible repeat (first | refine blk_drewN ?_ _ | refine blk_drew ?_ | refine blk_alloc ?_ _)); refine blk_put (cs := #[.int .i64 Ad, .int .i64 0, .int .i64 0, .slice none 0 0]) ?_ 1 _ rfl; (with_reducible repeat (first | refine blk_drewN ?_ _ | refine blk_drew ?_ | refine blk_alloc ?_ _)); refine blk_put (cs := #[.int .i64 0, .int .i64 0, .int .i64 0, .slice none 0 0]) ?_ 0 _ rfl; (with_reducible repeat (first | refine blk_drewN ?_ _ | refine blk_drew ?_ | refine blk_alloc ?_ _)); exact Ab.out) Tryd.underlying27 rfl Z37) rfl ?_
 exact ⟨_, _, Z6, by (with_reducible repeat (first | apply Kd.R_alloc | apply Kd.R_drewN | apply Kd.R_drew)); exact Kd.R_mono (Kd.R_far (p := ⟨Aa, 3, none⟩) (Kd.R_far (p := ⟨Aa, 2, none⟩) (Kd.R_far (p := ⟨Aa, 1, none⟩) (Kd.R_far (p := ⟨Aa, 0, none⟩) (Kd.R_types Ak.out Ab.out (by decide)) (fun _ hk => hk.2) (.int .i64 Ad)) (fun _ hk => hk.2) (.int .i64 Ae)) (fun _ hk => hk.2) (.int .i64 Ag)) (fun _ hk => hk.2) (.slice Av Ah.length Aw)) (fun _ hk => trivial), by (with_reducible repeat (first | apply Kd.R_alloc | apply Kd.R_drewN | apply Kd.R_drew)); exact Kd.R_mono (Kd.R_far (p := ⟨Aa, 3, none⟩) (Kd.R_far (p := ⟨Aa, 2, none⟩) (Kd.R_far (p := ⟨Aa, 1, none⟩) (Kd.R_far (p := ⟨Aa, 0, none⟩) (Kd.R_types Ai.out Ab.out (by decide)) (fun _ hk => hk.2) (.int .i64 Ad)) (fun _ hk => hk.2) (.int .i64 Ae)) (fun _ hk => hk.2) (.int .i64 Ag)) (fun _ hk => hk.2) (.slice Av Ah.length Aw)) (fun _ hk => trivial), Z14⟩
def impl_in.f (a0 : Int) (a1 : Int) (a2 : Int) : Option (Bool) := if a0 ≥ a1 then (some (decide (a0 ≤ a2))) else (some false)
theorem impl_in.calls (a0 : Int) (a1 : Int) (a2 : Int) (r : Bool) (w : World) (h : impl_in.f a0 a1 a2 = some r) :
  Calls Tryd.prog 28 #[.int .i64 a0, .int .i64 a1, .int .i64 a2] w fun e w' => e = .returned (.bool r) ∧ Drawn0 w w' := by
 have H : (if a0 ≥ a1 then (some (decide (a0 ≤ a2))) else (some false)) = some r := h; clear h
 by_cases c4 : a0 ≥ a1
 ·rw [if_pos c4] at H
  have c4b0 : decide (a1 ≤ a0) = true := decide_eq_true c4; clear c4; obtain rfl := Option.some.inj H
  go_enter Tryd.func28, Tryd.ntmps28
  go_wp2
  go_ret
  exact ⟨Z20, Z75⟩
 ·rw [if_neg c4] at H
  have c4b0 : decide (a1 ≤ a0) = false := decide_eq_false c4; clear c4; obtain rfl := Option.some.inj H
  go_enter Tryd.func28, Tryd.ntmps28
  go_wp2
  go_ret
  exact ⟨Z20, Z75⟩
theorem impl_in.eq (a b c : Int) : impl_in.f a b c = some (rng a b c) := by
 unfold impl_in.f rng; by_cases h : b ≤ a <;> simp [h]
def lays_strings_Trim_ren : Go.Shelf.Ren := ⟨fun | 160 => 55 | 232 => 60 | 231 => 59 | 227 => 61 | 234 => 63 | 233 => 62 | 236 => 65 | 235 => 64 | 228 => 66 | 271 => 69 | 151 => 68 | 197 => 67 | 120 => 72 | 152 => 71 | 260 => 70 | 137 => 73 | 119 => 74 | 224 => 75 | 225 => 76 | 217 => 77 | 266 => 78 | n => n, fun | 9 => 9 | 4 => 4 | 3 => 3 | 5 => 5 | 117 => 78 | 116 => 77 | 0 => 0 | 124 => 81 | 21 => 21 | 105 => 83 | 46 => 74 | 119 => 87 | 139 => 90 | 138 => 89 | n => n, fun | 3 => 0 | 4 => 1 | n => n⟩
theorem lays_strings_Trim : Go.Proofs.Lays.n160 Tryd.prog lays_strings_Trim_ren := {
 mixed := by kernel_rfl
 f119 := Tryd.func74.trans (congrArg some Z37)
 f120 := Tryd.func72.trans (congrArg some Z37)
 f137 := Tryd.func73.trans (congrArg some Z37)
 f151 := Tryd.func68.trans (congrArg some Z37)
 f152 := Tryd.func71.trans (congrArg some Z37)
 f160 := Tryd.func55.trans (congrArg some Z37)
 f197 := Tryd.func67.trans (congrArg some Z37)
 f217 := Tryd.func77.trans (congrArg some Z37)
 f224 := Tryd.func75.trans (congrArg some Z37)
 f225 := Tryd.func76.trans (congrArg some Z37)
 f227 := Tryd.func61.trans (congrArg some Z37)
 f228 := Tryd.func66.trans (congrArg some Z37)
 f231 := Tryd.func59.trans (congrArg some Z37)
 f232 := Tryd.func60.trans (congrArg some Z37)
 f233 := Tryd.func62.trans (congrArg some Z37)
 f234 := Tryd.func63.trans (congrArg some Z37)
 f235 := Tryd.func64.trans (congrArg some Z37)
 f236 := Tryd.func65.trans (congrArg some Z37)
 f260 := Tryd.func70.trans (congrArg some Z37)
 f266 := Tryd.func78.trans (congrArg some Z37)
 f271 := Tryd.func69.trans (congrArg some Z37)
 t0 := Tryd.underlying0
 a0 := Tryd.isAgg0
 z0 := Tryd.sizeOf0
 v0 := Tryd.zeroValue0
 t3 := Tryd.underlying3
 a3 := Tryd.isAgg3
 z3 := Tryd.sizeOf3
 v3 := Tryd.zeroValue3
 t4 := Tryd.underlying4
 a4 := Tryd.isAgg4
 z4 := Tryd.sizeOf4
 v4 := Tryd.zeroValue4
 t5 := Tryd.underlying5
 a5 := Tryd.isAgg5
 z5 := Tryd.sizeOf5
 v5 := Tryd.zeroValue5
 t9 := Tryd.underlying9
 a9 := Tryd.isAgg9
 z9 := Tryd.sizeOf9
 v9 := Tryd.zeroValue9
 t21 := Tryd.underlying21
 a21 := Tryd.isAgg21
 z21 := Tryd.sizeOf21
 v21 := Tryd.zeroValue21
 t46 := Tryd.underlying74
 a46 := Tryd.isAgg74
 z46 := Tryd.sizeOf74
 v46 := Tryd.zeroValue74
 t105 := Tryd.underlying83
 a105 := Tryd.isAgg83
 z105 := Tryd.sizeOf83
 v105 := Tryd.zeroValue83
 t116 := Tryd.underlying77
 a116 := Tryd.isAgg77
 z116 := Tryd.sizeOf77
 t117 := Tryd.underlying78
 a117 := Tryd.isAgg78
 z117 := Tryd.sizeOf78
 v117 := Tryd.zeroValue78
 t119 := Tryd.underlying87
 a119 := Tryd.isAgg87
 z119 := Tryd.sizeOf87
 t124 := Tryd.underlying81
 a124 := Tryd.isAgg81
 z124 := Tryd.sizeOf81
 v124 := Tryd.zeroValue81
 t138 := Tryd.underlying89
 a138 := Tryd.isAgg89
 z138 := Tryd.sizeOf89
 v138 := Tryd.zeroValue89
 t139 := Tryd.underlying90
 a139 := Tryd.isAgg90
 z139 := Tryd.sizeOf90
 v139 := Tryd.zeroValue90
 g3 := by kernel_rfl
 g4 := Z37}
theorem dropW_nil (p : UInt8 → Bool) (l : List UInt8) : l.dropWhile p = [] ↔ l.all p = true := by
 induction l with
 | nil => simp
 | cons x t ih =>
  by_cases h : p x = true
  ·simp [List.dropWhile_cons, h, ih]
  ·simp [List.dropWhile_cons, h]
theorem trim_nil (l cs : List UInt8) : Lib.trimS l cs = [] ↔ l.all (cs.contains ·) = true := by
 unfold Lib.trimS Lib.trimLeftS Lib.trimRightS
 rw [dropW_nil]
 constructor
 ·intro h
  have e : l.reverse.all (cs.contains ·) = true := by
   rw [List.all_reverse] at h; rw [← List.takeWhile_append_dropWhile (p := (cs.contains ·)) (l := l.reverse), List.all_append, Bool.and_eq_true]
   exact ⟨List.all_takeWhile, h⟩
  rwa [List.all_reverse] at e
 ·intro h
  have e : l.reverse.dropWhile (cs.contains ·) = [] := (dropW_nil _ _).2 (by rw [List.all_reverse]; exact h); rw [e]
  rfl
theorem cut_has (b : UInt8) : [97, 98, 99, 100, 101, 102, 103, 104, 105, 106, 107, 108, 109, 110, 111, 112, 113, 114, 115, 116, 117, 118, 119, 120, 121, 122].contains b = (decide (97 ≤ b.toNat) && decide (b.toNat ≤ 122)) := by
 have h : ∀ n : Fin 256, ([97, 98, 99, 100, 101, 102, 103, 104, 105, 106, 107, 108, 109, 110, 111, 112, 113, 114, 115, 116, 117, 118, 119, 120, 121, 122] : List UInt8).contains (UInt8.ofNat n.val) = (decide (97 ≤ (UInt8.ofNat n.val).toNat) && decide ((UInt8.ofNat n.val).toNat ≤ 122)) := by decide +kernel
 have e := h ⟨b.toNat, b.toNat_lt⟩
 simpa using e
def isWordB (s : ByteArray) : Bool := rng (s.size : Int) 1 10 && s.data.toList.all fun b => decide (97 ≤ b.toNat) && decide (b.toNat ≤ 122)
def impl_isWord.f (a0 : ByteArray) : Option Bool := some (isWordB a0)
theorem impl_isWord.calls (a0 : ByteArray) (r : Bool) (w : World) (h : impl_isWord.f a0 = some r) :
  Calls Tryd.prog 46 #[.string a0] w fun e w' => e = .returned (.bool r) ∧ Below w.heap.size w w' := by
 obtain rfl := Option.some.inj h; clear h; cases hin : rng (a0.size : Int) 1 10 with
 | false =>
  have e0 : isWordB a0 = false := by unfold isWordB; rw [hin]; rfl
  rw [e0]; have hc := impl_in.calls (a0.size : Int) 1 10 false; have HI := aM (show impl_in.f (a0.size : Int) 1 10 = some false by rw [impl_in.eq, hin]); clear hin e0; have HC := Aside0.mk hc; clear hc
  go_enter Tryd.func46, Tryd.ntmps46
  go_wp2_with fail
  refine (HC.out _ HI.out).mono ?_; rintro e w' ⟨rfl, hd⟩
  go_wp2
  go_ret
  exact ⟨Z136, hd.below⟩
 | true =>
  have hsz := (rng_iff _ _ _).1 hin
  have hcall : ∀ W, Calls Tryd.prog 55 #[.string a0, .string ⟨#[97, 98, 99, 100, 101, 102, 103, 104, 105, 106, 107, 108, 109, 110, 111, 112, 113, 114, 115, 116, 117, 118, 119, 120, 121, 122]⟩] W _ := fun W => Any.strings_Trim_laid lays_strings_Trim Z37 a0 ⟨#[97, 98, 99, 100, 101, 102, 103, 104, 105, 106, 107, 108, 109, 110, 111, 112, 113, 114, 115, 116, 117, 118, 119, 120, 121, 122]⟩ W (by omega) (by decide) (fun j b hb => (show ∀ x ∈ (⟨#[97, 98, 99, 100, 101, 102, 103, 104, 105, 106, 107, 108, 109, 110, 111, 112, 113, 114, 115, 116, 117, 118, 119, 120, 121, 122]⟩ : ByteArray).data.toList, x.toNat < 128 by decide) b (List.mem_of_getElem? hb))
  have hc := impl_in.calls (a0.size : Int) 1 10 true; have HI := aM (show impl_in.f (a0.size : Int) 1 10 = some true by rw [impl_in.eq, hin]); have HIN := Aside0.mk hin; clear hin hsz; have HC := Aside0.mk hc; have HT := Aside0.mk hcall; clear hc hcall
  have hemp : (Lib.trimS a0.data.toList [97, 98, 99, 100, 101, 102, 103, 104, 105, 106, 107, 108, 109, 110, 111, 112, 113, 114, 115, 116, 117, 118, 119, 120, 121, 122] = []) ↔ a0.data.toList.all (fun b => decide (97 ≤ b.toNat) && decide (b.toNat ≤ 122)) = true := by
   rw [trim_nil]
   simp only [cut_has]
  cases hall : a0.data.toList.all (fun b => decide (97 ≤ b.toNat) && decide (b.toNat ≤ 122)) with
  | true =>
   have e0 : isWordB a0 = true := by unfold isWordB; rw [HIN.out, hall]; rfl
   have e1 := aM (hemp.2 hall); rw [e0]; clear e0 hall hemp
   go_enter Tryd.func46, Tryd.ntmps46
   go_wp2_with fail
   refine (HC.out _ HI.out).mono ?_; rintro e w' ⟨rfl, hd⟩; have HD := Aside0.mk hd.below; clear hd
   go_wp2_with fail
   refine (HT.out _).mono ?_; rintro e w2 ⟨rfl, hb⟩
   have e2 : (⟨(Lib.trimS a0.data.toList [97, 98, 99, 100, 101, 102, 103, 104, 105, 106, 107, 108, 109, 110, 111, 112, 113, 114, 115, 116, 117, 118, 119, 120, 121, 122]).toArray⟩ : ByteArray) = ⟨#[]⟩ := by rw [e1.out]
   have e3 : (Value.string ⟨(Lib.trimS a0.data.toList (⟨#[97, 98, 99, 100, 101, 102, 103, 104, 105, 106, 107, 108, 109, 110, 111, 112, 113, 114, 115, 116, 117, 118, 119, 120, 121, 122]⟩ : ByteArray).data.toList).toArray⟩) = .string ⟨#[]⟩ := congrArg Value.string e2; rw [e3]; clear e2 e3
   go_wp2
   go_ret
   exact ⟨Z136, below_step HD.out hb⟩
  | false =>
   have e0 : isWordB a0 = false := by unfold isWordB; rw [HIN.out, hall]; rfl
   rw [e0]; obtain ⟨t, ht⟩ : ∃ t : ByteArray, t = ⟨(Lib.trimS a0.data.toList (⟨#[97, 98, 99, 100, 101, 102, 103, 104, 105, 106, 107, 108, 109, 110, 111, 112, 113, 114, 115, 116, 117, 118, 119, 120, 121, 122]⟩ : ByteArray).data.toList).toArray⟩ := ⟨_, rfl⟩
   have hne : t.data.toList ≠ [] := by
    intro h; rw [ht] at h; have := hemp.1 (by simpa using h); rw [hall] at this; cases this
   have e1 : (t.toList = []) = False := eq_false (by rw [Lib.toList_data]; exact hne)
   have e2 : t.toList.isEmpty = false := by
    cases hq : t.toList with
    | nil => exact absurd hq (by rw [Lib.toList_data]; exact hne)
    | cons _ _ => rfl
   clear e0 hall hemp hne
   go_enter Tryd.func46, Tryd.ntmps46
   go_wp2_with fail
   refine (HC.out _ HI.out).mono ?_; rintro e w' ⟨rfl, hd⟩; have HD := Aside0.mk hd.below; clear hd
   go_wp2_with fail
   refine (HT.out _).mono ?_; rintro e w2 ⟨rfl, hb⟩; rw [← ht]; clear ht
   go_wp2
   go_ret
   exact ⟨by first | rfl | (simp; done) | (simp [e1, e2]; done), below_step HD.out hb⟩
def impl_IsRecipe_1.f (a0_0 : ByteArray) (a0_1 : Int) : Option (Bool) := (impl_isWord.f a0_0).bind fun t265 => (if t265 = true then ((impl_in.f a0_1 1 1000).bind fun t266 => (some t266)) else (some false))
theorem impl_IsRecipe_1.calls (Ab : ByteArray) (Ac : Int) (r : Bool) (w : World) (h : impl_IsRecipe_1.f Ab Ac = some r) :
  Calls Tryd.prog 45 #[.agg #[.string Ab, .int .i64 Ac]] w fun e w' => e = .returned (.bool r) ∧ Below w.heap.size w w' := by
 have hu43 := Tryd.underlying43; have HB := aM (Below.refl w.heap.size w); have H : ((impl_isWord.f Ab).bind fun Af => (if Af = true then ((impl_in.f Ac 1 1000).bind fun Ad => (some Ad)) else (some false))) = some r := h; clear h; replace H := Option.bind_eq_some_iff.mp H; obtain ⟨Af, Aw, H⟩ := H; replace H : (if Af = true then ((impl_in.f Ac 1 1000).bind fun Ad => (some Ad)) else (some false)) = some r := H; have A2 := Aside0.mk Aw; clear Aw
 by_cases c3 : Af = true
 ·subst c3
  have H1 : ((impl_in.f Ac 1 1000).bind fun Ad => (some Ad)) = some r := by rw [if_pos rfl] at H; exact H
  clear H; have H := H1; clear H1; replace H := Option.bind_eq_some_iff.mp H; obtain ⟨Ad, Ax, H⟩ := H; replace H : (some Ad) = some r := H; have A4 := Aside0.mk Ax; clear Ax; obtain rfl := Option.some.inj H
  go_enter Tryd.func45, Tryd.ntmps45
  go_wp2_with (first | ((with_reducible refine gate_dst (N := 1) rfl ?_); refine bxE 1 #[.string Ab, .int .i64 Ac] 43 ?_; intro Ag hg w5 hbox hb; have Aa := aM (hbox); have Ah := gwS hg Z0; have Ae := gwS hg Z0; replace HB := hbS Z0 hb; clear hb hbox hg; obtain ⟨Am, An⟩ := bz2 Aa; obtain ⟨Ao, Ap⟩ := fz2 Aa) | ((with_reducible refine gate_callee (f := 46) rfl ?_); refine glE (some 5) Tryd.func46 #[.string Ab] ?_; (with_reducible refine (impl_isWord.calls Ab true _ A2.out).mono ?_); rintro e w7 ⟨rfl, hb⟩; refine ⟨_, rfl, ?_⟩; replace Aa := bkB Aa hb; replace HB := hbS Z90 hb; (try clear hb); obtain ⟨Aq, Ar⟩ := bz2 Aa; obtain ⟨Au, Av⟩ := fz2 Aa) | (go_at_call 28; (with_reducible refine (impl_in.calls Ac 1 1000 Ad _ A4.out).mono ?_); rintro e w' ⟨rfl, ⟨nd, rfl⟩⟩))
  go_ret
  exact ⟨Z6, Z90⟩
 ·replace c3 := Bool.eq_false_iff.mpr c3
  subst c3
  have H1 : (some false) = some r := by rw [if_neg (show ¬ (false = true) by decide)] at H; exact H
  clear H; have H := H1; clear H1; obtain rfl := Option.some.inj H
  go_enter Tryd.func45, Tryd.ntmps45
  go_wp2_with (first | ((with_reducible refine gate_dst (N := 1) rfl ?_); refine bxE 1 #[.string Ab, .int .i64 Ac] 43 ?_; intro Ag hg w9 hbox hb; have Aa := aM (hbox); have Ah := gwS hg Z0; have Ae := gwS hg Z0; replace HB := hbS Z0 hb; clear hb hbox hg; obtain ⟨Ai, Aj⟩ := bz2 Aa; obtain ⟨Ak, Al⟩ := fz2 Aa) | ((with_reducible refine gate_callee (f := 46) rfl ?_); refine glE (some 5) Tryd.func46 #[.string Ab] ?_; (with_reducible refine (impl_isWord.calls Ab false _ A2.out).mono ?_); rintro e Ay ⟨rfl, hb⟩; refine ⟨_, rfl, ?_⟩; replace Aa := bkB Aa hb; replace HB := hbS Z90 hb; (try clear hb)))
  go_ret
  exact ⟨Z6, Z90⟩
set_option maxHeartbeats 4000000 in
theorem IndexFunc_dp (p : S43 → Bool) (g : Nat) (lb : Array Value) (A : Option Addr) (c : Nat) (xs : List S43) (w : World)
  (eg : ∀ args w, (callFunc g args).run Tryd.prog w = .ok (.enter g args) w) (hr : Kd.C k43 w A xs.length xs)
  (hp : ∀ (W : World) (x : S43), Below w.heap.size w W → Calls Tryd.prog g (#[.agg #[.string x.f0, .int .i64 x.f1]] ++ lb) W fun e w' => e = .returned (.bool (p x)) ∧ Below W.heap.size W w') :
  Calls Tryd.prog 51 #[.slice A xs.length c, .func (.func g) #[] lb] w fun e w' => e = .returned (.int .i64 (findI p xs)) ∧ Below w.heap.size w w' := by
 have hu_ := Tryd.underlying43; have hlen := Aside0.mk hr.2.1; have HR := Aside0.mk hr; have HP := Aside0.mk hp; clear hr hp
 go_enter Tryd.func51, Tryd.ntmps51
 go_wp2
 go_loopg [5, 8] xs.length (fun gg _ s8 wr => ∃ x : Int, s8 = .int .i64 x ∧ Aside0 (0 ≤ x ∧ x ≤ (xs.length : Int) ∧ (xs.length : Int) - x ≤ gg) ∧ Aside0 (Below w.heap.size w wr) ∧ Aside0 (∀ j : Nat, (j : Int) < x → p (xs.getD j z43) = false))
 case atStart => exact ⟨0, rfl, ⟨by omega, by omega, by omega⟩, ⟨Below.refl _ _⟩, ⟨fun j hj => absurd hj (by omega)⟩⟩
 case round =>
  obtain ⟨x, rfl, HX, BW, HA⟩ := hrel
  by_cases hlt : x < (xs.length : Int)
  ·have c0 : decide (x < (xs.length : Int)) = true := decide_eq_true hlt
   obtain ⟨ad, e0, Aa, Ab⟩ := at_T43 (Kd.C_below HR.out BW.out) x HX.out.1 hlt; cases e0; have c1 : decide (0 ≤ x) = true := decide_eq_true HX.out.1; have p0 := eq_true HX.out.1; have p1 := eq_true hlt; have HL := Aside0.mk hlt; clear hlt; have hcall := HP.out _ (rd_T43 xs x) BW.out; have hget : Aside0 (xs.getD x.toNat z43 = (rd_T43 xs x)) := ⟨rfl⟩; cases hq : p (rd_T43 xs x) with
   | true =>
    rw [hq] at hcall; have HQ := Aside0.mk hq; have HC := Aside0.mk hcall; clear hq hcall
    go_wp2_with fail
    refine HC.out.mono ?_; rintro e w' ⟨rfl, hb'⟩; have HB := aM (below_step BW.out hb'); clear hb'
    go_wp2
    go_ret
    refine ⟨?_, HB.out⟩; rw [findI_hit p z43 xs x.toNat Z148 (fun j hj => HA.out j Z153) (by rw [hget.out]; exact HQ.out)]; rw [Int.toNat_of_nonneg HX.out.1]
    rfl
   | false =>
    rw [hq] at hcall; have HQ := Aside0.mk hq; have HC := Aside0.mk hcall; clear hq hcall
    go_wp2_with fail
    refine HC.out.mono ?_; rintro e w' ⟨rfl, hb'⟩; have HB := aM (below_step BW.out hb'); clear hb'
    go_wp2
    have hw1 : wrap64 (x + 1) = x + 1 := by have := HX.out; have := HL.out; have := hlen.out; unfold wrap64; omega
    go_roundg (xs.length - (x.toNat + 1))
    case measure => have := HX.out; have := HL.out; omega
    case rel =>
     refine ⟨x + 1, by first | rfl | rw [hw1] | simp [hw1], ⟨Z153, Z154, Z148⟩, HB, ⟨fun j hj => ?_⟩⟩
     by_cases e : (j : Int) < x
     ·exact HA.out j e
     ·have hj' : j = x.toNat := by have := HX.out; omega
      subst hj'; rw [hget.out]
      exact HQ.out
  ·have c0 : decide (x < (xs.length : Int)) = false := decide_eq_false hlt
   have HL := Aside0.mk hlt; clear hlt
   go_wp2
   go_ret
   refine ⟨?_, BW.out⟩; rw [findI_miss p z43 xs (fun j hj => HA.out j Z154)]
   rfl
set_option maxHeartbeats 4000000 in
theorem ContainsFunc_dp (p : S43 → Bool) (g : Nat) (lb : Array Value) (A : Option Addr) (c : Nat) (xs : List S43) (w : World)
  (eg : ∀ args w, (callFunc g args).run Tryd.prog w = .ok (.enter g args) w) (hr : Kd.C k43 w A xs.length xs)
  (hp : ∀ (W : World) (x : S43), Below w.heap.size w W → Calls Tryd.prog g (#[.agg #[.string x.f0, .int .i64 x.f1]] ++ lb) W fun e w' => e = .returned (.bool (p x)) ∧ Below W.heap.size W w') :
  Calls Tryd.prog 56 #[.slice A xs.length c, .func (.func g) #[] lb] w fun e w' => e = .returned (.bool (xs.any p)) ∧ Below w.heap.size w w' := by
 have HC := aM (IndexFunc_dp p g lb A c xs w eg hr hp); clear hr hp eg; rw [← findI_any]
 go_enter Tryd.func56, Tryd.ntmps56
 go_wp2_with fail
 refine HC.out.mono ?_; rintro e w' ⟨rfl, hb'⟩
 go_wp2
 go_ret
 exact ⟨Z136, hb'⟩
set_option maxHeartbeats 4000000 in
theorem areAll_dp_1 (p : S43 → Bool) (g : Nat) (lb : Array Value) (b : Nat) (x : S43) (W : World)
  (eg : ∀ args w, (callFunc g args).run Tryd.prog w = .ok (.enter g args) w) (hc : W.cell? ⟨b, 0, none⟩ = some (.func (.func g) #[] lb))
  (hp : ∀ W1, Below W.heap.size W W1 → Calls Tryd.prog g (#[.agg #[.string x.f0, .int .i64 x.f1]] ++ lb) W1 fun e w' => e = .returned (.bool (p x)) ∧ Below W1.heap.size W1 w') (hb : b < W.heap.size) :
  Calls Tryd.prog 57 #[.agg #[.string x.f0, .int .i64 x.f1], .pointer (some ⟨b, 0, none⟩)] W fun e w' => e = .returned (.bool (!p x)) ∧ Below W.heap.size W w' := by
 have hu_ := Tryd.underlying43; have HP := Aside0.mk hp; clear hp; have hB1 : Below W.heap.size W (W.alloc (.cells #[.string x.f0, .int .i64 x.f1] 43)) := below_alloc (Below.refl _ _) _; have Aa : (W.alloc (.cells #[.string x.f0, .int .i64 x.f1] 43)).cell? ⟨b, 0, none⟩ = some (.func (.func g) #[] lb) := (hB1.cell (p := ⟨b, 0, none⟩) hb).trans hc; have HB := Aside0.mk hB1; clear hB1 hc
 go_enter Tryd.func57, Tryd.ntmps57
 go_wp2_with fail
 refine (HP.out _ HB.out).mono ?_; rintro e w' ⟨rfl, hb'⟩
 go_wp2
 go_ret
 exact ⟨Z136, below_step HB.out hb'⟩
set_option maxHeartbeats 4000000 in
theorem areAll_dp (p : S43 → Bool) (g : Nat) (lb : Array Value) (A : Option Addr) (c : Nat) (xs : List S43) (w : World)
  (eg : ∀ args w, (callFunc g args).run Tryd.prog w = .ok (.enter g args) w) (hr : Kd.C k43 w A xs.length xs)
  (hp : ∀ (W : World) (x : S43), Below w.heap.size w W → Calls Tryd.prog g (#[.agg #[.string x.f0, .int .i64 x.f1]] ++ lb) W fun e w' => e = .returned (.bool (p x)) ∧ Below W.heap.size W w') :
  Calls Tryd.prog 47 #[.slice A xs.length c, .func (.func g) #[] lb] w fun e w' => e = .returned (.bool (xs.all p)) ∧ Below w.heap.size w w' := by
 have hmf : ∀ (fn : Fn) (first cap : Array Value) (w : World), (Instr.makeFunc fn first cap).run Tryd.prog w = .ok (.func fn first cap) w := fun _ _ _ _ => rfl
 have hB1 : Below w.heap.size w (w.alloc (.cells #[.func (.func g) #[] lb] 68)) := below_alloc (Below.refl _ _) _
 have Aa : (w.alloc (.cells #[.func (.func g) #[] lb] 68)).cell? ⟨w.heap.size, 0, none⟩ = some (.func (.func g) #[] lb) := by simp
 have hsz : w.heap.size < (w.alloc (.cells #[.func (.func g) #[] lb] 68)).heap.size := by simp
 have HC := aM (ContainsFunc_dp (fun x => !p x) 57 #[.pointer (some ⟨w.heap.size, 0, none⟩)] A c xs (w.alloc (.cells #[.func (.func g) #[] lb] 68)) (enters_of Tryd.func57 Z37 rfl) (Kd.C_below hr hB1)
  (fun W x hW => areAll_dp_1 p g lb w.heap.size x W eg ((hW.cell (p := ⟨w.heap.size, 0, none⟩) hsz).trans Aa) (fun W1 h1 => hp W1 x ((hB1.trans (hW.mono hB1.size)).trans (h1.mono (Nat.le_trans hB1.size hW.size)))) (Nat.lt_of_lt_of_le hsz hW.size)))
 have HB := Aside0.mk hB1; rw [← any_not]; clear hB1 Aa hsz hp hr eg
 go_enter Tryd.func47, Tryd.ntmps47
 go_wp2_with fail
 refine HC.out.mono ?_; rintro e w' ⟨rfl, hb'⟩
 go_wp2
 go_ret
 exact ⟨Z136, below_step HB.out hb'⟩
def okPart (x : S43) : Bool := (impl_IsRecipe_1.f x.f0 x.f1).getD false
theorem okPart_total (x : S43) : impl_IsRecipe_1.f x.f0 x.f1 = some (okPart x) := by
 unfold okPart impl_IsRecipe_1.f impl_isWord.f
 simp only [impl_in.eq, Option.bind_some]
 cases isWordB x.f0 <;> rfl
def areAll_IsRecipe_1.f (l0 : List S43) : Option Bool := some (l0.all okPart)
theorem areAll_IsRecipe_1.calls (A0 : Option Addr) (c0 : Nat) (l0 : List S43) (r : Bool) (w : World) (Aa : Kd.C k43 w A0 l0.length l0) (Ab : l0.length ≤ c0) (h : areAll_IsRecipe_1.f l0 = some r) :
  Calls Tryd.prog 47 #[.slice A0 l0.length c0, .func (.func 45) #[] #[]] w fun e w' => e = .returned (.bool r) ∧ Below w.heap.size w w' := by
 obtain rfl := Option.some.inj h
 exact areAll_dp okPart 45 #[] A0 c0 l0 w (enters_of Tryd.func45 Z37 rfl) Aa (fun W x _ => (impl_IsRecipe_1.calls x.f0 x.f1 _ W (okPart_total x)).mono fun e w' ⟨he, hd⟩ => ⟨he, by first | exact hd | exact hd.below⟩)
mutual
def impl_IsRecipe.j0 : Nat → List (S43) → Bool → Option (Bool)
 | 0, _, _ => none
 | k + 1, x0, x14 => if x14 = true then (some false) else (impl_IsRecipe.l0 k x0 1)
def impl_IsRecipe.l0 : Nat → List (S43) → Int → Option (Bool)
 | 0, _, _ => none
 | k + 1, x0, x4 => if x4 < (x0.length : Int) then (if 0 ≤ (wrap64 (x4 - 1)) then (if (wrap64 (x4 - 1)) < (x0.length : Int) then (if 0 ≤ x4 then (if ((Op.bytesLess (((rd_T43 x0 (wrap64 (x4 - 1))).f0).toList) (((rd_T43 x0 x4).f0).toList)) = true) then (impl_IsRecipe.l0 k x0 (wrap64 (x4 + 1))) else (some false)) else (none)) else (none)) else (none)) else (some true)
end
def impl_IsRecipe.f (k : Nat) (l0 : List (S43)) : Option (Bool) := (impl_in.f (l0.length : Int) 1 6).bind fun t267 => (if t267 = true then ((areAll_IsRecipe_1.f l0).bind fun t268 => (impl_IsRecipe.j0 k l0 (!t268))) else (impl_IsRecipe.j0 k l0 true))
theorem impl_IsRecipe.calls (k : Nat) (A0 : Option Addr) (c0 : Nat) (l0 : List (S43)) (r : Bool) (w : World) (Aw : Kd.C k43 w A0 l0.length l0) (Ax : l0.length ≤ c0) (h : impl_IsRecipe.f k l0 = some r) :
  Calls Tryd.prog 27 #[.slice A0 l0.length c0] w fun e w' => e = .returned (.bool r) ∧ Below w.heap.size w w' := by
 have Am := Aside0.mk Aw; have Ar := Aside0.mk Ax; clear Aw Ax; have HB := aM (Below.refl w.heap.size w); have H : ((impl_in.f (l0.length : Int) 1 6).bind fun Al => (if Al = true then ((areAll_IsRecipe_1.f l0).bind fun Af => (impl_IsRecipe.j0 k l0 (!Af))) else (impl_IsRecipe.j0 k l0 true))) = some r := h; clear h; have Au := Aside0.mk H; clear H
 go_enter Tryd.func27, Tryd.ntmps27
 go_upto_region 2 with (fail)
 repeat (go_quiet (fail); go_upto_region 2 with (fail))
 go_cut [14] (fun Ba wc => ∃ (kq : Nat) (Ak : Bool), Ba = .bool Ak ∧ Aside0 (impl_IsRecipe.j0 kq l0 Ak = some r) ∧ Aside0 (kq ≤ k) ∧ Aside0 (Below w.heap.size w wc))
 case first =>
  have H := Au.out; clear Au; replace H := Option.bind_eq_some_iff.mp H; obtain ⟨Al, Ay, H⟩ := H; replace H : (if Al = true then ((areAll_IsRecipe_1.f l0).bind fun Af => (impl_IsRecipe.j0 k l0 (!Af))) else (impl_IsRecipe.j0 k l0 true)) = some r := H; have A3 := Aside0.mk Ay; clear Ay
  by_cases c4 : Al = true
  ·subst c4
   have H1 : ((areAll_IsRecipe_1.f l0).bind fun Af => (impl_IsRecipe.j0 k l0 (!Af))) = some r := by rw [if_pos rfl] at H; exact H
   clear H; have H := H1; clear H1; replace H := Option.bind_eq_some_iff.mp H; obtain ⟨Af, Az, H⟩ := H; replace H : (impl_IsRecipe.j0 k l0 (!Af)) = some r := H; have A5 := Aside0.mk Az; clear Az; have H' := Aside0.mk H; clear H
   go_wp2_with (first | (go_at_call 28; (with_reducible refine (impl_in.calls (l0.length : Int) 1 6 true _ A3.out).mono ?_); rintro e w' ⟨rfl, ⟨nd, rfl⟩⟩; (try first | exact ⟨rfl, _, World.drewN_drewN _ _ _⟩ | exact ⟨rfl, _, Eq.trans (World.drewN_drewN _ _ _) (congrArg (World.drewN _) (Nat.add_assoc _ _ _))⟩)) | (go_at_call 47; (with_reducible refine (areAll_IsRecipe_1.calls _ _ l0 Af _ ?side1 ?side2 A5.out).mono ?_); (case side1 => repeat (first | exact (Kd.C_below Am.out Z0) | (with_reducible refine Kd.C_alloc ?_ _) | (with_reducible refine Kd.C_drewN ?_ _) | (with_reducible refine Kd.C_drew ?_))); (case side2 => exact Ar.out); rintro e w6 ⟨rfl, hb⟩; replace HB := hbS Z0 hb; (try clear hb)))
   repeat (go_quiet (first | (go_at_call 28; (with_reducible refine (impl_in.calls (l0.length : Int) 1 6 true _ A3.out).mono ?_); rintro e w' ⟨rfl, ⟨nd, rfl⟩⟩; (try first | exact ⟨rfl, _, World.drewN_drewN _ _ _⟩ | exact ⟨rfl, _, Eq.trans (World.drewN_drewN _ _ _) (congrArg (World.drewN _) (Nat.add_assoc _ _ _))⟩)) | (go_at_call 47; (with_reducible refine (areAll_IsRecipe_1.calls _ _ l0 Af _ ?side1 ?side2 A5.out).mono ?_); (case side1 => repeat (first | exact (Kd.C_below Am.out Z0) | (with_reducible refine Kd.C_alloc ?_ _) | (with_reducible refine Kd.C_drewN ?_ _) | (with_reducible refine Kd.C_drew ?_))); (case side2 => exact Ar.out); rintro e w6 ⟨rfl, hb⟩; replace HB := hbS Z0 hb; (try clear hb))); try go_wp2_with (first | (go_at_call 28; (with_reducible refine (impl_in.calls (l0.length : Int) 1 6 true _ A3.out).mono ?_); rintro e w' ⟨rfl, ⟨nd, rfl⟩⟩; (try first | exact ⟨rfl, _, World.drewN_drewN _ _ _⟩ | exact ⟨rfl, _, Eq.trans (World.drewN_drewN _ _ _) (congrArg (World.drewN _) (Nat.add_assoc _ _ _))⟩)) | (go_at_call 47; (with_reducible refine (areAll_IsRecipe_1.calls _ _ l0 Af _ ?side1 ?side2 A5.out).mono ?_); (case side1 => repeat (first | exact (Kd.C_below Am.out Z0) | (with_reducible refine Kd.C_alloc ?_ _) | (with_reducible refine Kd.C_drewN ?_ _) | (with_reducible refine Kd.C_drew ?_))); (case side2 => exact Ar.out); rintro e w6 ⟨rfl, hb⟩; replace HB := hbS Z0 hb; (try clear hb))))
   go_meet
   case rel => exact ⟨_, (!Af), Z20, H', ⟨Z100⟩, ⟨Z0⟩⟩
  ·replace c4 := Bool.eq_false_iff.mpr c4
   subst c4
   have H1 : (impl_IsRecipe.j0 k l0 true) = some r := by rw [if_neg (show ¬ (false = true) by decide)] at H; exact H
   clear H; have H := H1; clear H1; have H' := Aside0.mk H; clear H
   go_wp2_with (first | (go_at_call 28; (with_reducible refine (impl_in.calls (l0.length : Int) 1 6 false _ A3.out).mono ?_); rintro e w' ⟨rfl, ⟨nd, rfl⟩⟩; (try first | exact ⟨rfl, _, World.drewN_drewN _ _ _⟩ | exact ⟨rfl, _, Eq.trans (World.drewN_drewN _ _ _) (congrArg (World.drewN _) (Nat.add_assoc _ _ _))⟩)))
   repeat (go_quiet (first | (go_at_call 28; (with_reducible refine (impl_in.calls (l0.length : Int) 1 6 false _ A3.out).mono ?_); rintro e w' ⟨rfl, ⟨nd, rfl⟩⟩; (try first | exact ⟨rfl, _, World.drewN_drewN _ _ _⟩ | exact ⟨rfl, _, Eq.trans (World.drewN_drewN _ _ _) (congrArg (World.drewN _) (Nat.add_assoc _ _ _))⟩))); try go_wp2_with (first | (go_at_call 28; (with_reducible refine (impl_in.calls (l0.length : Int) 1 6 false _ A3.out).mono ?_); rintro e w' ⟨rfl, ⟨nd, rfl⟩⟩; (try first | exact ⟨rfl, _, World.drewN_drewN _ _ _⟩ | exact ⟨rfl, _, Eq.trans (World.drewN_drewN _ _ _) (congrArg (World.drewN _) (Nat.add_assoc _ _ _))⟩))))
   go_meet
   case rel => exact ⟨_, (true), Z20, H', ⟨Z100⟩, ⟨Z0⟩⟩
 case rest =>
  clear Au; (try clear c2); (try clear p2); (try clear c4); obtain ⟨kq, Ak, rfl, HA, HJ1, HB⟩ := hcut; cases kq with
  | zero => exact absurd HA.out (by simp [impl_IsRecipe.j0])
  | succ Av =>
   have H := HA.out; clear HA
   simp only [impl_IsRecipe.j0] at H
   by_cases c7 : Ak = true
   ·subst c7
    have H1 : (some false) = some r := by rw [if_pos rfl] at H; exact H
    clear H; have H := H1; clear H1; obtain rfl := Option.some.inj H
    go_wp2
    repeat (go_quiet (fail); try go_wp2)
    go_ret
    exact ⟨Z6, Z0⟩
   ·replace c7 := Bool.eq_false_iff.mpr c7
    subst c7
    have H1 : (impl_IsRecipe.l0 Av l0 1) = some r := by rw [if_neg (show ¬ (false = true) by decide)] at H; exact H
    clear H; have H := H1; clear H1; have H' := Aside0.mk H; clear H
    go_wp2
    repeat (go_quiet (fail); try go_wp2)
    go_loopg [4] Av (fun kq v4 w' => ∃ (Aa : Int), v4 = .int .i64 Aa ∧ Aside0 (impl_IsRecipe.l0 kq l0 Aa = some r) ∧ Aside0 (kq ≤ Av) ∧ Aside0 (Below w.heap.size w w'))
    case atStart => exact ⟨(1), Z20, H', ⟨Nat.le_refl _⟩, ⟨Z0⟩⟩
    case round =>
     clear H'; (try clear c2); (try clear p2); (try clear c4); (try clear c7); (try clear p2); obtain ⟨Aa, rfl, HA, HK2, HB⟩ := hrel; cases gk with
     | zero => exact absurd HA.out (by simp [impl_IsRecipe.l0])
     | succ k2 =>
      have H := HA.out; clear HA
      simp only [impl_IsRecipe.l0] at H
      by_cases c8 : Aa < (l0.length : Int)
      ·rw [if_pos c8] at H
       have c8b0 : decide (Aa < (l0.length : Int)) = true := decide_eq_true c8; clear c8; obtain ⟨ji9, hji9⟩ : ∃ j_ : Int, (wrap64 (Aa - 1)) = j_ := ⟨_, rfl⟩
       replace H : (if 0 ≤ (ji9) then (if (ji9) < (l0.length : Int) then (if 0 ≤ Aa then (if ((Op.bytesLess (((rd_T43 l0 (ji9)).f0).toList) (((rd_T43 l0 Aa).f0).toList)) = true) then (impl_IsRecipe.l0 k2 l0 (wrap64 (Aa + 1))) else (some false)) else (none)) else (none)) else (none)) = some r := by first | (rw [hji9] at H; exact H) | (simp only [hji9] at H ⊢; exact H)
       have hji9w : (IntKind.i64.wrap (Aa - 1)) = ji9 := (i64_w _).trans hji9
       by_cases Ao : 0 ≤ (ji9)
       ·rw [if_pos Ao] at H
        have c10b0 : decide (0 ≤ (ji9)) = true := decide_eq_true Ao; clear Ao
        by_cases Ap : (ji9) < (l0.length : Int)
        ·rw [if_pos Ap] at H
         have c11b0 : decide ((ji9) < (l0.length : Int)) = true := decide_eq_true Ap; clear Ap
         by_cases Aq : 0 ≤ Aa
         ·rw [if_pos Aq] at H
          have c12b0 : decide (0 ≤ Aa) = true := decide_eq_true Aq; clear Aq
          by_cases An : ((Op.bytesLess (((rd_T43 l0 (ji9)).f0).toList) (((rd_T43 l0 Aa).f0).toList)) = true)
          ·rw [if_pos An] at H
           have c13b0 : (Op.bytesLess (((rd_T43 l0 (ji9)).f0).toList) (((rd_T43 l0 Aa).f0).toList)) = true := An; clear An; have H' := Aside0.mk H; clear H; have Ag : 0 ≤ ((ji9) : Int) := of_decide_eq_true Z8; have Ah : (ji9) < (l0.length : Int) := of_decide_eq_true Z8; obtain ⟨ad269, e269, Ab, Ac⟩ := at_T43 Am.out (ji9) Ag Ah; cases e269; replace Ab := (HB.out.cell (World.block_lt_of_cell? w _ Ab)).trans Ab; replace Ac := (HB.out.cell (World.block_lt_of_cell? w _ Ac)).trans Ac; replace Ag := eq_true Ag; replace Ah := eq_true Ah; have Ai : 0 ≤ (Aa : Int) := of_decide_eq_true Z8; have Aj : Aa < (l0.length : Int) := of_decide_eq_true Z8; obtain ⟨ad270, e270, Ad, Ae⟩ := at_T43 Am.out Aa Ai Aj; obtain rfl : ad269 = ad270 := (by injection e270); replace Ad := (HB.out.cell (World.block_lt_of_cell? w _ Ad)).trans Ad; replace Ae := (HB.out.cell (World.block_lt_of_cell? w _ Ae)).trans Ae; replace Ai := eq_true Ai; replace Aj := eq_true Aj
           go_wp2
           repeat (go_quiet (fail); try go_wp2)
           go_roundg k2
           case measure => have := HJ1.out; have := HK2.out; omega
           case rel => exact ⟨(wrap64 (Aa + 1)), Z20, H', ⟨by have := HJ1.out; have := HK2.out; omega⟩, ⟨Z0⟩⟩
          ·rw [if_neg An] at H
           have c13b0 : (Op.bytesLess (((rd_T43 l0 (ji9)).f0).toList) (((rd_T43 l0 Aa).f0).toList)) = false := by simpa using An
           clear An; obtain rfl := Option.some.inj H; have Ag : 0 ≤ ((ji9) : Int) := of_decide_eq_true Z8; have Ah : (ji9) < (l0.length : Int) := of_decide_eq_true Z8; obtain ⟨ad269, e269, Ab, Ac⟩ := at_T43 Am.out (ji9) Ag Ah; cases e269; replace Ab := (HB.out.cell (World.block_lt_of_cell? w _ Ab)).trans Ab; replace Ac := (HB.out.cell (World.block_lt_of_cell? w _ Ac)).trans Ac; replace Ag := eq_true Ag; replace Ah := eq_true Ah; have Ai : 0 ≤ (Aa : Int) := of_decide_eq_true Z8; have Aj : Aa < (l0.length : Int) := of_decide_eq_true Z8; obtain ⟨ad270, e270, Ad, Ae⟩ := at_T43 Am.out Aa Ai Aj; obtain rfl : ad269 = ad270 := (by injection e270); replace Ad := (HB.out.cell (World.block_lt_of_cell? w _ Ad)).trans Ad; replace Ae := (HB.out.cell (World.block_lt_of_cell? w _ Ae)).trans Ae; replace Ai := eq_true Ai; replace Aj := eq_true Aj
           go_wp2
           repeat (go_quiet (fail); try go_wp2)
           go_ret
           exact ⟨Z120, Z0⟩
         ·rw [if_neg Aq] at H
          exact absurd H (by simp)
        ·rw [if_neg Ap] at H
         exact absurd H (by simp)
       ·rw [if_neg Ao] at H
        exact absurd H (by simp)
      ·rw [if_neg c8] at H
       have c8b0 : decide (Aa < (l0.length : Int)) = false := decide_eq_false c8; clear c8; obtain rfl := Option.some.inj H
       go_wp2
       repeat (go_quiet (fail); try go_wp2)
       go_ret
       exact ⟨Z6, Z0⟩
def impl_isGrams.f (a0 : Int) : Option (Bool) := (impl_in.f a0 0 50000).bind fun t271 => (some t271)
theorem impl_isGrams.calls (a0 : Int) (r : Bool) (w : World) (h : impl_isGrams.f a0 = some r) :
  Calls Tryd.prog 29 #[.int .i64 a0] w fun e w' => e = .returned (.bool r) ∧ Drawn0 w w' := by
 have H : ((impl_in.f a0 0 50000).bind fun Aa => (some Aa)) = some r := h; clear h; replace H := Option.bind_eq_some_iff.mp H; obtain ⟨Aa, Ab, H⟩ := H; replace H : (some Aa) = some r := H; have A2 := Aside0.mk Ab; clear Ab; obtain rfl := Option.some.inj H
 go_enter Tryd.func29, Tryd.ntmps29
 go_wp2_with (first | ((with_reducible refine gate_callee (f := 28) rfl ?_); refine glE (some 4) Tryd.func28 #[.int .i64 a0, .int .i64 0, .int .i64 50000] ?_; (with_reducible refine (impl_in.calls a0 0 50000 Aa _ A2.out).mono ?_); rintro e w' ⟨rfl, ⟨nd, rfl⟩⟩; refine ⟨_, rfl, ?_⟩))
 go_ret
 exact ⟨Z20, Z75⟩
set_option maxHeartbeats 4000000 in
theorem IndexFunc_int (p : Int → Bool) (g : Nat) (lb : Array Value) (A : Option Addr) (c : Nat) (xs : List Int) (w : World)
  (eg : ∀ args w, (callFunc g args).run Tryd.prog w = .ok (.enter g args) w) (hr : Kd.C (Kd.int .i64) w A xs.length xs)
  (hp : ∀ (W : World) (x : Int), Below w.heap.size w W → Calls Tryd.prog g (#[.int .i64 x] ++ lb) W fun e w' => e = .returned (.bool (p x)) ∧ Below W.heap.size W w') :
  Calls Tryd.prog 58 #[.slice A xs.length c, .func (.func g) #[] lb] w fun e w' => e = .returned (.int .i64 (findI p xs)) ∧ Below w.heap.size w w' := by
 have hlen := Aside0.mk hr.2.1; have HR := Aside0.mk hr; have HP := Aside0.mk hp; clear hr hp
 go_enter Tryd.func58, Tryd.ntmps58
 go_wp2
 go_loopg [5, 8] xs.length (fun gg _ s8 wr => ∃ x : Int, s8 = .int .i64 x ∧ Aside0 (0 ≤ x ∧ x ≤ (xs.length : Int) ∧ (xs.length : Int) - x ≤ gg) ∧ Aside0 (Below w.heap.size w wr) ∧ Aside0 (∀ j : Nat, (j : Int) < x → p (xs.getD j 0) = false))
 case atStart => exact ⟨0, rfl, ⟨by omega, by omega, by omega⟩, ⟨Below.refl _ _⟩, ⟨fun j hj => absurd hj (by omega)⟩⟩
 case round =>
  obtain ⟨x, rfl, HX, BW, HA⟩ := hrel
  by_cases hlt : x < (xs.length : Int)
  ·have c0 : decide (x < (xs.length : Int)) = true := decide_eq_true hlt
   obtain ⟨ad, e0, Aa⟩ := Kd.at_int (Kd.C_below HR.out BW.out) x HX.out.1 hlt; cases e0; have c1 : decide (0 ≤ x) = true := decide_eq_true HX.out.1; have p0 := eq_true HX.out.1; have p1 := eq_true hlt; have HL := Aside0.mk hlt; clear hlt; have hcall := HP.out _ (rd xs x) BW.out; have hget : Aside0 (xs.getD x.toNat 0 = (rd xs x)) := ⟨rfl⟩; cases hq : p (rd xs x) with
   | true =>
    rw [hq] at hcall; have HQ := Aside0.mk hq; have HC := Aside0.mk hcall; clear hq hcall
    go_wp2_with fail
    refine HC.out.mono ?_; rintro e w' ⟨rfl, hb'⟩; have HB := aM (below_step BW.out hb'); clear hb'
    go_wp2
    go_ret
    refine ⟨?_, HB.out⟩; rw [findI_hit p 0 xs x.toNat Z148 (fun j hj => HA.out j Z153) (by rw [hget.out]; exact HQ.out)]; rw [Int.toNat_of_nonneg HX.out.1]
    rfl
   | false =>
    rw [hq] at hcall; have HQ := Aside0.mk hq; have HC := Aside0.mk hcall; clear hq hcall
    go_wp2_with fail
    refine HC.out.mono ?_; rintro e w' ⟨rfl, hb'⟩; have HB := aM (below_step BW.out hb'); clear hb'
    go_wp2
    have hw1 : wrap64 (x + 1) = x + 1 := by have := HX.out; have := HL.out; have := hlen.out; unfold wrap64; omega
    go_roundg (xs.length - (x.toNat + 1))
    case measure => have := HX.out; have := HL.out; omega
    case rel =>
     refine ⟨x + 1, by first | rfl | rw [hw1] | simp [hw1], ⟨Z153, Z154, Z148⟩, HB, ⟨fun j hj => ?_⟩⟩
     by_cases e : (j : Int) < x
     ·exact HA.out j e
     ·have hj' : j = x.toNat := by have := HX.out; omega
      subst hj'; rw [hget.out]
      exact HQ.out
  ·have c0 : decide (x < (xs.length : Int)) = false := decide_eq_false hlt
   have HL := Aside0.mk hlt; clear hlt
   go_wp2
   go_ret
   refine ⟨?_, BW.out⟩; rw [findI_miss p 0 xs (fun j hj => HA.out j Z154)]
   rfl
set_option maxHeartbeats 4000000 in
theorem ContainsFunc_int (p : Int → Bool) (g : Nat) (lb : Array Value) (A : Option Addr) (c : Nat) (xs : List Int) (w : World)
  (eg : ∀ args w, (callFunc g args).run Tryd.prog w = .ok (.enter g args) w) (hr : Kd.C (Kd.int .i64) w A xs.length xs)
  (hp : ∀ (W : World) (x : Int), Below w.heap.size w W → Calls Tryd.prog g (#[.int .i64 x] ++ lb) W fun e w' => e = .returned (.bool (p x)) ∧ Below W.heap.size W w') :
  Calls Tryd.prog 48 #[.slice A xs.length c, .func (.func g) #[] lb] w fun e w' => e = .returned (.bool (xs.any p)) ∧ Below w.heap.size w w' := by
 have HC := aM (IndexFunc_int p g lb A c xs w eg hr hp); clear hr hp eg; rw [← findI_any]
 go_enter Tryd.func48, Tryd.ntmps48
 go_wp2_with fail
 refine HC.out.mono ?_; rintro e w' ⟨rfl, hb'⟩
 go_wp2
 go_ret
 exact ⟨Z136, hb'⟩
set_option maxHeartbeats 4000000 in
theorem areAll_int_1 (p : Int → Bool) (g : Nat) (lb : Array Value) (b : Nat) (x : Int) (W : World)
  (eg : ∀ args w, (callFunc g args).run Tryd.prog w = .ok (.enter g args) w) (hc : W.cell? ⟨b, 0, none⟩ = some (.func (.func g) #[] lb))
  (hp : ∀ W1, Below W.heap.size W W1 → Calls Tryd.prog g (#[.int .i64 x] ++ lb) W1 fun e w' => e = .returned (.bool (p x)) ∧ Below W1.heap.size W1 w') (hb : b < W.heap.size) :
  Calls Tryd.prog 49 #[.int .i64 x, .pointer (some ⟨b, 0, none⟩)] W fun e w' => e = .returned (.bool (!p x)) ∧ Below W.heap.size W w' := by
 have HP := Aside0.mk hp; clear hp
 go_enter Tryd.func49, Tryd.ntmps49
 go_wp2_with fail
 refine (HP.out _ (Below.refl _ _)).mono ?_; rintro e w' ⟨rfl, hb'⟩
 go_wp2
 go_ret
 exact ⟨Z136, hb'⟩
set_option maxHeartbeats 4000000 in
theorem areAll_int (p : Int → Bool) (g : Nat) (lb : Array Value) (A : Option Addr) (c : Nat) (xs : List Int) (w : World)
  (eg : ∀ args w, (callFunc g args).run Tryd.prog w = .ok (.enter g args) w) (hr : Kd.C (Kd.int .i64) w A xs.length xs)
  (hp : ∀ (W : World) (x : Int), Below w.heap.size w W → Calls Tryd.prog g (#[.int .i64 x] ++ lb) W fun e w' => e = .returned (.bool (p x)) ∧ Below W.heap.size W w') :
  Calls Tryd.prog 30 #[.slice A xs.length c, .func (.func g) #[] lb] w fun e w' => e = .returned (.bool (xs.all p)) ∧ Below w.heap.size w w' := by
 have hmf : ∀ (fn : Fn) (first cap : Array Value) (w : World), (Instr.makeFunc fn first cap).run Tryd.prog w = .ok (.func fn first cap) w := fun _ _ _ _ => rfl
 have hB1 : Below w.heap.size w (w.alloc (.cells #[.func (.func g) #[] lb] 51)) := below_alloc (Below.refl _ _) _
 have Aa : (w.alloc (.cells #[.func (.func g) #[] lb] 51)).cell? ⟨w.heap.size, 0, none⟩ = some (.func (.func g) #[] lb) := by simp
 have hsz : w.heap.size < (w.alloc (.cells #[.func (.func g) #[] lb] 51)).heap.size := by simp
 have HC := aM (ContainsFunc_int (fun x => !p x) 49 #[.pointer (some ⟨w.heap.size, 0, none⟩)] A c xs (w.alloc (.cells #[.func (.func g) #[] lb] 51)) (enters_of Tryd.func49 Z37 rfl) (Kd.C_below hr hB1)
  (fun W x hW => areAll_int_1 p g lb w.heap.size x W eg ((hW.cell (p := ⟨w.heap.size, 0, none⟩) hsz).trans Aa) (fun W1 h1 => hp W1 x ((hB1.trans (hW.mono hB1.size)).trans (h1.mono (Nat.le_trans hB1.size hW.size)))) (Nat.lt_of_lt_of_le hsz hW.size)))
 have HB := Aside0.mk hB1; rw [← any_not]; clear hB1 Aa hsz hp hr eg
 go_enter Tryd.func30, Tryd.ntmps30
 go_wp2_with fail
 refine HC.out.mono ?_; rintro e w' ⟨rfl, hb'⟩
 go_wp2
 go_ret
 exact ⟨Z136, below_step HB.out hb'⟩
end Go.Proofs.YtfeighajmkcjfaaDoor.H
