-- by wip/pack.py of this repo
import Derived.Test.YtedjeeicpppplaaDoorZ00Hx0
import Derived.Test.YtedjeeicpppplaaDoorZ00Hx1
import Derived.Test.YtedjeeicpppplaaDoorZ00Hx4
import Derived.Test.YtedjeeicpppplaaDoorZ00Hx5
import Derived.Test.YtedjeeicpppplaaDoorZ00Hx6
import Derived.Test.YtedjeeicpppplaaDoorZ00Hx7
import Derived.Test.YtedjeeicpppplaaDoorZ00Hx8
import Derived.Test.YtedjeeicpppplaaDoorZ00Hx9
import Derived.Test.YtedjeeicpppplaaDoorZ00Hx10
import Derived.Test.YtedjeeicpppplaaDoorZ00WApart
import Derived.Test.YtedjeeicpppplaaDoorZ00WGuard
import Derived.Test.YtedjeeicpppplaaDoorZ00WLast
import Derived.Test.YtedjeeicpppplaaDoorZ00WMore
import Derived.Test.YtedjeeicpppplaaDoorZ00WTab
import Derived.Test.YtedjeeicpppplaaDoorZ00WWords
import Derived.Test.YtedjeeicpppplaaDoorZ00Short
namespace Go.Proofs.YtedjeeicpppplaaDoor.H
open Go.RowKit Go.Proofs.YtedjeeicpppplaaDoorW.PrintWords Go.Proofs.YtedjeeicpppplaaDoorW.PrintLast Go.Proofs.YtedjeeicpppplaaDoorW.PrintMore
attribute [local go_sem] max2_int min2_int max_two min_two max_three min_three max_four min_four
set_option maxHeartbeats 80000000
set_option maxRecDepth 100000
set_option linter.unusedVariables false
set_option linter.unusedSimpArgs false
mutual
def laws_FnShadeCards.j0 : Nat → List Int → List (S30) → Int → Int → Int → Bool → Bool → Option (Bool)
 | 0, _, _, _, _, _, _, _ => none
 | k + 1, x0, x3, x4, x5, x6, x7, x69 => if x69 = true then (none) else (laws_FnShadeCards.l0 k x0 x3 x6 x7 0 1 (⟨#[97]⟩ : ByteArray) x4 x5 1)
def laws_FnShadeCards.l0 : Nat → List Int → List (S30) → Int → Bool → Int → Int → ByteArray → Int → Int → Int → Option (Bool)
 | 0, _, _, _, _, _, _, _, _, _, _ => none
 | k + 1, x0, x3, x6, x7, x11, x521000, x521001, x521002, x521003, x521004 => if x11 < (x3.length : Int) then (laws_FnShadeCards.j2 k x0 x3 x6 x7 x11 x7 x521000 x521001 x521002 x521003 x521004) else (laws_FnShadeCards.j2 k x0 x3 x6 x7 x11 false x521000 x521001 x521002 x521003 x521004)
def laws_FnShadeCards.j2 : Nat → List Int → List (S30) → Int → Bool → Int → Bool → Int → ByteArray → Int → Int → Int → Option (Bool)
 | 0, _, _, _, _, _, _, _, _, _, _, _ => none
 | k + 1, x0, x3, x6, x7, x11, x79, x521000, x521001, x521002, x521003, x521004 => if x79 = true then (laws_FnShadeCards.l1 k x0 x3 x6 x7 x11 0 x521000 x521001 x521002 x521003 x521004) else ((spec_DrawFadedApart.f k x0).bind fun bt528 => ((impl_FadedApart.f k bt528.1 bt528.2.1 bt528.2.2).bind fun bt533 => ((spec_FadedApart.f k bt528.1 bt528.2.1 bt528.2.2).bind fun bt537 => (if (bt533.2 != bt537.2) = true then (laws_FnShadeCards.j4 k x0 bt528.1 bt528.2.2 bt533.2 true) else ((laws_rTable.f k bt533.1 bt537.1).bind fun t541 => (laws_FnShadeCards.j4 k x0 bt528.1 bt528.2.2 bt533.2 (!t541)))))))
def laws_FnShadeCards.l1 : Nat → List Int → List (S30) → Int → Bool → Int → Int → Int → ByteArray → Int → Int → Int → Option (Bool)
 | 0, _, _, _, _, _, _, _, _, _, _, _ => none
 | k + 1, x0, x3, x6, x7, x11, x12, x521000, x521001, x521002, x521003, x521004 => if x12 < (x3.length : Int) then (if 0 ≤ x11 then (if x11 < (x3.length : Int) then ((impl_ShadeDistance.f ((rd_T30 x3 x11).f0) ((rd_T30 x3 x11).f1) ((rd_T30 x3 x11).f2) ((rd_T30 x3 x11).f3) ((rd_T30 x3 x11).f4) x521000 x521001 x521002 x521003 x521004).bind fun bt522 => (if 0 ≤ x12 then ((impl_ShadeDistance.f ((rd_T30 x3 x12).f0) ((rd_T30 x3 x12).f1) ((rd_T30 x3 x12).f2) ((rd_T30 x3 x12).f3) ((rd_T30 x3 x12).f4) x521000 x521001 x521002 x521003 x521004).bind fun bt525 => (if bt522.2 = true then (if bt525.2 = true then (if ((rd_T30 x3 x11).f0) = x6 then (if bt525.1 < bt522.1 then (none) else (laws_FnShadeCards.l1 k x0 x3 x6 x7 x11 (wrap64 (x12 + 1)) x521000 x521001 x521002 x521003 x521004)) else (laws_FnShadeCards.l1 k x0 x3 x6 x7 x11 (wrap64 (x12 + 1)) x521000 x521001 x521002 x521003 x521004)) else (none)) else (none))) else (none))) else (none)) else (none)) else (laws_FnShadeCards.l0 k x0 x3 x6 x7 (wrap64 (x11 + 1)) x521000 x521001 x521002 x521003 x521004)
def laws_FnShadeCards.j4 : Nat → List Int → List (S30) → Int → Bool → Bool → Option (Bool)
 | 0, _, _, _, _, _ => none
 | k + 1, x0, x17, x19, x21, x154 => if x154 = true then (none) else ((impl_FadedApart.f k x17 0 x19).bind fun bt542 => (if x21 = true then (if bt542.2 = true then (laws_FnShadeCards.j5 k x0 ((bt542.1.length : Int) != 0)) else (laws_FnShadeCards.j5 k x0 true)) else (laws_FnShadeCards.j5 k x0 false)))
def laws_FnShadeCards.j5 : Nat → List Int → Bool → Option (Bool)
 | 0, _, _ => none
 | k + 1, x0, x170 => if x170 = true then (none) else ((spec_DrawTriadsOf.f k x0).bind fun bt546 => ((impl_TriadsOf.f k bt546.1 bt546.2).bind fun bt550 => ((spec_TriadsOf.f k bt546.1 bt546.2).bind fun bt554 => (if (bt550.2 != bt554.2) = true then (laws_FnShadeCards.j6 k x0 bt546.1 bt546.2 bt550.1 bt550.2 true) else ((laws_rTable.f k bt550.1 bt554.1).bind fun t558 => (laws_FnShadeCards.j6 k x0 bt546.1 bt546.2 bt550.1 bt550.2 (!t558)))))))
def laws_FnShadeCards.j6 : Nat → List Int → List (S30) → Int → List (List Int) → Bool → Bool → Option (Bool)
 | 0, _, _, _, _, _, _ => none
 | k + 1, x0, x26, x27, x28, x29, x196 => if x196 = true then (none) else ((impl_TriadsOf.f k x26 (wrap64 (x27 + 1))).bind fun bt559 => (if x29 = true then (if bt559.2 = true then (laws_FnShadeCards.j7 k x0 (decide ((bt559.1.length : Int) < (x28.length : Int)))) else (laws_FnShadeCards.j7 k x0 false)) else (laws_FnShadeCards.j7 k x0 false)))
def laws_FnShadeCards.j7 : Nat → List Int → Bool → Option (Bool)
 | 0, _, _ => none
 | k + 1, x0, x214 => if x214 = true then (none) else ((spec_DrawShadeDistance.f x0).bind fun bt563 => ((impl_ShadeDistance.f bt563.1 bt563.2.1 bt563.2.2.1 bt563.2.2.2.1 bt563.2.2.2.2.1 bt563.2.2.2.2.2.1 bt563.2.2.2.2.2.2.1 bt563.2.2.2.2.2.2.2.1 bt563.2.2.2.2.2.2.2.2.1 bt563.2.2.2.2.2.2.2.2.2).bind fun bt575 => ((spec_ShadeDistance.f k bt563.1 bt563.2.1 bt563.2.2.1 bt563.2.2.2.1 bt563.2.2.2.2.1 bt563.2.2.2.2.2.1 bt563.2.2.2.2.2.2.1 bt563.2.2.2.2.2.2.2.1 bt563.2.2.2.2.2.2.2.2.1 bt563.2.2.2.2.2.2.2.2.2).bind fun bt577 => (if bt575.1 = bt577.1 then (some (bt575.2 == bt577.2)) else (none)))))
end
def laws_FnShadeCards.f (k : Nat) (l0 : List Int) : Option (Bool) := (laws_rBig.f l0).bind fun t510 => (if t510 = true then (some true) else ((spec_DrawNearestShade.f k l0).bind fun bt511 => ((impl_NearestShade.f bt511.1 bt511.2.1 bt511.2.2).bind fun bt516 => ((spec_NearestShade.f k bt511.1 bt511.2.1 bt511.2.2).bind fun bt518 => (if bt516.1 = bt518.1 then (laws_FnShadeCards.j0 k l0 bt511.1 bt511.2.1 bt511.2.2 bt516.1 bt516.2 (bt516.2 != bt518.2)) else (laws_FnShadeCards.j0 k l0 bt511.1 bt511.2.1 bt511.2.2 bt516.1 bt516.2 true))))))
def laws_FnShadeCards.T15 : Bool × List (List Nat × List Nat) := (true, [([], []), ([], []), ([0, 1], [0, 1]), ([2], [2]), ([], []), ([3, 4], [3, 4]), ([5], [5]), ([6], [6]), ([6], [6]), ([7, 5, 0, 1, 2, 3, 4, 5, 6, 7], [7]), ([8, 9, 0, 1, 2, 3, 4, 5, 6, 7, 8, 9], [8])])
def laws_FnShadeCards.B15 : List Nat := [0, 0, 3, 7, 0, 31, 63, 127, 127, 255, 1023]
theorem laws_FnShadeCards.tab15 : rtab .any (opsOf Tryd.f3 15) = laws_FnShadeCards.T15 := by kernel_rfl
theorem laws_FnShadeCards.bits15 : waitsOk laws_FnShadeCards.T15.2 laws_FnShadeCards.B15 = true := by kernel_rfl
def laws_FnShadeCards.T16 : Bool × List (List Nat × List Nat) := (true, [([], []), ([], []), ([0, 1], [0, 1]), ([2], [2]), ([], []), ([3, 4], [3, 4]), ([5], [5]), ([6], [6]), ([6], [6]), ([7, 5, 0, 1, 2, 3, 4, 5, 6, 7], [7]), ([8, 9, 0, 1, 2, 3, 4, 5, 6, 7, 8, 9], [8])])
def laws_FnShadeCards.B16 : List Nat := [0, 0, 3, 7, 0, 31, 63, 127, 127, 255, 1023]
theorem laws_FnShadeCards.tab16 : rtab .any (opsOf Tryd.f3 16) = laws_FnShadeCards.T16 := by kernel_rfl
theorem laws_FnShadeCards.bits16 : waitsOk laws_FnShadeCards.T16.2 laws_FnShadeCards.B16 = true := by kernel_rfl
theorem laws_FnShadeCards.calls (k : Nat) (A0 : Option Addr) (c0 : Nat) (l0 : List Int) (r : Bool) (w : World) (Ho : Kd.C (Kd.int .u8) w A0 l0.length l0) (Hp : l0.length ≤ c0) (h : laws_FnShadeCards.f k l0 = some r) :
  Calls Tryd.prog 3 #[.slice A0 l0.length c0] w fun e w' => e = .returned (.bool r) ∧ Below w.heap.size w w' := by
 have hu30 := Tryd.underlying30; have E2 := Aside0.mk Ho; have E3 := Aside0.mk Hp; clear Ho Hp; have HB := aM (Below.refl w.heap.size w); have H : ((laws_rBig.f l0).bind fun D2 => (if D2 = true then (some true) else ((spec_DrawNearestShade.f k l0).bind fun Af => ((impl_NearestShade.f Af.1 Af.2.1 Af.2.2).bind fun Aj => ((spec_NearestShade.f k Af.1 Af.2.1 Af.2.2).bind fun Bf => (if Aj.1 = Bf.1 then (laws_FnShadeCards.j0 k l0 Af.1 Af.2.1 Af.2.2 Aj.1 Aj.2 (Aj.2 != Bf.2)) else (laws_FnShadeCards.j0 k l0 Af.1 Af.2.1 Af.2.2 Aj.1 Aj.2 true))))))) = some r := h; clear h; replace H := Option.bind_eq_some_iff.mp H; obtain ⟨D2, Hq, H⟩ := H; replace H : (if D2 = true then (some true) else ((spec_DrawNearestShade.f k l0).bind fun Af => ((impl_NearestShade.f Af.1 Af.2.1 Af.2.2).bind fun Aj => ((spec_NearestShade.f k Af.1 Af.2.1 Af.2.2).bind fun Bf => (if Aj.1 = Bf.1 then (laws_FnShadeCards.j0 k l0 Af.1 Af.2.1 Af.2.2 Aj.1 Aj.2 (Aj.2 != Bf.2)) else (laws_FnShadeCards.j0 k l0 Af.1 Af.2.1 Af.2.2 Aj.1 Aj.2 true)))))) = some r := H; have A2 := Aside0.mk Hq; clear Hq
 by_cases c3 : D2 = true
 ·subst c3
  have H1 : (some true) = some r := by rw [if_pos rfl] at H; exact H
  clear H; have H := H1; clear H1; obtain rfl := Option.some.inj H
  go_enter Tryd.func3, Tryd.ntmps3
  go_wp2_with (first | ((with_reducible refine gate_callee (f := 4) rfl ?_); refine glE (some 41) Tryd.func4 #[.slice A0 l0.length c0] ?_; (with_reducible refine (laws_rBig.calls _ _ l0 true _ ?side1 ?side2 A2.out).mono ?_); (case side1 => exact Z104); (case side2 => exact E3.out); rintro e w' ⟨rfl, ⟨nd, rfl⟩⟩; refine ⟨_, rfl, ?_⟩))
  go_ret
  exact ⟨Z39, Z1⟩
 ·replace c3 := Bool.eq_false_iff.mpr c3
  subst c3
  have H1 : ((spec_DrawNearestShade.f k l0).bind fun Af => ((impl_NearestShade.f Af.1 Af.2.1 Af.2.2).bind fun Aj => ((spec_NearestShade.f k Af.1 Af.2.1 Af.2.2).bind fun Bf => (if Aj.1 = Bf.1 then (laws_FnShadeCards.j0 k l0 Af.1 Af.2.1 Af.2.2 Aj.1 Aj.2 (Aj.2 != Bf.2)) else (laws_FnShadeCards.j0 k l0 Af.1 Af.2.1 Af.2.2 Aj.1 Aj.2 true))))) = some r := by rw [if_neg (show ¬ (false = true) by decide)] at H; exact H
  clear H; have H := H1; clear H1; replace H := Option.bind_eq_some_iff.mp H; obtain ⟨⟨Ab, Ag, Ah⟩, Hr, H⟩ := H; replace H : ((impl_NearestShade.f Ab Ag Ah).bind fun Aj => ((spec_NearestShade.f k Ab Ag Ah).bind fun Bf => (if Aj.1 = Bf.1 then (laws_FnShadeCards.j0 k l0 Ab Ag Ah Aj.1 Aj.2 (Aj.2 != Bf.2)) else (laws_FnShadeCards.j0 k l0 Ab Ag Ah Aj.1 Aj.2 true)))) = some r := H; have A4 := Aside0.mk Hr; clear Hr; replace H := Option.bind_eq_some_iff.mp H; obtain ⟨⟨Ak, Bd⟩, Fv, H⟩ := H; replace H : ((spec_NearestShade.f k Ab Ag Ah).bind fun Bf => (if Ak = Bf.1 then (laws_FnShadeCards.j0 k l0 Ab Ag Ah Ak Bd (Bd != Bf.2)) else (laws_FnShadeCards.j0 k l0 Ab Ag Ah Ak Bd true))) = some r := H; have A5 := Aside0.mk Fv; clear Fv; replace H := Option.bind_eq_some_iff.mp H; obtain ⟨⟨Di, Em⟩, Hs, H⟩ := H; replace H : (if Ak = Di then (laws_FnShadeCards.j0 k l0 Ab Ag Ah Ak Bd (Bd != Em)) else (laws_FnShadeCards.j0 k l0 Ab Ag Ah Ak Bd true)) = some r := H; have A6 := Aside0.mk Hs; clear Hs; have G5 := Aside0.mk H; clear H
  go_enter Tryd.func3, Tryd.ntmps3
  go_upto_region 6 with (first | ((with_reducible refine gate_callee (f := 4) rfl ?_); refine glE (some 41) Tryd.func4 #[.slice A0 l0.length c0] ?_; (with_reducible refine (laws_rBig.calls _ _ l0 false _ ?side1 ?side2 A2.out).mono ?_); (case side1 => exact Z104); (case side2 => exact E3.out); rintro e w' ⟨rfl, ⟨nd, rfl⟩⟩; refine ⟨_, rfl, ?_⟩) | ((with_reducible refine gate_callee (f := 5) rfl ?_); refine glE (some 44) Tryd.func5 #[.slice A0 l0.length c0] ?_; (with_reducible refine (spec_DrawNearestShade.calls k _ _ l0 Ab Ag Ah _ ?side1 ?side2 A4.out).mono ?_); (case side1 => exact Z104); (case side2 => exact E3.out); rintro e w8 ⟨H6, rfl, Bt, hb⟩; refine ⟨_, rfl, ?_⟩; have Bo := aM (Kd.R_lower Bt (below_size Z1)); replace HB := hbS Z1 hb; (try clear hb); (try clear Bt); obtain ⟨E4, E5, H7⟩ := Kd.R_slice Bo.out; subst H7) | ((with_reducible refine gate_callee (f := 6) rfl ?_); refine glE (some 52) Tryd.func6 #[.slice E4 Ab.length E5, .int .i64 Ag, .int .i64 Ah] ?_; (with_reducible refine (impl_NearestShade.calls _ _ Ab Ag Ah Ak Bd _ ?side1 ?side2 A5.out).mono ?_); (case side1 => exact Z118); (case side2 => exact (Kd.R_reads' Bo.out).2.1); rintro e Ji ⟨rfl, hb⟩; refine ⟨_, rfl, ?_⟩; replace Bo := roB Bo hb; replace HB := hbS Z1 hb; (try clear hb)) | ((with_reducible refine gate_callee (f := 7) rfl ?_); refine glE (some 59) Tryd.func7 #[.slice E4 Ab.length E5, .int .i64 Ag, .int .i64 Ah] ?_; (with_reducible refine (spec_NearestShade.calls k _ _ Ab Ag Ah Di Em _ ?side1 ?side2 A6.out).mono ?_); (case side1 => exact Z118); (case side2 => exact (Kd.R_reads' Bo.out).2.1); rintro e Jj ⟨rfl, hb⟩; refine ⟨_, rfl, ?_⟩; replace Bo := roB Bo hb; replace HB := hbS Z1 hb; (try clear hb)))
  (try simp only [Act.put, List.setIfInBounds_toArray, List.set_cons_zero, List.set_cons_succ])
  go_cut [69] (fun H8 wc => ∃ (kq : Nat) (Dl : Bool), H8 = .bool Dl ∧ Aside0 (laws_FnShadeCards.j0 kq l0 Ab Ag Ah Ak Bd Dl = some r) ∧ Aside0 (kq ≤ k) ∧ Aside0 (Kd.R k30 30 wc w.heap.size (fun _ => True) (.slice E4 Ab.length E5) Ab) ∧ Aside0 (Below w.heap.size w wc))
  case first => as_aux_lemma =>
   have H := G5.out; clear G5
   by_cases Ds : Ak = Di
   ·rw [if_pos Ds] at H
    have c12b0 : (Ak == Di) = true := beq_iff_eq.mpr Ds; have c12b1 : (Ak != Di) = false := bne_eq_false_iff_eq.mpr Ds; clear Ds
    (first | rw [c12b0] | (simp only [i64_w, i32_w]; rw [c12b0]) | skip)
    have H' := Aside0.mk H; clear H
    go_wp2
    go_meet
    case rel => exact ⟨_, ((Bd != Em)), Z37, H', ⟨Z96⟩, ⟨Z132⟩, ⟨Z1⟩⟩
   ·rw [if_neg Ds] at H
    have c12b0 : (Ak == Di) = false := beq_eq_false_iff_ne.mpr Ds; have c12b1 : (Ak != Di) = true := bne_iff_ne.mpr Ds
    (first | rw [c12b0] | (simp only [i64_w, i32_w]; rw [c12b0]) | skip)
    have H' := Aside0.mk H; clear H
    go_wp2
    go_meet
    case rel => exact ⟨_, (true), Z37, H', ⟨Z96⟩, ⟨Z132⟩, ⟨Z1⟩⟩
  case rest =>
   clear G5; (try clear c1); (try clear p2); (try clear c3); (try clear c4); (try clear c5); (try clear c6); (try clear c7); (try clear Ds); (try clear c12b0); (try clear c12b1); obtain ⟨kq, Dl, rfl, HA, HJ6, Ai, HB⟩ := hcut; cases kq with
   | zero => exact absurd HA.out (by simp [laws_FnShadeCards.j0])
   | succ G6 =>
    have H := HA.out; clear HA
    simp only [laws_FnShadeCards.j0] at H
    by_cases D3 : Dl = true
    ·subst D3
     have H1 : (none) = some r := by rw [if_pos rfl] at H; exact H
     clear H; have H := H1; clear H1; exact absurd H (by simp)
    ·replace D3 := Bool.eq_false_iff.mpr D3
     subst D3
     have H1 : (laws_FnShadeCards.l0 G6 l0 Ab Ak Bd 0 1 (⟨#[97]⟩ : ByteArray) Ag Ah 1) = some r := by rw [if_neg (show ¬ (false = true) by decide)] at H; exact H
     clear H; have H := H1; clear H1; have H' := Aside0.mk H; clear H
     go_wp2_with (first | ((with_reducible refine gate_dst (N := 10) rfl ?_); (try (refine gate_guard (by rfl) ?_; dsimp only)); refine bxE 10 #[.int .i64 0, .string (⟨#[]⟩ : ByteArray), .int .i64 0, .int .i64 0, .int .i64 0] 30 ?_; intro Ae hg Jk hbox hb; replace Ai := aM (Kd.R_below (Kd.R_elderB Z83 Ae (Nat.le_of_eq hg.symm)) hb); have Ac := aM (hbox); have Ht := gwS hg Z1; have Am := gwS hg Z1; replace HB := hbS Z1 hb; clear hb hbox hg; obtain ⟨C2, C3, C4, C5, C6⟩ := bz5 Ac; obtain ⟨C7, C8, C9, Da, Db⟩ := fz5 Ac))
     go_loopg [11] G6 (fun kq H9 w' => ∃ (Aa : Int), H9 = .int .i64 Aa ∧ Aside0 (laws_FnShadeCards.l0 kq l0 Ab Ak Bd Aa 1 (⟨#[97]⟩ : ByteArray) Ag Ah 1 = some r) ∧ Aside0 (kq ≤ G6) ∧ Aside0 (Kd.R k30 30 w' w.heap.size (fun k_ => k_ ≠ Ae) (.slice E4 Ab.length E5) Ab) ∧ Aside0 (w'.heap[Ae]? = some (.cells #[.int .i64 1, .string (⟨#[97]⟩ : ByteArray), .int .i64 Ag, .int .i64 Ah, .int .i64 1] 30 (0, 0))) ∧ Aside0 (Below w.heap.size w w'))
     case atStart => exact ⟨(0), Z37, H', ⟨Nat.le_refl _⟩, ⟨by (with_reducible repeat (first | apply Kd.R_alloc | apply Kd.R_drewN | apply Kd.R_drew)); exact Kd.R_mono (Kd.R_far (p := ⟨Ae, 4, none⟩) (Kd.R_far (p := ⟨Ae, 3, none⟩) (Kd.R_far (p := ⟨Ae, 2, none⟩) (Kd.R_far (p := ⟨Ae, 1, none⟩) (Kd.R_far (p := ⟨Ae, 0, none⟩) (Kd.R_mono Ai.out (fun k_ hk => (⟨hk, hk.2⟩ : _ ∧ k_ ≠ Ae))) (fun _ hk => hk.2) (.int .i64 1)) (fun _ hk => hk.2) (.string (⟨#[97]⟩ : ByteArray))) (fun _ hk => hk.2) (.int .i64 Ag)) (fun _ hk => hk.2) (.int .i64 Ah)) (fun _ hk => hk.2) (.int .i64 1)) (fun _ hk => hk.1.2)⟩, ⟨by (with_reducible repeat (first | refine blk_drewN ?_ _ | refine blk_drew ?_ | refine blk_alloc ?_ _)); refine blk_put (cs := #[.int .i64 1, .string (⟨#[97]⟩ : ByteArray), .int .i64 Ag, .int .i64 Ah, .int .i64 0]) ?_ 4 _ rfl; (with_reducible repeat (first | refine blk_drewN ?_ _ | refine blk_drew ?_ | refine blk_alloc ?_ _)); refine blk_put (cs := #[.int .i64 1, .string (⟨#[97]⟩ : ByteArray), .int .i64 Ag, .int .i64 0, .int .i64 0]) ?_ 3 _ rfl; (with_reducible repeat (first | refine blk_drewN ?_ _ | refine blk_drew ?_ | refine blk_alloc ?_ _)); refine blk_put (cs := #[.int .i64 1, .string (⟨#[97]⟩ : ByteArray), .int .i64 0, .int .i64 0, .int .i64 0]) ?_ 2 _ rfl; (with_reducible repeat (first | refine blk_drewN ?_ _ | refine blk_drew ?_ | refine blk_alloc ?_ _)); refine blk_put (cs := #[.int .i64 1, .string (⟨#[]⟩ : ByteArray), .int .i64 0, .int .i64 0, .int .i64 0]) ?_ 1 _ rfl; (with_reducible repeat (first | refine blk_drewN ?_ _ | refine blk_drew ?_ | refine blk_alloc ?_ _)); refine blk_put (cs := #[.int .i64 0, .string (⟨#[]⟩ : ByteArray), .int .i64 0, .int .i64 0, .int .i64 0]) ?_ 0 _ rfl; (with_reducible repeat (first | refine blk_drewN ?_ _ | refine blk_drew ?_ | refine blk_alloc ?_ _)); exact Ac.out⟩, ⟨Z9⟩⟩
     case round =>
      clear H'; (try clear c1); (try clear p2); (try clear c3); (try clear c4); (try clear c5); (try clear c6); (try clear c7); (try clear Ds); (try clear c12b0); (try clear c12b1); (try clear D3); (try clear C2); (try clear C3); (try clear C4); (try clear C5); (try clear C6); (try clear C7); (try clear C8); (try clear C9); (try clear Da); (try clear Db); (try clear p2); obtain ⟨Aa, rfl, HA, HK2, Ai, Ac, HB⟩ := hrel; cases gk with
      | zero => exact absurd HA.out (by simp [laws_FnShadeCards.l0])
      | succ k2 =>
       have H := HA.out; clear HA
       simp only [laws_FnShadeCards.l0] at H
       have En := Aside0.mk H; clear H
       go_upto_region 10 with (fail)
       go_cut [79] (fun Ia wc => ∃ (kq : Nat) (Dc : Bool), Ia = .bool Dc ∧ Aside0 (laws_FnShadeCards.j2 kq l0 Ab Ak Bd Aa Dc 1 (⟨#[97]⟩ : ByteArray) Ag Ah 1 = some r) ∧ Aside0 (kq ≤ k2) ∧ Aside0 (Kd.R k30 30 wc w.heap.size (fun k_ => k_ ≠ Ae) (.slice E4 Ab.length E5) Ab) ∧ Aside0 (wc.heap[Ae]? = some (.cells #[.int .i64 1, .string (⟨#[97]⟩ : ByteArray), .int .i64 Ag, .int .i64 Ah, .int .i64 1] 30 (0, 0))) ∧ Aside0 (Below w.heap.size w wc))
       case first => as_aux_lemma =>
        have H := En.out; clear En
        by_cases Ed : Aa < (Ab.length : Int)
        ·rw [if_pos Ed] at H
         have c17b0 : decide (Aa < (Ab.length : Int)) = true := decide_eq_true Ed; clear Ed
         (first | rw [c17b0] | (simp only [i64_w, i32_w]; rw [c17b0]) | skip)
         have H' := Aside0.mk H; clear H
         go_wp2
         go_meet
         case rel => exact ⟨_, (Bd), Z37, H', ⟨Z142⟩, ⟨Z83⟩, ⟨Z11⟩, ⟨Z9⟩⟩
        ·rw [if_neg Ed] at H
         have c17b0 : decide (Aa < (Ab.length : Int)) = false := decide_eq_false Ed; clear Ed
         (first | rw [c17b0] | (simp only [i64_w, i32_w]; rw [c17b0]) | skip)
         have H' := Aside0.mk H; clear H
         go_wp2
         go_meet
         case rel => exact ⟨_, (false), Z37, H', ⟨Z142⟩, ⟨Z83⟩, ⟨Z11⟩, ⟨Z9⟩⟩
       case rest =>
        clear En; (try clear c1); (try clear p2); (try clear c3); (try clear c4); (try clear c5); (try clear c6); (try clear c7); (try clear Ds); (try clear c12b0); (try clear c12b1); (try clear D3); (try clear Ed); (try clear c17b0); (try clear C2); (try clear C3); (try clear C4); (try clear C5); (try clear C6); (try clear C7); (try clear C8); (try clear C9); (try clear Da); (try clear Db); (try clear p2); obtain ⟨kq, Dc, rfl, HA, HJ15, Ai, Ac, HB⟩ := hcut; cases kq with
        | zero => exact absurd HA.out (by simp [laws_FnShadeCards.j2])
        | succ An =>
         have H := HA.out; clear HA
         simp only [laws_FnShadeCards.j2] at H
         by_cases D4 : Dc = true
         ·subst D4
          have H1 : (laws_FnShadeCards.l1 An l0 Ab Ak Bd Aa 0 1 (⟨#[97]⟩ : ByteArray) Ag Ah 1) = some r := by rw [if_pos rfl] at H; exact H
          clear H; have H := H1; clear H1; have H' := Aside0.mk H; clear H
          go_wp2
          go_loopg [12] An (fun kq Ib w' => ∃ (Ad : Int), Ib = .int .i64 Ad ∧ Aside0 (laws_FnShadeCards.l1 kq l0 Ab Ak Bd Aa Ad 1 (⟨#[97]⟩ : ByteArray) Ag Ah 1 = some r) ∧ Aside0 (kq ≤ An) ∧ Aside0 (Kd.R k30 30 w' w.heap.size (fun k_ => k_ ≠ Ae) (.slice E4 Ab.length E5) Ab) ∧ Aside0 (w'.heap[Ae]? = some (.cells #[.int .i64 1, .string (⟨#[97]⟩ : ByteArray), .int .i64 Ag, .int .i64 Ah, .int .i64 1] 30 (0, 0))) ∧ Aside0 (Below w.heap.size w w'))
          case atStart => exact ⟨(0), Z37, H', ⟨Nat.le_refl _⟩, ⟨Z83⟩, ⟨Z11⟩, ⟨Z9⟩⟩
          case round =>
           clear H'; (try clear c1); (try clear p2); (try clear c3); (try clear c4); (try clear c5); (try clear c6); (try clear c7); (try clear Ds); (try clear c12b0); (try clear c12b1); (try clear D3); (try clear Ed); (try clear c17b0); (try clear D4); (try clear C2); (try clear C3); (try clear C4); (try clear C5); (try clear C6); (try clear C7); (try clear C8); (try clear C9); (try clear Da); (try clear Db); (try clear p2); obtain ⟨Ad, rfl, HA, HK4, Ai, Ac, HB⟩ := hrel; cases gk with
           | zero => exact absurd HA.out (by simp [laws_FnShadeCards.l1])
           | succ k4 =>
            have H := HA.out; clear HA
            simp only [laws_FnShadeCards.l1] at H
            by_cases D1 : Ad < (Ab.length : Int)
            ·rw [if_pos D1] at H
             have c19b0 : decide (Ad < (Ab.length : Int)) = true := decide_eq_true D1; clear D1
             by_cases Ee : 0 ≤ Aa
             ·rw [if_pos Ee] at H
              have c20b0 : decide (0 ≤ Aa) = true := decide_eq_true Ee; clear Ee
              by_cases Ef : Aa < (Ab.length : Int)
              ·rw [if_pos Ef] at H
               have c21b0 : decide (Aa < (Ab.length : Int)) = true := decide_eq_true Ef; clear Ef; replace H := Option.bind_eq_some_iff.mp H; obtain ⟨⟨Df, Eo⟩, E7, H⟩ := H; replace H : (if 0 ≤ Ad then ((impl_ShadeDistance.f ((rd_T30 Ab Ad).f0) ((rd_T30 Ab Ad).f1) ((rd_T30 Ab Ad).f2) ((rd_T30 Ab Ad).f3) ((rd_T30 Ab Ad).f4) 1 (⟨#[97]⟩ : ByteArray) Ag Ah 1).bind fun Eg => (if Eo = true then (if Eg.2 = true then (if ((rd_T30 Ab Aa).f0) = Ak then (if Eg.1 < Df then (none) else (laws_FnShadeCards.l1 k4 l0 Ab Ak Bd Aa (wrap64 (Ad + 1)) 1 (⟨#[97]⟩ : ByteArray) Ag Ah 1)) else (laws_FnShadeCards.l1 k4 l0 Ab Ak Bd Aa (wrap64 (Ad + 1)) 1 (⟨#[97]⟩ : ByteArray) Ag Ah 1)) else (none)) else (none))) else (none)) = some r := H; have Hu := Aside0.mk E7; clear E7
               by_cases Eh : 0 ≤ Ad
               ·rw [if_pos Eh] at H
                have c23b0 : decide (0 ≤ Ad) = true := decide_eq_true Eh; clear Eh; replace H := Option.bind_eq_some_iff.mp H; obtain ⟨⟨Dj, Ep⟩, E8, H⟩ := H; replace H : (if Eo = true then (if Ep = true then (if ((rd_T30 Ab Aa).f0) = Ak then (if Dj < Df then (none) else (laws_FnShadeCards.l1 k4 l0 Ab Ak Bd Aa (wrap64 (Ad + 1)) 1 (⟨#[97]⟩ : ByteArray) Ag Ah 1)) else (laws_FnShadeCards.l1 k4 l0 Ab Ak Bd Aa (wrap64 (Ad + 1)) 1 (⟨#[97]⟩ : ByteArray) Ag Ah 1)) else (none)) else (none)) = some r := H; have Hv := Aside0.mk E8; clear E8
                by_cases Ei : Eo = true
                ·subst Ei
                 have H1 : (if Ep = true then (if ((rd_T30 Ab Aa).f0) = Ak then (if Dj < Df then (none) else (laws_FnShadeCards.l1 k4 l0 Ab Ak Bd Aa (wrap64 (Ad + 1)) 1 (⟨#[97]⟩ : ByteArray) Ag Ah 1)) else (laws_FnShadeCards.l1 k4 l0 Ab Ak Bd Aa (wrap64 (Ad + 1)) 1 (⟨#[97]⟩ : ByteArray) Ag Ah 1)) else (none)) = some r := by rw [if_pos rfl] at H; exact H
                 clear H; have H := H1; clear H1
                 by_cases Ej : Ep = true
                 ·subst Ej
                  have H1 : (if ((rd_T30 Ab Aa).f0) = Ak then (if Dj < Df then (none) else (laws_FnShadeCards.l1 k4 l0 Ab Ak Bd Aa (wrap64 (Ad + 1)) 1 (⟨#[97]⟩ : ByteArray) Ag Ah 1)) else (laws_FnShadeCards.l1 k4 l0 Ab Ak Bd Aa (wrap64 (Ad + 1)) 1 (⟨#[97]⟩ : ByteArray) Ag Ah 1)) = some r := by rw [if_pos rfl] at H; exact H
                  clear H; have H := H1; clear H1
                  by_cases Dt : ((rd_T30 Ab Aa).f0) = Ak
                  ·rw [if_pos Dt] at H
                   have c27b0 : (((rd_T30 Ab Aa).f0) == Ak) = true := beq_iff_eq.mpr Dt; have c27b1 : (((rd_T30 Ab Aa).f0) != Ak) = false := bne_eq_false_iff_eq.mpr Dt; clear Dt
                   by_cases Fw : Dj < Df
                   ·rw [if_pos Fw] at H
                    exact absurd H (by simp)
                   ·rw [if_neg Fw] at H
                    have c28b0 : decide (Dj < Df) = false := decide_eq_false Fw; clear Fw; have H' := Aside0.mk H; clear H
                    try go_wp2
                    replace Ai := aM (Kd.R_drew Ai.out); replace Ac := aM (blk_drew Ac.out); replace HB := aM (below_drew1 HB.out); have Cl : 0 ≤ (Aa : Int) := of_decide_eq_true Z25; have Cm : Aa < (Ab.length : Int) := of_decide_eq_true Z25; obtain ⟨ad521, e521, Ao, Ap, Aq, Ar, Au⟩ := at_T30 (Kd.R_reads' Ai.out).2.2 Aa Cl Cm; cases e521; replace Cl := eq_true Cl; replace Cm := eq_true Cm; refine start_ (n := 11) (S := fun w' => w'.cell? ⟨Ae, 0, none⟩ = some (.int .i64 1) ∧ w'.cell? ⟨Ae, 1, none⟩ = some (.string (⟨#[97]⟩ : ByteArray)) ∧ w'.cell? ⟨Ae, 2, none⟩ = some (.int .i64 Ag) ∧ w'.cell? ⟨Ae, 3, none⟩ = some (.int .i64 Ah) ∧ w'.cell? ⟨Ae, 4, none⟩ = some (.int .i64 1) ∧ w'.cell? (ad521.add ((Aa).toNat * 5)) = some (.int .i64 ((rd_T30 Ab Aa).f0)) ∧ w'.cell? ⟨(ad521.add ((Aa).toNat * 5)).block, (ad521.add ((Aa).toNat * 5)).off + 1, none⟩ = some (.string ((rd_T30 Ab Aa).f1)) ∧ w'.cell? ⟨(ad521.add ((Aa).toNat * 5)).block, (ad521.add ((Aa).toNat * 5)).off + 2, none⟩ = some (.int .i64 ((rd_T30 Ab Aa).f2)) ∧ w'.cell? ⟨(ad521.add ((Aa).toNat * 5)).block, (ad521.add ((Aa).toNat * 5)).off + 3, none⟩ = some (.int .i64 ((rd_T30 Ab Aa).f3)) ∧ w'.cell? ⟨(ad521.add ((Aa).toNat * 5)).block, (ad521.add ((Aa).toNat * 5)).off + 4, none⟩ = some (.int .i64 ((rd_T30 Ab Aa).f4))) (ds := []) #[false, false, false, false, false, false, false, false, false, false, false] Z52 rfl rfl ⟨(blk_cell Ac.out 0).trans rfl, (blk_cell Ac.out 1).trans rfl, (blk_cell Ac.out 2).trans rfl, (blk_cell Ac.out 3).trans rfl, (blk_cell Ac.out 4).trans rfl, Ao, Ap, Aq, Ar, Au⟩ (fun hHeld => ?_); refine with_tabW laws_FnShadeCards.tab15 laws_FnShadeCards.bits15 (fun HT_ HW_ => ?_)
                    generalize wr.drew = Jl at Ai Ac HB Ao Ap Aq Ar Au hHeld ⊢
                    refine puR 0 89 #[true, false, false, false, false, false, false, false, false, false, false] HT_ rfl rfl ?_; refine puR 1 90 #[true, true, false, false, false, false, false, false, false, false, false] HT_ rfl rfl ?_; refine puR 2 91 #[true, true, true, false, false, false, false, false, false, false, false] HT_ rfl rfl ?_; refine taR 3 92 #[true, true, true, true, false, false, false, false, false, false, false] HT_ HW_ hHeld rfl rfl ?_; refine taR 4 93 #[true, true, true, true, true, false, false, false, false, false, false] HT_ HW_ hHeld rfl rfl ?_; refine one_ (i := 5) (N := some 94) #[true, true, true, true, true, true, false, false, false, false, false] rfl rfl (one_of HT_.out Z52) (by decide) (fun K hK => ?_); refine goes_ Tryd.func8 Z52 rfl #[.agg #[.int .i64 ((rd_T30 Ab Aa).f0), .string ((rd_T30 Ab Aa).f1), .int .i64 ((rd_T30 Ab Aa).f2), .int .i64 ((rd_T30 Ab Aa).f3), .int .i64 ((rd_T30 Ab Aa).f4)], .agg #[.int .i64 1, .string (⟨#[97]⟩ : ByteArray), .int .i64 Ag, .int .i64 Ah, .int .i64 1]] (by rfl) rfl rfl Z28 ?_; (with_reducible refine (impl_ShadeDistance.calls ((rd_T30 Ab Aa).f0) ((rd_T30 Ab Aa).f1) ((rd_T30 Ab Aa).f2) ((rd_T30 Ab Aa).f3) ((rd_T30 Ab Aa).f4) 1 (⟨#[97]⟩ : ByteArray) Ag Ah 1 Df true _ Hu.out).mono ?_); rintro e Ic ⟨rfl, hb⟩; have HS5_ := (hb.cell (World.block_lt_of_cell? _ _ (hHeld.2.2.2.2.2.1))).trans (hHeld.2.2.2.2.2.1); have HS6_ := (hb.cell (World.block_lt_of_cell? _ _ (hHeld.2.2.2.2.2.2.1))).trans (hHeld.2.2.2.2.2.2.1); have HS7_ := (hb.cell (World.block_lt_of_cell? _ _ (hHeld.2.2.2.2.2.2.2.1))).trans (hHeld.2.2.2.2.2.2.2.1); have HS8_ := (hb.cell (World.block_lt_of_cell? _ _ (hHeld.2.2.2.2.2.2.2.2.1))).trans (hHeld.2.2.2.2.2.2.2.2.1); have HS9_ := (hb.cell (World.block_lt_of_cell? _ _ (hHeld.2.2.2.2.2.2.2.2.2))).trans (hHeld.2.2.2.2.2.2.2.2.2); refine ⟨_, rfl, ?_⟩; replace Ai := roB Ai hb; replace Ac := aM (blk_below (g := Ae) (o := .cells #[.int .i64 1, .string (⟨#[97]⟩ : ByteArray), .int .i64 Ag, .int .i64 Ah, .int .i64 1] 30 (0, 0)) Z11 hb); replace HB := hbS Z9 hb; (try clear hb); (try clear hb2); (try clear hk); (try clear hi); refine hK.out _ _ Z84 (fun hHeld => ?_); clear hK K; refine noR 94 ?_; refine puR 6 88 #[true, true, true, true, true, true, true, false, false, false, false] HT_ rfl rfl ?_; refine puR 7 95 #[true, true, true, true, true, true, true, true, false, false, false] HT_ rfl rfl ?_; refine puR 8 96 #[true, true, true, true, true, true, true, true, true, false, false] HT_ rfl rfl ?_; refine puR 9 13 #[true, true, true, true, true, true, true, true, true, true, false] HT_ rfl rfl ?_; refine puR 10 14 #[true, true, true, true, true, true, true, true, true, true, true] HT_ rfl rfl ?_; refine done_ (done_of HT_.out Z52) ?_
                    try go_wp2
                    replace Ai := aM (Kd.R_drew Ai.out); replace Ac := aM (blk_drew Ac.out); replace HB := aM (below_drew1 HB.out); have Cn : 0 ≤ (Ad : Int) := of_decide_eq_true Z25; have Co : Ad < (Ab.length : Int) := of_decide_eq_true Z25; obtain ⟨ad524, e524, Av, Aw, Ax, Ay, Az⟩ := at_T30 (Kd.R_reads' Ai.out).2.2 Ad Cn Co; obtain rfl : ad521 = ad524 := (by injection e524); replace Cn := eq_true Cn; replace Co := eq_true Co; refine start_ (n := 11) (S := fun w' => w'.cell? ⟨Ae, 0, none⟩ = some (.int .i64 1) ∧ w'.cell? ⟨Ae, 1, none⟩ = some (.string (⟨#[97]⟩ : ByteArray)) ∧ w'.cell? ⟨Ae, 2, none⟩ = some (.int .i64 Ag) ∧ w'.cell? ⟨Ae, 3, none⟩ = some (.int .i64 Ah) ∧ w'.cell? ⟨Ae, 4, none⟩ = some (.int .i64 1) ∧ w'.cell? (ad521.add ((Ad).toNat * 5)) = some (.int .i64 ((rd_T30 Ab Ad).f0)) ∧ w'.cell? ⟨(ad521.add ((Ad).toNat * 5)).block, (ad521.add ((Ad).toNat * 5)).off + 1, none⟩ = some (.string ((rd_T30 Ab Ad).f1)) ∧ w'.cell? ⟨(ad521.add ((Ad).toNat * 5)).block, (ad521.add ((Ad).toNat * 5)).off + 2, none⟩ = some (.int .i64 ((rd_T30 Ab Ad).f2)) ∧ w'.cell? ⟨(ad521.add ((Ad).toNat * 5)).block, (ad521.add ((Ad).toNat * 5)).off + 3, none⟩ = some (.int .i64 ((rd_T30 Ab Ad).f3)) ∧ w'.cell? ⟨(ad521.add ((Ad).toNat * 5)).block, (ad521.add ((Ad).toNat * 5)).off + 4, none⟩ = some (.int .i64 ((rd_T30 Ab Ad).f4))) (ds := []) #[false, false, false, false, false, false, false, false, false, false, false] Z52 rfl rfl ⟨(blk_cell Ac.out 0).trans rfl, (blk_cell Ac.out 1).trans rfl, (blk_cell Ac.out 2).trans rfl, (blk_cell Ac.out 3).trans rfl, (blk_cell Ac.out 4).trans rfl, Av, Aw, Ax, Ay, Az⟩ (fun hHeld => ?_); refine with_tabW laws_FnShadeCards.tab16 laws_FnShadeCards.bits16 (fun HT_ HW_ => ?_)
                    generalize Ic.drew = Jm at Ai Ac HB Av Aw Ax Ay Az hHeld ⊢
                    refine puR 0 98 #[true, false, false, false, false, false, false, false, false, false, false] HT_ rfl rfl ?_; refine puR 1 99 #[true, true, false, false, false, false, false, false, false, false, false] HT_ rfl rfl ?_; refine puR 2 100 #[true, true, true, false, false, false, false, false, false, false, false] HT_ rfl rfl ?_; refine taR 3 101 #[true, true, true, true, false, false, false, false, false, false, false] HT_ HW_ hHeld rfl rfl ?_; refine taR 4 102 #[true, true, true, true, true, false, false, false, false, false, false] HT_ HW_ hHeld rfl rfl ?_; refine one_ (i := 5) (N := some 103) #[true, true, true, true, true, true, false, false, false, false, false] rfl rfl (one_of HT_.out Z52) (by decide) (fun K hK => ?_); refine goes_ Tryd.func8 Z52 rfl #[.agg #[.int .i64 ((rd_T30 Ab Ad).f0), .string ((rd_T30 Ab Ad).f1), .int .i64 ((rd_T30 Ab Ad).f2), .int .i64 ((rd_T30 Ab Ad).f3), .int .i64 ((rd_T30 Ab Ad).f4)], .agg #[.int .i64 1, .string (⟨#[97]⟩ : ByteArray), .int .i64 Ag, .int .i64 Ah, .int .i64 1]] (by rfl) rfl rfl Z28 ?_; (with_reducible refine (impl_ShadeDistance.calls ((rd_T30 Ab Ad).f0) ((rd_T30 Ab Ad).f1) ((rd_T30 Ab Ad).f2) ((rd_T30 Ab Ad).f3) ((rd_T30 Ab Ad).f4) 1 (⟨#[97]⟩ : ByteArray) Ag Ah 1 Dj true _ Hv.out).mono ?_); rintro e Jn ⟨rfl, hb⟩; have HS5_ := (hb.cell (World.block_lt_of_cell? _ _ (hHeld.2.2.2.2.2.1))).trans (hHeld.2.2.2.2.2.1); have HS6_ := (hb.cell (World.block_lt_of_cell? _ _ (hHeld.2.2.2.2.2.2.1))).trans (hHeld.2.2.2.2.2.2.1); have HS7_ := (hb.cell (World.block_lt_of_cell? _ _ (hHeld.2.2.2.2.2.2.2.1))).trans (hHeld.2.2.2.2.2.2.2.1); have HS8_ := (hb.cell (World.block_lt_of_cell? _ _ (hHeld.2.2.2.2.2.2.2.2.1))).trans (hHeld.2.2.2.2.2.2.2.2.1); have HS9_ := (hb.cell (World.block_lt_of_cell? _ _ (hHeld.2.2.2.2.2.2.2.2.2))).trans (hHeld.2.2.2.2.2.2.2.2.2); refine ⟨_, rfl, ?_⟩; replace Ai := roB Ai hb; replace Ac := aM (blk_below (g := Ae) (o := .cells #[.int .i64 1, .string (⟨#[97]⟩ : ByteArray), .int .i64 Ag, .int .i64 Ah, .int .i64 1] 30 (0, 0)) Z11 hb); replace HB := hbS Z9 hb; (try clear hb); (try clear hb2); (try clear hk); (try clear hi); refine hK.out _ _ Z84 (fun hHeld => ?_); clear hK K; refine noR 103 ?_; refine puR 6 97 #[true, true, true, true, true, true, true, false, false, false, false] HT_ rfl rfl ?_; refine puR 7 104 #[true, true, true, true, true, true, true, true, false, false, false] HT_ rfl rfl ?_; refine puR 8 105 #[true, true, true, true, true, true, true, true, true, false, false] HT_ rfl rfl ?_; refine puR 9 15 #[true, true, true, true, true, true, true, true, true, true, false] HT_ rfl rfl ?_; refine puR 10 16 #[true, true, true, true, true, true, true, true, true, true, true] HT_ rfl rfl ?_; refine done_ (done_of HT_.out Z52) ?_; have Cp : 0 ≤ (Aa : Int) := of_decide_eq_true Z25; have Cq : Aa < (Ab.length : Int) := of_decide_eq_true Z25; obtain ⟨ad527, e527, Bu, Bv, Bw, Bx, Bz⟩ := at_T30 (Kd.R_reads' Ai.out).2.2 Aa Cp Cq; obtain rfl : ad521 = ad527 := (by injection e527); replace Cp := eq_true Cp; replace Cq := eq_true Cq
                    try go_wp2
                    go_roundg k4
                    case measure => have := HJ6.out; have := HK2.out; have := HJ15.out; have := HK4.out; omega
                    case rel => exact ⟨(wrap64 (Ad + 1)), Z37, H', ⟨Z128⟩, ⟨Z83⟩, ⟨Z11⟩, ⟨Z9⟩⟩
                  ·rw [if_neg Dt] at H
                   have c27b0 : (((rd_T30 Ab Aa).f0) == Ak) = false := beq_eq_false_iff_ne.mpr Dt; have c27b1 : (((rd_T30 Ab Aa).f0) != Ak) = true := bne_iff_ne.mpr Dt; have H' := Aside0.mk H; clear H
                   try go_wp2
                   replace Ai := aM (Kd.R_drew Ai.out); replace Ac := aM (blk_drew Ac.out); replace HB := aM (below_drew1 HB.out); have Cl : 0 ≤ (Aa : Int) := of_decide_eq_true Z25; have Cm : Aa < (Ab.length : Int) := of_decide_eq_true Z25; obtain ⟨ad521, e521, Ao, Ap, Aq, Ar, Au⟩ := at_T30 (Kd.R_reads' Ai.out).2.2 Aa Cl Cm; cases e521; replace Cl := eq_true Cl; replace Cm := eq_true Cm; refine start_ (n := 11) (S := fun w' => w'.cell? ⟨Ae, 0, none⟩ = some (.int .i64 1) ∧ w'.cell? ⟨Ae, 1, none⟩ = some (.string (⟨#[97]⟩ : ByteArray)) ∧ w'.cell? ⟨Ae, 2, none⟩ = some (.int .i64 Ag) ∧ w'.cell? ⟨Ae, 3, none⟩ = some (.int .i64 Ah) ∧ w'.cell? ⟨Ae, 4, none⟩ = some (.int .i64 1) ∧ w'.cell? (ad521.add ((Aa).toNat * 5)) = some (.int .i64 ((rd_T30 Ab Aa).f0)) ∧ w'.cell? ⟨(ad521.add ((Aa).toNat * 5)).block, (ad521.add ((Aa).toNat * 5)).off + 1, none⟩ = some (.string ((rd_T30 Ab Aa).f1)) ∧ w'.cell? ⟨(ad521.add ((Aa).toNat * 5)).block, (ad521.add ((Aa).toNat * 5)).off + 2, none⟩ = some (.int .i64 ((rd_T30 Ab Aa).f2)) ∧ w'.cell? ⟨(ad521.add ((Aa).toNat * 5)).block, (ad521.add ((Aa).toNat * 5)).off + 3, none⟩ = some (.int .i64 ((rd_T30 Ab Aa).f3)) ∧ w'.cell? ⟨(ad521.add ((Aa).toNat * 5)).block, (ad521.add ((Aa).toNat * 5)).off + 4, none⟩ = some (.int .i64 ((rd_T30 Ab Aa).f4))) (ds := []) #[false, false, false, false, false, false, false, false, false, false, false] Z52 rfl rfl ⟨(blk_cell Ac.out 0).trans rfl, (blk_cell Ac.out 1).trans rfl, (blk_cell Ac.out 2).trans rfl, (blk_cell Ac.out 3).trans rfl, (blk_cell Ac.out 4).trans rfl, Ao, Ap, Aq, Ar, Au⟩ (fun hHeld => ?_); refine with_tabW laws_FnShadeCards.tab15 laws_FnShadeCards.bits15 (fun HT_ HW_ => ?_)
                   generalize wr.drew = Jo at Ai Ac HB Ao Ap Aq Ar Au hHeld ⊢
                   refine puR 0 89 #[true, false, false, false, false, false, false, false, false, false, false] HT_ rfl rfl ?_; refine puR 1 90 #[true, true, false, false, false, false, false, false, false, false, false] HT_ rfl rfl ?_; refine puR 2 91 #[true, true, true, false, false, false, false, false, false, false, false] HT_ rfl rfl ?_; refine taR 3 92 #[true, true, true, true, false, false, false, false, false, false, false] HT_ HW_ hHeld rfl rfl ?_; refine taR 4 93 #[true, true, true, true, true, false, false, false, false, false, false] HT_ HW_ hHeld rfl rfl ?_; refine one_ (i := 5) (N := some 94) #[true, true, true, true, true, true, false, false, false, false, false] rfl rfl (one_of HT_.out Z52) (by decide) (fun K hK => ?_); refine goes_ Tryd.func8 Z52 rfl #[.agg #[.int .i64 ((rd_T30 Ab Aa).f0), .string ((rd_T30 Ab Aa).f1), .int .i64 ((rd_T30 Ab Aa).f2), .int .i64 ((rd_T30 Ab Aa).f3), .int .i64 ((rd_T30 Ab Aa).f4)], .agg #[.int .i64 1, .string (⟨#[97]⟩ : ByteArray), .int .i64 Ag, .int .i64 Ah, .int .i64 1]] (by rfl) rfl rfl Z28 ?_; (with_reducible refine (impl_ShadeDistance.calls ((rd_T30 Ab Aa).f0) ((rd_T30 Ab Aa).f1) ((rd_T30 Ab Aa).f2) ((rd_T30 Ab Aa).f3) ((rd_T30 Ab Aa).f4) 1 (⟨#[97]⟩ : ByteArray) Ag Ah 1 Df true _ Hu.out).mono ?_); rintro e Ie ⟨rfl, hb⟩; have HS5_ := (hb.cell (World.block_lt_of_cell? _ _ (hHeld.2.2.2.2.2.1))).trans (hHeld.2.2.2.2.2.1); have HS6_ := (hb.cell (World.block_lt_of_cell? _ _ (hHeld.2.2.2.2.2.2.1))).trans (hHeld.2.2.2.2.2.2.1); have HS7_ := (hb.cell (World.block_lt_of_cell? _ _ (hHeld.2.2.2.2.2.2.2.1))).trans (hHeld.2.2.2.2.2.2.2.1); have HS8_ := (hb.cell (World.block_lt_of_cell? _ _ (hHeld.2.2.2.2.2.2.2.2.1))).trans (hHeld.2.2.2.2.2.2.2.2.1); have HS9_ := (hb.cell (World.block_lt_of_cell? _ _ (hHeld.2.2.2.2.2.2.2.2.2))).trans (hHeld.2.2.2.2.2.2.2.2.2); refine ⟨_, rfl, ?_⟩; replace Ai := roB Ai hb; replace Ac := aM (blk_below (g := Ae) (o := .cells #[.int .i64 1, .string (⟨#[97]⟩ : ByteArray), .int .i64 Ag, .int .i64 Ah, .int .i64 1] 30 (0, 0)) Z11 hb); replace HB := hbS Z9 hb; (try clear hb); (try clear hb2); (try clear hk); (try clear hi); refine hK.out _ _ Z84 (fun hHeld => ?_); clear hK K; refine noR 94 ?_; refine puR 6 88 #[true, true, true, true, true, true, true, false, false, false, false] HT_ rfl rfl ?_; refine puR 7 95 #[true, true, true, true, true, true, true, true, false, false, false] HT_ rfl rfl ?_; refine puR 8 96 #[true, true, true, true, true, true, true, true, true, false, false] HT_ rfl rfl ?_; refine puR 9 13 #[true, true, true, true, true, true, true, true, true, true, false] HT_ rfl rfl ?_; refine puR 10 14 #[true, true, true, true, true, true, true, true, true, true, true] HT_ rfl rfl ?_; refine done_ (done_of HT_.out Z52) ?_
                   try go_wp2
                   replace Ai := aM (Kd.R_drew Ai.out); replace Ac := aM (blk_drew Ac.out); replace HB := aM (below_drew1 HB.out); have Cn : 0 ≤ (Ad : Int) := of_decide_eq_true Z25; have Co : Ad < (Ab.length : Int) := of_decide_eq_true Z25; obtain ⟨ad524, e524, Av, Aw, Ax, Ay, Az⟩ := at_T30 (Kd.R_reads' Ai.out).2.2 Ad Cn Co; obtain rfl : ad521 = ad524 := (by injection e524); replace Cn := eq_true Cn; replace Co := eq_true Co; refine start_ (n := 11) (S := fun w' => w'.cell? ⟨Ae, 0, none⟩ = some (.int .i64 1) ∧ w'.cell? ⟨Ae, 1, none⟩ = some (.string (⟨#[97]⟩ : ByteArray)) ∧ w'.cell? ⟨Ae, 2, none⟩ = some (.int .i64 Ag) ∧ w'.cell? ⟨Ae, 3, none⟩ = some (.int .i64 Ah) ∧ w'.cell? ⟨Ae, 4, none⟩ = some (.int .i64 1) ∧ w'.cell? (ad521.add ((Ad).toNat * 5)) = some (.int .i64 ((rd_T30 Ab Ad).f0)) ∧ w'.cell? ⟨(ad521.add ((Ad).toNat * 5)).block, (ad521.add ((Ad).toNat * 5)).off + 1, none⟩ = some (.string ((rd_T30 Ab Ad).f1)) ∧ w'.cell? ⟨(ad521.add ((Ad).toNat * 5)).block, (ad521.add ((Ad).toNat * 5)).off + 2, none⟩ = some (.int .i64 ((rd_T30 Ab Ad).f2)) ∧ w'.cell? ⟨(ad521.add ((Ad).toNat * 5)).block, (ad521.add ((Ad).toNat * 5)).off + 3, none⟩ = some (.int .i64 ((rd_T30 Ab Ad).f3)) ∧ w'.cell? ⟨(ad521.add ((Ad).toNat * 5)).block, (ad521.add ((Ad).toNat * 5)).off + 4, none⟩ = some (.int .i64 ((rd_T30 Ab Ad).f4))) (ds := []) #[false, false, false, false, false, false, false, false, false, false, false] Z52 rfl rfl ⟨(blk_cell Ac.out 0).trans rfl, (blk_cell Ac.out 1).trans rfl, (blk_cell Ac.out 2).trans rfl, (blk_cell Ac.out 3).trans rfl, (blk_cell Ac.out 4).trans rfl, Av, Aw, Ax, Ay, Az⟩ (fun hHeld => ?_); refine with_tabW laws_FnShadeCards.tab16 laws_FnShadeCards.bits16 (fun HT_ HW_ => ?_)
                   generalize Ie.drew = Jp at Ai Ac HB Av Aw Ax Ay Az hHeld ⊢
                   refine puR 0 98 #[true, false, false, false, false, false, false, false, false, false, false] HT_ rfl rfl ?_; refine puR 1 99 #[true, true, false, false, false, false, false, false, false, false, false] HT_ rfl rfl ?_; refine puR 2 100 #[true, true, true, false, false, false, false, false, false, false, false] HT_ rfl rfl ?_; refine taR 3 101 #[true, true, true, true, false, false, false, false, false, false, false] HT_ HW_ hHeld rfl rfl ?_; refine taR 4 102 #[true, true, true, true, true, false, false, false, false, false, false] HT_ HW_ hHeld rfl rfl ?_; refine one_ (i := 5) (N := some 103) #[true, true, true, true, true, true, false, false, false, false, false] rfl rfl (one_of HT_.out Z52) (by decide) (fun K hK => ?_); refine goes_ Tryd.func8 Z52 rfl #[.agg #[.int .i64 ((rd_T30 Ab Ad).f0), .string ((rd_T30 Ab Ad).f1), .int .i64 ((rd_T30 Ab Ad).f2), .int .i64 ((rd_T30 Ab Ad).f3), .int .i64 ((rd_T30 Ab Ad).f4)], .agg #[.int .i64 1, .string (⟨#[97]⟩ : ByteArray), .int .i64 Ag, .int .i64 Ah, .int .i64 1]] (by rfl) rfl rfl Z28 ?_; (with_reducible refine (impl_ShadeDistance.calls ((rd_T30 Ab Ad).f0) ((rd_T30 Ab Ad).f1) ((rd_T30 Ab Ad).f2) ((rd_T30 Ab Ad).f3) ((rd_T30 Ab Ad).f4) 1 (⟨#[97]⟩ : ByteArray) Ag Ah 1 Dj true _ Hv.out).mono ?_); rintro e Jq ⟨rfl, hb⟩; have HS5_ := (hb.cell (World.block_lt_of_cell? _ _ (hHeld.2.2.2.2.2.1))).trans (hHeld.2.2.2.2.2.1); have HS6_ := (hb.cell (World.block_lt_of_cell? _ _ (hHeld.2.2.2.2.2.2.1))).trans (hHeld.2.2.2.2.2.2.1); have HS7_ := (hb.cell (World.block_lt_of_cell? _ _ (hHeld.2.2.2.2.2.2.2.1))).trans (hHeld.2.2.2.2.2.2.2.1); have HS8_ := (hb.cell (World.block_lt_of_cell? _ _ (hHeld.2.2.2.2.2.2.2.2.1))).trans (hHeld.2.2.2.2.2.2.2.2.1); have HS9_ := (hb.cell (World.block_lt_of_cell? _ _ (hHeld.2.2.2.2.2.2.2.2.2))).trans (hHeld.2.2.2.2.2.2.2.2.2); refine ⟨_, rfl, ?_⟩; replace Ai := roB Ai hb; replace Ac := aM (blk_below (g := Ae) (o := .cells #[.int .i64 1, .string (⟨#[97]⟩ : ByteArray), .int .i64 Ag, .int .i64 Ah, .int .i64 1] 30 (0, 0)) Z11 hb); replace HB := hbS Z9 hb; (try clear hb); (try clear hb2); (try clear hk); (try clear hi); refine hK.out _ _ Z84 (fun hHeld => ?_); clear hK K; refine noR 103 ?_; refine puR 6 97 #[true, true, true, true, true, true, true, false, false, false, false] HT_ rfl rfl ?_; refine puR 7 104 #[true, true, true, true, true, true, true, true, false, false, false] HT_ rfl rfl ?_; refine puR 8 105 #[true, true, true, true, true, true, true, true, true, false, false] HT_ rfl rfl ?_; refine puR 9 15 #[true, true, true, true, true, true, true, true, true, true, false] HT_ rfl rfl ?_; refine puR 10 16 #[true, true, true, true, true, true, true, true, true, true, true] HT_ rfl rfl ?_; refine done_ (done_of HT_.out Z52) ?_; have Cp : 0 ≤ (Aa : Int) := of_decide_eq_true Z25; have Cq : Aa < (Ab.length : Int) := of_decide_eq_true Z25; obtain ⟨ad527, e527, Bu, Bv, Bw, Bx, Bz⟩ := at_T30 (Kd.R_reads' Ai.out).2.2 Aa Cp Cq; obtain rfl : ad521 = ad527 := (by injection e527); replace Cp := eq_true Cp; replace Cq := eq_true Cq
                   try go_wp2
                   go_roundg k4
                   case measure => have := HJ6.out; have := HK2.out; have := HJ15.out; have := HK4.out; omega
                   case rel => exact ⟨(wrap64 (Ad + 1)), Z37, H', ⟨Z128⟩, ⟨Z83⟩, ⟨Z11⟩, ⟨Z9⟩⟩
                 ·replace Ej := Bool.eq_false_iff.mpr Ej
                  subst Ej
                  have H1 : (none) = some r := by rw [if_neg (show ¬ (false = true) by decide)] at H; exact H
                  clear H; have H := H1; clear H1; exact absurd H (by simp)
                ·replace Ei := Bool.eq_false_iff.mpr Ei
                 subst Ei
                 have H1 : (none) = some r := by rw [if_neg (show ¬ (false = true) by decide)] at H; exact H
                 clear H; have H := H1; clear H1; exact absurd H (by simp)
               ·rw [if_neg Eh] at H
                exact absurd H (by simp)
              ·rw [if_neg Ef] at H
               exact absurd H (by simp)
             ·rw [if_neg Ee] at H
              exact absurd H (by simp)
            ·rw [if_neg D1] at H
             have c19b0 : decide (Ad < (Ab.length : Int)) = false := decide_eq_false D1; clear D1; have H' := Aside0.mk H; clear H
             go_wp2
             go_roundg k4
             case measure => have := HJ6.out; have := HK2.out; have := HJ15.out; have := HK4.out; omega
             case rel => exact ⟨(wrap64 (Aa + 1)), Z37, H', ⟨Z128⟩, ⟨Z83⟩, ⟨Z11⟩, ⟨Z9⟩⟩
         ·replace D4 := Bool.eq_false_iff.mpr D4
          subst D4
          have H1 : ((spec_DrawFadedApart.f An l0).bind fun Bs => ((impl_FadedApart.f An Bs.1 Bs.2.1 Bs.2.2).bind fun B0 => ((spec_FadedApart.f An Bs.1 Bs.2.1 Bs.2.2).bind fun B8 => (if (B0.2 != B8.2) = true then (laws_FnShadeCards.j4 An l0 Bs.1 Bs.2.2 B0.2 true) else ((laws_rTable.f An B0.1 B8.1).bind fun Cr => (laws_FnShadeCards.j4 An l0 Bs.1 Bs.2.2 B0.2 (!Cr))))))) = some r := by rw [if_neg (show ¬ (false = true) by decide)] at H; exact H
          clear H; have H := H1; clear H1; replace H := Option.bind_eq_some_iff.mp H; obtain ⟨⟨Bg, Dg, Bl⟩, E9, H⟩ := H; replace H : ((impl_FadedApart.f An Bg Dg Bl).bind fun B0 => ((spec_FadedApart.f An Bg Dg Bl).bind fun B8 => (if (B0.2 != B8.2) = true then (laws_FnShadeCards.j4 An l0 Bg Bl B0.2 true) else ((laws_rTable.f An B0.1 B8.1).bind fun Cr => (laws_FnShadeCards.j4 An l0 Bg Bl B0.2 (!Cr)))))) = some r := H; have Ig := Aside0.mk E9; clear E9; replace H := Option.bind_eq_some_iff.mp H; obtain ⟨⟨D5, Bi⟩, Fa, H⟩ := H; replace H : ((spec_FadedApart.f An Bg Dg Bl).bind fun B8 => (if (Bi != B8.2) = true then (laws_FnShadeCards.j4 An l0 Bg Bl Bi true) else ((laws_rTable.f An D5 B8.1).bind fun Cr => (laws_FnShadeCards.j4 An l0 Bg Bl Bi (!Cr))))) = some r := H; have Ih := Aside0.mk Fa; clear Fa; replace H := Option.bind_eq_some_iff.mp H; obtain ⟨⟨Er, Cv⟩, Fb, H⟩ := H; replace H : (if (Bi != Cv) = true then (laws_FnShadeCards.j4 An l0 Bg Bl Bi true) else ((laws_rTable.f An D5 Er).bind fun Cr => (laws_FnShadeCards.j4 An l0 Bg Bl Bi (!Cr)))) = some r := H; have Ii := Aside0.mk Fb; clear Fb; have Es := Aside0.mk H; clear H
          go_upto_region 22 with (first | ((with_reducible refine gate_callee (f := 9) rfl ?_); refine glE (some 128) Tryd.func9 #[.slice A0 l0.length c0] ?_; (with_reducible refine (spec_DrawFadedApart.calls An _ _ l0 Bg Dg Bl _ ?side1 ?side2 Ig.out).mono ?_); (case side1 => exact Z100); (case side2 => exact E3.out); rintro e Jr ⟨Ij, rfl, Bt, hb⟩; refine ⟨_, rfl, ?_⟩; have Bp := aM (Kd.R_lower (Kd.R_newB (Kd.R_new' Bt (Kd.R_lt Z83)) (g := Ae) (o := .cells #[.int .i64 1, .string (⟨#[97]⟩ : ByteArray), .int .i64 Ag, .int .i64 Ah, .int .i64 1] 30 (0, 0)) Z11) (below_size Z9)); replace Ai := aM (Kd.R_elder' Z83 (Kd.R_base Bt) hb); replace Ac := aM (blk_below (g := Ae) (o := .cells #[.int .i64 1, .string (⟨#[97]⟩ : ByteArray), .int .i64 Ag, .int .i64 Ah, .int .i64 1] 30 (0, 0)) Z11 hb); replace HB := hbS Z9 hb; (try clear hb); (try clear Bt); obtain ⟨D6, D7, G7⟩ := Kd.R_slice Bp.out; subst G7) | ((with_reducible refine gate_callee (f := 10) rfl ?_); refine glE (some 136) Tryd.func10 #[.slice D6 Bg.length D7, .int .i64 Dg, .int .i64 Bl] ?_; (with_reducible refine (impl_FadedApart.calls An _ _ Bg Dg Bl D5 Bi _ ?side1 ?side2 Ih.out).mono ?_); (case side1 => exact Z119); (case side2 => exact (Kd.R_reads' Bp.out).2.1); rintro e Js ⟨Ik, rfl, Bt, hb⟩; refine ⟨_, rfl, ?_⟩; replace Ai := roB Ai hb; replace Bp := roB Bp hb; have Cz := aM (Kd.S_lower Bt (below_size Z9)); replace Ac := aM (blk_below (g := Ae) (o := .cells #[.int .i64 1, .string (⟨#[97]⟩ : ByteArray), .int .i64 Ag, .int .i64 Ah, .int .i64 1] 30 (0, 0)) Z11 hb); replace HB := hbS Z9 hb; (try clear hb); (try clear Bt)) | ((with_reducible refine gate_callee (f := 11) rfl ?_); refine glE (some 143) Tryd.func11 #[.slice D6 Bg.length D7, .int .i64 Dg, .int .i64 Bl] ?_; (with_reducible refine (spec_FadedApart.calls An _ _ Bg Dg Bl Er Cv _ ?side1 ?side2 Ii.out).mono ?_); (case side1 => exact Z119); (case side2 => exact (Kd.R_reads' Bp.out).2.1); rintro e Jt ⟨Il, rfl, Bt, hb⟩; refine ⟨_, rfl, ?_⟩; replace Ai := roB Ai hb; replace Bp := roB Bp hb; have Du := aM (Kd.S_lower (Kd.S_new' Bt (Kd.S_lt Z133)) (below_size Z9)); replace Cz := aM (Kd.S_elder' Z133 (Kd.S_base Bt) hb); replace Ac := aM (blk_below (g := Ae) (o := .cells #[.int .i64 1, .string (⟨#[97]⟩ : ByteArray), .int .i64 Ag, .int .i64 Ah, .int .i64 1] 30 (0, 0)) Z11 hb); replace HB := hbS Z9 hb; (try clear hb); (try clear Bt)))
          (try simp only [Act.put, List.setIfInBounds_toArray, List.set_cons_zero, List.set_cons_succ])
          go_cut [154] (fun G8 wc => ∃ (kq : Nat) (Ch : Bool), G8 = .bool Ch ∧ Aside0 (laws_FnShadeCards.j4 kq l0 Bg Bl Bi Ch = some r) ∧ Aside0 (kq ≤ An) ∧ Aside0 (Kd.R k30 30 wc w.heap.size (fun _ => True) (.slice D6 Bg.length D7) Bg) ∧ Aside0 (Below w.heap.size w wc))
          case first => as_aux_lemma =>
           have H := Es.out; clear Es
           by_cases Dk : (Bi != Cv) = true
           ·rw [if_pos Dk] at H
            have c45b0 : (Bi != Cv) = true := Dk
            (try (have c45b1 : decide (Bi = Cv) = false := Z148))
            (try (have c45b2 : (Bi == Cv) = false := Z148))
            (try (have c45b3 : ¬ (Bi = Cv) := Z148))
            clear Dk
            (first | rw [c45b0] | (simp only [i64_w, i32_w]; rw [c45b0]) | skip)
            have H' := Aside0.mk H; clear H
            go_wp2
            go_meet
            case rel => exact ⟨_, (true), Z37, H', ⟨Z138⟩, ⟨Z124⟩, ⟨Z9⟩⟩
           ·rw [if_neg Dk] at H
            have c45b0 : (Bi != Cv) = false := by simpa using Dk
            (try (have c45b1 : decide (Bi = Cv) = true := Z148))
            (try (have c45b2 : (Bi == Cv) = true := Z148))
            clear Dk
            (first | rw [c45b0] | (simp only [i64_w, i32_w]; rw [c45b0]) | skip)
            replace H := Option.bind_eq_some_iff.mp H; obtain ⟨Cr, Fc, H⟩ := H; replace H : (laws_FnShadeCards.j4 An l0 Bg Bl Bi (!Cr)) = some r := H; have Im := Aside0.mk Fc; clear Fc; have H' := Aside0.mk H; clear H; obtain ⟨Io, Ip, G9⟩ := Kd.S_slice Cz.out; subst G9; obtain ⟨Iq, Ir, Ha⟩ := Kd.S_slice Du.out; subst Ha
            go_wp2_with (first | (go_at_call 12; (with_reducible refine (laws_rTable.calls An _ _ D5 _ _ Er Cr _ ?side1 ?side2 ?side3 ?side4 Im.out).mono ?_); (case side1 => exact (by repeat (first | exact (Kd.S_reads' Cz.out).2.2 | (with_reducible refine Kd.C_alloc ?_ _) | (with_reducible refine Kd.C_drewN ?_ _) | (with_reducible refine Kd.C_drew ?_)))); (case side2 => exact (Kd.S_reads' Cz.out).2.1); (case side3 => exact (by repeat (first | exact (Kd.S_reads' Du.out).2.2 | (with_reducible refine Kd.C_alloc ?_ _) | (with_reducible refine Kd.C_drewN ?_ _) | (with_reducible refine Kd.C_drew ?_)))); (case side4 => exact (Kd.S_reads' Du.out).2.1); rintro e w' ⟨rfl, ⟨nd, rfl⟩⟩))
            go_meet
            case rel => exact ⟨_, (!Cr), Z37, H', ⟨Z138⟩, ⟨Z124⟩, ⟨Z9⟩⟩
          case rest =>
           clear Es; (try clear c1); (try clear c2); (try clear p2); (try clear c4); (try clear p5); (try clear q5); (try clear Hb); (try clear p6); (try clear c8); (try clear c9); (try clear Hc); (try clear Hd); (try clear D4); (try clear D1); (try clear c19b0); (try clear Ee); (try clear Ef); (try clear Eh); (try clear Ei); (try clear Ej); (try clear Dt); (try clear c27b0); (try clear c27b1); (try clear Dk); (try clear c45b0); (try clear c45b1); (try clear c45b2); (try clear Ao); (try clear Ap); (try clear Aq); (try clear Ar); (try clear Au); (try clear Av); (try clear Aw); (try clear Ax); (try clear Ay); (try clear Az); (try clear Bu); (try clear Bv); (try clear Bw); (try clear Bx); (try clear Bz); (try clear Cl); (try clear Cn); (try clear Cp); (try clear Cm); (try clear Co); (try clear Cq); obtain ⟨kq, Ch, rfl, HA, HJ39, Dm, HB⟩ := hcut; cases kq with
           | zero => exact absurd HA.out (by simp [laws_FnShadeCards.j4])
           | succ B2 =>
            have H := HA.out; clear HA
            simp only [laws_FnShadeCards.j4] at H
            by_cases Et : Ch = true
            ·subst Et
             have H1 : (none) = some r := by rw [if_pos rfl] at H; exact H
             clear H; have H := H1; clear H1; exact absurd H (by simp)
            ·replace Et := Bool.eq_false_iff.mpr Et
             subst Et
             have H1 : ((impl_FadedApart.f B2 Bg 0 Bl).bind fun Ek => (if Bi = true then (if Ek.2 = true then (laws_FnShadeCards.j5 B2 l0 ((Ek.1.length : Int) != 0)) else (laws_FnShadeCards.j5 B2 l0 true)) else (laws_FnShadeCards.j5 B2 l0 false))) = some r := by rw [if_neg (show ¬ (false = true) by decide)] at H; exact H
             clear H; have H := H1; clear H1; replace H := Option.bind_eq_some_iff.mp H; obtain ⟨⟨Dv, D8⟩, Fd, H⟩ := H; replace H : (if Bi = true then (if D8 = true then (laws_FnShadeCards.j5 B2 l0 ((Dv.length : Int) != 0)) else (laws_FnShadeCards.j5 B2 l0 true)) else (laws_FnShadeCards.j5 B2 l0 false)) = some r := H; have Fv := Aside0.mk Fd; clear Fd; have Eu := Aside0.mk H; clear H
             go_upto_region 25 with (first | ((with_reducible refine gate_callee (f := 10) rfl ?_); refine glE (some 158) Tryd.func10 #[.slice D6 Bg.length D7, .int .i64 0, .int .i64 Bl] ?_; (with_reducible refine (impl_FadedApart.calls B2 _ _ Bg 0 Bl Dv D8 _ ?side1 ?side2 Fv.out).mono ?_); (case side1 => exact (by repeat (first | exact (Kd.R_reads' Dm.out).2.2 | (with_reducible refine Kd.C_alloc ?_ _) | (with_reducible refine Kd.C_drewN ?_ _) | (with_reducible refine Kd.C_drew ?_)))); (case side2 => exact (Kd.R_reads' Dm.out).2.1); rintro e Ju ⟨Iu, rfl, Bt, hb⟩; refine ⟨_, rfl, ?_⟩; replace Dm := roB Dm hb; have Fe := aM (Kd.S_lower Bt (below_size Z1)); replace HB := hbS Z1 hb; (try clear hb); (try clear Bt)))
             (try simp only [Act.put, List.setIfInBounds_toArray, List.set_cons_zero, List.set_cons_succ])
             go_cut [170] (fun He wc => ∃ (kq : Nat) (Ci : Bool), He = .bool Ci ∧ Aside0 (laws_FnShadeCards.j5 kq l0 Ci = some r) ∧ Aside0 (kq ≤ B2) ∧ Aside0 (Below w.heap.size w wc))
             case first => as_aux_lemma =>
              have H := Eu.out; clear Eu
              by_cases Ew : Bi = true
              ·subst Ew
               have H1 : (if D8 = true then (laws_FnShadeCards.j5 B2 l0 ((Dv.length : Int) != 0)) else (laws_FnShadeCards.j5 B2 l0 true)) = some r := by rw [if_pos rfl] at H; exact H
               clear H; have H := H1; clear H1
               by_cases Ex : D8 = true
               ·subst Ex
                have H1 : (laws_FnShadeCards.j5 B2 l0 ((Dv.length : Int) != 0)) = some r := by rw [if_pos rfl] at H; exact H
                clear H; have H := H1; clear H1; have H' := Aside0.mk H; clear H; obtain ⟨Iv, Iw, Hf⟩ := Kd.S_slice Fe.out; subst Hf
                go_wp2
                go_meet
                case rel => exact ⟨_, (((Dv.length : Int) != 0)), Z37, H', ⟨Z121⟩, ⟨Z1⟩⟩
               ·replace Ex := Bool.eq_false_iff.mpr Ex
                subst Ex
                have H1 : (laws_FnShadeCards.j5 B2 l0 true) = some r := by rw [if_neg (show ¬ (false = true) by decide)] at H; exact H
                clear H; have H := H1; clear H1; have H' := Aside0.mk H; clear H
                go_wp2
                go_meet
                case rel => exact ⟨_, (true), Z37, H', ⟨Z121⟩, ⟨Z1⟩⟩
              ·replace Ew := Bool.eq_false_iff.mpr Ew
               subst Ew
               have H1 : (laws_FnShadeCards.j5 B2 l0 false) = some r := by rw [if_neg (show ¬ (false = true) by decide)] at H; exact H
               clear H; have H := H1; clear H1; have H' := Aside0.mk H; clear H
               go_wp2
               go_meet
               case rel => exact ⟨_, (false), Z37, H', ⟨Z121⟩, ⟨Z1⟩⟩
             case rest =>
              clear Eu; (try clear c1); (try clear c2); (try clear p2); (try clear c4); (try clear c5); (try clear p5); (try clear q5); (try clear Hb); (try clear p6); (try clear c8); (try clear c9); (try clear Hc); (try clear Hd); (try clear D4); (try clear D1); (try clear c19b0); (try clear Ee); (try clear Ef); (try clear Eh); (try clear Ei); (try clear Ej); (try clear Dt); (try clear c27b0); (try clear c27b1); (try clear Dk); (try clear c45b0); (try clear c45b1); (try clear c45b2); (try clear Et); (try clear Fx); (try clear Fy); (try clear Ff); (try clear Ew); (try clear Ex); (try clear Ao); (try clear Ap); (try clear Aq); (try clear Ar); (try clear Au); (try clear Av); (try clear Aw); (try clear Ax); (try clear Ay); (try clear Az); (try clear Bu); (try clear Bv); (try clear Bw); (try clear Bx); (try clear Bz); (try clear p2); (try clear p5); (try clear Cl); (try clear Cn); (try clear Cp); (try clear p6); (try clear q5); (try clear Cm); (try clear Co); (try clear Cq); obtain ⟨kq, Ci, rfl, HA, HJ50, HB⟩ := hcut; cases kq with
              | zero => exact absurd HA.out (by simp [laws_FnShadeCards.j5])
              | succ Ba =>
               have H := HA.out; clear HA
               simp only [laws_FnShadeCards.j5] at H
               by_cases E6 : Ci = true
               ·subst E6
                have H1 : (none) = some r := by rw [if_pos rfl] at H; exact H
                clear H; have H := H1; clear H1; exact absurd H (by simp)
               ·replace E6 := Bool.eq_false_iff.mpr E6
                subst E6
                have H1 : ((spec_DrawTriadsOf.f Ba l0).bind fun Ca => ((impl_TriadsOf.f Ba Ca.1 Ca.2).bind fun Bj => ((spec_TriadsOf.f Ba Ca.1 Ca.2).bind fun Cb => (if (Bj.2 != Cb.2) = true then (laws_FnShadeCards.j6 Ba l0 Ca.1 Ca.2 Bj.1 Bj.2 true) else ((laws_rTable.f Ba Bj.1 Cb.1).bind fun Cs => (laws_FnShadeCards.j6 Ba l0 Ca.1 Ca.2 Bj.1 Bj.2 (!Cs))))))) = some r := by rw [if_neg (show ¬ (false = true) by decide)] at H; exact H
                clear H; have H := H1; clear H1; replace H := Option.bind_eq_some_iff.mp H; obtain ⟨⟨Bh, Bm⟩, Fg, H⟩ := H; replace H : ((impl_TriadsOf.f Ba Bh Bm).bind fun Bj => ((spec_TriadsOf.f Ba Bh Bm).bind fun Cb => (if (Bj.2 != Cb.2) = true then (laws_FnShadeCards.j6 Ba l0 Bh Bm Bj.1 Bj.2 true) else ((laws_rTable.f Ba Bj.1 Cb.1).bind fun Cs => (laws_FnShadeCards.j6 Ba l0 Bh Bm Bj.1 Bj.2 (!Cs)))))) = some r := H; have Ix := Aside0.mk Fg; clear Fg; replace H := Option.bind_eq_some_iff.mp H; obtain ⟨⟨Br, Bk⟩, Fh, H⟩ := H; replace H : ((spec_TriadsOf.f Ba Bh Bm).bind fun Cb => (if (Bk != Cb.2) = true then (laws_FnShadeCards.j6 Ba l0 Bh Bm Br Bk true) else ((laws_rTable.f Ba Br Cb.1).bind fun Cs => (laws_FnShadeCards.j6 Ba l0 Bh Bm Br Bk (!Cs))))) = some r := H; have Iy := Aside0.mk Fh; clear Fh; replace H := Option.bind_eq_some_iff.mp H; obtain ⟨⟨Ey, Cw⟩, Fi, H⟩ := H; replace H : (if (Bk != Cw) = true then (laws_FnShadeCards.j6 Ba l0 Bh Bm Br Bk true) else ((laws_rTable.f Ba Br Ey).bind fun Cs => (laws_FnShadeCards.j6 Ba l0 Bh Bm Br Bk (!Cs)))) = some r := H; have Iz := Aside0.mk Fi; clear Fi; have Ez := Aside0.mk H; clear H
                go_upto_region 30 with (first | ((with_reducible refine gate_callee (f := 13) rfl ?_); refine glE (some 173) Tryd.func13 #[.slice A0 l0.length c0] ?_; (with_reducible refine (spec_DrawTriadsOf.calls Ba _ _ l0 Bh Bm _ ?side1 ?side2 Ix.out).mono ?_); (case side1 => exact Z100); (case side2 => exact E3.out); rintro e Jv ⟨I0, rfl, Bt, hb⟩; refine ⟨_, rfl, ?_⟩; have Bq := aM (Kd.R_lower Bt (below_size Z1)); replace HB := hbS Z1 hb; (try clear hb); (try clear Bt); obtain ⟨D9, Ea, Hg⟩ := Kd.R_slice Bq.out; subst Hg) | ((with_reducible refine gate_callee (f := 14) rfl ?_); refine glE (some 179) Tryd.func14 #[.slice D9 Bh.length Ea, .int .i64 Bm] ?_; (with_reducible refine (impl_TriadsOf.calls Ba _ _ Bh Bm Br Bk _ ?side1 ?side2 Iy.out).mono ?_); (case side1 => exact Z120); (case side2 => exact (Kd.R_reads' Bq.out).2.1); rintro e Jw ⟨Hh, rfl, Bt, hb⟩; refine ⟨_, rfl, ?_⟩; replace Bq := roB Bq hb; have Cc := aM (Kd.S_lower Bt (below_size Z1)); replace HB := hbS Z1 hb; (try clear hb); (try clear Bt)) | ((with_reducible refine gate_callee (f := 15) rfl ?_); refine glE (some 185) Tryd.func15 #[.slice D9 Bh.length Ea, .int .i64 Bm] ?_; (with_reducible refine (spec_TriadsOf.calls Ba _ _ Bh Bm Ey Cw _ ?side1 ?side2 Iz.out).mono ?_); (case side1 => exact Z120); (case side2 => exact (Kd.R_reads' Bq.out).2.1); rintro e Jx ⟨I1, rfl, Bt, hb⟩; refine ⟨_, rfl, ?_⟩; replace Bq := roB Bq hb; have Dw := aM (Kd.S_lower (Kd.S_new' Bt (Kd.S_lt Z134)) (below_size Z1)); replace Cc := aM (Kd.S_elder' Z134 (Kd.S_base Bt) hb); replace HB := hbS Z1 hb; (try clear hb); (try clear Bt)))
                (try simp only [Act.put, List.setIfInBounds_toArray, List.set_cons_zero, List.set_cons_succ])
                go_cut [196] (fun Hi wc => ∃ (kq : Nat) (Cj : Bool), Hi = .bool Cj ∧ Aside0 (laws_FnShadeCards.j6 kq l0 Bh Bm Br Bk Cj = some r) ∧ Aside0 (kq ≤ Ba) ∧ Aside0 (Kd.R k30 30 wc w.heap.size (fun _ => True) (.slice D9 Bh.length Ea) Bh) ∧ Aside0 (Kd.S (Kd.slice 3 (Kd.int .i64)) 48 wc w.heap.size (fun _ => True) Hh Br) ∧ Aside0 (Below w.heap.size w wc))
                case first => as_aux_lemma =>
                 have H := Ez.out; clear Ez
                 by_cases Dq : (Bk != Cw) = true
                 ·rw [if_pos Dq] at H
                  have c65b0 : (Bk != Cw) = true := Dq
                  (try (have c65b1 : decide (Bk = Cw) = false := Z149))
                  (try (have c65b2 : (Bk == Cw) = false := Z149))
                  (try (have c65b3 : ¬ (Bk = Cw) := Z149))
                  clear Dq
                  (first | rw [c65b0] | (simp only [i64_w, i32_w]; rw [c65b0]) | skip)
                  have H' := Aside0.mk H; clear H
                  go_wp2
                  go_meet
                  case rel => exact ⟨_, (true), Z37, H', ⟨Z127⟩, ⟨Z135⟩, ⟨Z125⟩, ⟨Z1⟩⟩
                 ·rw [if_neg Dq] at H
                  have c65b0 : (Bk != Cw) = false := by simpa using Dq
                  (try (have c65b1 : decide (Bk = Cw) = true := Z149))
                  (try (have c65b2 : (Bk == Cw) = true := Z149))
                  clear Dq
                  (first | rw [c65b0] | (simp only [i64_w, i32_w]; rw [c65b0]) | skip)
                  replace H := Option.bind_eq_some_iff.mp H; obtain ⟨Cs, Fj, H⟩ := H; replace H : (laws_FnShadeCards.j6 Ba l0 Bh Bm Br Bk (!Cs)) = some r := H; have I2 := Aside0.mk Fj; clear Fj; have H' := Aside0.mk H; clear H; obtain ⟨I3, I4, Hj⟩ := Kd.S_slice Cc.out; subst Hj; obtain ⟨I5, I6, Hk⟩ := Kd.S_slice Dw.out; subst Hk
                  go_wp2_with (first | (go_at_call 12; (with_reducible refine (laws_rTable.calls Ba _ _ Br _ _ Ey Cs _ ?side1 ?side2 ?side3 ?side4 I2.out).mono ?_); (case side1 => exact (by repeat (first | exact (Kd.S_reads' Cc.out).2.2 | (with_reducible refine Kd.C_alloc ?_ _) | (with_reducible refine Kd.C_drewN ?_ _) | (with_reducible refine Kd.C_drew ?_)))); (case side2 => exact (Kd.S_reads' Cc.out).2.1); (case side3 => exact (by repeat (first | exact (Kd.S_reads' Dw.out).2.2 | (with_reducible refine Kd.C_alloc ?_ _) | (with_reducible refine Kd.C_drewN ?_ _) | (with_reducible refine Kd.C_drew ?_)))); (case side4 => exact (Kd.S_reads' Dw.out).2.1); rintro e w' ⟨rfl, ⟨nd, rfl⟩⟩))
                  go_meet
                  case rel => exact ⟨_, (!Cs), Z37, H', ⟨Z127⟩, ⟨Z135⟩, ⟨Z125⟩, ⟨Z1⟩⟩
                case rest =>
                 clear Ez; (try clear c1); (try clear c2); (try clear p2); (try clear c4); (try clear c5); (try clear p5); (try clear q5); (try clear Hb); (try clear c6); (try clear p6); (try clear c8); (try clear c9); (try clear Hc); (try clear Hd); (try clear D3); (try clear I7); (try clear I8); (try clear D4); (try clear D1); (try clear c19b0); (try clear Ee); (try clear Ef); (try clear Eh); (try clear Ei); (try clear Ej); (try clear Dt); (try clear c27b0); (try clear c27b1); (try clear Dk); (try clear c45b0); (try clear c45b1); (try clear c45b2); (try clear Et); (try clear Fx); (try clear Fy); (try clear Ff); (try clear Ew); (try clear Ex); (try clear E6); (try clear Hw); (try clear Dq); (try clear c65b0); (try clear c65b1); (try clear c65b2); (try clear Ao); (try clear Ap); (try clear Aq); (try clear Ar); (try clear Au); (try clear Av); (try clear Aw); (try clear Ax); (try clear Ay); (try clear Az); (try clear Bu); (try clear Bv); (try clear Bw); (try clear Bx); (try clear Bz); (try clear p2); (try clear p5); (try clear Fx); (try clear Cl); (try clear Cn); (try clear Cp); (try clear p6); (try clear q5); (try clear Fy); (try clear Cm); (try clear Co); (try clear Cq); obtain ⟨kq, Cj, rfl, HA, HJ59, Dn, Dp, HB⟩ := hcut; cases kq with
                 | zero => exact absurd HA.out (by simp [laws_FnShadeCards.j6])
                 | succ B3 =>
                  have H := HA.out; clear HA
                  simp only [laws_FnShadeCards.j6] at H
                  by_cases Fk : Cj = true
                  ·subst Fk
                   have H1 : (none) = some r := by rw [if_pos rfl] at H; exact H
                   clear H; have H := H1; clear H1; exact absurd H (by simp)
                  ·replace Fk := Bool.eq_false_iff.mpr Fk
                   subst Fk
                   have H1 : ((impl_TriadsOf.f B3 Bh (wrap64 (Bm + 1))).bind fun El => (if Bk = true then (if El.2 = true then (laws_FnShadeCards.j7 B3 l0 (decide ((El.1.length : Int) < (Br.length : Int)))) else (laws_FnShadeCards.j7 B3 l0 false)) else (laws_FnShadeCards.j7 B3 l0 false))) = some r := by rw [if_neg (show ¬ (false = true) by decide)] at H; exact H
                   clear H; have H := H1; clear H1; replace H := Option.bind_eq_some_iff.mp H; obtain ⟨⟨Dx, Eb⟩, Fl, H⟩ := H; replace H : (if Bk = true then (if Eb = true then (laws_FnShadeCards.j7 B3 l0 (decide ((Dx.length : Int) < (Br.length : Int)))) else (laws_FnShadeCards.j7 B3 l0 false)) else (laws_FnShadeCards.j7 B3 l0 false)) = some r := H; have I9 := Aside0.mk Fl; clear Fl; have E0 := Aside0.mk H; clear H
                   go_upto_region 33 with (first | ((with_reducible refine gate_callee (f := 14) rfl ?_); refine glE (some 201) Tryd.func14 #[.slice D9 Bh.length Ea, .int .i64 (wrap64 (Bm + 1))] ?_; (with_reducible refine (impl_TriadsOf.calls B3 _ _ Bh (wrap64 (Bm + 1)) Dx Eb _ ?side1 ?side2 I9.out).mono ?_); (case side1 => exact (by repeat (first | exact (Kd.R_reads' Dn.out).2.2 | (with_reducible refine Kd.C_alloc ?_ _) | (with_reducible refine Kd.C_drewN ?_ _) | (with_reducible refine Kd.C_drew ?_)))); (case side2 => exact (Kd.R_reads' Dn.out).2.1); rintro e Jy ⟨Ja, rfl, Bt, hb⟩; refine ⟨_, rfl, ?_⟩; replace Dn := roB Dn hb; have Fm := aM (Kd.S_lower (Kd.S_new' Bt (Kd.S_lt Z136)) (below_size Z1)); replace Dp := aM (Kd.S_elder' Z136 (Kd.S_base Bt) hb); replace HB := hbS Z1 hb; (try clear hb); (try clear Bt)))
                   (try simp only [Act.put, List.setIfInBounds_toArray, List.set_cons_zero, List.set_cons_succ])
                   go_cut [214] (fun Hl wc => ∃ (kq : Nat) (Ck : Bool), Hl = .bool Ck ∧ Aside0 (laws_FnShadeCards.j7 kq l0 Ck = some r) ∧ Aside0 (kq ≤ B3) ∧ Aside0 (Below w.heap.size w wc))
                   case first => as_aux_lemma =>
                    have H := E0.out; clear E0
                    by_cases Fo : Bk = true
                    ·subst Fo
                     have H1 : (if Eb = true then (laws_FnShadeCards.j7 B3 l0 (decide ((Dx.length : Int) < (Br.length : Int)))) else (laws_FnShadeCards.j7 B3 l0 false)) = some r := by rw [if_pos rfl] at H; exact H
                     clear H; have H := H1; clear H1
                     by_cases Fp : Eb = true
                     ·subst Fp
                      have H1 : (laws_FnShadeCards.j7 B3 l0 (decide ((Dx.length : Int) < (Br.length : Int)))) = some r := by rw [if_pos rfl] at H; exact H
                      clear H; have H := H1; clear H1; have H' := Aside0.mk H; clear H; obtain ⟨Jb, Jc, Hm⟩ := Kd.S_slice Fm.out; subst Hm; obtain ⟨Jd, Je, Hn⟩ := Kd.S_slice Dp.out; subst Hn
                      go_wp2
                      go_meet
                      case rel => exact ⟨_, (decide ((Dx.length : Int) < (Br.length : Int))), Z37, H', ⟨Z106⟩, ⟨Z1⟩⟩
                     ·replace Fp := Bool.eq_false_iff.mpr Fp
                      subst Fp
                      have H1 : (laws_FnShadeCards.j7 B3 l0 false) = some r := by rw [if_neg (show ¬ (false = true) by decide)] at H; exact H
                      clear H; have H := H1; clear H1; have H' := Aside0.mk H; clear H
                      go_wp2
                      go_meet
                      case rel => exact ⟨_, (false), Z37, H', ⟨Z106⟩, ⟨Z1⟩⟩
                    ·replace Fo := Bool.eq_false_iff.mpr Fo
                     subst Fo
                     have H1 : (laws_FnShadeCards.j7 B3 l0 false) = some r := by rw [if_neg (show ¬ (false = true) by decide)] at H; exact H
                     clear H; have H := H1; clear H1; have H' := Aside0.mk H; clear H
                     go_wp2
                     go_meet
                     case rel => exact ⟨_, (false), Z37, H', ⟨Z106⟩, ⟨Z1⟩⟩
                   case rest =>
                    clear E0; (try clear c1); (try clear c2); (try clear p2); (try clear c4); (try clear c5); (try clear p5); (try clear q5); (try clear Hb); (try clear c6); (try clear p6); (try clear c7); (try clear c8); (try clear c9); (try clear Hc); (try clear Hd); (try clear D3); (try clear I7); (try clear I8); (try clear D4); (try clear D1); (try clear c19b0); (try clear Ee); (try clear Ef); (try clear Eh); (try clear Ei); (try clear Ej); (try clear Dt); (try clear c27b0); (try clear c27b1); (try clear Dk); (try clear c45b0); (try clear c45b1); (try clear c45b2); (try clear Et); (try clear Fx); (try clear Fy); (try clear Ff); (try clear Ew); (try clear Ex); (try clear E6); (try clear Hw); (try clear Dq); (try clear c65b0); (try clear c65b1); (try clear c65b2); (try clear Fk); (try clear Fo); (try clear Fp); (try clear Ao); (try clear Ap); (try clear Aq); (try clear Ar); (try clear Au); (try clear Av); (try clear Aw); (try clear Ax); (try clear Ay); (try clear Az); (try clear Bu); (try clear Bv); (try clear Bw); (try clear Bx); (try clear Bz); (try clear p2); (try clear p5); (try clear Fx); (try clear Cl); (try clear Cn); (try clear Cp); (try clear p6); (try clear Hw); (try clear q5); (try clear Fy); (try clear Cm); (try clear Co); (try clear Cq); obtain ⟨kq, Ck, rfl, HA, HJ70, HB⟩ := hcut; cases kq with
                    | zero => exact absurd HA.out (by simp [laws_FnShadeCards.j7])
                    | succ Ec =>
                     have H := HA.out; clear HA
                     simp only [laws_FnShadeCards.j7] at H
                     by_cases Fz : Ck = true
                     ·subst Fz
                      have H1 : (none) = some r := by rw [if_pos rfl] at H; exact H
                      clear H; have H := H1; clear H1; exact absurd H (by simp)
                     ·replace Fz := Bool.eq_false_iff.mpr Fz
                      subst Fz
                      have H1 : ((spec_DrawShadeDistance.f l0).bind fun Al => ((impl_ShadeDistance.f Al.1 Al.2.1 Al.2.2.1 Al.2.2.2.1 Al.2.2.2.2.1 Al.2.2.2.2.2.1 Al.2.2.2.2.2.2.1 Al.2.2.2.2.2.2.2.1 Al.2.2.2.2.2.2.2.2.1 Al.2.2.2.2.2.2.2.2.2).bind fun Dh => ((spec_ShadeDistance.f Ec Al.1 Al.2.1 Al.2.2.1 Al.2.2.2.1 Al.2.2.2.2.1 Al.2.2.2.2.2.1 Al.2.2.2.2.2.2.1 Al.2.2.2.2.2.2.2.1 Al.2.2.2.2.2.2.2.2.1 Al.2.2.2.2.2.2.2.2.2).bind fun Cd => (if Dh.1 = Cd.1 then (some (Dh.2 == Cd.2)) else (none))))) = some r := by rw [if_neg (show ¬ (false = true) by decide)] at H; exact H
                      clear H; have H := H1; clear H1; replace H := Option.bind_eq_some_iff.mp H; obtain ⟨⟨B5, Cf, Ct, Cx, Dd, B6, Cg, Cu, Cy, De⟩, Fq, H⟩ := H; replace H : ((impl_ShadeDistance.f B5 Cf Ct Cx Dd B6 Cg Cu Cy De).bind fun Dh => ((spec_ShadeDistance.f Ec B5 Cf Ct Cx Dd B6 Cg Cu Cy De).bind fun Cd => (if Dh.1 = Cd.1 then (some (Dh.2 == Cd.2)) else (none)))) = some r := H; have Jf := Aside0.mk Fq; clear Fq; replace H := Option.bind_eq_some_iff.mp H; obtain ⟨⟨Dr, E1⟩, Fr, H⟩ := H; replace H : ((spec_ShadeDistance.f Ec B5 Cf Ct Cx Dd B6 Cg Cu Cy De).bind fun Cd => (if Dr = Cd.1 then (some (E1 == Cd.2)) else (none))) = some r := H; have Jg := Aside0.mk Fr; clear Fr; replace H := Option.bind_eq_some_iff.mp H; obtain ⟨⟨Dy, Fs⟩, Ft, H⟩ := H; replace H : (if Dr = Dy then (some (E1 == Fs)) else (none)) = some r := H; have Jh := Aside0.mk Ft; clear Ft
                      by_cases Fu : Dr = Dy
                      ·rw [if_pos Fu] at H
                       have c81b0 : (Dr == Dy) = true := beq_iff_eq.mpr Fu; have c81b1 : (Dr != Dy) = false := bne_eq_false_iff_eq.mpr Fu; clear Fu; obtain rfl := Option.some.inj H
                       go_wp2_with (first | ((with_reducible refine gate_callee (f := 16) rfl ?_); refine glE (some 217) Tryd.func16 #[.slice A0 l0.length c0] ?_; (with_reducible refine (spec_DrawShadeDistance.calls _ _ l0 B5 Cf Ct Cx Dd B6 Cg Cu Cy De _ ?side1 ?side2 Jf.out).mono ?_); (case side1 => exact Z100); (case side2 => exact E3.out); rintro e Jz ⟨rfl, hb⟩; refine ⟨_, rfl, ?_⟩; replace HB := hbS Z1 hb; (try clear hb)) | ((with_reducible refine gate_dst (N := 34) rfl ?_); (try (refine gate_guard (by rfl) ?_; dsimp only)); refine bxE 34 #[.int .i64 0, .string (⟨#[]⟩ : ByteArray), .int .i64 0, .int .i64 0, .int .i64 0] 30 ?_; intro C0 hg J0 hbox hb; have Bn := aM (hbox); have Hx := gwS hg Z1; have C1 := gwS hg Z1; replace HB := hbS Z1 hb; clear hb hbox hg) | ((with_reducible refine gate_dst (N := 35) rfl ?_); (try (refine gate_guard (by rfl) ?_; dsimp only)); refine bxE 35 #[.int .i64 0, .string (⟨#[]⟩ : ByteArray), .int .i64 0, .int .i64 0, .int .i64 0] 30 ?_; intro Dz hg J1 hbox hb; have Ce := aM (hbox); have Hy := gwS hg Z102; have D0 := gwS hg Z102; replace HB := hbS Z102 hb; have Bb := aM ((by rw [hg]; exact Nat.ne_of_lt (blk_lt (g := C0) (o := .cells #[.int .i64 0, .string (⟨#[]⟩ : ByteArray), .int .i64 0, .int .i64 0, .int .i64 0] 30 (0, 0)) Z115) : C0 ≠ Dz)); have Bc := aM ((by rw [hg]; exact Nat.ne_of_gt (blk_lt (g := C0) (o := .cells #[.int .i64 0, .string (⟨#[]⟩ : ByteArray), .int .i64 0, .int .i64 0, .int .i64 0] 30 (0, 0)) Z115) : Dz ≠ C0)); replace Bn := aM (blk_below (g := C0) (o := .cells #[.int .i64 0, .string (⟨#[]⟩ : ByteArray), .int .i64 0, .int .i64 0, .int .i64 0] 30 (0, 0)) Z115 hb); clear hb hbox hg; have Hz := Bb.out; have H5 := Bc.out; obtain ⟨F0, F1, F2, F3, F4⟩ := bz5 Bn; obtain ⟨F5, F6, F7, F8, F9⟩ := fz5 Bn; obtain ⟨Ga, Gb, Gc, Gd, Ge⟩ := bz5 Ce; obtain ⟨Gf, Gg, Gh, Gi, Gj⟩ := fz5 Ce) | ((with_reducible refine gate_callee (f := 8) rfl ?_); refine glE (some 223) Tryd.func8 #[.agg #[.int .i64 B5, .string Cf, .int .i64 Ct, .int .i64 Cx, .int .i64 Dd], .agg #[.int .i64 B6, .string Cg, .int .i64 Cu, .int .i64 Cy, .int .i64 De]] ?_; (with_reducible refine (impl_ShadeDistance.calls B5 Cf Ct Cx Dd B6 Cg Cu Cy De Dr E1 _ Jg.out).mono ?_); rintro e J2 ⟨rfl, hb⟩; refine ⟨_, rfl, ?_⟩; replace Bn := aM (blk_below (g := C0) (o := .cells #[.int .i64 B5, .string Cf, .int .i64 Ct, .int .i64 Cx, .int .i64 Dd] 30 (0, 0)) (by (with_reducible repeat (first | refine blk_drewN ?_ _ | refine blk_drew ?_ | refine blk_alloc ?_ _)); refine blk_far ?_ Bb.out _; (with_reducible repeat (first | refine blk_drewN ?_ _ | refine blk_drew ?_ | refine blk_alloc ?_ _)); refine blk_far ?_ Bb.out _; (with_reducible repeat (first | refine blk_drewN ?_ _ | refine blk_drew ?_ | refine blk_alloc ?_ _)); refine blk_far ?_ Bb.out _; (with_reducible repeat (first | refine blk_drewN ?_ _ | refine blk_drew ?_ | refine blk_alloc ?_ _)); refine blk_far ?_ Bb.out _; (with_reducible repeat (first | refine blk_drewN ?_ _ | refine blk_drew ?_ | refine blk_alloc ?_ _)); refine blk_far ?_ Bb.out _; (with_reducible repeat (first | refine blk_drewN ?_ _ | refine blk_drew ?_ | refine blk_alloc ?_ _)); refine blk_put (cs := #[.int .i64 B5, .string Cf, .int .i64 Ct, .int .i64 Cx, .int .i64 0]) ?_ 4 _ rfl; (with_reducible repeat (first | refine blk_drewN ?_ _ | refine blk_drew ?_ | refine blk_alloc ?_ _)); refine blk_put (cs := #[.int .i64 B5, .string Cf, .int .i64 Ct, .int .i64 0, .int .i64 0]) ?_ 3 _ rfl; (with_reducible repeat (first | refine blk_drewN ?_ _ | refine blk_drew ?_ | refine blk_alloc ?_ _)); refine blk_put (cs := #[.int .i64 B5, .string Cf, .int .i64 0, .int .i64 0, .int .i64 0]) ?_ 2 _ rfl; (with_reducible repeat (first | refine blk_drewN ?_ _ | refine blk_drew ?_ | refine blk_alloc ?_ _)); refine blk_put (cs := #[.int .i64 B5, .string (⟨#[]⟩ : ByteArray), .int .i64 0, .int .i64 0, .int .i64 0]) ?_ 1 _ rfl; (with_reducible repeat (first | refine blk_drewN ?_ _ | refine blk_drew ?_ | refine blk_alloc ?_ _)); refine blk_put (cs := #[.int .i64 0, .string (⟨#[]⟩ : ByteArray), .int .i64 0, .int .i64 0, .int .i64 0]) ?_ 0 _ rfl; (with_reducible repeat (first | refine blk_drewN ?_ _ | refine blk_drew ?_ | refine blk_alloc ?_ _)); exact Bn.out) hb); replace Ce := aM (blk_below (g := Dz) (o := .cells #[.int .i64 B6, .string Cg, .int .i64 Cu, .int .i64 Cy, .int .i64 De] 30 (0, 0)) (by (with_reducible repeat (first | refine blk_drewN ?_ _ | refine blk_drew ?_ | refine blk_alloc ?_ _)); refine blk_put (cs := #[.int .i64 B6, .string Cg, .int .i64 Cu, .int .i64 Cy, .int .i64 0]) ?_ 4 _ rfl; (with_reducible repeat (first | refine blk_drewN ?_ _ | refine blk_drew ?_ | refine blk_alloc ?_ _)); refine blk_put (cs := #[.int .i64 B6, .string Cg, .int .i64 Cu, .int .i64 0, .int .i64 0]) ?_ 3 _ rfl; (with_reducible repeat (first | refine blk_drewN ?_ _ | refine blk_drew ?_ | refine blk_alloc ?_ _)); refine blk_put (cs := #[.int .i64 B6, .string Cg, .int .i64 0, .int .i64 0, .int .i64 0]) ?_ 2 _ rfl; (with_reducible repeat (first | refine blk_drewN ?_ _ | refine blk_drew ?_ | refine blk_alloc ?_ _)); refine blk_put (cs := #[.int .i64 B6, .string (⟨#[]⟩ : ByteArray), .int .i64 0, .int .i64 0, .int .i64 0]) ?_ 1 _ rfl; (with_reducible repeat (first | refine blk_drewN ?_ _ | refine blk_drew ?_ | refine blk_alloc ?_ _)); refine blk_put (cs := #[.int .i64 0, .string (⟨#[]⟩ : ByteArray), .int .i64 0, .int .i64 0, .int .i64 0]) ?_ 0 _ rfl; (with_reducible repeat (first | refine blk_drewN ?_ _ | refine blk_drew ?_ | refine blk_alloc ?_ _)); refine blk_far ?_ Bc.out _; (with_reducible repeat (first | refine blk_drewN ?_ _ | refine blk_drew ?_ | refine blk_alloc ?_ _)); refine blk_far ?_ Bc.out _; (with_reducible repeat (first | refine blk_drewN ?_ _ | refine blk_drew ?_ | refine blk_alloc ?_ _)); refine blk_far ?_ Bc.out _; (with_reducible repeat (first | refine blk_drewN ?_ _ | refine blk_drew ?_ | refine blk_alloc ?_ _)); refine blk_far ?_ Bc.out _; (with_reducible repeat (first | refine blk_drewN ?_ _ | refine blk_drew ?_ | refine blk_alloc ?_ _)); refine blk_far ?_ Bc.out _; (with_reducible repeat (first | refine blk_drewN ?_ _ | refine blk_drew ?_ | refine blk_alloc ?_ _)); exact Ce.out) hb); replace HB := hbS Z95 hb; (try clear hb); obtain ⟨Gk, Gl, Gm, Gn, Gp⟩ := bz5 Bn; obtain ⟨Gq, Gr, Gs, Gt, Gu⟩ := fz5 Bn; obtain ⟨Gv, Gw, Gx, Gy, Gz⟩ := bz5 Ce; obtain ⟨G0, G1, G2, G3, G4⟩ := fz5 Ce) | ((with_reducible refine gate_callee (f := 17) rfl ?_); refine glE (some 229) Tryd.func17 #[.agg #[.int .i64 B5, .string Cf, .int .i64 Ct, .int .i64 Cx, .int .i64 Dd], .agg #[.int .i64 B6, .string Cg, .int .i64 Cu, .int .i64 Cy, .int .i64 De]] ?_; (with_reducible refine (spec_ShadeDistance.calls Ec B5 Cf Ct Cx Dd B6 Cg Cu Cy De Dy Fs _ Jh.out).mono ?_); rintro e J3 ⟨rfl, hb⟩; refine ⟨_, rfl, ?_⟩; replace Bn := bkB Bn hb; replace Ce := bkB Ce hb; replace HB := hbS Z95 hb; (try clear hb)))
                       go_ret
                       exact ⟨Z39, Z95⟩
                      ·rw [if_neg Fu] at H
                       exact absurd H (by simp)
end Go.Proofs.YtedjeeicpppplaaDoor.H
