-- by wip/pack.py of this repo
import Derived.Test.YtaadbpibmlnncaaZ08Hx0
import Derived.Test.YtaadbpibmlnncaaZ08Hx3
import Derived.Test.YtaadbpibmlnncaaZ08Hx5
import Derived.Test.YtaadbpibmlnncaaZ08Hx6
import Derived.Test.YtaadbpibmlnncaaZ08WApart
import Derived.Test.YtaadbpibmlnncaaZ08WFoot
import Derived.Test.YtaadbpibmlnncaaZ08WGuard
import Derived.Test.YtaadbpibmlnncaaZ08WKept
import Derived.Test.YtaadbpibmlnncaaZ08WLast
import Derived.Test.YtaadbpibmlnncaaZ08WMore
import Derived.Test.YtaadbpibmlnncaaZ08WWords
import Derived.Test.YtaadbpibmlnncaaZ08Short
namespace Go.Proofs.Ytaadbpibmlnncaa.H
open Go.RowKit Go.Proofs.YtaadbpibmlnncaaW.PrintWords Go.Proofs.YtaadbpibmlnncaaW.PrintLast Go.Proofs.YtaadbpibmlnncaaW.PrintMore
attribute [local go_sem] max2_int min2_int max_two min_two max_three min_three max_four min_four
set_option maxHeartbeats 8000000
set_option maxRecDepth 100000
set_option linter.unusedVariables false
set_option linter.unusedSimpArgs false
mutual
def spec_l12Search.j0 : Nat → List Int → List Int → Int → List Int → Bool → Option (List Int × Bool)
 | 0, _, _, _, _, _ => none
 | k + 1, x0, x1, x2, x3, x23 => if x23 = true then (some ((([] : List Int)), false)) else (if (x3.length : Int) = (x0.length : Int) then (some (x3, true)) else (spec_l12Search.l0 k x0 x1 x2 x3 0))
def spec_l12Search.l0 : Nat → List Int → List Int → Int → List Int → Int → Option (List Int × Bool)
 | 0, _, _, _, _, _ => none
 | k + 1, x0, x1, x2, x3, x10 => if x10 < (x1.length : Int) then ((spec_l1Own.f x3).bind fun t349 => (if t349.length < 17592186044416 then ((spec_l12Search.f k x0 x1 x2 (t349 ++ [x10])).bind fun bt355 => (if bt355.2 = true then (some (bt355.1, true)) else (spec_l12Search.l0 k x0 x1 x2 x3 (wrap64 (x10 + 1))))) else (none))) else (some ((([] : List Int)), false))
def spec_l12Search.f : Nat → List Int → List Int → Int → List Int → Option (List Int × Bool)
 | 0, _, _, _, _ => none
 | k + 1, l0, l1, a2, l3 => (spec_l12Fits.f k l0 l1 l3).bind fun t341 => (if t341 = true then ((spec_l12Different.f k l3).bind fun t342 => (spec_l12Search.j0 k l0 l1 a2 l3 (decide (t342 > a2)))) else (spec_l12Search.j0 k l0 l1 a2 l3 true))
end
theorem spec_l12Search.calls (k : Nat) : ∀ (A0 : Option Addr) (c0 : Nat) (l0 : List Int) (A1 : Option Addr) (c1 : Nat) (l1 : List Int) (a2 : Int) (P3_ : Nat → Prop) (u9000_ : Value) (l3 : List Int) (r1 : List Int) (r2 : Bool) (w0 w : World) (hB : Below w0.heap.size w0 w) (Bw : ∀ W_, Kept w W_ (fun k_ => P3_ k_) → Kd.C (Kd.int .i64) W_ A0 l0.length l0) (Bx : l0.length ≤ c0) (Bz : ∀ W_, Kept w W_ (fun k_ => P3_ k_) → Kd.C (Kd.int .i64) W_ A1 l1.length l1) (B0 : l1.length ≤ c1) (Ci : Kd.R (Kd.int .i64) 3 w w0.heap.size P3_ u9000_ l3) (h : spec_l12Search.f k l0 l1 a2 l3 = some (r1, r2)),
  Calls Try.prog 60 #[.slice A0 l0.length c0, .slice A1 l1.length c1, .int .i64 a2, u9000_] w fun e w' => ∃ v0_ : Value, e = .returned (.tuple #[v0_, .bool r2]) ∧ Kd.R (Kd.int .i64) 3 w' w0.heap.size (fun k_ => (P3_ k_ ∨ w.heap.size ≤ k_)) v0_ r1 ∧ Below w0.heap.size w0 w' ∧ Kept w w' (fun k_ => P3_ k_) := by
 induction k using Nat.strongRecOn with
 | _ k ih =>
 intro A0 c0 l0 A1 c1 l1 a2 P3_ u9000_ l3 r1 r2 w0 w hB Bw Bx Bz B0 Ci h; cases k with
 | zero => exact absurd h (by simp [spec_l12Search.f])
 | succ k =>
 simp only [spec_l12Search.f] at h
 have Bq := Aside0.mk Bw; have Br := Aside0.mk Bx; clear Bw Bx; have Bs := Aside0.mk Bz; have Bt := Aside0.mk B0; clear Bz B0; have Ao := aM (show Kd.R (Kd.int .i64) 3 w w0.heap.size (fun k_ => (P3_ k_ ∨ w.heap.size ≤ k_)) u9000_ l3 from Kd.R_mono Ci (fun k_ hk => (.inl hk))); have HK := aM (Kept.refl w (fun k_ => P3_ k_)); have Cw := Aside0.mk hB.size; have HB := Aside0.mk hB; clear hB; have H : ((spec_l12Fits.f k l0 l1 l3).bind fun Aw => (if Aw = true then ((spec_l12Different.f k l3).bind fun Ae => (spec_l12Search.j0 k l0 l1 a2 l3 (decide (Ae > a2)))) else (spec_l12Search.j0 k l0 l1 a2 l3 true))) = some (r1, r2) := h; clear h; have B2 := Aside0.mk H; clear H
 go_enter Try.func60, Try.ntmps60
 go_upto_region 1 with (fail)
 go_cut [23] (fun Cn wc => ∃ (kq : Nat) (Ap : Bool), Cn = .bool Ap ∧ Aside0 (spec_l12Search.j0 kq l0 l1 a2 l3 Ap = some (r1, r2)) ∧ Aside0 (kq ≤ k) ∧ Aside0 (Kd.R (Kd.int .i64) 3 wc w0.heap.size (fun k_ => (P3_ k_ ∨ w.heap.size ≤ k_)) u9000_ l3) ∧ Aside0 (Kept w wc (fun k_ => P3_ k_)) ∧ Aside0 (Below w0.heap.size w0 wc))
 case first =>
  have H := B2.out; clear B2; replace H := Option.bind_eq_some_iff.mp H; obtain ⟨Aw, Cj, H⟩ := H; replace H : (if Aw = true then ((spec_l12Different.f k l3).bind fun Ae => (spec_l12Search.j0 k l0 l1 a2 l3 (decide (Ae > a2)))) else (spec_l12Search.j0 k l0 l1 a2 l3 true)) = some (r1, r2) := H; have A6 := Aside0.mk Cj; clear Cj
  by_cases c7 : Aw = true
  ·subst c7
   have H1 : ((spec_l12Different.f k l3).bind fun Ae => (spec_l12Search.j0 k l0 l1 a2 l3 (decide (Ae > a2)))) = some (r1, r2) := by rw [if_pos rfl] at H; exact H
   clear H; have H := H1; clear H1; replace H := Option.bind_eq_some_iff.mp H; obtain ⟨Ae, Ck, H⟩ := H; replace H : (spec_l12Search.j0 k l0 l1 a2 l3 (decide (Ae > a2))) = some (r1, r2) := H; have A8 := Aside0.mk Ck; clear Ck; have H' := Aside0.mk H; clear H; obtain ⟨Co, Cp, Cq⟩ := Kd.R_slice Ao.out; subst Cq
   go_wp2_with (first | ((with_reducible refine gate_callee (f := 56) rfl ?_); refine glE (some 16) Try.func56 #[.slice A0 l0.length c0, .slice A1 l1.length c1, .slice Co l3.length Cp] ?_; (with_reducible refine (spec_l12Fits.calls k _ _ l0 _ _ l1 _ _ l3 true _ ?side1 ?side2 ?side3 ?side4 ?side5 ?side6 A6.out).mono ?_); (case side1 => exact Kd.C_kept_now Bq.out Z24); (case side2 => exact Br.out); (case side3 => exact Kd.C_kept_now Bs.out Z24); (case side4 => exact Bt.out); (case side5 => exact Z80); (case side6 => exact (Kd.R_reads' Ao.out).2.1); rintro e Cx ⟨rfl, hb⟩; refine ⟨_, rfl, ?_⟩; replace Ao := roB Ao hb; replace HK := aM (Kept.below (S := (fun k_ => P3_ k_)) Z24 hb); replace HB := hbS Z0 hb; (try clear hb)) | (go_at_call 82; (with_reducible refine (spec_l12Different.calls k _ _ l3 Ae _ ?side1 ?side2 A8.out).mono ?_); (case side1 => exact Z80); (case side2 => exact (Kd.R_reads' Ao.out).2.1); rintro e w' ⟨rfl, ⟨nd, rfl⟩⟩))
   go_meet
   case rel => exact ⟨_, (decide (Ae > a2)), Z14, H', ⟨Z119⟩, ⟨Z81⟩, ⟨Z24⟩, ⟨Z0⟩⟩
  ·replace c7 := Bool.eq_false_iff.mpr c7
   subst c7
   have H1 : (spec_l12Search.j0 k l0 l1 a2 l3 true) = some (r1, r2) := by rw [if_neg (show ¬ (false = true) by decide)] at H; exact H
   clear H; have H := H1; clear H1; have H' := Aside0.mk H; clear H; obtain ⟨B5, B6, B7⟩ := Kd.R_slice Ao.out; subst B7
   go_wp2_with (first | ((with_reducible refine gate_callee (f := 56) rfl ?_); refine glE (some 16) Try.func56 #[.slice A0 l0.length c0, .slice A1 l1.length c1, .slice B5 l3.length B6] ?_; (with_reducible refine (spec_l12Fits.calls k _ _ l0 _ _ l1 _ _ l3 false _ ?side1 ?side2 ?side3 ?side4 ?side5 ?side6 A6.out).mono ?_); (case side1 => exact Kd.C_kept_now Bq.out Z24); (case side2 => exact Br.out); (case side3 => exact Kd.C_kept_now Bs.out Z24); (case side4 => exact Bt.out); (case side5 => exact Z80); (case side6 => exact (Kd.R_reads' Ao.out).2.1); rintro e Cy ⟨rfl, hb⟩; refine ⟨_, rfl, ?_⟩; replace Ao := roB Ao hb; replace HK := aM (Kept.below (S := (fun k_ => P3_ k_)) Z24 hb); replace HB := hbS Z0 hb; (try clear hb)))
   go_meet
   case rel => exact ⟨_, (true), Z14, H', ⟨Z119⟩, ⟨Z81⟩, ⟨Z24⟩, ⟨Z0⟩⟩
 case rest =>
  clear B2; (try clear c1); (try clear p2); (try clear c5); (try clear c6); (try clear c7); obtain ⟨kq, Ap, rfl, HA, HJ4, Aa, HK, HB⟩ := hcut; cases kq with
  | zero => exact absurd HA.out (by simp [spec_l12Search.j0])
  | succ Ca =>
   have H := HA.out; clear HA
   simp only [spec_l12Search.j0] at H
   by_cases Bk : Ap = true
   ·subst Bk
    have H1 : (some ((([] : List Int)), false)) = some (r1, r2) := by rw [if_pos rfl] at H; exact H
    clear H; have H := H1; clear H1; obtain ⟨Cb, Ag⟩ : ∃ y_ : List Int, y_ = (([] : List Int)) := ⟨_, rfl⟩
    replace H : (some (Cb, false)) = some (r1, r2) := by first | (rw [Ag]; with_reducible exact H) | (have H2_ := (Option.bind_some _ _).symm.trans H; rw [Ag]; with_reducible exact H2_) | (have H2_ := (Option.bind_some _ _).symm.trans H; with_reducible exact H2_) | with_reducible exact H | (rw [Ag]; exact H) | exact H
    have Ay := Aside0.mk Ag; clear Ag
    simp only [Option.some.injEq, Prod.mk.injEq] at H
    obtain ⟨rfl, rfl⟩ := H
    go_wp2_with (first | ((with_reducible refine gate_dst (N := 24) rfl ?_); refine Kd.R_lit (Kd.int .i64) _ 3 ?hg (N := 24) ?hd (xs := ([] : List Int)) (inner := []) (ok := fun _ => True) (okp := fun _ => True) ?hr ?hp (fun _ hk => hk) trivial (Below.refl _ _) (Nat.le_refl _) (by simp) ?_; (case hd => rfl); (case hg => rfl); (case hr => first | (go_simp; done) | (go_simp; rfl)); (case hp => exact (Reps.none _ _)); intro Cr Cz Aq hb hg_ hnew_; clear hg_ hnew_; (first | rw [← Ay.out] at Aq | (simp only [Int.reduceToNat] at Aq; rw [← Ay.out] at Aq)); have Bl := aM (Kd.R_lower (Kd.R_new' (Kd.R_newM (M := fun k_ => (P3_ k_ ∨ w.heap.size ≤ k_)) Aq Z210 (fun k_ h_ => .inr h_)) (Kd.R_lt Z27)) (below_size Z0)); replace Aa := aM (Kd.R_elder' Z27 (Kd.R_base Aq) hb); replace HK := aM (Kept.below (S := (fun k_ => P3_ k_)) Z24 hb); replace HB := hbS Z0 hb; clear hb Aq))
    go_ret2
    exact ⟨_, Z10, by (with_reducible repeat (first | apply Kd.R_alloc | apply Kd.R_drewN | apply Kd.R_drew)); exact Kd.R_mono Bl.out (fun _ hk => hk.1.1), Z0, Z24⟩
   ·replace Bk := Bool.eq_false_iff.mpr Bk
    subst Bk
    have H1 : (if (l3.length : Int) = (l0.length : Int) then (some (l3, true)) else (spec_l12Search.l0 Ca l0 l1 a2 l3 0)) = some (r1, r2) := by rw [if_neg (show ¬ (false = true) by decide)] at H; exact H
    clear H; have H := H1; clear H1
    by_cases Au : (l3.length : Int) = (l0.length : Int)
    ·rw [if_pos Au] at H
     have c16b0 : ((l3.length : Int) == (l0.length : Int)) = true := beq_iff_eq.mpr Au; have c16b1 : ((l3.length : Int) != (l0.length : Int)) = false := bne_eq_false_iff_eq.mpr Au
     have c16b2 : (l3.length == l0.length) = true := by first | simpa using Au | (simp at Au ⊢; omega)
     clear Au
     simp only [Option.some.injEq, Prod.mk.injEq] at H
     obtain ⟨rfl, rfl⟩ := H; obtain ⟨Cs, Ct, Cc⟩ := Kd.R_slice Aa.out; subst Cc
     go_wp2
     go_ret2
     exact ⟨_, Z10, Z27, Z0, Z24⟩
    ·rw [if_neg Au] at H
     have c16b0 : ((l3.length : Int) == (l0.length : Int)) = false := beq_eq_false_iff_ne.mpr Au; have c16b1 : ((l3.length : Int) != (l0.length : Int)) = true := bne_iff_ne.mpr Au
     have c16b2 : (l3.length == l0.length) = false := by first | simpa using Au | (simp at Au ⊢; omega)
     have H' := Aside0.mk H; clear H; obtain ⟨Al, Am, Cd⟩ := Kd.R_slice Aa.out; subst Cd
     go_wp2
     go_loopg [10] Ca (fun kq Cu w' => ∃ (Ab : Int), Cu = .int .i64 Ab ∧ Aside0 (spec_l12Search.l0 kq l0 l1 a2 l3 Ab = some (r1, r2)) ∧ Aside0 (kq ≤ Ca) ∧ Aside0 (Kd.R (Kd.int .i64) 3 w' w0.heap.size (fun k_ => (P3_ k_ ∨ w.heap.size ≤ k_)) (.slice Al l3.length Am) l3) ∧ Aside0 (Kept w w' (fun k_ => P3_ k_)) ∧ Aside0 (Below w0.heap.size w0 w'))
     case atStart => exact ⟨(0), Z14, H', ⟨Nat.le_refl _⟩, ⟨Z27⟩, ⟨Z24⟩, ⟨Z0⟩⟩
     case round =>
      clear H'; (try clear c1); (try clear p2); (try clear c5); (try clear c6); (try clear c7); (try clear Bk); (try clear Au); (try clear c16b0); (try clear c16b1); (try clear c16b2); (try clear p2); obtain ⟨Ab, rfl, HA, HK2, Aa, HK, HB⟩ := hrel; cases gk with
      | zero => exact absurd HA.out (by simp [spec_l12Search.l0])
      | succ k2 =>
       have H := HA.out; clear HA
       simp only [spec_l12Search.l0] at H
       by_cases Bj : Ab < (l1.length : Int)
       ·rw [if_pos Bj] at H
        have c19b0 : decide (Ab < (l1.length : Int)) = true := decide_eq_true Bj; clear Bj; replace H := Option.bind_eq_some_iff.mp H; obtain ⟨Ah, Bm, H⟩ := H; replace H : (if Ah.length < 17592186044416 then ((spec_l12Search.f k2 l0 l1 a2 (Ah ++ [Ab])).bind fun Ai => (if Ai.2 = true then (some (Ai.1, true)) else (spec_l12Search.l0 k2 l0 l1 a2 l3 (wrap64 (Ab + 1))))) else (none)) = some (r1, r2) := H; have Cl := Aside0.mk Bm; clear Bm
        by_cases Bu : Ah.length < 17592186044416
        ·rw [if_pos Bu] at H
         have LMc21 := Aside0.mk Bu; clear Bu; obtain ⟨Af, Aj⟩ : ∃ y_ : List Int, y_ = (Ah ++ [Ab]) := ⟨_, rfl⟩
         replace H : ((spec_l12Search.f k2 l0 l1 a2 Af).bind fun Ai => (if Ai.2 = true then (some (Ai.1, true)) else (spec_l12Search.l0 k2 l0 l1 a2 l3 (wrap64 (Ab + 1))))) = some (r1, r2) := by first | (rw [Aj]; with_reducible exact H) | (have H2_ := (Option.bind_some _ _).symm.trans H; rw [Aj]; with_reducible exact H2_) | (have H2_ := (Option.bind_some _ _).symm.trans H; with_reducible exact H2_) | with_reducible exact H | (rw [Aj]; exact H) | exact H
         have Az := Aside0.mk Aj; clear Aj; replace H := Option.bind_eq_some_iff.mp H; obtain ⟨⟨Ax, Bn⟩, Bo, H⟩ := H; replace H : (if Bn = true then (some (Ax, true)) else (spec_l12Search.l0 k2 l0 l1 a2 l3 (wrap64 (Ab + 1)))) = some (r1, r2) := H; have Cm := Aside0.mk Bo; clear Bo
         by_cases Bv : Bn = true
         ·subst Bv
          have H1 : (some (Ax, true)) = some (r1, r2) := by rw [if_pos rfl] at H; exact H
          clear H; have H := H1; clear H1
          simp only [Option.some.injEq, Prod.mk.injEq] at H
          obtain ⟨rfl, rfl⟩ := H
          go_wp2_with (first | ((with_reducible refine gate_callee (f := 83) rfl ?_); refine glE (some 42) Try.func83 #[.slice Al l3.length Am] ?_; (with_reducible refine (spec_l1Own.calls _ _ l3 Ah _ ?side1 ?side2 Cl.out).mono ?_); (case side1 => exact Z52); (case side2 => exact (Kd.R_reads' Aa.out).2.1); rintro e C0 ⟨Bc, rfl, An, hb⟩; refine ⟨_, rfl, ?_⟩; have Ad := aM (Kd.R_lower (Kd.R_new' (Kd.R_newM (M := fun k_ => (P3_ k_ ∨ w.heap.size ≤ k_)) An Z210 (fun k_ h_ => .inr h_)) (Kd.R_lt Z27)) (below_size Z0)); replace Aa := aM (Kd.R_elder' Z27 (Kd.R_base An) hb); replace HK := aM (Kept.below (S := (fun k_ => P3_ k_)) Z24 hb); replace HB := hbS Z0 hb; (try clear hb); (try clear An)) | ((with_reducible refine gate_builtin (b := .append) (xs := #[.tmp 42, .tmp 44]) rfl ?_); at_builtin; refine Kd.R_append (Kd.int .i64) (w0 := w0) w0.heap.size rfl (.tmp 42) (.tmp 44) 22 3 (.int .i64 0) 8 rfl Try.underlying22 info3 rfl (by decide) (by omega) Bc Ah Ab [.int .i64 Ab] (fun k_ => (P3_ k_ ∨ w.heap.size ≤ k_) ∧ nS k_ Al l3.length Am) (fun _ => False) rfl rfl ?aP (fun _ hk => hk.elim) ?aF ?aO ?aB ?aS ?aL ?_; (case aP => exact rfl); (case aB => exact Z0); (case aF => exact (fun k_ hk => ⟨(.inr (Nat.le_trans Z210 hk)), Kd.fresh' (Kd.R_lt Z27) k_ hk⟩)); (case aO => exact Z136); (case aS => exact (below_size Z0)); (case aL => have := LMc21.out; omega); intro Ce C1 ho hb hg hat; rw [← Az.out] at ho; replace Aa := aM (Kd.R_after (ok := (fun k_ => (P3_ k_ ∨ w.heap.size ≤ k_))) Z27 hg hat); replace HB := aM (hb); replace HK := aM (Kept.of_grown (S := (fun k_ => P3_ k_)) hg Z24 (fun k_ e_ => (Ad.out.1 k_ e_).1.1)); have Ac := aM (ho); clear Ad; clear ho hb hg hat; obtain ⟨Bd, Bf, Cf⟩ := Kd.R_slice Ac.out; subst Cf) | ((with_reducible refine gate_callee (f := 60) rfl ?_); refine glE (some 46) Try.func60 #[.slice A0 l0.length c0, .slice A1 l1.length c1, .int .i64 a2, .slice Bd Af.length Bf] ?_; (with_reducible refine (ih k2 Z194 _ _ l0 _ _ l1 a2 (fun k_ => some k_ = (.slice Bd Af.length Bf : Value).ownBlock) (.slice Bd Af.length Bf) Af Ax true w0 _ ?side1 ?side2 ?side3 ?side4 ?side5 ?side6 Cm.out).mono ?_); (case side1 => exact Z0); (case side2 => exact Kd.C_kept_call Bq.out Z24 (fun k_ hs_ => (fun e_ => (Ac.out.1 k_ e_.symm).1) hs_)); (case side3 => exact Br.out); (case side4 => exact Kd.C_kept_call Bs.out Z24 (fun k_ hs_ => (fun e_ => (Ac.out.1 k_ e_.symm).1) hs_)); (case side5 => exact Bt.out); (case side6 => exact Kd.R_tight rfl Ac.out); rintro e C3 ⟨Bg, rfl, An, hb, hkp⟩; refine ⟨_, rfl, ?_⟩; have Ba := aM (Kd.R_mono (ok' := fun k_ => (P3_ k_ ∨ w.heap.size ≤ k_) ∧ nS k_ Al l3.length Am) An (fun k_ hk_ => ⟨Or.elim hk_ (fun hs_ => (Ac.out.1 k_ (hs_).symm).1) (fun hn_ => (.inr (Nat.le_trans Z210 hn_))), Or.elim hk_ (fun hs_ => fun e_ => (((Aa.out).1 k_ e_.symm).2) hs_) (fun hn_ => (Kd.fresh' (Kd.R_lt Z27) k_ hn_))⟩)); replace Aa := aM (Kd.R_mono (ok' := fun k_ => (P3_ k_ ∨ w.heap.size ≤ k_) ∧ nV k_ Bg) (Kd.R_keptB (Aa.out) hkp (fun k_ hk_ hs_ => (hk_.2) hs_)) (fun k_ hk_ => ⟨hk_.1.1, fun e_ => Or.elim (An.1 k_ e_.symm) (fun hs_ => hk_.2.1 hs_) (fun hn_ => Nat.not_le.2 hk_.2.2 hn_)⟩)); replace HK := aM (Kept.then_ (S := (fun k_ => P3_ k_)) Z24 hkp (fun k_ hs_ => (fun e_ => (Ac.out.1 k_ e_.symm).1) hs_)); replace HB := aM (hb); clear Ac; (try clear hb); (try clear hkp); (try clear An)))
          go_ret2
          exact ⟨_, Z10, by (with_reducible repeat (first | apply Kd.R_alloc | apply Kd.R_drewN | apply Kd.R_drew)); exact Kd.R_mono Ba.out (fun _ hk => hk.1), Z0, Z24⟩
         ·replace Bv := Bool.eq_false_iff.mpr Bv
          subst Bv
          have H1 : (spec_l12Search.l0 k2 l0 l1 a2 l3 (wrap64 (Ab + 1))) = some (r1, r2) := by rw [if_neg (show ¬ (false = true) by decide)] at H; exact H
          clear H; have H := H1; clear H1; have H' := Aside0.mk H; clear H
          go_wp2_with (first | ((with_reducible refine gate_callee (f := 83) rfl ?_); refine glE (some 42) Try.func83 #[.slice Al l3.length Am] ?_; (with_reducible refine (spec_l1Own.calls _ _ l3 Ah _ ?side1 ?side2 Cl.out).mono ?_); (case side1 => exact Z52); (case side2 => exact (Kd.R_reads' Aa.out).2.1); rintro e C4 ⟨Bc, rfl, An, hb⟩; refine ⟨_, rfl, ?_⟩; have Ad := aM (Kd.R_lower (Kd.R_new' (Kd.R_newM (M := fun k_ => (P3_ k_ ∨ w.heap.size ≤ k_)) An Z210 (fun k_ h_ => .inr h_)) (Kd.R_lt Z27)) (below_size Z0)); replace Aa := aM (Kd.R_elder' Z27 (Kd.R_base An) hb); replace HK := aM (Kept.below (S := (fun k_ => P3_ k_)) Z24 hb); replace HB := hbS Z0 hb; (try clear hb); (try clear An)) | ((with_reducible refine gate_builtin (b := .append) (xs := #[.tmp 42, .tmp 44]) rfl ?_); at_builtin; refine Kd.R_append (Kd.int .i64) (w0 := w0) w0.heap.size rfl (.tmp 42) (.tmp 44) 22 3 (.int .i64 0) 8 rfl Try.underlying22 info3 rfl (by decide) (by omega) Bc Ah Ab [.int .i64 Ab] (fun k_ => (P3_ k_ ∨ w.heap.size ≤ k_) ∧ nS k_ Al l3.length Am) (fun _ => False) rfl rfl ?aP (fun _ hk => hk.elim) ?aF ?aO ?aB ?aS ?aL ?_; (case aP => exact rfl); (case aB => exact Z0); (case aF => exact (fun k_ hk => ⟨(.inr (Nat.le_trans Z210 hk)), Kd.fresh' (Kd.R_lt Z27) k_ hk⟩)); (case aO => exact Z136); (case aS => exact (below_size Z0)); (case aL => have := LMc21.out; omega); intro Ce C5 ho hb hg hat; rw [← Az.out] at ho; replace Aa := aM (Kd.R_after (ok := (fun k_ => (P3_ k_ ∨ w.heap.size ≤ k_))) Z27 hg hat); replace HB := aM (hb); replace HK := aM (Kept.of_grown (S := (fun k_ => P3_ k_)) hg Z24 (fun k_ e_ => (Ad.out.1 k_ e_).1.1)); have Ac := aM (ho); clear Ad; clear ho hb hg hat; obtain ⟨Bh, Bi, Cg⟩ := Kd.R_slice Ac.out; subst Cg) | ((with_reducible refine gate_callee (f := 60) rfl ?_); refine glE (some 46) Try.func60 #[.slice A0 l0.length c0, .slice A1 l1.length c1, .int .i64 a2, .slice Bh Af.length Bi] ?_; (with_reducible refine (ih k2 Z194 _ _ l0 _ _ l1 a2 (fun k_ => some k_ = (.slice Bh Af.length Bi : Value).ownBlock) (.slice Bh Af.length Bi) Af Ax false w0 _ ?side1 ?side2 ?side3 ?side4 ?side5 ?side6 Cm.out).mono ?_); (case side1 => exact Z0); (case side2 => exact Kd.C_kept_call Bq.out Z24 (fun k_ hs_ => (fun e_ => (Ac.out.1 k_ e_.symm).1) hs_)); (case side3 => exact Br.out); (case side4 => exact Kd.C_kept_call Bs.out Z24 (fun k_ hs_ => (fun e_ => (Ac.out.1 k_ e_.symm).1) hs_)); (case side5 => exact Bt.out); (case side6 => exact Kd.R_tight rfl Ac.out); rintro e C6 ⟨Bg, rfl, An, hb, hkp⟩; refine ⟨_, rfl, ?_⟩; have Ba := aM (Kd.R_mono (ok' := fun k_ => (P3_ k_ ∨ w.heap.size ≤ k_) ∧ nS k_ Al l3.length Am) An (fun k_ hk_ => ⟨Or.elim hk_ (fun hs_ => (Ac.out.1 k_ (hs_).symm).1) (fun hn_ => (.inr (Nat.le_trans Z210 hn_))), Or.elim hk_ (fun hs_ => fun e_ => (((Aa.out).1 k_ e_.symm).2) hs_) (fun hn_ => (Kd.fresh' (Kd.R_lt Z27) k_ hn_))⟩)); replace Aa := aM (Kd.R_mono (ok' := fun k_ => (P3_ k_ ∨ w.heap.size ≤ k_) ∧ nV k_ Bg) (Kd.R_keptB (Aa.out) hkp (fun k_ hk_ hs_ => (hk_.2) hs_)) (fun k_ hk_ => ⟨hk_.1.1, fun e_ => Or.elim (An.1 k_ e_.symm) (fun hs_ => hk_.2.1 hs_) (fun hn_ => Nat.not_le.2 hk_.2.2 hn_)⟩)); replace HK := aM (Kept.then_ (S := (fun k_ => P3_ k_)) Z24 hkp (fun k_ hs_ => (fun e_ => (Ac.out.1 k_ e_.symm).1) hs_)); replace HB := aM (hb); clear Ac; (try clear hb); (try clear hkp); (try clear An)))
          go_roundg k2
          case measure => have := HJ4.out; have := HK2.out; omega
          case rel => exact ⟨(wrap64 (Ab + 1)), Z14, H', ⟨Z194⟩, ⟨by (with_reducible repeat (first | apply Kd.R_alloc | apply Kd.R_drewN | apply Kd.R_drew)); exact Kd.R_mono Aa.out (fun _ hk => hk.1)⟩, ⟨Z24⟩, ⟨Z0⟩⟩
        ·rw [if_neg Bu] at H
         exact absurd H (by simp)
       ·rw [if_neg Bj] at H
        have c19b0 : decide (Ab < (l1.length : Int)) = false := decide_eq_false Bj; clear Bj; obtain ⟨Ch, Ak⟩ : ∃ y_ : List Int, y_ = (([] : List Int)) := ⟨_, rfl⟩
        replace H : (some (Ch, false)) = some (r1, r2) := by first | (rw [Ak]; with_reducible exact H) | (have H2_ := (Option.bind_some _ _).symm.trans H; rw [Ak]; with_reducible exact H2_) | (have H2_ := (Option.bind_some _ _).symm.trans H; with_reducible exact H2_) | with_reducible exact H | (rw [Ak]; exact H) | exact H
        have Bb := Aside0.mk Ak; clear Ak
        simp only [Option.some.injEq, Prod.mk.injEq] at H
        obtain ⟨rfl, rfl⟩ := H
        go_wp2_with (first | ((with_reducible refine gate_dst (N := 51) rfl ?_); refine Kd.R_lit (Kd.int .i64) _ 3 ?hg (N := 51) ?hd (xs := ([] : List Int)) (inner := []) (ok := fun _ => True) (okp := fun _ => True) ?hr ?hp (fun _ hk => hk) trivial (Below.refl _ _) (Nat.le_refl _) (by simp) ?_; (case hd => rfl); (case hg => rfl); (case hr => first | (go_simp; done) | (go_simp; rfl)); (case hp => exact (Reps.none _ _)); intro Cv C7 Ar hb hg_ hnew_; clear hg_ hnew_; (first | rw [← Bb.out] at Ar | (simp only [Int.reduceToNat] at Ar; rw [← Bb.out] at Ar)); have Bp := aM (Kd.R_lower (Kd.R_new' (Kd.R_newM (M := fun k_ => (P3_ k_ ∨ w.heap.size ≤ k_)) Ar Z210 (fun k_ h_ => .inr h_)) (Kd.R_lt Z27)) (below_size Z0)); replace Aa := aM (Kd.R_elder' Z27 (Kd.R_base Ar) hb); replace HK := aM (Kept.below (S := (fun k_ => P3_ k_)) Z24 hb); replace HB := hbS Z0 hb; clear hb Ar))
        go_ret2
        exact ⟨_, Z10, by (with_reducible repeat (first | apply Kd.R_alloc | apply Kd.R_drewN | apply Kd.R_drew)); exact Kd.R_mono Bp.out (fun _ hk => hk.1.1), Z0, Z24⟩
mutual
def spec_FewestLots.j0 : Nat → Int → List Int → Bool → Int → Int → List Int → Option (Int × Bool)
 | 0, _, _, _, _, _, _ => none
 | k + 1, x1, x2, x22, x360000, x360001, x360002 => if x22 = true then (some (0, false)) else (spec_FewestLots.l0 k x1 x2 0 x360000 x360001 x360002)
def spec_FewestLots.l0 : Nat → Int → List Int → Int → Int → Int → List Int → Option (Int × Bool)
 | 0, _, _, _, _, _, _ => none
 | k + 1, x1, x2, x8, x360000, x360001, x360002 => if x8 ≤ (x2.length : Int) then ((spec_l12Color.f k x360000 x360001 x360002 x1).bind fun t364 => ((spec_l12Search.f k t364 x2 x8 (([] : List Int))).bind fun bt370 => (if bt370.2 = true then (some (x8, true)) else (spec_FewestLots.l0 k x1 x2 (wrap64 (x8 + 1)) x360000 x360001 x360002)))) else (some (0, false))
end
def spec_FewestLots.f (k : Nat) (a0_0 : Int) (a0_1 : Int) (l0_2 : List Int) (a1 : Int) (l2 : List Int) : Option (Int × Bool) := (spec_l12Asked.f k a0_0 a0_1 l0_2 a1 l2).bind fun t360 => (if t360 = true then ((spec_l12Color.f k a0_0 a0_1 l0_2 a1).bind fun t361 => (spec_FewestLots.j0 k a1 l2 (decide ((t361.length : Int) > 8)) a0_0 a0_1 l0_2)) else (spec_FewestLots.j0 k a1 l2 true a0_0 a0_1 l0_2))
theorem spec_FewestLots.calls (k : Nat) (Ad : Int) (Ae : Int) (Aj : Option Addr) (Ak : Nat) (Ab : List Int) (a1 : Int) (A2 : Option Addr) (c2 : Nat) (l2 : List Int) (r1 : Int) (r2 : Bool) (w : World) (Bt : Kd.C (Kd.int .i64) w Aj Ab.length Ab) (Bu : Ab.length ≤ Ak) (C8 : Kd.C (Kd.int .i64) w A2 l2.length l2) (C9 : l2.length ≤ c2) (h : spec_FewestLots.f k Ad Ae Ab a1 l2 = some (r1, r2)) :
  Calls Try.prog 30 #[.agg #[.int .i64 Ad, .int .i64 Ae, .slice Aj Ab.length Ak], .int .i64 a1, .slice A2 l2.length c2] w fun e w' => e = .returned (.tuple #[.int .i64 r1, .bool r2]) ∧ Below w.heap.size w w' := by
 have hu28 := Try.underlying28; have An := Aside0.mk Bt; have Ao := Aside0.mk Bu; clear Bt Bu; have Cj := Aside0.mk C8; have Ck := Aside0.mk C9; clear C8 C9; have HB := aM (Below.refl w.heap.size w); have H : ((spec_l12Asked.f k Ad Ae Ab a1 l2).bind fun Bs => (if Bs = true then ((spec_l12Color.f k Ad Ae Ab a1).bind fun Al => (spec_FewestLots.j0 k a1 l2 (decide ((Al.length : Int) > 8)) Ad Ae Ab)) else (spec_FewestLots.j0 k a1 l2 true Ad Ae Ab))) = some (r1, r2) := h; clear h; have Cy := Aside0.mk H; clear H
 go_enter Try.func30, Try.ntmps30
 go_upto_region 1 with (first | ((with_reducible refine gate_dst (N := 3) rfl ?_); (try (refine gate_guard (by rfl) ?_; dsimp only)); refine bxE 3 #[.int .i64 Ad, .int .i64 Ae, .slice Aj Ab.length Ak] 28 ?_; intro Bv hg w5 hbox hb; have Aa := aM (hbox); have Da := gwS hg Z0; have Ac := gwS hg Z0; replace HB := hbS Z0 hb; clear hb hbox hg))
 (try simp only [Act.put, List.setIfInBounds_toArray, List.set_cons_zero, List.set_cons_succ])
 go_cut [22] (fun Df wc => ∃ (kq : Nat) (Ar : Bool), Df = .bool Ar ∧ Aside0 (spec_FewestLots.j0 kq a1 l2 Ar Ad Ae Ab = some (r1, r2)) ∧ Aside0 (kq ≤ k) ∧ Aside0 (wc.heap[Bv]? = some (.cells #[.int .i64 Ad, .int .i64 Ae, (.slice Aj Ab.length Ak)] 28 (0, 0))) ∧ Aside0 (Below w.heap.size w wc))
 case first =>
  have H := Cy.out; clear Cy; replace H := Option.bind_eq_some_iff.mp H; obtain ⟨Bs, Db, H⟩ := H; replace H : (if Bs = true then ((spec_l12Color.f k Ad Ae Ab a1).bind fun Al => (spec_FewestLots.j0 k a1 l2 (decide ((Al.length : Int) > 8)) Ad Ae Ab)) else (spec_FewestLots.j0 k a1 l2 true Ad Ae Ab)) = some (r1, r2) := H; have A6 := Aside0.mk Db; clear Db
  by_cases c7 : Bs = true
  ·subst c7
   have H1 : ((spec_l12Color.f k Ad Ae Ab a1).bind fun Al => (spec_FewestLots.j0 k a1 l2 (decide ((Al.length : Int) > 8)) Ad Ae Ab)) = some (r1, r2) := by rw [if_pos rfl] at H; exact H
   clear H; have H := H1; clear H1; replace H := Option.bind_eq_some_iff.mp H; obtain ⟨Al, Dc, H⟩ := H; replace H : (spec_FewestLots.j0 k a1 l2 (decide ((Al.length : Int) > 8)) Ad Ae Ab) = some (r1, r2) := H; have A8 := Aside0.mk Dc; clear Dc; have H' := Aside0.mk H; clear H; obtain ⟨Bl, Bm, Bn⟩ := bz3 Aa; obtain ⟨Bo, Bp, Bq⟩ := fz3 Aa
   go_wp2_with (first | ((with_reducible refine gate_callee (f := 55) rfl ?_); refine glE (some 14) Try.func55 #[.agg #[.int .i64 Ad, .int .i64 Ae, .slice Aj Ab.length Ak], .int .i64 a1, .slice A2 l2.length c2] ?_; (with_reducible refine (spec_l12Asked.calls k Ad Ae _ _ Ab a1 _ _ l2 true _ ?side1 ?side2 ?side3 ?side4 A6.out).mono ?_); (case side1 => exact Z92); (case side2 => exact Ao.out); (case side3 => exact Z143); (case side4 => exact Ck.out); rintro e Dj ⟨rfl, hb⟩; refine ⟨_, rfl, ?_⟩; replace Aa := bkB Aa hb; replace HB := hbS Z1 hb; (try clear hb); obtain ⟨Au, Aw, Ax⟩ := bz3 Aa; obtain ⟨Ay, Az, Ba⟩ := fz3 Aa) | (go_at_call 52; (with_reducible refine (spec_l12Color.calls k Ad Ae _ _ Ab a1 Al _ ?side1 ?side2 A8.out).mono ?_); (case side1 => exact Z92); (case side2 => exact Ao.out); rintro e Dk ⟨Dg, rfl, Aq, hb⟩; have B6 := aM (Kd.R_lower Aq (below_size Z1)); replace Aa := bkB Aa hb; replace HB := hbS Z1 hb; (try clear hb); (try clear Aq); obtain ⟨Dh, Di, Cz⟩ := Kd.R_slice B6.out; subst Cz))
   go_meet
   case rel => exact ⟨_, (decide ((Al.length : Int) > 8)), Z14, H', ⟨Z119⟩, ⟨Z25⟩, ⟨Z1⟩⟩
  ·replace c7 := Bool.eq_false_iff.mpr c7
   subst c7
   have H1 : (spec_FewestLots.j0 k a1 l2 true Ad Ae Ab) = some (r1, r2) := by rw [if_neg (show ¬ (false = true) by decide)] at H; exact H
   clear H; have H := H1; clear H1; have H' := Aside0.mk H; clear H; obtain ⟨Bb, Bc, Bd⟩ := bz3 Aa; obtain ⟨Bf, Bg, Bh⟩ := fz3 Aa
   go_wp2_with (first | ((with_reducible refine gate_callee (f := 55) rfl ?_); refine glE (some 14) Try.func55 #[.agg #[.int .i64 Ad, .int .i64 Ae, .slice Aj Ab.length Ak], .int .i64 a1, .slice A2 l2.length c2] ?_; (with_reducible refine (spec_l12Asked.calls k Ad Ae _ _ Ab a1 _ _ l2 false _ ?side1 ?side2 ?side3 ?side4 A6.out).mono ?_); (case side1 => exact Z92); (case side2 => exact Ao.out); (case side3 => exact Z143); (case side4 => exact Ck.out); rintro e Dl ⟨rfl, hb⟩; refine ⟨_, rfl, ?_⟩; replace Aa := bkB Aa hb; replace HB := hbS Z1 hb; (try clear hb)))
   go_meet
   case rel => exact ⟨_, (true), Z14, H', ⟨Z119⟩, ⟨Z25⟩, ⟨Z1⟩⟩
 case rest =>
  clear Cy; (try clear c2); (try clear p2); (try clear c3); (try clear c5); (try clear c7); (try clear Au); (try clear Aw); (try clear Ax); (try clear Bb); (try clear Bc); (try clear Bd); (try clear Bl); (try clear Bm); (try clear Bn); (try clear Ay); (try clear Az); (try clear Ba); (try clear Bf); (try clear Bg); (try clear Bh); (try clear Bo); (try clear Bp); (try clear Bq); obtain ⟨kq, Ar, rfl, HA, HJ3, Aa, HB⟩ := hcut; cases kq with
  | zero => exact absurd HA.out (by simp [spec_FewestLots.j0])
  | succ C0 =>
   have H := HA.out; clear HA
   simp only [spec_FewestLots.j0] at H
   by_cases B7 : Ar = true
   ·subst B7
    have H1 : (some (0, false)) = some (r1, r2) := by rw [if_pos rfl] at H; exact H
    clear H; have H := H1; clear H1
    simp only [Option.some.injEq, Prod.mk.injEq] at H
    obtain ⟨rfl, rfl⟩ := H
    go_wp2
    go_ret2
    exact ⟨Z10, Z1⟩
   ·replace B7 := Bool.eq_false_iff.mpr B7
    subst B7
    have H1 : (spec_FewestLots.l0 C0 a1 l2 0 Ad Ae Ab) = some (r1, r2) := by rw [if_neg (show ¬ (false = true) by decide)] at H; exact H
    clear H; have H := H1; clear H1; have H' := Aside0.mk H; clear H
    go_wp2
    go_loopg [8] C0 (fun kq v8 w' => ∃ (Ag : Int), v8 = .int .i64 Ag ∧ Aside0 (spec_FewestLots.l0 kq a1 l2 Ag Ad Ae Ab = some (r1, r2)) ∧ Aside0 (kq ≤ C0) ∧ Aside0 (w'.heap[Bv]? = some (.cells #[.int .i64 Ad, .int .i64 Ae, (.slice Aj Ab.length Ak)] 28 (0, 0))) ∧ Aside0 (Below w.heap.size w w'))
    case atStart => exact ⟨(0), Z14, H', ⟨Nat.le_refl _⟩, ⟨Z25⟩, ⟨Z1⟩⟩
    case round =>
     clear H'; (try clear c1); (try clear c2); (try clear p2); (try clear c3); (try clear c5); (try clear c7); (try clear B7); (try clear Au); (try clear Aw); (try clear Ax); (try clear Bb); (try clear Bc); (try clear Bd); (try clear Bl); (try clear Bm); (try clear Bn); (try clear Ay); (try clear Az); (try clear Ba); (try clear Bf); (try clear Bg); (try clear Bh); (try clear Bo); (try clear Bp); (try clear Bq); (try clear p2); obtain ⟨Ag, rfl, HA, HK2, Aa, HB⟩ := hrel; cases gk with
     | zero => exact absurd HA.out (by simp [spec_FewestLots.l0])
     | succ k2 =>
      have H := HA.out; clear HA
      simp only [spec_FewestLots.l0] at H
      by_cases B5 : Ag ≤ (l2.length : Int)
      ·rw [if_pos B5] at H
       have c17b0 : decide (Ag ≤ (l2.length : Int)) = true := decide_eq_true B5; clear B5; replace H := Option.bind_eq_some_iff.mp H; obtain ⟨Ai, Ca, H⟩ := H; replace H : ((spec_l12Search.f k2 Ai l2 Ag (([] : List Int))).bind fun Br => (if Br.2 = true then (some (Ag, true)) else (spec_FewestLots.l0 k2 a1 l2 (wrap64 (Ag + 1)) Ad Ae Ab))) = some (r1, r2) := H; have Dd := Aside0.mk Ca; clear Ca; obtain ⟨Am, Ap⟩ : ∃ y_ : List Int, y_ = (([] : List Int)) := ⟨_, rfl⟩
       replace H : ((spec_l12Search.f k2 Ai l2 Ag Am).bind fun Br => (if Br.2 = true then (some (Ag, true)) else (spec_FewestLots.l0 k2 a1 l2 (wrap64 (Ag + 1)) Ad Ae Ab))) = some (r1, r2) := by first | (rw [Ap]; with_reducible exact H) | (have H2_ := (Option.bind_some _ _).symm.trans H; rw [Ap]; with_reducible exact H2_) | (have H2_ := (Option.bind_some _ _).symm.trans H; with_reducible exact H2_) | with_reducible exact H | (rw [Ap]; exact H) | exact H
       have Bi := Aside0.mk Ap; clear Ap; replace H := Option.bind_eq_some_iff.mp H; obtain ⟨⟨Cb, Cc⟩, Cd, H⟩ := H; replace H : (if Cc = true then (some (Ag, true)) else (spec_FewestLots.l0 k2 a1 l2 (wrap64 (Ag + 1)) Ad Ae Ab)) = some (r1, r2) := H; have De := Aside0.mk Cd; clear Cd
       by_cases Cl : Cc = true
       ·subst Cl
        have H1 : (some (Ag, true)) = some (r1, r2) := by rw [if_pos rfl] at H; exact H
        clear H; have H := H1; clear H1
        simp only [Option.some.injEq, Prod.mk.injEq] at H
        obtain ⟨rfl, rfl⟩ := H; obtain ⟨Cm, Cn, Co⟩ := bz3 Aa; obtain ⟨Cp, Cq, Cr⟩ := fz3 Aa
        go_wp2_with (first | ((with_reducible refine gate_callee (f := 52) rfl ?_); refine glE (some 32) Try.func52 #[.agg #[.int .i64 Ad, .int .i64 Ae, .slice Aj Ab.length Ak], .int .i64 a1] ?_; (with_reducible refine (spec_l12Color.calls k2 Ad Ae _ _ Ab a1 Ai _ ?side1 ?side2 Dd.out).mono ?_); (case side1 => exact Z92); (case side2 => exact Ao.out); rintro e Dm ⟨C1, rfl, Aq, hb⟩; refine ⟨_, rfl, ?_⟩; have Af := aM (Kd.R_lower Aq (below_size Z1)); replace Aa := bkB Aa hb; replace HB := hbS Z1 hb; (try clear hb); (try clear Aq)) | ((with_reducible refine gate_dst (N := 35) rfl ?_); (try (refine gate_guard (by rfl) ?_; dsimp only)); refine Kd.R_lit (Kd.int .i64) _ 3 ?hg (N := 35) ?hd (xs := ([] : List Int)) (inner := []) (ok := fun _ => True) (okp := fun _ => True) ?hr ?hp (fun _ hk => hk) trivial (Below.refl _ _) (Nat.le_refl _) (by simp) ?_; (case hd => rfl); (case hg => rfl); (case hr => first | (go_simp; done) | (go_simp; rfl)); (case hp => exact (Reps.none _ _)); intro C3 Dn Bj hb hg_ hnew_; clear hg_ hnew_; (first | rw [← Bi.out] at Bj | (simp only [Int.reduceToNat] at Bj; rw [← Bi.out] at Bj)); have Ah := aM (Kd.R_lower (Kd.R_new' Bj (Kd.R_lt Z73)) (below_size Z1)); replace Af := aM (Kd.R_elder' Z73 (Kd.R_base Bj) hb); replace Aa := bkB Aa hb; replace HB := hbS Z1 hb; clear hb Bj; obtain ⟨Ce, Cf, C4⟩ := Kd.R_slice Af.out; subst C4; obtain ⟨Bw, Bx, C5⟩ := Kd.R_slice Ah.out; subst C5) | ((with_reducible refine gate_callee (f := 60) rfl ?_); refine glE (some 36) Try.func60 #[.slice Ce Ai.length Cf, .slice A2 l2.length c2, .int .i64 Ag, .slice Bw Am.length Bx] ?_; (with_reducible refine (spec_l12Search.calls k2 _ _ Ai _ _ l2 Ag (fun k_ => some k_ = (.slice Bw Am.length Bx : Value).ownBlock) (.slice Bw Am.length Bx) Am Cb true w _ ?side1 ?side2 ?side3 ?side4 ?side5 ?side6 De.out).mono ?_); (case side1 => exact Z1); (case side2 => exact Kd.C_kept_own (Af.out) (fun k_ hk_ hs_ => (hk_.2) hs_)); (case side3 => exact (Kd.R_reads' Af.out).2.1); (case side4 => exact Kd.C_kept_came (Kd.heap_int .i64) Cj.out Z1 (fun k_ hs_ => (fun e_ => Kd.R_base Ah.out k_ e_.symm) hs_)); (case side5 => exact Ck.out); (case side6 => exact Kd.R_tight rfl Ah.out); rintro e Dp ⟨Bz, rfl, Aq, hb, hkp⟩; refine ⟨_, rfl, ?_⟩; replace Aa := aM (blk_kept Z25 hkp (fun hs_ => (fun e_ => (Kd.R_ne Ah.out Aa.out (by decide)) e_) hs_)); have Cg := aM (Kd.R_mono (ok' := fun k_ => nS k_ Ce Ai.length Cf) Aq (fun k_ hk_ => Or.elim hk_ (fun hs_ => fun e_ => (((Af.out).1 k_ e_.symm).2) hs_) (fun hn_ => (Kd.fresh' (Kd.R_lt Z73) k_ hn_)))); replace Af := aM (Kd.R_mono (ok' := fun k_ => nV k_ Bz) (Kd.R_keptB (Af.out) hkp (fun k_ hk_ hs_ => (hk_.2) hs_)) (fun k_ hk_ => fun e_ => Or.elim (Aq.1 k_ e_.symm) (fun hs_ => hk_.2.1 hs_) (fun hn_ => Nat.not_le.2 hk_.2.2 hn_))); replace HB := aM (hb); clear Ah; (try clear hb); (try clear hkp); (try clear Aq)))
        go_ret2
        exact ⟨Z10, Z1⟩
       ·replace Cl := Bool.eq_false_iff.mpr Cl
        subst Cl
        have H1 : (spec_FewestLots.l0 k2 a1 l2 (wrap64 (Ag + 1)) Ad Ae Ab) = some (r1, r2) := by rw [if_neg (show ¬ (false = true) by decide)] at H; exact H
        clear H; have H := H1; clear H1; have H' := Aside0.mk H; clear H; obtain ⟨Cs, Ct, Cu⟩ := bz3 Aa; obtain ⟨Cv, Cw, Cx⟩ := fz3 Aa
        go_wp2_with (first | ((with_reducible refine gate_callee (f := 52) rfl ?_); refine glE (some 32) Try.func52 #[.agg #[.int .i64 Ad, .int .i64 Ae, .slice Aj Ab.length Ak], .int .i64 a1] ?_; (with_reducible refine (spec_l12Color.calls k2 Ad Ae _ _ Ab a1 Ai _ ?side1 ?side2 Dd.out).mono ?_); (case side1 => exact Z92); (case side2 => exact Ao.out); rintro e Dq ⟨C1, rfl, Aq, hb⟩; refine ⟨_, rfl, ?_⟩; have Af := aM (Kd.R_lower Aq (below_size Z1)); replace Aa := bkB Aa hb; replace HB := hbS Z1 hb; (try clear hb); (try clear Aq)) | ((with_reducible refine gate_dst (N := 35) rfl ?_); (try (refine gate_guard (by rfl) ?_; dsimp only)); refine Kd.R_lit (Kd.int .i64) _ 3 ?hg (N := 35) ?hd (xs := ([] : List Int)) (inner := []) (ok := fun _ => True) (okp := fun _ => True) ?hr ?hp (fun _ hk => hk) trivial (Below.refl _ _) (Nat.le_refl _) (by simp) ?_; (case hd => rfl); (case hg => rfl); (case hr => first | (go_simp; done) | (go_simp; rfl)); (case hp => exact (Reps.none _ _)); intro C3 Dr Bk hb hg_ hnew_; clear hg_ hnew_; (first | rw [← Bi.out] at Bk | (simp only [Int.reduceToNat] at Bk; rw [← Bi.out] at Bk)); have Ah := aM (Kd.R_lower (Kd.R_new' Bk (Kd.R_lt Z73)) (below_size Z1)); replace Af := aM (Kd.R_elder' Z73 (Kd.R_base Bk) hb); replace Aa := bkB Aa hb; replace HB := hbS Z1 hb; clear hb Bk; obtain ⟨Ch, Ci, C6⟩ := Kd.R_slice Af.out; subst C6; obtain ⟨B0, B2, C7⟩ := Kd.R_slice Ah.out; subst C7) | ((with_reducible refine gate_callee (f := 60) rfl ?_); refine glE (some 36) Try.func60 #[.slice Ch Ai.length Ci, .slice A2 l2.length c2, .int .i64 Ag, .slice B0 Am.length B2] ?_; (with_reducible refine (spec_l12Search.calls k2 _ _ Ai _ _ l2 Ag (fun k_ => some k_ = (.slice B0 Am.length B2 : Value).ownBlock) (.slice B0 Am.length B2) Am Cb false w _ ?side1 ?side2 ?side3 ?side4 ?side5 ?side6 De.out).mono ?_); (case side1 => exact Z1); (case side2 => exact Kd.C_kept_own (Af.out) (fun k_ hk_ hs_ => (hk_.2) hs_)); (case side3 => exact (Kd.R_reads' Af.out).2.1); (case side4 => exact Kd.C_kept_came (Kd.heap_int .i64) Cj.out Z1 (fun k_ hs_ => (fun e_ => Kd.R_base Ah.out k_ e_.symm) hs_)); (case side5 => exact Ck.out); (case side6 => exact Kd.R_tight rfl Ah.out); rintro e Ds ⟨Bz, rfl, Aq, hb, hkp⟩; refine ⟨_, rfl, ?_⟩; replace Aa := aM (blk_kept Z25 hkp (fun hs_ => (fun e_ => (Kd.R_ne Ah.out Aa.out (by decide)) e_) hs_)); have Cg := aM (Kd.R_mono (ok' := fun k_ => nS k_ Ch Ai.length Ci) Aq (fun k_ hk_ => Or.elim hk_ (fun hs_ => fun e_ => (((Af.out).1 k_ e_.symm).2) hs_) (fun hn_ => (Kd.fresh' (Kd.R_lt Z73) k_ hn_)))); replace Af := aM (Kd.R_mono (ok' := fun k_ => nV k_ Bz) (Kd.R_keptB (Af.out) hkp (fun k_ hk_ hs_ => (hk_.2) hs_)) (fun k_ hk_ => fun e_ => Or.elim (Aq.1 k_ e_.symm) (fun hs_ => hk_.2.1 hs_) (fun hn_ => Nat.not_le.2 hk_.2.2 hn_))); replace HB := aM (hb); clear Ah; (try clear hb); (try clear hkp); (try clear Aq)))
        go_roundg k2
        case measure => have := HJ3.out; have := HK2.out; omega
        case rel => exact ⟨(wrap64 (Ag + 1)), Z14, H', ⟨by have := HJ3.out; have := HK2.out; omega⟩, ⟨Z25⟩, ⟨Z1⟩⟩
      ·rw [if_neg B5] at H
       have c17b0 : decide (Ag ≤ (l2.length : Int)) = false := decide_eq_false B5; clear B5
       simp only [Option.some.injEq, Prod.mk.injEq] at H
       obtain ⟨rfl, rfl⟩ := H
       go_wp2
       go_ret2
       exact ⟨Z10, Z1⟩
def impl_hasFewAreas.f (k : Nat) (a0_0 : Int) (a0_1 : Int) (l0_2 : List Int) (a1 : Int) (l2 : List Int) : Option (Bool) := (impl_IsChart.f a0_0 a0_1 l0_2).bind fun t375 => (if t375 = true then ((impl_isColor.f a1).bind fun t376 => (if t376 = true then ((impl_areLots.f l2).bind fun t377 => (if t377 = true then ((impl_Chart_sizesOf.f k a0_0 a0_1 l0_2 a1).bind fun t378 => (some (decide ((t378.length : Int) ≤ 8)))) else (some false))) else (some false))) else (some false))
theorem impl_hasFewAreas.calls (k : Nat) (Ad : Int) (Ae : Int) (Ah : Option Addr) (Ai : Nat) (Ab : List Int) (a1 : Int) (A2 : Option Addr) (c2 : Nat) (l2 : List Int) (r : Bool) (w : World) (Ap : Kd.C (Kd.int .i64) w Ah Ab.length Ab) (Aq : Ab.length ≤ Ai) (B6 : Kd.C (Kd.int .i64) w A2 l2.length l2) (B7 : l2.length ≤ c2) (h : impl_hasFewAreas.f k Ad Ae Ab a1 l2 = some r) :
  Calls Try.prog 61 #[.agg #[.int .i64 Ad, .int .i64 Ae, .slice Ah Ab.length Ai], .int .i64 a1, .slice A2 l2.length c2] w fun e w' => e = .returned (.bool r) ∧ Below w.heap.size w w' := by
 have hu28 := Try.underlying28; have Aj := Aside0.mk Ap; have Ak := Aside0.mk Aq; clear Ap Aq; have Ca := Aside0.mk B6; have Cb := Aside0.mk B7; clear B6 B7; have HB := aM (Below.refl w.heap.size w); have H : ((impl_IsChart.f Ad Ae Ab).bind fun Ao => (if Ao = true then ((impl_isColor.f a1).bind fun Al => (if Al = true then ((impl_areLots.f l2).bind fun Ag => (if Ag = true then ((impl_Chart_sizesOf.f k Ad Ae Ab a1).bind fun Af => (some (decide ((Af.length : Int) ≤ 8)))) else (some false))) else (some false))) else (some false))) = some r := h; clear h; replace H := Option.bind_eq_some_iff.mp H; obtain ⟨Ao, Cc, H⟩ := H; replace H : (if Ao = true then ((impl_isColor.f a1).bind fun Al => (if Al = true then ((impl_areLots.f l2).bind fun Ag => (if Ag = true then ((impl_Chart_sizesOf.f k Ad Ae Ab a1).bind fun Af => (some (decide ((Af.length : Int) ≤ 8)))) else (some false))) else (some false))) else (some false)) = some r := H; have A4 := Aside0.mk Cc; clear Cc
 by_cases c5 : Ao = true
 ·subst c5
  have H1 : ((impl_isColor.f a1).bind fun Al => (if Al = true then ((impl_areLots.f l2).bind fun Ag => (if Ag = true then ((impl_Chart_sizesOf.f k Ad Ae Ab a1).bind fun Af => (some (decide ((Af.length : Int) ≤ 8)))) else (some false))) else (some false))) = some r := by rw [if_pos rfl] at H; exact H
  clear H; have H := H1; clear H1; replace H := Option.bind_eq_some_iff.mp H; obtain ⟨Al, Cd, H⟩ := H; replace H : (if Al = true then ((impl_areLots.f l2).bind fun Ag => (if Ag = true then ((impl_Chart_sizesOf.f k Ad Ae Ab a1).bind fun Af => (some (decide ((Af.length : Int) ≤ 8)))) else (some false))) else (some false)) = some r := H; have A6 := Aside0.mk Cd; clear Cd
  by_cases c7 : Al = true
  ·subst c7
   have H1 : ((impl_areLots.f l2).bind fun Ag => (if Ag = true then ((impl_Chart_sizesOf.f k Ad Ae Ab a1).bind fun Af => (some (decide ((Af.length : Int) ≤ 8)))) else (some false))) = some r := by rw [if_pos rfl] at H; exact H
   clear H; have H := H1; clear H1; replace H := Option.bind_eq_some_iff.mp H; obtain ⟨Ag, Ce, H⟩ := H; replace H : (if Ag = true then ((impl_Chart_sizesOf.f k Ad Ae Ab a1).bind fun Af => (some (decide ((Af.length : Int) ≤ 8)))) else (some false)) = some r := H; have A8 := Aside0.mk Ce; clear Ce
   by_cases c9 : Ag = true
   ·subst c9
    have H1 : ((impl_Chart_sizesOf.f k Ad Ae Ab a1).bind fun Af => (some (decide ((Af.length : Int) ≤ 8)))) = some r := by rw [if_pos rfl] at H; exact H
    clear H; have H := H1; clear H1; replace H := Option.bind_eq_some_iff.mp H; obtain ⟨Af, Ar, H⟩ := H; replace H : (some (decide ((Af.length : Int) ≤ 8))) = some r := H; have Cg := Aside0.mk Ar; clear Ar; obtain rfl := Option.some.inj H
    go_enter Try.func61, Try.ntmps61
    go_wp2_with (first | ((with_reducible refine gate_dst (N := 3) rfl ?_); (try (refine gate_guard (by rfl) ?_; dsimp only)); refine bxE 3 #[.int .i64 Ad, .int .i64 Ae, .slice Ah Ab.length Ai] 28 ?_; intro Am hg Ck hbox hb; have Aa := aM (hbox); have An := gwS hg Z0; have Ac := gwS hg Z0; replace HB := hbS Z0 hb; clear hb hbox hg; obtain ⟨Aw, Ax, Ay⟩ := bz3 Aa; obtain ⟨Az, Ba, Bb⟩ := fz3 Aa) | ((with_reducible refine gate_callee (f := 45) rfl ?_); refine glE (some 8) Try.func45 #[.agg #[.int .i64 Ad, .int .i64 Ae, .slice Ah Ab.length Ai]] ?_; (with_reducible refine (impl_IsChart.calls Ad Ae _ _ Ab true _ ?side1 ?side2 A4.out).mono ?_); (case side1 => exact Z62); (case side2 => exact Ak.out); rintro e Cl ⟨rfl, hb⟩; refine ⟨_, rfl, ?_⟩; replace Aa := bkB Aa hb; replace HB := hbS Z1 hb; (try clear hb)) | (go_at_call 53; (with_reducible refine (impl_isColor.calls a1 true _ A6.out).mono ?_); rintro e w' ⟨rfl, ⟨nd, rfl⟩⟩) | (go_at_call 57; (with_reducible refine (impl_areLots.calls _ _ l2 true _ ?side1 ?side2 A8.out).mono ?_); (case side1 => repeat (first | exact (Kd.C_below Ca.out Z1) | (with_reducible refine Kd.C_alloc ?_ _) | (with_reducible refine Kd.C_drewN ?_ _) | (with_reducible refine Kd.C_drew ?_))); (case side2 => exact Cb.out); rintro e Cm ⟨rfl, hb⟩; replace Aa := bkB Aa hb; replace HB := hbS Z1 hb; (try clear hb); obtain ⟨Bc, Bd, Bf⟩ := bz3 Aa; obtain ⟨Bg, Bh, Bi⟩ := fz3 Aa) | (go_at_call 54; (with_reducible refine (impl_Chart_sizesOf.calls k Ad Ae _ _ Ab a1 Af _ ?side1 ?side2 Cg.out).mono ?_); (case side1 => exact Z62); (case side2 => exact Ak.out); rintro e Cn ⟨Ch, rfl, Cf, hb⟩; have Au := aM (Kd.R_lower Cf (below_size Z1)); replace Aa := bkB Aa hb; replace HB := hbS Z1 hb; (try clear hb); (try clear Cf); obtain ⟨Ci, Cj, B5⟩ := Kd.R_slice Au.out; subst B5))
    go_ret
    exact ⟨Z10, Z1⟩
   ·replace c9 := Bool.eq_false_iff.mpr c9
    subst c9
    have H1 : (some false) = some r := by rw [if_neg (show ¬ (false = true) by decide)] at H; exact H
    clear H; have H := H1; clear H1; obtain rfl := Option.some.inj H
    go_enter Try.func61, Try.ntmps61
    go_wp2_with (first | ((with_reducible refine gate_dst (N := 3) rfl ?_); (try (refine gate_guard (by rfl) ?_; dsimp only)); refine bxE 3 #[.int .i64 Ad, .int .i64 Ae, .slice Ah Ab.length Ai] 28 ?_; intro Am hg Co hbox hb; have Aa := aM (hbox); have An := gwS hg Z0; have Ac := gwS hg Z0; replace HB := hbS Z0 hb; clear hb hbox hg; obtain ⟨Bj, Bk, Bl⟩ := bz3 Aa; obtain ⟨Bm, Bn, Bo⟩ := fz3 Aa) | ((with_reducible refine gate_callee (f := 45) rfl ?_); refine glE (some 8) Try.func45 #[.agg #[.int .i64 Ad, .int .i64 Ae, .slice Ah Ab.length Ai]] ?_; (with_reducible refine (impl_IsChart.calls Ad Ae _ _ Ab true _ ?side1 ?side2 A4.out).mono ?_); (case side1 => exact Z62); (case side2 => exact Ak.out); rintro e Cp ⟨rfl, hb⟩; refine ⟨_, rfl, ?_⟩; replace Aa := bkB Aa hb; replace HB := hbS Z1 hb; (try clear hb)) | (go_at_call 53; (with_reducible refine (impl_isColor.calls a1 true _ A6.out).mono ?_); rintro e w' ⟨rfl, ⟨nd, rfl⟩⟩) | (go_at_call 57; (with_reducible refine (impl_areLots.calls _ _ l2 false _ ?side1 ?side2 A8.out).mono ?_); (case side1 => repeat (first | exact (Kd.C_below Ca.out Z1) | (with_reducible refine Kd.C_alloc ?_ _) | (with_reducible refine Kd.C_drewN ?_ _) | (with_reducible refine Kd.C_drew ?_))); (case side2 => exact Cb.out); rintro e Cq ⟨rfl, hb⟩; replace Aa := bkB Aa hb; replace HB := hbS Z1 hb; (try clear hb)))
    go_ret
    exact ⟨Z10, Z1⟩
  ·replace c7 := Bool.eq_false_iff.mpr c7
   subst c7
   have H1 : (some false) = some r := by rw [if_neg (show ¬ (false = true) by decide)] at H; exact H
   clear H; have H := H1; clear H1; obtain rfl := Option.some.inj H
   go_enter Try.func61, Try.ntmps61
   go_wp2_with (first | ((with_reducible refine gate_dst (N := 3) rfl ?_); (try (refine gate_guard (by rfl) ?_; dsimp only)); refine bxE 3 #[.int .i64 Ad, .int .i64 Ae, .slice Ah Ab.length Ai] 28 ?_; intro Am hg Cr hbox hb; have Aa := aM (hbox); have An := gwS hg Z0; have Ac := gwS hg Z0; replace HB := hbS Z0 hb; clear hb hbox hg; obtain ⟨Bp, Bq, Br⟩ := bz3 Aa; obtain ⟨Bs, Bt, Bu⟩ := fz3 Aa) | ((with_reducible refine gate_callee (f := 45) rfl ?_); refine glE (some 8) Try.func45 #[.agg #[.int .i64 Ad, .int .i64 Ae, .slice Ah Ab.length Ai]] ?_; (with_reducible refine (impl_IsChart.calls Ad Ae _ _ Ab true _ ?side1 ?side2 A4.out).mono ?_); (case side1 => exact Z62); (case side2 => exact Ak.out); rintro e Cs ⟨rfl, hb⟩; refine ⟨_, rfl, ?_⟩; replace Aa := bkB Aa hb; replace HB := hbS Z1 hb; (try clear hb)) | (go_at_call 53; (with_reducible refine (impl_isColor.calls a1 false _ A6.out).mono ?_); rintro e w' ⟨rfl, ⟨nd, rfl⟩⟩))
   go_ret
   exact ⟨Z10, Z1⟩
 ·replace c5 := Bool.eq_false_iff.mpr c5
  subst c5
  have H1 : (some false) = some r := by rw [if_neg (show ¬ (false = true) by decide)] at H; exact H
  clear H; have H := H1; clear H1; obtain rfl := Option.some.inj H
  go_enter Try.func61, Try.ntmps61
  go_wp2_with (first | ((with_reducible refine gate_dst (N := 3) rfl ?_); (try (refine gate_guard (by rfl) ?_; dsimp only)); refine bxE 3 #[.int .i64 Ad, .int .i64 Ae, .slice Ah Ab.length Ai] 28 ?_; intro Am hg Ct hbox hb; have Aa := aM (hbox); have An := gwS hg Z0; have Ac := gwS hg Z0; replace HB := hbS Z0 hb; clear hb hbox hg; obtain ⟨Bv, Bw, Bx⟩ := bz3 Aa; obtain ⟨Bz, B0, B2⟩ := fz3 Aa) | ((with_reducible refine gate_callee (f := 45) rfl ?_); refine glE (some 8) Try.func45 #[.agg #[.int .i64 Ad, .int .i64 Ae, .slice Ah Ab.length Ai]] ?_; (with_reducible refine (impl_IsChart.calls Ad Ae _ _ Ab false _ ?side1 ?side2 A4.out).mono ?_); (case side1 => exact Z62); (case side2 => exact Ak.out); rintro e Cu ⟨rfl, hb⟩; refine ⟨_, rfl, ?_⟩; replace Aa := bkB Aa hb; replace HB := hbS Z1 hb; (try clear hb)))
  go_ret
  exact ⟨Z10, Z1⟩
theorem begun_append {ops : Array Oper} {rest : List Oper} {o : Oper} {a : Act} {Q : Exit → Act → World → Prop} {w0 W : World} (hgd : o.guard = none) (s x : Operand)
  (ho : o.op = .call { callee := .builtin .append, args := #[s, x], argTypes := #[22, 22] }) (v : Value) (b : List Int) (p : Int) (ok : Nat → Prop) (hs : a.eval s = v) (N1 : Nat) (Aa : a.eval x = .slice (some ⟨N1, 0, none⟩) 1 1) (hN1 : N1 = W.heap.size)
  (hfresh : ∀ k, W.heap.size ≤ k → ok k) (HO : Kd.R (Kd.int .i64) 3 W w0.heap.size ok v b) (HB : Below w0.heap.size w0 W) (hl : b.length ≤ 1000)
  (h : ∀ v1 w1, Kd.R (Kd.int .i64) 3 w1 w0.heap.size ok v1 (b ++ [p]) → Below w0.heap.size w0 w1 → Kept W w1 (fun k => some k = v.ownBlock) →
   (∀ (S : Nat → Prop) (w3 : World), (∀ k, ok k → ¬ S k) → Kd.R (Kd.int .i64) 3 w3 w0.heap.size ok v1 (b ++ [p]) → Kept w1 w3 (fun k => S k ∨ some k = v1.ownBlock) → Kd.R (Kd.int .i64) 3 w3 w0.heap.size ok v b ∧ Kept W w3 (fun k => S k ∨ some k = v.ownBlock)) →
   wpList Try.prog ops Q rest (a.put o.dst v1) w1) :
  wpList Try.prog ops Q (o :: rest) a (W.alloc (.cells #[.int .i64 p] 3)) := by
 subst hN1; have hx := Aa; obtain ⟨i0, hi0, hz0, hsz0, hby0⟩ := info_parts info3; have HO' := Kd.R_alloc HO (.cells #[.int .i64 p] 3); have hB' : Below w0.heap.size w0 (W.alloc (.cells #[.int .i64 p] 3)) := below_alloc HB _
 have hwn : (W.alloc (.cells #[.int .i64 p] 3)).heap.size = W.heap.size + 1 := by simp
 have hown := Kd.own_of_R HO'; have hK0 : Kept W (W.alloc (.cells #[.int .i64 p] 3)) (fun k => some k = v.ownBlock) := Kept.alloc (Kept.refl W _) _
 have hen : encs (Value.int .i64) (b ++ [p]) = encs (Value.int .i64) b ++ [.int .i64 p] := by simp [encs]
 have hone : ∀ u ∈ [Value.int .i64 p], u.oneCell' = true := fun u hu => by rw [List.mem_singleton.1 hu]; rfl
 obtain ⟨A, c, rfl⟩ := Kd.R_slice HO
 by_cases hr : b.length + 1 ≤ c
 ·have hA : ∃ g, A = some ⟨g, 0, none⟩ := by
   rcases hown.2 with ⟨hv, _⟩ | ⟨g, cap, cur, hv, _⟩
   ·injection hv with _ _ h3
    omega
   ·injection hv with h1 _ _
    exact ⟨g, h1⟩
  obtain ⟨g, rfl⟩ := hA; refine wpList_append_own_spare (W.alloc (.cells #[.int .i64 p] 3)) hgd s x 22 ho w0.heap.size 3 i0 1 Try.underlying22 hi0 hsz0 g b.length c (encs (Value.int .i64) b) hs hown ⟨W.heap.size, 0, none⟩ 1 1 [.int .i64 p] hx rfl (cell_one_new _ _ _) hone hr ?_; intro w1 hown1 hg1; rw [← hen, show b.length + 1 = (b ++ [p]).length from by simp] at hown1; have hK1 : Kept W w1 (fun k => some k = (Value.slice (some (⟨g, 0, none⟩ : Addr)) b.length c).ownBlock) := Kept.of_grown hg1 hK0 (fun k hk => .inl hk.symm); refine h _ w1 ?_ (hB'.grown hg1 hB'.size (fun k hk => ?_)) hK1 ?_
  ·have := Kd.R_of_own (h1 := fun _ => rfl) (ok := ok) hown1 (fun k hk => HO.1 k hk)
   rw [show (b ++ [p]).length = b.length + 1 from by simp] at this
   exact this
  ·injection hk with hk
   subst hk
   exact Kd.R_base HO g rfl
  ·intro S w3 hS hR3 hK3
   refine ⟨?_, hK1.mono (fun k hk => .inr hk) |>.then_ hK3 (fun k hk => .inl hk)⟩; have := Kd.R_take hR3 (m := b.length) (by simp); rwa [List.take_left' rfl] at this
 ·have hnone : A = none → b.length = 0 ∧ c = 0 := fun hA => by
   subst hA
   rcases hown.2 with ⟨hv, _⟩ | ⟨g, cap, cur, hv, _⟩
   ·injection hv with _ h2 h3
    exact ⟨h2, h3⟩
   ·injection hv with h1 _ _
    cases h1
  refine wpList_append_grows (W.alloc (.cells #[.int .i64 p] 3)) hgd s x 22 ho 3 i0 (.int .i64 0) 1 8 Try.underlying22 hi0 hz0 hsz0 hby0 rfl (by decide) A b.length c (encs (Value.int .i64) b) hs hnone (by simp [encs]) (fun b' hb' j u hj => ?_) ⟨W.heap.size, 0, none⟩ 1 1 [.int .i64 p] hx rfl (cell_one_new _ _ _) hone (by omega) (Nat.le_trans (show b.length + 1 ≤ 1001 from by omega) (by decide)) (by omega) ?_
  ·subst hb'
   rcases hown.2 with ⟨hv, _⟩ | ⟨g, cap, cur, hv, _⟩
   ·cases hv
   ·have h1 := Option.some.inj (Value.slice.inj hv).1
    subst h1
    exact hown.cells (g := g) (by simp [Value.ownBlock]) j u hj
  ·intro v1 w1 hown1 hg1
   rw [← hen, show b.length + 1 = (b ++ [p]).length from by simp] at hown1; have hR1 : Kd.R (Kd.int .i64) 3 w1 (W.alloc (.cells #[.int .i64 p] 3)).heap.size (fun _ => True) v1 (b ++ [p]) := Kd.R_of_own (h1 := fun _ => rfl) hown1 (fun _ _ => trivial); have hbs := Kd.R_base hR1; have hR1' : Kd.R (Kd.int .i64) 3 w1 w0.heap.size ok v1 (b ++ [p]) := Kd.R_lower (Kd.R_of_own (h1 := fun _ => rfl) hown1 (fun k hk => hfresh k (by have := hbs k hk; omega))) hB'.size; have hK00 : Kept W (W.alloc (.cells #[.int .i64 p] 3)) (fun _ => False) := Kept.alloc (Kept.refl W _) _; have hsz1 := hg1.size
   have hall : ∀ k, k < W.heap.size → w1.heap[k]? = W.heap[k]? := fun k hk => (hg1.block k (by omega) (by simp)).trans (hK00.2 k hk (fun h => h))
   refine h v1 w1 hR1' (hB'.grown hg1 hB'.size (fun k hk => by cases hk)) ⟨by omega, fun k hk _ => hall k hk⟩ ?_; intro S w3 hS hR3 hK3; have hsz3 := hK3.1
   have hun : ∀ k, k < W.heap.size → ¬ S k → w3.heap[k]? = W.heap[k]? := fun k hk hn => (hK3.2 k (by omega) (fun h' => h'.elim hn (fun h2 => by have := hbs k h2.symm; omega))).trans (hall k hk)
   exact ⟨Kd.R_step HO (fun k ho hk => hun k hk (hS k ho)), ⟨by omega, fun k hk hn => hun k hk (fun h' => hn (.inl h'))⟩⟩
theorem getD_rng (l : List Int) (h : ∀ x ∈ l, 0 ≤ x ∧ x ≤ 1000000) (j : Nat) : 0 ≤ l.getD j 0 ∧ l.getD j 0 ≤ 1000000 := by
 rw [List.getD_eq_getElem?_getD]
 by_cases hj : j < l.length
 ·rw [List.getElem?_eq_getElem hj]
  exact h _ (List.getElem_mem hj)
 ·rw [List.getElem?_eq_none (by omega)]
  show (0 : Int) ≤ 0 ∧ (0 : Int) ≤ 1000000
  omega
def tryL (f : Nat → Option (List Int)) : Nat → Option (List Int)
 | 0 => none
 | n + 1 => match tryL f n with | some r => some r | none => f n
theorem tryL_none (f : Nat → Option (List Int)) (n : Nat) (h : tryL f n = none) (h2 : f n = none) : tryL f (n + 1) = none := by
 rw [tryL, h]
 exact h2
theorem tryL_hit (f : Nat → Option (List Int)) (m : Nat) (r : List Int) (h : tryL f m = none) (h2 : f m = some r) : ∀ n, m < n → tryL f n = some r := by
 intro n
 induction n with
 | zero => intro h; exact absurd h (by omega)
 | succ n ih =>
  intro hm
  by_cases c : m = n
  ·subst c
   rw [tryL, h]
   exact h2
  ·rw [tryL, ih (by omega)]
def asgF (sz l b : List Int) (rec : List Int → List Int → Option (List Int)) (i : Nat) : Option (List Int) := if l.getD i 0 < sz.getD b.length 0 then none else rec (l.set i (l.getD i 0 - sz.getD b.length 0)) (b ++ [(i : Int)])
def asg (sz : List Int) : Nat → List Int → List Int → Option (List Int)
 | 0, _, b => some b
 | n + 1, l, b => tryL (asgF sz l b (asg sz n)) l.length
theorem set_back (l : List Int) (i : Nat) (x : Int) (h : i < l.length) : (l.set i x).set i (l.getD i 0) = l := by
 rw [List.set_set, List.getD_eq_getElem?_getD, List.getElem?_eq_getElem h]
 exact List.set_getElem_self h
theorem assign_calls (sz : List Int) (A0 : Option Addr) (c0 : Nat) (g : Nat) (cb : Array Value) (lb cl : Nat) (G D : Nat → Prop) (N : Nat) (J : World → Prop) (Post : List Int → World → Prop) (w0 : World)
  (eg : ∀ args w, (callFunc g args).run Try.prog w = .ok (.enter g args) w)
  (hs0 : ∀ j, 0 ≤ sz.getD j 0 ∧ sz.getD j 0 ≤ 1000000) (hsl : sz.length ≤ 100)
  (hG : ∀ k, G k → k < N ∧ k ≠ lb) (hD : ∀ k, D k → G k) (hlb : lb < N) (hN : w0.heap.size ≤ N)
  (hC : ∀ W, N ≤ W.heap.size → J W → Kd.C (Kd.int .i64) W A0 sz.length sz)
  (hJ : ∀ W W', J W → (∀ k, G k → W'.heap[k]? = W.heap[k]?) → J W')
  (hP : ∀ r W i u, Post r W → Post r (W.setCell ⟨lb, i, none⟩ u))
  (hdo : ∀ W A c (r : List Int), Below w0.heap.size w0 W → N ≤ W.heap.size → J W → r.length = sz.length → r.length ≤ c → Kd.C (Kd.int .i64) W A r.length r → Calls Try.prog g (#[.slice A r.length c] ++ cb) W fun e w' => e = .returned (.bool false) ∧ Below w0.heap.size w0 w' ∧ Kept W w' D ∧ Post r w') :
  ∀ (n : Nat) (l : List Int) (vb : Value) (b : List Int) (w : World), b.length + n = sz.length → (∀ j, 0 ≤ l.getD j 0 ∧ l.getD j 0 ≤ 1000000) → l.length ≤ 100 → Below w0.heap.size w0 w → N ≤ w.heap.size →
   Kd.R (Kd.int .i64) 3 w w0.heap.size (fun k => k = lb) (.slice (some ⟨lb, 0, none⟩) l.length cl) l → Kd.R (Kd.int .i64) 3 w w0.heap.size (fun k => k ≠ lb ∧ ¬ G k) vb b → J w →
   Calls Try.prog 62 #[.slice A0 sz.length c0, (.slice (some ⟨lb, 0, none⟩) l.length cl), vb, .func (.func g) #[] cb] w fun e w' => e = .returned (.bool (asg sz n l b).isNone) ∧ Below w0.heap.size w0 w' ∧ Kd.R (Kd.int .i64) 3 w' w0.heap.size (fun k => k = lb) (.slice (some ⟨lb, 0, none⟩) l.length cl) l ∧ Kd.R (Kd.int .i64) 3 w' w0.heap.size (fun k => k ≠ lb ∧ ¬ G k) vb b ∧ Kept w w' (fun k => (k = lb ∨ D k) ∨ some k = vb.ownBlock) ∧ (∀ r, asg sz n l b = some r → Post r w') ∧ (asg sz n l b = none → J w') := by
 intro n
 induction n with
 | zero =>
  intro l vb b w hn Ac hl hB hNw hL hb hj; have n0 : ((b.length : Int) == (sz.length : Int)) = true := beq_iff_eq.2 (by omega); have n2 : (b.length == sz.length) = true := beq_iff_eq.2 (by omega); obtain ⟨A, c, rfl⟩ := Kd.R_slice hb; have HD := aM (hdo w A c b hB hNw hj (by omega) (Kd.R_reads' hb).2.1 (Kd.R_reads' hb).2.2); have HL := Aside0.mk hL; have HB := Aside0.mk hb; have HGG := Aside0.mk hG; have HDD := Aside0.mk hD; clear hdo hC hJ hP hb hL hB hj hs0 hn Ac
  go_enter Try.func62, Try.ntmps62
  go_wp2_with fail
  refine HD.out.mono ?_; rintro e w1 ⟨rfl, hb1, hk1, hp1⟩; have H1 := Aside0.mk hb1; have H2 := Aside0.mk hk1; have H3 := Aside0.mk hp1; clear hb1 hk1 hp1
  go_wp2
  go_ret
  exact ⟨by first | rfl | (simp [asg]; done), H1.out, Kd.R_kept HL.out H2.out (fun k hk hg => (HGG.out k (HDD.out k hg)).2 hk), Kd.R_kept HB.out H2.out (fun k hk hg => hk.2 (HDD.out k hg)), H2.out.mono (fun k hk => .inl (.inr hk)), fun r hr => by have := Option.some.inj hr; subst this; exact H3.out, fun hr => by cases hr⟩
 | succ n ih =>
  intro l vb b w hn Ac hl hB hNw hL hb hj; have n0 : ((b.length : Int) == (sz.length : Int)) = false := beq_eq_false_iff_ne.2 (by omega); have n2 : (b.length == sz.length) = false := beq_eq_false_iff_ne.2 (by omega); obtain ⟨ad, e0, Aa⟩ := Kd.at_int (hC w hNw hj) (b.length : Int) (by omega) (by omega); subst e0; rw [Int.toNat_natCast] at Aa; obtain ⟨s, hs⟩ : ∃ s, s = sz.getD b.length 0 := ⟨_, rfl⟩; have ers : rd sz (b.length : Int) = s := hs.symm; rw [ers] at Aa; have hs1 := hs0 b.length; rw [← hs] at hs1; obtain ⟨A, c, rfl⟩ := Kd.R_slice hb
  have q0 : b.length < sz.length := by omega
  have q1 := eq_true (show ((b.length : Int)) < (sz.length : Int) from by omega); have HS := Aside0.mk hs; have HS1 := Aside0.mk hs1; have HN := aM (And.intro hn (And.intro hl (And.intro hNw (And.intro hsl (And.intro hlb hN))))); have HL0 := Aside0.mk Ac; have HIH := Aside0.mk ih; have HGG := Aside0.mk hG; have HDD := Aside0.mk hD; have HJJ := Aside0.mk hJ; have HPP := Aside0.mk hP; have HBW := Aside0.mk hB; have HL := Aside0.mk hL; have HB := Aside0.mk hb; have HJ := Aside0.mk hj; clear hdo hC hJ hP hb hL hB hj eg hs0 hn Ac ih hG hs hs1 ers hlb hN hNw hl hsl
  go_enter Try.func62, Try.ntmps62
  go_wp2
  clear Aa q0 q1 n0 n2
  go_loopg [27] l.length (fun gg Ae wr => ∃ x : Int, Ae = .int .i64 x ∧ Aside0 (0 ≤ x ∧ x ≤ (l.length : Int) ∧ (l.length : Int) - x ≤ gg) ∧ Aside0 (tryL (asgF sz l b (asg sz n)) x.toNat = none) ∧ Aside0 (Below w0.heap.size w0 wr) ∧ Aside0 (Kd.R (Kd.int .i64) 3 wr w0.heap.size (fun k => k = lb) (.slice (some ⟨lb, 0, none⟩) l.length cl) l) ∧ Aside0 (Kd.R (Kd.int .i64) 3 wr w0.heap.size (fun k => k ≠ lb ∧ ¬ G k) (.slice A b.length c) b) ∧ Aside0 (J wr) ∧ Aside0 (Kept w wr (fun k => (k = lb ∨ D k) ∨ some k = (Value.slice A b.length c).ownBlock)))
  case atStart => exact ⟨0, rfl, ⟨by omega, by omega, by omega⟩, ⟨rfl⟩, HBW, HL, HB, HJ, ⟨Kept.refl _ _⟩⟩
  case round =>
   clear HBW HL HB HJ; obtain ⟨x, rfl, HX, HT, HBW, HL, HB, HJ, HK⟩ := hrel
   by_cases hlt : x < (l.length : Int)
   ·have d0 : decide (x < (l.length : Int)) = true := decide_eq_true hlt
    have Aa := HX.out.1; obtain ⟨c1, f1⟩ := Kd.R_celln 0 HL.out x Aa hlt; obtain ⟨L, hL⟩ : ∃ L, L = l.getD x.toNat 0 := ⟨_, rfl⟩; have eL : rdOf (0 : Int) l x = L := hL.symm; rw [eL] at c1; have hL1 := HL0.out x.toNat; rw [← hL] at hL1; have q0 := eq_true Aa; have q1 := eq_true hlt
    have w1x : wrap64 (x + 1) = x + 1 := by have := HN.out; unfold wrap64; omega
    have HLT := Aside0.mk hlt; have HLL := Aside0.mk hL; have HL1 := Aside0.mk hL1; clear hlt Aa hL hL1 eL
    by_cases hls : L < s
    ·have d1 : decide (L < s) = true := decide_eq_true hls
     have HLS := Aside0.mk hls; clear hls
     go_wp2
     go_roundg (l.length - (x.toNat + 1))
     case measure => have := HX.out; have := HLT.out; omega
     case rel =>
      refine ⟨x + 1, by first | rfl | rw [w1x] | simp [w1x], ⟨Z196, by have := HLT.out; omega, Z183⟩, ⟨?_⟩, HBW, HL, HB, HJ, HK⟩; rw [show (x + 1).toNat = x.toNat + 1 from Z196]; refine tryL_none _ _ HT.out ?_
      unfold asgF
      rw [← HLL.out, ← HS.out, if_pos HLS.out]
    ·have d1 : decide (L < s) = false := decide_eq_false hls
     have HLS := Aside0.mk hls
     have wm : wrap64 (L - s) = L - s := by have := HL1.out; have := HS1.out; unfold wrap64; omega
     have wl : wrap64 L = L := by have := HL1.out; unfold wrap64; omega
     have wb : wrap64 (L - s + s) = L := by have := HL1.out; have := HS1.out; unfold wrap64; omega
     have HRP := aM (Kd.R_putn HL.out x (L - s))
     have ex : ((x.toNat : Nat) : Int) = x := by have := HX.out; omega
     have EX := Aside0.mk ex; have HFX : Aside0 (asgF sz l b (asg sz n) x.toNat = asg sz n (l.set x.toNat (L - s)) (b ++ [x])) := ⟨by unfold asgF; rw [← HLL.out, ← HS.out, if_neg hls, ex]⟩
     have own_ne : ∀ k, some k = (Value.slice A b.length c).ownBlock → k ≠ lb ∧ ¬ G k := fun k hk => HB.out.1 k hk.symm
     have HOW := Aside0.mk own_ne
     have hwb0 : Below w0.heap.size w0 (wr.setCell ⟨lb, x.toNat, none⟩ (.int .i64 (L - s))) := below_set HBW.out (by
      exact Kd.R_base HL.out lb rfl)
     have HWB0 := Aside0.mk hwb0; have hbs : Kd.R (Kd.int .i64) 3 (wr.setCell ⟨lb, x.toNat, none⟩ (.int .i64 (L - s))) w0.heap.size (fun k => k ≠ lb ∧ ¬ G k) (.slice A b.length c) b := Kd.R_far HB.out (p := ⟨lb, x.toNat, none⟩) (fun k hk => hk.1) _; have HBS := Aside0.mk hbs; have HNS : Aside0 (N ≤ (wr.setCell ⟨lb, x.toNat, none⟩ (.int .i64 (L - s))).heap.size) := ⟨by have h1 := HK.out.1; have h2 := HN.out; simp [World.setCell]; omega⟩; have HKS : Aside0 (Kept w (wr.setCell ⟨lb, x.toNat, none⟩ (.int .i64 (L - s))) (fun k => (k = lb ∨ D k) ∨ some k = (Value.slice A b.length c).ownBlock)) := ⟨Kept.setCell HK.out (p := ⟨lb, x.toNat, none⟩) (.inl (.inl (.inl rfl))) _⟩; have HJS : Aside0 (J (wr.setCell ⟨lb, x.toNat, none⟩ (.int .i64 (L - s)))) := ⟨HJJ.out _ _ HJ.out (fun k hk => Below.heap_setCell wr ⟨lb, x.toNat, none⟩ _ k (HGG.out k hk).2)⟩; have HBL : Aside0 (b.length ≤ 1000) := ⟨Z199⟩; have HSZ : Aside0 (wr.heap.size = (wr.setCell ⟨lb, x.toNat, none⟩ (.int .i64 (L - s))).heap.size) := ⟨by simp [World.setCell]⟩; have HFR : Aside0 (∀ k, (wr.setCell ⟨lb, x.toNat, none⟩ (.int .i64 (L - s))).heap.size ≤ k → k ≠ lb ∧ ¬ G k) := ⟨fun k hk => ⟨by have := HNS.out; have := HN.out; omega, fun hg => by have := HNS.out; have := (HGG.out k hg).1; omega⟩⟩; clear hls ex own_ne hwb0 hbs
     go_wp2_with (first | ((with_reducible refine gate_builtin (b := .append) (xs := #[.tmp 45, .tmp 47]) rfl ?_); at_builtin; refine begun_append (w0 := w0) rfl (.tmp 45) (.tmp 47) rfl (.slice A b.length c) b x (fun k => k ≠ lb ∧ ¬ G k) rfl wr.heap.size rfl HSZ.out HFR.out HBS.out HWB0.out HBL.out ?_; intro v1 w1 Ad hb1 hk1 hback; have R1 := Aside0.mk Ad; have B1 := Aside0.mk hb1; have K1 := Aside0.mk hk1; have BACK := Aside0.mk hback; clear Ad hb1 hk1 hback))
     have HL1R : Aside0 (Kd.R (Kd.int .i64) 3 w1 w0.heap.size (fun k => k = lb) (.slice (some ⟨lb, 0, none⟩) (l.set x.toNat (L - s)).length cl) (l.set x.toNat (L - s))) := ⟨by
      rw [List.length_set]
      exact Kd.R_kept HRP.out K1.out (fun k hk h2 => (HOW.out k h2).1 hk)⟩
     have HN1 : Aside0 (N ≤ w1.heap.size) := ⟨Nat.le_trans HNS.out K1.out.1⟩; have HJ1 : Aside0 (J w1) := ⟨HJJ.out _ _ HJS.out (fun k hk => K1.out.2 k (Nat.lt_of_lt_of_le (HGG.out k hk).1 HNS.out) (fun h2 => (HOW.out k h2).2 hk))⟩
     have HI := HIH.out (l.set x.toNat (L - s)) v1 (b ++ [x]) w1 (by have := HN.out.1; rw [List.length_append, List.length_singleton]; omega) (fun j => by
      have h1 := HL0.out j; have h2 := HL1.out; have h3 := HS1.out; have h4 := HLS.out; rw [List.getD_eq_getElem?_getD, List.getElem?_set]
      split
      ·split
       ·show 0 ≤ L - s ∧ L - s ≤ 1000000
        omega
       ·show (0 : Int) ≤ 0 ∧ (0 : Int) ≤ 1000000
        omega
      ·rw [← List.getD_eq_getElem?_getD]
       exact h1) (by rw [List.length_set]; exact HN.out.2.1) B1.out HN1.out HL1R.out R1.out HJ1.out
     rw [List.length_set] at HI; cases hq : asg sz n (l.set x.toNat (L - s)) (b ++ [x]) with
     | none =>
      rw [hq] at HI; have HII := Aside0.mk HI; have HQ := Aside0.mk hq; clear HI hq; refine HII.out.mono ?_; rintro e w3 ⟨rfl, h1, h2, h3, h4, _, h6⟩; have B3 := Aside0.mk h1; have L3 := Aside0.mk h2; obtain ⟨h7, h8⟩ := BACK.out (fun k => k = lb ∨ D k) w3 (fun k hk h => h.elim hk.1 (fun h' => hk.2 (HDD.out k h'))) h3 h4; have R3 := Aside0.mk h7; have K3 := aM (HKS.out.then_ h8 (fun k hk => .inl hk)); have J3 := aM (h6 rfl)
      have hlt : x < ((l.set x.toNat (L - s)).length : Int) := by rw [List.length_set]; exact HLT.out
      have h2' := h2; rw [show l.length = (l.set x.toNat (L - s)).length from (List.length_set ..).symm] at h2'; obtain ⟨c3, f3⟩ := Kd.R_celln 0 h2' x HX.out.1 hlt
      have eL3 : rdOf (0 : Int) (l.set x.toNat (L - s)) x = L - s := by
       show (l.set x.toNat (L - s)).getD x.toNat 0 = _
       rw [List.getD_eq_getElem?_getD, List.getElem?_set_self Z183]
       rfl
      rw [eL3] at c3; have Ab := Kd.R_putn h2' x L; have h5 := set_back l x.toNat (L - s) Z183; rw [← HLL.out] at h5; rw [h5, List.length_set] at Ab; have L4 := Aside0.mk Ab; clear h1 h2 h2' h3 h4 h5 h6 h7 h8 hlt eL3 Ab
      go_wp2
      go_roundg (l.length - (x.toNat + 1))
      case measure => have := HX.out; have := HLT.out; omega
      case rel =>
       refine ⟨x + 1, by first | rfl | rw [w1x] | simp [w1x], ⟨Z196, by have := HLT.out; omega, Z183⟩, ⟨?_⟩, ⟨below_set B3.out (Kd.R_base L3.out lb rfl)⟩, L4, ⟨Kd.R_far R3.out (p := ⟨lb, x.toNat, none⟩) (fun k hk => hk.1) _⟩, ⟨HJJ.out _ _ J3.out (fun k hk => Below.heap_setCell w3 ⟨lb, x.toNat, none⟩ _ k (HGG.out k hk).2)⟩, ⟨Kept.setCell K3.out (p := ⟨lb, x.toNat, none⟩) (.inl (.inl (.inl rfl))) _⟩⟩; rw [show (x + 1).toNat = x.toNat + 1 from Z196]
       exact tryL_none _ _ HT.out (HFX.out.trans HQ.out)
     | some r =>
      rw [hq] at HI; have HII := Aside0.mk HI; have HQ := Aside0.mk hq; clear HI hq; refine HII.out.mono ?_; rintro e w3 ⟨rfl, h1, h2, h3, h4, h6, _⟩; have B3 := Aside0.mk h1; have L3 := Aside0.mk h2; obtain ⟨h7, h8⟩ := BACK.out (fun k => k = lb ∨ D k) w3 (fun k hk h => h.elim hk.1 (fun h' => hk.2 (HDD.out k h'))) h3 h4; have R3 := Aside0.mk h7; have K3 := aM (HKS.out.then_ h8 (fun k hk => .inl hk)); have P3 := aM (h6 r rfl)
      have hlt : x < ((l.set x.toNat (L - s)).length : Int) := by rw [List.length_set]; exact HLT.out
      have h2' := h2; rw [show l.length = (l.set x.toNat (L - s)).length from (List.length_set ..).symm] at h2'; obtain ⟨c3, f3⟩ := Kd.R_celln 0 h2' x HX.out.1 hlt
      have eL3 : rdOf (0 : Int) (l.set x.toNat (L - s)) x = L - s := by
       show (l.set x.toNat (L - s)).getD x.toNat 0 = _
       rw [List.getD_eq_getElem?_getD, List.getElem?_set_self Z183]
       rfl
      rw [eL3] at c3; have Ab := Kd.R_putn h2' x L; have h5 := set_back l x.toNat (L - s) Z183; rw [← HLL.out] at h5; rw [h5, List.length_set] at Ab; have L4 := Aside0.mk Ab; clear h1 h2 h2' h3 h4 h5 h6 h7 h8 hlt eL3 Ab; have HHIT : Aside0 (asg sz (n + 1) l b = some r) := ⟨tryL_hit _ x.toNat r HT.out (HFX.out.trans HQ.out) l.length Z183⟩
      go_wp2
      go_ret
      exact ⟨by rw [HHIT.out]; first | rfl | (simp; done), below_set B3.out (Kd.R_base L3.out lb rfl), L4.out, Kd.R_far R3.out (p := ⟨lb, x.toNat, none⟩) (fun k hk => hk.1) _, Kept.setCell K3.out (p := ⟨lb, x.toNat, none⟩) (.inl (.inl (.inl rfl))) _, (fun r' hr' => by
       rw [HHIT.out] at hr'; obtain rfl := Option.some.inj hr'
       exact HPP.out _ _ _ _ P3.out), (fun hn => by rw [HHIT.out] at hn; cases hn)⟩
   ·have d0 : decide (x < (l.length : Int)) = false := decide_eq_false hlt
    have HNO : Aside0 (asg sz (n + 1) l b = none) := ⟨by
     have h1 := HT.out; rw [show x.toNat = l.length from Z196] at h1
     exact h1⟩
    clear hlt
    go_wp2
    go_ret
    exact ⟨by rw [HNO.out]; first | rfl | (simp; done), HBW.out, HL.out, HB.out, HK.out, (fun r hr => by rw [HNO.out] at hr; cases hr), fun _ => HJ.out⟩
def assign_few.f (l0 l1 : List Int) : Option (Bool × List Int) := if (1 ≤ l1.length ∧ l1.length ≤ 100 ∧ l0.length ≤ 100) ∧ (∀ x ∈ l0, 0 ≤ x ∧ x ≤ 1000000) ∧ (∀ x ∈ l1, 0 ≤ x ∧ x ≤ 1000000) then some ((asg l0 l0.length l1 []).isNone, l1) else none
theorem assign_few.calls (A0 : Option Addr) (c0 : Nat) (l0 : List Int) (P0_ : Nat → Prop) (u9000_ : Value) (l1 : List Int) (r1 : Bool) (r2 : List Int) (w0 w : World) (hB : Below w0.heap.size w0 w) (Ab : ∀ W', Kept w W' (fun k_ => P0_ k_) → Kd.C (Kd.int .i64) W' A0 l0.length l0) (Ac : l0.length ≤ c0) (Aa : Kd.R (Kd.int .i64) 3 w w0.heap.size P0_ u9000_ l1) (h : assign_few.f l0 l1 = some (r1, r2)) :
  Calls Try.prog 62 #[.slice A0 l0.length c0, u9000_, .slice none 0 0, .func (.func 63) #[] #[]] w fun e w' => e = .returned (.bool r1) ∧ Kd.R (Kd.int .i64) 3 w' w0.heap.size P0_ u9000_ r2 ∧ Below w0.heap.size w0 w' ∧ Kept w w' (fun k_ => P0_ k_) := by
 unfold assign_few.f at h
 split at h
 case isFalse => cases h
 case isTrue hg =>
  obtain ⟨⟨g1, g2, g3⟩, g4, g5⟩ := hg; obtain ⟨rfl, rfl⟩ := Prod.mk.inj (Option.some.inj h); obtain ⟨A, c, rfl⟩ := Kd.R_slice Aa
  have hA : ∃ lb, A = some ⟨lb, 0, none⟩ := by
   rcases (Kd.own_of_R Aa).2 with ⟨hv, _⟩ | ⟨g, cap, cur, hv, _⟩
   ·injection hv with _ h2 _
    omega
   ·injection hv with h1 _ _
    exact ⟨g, h1⟩
  obtain ⟨lb, rfl⟩ := hA; have hlb0 : P0_ lb := Aa.1 lb rfl; have hlbw : lb < w.heap.size := own_lt (Kd.own_of_R Aa) lb rfl
  refine (assign_calls l0 A0 c0 63 #[] lb c (fun k => k < w.heap.size ∧ k ≠ lb) (fun _ => False) w.heap.size (fun W => ∀ k, k < w.heap.size → k ≠ lb → W.heap[k]? = w.heap[k]?) (fun _ _ => True) w0 (enters_of Try.func63 Z61 rfl) (getD_rng l0 g4) g3 (fun k hk => hk) (fun _ hk => hk.elim) hlbw hB.size
   (fun W hN hJ => Ab W ⟨hN, fun k hk hn => hJ k hk (fun e => hn (e ▸ hlb0))⟩) (fun W W' hJ hk k h1 h2 => (hk k ⟨h1, h2⟩).trans (hJ k h1 h2)) (fun _ _ _ _ _ => trivial) (fun W A' c' r hb _ _ _ _ _ => ?_) l0.length l1 (.slice none 0 0) [] w (Nat.zero_add _) (getD_rng l1 g5) g2 hB (Nat.le_refl _) (Kd.R_mono (Kd.R_tight rfl Aa) (fun k hk => by injection hk)) (Kd.R_nil _ _ _ _ _) (fun _ _ _ => rfl)).mono ?_
  ·have HB := Aside0.mk hb
   rw [Array.append_empty]; clear hb Aa Ab hB h
   go_enter Try.func63, Try.ntmps63
   go_wp2
   go_ret
   exact ⟨rfl, HB.out, Kept.refl _ _, trivial⟩
  ·rintro e w' ⟨rfl, hb, hl, _, hk, _, _⟩
   exact ⟨rfl, Kd.R_mono hl (fun k hk => hk ▸ hlb0), hb, hk.mono (fun k hk => by
    rcases hk with (hk | hk) | hk
    ·exact hk ▸ hlb0
    ·exact hk.elim
    ·cases hk)⟩
mutual
def impl_FewestLots.l0 : Nat → List Int → List Int → Int → Int → Int → Option (Int × Bool)
 | 0, _, _, _, _, _ => none
 | k + 1, x2, x8, x9, x28, x29 => if x29 < x28 then (if 0 ≤ (x2.length : Int) then (if ((x2.length : Int) : Int).toNat ≤ 35184372088832 then (impl_FewestLots.l1 k x2 x8 x9 x29 (List.replicate ((x2.length : Int) : Int).toNat 0) 0 x28 x29 x2 (x2.length : Int) 0) else (none)) else (none)) else (if x9 > (x2.length : Int) then (some (0, false)) else (some (x9, true)))
def impl_FewestLots.l1 : Nat → List Int → List Int → Int → Int → List Int → Int → Int → Int → List Int → Int → Int → Option (Int × Bool)
 | 0, _, _, _, _, _, _, _, _, _, _, _ => none
 | k + 1, x2, x8, x9, x10, x11, x12, x28, x29, x35, x36, x37 => if x37 < x36 then (if 0 ≤ x37 then (if x37 < (x35.length : Int) then (if (Go.bits .and .i64 (shr .i64 x10 x37) 1) = 1 then (if x37 < (x11.length : Int) then (impl_FewestLots.l1 k x2 x8 x9 x10 (x11.set (x37 : Int).toNat (rd x35 x37)) (wrap64 (x12 + 1)) x28 x29 x35 x36 (wrap64 (x37 + 1))) else (none)) else (impl_FewestLots.l1 k x2 x8 x9 x10 x11 x12 x28 x29 x35 x36 (wrap64 (x37 + 1)))) else (none)) else (none)) else (if x12 < x9 then ((assign_few.f x8 x11).bind fun bt391 => (if bt391.1 = true then (impl_FewestLots.l0 k x2 x8 x9 x28 (wrap64 (x29 + 1))) else (impl_FewestLots.l0 k x2 x8 x12 x28 (wrap64 (x29 + 1))))) else (impl_FewestLots.l0 k x2 x8 x9 x28 (wrap64 (x29 + 1))))
end
def impl_FewestLots.f (k : Nat) (a0_0 : Int) (a0_1 : Int) (l0_2 : List Int) (a1 : Int) (l2 : List Int) : Option (Int × Bool) := (impl_hasFewAreas.f k a0_0 a0_1 l0_2 a1 l2).bind fun t382 => (if t382 = true then ((impl_Chart_sizesOf.f k a0_0 a0_1 l0_2 a1).bind fun t383 => (impl_FewestLots.l0 k l2 t383 (wrap64 ((l2.length : Int) + 1)) (shl .i64 1 (l2.length : Int)) 0)) else (some (0, false)))
theorem impl_FewestLots.calls (k : Nat) (Am : Int) (An : Int) (Ao : Option Addr) (Ap : Nat) (Ai : List Int) (a1 : Int) (A2 : Option Addr) (c2 : Nat) (l2 : List Int) (r1 : Int) (r2 : Bool) (w : World) (Bs : Kd.C (Kd.int .i64) w Ao Ai.length Ai) (Bt : Ai.length ≤ Ap) (Dd : Kd.C (Kd.int .i64) w A2 l2.length l2) (De : l2.length ≤ c2) (h : impl_FewestLots.f k Am An Ai a1 l2 = some (r1, r2)) :
  Calls Try.prog 31 #[.agg #[.int .i64 Am, .int .i64 An, .slice Ao Ai.length Ap], .int .i64 a1, .slice A2 l2.length c2] w fun e w' => e = .returned (.tuple #[.int .i64 r1, .bool r2]) ∧ Below w.heap.size w w' := by
 have hu28 := Try.underlying28; have Bh := Aside0.mk Bs; have Bi := Aside0.mk Bt; clear Bs Bt; have Cr := Aside0.mk Dd; have Df := Aside0.mk De; clear Dd De; have HB := aM (Below.refl w.heap.size w); have H : ((impl_hasFewAreas.f k Am An Ai a1 l2).bind fun Bq => (if Bq = true then ((impl_Chart_sizesOf.f k Am An Ai a1).bind fun Aq => (impl_FewestLots.l0 k l2 Aq (wrap64 ((l2.length : Int) + 1)) (shl .i64 1 (l2.length : Int)) 0)) else (some (0, false)))) = some (r1, r2) := h; clear h; replace H := Option.bind_eq_some_iff.mp H; obtain ⟨Bq, Dg, H⟩ := H; replace H : (if Bq = true then ((impl_Chart_sizesOf.f k Am An Ai a1).bind fun Aq => (impl_FewestLots.l0 k l2 Aq (wrap64 ((l2.length : Int) + 1)) (shl .i64 1 (l2.length : Int)) 0)) else (some (0, false))) = some (r1, r2) := H; have A4 := Aside0.mk Dg; clear Dg
 by_cases c5 : Bq = true
 ·subst c5
  have H1 : ((impl_Chart_sizesOf.f k Am An Ai a1).bind fun Aq => (impl_FewestLots.l0 k l2 Aq (wrap64 ((l2.length : Int) + 1)) (shl .i64 1 (l2.length : Int)) 0)) = some (r1, r2) := by rw [if_pos rfl] at H; exact H
  clear H; have H := H1; clear H1; replace H := Option.bind_eq_some_iff.mp H; obtain ⟨Aq, Dh, H⟩ := H; replace H : (impl_FewestLots.l0 k l2 Aq (wrap64 ((l2.length : Int) + 1)) (shl .i64 1 (l2.length : Int)) 0) = some (r1, r2) := H; have A6 := Aside0.mk Dh; clear Dh; obtain ⟨ji7, hji7⟩ : ∃ j_ : Int, (shl .i64 1 (l2.length : Int)) = j_ := ⟨_, rfl⟩
  replace H : (impl_FewestLots.l0 k l2 Aq (wrap64 ((l2.length : Int) + 1)) ji7 0) = some (r1, r2) := by first | (rw [hji7] at H; exact H) | (simp only [hji7] at H ⊢; exact H)
  (try rw [hji7] at A4)
  (try rw [hji7] at A6)
  have hji7_ : (IntKind.i64.wrap (1 * 2 ^ min (l2.length : Int).toNat 64)) = ji7 := hji7; have hji7z : (l2.length : Int) ≤ 64 → (IntKind.i64.wrap (1 * 2 ^ (l2.length : Int).toNat)) = ji7 := shl_small hji7; have hji7p : (IntKind.i64.wrap (1 * 2 ^ min l2.length 64)) = ji7 := hji7_; have hji7q : (l2.length : Int) ≤ 64 → (IntKind.i64.wrap (1 * 2 ^ l2.length)) = ji7 := hji7z
  have hji7r : (IntKind.i64.wrap (2 ^ min l2.length 64)) = ji7 := by have h_ := hji7p; rw [Int.one_mul] at h_; exact h_
  have hji7s : (l2.length : Int) ≤ 64 → (IntKind.i64.wrap (2 ^ l2.length)) = ji7 := fun hle_ => by have h_ := hji7q hle_; rw [Int.one_mul] at h_; exact h_
  have hji7u : (IntKind.i64.wrap (2 ^ min (l2.length : Int).toNat 64)) = ji7 := by have h_ := hji7_; rw [Int.one_mul] at h_; exact h_
  have hji7v : (l2.length : Int) ≤ 64 → (IntKind.i64.wrap (2 ^ (l2.length : Int).toNat)) = ji7 := fun hle_ => by have h_ := hji7z hle_; rw [Int.one_mul] at h_; exact h_
  have hji7y : (wrap64 (1 * 2 ^ min (l2.length : Int).toNat 64)) = ji7 := (i64_w _).symm.trans hji7_
  have hji7x : (l2.length : Int) ≤ 64 → (wrap64 (1 * 2 ^ (l2.length : Int).toNat)) = ji7 := fun h_ => (i64_w _).symm.trans (hji7z h_)
  have H' := Aside0.mk H; clear H
  go_enter Try.func31, Try.ntmps31
  go_wp2_with (first | ((with_reducible refine gate_dst (N := 3) rfl ?_); refine bxE 3 #[.int .i64 Am, .int .i64 An, .slice Ao Ai.length Ap] 28 ?_; intro Ay hg w8 hbox hb; have Ab := aM (hbox); have Cf := gwS hg Z0; have Ae := gwS hg Z0; replace HB := hbS Z0 hb; clear hb hbox hg; obtain ⟨Bj, Bk, Bl⟩ := bz3 Ab; obtain ⟨Bm, Bn, Bo⟩ := fz3 Ab) | ((with_reducible refine gate_callee (f := 61) rfl ?_); refine glE (some 18) Try.func61 #[.agg #[.int .i64 Am, .int .i64 An, .slice Ao Ai.length Ap], .int .i64 a1, .slice A2 l2.length c2] ?_; (with_reducible refine (impl_hasFewAreas.calls k Am An _ _ Ai a1 _ _ l2 true _ ?side1 ?side2 ?side3 ?side4 A4.out).mono ?_); (case side1 => exact Z122); (case side2 => exact Bi.out); (case side3 => exact Z144); (case side4 => exact Df.out); rintro e Dt ⟨rfl, hb⟩; refine ⟨_, rfl, ?_⟩; replace Ab := bkB Ab hb; replace HB := hbS Z9 hb; (try clear hb); obtain ⟨Az, Ba, Bb⟩ := bz3 Ab; obtain ⟨Bc, Bd, Bf⟩ := fz3 Ab) | ((with_reducible refine gate_callee (f := 54) rfl ?_); refine glE (some 22) Try.func54 #[.agg #[.int .i64 Am, .int .i64 An, .slice Ao Ai.length Ap], .int .i64 a1] ?_; (with_reducible refine (impl_Chart_sizesOf.calls k Am An _ _ Ai a1 Aq _ ?side1 ?side2 A6.out).mono ?_); (case side1 => exact Z122); (case side2 => exact Bi.out); rintro e Du ⟨Br, rfl, Di, hb⟩; refine ⟨_, rfl, ?_⟩; have Cg := aM (Kd.R_lower Di (below_size Z9)); replace Ab := bkB Ab hb; replace HB := hbS Z9 hb; (try clear hb); (try clear Di)))
  go_loopg [9, 29] k (fun kq v9 Dk w' => ∃ (Ak : List Int) (Al : Int) (Ac : Int), v9 = .int .i64 Al ∧ Dk = .int .i64 Ac ∧ Aside0 (impl_FewestLots.l0 kq l2 Ak Al ji7 Ac = some (r1, r2)) ∧ Aside0 (kq ≤ k) ∧ Aside0 (Kd.R (Kd.int .i64) 3 w' w.heap.size (fun _ => True) Br Ak) ∧ Aside0 (w'.heap[Ay]? = some (.cells #[.int .i64 Am, .int .i64 An, (.slice Ao Ai.length Ap)] 28 (0, 0))) ∧ Aside0 (Below w.heap.size w w'))
  case atStart => exact ⟨(Aq), (wrap64 ((l2.length : Int) + 1)), (0), Z14, Z14, H', ⟨Nat.le_refl _⟩, ⟨by (with_reducible repeat (first | apply Kd.R_alloc | apply Kd.R_drewN | apply Kd.R_drew)); exact Cg.out⟩, ⟨Z12⟩, ⟨Z9⟩⟩
  case round =>
   clear H'; (try clear c2); (try clear p2); (try clear c3); (try clear c5); (try clear c6); (try clear p6); (try clear Az); (try clear Ba); (try clear Bb); (try clear Bj); (try clear Bk); (try clear Bl); (try clear Bc); (try clear Bd); (try clear Bf); (try clear Bm); (try clear Bn); (try clear Bo); obtain ⟨Ak, Al, Ac, rfl, rfl, HA, HK1, Ag, Ab, HB⟩ := hrel; cases gk with
   | zero => exact absurd HA.out (by simp [impl_FewestLots.l0])
   | succ k1 =>
    have H := HA.out; clear HA
    simp only [impl_FewestLots.l0] at H
    by_cases Bv : Ac < ji7
    ·rw [if_pos Bv] at H
     have c13b0 : decide (Ac < ji7) = true := decide_eq_true Bv; clear Bv
     by_cases Ca : 0 ≤ (l2.length : Int)
     ·rw [if_pos Ca] at H
      have c14b0 := eq_true Ca; have c14b1 : decide (0 ≤ (l2.length : Int)) = true := decide_eq_true Ca; clear Ca
      by_cases Cb : ((l2.length : Int) : Int).toNat ≤ 35184372088832
      ·rw [if_pos Cb] at H
       have c15b0 := eq_true Cb; have c15b1 : decide (((l2.length : Int) : Int).toNat ≤ 35184372088832) = true := decide_eq_true Cb; clear Cb; obtain ⟨Ch, Ar⟩ : ∃ y_ : List Int, y_ = (List.replicate ((l2.length : Int) : Int).toNat 0) := ⟨_, rfl⟩
       replace H : (impl_FewestLots.l1 k1 l2 Ak Al Ac Ch 0 ji7 Ac l2 (l2.length : Int) 0) = some (r1, r2) := by first | (rw [Ar]; with_reducible exact H) | (have H2_ := (Option.bind_some _ _).symm.trans H; rw [Ar]; with_reducible exact H2_) | (have H2_ := (Option.bind_some _ _).symm.trans H; with_reducible exact H2_) | with_reducible exact H | (rw [Ar]; exact H) | exact H
       have Bu := Aside0.mk Ar; clear Ar; have H' := Aside0.mk H; clear H
       go_wp2_with (first | ((with_reducible refine gate_dst (N := 34) rfl ?_); refine Kd.R_make (Kd.int .i64) _ 3 rfl (N := 34) rfl 22 _ _ rfl (l2.length : Int) rfl rfl Try.underlying22 (.int .i64 0) 8 info3 rfl (by decide) (by omega) 0 (ok := fun _ => True) (okp := fun _ => True) rfl (fun _ hk => hk) trivial (of_decide_eq_true Z3) (Nat.le_trans (Nat.mul_le_mul_right _ (of_decide_eq_true Z3 : (l2.length : Int).toNat ≤ 35184372088832)) (by omega)) (Below.refl _ _) (Nat.le_refl _) ?_; intro Ci Dv Bg hb hg_ hnew_; clear hg_ hnew_; (first | rw [← Bu.out] at Bg | (simp only [Int.reduceToNat] at Bg; rw [← Bu.out] at Bg)); have Cj := aM (Kd.R_lower (Kd.R_new' Bg (Kd.R_lt Z19)) (below_size Z9)); replace Ag := aM (Kd.R_elder' Z19 (Kd.R_base Bg) hb); replace Ab := bkB Ab hb; replace HB := hbS Z9 hb; clear hb Bg))
       go_loopg [12, 37] k1 (fun kq Dl Dm w' => ∃ (Ad : List Int) (Ah : Int) (Aa : Int), Dl = .int .i64 Ah ∧ Dm = .int .i64 Aa ∧ Aside0 (impl_FewestLots.l1 kq l2 Ak Al Ac Ad Ah ji7 Ac l2 (l2.length : Int) Aa = some (r1, r2)) ∧ Aside0 (kq ≤ k1) ∧ Aside0 (Kd.R (Kd.int .i64) 3 w' w.heap.size (fun k_ => nV k_ Ci) Br Ak) ∧ Aside0 (Kd.R (Kd.int .i64) 3 w' w.heap.size (fun k_ => nV k_ Br) Ci Ad) ∧ Aside0 (w'.heap[Ay]? = some (.cells #[.int .i64 Am, .int .i64 An, (.slice Ao Ai.length Ap)] 28 (0, 0))) ∧ Aside0 (Below w.heap.size w w'))
       case atStart => exact ⟨(Ch), (0), (0), Z14, Z14, H', ⟨Nat.le_refl _⟩, ⟨Z186⟩, ⟨by (with_reducible repeat (first | apply Kd.R_alloc | apply Kd.R_drewN | apply Kd.R_drew)); exact Kd.R_mono Cj.out (fun _ hk => hk.2)⟩, ⟨Z12⟩, ⟨Z9⟩⟩
       case round =>
        clear H'; (try clear c1); (try clear c2); (try clear p2); (try clear c3); (try clear c5); (try clear c6); (try clear p6); (try clear Bv); (try clear c13b0); (try clear Ca); (try clear c14b0); (try clear c14b1); (try clear Cb); (try clear c15b0); (try clear c15b1); (try clear Az); (try clear Ba); (try clear Bb); (try clear Bj); (try clear Bk); (try clear Bl); (try clear Bc); (try clear Bd); (try clear Bf); (try clear Bm); (try clear Bn); (try clear Bo); (try clear p2); (try clear p6); obtain ⟨Ad, Ah, Aa, rfl, rfl, HA, HK2, Ag, Af, Ab, HB⟩ := hrel; cases gk with
        | zero => exact absurd HA.out (by simp [impl_FewestLots.l1])
        | succ k2 =>
         have H := HA.out; clear HA
         simp only [impl_FewestLots.l1] at H
         by_cases Cc : Aa < (l2.length : Int)
         ·rw [if_pos Cc] at H
          have c18b0 : decide (Aa < (l2.length : Int)) = true := decide_eq_true Cc; clear Cc
          by_cases Cs : 0 ≤ Aa
          ·rw [if_pos Cs] at H
           have c19b0 : decide (0 ≤ Aa) = true := decide_eq_true Cs; clear Cs
           by_cases Ct : Aa < (l2.length : Int)
           ·rw [if_pos Ct] at H
            have c20b0 : decide (Aa < (l2.length : Int)) = true := decide_eq_true Ct; clear Ct; have c21b0 := eq_true (of_decide_eq_true Z3 : 0 ≤ Aa); obtain ⟨ji22, hji22⟩ : ∃ j_ : Int, (shr .i64 Ac Aa) = j_ := ⟨_, rfl⟩
            replace H : (if (Go.bits .and .i64 (ji22) 1) = 1 then (if Aa < (Ad.length : Int) then (impl_FewestLots.l1 k2 l2 Ak Al Ac (Ad.set (Aa : Int).toNat (rd l2 Aa)) (wrap64 (Ah + 1)) ji7 Ac l2 (l2.length : Int) (wrap64 (Aa + 1))) else (none)) else (impl_FewestLots.l1 k2 l2 Ak Al Ac Ad Ah ji7 Ac l2 (l2.length : Int) (wrap64 (Aa + 1)))) = some (r1, r2) := by first | (rw [hji22] at H; exact H) | (simp only [hji22] at H ⊢; exact H)
            have hji22_ : (Ac / 2 ^ min Aa.toNat 64) = ji22 := hji22; have hji22z : Aa ≤ 64 → (Ac / 2 ^ Aa.toNat) = ji22 := shr_small hji22
            by_cases Bw : (Go.bits .and .i64 (ji22) 1) = 1
            ·rw [if_pos Bw] at H
             have c23b0 : ((Go.bits .and .i64 (ji22) 1) == 1) = true := beq_iff_eq.mpr Bw; have c23b1 : ((Go.bits .and .i64 (ji22) 1) != 1) = false := bne_eq_false_iff_eq.mpr Bw; clear Bw
             by_cases Cu : Aa < (Ad.length : Int)
             ·rw [if_pos Cu] at H
              have c24b0 : decide (Aa < (Ad.length : Int)) = true := decide_eq_true Cu; clear Cu; obtain ⟨Bx, Au⟩ : ∃ y_ : List Int, y_ = (Ad.set (Aa : Int).toNat (rd l2 Aa)) := ⟨_, rfl⟩
              replace H : (impl_FewestLots.l1 k2 l2 Ak Al Ac Bx (wrap64 (Ah + 1)) ji7 Ac l2 (l2.length : Int) (wrap64 (Aa + 1))) = some (r1, r2) := by first | (rw [Au]; with_reducible exact H) | (have H2_ := (Option.bind_some _ _).symm.trans H; rw [Au]; with_reducible exact H2_) | (have H2_ := (Option.bind_some _ _).symm.trans H; with_reducible exact H2_) | with_reducible exact H | (rw [Au]; exact H) | exact H
              have Ck := Aside0.mk Au; clear Au; have H' := Aside0.mk H; clear H; have Aw : 0 ≤ (Aa : Int) := of_decide_eq_true Z3; have Ax : Aa < (l2.length : Int) := of_decide_eq_true Z3; obtain ⟨ad389, e389, Aj⟩ := Kd.at_int Cr.out Aa Aw Ax; cases e389; replace Aj := (HB.out.cell (World.block_lt_of_cell? w _ Aj)).trans Aj; replace Aw := eq_true Aw; replace Ax := eq_true Ax; have C3 : 0 ≤ (Aa : Int) := of_decide_eq_true Z3; have C4 : (Aa : Int) < ((Ad.length : Int) : Int) := of_decide_eq_true Z3; obtain ⟨Bp, Bz, Cl, Cm, gl25, cl25, HG25⟩ := Kd.R_form Af.out (by omega)
              (first | cases Cl | (injection Cl with ea_ en_ ec_; (first | subst ea_ | (injection ea_ with ea_; subst ea_)); subst ec_; clear en_))
              have C5 := Aside0.mk Cm; have Dn := Aside0.mk HG25; clear Cm gl25 HG25; obtain ⟨C6, C7⟩ := Kd.R_celln 0 Af.out (Aa : Int) C3 C4; replace C3 := eq_true C3; replace C4 := eq_true C4; have B0 := Kd.R_putg Af.out (Aa : Int) (rd l2 Aa)
              go_wp2_with (first | ((with_reducible refine gate_store (t := 3) (p := 50) rfl ?_); refine store_event (t := 3) (p := 50) (v := ?vo_w27) (w1 := (wr.setCell ⟨Bp, (Aa : Int).toNat, none⟩ (.int .i64 (rd l2 Aa)))) ?hg ?ho ?hn ?hr ?_; (case ho => rfl); (case hg => rfl); (case hn => rfl); (case hr => first | (go_simp; done) | (go_simp; rfl)); intro C8 hw; have hg : wr.grownBy C8 (some Bp) := (by rw [hw]; exact B0.2); have hp_ : Kd.R (Kd.int .i64) 3 C8 w.heap.size (fun k_ => nV k_ Br) (.slice (some ⟨Bp, 0, none⟩) Ad.length Bz) Bx := (by rw [hw, Ck.out]; exact B0.1); clear B0; replace Ag := aM (Kd.R_after (v := (.slice (some ⟨Bp, 0, none⟩) Ad.length Bz)) (v1 := (.slice (some ⟨Bp, 0, none⟩) Ad.length Bz)) (ok := (fun _ => True)) (by (with_reducible repeat (first | apply Kd.R_alloc | apply Kd.R_drewN | apply Kd.R_drew)); exact Kd.R_mono Ag.out (fun _ hk => ⟨trivial, hk⟩)) hg (.inl rfl)); replace Ab := aM (blk_grown (g := Ay) (o := .cells #[.int .i64 Am, .int .i64 An, .slice Ao Ai.length Ap] 28 (0, 0)) Z12 hg (Kd.R_ne Af.out Ab.out (by decide))); replace Af := aM (hp_); replace HB := aM ((by rw [hw]; exact below_set (HB.out) C5.out : Below w.heap.size w C8)); clear hg hw hp_))
              go_roundg k2
              case measure => have := HK1.out; have := HK2.out; omega
              case rel => exact ⟨(Bx), (wrap64 (Ah + 1)), (wrap64 (Aa + 1)), Z14, Z14, H', ⟨Z152⟩, ⟨Z186⟩, ⟨Z73⟩, ⟨Z12⟩, ⟨Z9⟩⟩
             ·rw [if_neg Cu] at H
              exact absurd H (by simp)
            ·rw [if_neg Bw] at H
             have c23b0 : ((Go.bits .and .i64 (ji22) 1) == 1) = false := beq_eq_false_iff_ne.mpr Bw; have c23b1 : ((Go.bits .and .i64 (ji22) 1) != 1) = true := bne_iff_ne.mpr Bw; have H' := Aside0.mk H; clear H; have Aw : 0 ≤ (Aa : Int) := of_decide_eq_true Z3; have Ax : Aa < (l2.length : Int) := of_decide_eq_true Z3; obtain ⟨ad389, e389, Aj⟩ := Kd.at_int Cr.out Aa Aw Ax; cases e389; replace Aj := (HB.out.cell (World.block_lt_of_cell? w _ Aj)).trans Aj; replace Aw := eq_true Aw; replace Ax := eq_true Ax
             go_wp2
             go_roundg k2
             case measure => have := HK1.out; have := HK2.out; omega
             case rel => exact ⟨(Ad), (Ah), (wrap64 (Aa + 1)), Z14, Z14, H', ⟨Z152⟩, ⟨Z19⟩, ⟨Z73⟩, ⟨Z12⟩, ⟨Z9⟩⟩
           ·rw [if_neg Ct] at H
            exact absurd H (by simp)
          ·rw [if_neg Cs] at H
           exact absurd H (by simp)
         ·rw [if_neg Cc] at H
          have c18b0 : decide (Aa < (l2.length : Int)) = false := decide_eq_false Cc; clear Cc
          by_cases Cd : Ah < Al
          ·rw [if_pos Cd] at H
           have c28b0 : decide (Ah < Al) = true := decide_eq_true Cd; clear Cd; replace H := Option.bind_eq_some_iff.mp H; obtain ⟨⟨Cn, Co⟩, Cp, H⟩ := H; replace H : (if Cn = true then (impl_FewestLots.l0 k2 l2 Ak Al ji7 (wrap64 (Ac + 1))) else (impl_FewestLots.l0 k2 l2 Ak Ah ji7 (wrap64 (Ac + 1)))) = some (r1, r2) := H; have Dj := Aside0.mk Cp; clear Cp
           by_cases Cv : Cn = true
           ·subst Cv
            have H1 : (impl_FewestLots.l0 k2 l2 Ak Al ji7 (wrap64 (Ac + 1))) = some (r1, r2) := by rw [if_pos rfl] at H; exact H
            clear H; have H := H1; clear H1; have H' := Aside0.mk H; clear H; obtain ⟨Dp, Dq, C9⟩ := Kd.R_slice Ag.out; subst C9; obtain ⟨B2, B5, Da⟩ := Kd.R_slice Af.out; subst Da
            go_wp2_with (first | (go_at_call 62; (with_reducible refine (assign_few.calls _ _ Ak (fun k_ => some k_ = (.slice B2 Ad.length B5 : Value).ownBlock) (.slice B2 Ad.length B5) Ad true Co w _ ?side1 ?side2 ?side3 ?side4 Dj.out).mono ?_); (case side1 => exact Z9); (case side2 => exact Kd.C_kept_own (Ag.out) (fun k_ hk_ hs_ => (hk_) hs_)); (case side3 => exact (Kd.R_reads' Ag.out).2.1); (case side4 => exact Kd.R_tight rfl Af.out); rintro e Dw ⟨rfl, Cq, hb, hkp⟩; replace Ag := aM (Kd.R_mono (ok' := fun k_ => nS k_ B2 Ad.length B5) (Kd.R_keptB (Ag.out) hkp (fun k_ hk_ hs_ => (hk_) hs_)) (fun k_ hk_ => hk_.1)); replace Ab := aM (blk_kept Z12 hkp (fun hs_ => (fun e_ => (Kd.R_ne Af.out Ab.out (by decide)) e_) hs_)); replace Af := aM (Kd.R_reok rfl Cq (fun k_ e_ => Af.out.1 k_ e_)); replace HB := aM (hb); (try clear hb); (try clear hkp); (try clear Cq)))
            go_roundg k2
            case measure => have := HK1.out; have := HK2.out; omega
            case rel => exact ⟨(Ak), (Al), (wrap64 (Ac + 1)), Z14, Z14, H', ⟨Z152⟩, ⟨Z137⟩, ⟨Z12⟩, ⟨Z9⟩⟩
           ·replace Cv := Bool.eq_false_iff.mpr Cv
            subst Cv
            have H1 : (impl_FewestLots.l0 k2 l2 Ak Ah ji7 (wrap64 (Ac + 1))) = some (r1, r2) := by rw [if_neg (show ¬ (false = true) by decide)] at H; exact H
            clear H; have H := H1; clear H1; have H' := Aside0.mk H; clear H; obtain ⟨Dr, Ds, Db⟩ := Kd.R_slice Ag.out; subst Db; obtain ⟨B6, B7, Dc⟩ := Kd.R_slice Af.out; subst Dc
            go_wp2_with (first | (go_at_call 62; (with_reducible refine (assign_few.calls _ _ Ak (fun k_ => some k_ = (.slice B6 Ad.length B7 : Value).ownBlock) (.slice B6 Ad.length B7) Ad false Co w _ ?side1 ?side2 ?side3 ?side4 Dj.out).mono ?_); (case side1 => exact Z9); (case side2 => exact Kd.C_kept_own (Ag.out) (fun k_ hk_ hs_ => (hk_) hs_)); (case side3 => exact (Kd.R_reads' Ag.out).2.1); (case side4 => exact Kd.R_tight rfl Af.out); rintro e Dx ⟨rfl, Cq, hb, hkp⟩; replace Ag := aM (Kd.R_mono (ok' := fun k_ => nS k_ B6 Ad.length B7) (Kd.R_keptB (Ag.out) hkp (fun k_ hk_ hs_ => (hk_) hs_)) (fun k_ hk_ => hk_.1)); replace Ab := aM (blk_kept Z12 hkp (fun hs_ => (fun e_ => (Kd.R_ne Af.out Ab.out (by decide)) e_) hs_)); replace Af := aM (Kd.R_reok rfl Cq (fun k_ e_ => Af.out.1 k_ e_)); replace HB := aM (hb); (try clear hb); (try clear hkp); (try clear Cq)))
            go_roundg k2
            case measure => have := HK1.out; have := HK2.out; omega
            case rel => exact ⟨(Ak), (Ah), (wrap64 (Ac + 1)), Z14, Z14, H', ⟨Z152⟩, ⟨Z137⟩, ⟨Z12⟩, ⟨Z9⟩⟩
          ·rw [if_neg Cd] at H
           have c28b0 : decide (Ah < Al) = false := decide_eq_false Cd; clear Cd; have H' := Aside0.mk H; clear H
           go_wp2
           go_roundg k2
           case measure => have := HK1.out; have := HK2.out; omega
           case rel => exact ⟨(Ak), (Al), (wrap64 (Ac + 1)), Z14, Z14, H', ⟨Z152⟩, ⟨Z137⟩, ⟨Z12⟩, ⟨Z9⟩⟩
      ·rw [if_neg Cb] at H
       exact absurd H (by simp)
     ·rw [if_neg Ca] at H
      exact absurd H (by simp)
    ·rw [if_neg Bv] at H
     have c13b0 : decide (Ac < ji7) = false := decide_eq_false Bv; clear Bv
     by_cases Ce : Al > (l2.length : Int)
     ·rw [if_pos Ce] at H
      have c37b0 : decide ((l2.length : Int) < Al) = true := decide_eq_true Ce; clear Ce
      simp only [Option.some.injEq, Prod.mk.injEq] at H
      obtain ⟨rfl, rfl⟩ := H
      go_wp2
      go_ret2
      exact ⟨Z146, Z9⟩
     ·rw [if_neg Ce] at H
      have c37b0 : decide ((l2.length : Int) < Al) = false := decide_eq_false Ce; clear Ce
      simp only [Option.some.injEq, Prod.mk.injEq] at H
      obtain ⟨rfl, rfl⟩ := H
      go_wp2
      go_ret2
      exact ⟨Z146, Z9⟩
 ·replace c5 := Bool.eq_false_iff.mpr c5
  subst c5
  have H1 : (some (0, false)) = some (r1, r2) := by rw [if_neg (show ¬ (false = true) by decide)] at H; exact H
  clear H; have H := H1; clear H1
  simp only [Option.some.injEq, Prod.mk.injEq] at H
  obtain ⟨rfl, rfl⟩ := H
  go_enter Try.func31, Try.ntmps31
  go_wp2_with (first | ((with_reducible refine gate_dst (N := 3) rfl ?_); refine bxE 3 #[.int .i64 Am, .int .i64 An, .slice Ao Ai.length Ap] 28 ?_; intro Ay hg Dy hbox hb; have Ab := aM (hbox); have Cf := gwS hg Z0; have Ae := gwS hg Z0; replace HB := hbS Z0 hb; clear hb hbox hg; obtain ⟨Cw, Cx, Cy⟩ := bz3 Ab; obtain ⟨Cz, C0, C1⟩ := fz3 Ab) | ((with_reducible refine gate_callee (f := 61) rfl ?_); refine glE (some 18) Try.func61 #[.agg #[.int .i64 Am, .int .i64 An, .slice Ao Ai.length Ap], .int .i64 a1, .slice A2 l2.length c2] ?_; (with_reducible refine (impl_hasFewAreas.calls k Am An _ _ Ai a1 _ _ l2 false _ ?side1 ?side2 ?side3 ?side4 A4.out).mono ?_); (case side1 => exact Z122); (case side2 => exact Bi.out); (case side3 => exact Z144); (case side4 => exact Df.out); rintro e Dz ⟨rfl, hb⟩; refine ⟨_, rfl, ?_⟩; replace Ab := bkB Ab hb; replace HB := hbS Z9 hb; (try clear hb)))
  go_ret2
  exact ⟨Z10, Z9⟩
def spec_FirstAssignment.j0 : Nat → Int → List Int → Bool → Int → Int → List Int → Option (List Int × Bool)
 | 0, _, _, _, _, _, _ => none
 | k + 1, x1, x2, x21, x394000, x394001, x394002 => if x21 = true then (some ((([] : List Int)), false)) else ((spec_l12Color.f k x394000 x394001 x394002 x1).bind fun t401 => ((spec_l12Search.f k t401 x2 (x2.length : Int) (([] : List Int))).bind fun bt407 => (some (bt407.1, bt407.2))))
def spec_FirstAssignment.f (k : Nat) (a0_0 : Int) (a0_1 : Int) (l0_2 : List Int) (a1 : Int) (l2 : List Int) : Option (List Int × Bool) := (spec_l12Asked.f k a0_0 a0_1 l0_2 a1 l2).bind fun t394 => (if t394 = true then ((spec_l12Color.f k a0_0 a0_1 l0_2 a1).bind fun t395 => (spec_FirstAssignment.j0 k a1 l2 (decide ((t395.length : Int) > 8)) a0_0 a0_1 l0_2)) else (spec_FirstAssignment.j0 k a1 l2 true a0_0 a0_1 l0_2))
theorem spec_FirstAssignment.calls (k : Nat) (Ad : Int) (Ae : Int) (Am : Option Addr) (An : Nat) (Ab : List Int) (a1 : Int) (A2 : Option Addr) (c2 : Nat) (l2 : List Int) (r1 : List Int) (r2 : Bool) (w : World) (Bm : Kd.C (Kd.int .i64) w Am Ab.length Ab) (Bn : Ab.length ≤ An) (Cu : Kd.C (Kd.int .i64) w A2 l2.length l2) (Cv : l2.length ≤ c2) (h : spec_FirstAssignment.f k Ad Ae Ab a1 l2 = some (r1, r2)) :
  Calls Try.prog 32 #[.agg #[.int .i64 Ad, .int .i64 Ae, .slice Am Ab.length An], .int .i64 a1, .slice A2 l2.length c2] w fun e w' => ∃ v0_ : Value, e = .returned (.tuple #[v0_, .bool r2]) ∧ Kd.R (Kd.int .i64) 3 w' w.heap.size (fun _ => True) v0_ r1 ∧ Below w.heap.size w w' := by
 have hu28 := Try.underlying28; have Ao := Aside0.mk Bm; have Ap := Aside0.mk Bn; clear Bm Bn; have Cm := Aside0.mk Cu; have Cn := Aside0.mk Cv; clear Cu Cv; have HB := aM (Below.refl w.heap.size w); have H : ((spec_l12Asked.f k Ad Ae Ab a1 l2).bind fun Ax => (if Ax = true then ((spec_l12Color.f k Ad Ae Ab a1).bind fun Ah => (spec_FirstAssignment.j0 k a1 l2 (decide ((Ah.length : Int) > 8)) Ad Ae Ab)) else (spec_FirstAssignment.j0 k a1 l2 true Ad Ae Ab))) = some (r1, r2) := h; clear h; have Co := Aside0.mk H; clear H
 go_enter Try.func32, Try.ntmps32
 go_upto_region 1 with (first | ((with_reducible refine gate_dst (N := 3) rfl ?_); (try (refine gate_guard (by rfl) ?_; dsimp only)); refine bxE 3 #[.int .i64 Ad, .int .i64 Ae, .slice Am Ab.length An] 28 ?_; intro B0 hg w5 hbox hb; have Aa := aM (hbox); have Cw := gwS hg Z0; have Ac := gwS hg Z0; replace HB := hbS Z0 hb; clear hb hbox hg))
 (try simp only [Act.put, List.setIfInBounds_toArray, List.set_cons_zero, List.set_cons_succ])
 go_cut [21] (fun Cz wc => ∃ (kq : Nat) (Aq : Bool), Cz = .bool Aq ∧ Aside0 (spec_FirstAssignment.j0 kq a1 l2 Aq Ad Ae Ab = some (r1, r2)) ∧ Aside0 (kq ≤ k) ∧ Aside0 (wc.heap[B0]? = some (.cells #[.int .i64 Ad, .int .i64 Ae, (.slice Am Ab.length An)] 28 (0, 0))) ∧ Aside0 (Below w.heap.size w wc))
 case first =>
  have H := Co.out; clear Co; replace H := Option.bind_eq_some_iff.mp H; obtain ⟨Ax, Cx, H⟩ := H; replace H : (if Ax = true then ((spec_l12Color.f k Ad Ae Ab a1).bind fun Ah => (spec_FirstAssignment.j0 k a1 l2 (decide ((Ah.length : Int) > 8)) Ad Ae Ab)) else (spec_FirstAssignment.j0 k a1 l2 true Ad Ae Ab)) = some (r1, r2) := H; have A6 := Aside0.mk Cx; clear Cx
  by_cases c7 : Ax = true
  ·subst c7
   have H1 : ((spec_l12Color.f k Ad Ae Ab a1).bind fun Ah => (spec_FirstAssignment.j0 k a1 l2 (decide ((Ah.length : Int) > 8)) Ad Ae Ab)) = some (r1, r2) := by rw [if_pos rfl] at H; exact H
   clear H; have H := H1; clear H1; replace H := Option.bind_eq_some_iff.mp H; obtain ⟨Ah, Cy, H⟩ := H; replace H : (spec_FirstAssignment.j0 k a1 l2 (decide ((Ah.length : Int) > 8)) Ad Ae Ab) = some (r1, r2) := H; have A8 := Aside0.mk Cy; clear Cy; have H' := Aside0.mk H; clear H; obtain ⟨Bq, Br, Bs⟩ := bz3 Aa; obtain ⟨Bt, Bu, Bv⟩ := fz3 Aa
   go_wp2_with (first | ((with_reducible refine gate_callee (f := 55) rfl ?_); refine glE (some 13) Try.func55 #[.agg #[.int .i64 Ad, .int .i64 Ae, .slice Am Ab.length An], .int .i64 a1, .slice A2 l2.length c2] ?_; (with_reducible refine (spec_l12Asked.calls k Ad Ae _ _ Ab a1 _ _ l2 true _ ?side1 ?side2 ?side3 ?side4 A6.out).mono ?_); (case side1 => exact Z104); (case side2 => exact Ap.out); (case side3 => exact Z145); (case side4 => exact Cn.out); rintro e C9 ⟨rfl, hb⟩; refine ⟨_, rfl, ?_⟩; replace Aa := bkB Aa hb; replace HB := hbS Z1 hb; (try clear hb); obtain ⟨Ay, Az, Ba⟩ := bz3 Aa; obtain ⟨Bb, Bc, Bd⟩ := fz3 Aa) | (go_at_call 52; (with_reducible refine (spec_l12Color.calls k Ad Ae _ _ Ab a1 Ah _ ?side1 ?side2 A8.out).mono ?_); (case side1 => exact Z104); (case side2 => exact Ap.out); rintro e Da ⟨C0, rfl, Bf, hb⟩; have B2 := aM (Kd.R_lower Bf (below_size Z1)); replace Aa := bkB Aa hb; replace HB := hbS Z1 hb; (try clear hb); (try clear Bf); obtain ⟨C1, C3, Cp⟩ := Kd.R_slice B2.out; subst Cp))
   go_meet
   case rel => exact ⟨_, (decide ((Ah.length : Int) > 8)), Z14, H', ⟨Z119⟩, ⟨Z25⟩, ⟨Z1⟩⟩
  ·replace c7 := Bool.eq_false_iff.mpr c7
   subst c7
   have H1 : (spec_FirstAssignment.j0 k a1 l2 true Ad Ae Ab) = some (r1, r2) := by rw [if_neg (show ¬ (false = true) by decide)] at H; exact H
   clear H; have H := H1; clear H1; have H' := Aside0.mk H; clear H; obtain ⟨Bg, Bh, Bi⟩ := bz3 Aa; obtain ⟨Bj, Bk, Bl⟩ := fz3 Aa
   go_wp2_with (first | ((with_reducible refine gate_callee (f := 55) rfl ?_); refine glE (some 13) Try.func55 #[.agg #[.int .i64 Ad, .int .i64 Ae, .slice Am Ab.length An], .int .i64 a1, .slice A2 l2.length c2] ?_; (with_reducible refine (spec_l12Asked.calls k Ad Ae _ _ Ab a1 _ _ l2 false _ ?side1 ?side2 ?side3 ?side4 A6.out).mono ?_); (case side1 => exact Z104); (case side2 => exact Ap.out); (case side3 => exact Z145); (case side4 => exact Cn.out); rintro e Db ⟨rfl, hb⟩; refine ⟨_, rfl, ?_⟩; replace Aa := bkB Aa hb; replace HB := hbS Z1 hb; (try clear hb)))
   go_meet
   case rel => exact ⟨_, (true), Z14, H', ⟨Z119⟩, ⟨Z25⟩, ⟨Z1⟩⟩
 case rest =>
  clear Co; (try clear c2); (try clear p2); (try clear c3); (try clear c5); (try clear c7); (try clear Ay); (try clear Az); (try clear Ba); (try clear Bg); (try clear Bh); (try clear Bi); (try clear Bq); (try clear Br); (try clear Bs); (try clear Bb); (try clear Bc); (try clear Bd); (try clear Bj); (try clear Bk); (try clear Bl); (try clear Bt); (try clear Bu); (try clear Bv); obtain ⟨kq, Aq, rfl, HA, HJ3, Aa, HB⟩ := hcut; cases kq with
  | zero => exact absurd HA.out (by simp [spec_FirstAssignment.j0])
  | succ Bz =>
   have H := HA.out; clear HA
   simp only [spec_FirstAssignment.j0] at H
   by_cases Cf : Aq = true
   ·subst Cf
    have H1 : (some ((([] : List Int)), false)) = some (r1, r2) := by rw [if_pos rfl] at H; exact H
    clear H; have H := H1; clear H1; obtain ⟨Cq, Ai⟩ : ∃ y_ : List Int, y_ = (([] : List Int)) := ⟨_, rfl⟩
    replace H : (some (Cq, false)) = some (r1, r2) := by first | (rw [Ai]; with_reducible exact H) | (have H2_ := (Option.bind_some _ _).symm.trans H; rw [Ai]; with_reducible exact H2_) | (have H2_ := (Option.bind_some _ _).symm.trans H; with_reducible exact H2_) | with_reducible exact H | (rw [Ai]; exact H) | exact H
    have Bo := Aside0.mk Ai; clear Ai
    simp only [Option.some.injEq, Prod.mk.injEq] at H
    obtain ⟨rfl, rfl⟩ := H
    go_wp2_with (first | ((with_reducible refine gate_dst (N := 22) rfl ?_); (try (refine gate_guard (by rfl) ?_; dsimp only)); refine Kd.R_lit (Kd.int .i64) _ 3 ?hg (N := 22) ?hd (xs := ([] : List Int)) (inner := []) (ok := fun _ => True) (okp := fun _ => True) ?hr ?hp (fun _ hk => hk) trivial (Below.refl _ _) (Nat.le_refl _) (by simp) ?_; (case hd => rfl); (case hg => rfl); (case hr => first | (go_simp; done) | (go_simp; rfl)); (case hp => exact (Reps.none _ _)); intro C4 Dc Au hb hg_ hnew_; clear hg_ hnew_; (first | rw [← Bo.out] at Au | (simp only [Int.reduceToNat] at Au; rw [← Bo.out] at Au)); have B5 := aM (Kd.R_lower Au (below_size Z1)); replace Aa := bkB Aa hb; replace HB := hbS Z1 hb; clear hb Au))
    go_ret2
    exact ⟨_, Z10, by (with_reducible repeat (first | apply Kd.R_alloc | apply Kd.R_drewN | apply Kd.R_drew)); exact B5.out, Z1⟩
   ·replace Cf := Bool.eq_false_iff.mpr Cf
    subst Cf
    have H1 : ((spec_l12Color.f Bz Ad Ae Ab a1).bind fun Aj => ((spec_l12Search.f Bz Aj l2 (l2.length : Int) (([] : List Int))).bind fun Ag => (some (Ag.1, Ag.2)))) = some (r1, r2) := by rw [if_neg (show ¬ (false = true) by decide)] at H; exact H
    clear H; have H := H1; clear H1; replace H := Option.bind_eq_some_iff.mp H; obtain ⟨Aj, B6, H⟩ := H; replace H : ((spec_l12Search.f Bz Aj l2 (l2.length : Int) (([] : List Int))).bind fun Ag => (some (Ag.1, Ag.2))) = some (r1, r2) := H; have C5 := Aside0.mk B6; clear B6; obtain ⟨Aw, Ak⟩ : ∃ y_ : List Int, y_ = (([] : List Int)) := ⟨_, rfl⟩
    replace H : ((spec_l12Search.f Bz Aj l2 (l2.length : Int) Aw).bind fun Ag => (some (Ag.1, Ag.2))) = some (r1, r2) := by first | (rw [Ak]; with_reducible exact H) | (have H2_ := (Option.bind_some _ _).symm.trans H; rw [Ak]; with_reducible exact H2_) | (have H2_ := (Option.bind_some _ _).symm.trans H; with_reducible exact H2_) | with_reducible exact H | (rw [Ak]; exact H) | exact H
    have Bp := Aside0.mk Ak; clear Ak; replace H := Option.bind_eq_some_iff.mp H; obtain ⟨⟨B7, Ca⟩, Cb, H⟩ := H; replace H : (some (B7, Ca)) = some (r1, r2) := H; have C6 := Aside0.mk Cb; clear Cb
    simp only [Option.some.injEq, Prod.mk.injEq] at H
    obtain ⟨rfl, rfl⟩ := H; obtain ⟨Cg, Ch, Ci⟩ := bz3 Aa; obtain ⟨Cj, Ck, Cl⟩ := fz3 Aa
    go_wp2_with (first | ((with_reducible refine gate_callee (f := 52) rfl ?_); refine glE (some 26) Try.func52 #[.agg #[.int .i64 Ad, .int .i64 Ae, .slice Am Ab.length An], .int .i64 a1] ?_; (with_reducible refine (spec_l12Color.calls Bz Ad Ae _ _ Ab a1 Aj _ ?side1 ?side2 C5.out).mono ?_); (case side1 => exact Z104); (case side2 => exact Ap.out); rintro e Dd ⟨C7, rfl, Bf, hb⟩; refine ⟨_, rfl, ?_⟩; have Af := aM (Kd.R_lower Bf (below_size Z1)); replace Aa := bkB Aa hb; replace HB := hbS Z1 hb; (try clear hb); (try clear Bf)) | ((with_reducible refine gate_dst (N := 30) rfl ?_); (try (refine gate_guard (by rfl) ?_; dsimp only)); refine Kd.R_lit (Kd.int .i64) _ 3 ?hg (N := 30) ?hd (xs := ([] : List Int)) (inner := []) (ok := fun _ => True) (okp := fun _ => True) ?hr ?hp (fun _ hk => hk) trivial (Below.refl _ _) (Nat.le_refl _) (by simp) ?_; (case hd => rfl); (case hg => rfl); (case hr => first | (go_simp; done) | (go_simp; rfl)); (case hp => exact (Reps.none _ _)); intro C8 De Ar hb hg_ hnew_; clear hg_ hnew_; (first | rw [← Bp.out] at Ar | (simp only [Int.reduceToNat] at Ar; rw [← Bp.out] at Ar)); have Al := aM (Kd.R_lower (Kd.R_new' Ar (Kd.R_lt Z73)) (below_size Z1)); replace Af := aM (Kd.R_elder' Z73 (Kd.R_base Ar) hb); replace Aa := bkB Aa hb; replace HB := hbS Z1 hb; clear hb Ar; obtain ⟨Cc, Cd, Cr⟩ := Kd.R_slice Af.out; subst Cr; obtain ⟨Bw, Bx, Cs⟩ := Kd.R_slice Al.out; subst Cs) | ((with_reducible refine gate_callee (f := 60) rfl ?_); refine glE (some 31) Try.func60 #[.slice Cc Aj.length Cd, .slice A2 l2.length c2, .int .i64 (l2.length : Int), .slice Bw Aw.length Bx] ?_; (with_reducible refine (spec_l12Search.calls Bz _ _ Aj _ _ l2 (l2.length : Int) (fun k_ => some k_ = (.slice Bw Aw.length Bx : Value).ownBlock) (.slice Bw Aw.length Bx) Aw B7 Ca w _ ?side1 ?side2 ?side3 ?side4 ?side5 ?side6 C6.out).mono ?_); (case side1 => exact Z1); (case side2 => exact Kd.C_kept_own (Af.out) (fun k_ hk_ hs_ => (hk_.2) hs_)); (case side3 => exact (Kd.R_reads' Af.out).2.1); (case side4 => exact Kd.C_kept_came (Kd.heap_int .i64) Cm.out Z1 (fun k_ hs_ => (fun e_ => Kd.R_base Al.out k_ e_.symm) hs_)); (case side5 => exact Cn.out); (case side6 => exact Kd.R_tight rfl Al.out); rintro e Df ⟨Ct, rfl, Bf, hb, hkp⟩; refine ⟨_, rfl, ?_⟩; replace Aa := aM (blk_kept Z25 hkp (fun hs_ => (fun e_ => (Kd.R_ne Al.out Aa.out (by decide)) e_) hs_)); have Ce := aM (Kd.R_mono (ok' := fun k_ => nS k_ Cc Aj.length Cd) Bf (fun k_ hk_ => Or.elim hk_ (fun hs_ => fun e_ => (((Af.out).1 k_ e_.symm).2) hs_) (fun hn_ => (Kd.fresh' (Kd.R_lt Z73) k_ hn_)))); replace Af := aM (Kd.R_mono (ok' := fun k_ => nV k_ Ct) (Kd.R_keptB (Af.out) hkp (fun k_ hk_ hs_ => (hk_.2) hs_)) (fun k_ hk_ => fun e_ => Or.elim (Bf.1 k_ e_.symm) (fun hs_ => hk_.2.1 hs_) (fun hn_ => Nat.not_le.2 hk_.2.2 hn_))); replace HB := aM (hb); clear Al; (try clear hb); (try clear hkp); (try clear Bf)))
    go_ret2
    exact ⟨_, Z10, by (with_reducible repeat (first | apply Kd.R_alloc | apply Kd.R_drewN | apply Kd.R_drew)); exact Kd.R_mono Ce.out (fun _ hk => trivial), Z1⟩
end Go.Proofs.Ytaadbpibmlnncaa.H
