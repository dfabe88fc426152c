-- by wip/pack.py of this repo
import Derived.Test.YtffgmmfkiecheaaZ01Hx0
import Derived.Test.YtffgmmfkiecheaaZ01Hx2
import Derived.Test.YtffgmmfkiecheaaZ01Hx3
import Derived.Test.YtffgmmfkiecheaaZ01WLast
import Derived.Test.YtffgmmfkiecheaaZ01WMore
import Derived.Test.YtffgmmfkiecheaaZ01WWords
import Derived.Test.YtffgmmfkiecheaaZ01Short
namespace Go.Proofs.Ytffgmmfkiecheaa.H
open Go.RowKit Go.Proofs.YtffgmmfkiecheaaW.PrintWords Go.Proofs.YtffgmmfkiecheaaW.PrintLast Go.Proofs.YtffgmmfkiecheaaW.PrintMore
attribute [local go_sem] max2_int min2_int max_two min_two max_three min_three max_four min_four
set_option maxHeartbeats 8000000
set_option maxRecDepth 100000
set_option linter.unusedVariables false
set_option linter.unusedSimpArgs false
def errS (k : Nat) (l0 : List (S48)) (a : Int) : Int × Int := (spec_l14Errors.f k l0 a).getD (0, 0)
theorem errS_some {k : Nat} {l0 : List (S48)} {a : Int} (h : (spec_l14Errors.f k l0 a).isSome = true) : spec_l14Errors.f k l0 a = some ((errS k l0 a).1, (errS k l0 a).2) := by
 obtain ⟨v, hv⟩ := Option.isSome_iff_exists.1 h
 unfold errS
 rw [hv]
 rfl
def posS (E : Int → Int × Int) (out : List Int) (x : Int) : Nat → Nat
 | 0 => 0
 | j + 1 => if wrap64 ((E (out.getD j 0)).1 * (E x).2) ≤ wrap64 ((E x).1 * (E (out.getD j 0)).2) then j + 1 else posS E out x j
theorem posS_le (E : Int → Int × Int) (out : List Int) (x : Int) : ∀ j, posS E out x j ≤ j := by
 intro j
 induction j with
 | zero => exact Nat.le_refl _
 | succ j ih =>
  unfold posS
  split
  ·exact Nat.le_refl _
  ·omega
def insE (E : Int → Int × Int) (out : List Int) (x : Int) : List Int := out.take (posS E out x out.length) ++ x :: out.drop (posS E out x out.length)
theorem insE_mem (E : Int → Int × Int) (out : List Int) (x y : Int) (h : y ∈ insE E out x) : y = x ∨ y ∈ out := by
 unfold insE at h
 rw [List.mem_append, List.mem_cons] at h
 rcases h with h | h | h
 ·exact .inr (List.mem_of_mem_take h)
 ·exact .inl h
 ·exact .inr (List.mem_of_mem_drop h)
theorem insE_length (E : Int → Int × Int) (out : List Int) (x : Int) : (insE E out x).length = out.length + 1 := by
 have := posS_le E out x out.length
 unfold insE
 rw [List.length_append, List.length_cons, List.length_take, List.length_drop]
 omega
theorem insE_fold (E : Int → Int × Int) : ∀ (R P : List Int), (R.foldl (insE E) P).length = P.length + R.length ∧ ∀ y ∈ R.foldl (insE E) P, y ∈ P ∨ y ∈ R := by
 intro R
 induction R with
 | nil => intro P; exact ⟨rfl, fun y hy => .inl hy⟩
 | cons x R ih =>
  intro P; obtain ⟨h1, h2⟩ := ih (insE E P x); rw [List.foldl_cons]; refine ⟨by rw [h1, insE_length, List.length_cons]; omega, fun y hy => ?_⟩
  rcases h2 y hy with h | h
  ·rcases insE_mem E P x y h with h | h
   ·exact .inr (by rw [h]; exact List.mem_cons_self)
   ·exact .inl h
  ·exact .inr (List.mem_cons_of_mem _ h)
theorem insE_step (E : Int → Int × Int) (ws : List Int) (i : Int) (h0 : 0 ≤ i) (h1 : i < (ws.length : Int)) : (ws.take (i + 1).toNat).foldl (insE E) [] = insE E ((ws.take i.toNat).foldl (insE E) []) (rd ws i) := by
 have e : (i + 1).toNat = i.toNat + 1 := by omega
 rw [e, List.take_succ_eq_append_getElem (by omega), List.foldl_append]
 show insE E _ _ = _
 congr 1
 unfold rd
 rw [List.getD_eq_getElem?_getD, List.getElem?_eq_getElem (by omega)]
 rfl
theorem lit_new {W0 w1 : World} (h : Below W0.heap.size W0 w1) (o : Obj) : Below W0.heap.size W0 (w1.alloc o) ∧ (w1.alloc o).heap[w1.heap.size]? = some o := ⟨below_alloc h o, blk_new _ _⟩
theorem lit_apart {α : Type} {d : Kd α} {e base : Nat} {w : World} {ok : Nat → Prop} {v : Value} {xs : List α} (h : Kd.R d e w base ok v xs) (o : Obj) : Kd.R d e (w.alloc o) base (fun k_ => k_ ≠ w.heap.size) v xs := Kd.R_alloc (Kd.R_mono (Kd.R_bound h) (fun k hk => Nat.ne_of_lt hk.2.2.1)) o
theorem lit_ne {α : Type} {d : Kd α} {e base b9 : Nat} {w : World} {v : Value} {xs : List α} (h : Kd.R d e w base (fun k_ => k_ ≠ b9) v xs) : some b9 ≠ v.ownBlock := fun he => h.1 b9 he.symm rfl
def spec_CarefulWeavers.f (k : Nat) (l0 : List (S48)) : Option (List Int × Bool) := (spec_l14Good.f k l0).bind fun b => if b = true then ((spec_l14Weavers.f k l0).bind fun ws => if ws.length ≤ 1000 ∧ (ws.all fun x => (spec_l14Errors.f k l0 x).isSome) = true then some (ws.foldl (insE (errS k l0)) [], true) else none) else some ([], false)
set_option maxHeartbeats 80000000 in
set_option maxRecDepth 100000 in
theorem spec_CarefulWeavers.calls (k : Nat) (A0 : Option Addr) (c0 : Nat) (l0 : List (S48)) (r1 : List Int) (r2 : Bool) (w : World) (Ag : Kd.C k48 w A0 l0.length l0) (Ae : l0.length ≤ c0) (h : spec_CarefulWeavers.f k l0 = some (r1, r2)) :
  Calls Try.prog 16 #[.slice A0 l0.length c0] w fun e w' => ∃ v0_ : Value, e = .returned (.tuple #[v0_, .bool r2]) ∧ Kd.R (Kd.int .i64) 3 w' w.heap.size (fun _ => True) v0_ r1 ∧ Below w.heap.size w w' := by
 obtain ⟨b, hb, h1⟩ := Option.bind_eq_some_iff.mp h; clear h; have HG : Aside0 (∀ W, Below w.heap.size w W → _) := ⟨fun W hW => spec_l14Good.calls k A0 c0 l0 b W (Kd.C_below Ag hW) Ae hb⟩; have Aj := Aside0.mk Ag; clear Ag hb; cases b with
 | false =>
  rw [if_neg (by decide)] at h1; obtain ⟨rfl, rfl⟩ := Prod.mk.inj (Option.some.inj h1); clear h1 Ae
  go_enter Try.func16, Try.ntmps16
  go_wp2_with (first | ((with_reducible refine gate_dst (N := 12) rfl ?_); refine Kd.R_lit (Kd.int .i64) _ 3 ?hg (N := 12) ?hd (xs := ([] : List Int)) (inner := []) (ok := fun _ => True) (okp := fun _ => True) ?hr ?hp (fun _ hk => hk) trivial (Below.refl _ _) (Nat.le_refl _) (by simp) ?_; (case hd => rfl); (case hg => rfl); (case hr => first | (go_simp; done) | (go_simp; rfl)); (case hp => exact (Reps.none _ _)); intro Am w1 ho hb hg_ hnew_; have HO := Aside0.mk ho; have HB := Aside0.mk hb; clear hg_ hnew_ ho hb))
  refine (HG.out _ HB.out).mono ?_; rintro e w2 ⟨rfl, hd⟩; have Af := aM (below_step HB.out Z52); have Ac := aM (Kd.R_below HO.out Z52); clear hd
  go_wp2
  go_ret2
  exact ⟨_, rfl, Ac.out, Af.out⟩
 | true =>
  rw [if_pos rfl] at h1; obtain ⟨ws0, hws, h2⟩ := Option.bind_eq_some_iff.mp h1
  by_cases hq : ws0.length ≤ 1000 ∧ (ws0.all fun x => (spec_l14Errors.f k l0 x).isSome) = true
  case neg => rw [if_neg hq] at h2; cases h2
  rw [if_pos hq] at h2; obtain ⟨rfl, rfl⟩ := Prod.mk.inj (Option.some.inj h2); have HW : Aside0 (∀ W, Below w.heap.size w W → _) := ⟨fun W hW => spec_l14Weavers.calls k A0 c0 l0 ws0 W (Kd.C_below Aj.out hW) Ae hws⟩; have HE : Aside0 (∀ (W : World) (a : Int), a ∈ ws0 → Below w.heap.size w W → _) := ⟨fun W a ha hW => spec_l14Errors.calls k A0 c0 l0 a (errS k l0 a).1 (errS k l0 a).2 W (Kd.C_below Aj.out hW) Ae (errS_some (List.all_eq_true.1 hq.2 a ha))⟩; have HQ := Aside0.mk hq.1; clear h1 h2 hq hws Ae
  go_enter Try.func16, Try.ntmps16
  go_wp2_with (first | ((with_reducible refine gate_dst (N := 12) rfl ?_); refine Kd.R_lit (Kd.int .i64) _ 3 ?hg (N := 12) ?hd (xs := ([] : List Int)) (inner := []) (ok := fun _ => True) (okp := fun _ => True) ?hr ?hp (fun _ hk => hk) trivial (Below.refl _ _) (Nat.le_refl _) (by simp) ?_; (case hd => rfl); (case hg => rfl); (case hr => first | (go_simp; done) | (go_simp; rfl)); (case hp => exact (Reps.none _ _)); intro Am w1 ho hb hg_ hnew_; have HO := Aside0.mk ho; have HB := Aside0.mk hb; clear hg_ hnew_ ho hb))
  refine (HG.out _ HB.out).mono ?_; rintro e w2 ⟨rfl, hd⟩; have Af := aM (below_step HB.out Z52); have Ac := aM (Kd.R_below HO.out Z52); clear hd HO HB
  go_wp2_with fail
  refine (HW.out _ Af.out).mono ?_; rintro e w3 ⟨vW, rfl, hRW, hb⟩; obtain ⟨AW, cW, rfl⟩ := Kd.R_slice hRW; have Ad := aM (below_step Af.out hb); have RO0 := aM (Kd.R_below Ac.out hb); have CW := aM (Kd.R_reads' hRW).2.2; clear hRW hb Ac Af
  go_wp2
  go_loopg [4, 6] ws0.length (fun gg s4 s6 wr => ∃ (vo : Value) (i : Int), s4 = vo ∧ s6 = .int .i64 i ∧ Aside0 (0 ≤ i ∧ i ≤ (ws0.length : Int) ∧ (ws0.length : Int) - i ≤ gg) ∧ Aside0 (Kd.R (Kd.int .i64) 3 wr w.heap.size (fun _ => True) vo ((ws0.take i.toNat).foldl (insE (errS k l0)) [])) ∧ Aside0 (Below w3.heap.size w3 wr))
  case atStart => exact ⟨_, 0, rfl, rfl, ⟨by omega, by omega, by omega⟩, RO0, ⟨Below.refl _ _⟩⟩
  case round =>
   obtain ⟨wo, rfl⟩ : ∃ wo : World, wo = wr := ⟨_, rfl⟩; obtain ⟨vo, i, rfl, rfl, HI, RO1, BO⟩ := hrel
   by_cases hlt : i < (ws0.length : Int)
   ·have c0 : decide (i < (ws0.length : Int)) = true := decide_eq_true hlt
    obtain ⟨adW, e0, Ak⟩ := Kd.at_int (Kd.C_below CW.out BO.out) i HI.out.1 hlt; cases e0; have p0 := eq_true HI.out.1; have p1 := eq_true hlt; have HL1 := Aside0.mk hlt; obtain ⟨x, hx⟩ : ∃ x, x = rd ws0 i := ⟨_, rfl⟩; rw [← hx] at Ak
    have hxm : x ∈ ws0 := by
     rw [hx]
     unfold rd
     rw [List.getD_eq_getElem?_getD, List.getElem?_eq_getElem Z61]
     exact List.getElem_mem _
    have HXX := Aside0.mk hx; have HXM := Aside0.mk hxm
    have hw1 : wrap64 (i + 1) = i + 1 := by have := HI.out; have := HQ.out; unfold wrap64; omega
    have Al := Aside0.mk hw1; clear hlt hx hxm hw1; obtain ⟨OUT, hOUT⟩ : ∃ OUT, OUT = (ws0.take i.toNat).foldl (insE (errS k l0)) [] := ⟨_, rfl⟩
    have HOUT : Aside0 (OUT.length ≤ 1000 ∧ ∀ y ∈ OUT, y ∈ ws0) := ⟨by
     obtain ⟨h1, h2⟩ := insE_fold (errS k l0) (ws0.take i.toNat) []; rw [← hOUT] at h1 h2; refine ⟨by rw [h1, List.length_take]; have := HQ.out; simp; omega, fun y hy => ?_⟩
     rcases h2 y hy with h | h
     ·cases h
     ·exact List.mem_of_mem_take h⟩
    have Ac := Aside0.mk hOUT; rw [← hOUT] at RO1; clear hOUT; obtain ⟨AO, cO, rfl⟩ := Kd.R_slice RO1.out
    go_wp2_with fail
    refine (HE.out _ x HXM.out (below_step Ad.out BO.out)).mono ?_; rintro e w4 ⟨rfl, hd⟩; have BS4 := aM (Below.trans BO.out (hd.below.mono (below_size BO.out))); have RO := aM (Kd.R_below RO1.out hd.below); clear hd RO1 Ak
    go_wp2
    go_loopg [9] OUT.length (fun gg s9 ws => ∃ p : Int, s9 = .int .i64 p ∧ Aside0 (0 ≤ p ∧ p ≤ (OUT.length : Int)) ∧ Aside0 (p ≤ gg) ∧ Aside0 (posS (errS k l0) OUT x OUT.length = posS (errS k l0) OUT x p.toNat) ∧ Aside0 (Kd.R (Kd.int .i64) 3 ws w.heap.size (fun _ => True) (.slice AO OUT.length cO) OUT) ∧ Aside0 (Below w3.heap.size w3 ws))
    case atStart => exact ⟨_, rfl, ⟨by omega, by omega⟩, ⟨by omega⟩, ⟨by simp⟩, RO, BS4⟩
    case round =>
     clear RO BS4; obtain ⟨p, rfl, HPP, HPG, HPE, RO, BS⟩ := hrel
     by_cases hj : 0 < p
     ·have c1 : decide (0 < p) = true := decide_eq_true hj
      obtain ⟨q, hq⟩ : ∃ q : Int, q = p - 1 := ⟨_, rfl⟩
      have An : IntKind.i64.wrap (p - 1) = q := by rw [hq]; exact IntWalk.i64_in _ (by have := HPP.out; have := HOUT.out.1; omega)
      have hq0 : 0 ≤ q := by omega
      have hq1 : q < (OUT.length : Int) := by have := HPP.out; omega
      have HQ2 := aM (show p.toNat = q.toNat + 1 by omega); have HQ3 := Aside0.mk hq; clear hq hj; obtain ⟨adO, e0, Ah⟩ := Kd.at_int (Kd.R_reads' RO.out).2.2 q hq0 hq1; cases e0; have hg0 : Aside0 (OUT.getD q.toNat 0 = rd OUT q) := ⟨rfl⟩; obtain ⟨y, hy⟩ : ∃ y, y = rd OUT q := ⟨_, rfl⟩; rw [← hy] at Ah hg0
      have HYM : Aside0 (y ∈ ws0) := ⟨HOUT.out.2 y (by
       rw [hy]
       unfold rd
       rw [List.getD_eq_getElem?_getD, List.getElem?_eq_getElem (by omega)]
       exact List.getElem_mem _)⟩
      have q0 := eq_true hq0; have q1 := eq_true hq1; have HQ4 := Aside0.mk hq0; clear hy hq0 hq1
      by_cases ht : wrap64 ((errS k l0 y).1 * (errS k l0 x).2) ≤ wrap64 ((errS k l0 x).1 * (errS k l0 y).2)
      ·have c2 : decide (wrap64 ((errS k l0 y).1 * (errS k l0 x).2) ≤ wrap64 ((errS k l0 x).1 * (errS k l0 y).2)) = true := decide_eq_true ht
       have HPOS : Aside0 (posS (errS k l0) OUT x OUT.length = p.toNat) := ⟨by rw [HPE.out, HQ2.out, posS, hg0.out, if_pos ht]⟩; clear ht
       go_wp2_with fail
       refine (HE.out _ y HYM.out (below_step Ad.out BS.out)).mono ?_; rintro e w5 ⟨rfl, hd⟩; have BS5 := aM (Below.trans BS.out (hd.below.mono (below_size BS.out))); have RO5 := aM (Kd.R_below RO.out hd.below); clear hd RO BS Ah An q0 q1; have RO := RO5; have BS := BS5; clear RO5 BS5; obtain ⟨W0, rfl⟩ : ∃ W0 : World, W0 = w5 := ⟨_, rfl⟩; have hp0 := HPP.out.1; have hp1 : p ≤ (OUT.length : Int) := HPP.out.2; obtain ⟨i0, hi0, _, hsz0, _⟩ := info_parts info3; have hroom := (Kd.R_reads' RO.out).2.1; have hcutT := cut_to 26 3 .i64 Try.underlying26 hi0 (some adO) OUT.length cO p hp0 hp1 hroom; obtain ⟨AD, hAD⟩ : ∃ AD, AD = (if cO = p.toNat then (some adO) else Option.map (·.add (p.toNat * 1)) (some adO)) := ⟨_, rfl⟩; have hcutF := cut_from 26 3 .i64 Try.underlying26 hi0 1 hsz0 (some adO) OUT.length cO p hp0 hp1; rw [← hAD] at hcutF
       have CO : Aside0 (∀ W', Below W0.heap.size W0 W' → Kd.C (Kd.int .i64) W' (some adO) p.toNat (OUT.take p.toNat)) := ⟨fun W' h => by
        have := Kd.C_take (m := p.toNat) (Kd.C_below (Kd.R_reads' RO.out).2.2 h) (by omega)
        rwa [show (OUT.take p.toNat).length = p.toNat by rw [List.length_take]; omega] at this⟩
       have CD : Aside0 (∀ W', Below W0.heap.size W0 W' → Kd.C (Kd.int .i64) W' AD (OUT.length - p.toNat) (OUT.drop p.toNat)) := ⟨fun W' h => by
        have := Kd.C_drop (m := p.toNat) (Kd.C_below (Kd.R_reads' RO.out).2.2 h) (by omega) hroom; rw [List.length_drop] at this; rw [hAD]
        exact this⟩
       have CELL : Aside0 (∀ W', Below W0.heap.size W0 W' → W'.cell? (adW.add i.toNat) = some (.int .i64 x)) := ⟨fun W' h => by
        obtain ⟨a', e', h'⟩ := Kd.at_int (Kd.C_below (Kd.C_below CW.out BS.out) h) i HI.out.1 HL1.out; obtain rfl := Option.some.inj e'; rw [HXX.out]
        exact h'⟩
       have HBd := aM (below_drew1 (Below.refl W0.heap.size W0)); have LM : Aside0 (OUT.length ≤ 1000 ∧ p.toNat ≤ OUT.length) := ⟨⟨HOUT.out.1, by omega⟩⟩; have HSZ := aM (below_size BS.out); have q0 := eq_true HI.out.1; have q1 := eq_true HL1.out; clear hAD hroom hi0 hsz0
       try go_wp2
       refine start_ (n := 16) (S := fun w' => Below W0.heap.size W0 w' ∧ w'.cell? (adW.add i.toNat) = some (.int .i64 x)) (ds := []) #[false, false, false, false, false, false, false, false, false, false, false, false, false, false, false, false] Z6 rfl rfl ⟨HBd.out, CELL.out _ HBd.out⟩ (fun hHeld => ?_); have HB := HBd; clear HBd
       generalize W0.drew = w1 at HB hHeld ⊢
       refine puK 1 58 #[false, true, false, false, false, false, false, false, false, false, false, false, false, false, false, false] rfl rfl ?_; refine puK 2 59 #[false, true, true, false, false, false, false, false, false, false, false, false, false, false, false, false] rfl rfl ?_; refine puK 3 60 #[false, true, true, true, false, false, false, false, false, false, false, false, false, false, false, false] rfl rfl ?_; refine puK 5 62 #[false, true, true, true, false, true, false, false, false, false, false, false, false, false, false, false] rfl rfl ?_; refine puK 6 63 #[false, true, true, true, false, true, true, false, false, false, false, false, false, false, false, false] rfl rfl ?_; refine puK 7 64 #[false, true, true, true, false, true, true, true, false, false, false, false, false, false, false, false] rfl rfl ?_; refine taK 8 65 #[false, true, true, true, false, true, true, true, true, false, false, false, false, false, false, false] hHeld rfl rfl ?_; refine puK 11 68 #[false, true, true, true, false, true, true, true, true, false, false, true, false, false, false, false] rfl rfl ?_; refine puK 12 69 #[false, true, true, true, false, true, true, true, true, false, false, true, true, false, false, false] rfl rfl ?_; refine puK 13 70 #[false, true, true, true, false, true, true, true, true, false, false, true, true, true, false, false] rfl rfl ?_; refine join_ (σ := Value × Value × Nat) 3 #[true, true, true, true, true, true, true, true, true, true, false, true, true, true, false, false] (fun s_ => [(57, s_.1), (61, s_.2.1), (66, .slice (some ⟨s_.2.2, 0, none⟩) 1 1)]) (fun s_ w' => Below W0.heap.size W0 w' ∧ Kd.R (Kd.int .i64) 3 w' W0.heap.size (fun k_ => k_ ≠ s_.2.2) s_.2.1 (OUT.take p.toNat) ∧ w'.heap[s_.2.2]? = some (.cells #[.int .i64 x] 3 (0, 0))) ?_ (fun hj => ?_)
       rotate_left
       ·skip
        refine two_ (i := 0) (j := 9) (Ni := some 57) (Nj := some 66) #[true, true, true, true, false, true, true, true, true, false, false, true, true, true, false, false] #[false, true, true, true, false, true, true, true, true, true, false, true, true, true, false, false] rfl rfl rfl rfl Z6 (by decide) (by decide) (fun K hK => ?_) (fun K hK => ?_)
        ·skip
         refine Kd.R_lit_step (Kd.int .i64) (w0 := W0) W0.heap.size 3 (by rfl) (N := 57) rfl (xs := ([] : List Int)) (inner := []) (ok := (fun _ => True)) (okp := fun _ => False) ?hr (Reps.none _ _) (fun _ hk => hk.elim) trivial HB.out HB.out.size (by simp) ?_; (case hr => first | (go_simp; done) | (go_simp; rfl)); intro Aa w1 ho hb hg hat; have n0_ := Aside0.mk hb; have n3_ := Aside0.mk ho; clear HB ho hb hg hat; have HB := n0_; have HC := n3_; clear n0_ n3_; refine hK.out _ _ Z21 (fun hHeld => ?_); clear hK K; refine noR 57 ?_; refine two_ (i := 4) (j := 9) (Ni := some 61) (Nj := some 66) #[true, true, true, true, true, true, true, true, true, false, false, true, true, true, false, false] #[true, true, true, true, false, true, true, true, true, true, false, true, true, true, false, false] rfl rfl rfl rfl Z6 (by decide) (by decide) (fun K hK => ?_) (fun K hK => ?_)
         ·skip
          refine Kd.R_append_rows_step (Kd.int .i64) (w0 := W0) W0.heap.size (by rfl) (.tmp 57) (.tmp 60) 26 3 (.int .i64 0) 8 rfl Try.underlying26 info3 rfl (by decide) (by omega) Aa ([] : List Int) (OUT.take p.toNat) _ _ _ (fun _ => True) (fun _ => False) rfl rfl ?aO ?aR (fun _ _ h => h) (fun _ h => h.elim) ?aF HB.out HB.out.size ?aL ?_; (case aO => exact HC.out); (case aR => exact CO.out _ HB.out); (case aF => exact (fun k_ hk => trivial)); (case aL => have := LM.out; simp; omega); intro Ab w1 ho hb hg hat; have n0_ := Aside0.mk hb; have n3_ := Aside0.mk ho; clear HB HC ho hb hg hat; have HB := n0_; have HC := n3_; clear n0_ n3_; refine hK.out _ _ Z21 (fun hHeld => ?_); clear hK K; refine noR 61 ?_; refine one_ (i := 9) (N := some 66) #[true, true, true, true, true, true, true, true, true, true, false, true, true, true, false, false] rfl rfl Z6 (by decide) (fun K hK => ?_); have HL := aM (lit_new HB.out (.cells #[.int .i64 x] 3)).2; have n3_ := aM (lit_apart HC.out (.cells #[.int .i64 x] 3)); have n0_ := aM (lit_new HB.out (.cells #[.int .i64 x] 3)).1; refine value_ (w1 := ?_) (v := ?_) (by rfl) rfl ?_ ?_
          rotate_left 2
          ·go_simp
           constructor
           ·rfl
           ·rfl
          clear HB HC; have HB := n0_; have HC := n3_; clear n3_; clear n0_; refine hK.out _ _ Z21 (fun hHeld => ?_); clear hK K; refine noR 66 ?_
          generalize w1.alloc (.cells #[.int .i64 x] 3) = w9 at HB HL HC hHeld ⊢
          generalize w1.heap.size = b9 at HL HC ⊢
          (try clear w1); obtain ⟨w1, rfl⟩ : ∃ w1 : World, w1 = w9 := ⟨_, rfl⟩
          exact norm_ Z12 (hj (Aa, Ab, b9) _ ⟨HB.out, HC.out, HL.out⟩)
         ·skip
          have HL := aM (lit_new HB.out (.cells #[.int .i64 x] 3)).2; have n3_ := aM (lit_apart HC.out (.cells #[.int .i64 x] 3)); have n0_ := aM (lit_new HB.out (.cells #[.int .i64 x] 3)).1; refine value_ (w1 := ?_) (v := ?_) (by rfl) rfl ?_ ?_
          rotate_left 2
          ·go_simp
           constructor
           ·rfl
           ·rfl
          clear HB HC; have HB := n0_; have HC := n3_; clear n3_; clear n0_; refine hK.out _ _ Z21 (fun hHeld => ?_); clear hK K; refine noR 66 ?_
          generalize w1.alloc (.cells #[.int .i64 x] 3) = w9 at HB HL HC hHeld ⊢
          generalize w1.heap.size = b9 at HL HC ⊢
          (try clear w1); obtain ⟨w1, rfl⟩ : ∃ w1 : World, w1 = w9 := ⟨_, rfl⟩; refine one_ (i := 4) (N := some 61) #[true, true, true, true, true, true, true, true, true, true, false, true, true, true, false, false] rfl rfl Z6 (by decide) (fun K hK => ?_); refine Kd.R_append_rows_step (Kd.int .i64) (w0 := W0) W0.heap.size (by rfl) (.tmp 57) (.tmp 60) 26 3 (.int .i64 0) 8 rfl Try.underlying26 info3 rfl (by decide) (by omega) Aa ([] : List Int) (OUT.take p.toNat) _ _ _ (fun k_ => k_ ≠ b9) (fun _ => False) rfl rfl ?aO ?aR (fun _ _ h => h) (fun _ h => h.elim) ?aF HB.out HB.out.size ?aL ?_; (case aO => exact HC.out); (case aR => exact CO.out _ HB.out); (case aF => exact (fun k_ hk => Nat.ne_of_gt (Nat.lt_of_lt_of_le (blk_lt HL.out) hk))); (case aL => have := LM.out; simp; omega); intro Ab w1 ho hb hg hat; have n2_ := aM (blk_grown HL.out hg (lit_ne HC.out)); clear HL; have HL := n2_; clear n2_; have n0_ := Aside0.mk hb; have n3_ := Aside0.mk ho; clear HB HC ho hb hg hat; have HB := n0_; have HC := n3_; clear n0_ n3_; refine hK.out _ _ Z21 (fun hHeld => ?_); clear hK K; refine noR 61 ?_
          exact norm_ Z12 (hj (Aa, Ab, b9) _ ⟨HB.out, HC.out, HL.out⟩)
        ·skip
         have HL := aM (lit_new HB.out (.cells #[.int .i64 x] 3)).2; have n0_ := aM (lit_new HB.out (.cells #[.int .i64 x] 3)).1; refine value_ (w1 := ?_) (v := ?_) (by rfl) rfl ?_ ?_
         rotate_left 2
         ·go_simp
          constructor
          ·rfl
          ·rfl
         clear HB; have HB := n0_; clear n0_; refine hK.out _ _ Z21 (fun hHeld => ?_); clear hK K; refine noR 66 ?_
         generalize w1.alloc (.cells #[.int .i64 x] 3) = w9 at HB HL hHeld ⊢
         generalize w1.heap.size = b9 at HL ⊢
         (try clear w1); obtain ⟨w1, rfl⟩ : ∃ w1 : World, w1 = w9 := ⟨_, rfl⟩; refine one_ (i := 0) (N := some 57) #[true, true, true, true, false, true, true, true, true, true, false, true, true, true, false, false] rfl rfl Z6 (by decide) (fun K hK => ?_); refine Kd.R_lit_step (Kd.int .i64) (w0 := W0) W0.heap.size 3 (by rfl) (N := 57) rfl (xs := ([] : List Int)) (inner := []) (ok := (fun k_ => k_ ≠ b9)) (okp := fun _ => False) ?hr (Reps.none _ _) (fun _ hk => hk.elim) (Nat.ne_of_gt (blk_lt HL.out)) HB.out HB.out.size (by simp) ?_; (case hr => first | (go_simp; done) | (go_simp; rfl)); intro Aa w1 ho hb hg hat; have n2_ := aM (blk_grown HL.out hg (by simp)); clear HL; have HL := n2_; clear n2_; have n0_ := Aside0.mk hb; have n3_ := Aside0.mk ho; clear HB ho hb hg hat; have HB := n0_; have HC := n3_; clear n0_ n3_; refine hK.out _ _ Z21 (fun hHeld => ?_); clear hK K; refine noR 57 ?_; refine one_ (i := 4) (N := some 61) #[true, true, true, true, true, true, true, true, true, true, false, true, true, true, false, false] rfl rfl Z6 (by decide) (fun K hK => ?_); refine Kd.R_append_rows_step (Kd.int .i64) (w0 := W0) W0.heap.size (by rfl) (.tmp 57) (.tmp 60) 26 3 (.int .i64 0) 8 rfl Try.underlying26 info3 rfl (by decide) (by omega) Aa ([] : List Int) (OUT.take p.toNat) _ _ _ (fun k_ => k_ ≠ b9) (fun _ => False) rfl rfl ?aO ?aR (fun _ _ h => h) (fun _ h => h.elim) ?aF HB.out HB.out.size ?aL ?_; (case aO => exact HC.out); (case aR => exact CO.out _ HB.out); (case aF => exact (fun k_ hk => Nat.ne_of_gt (Nat.lt_of_lt_of_le (blk_lt HL.out) hk))); (case aL => have := LM.out; simp; omega); intro Ab w1 ho hb hg hat; have n2_ := aM (blk_grown HL.out hg (lit_ne HC.out)); clear HL; have HL := n2_; clear n2_; have n0_ := Aside0.mk hb; have n3_ := Aside0.mk ho; clear HB HC ho hb hg hat; have HB := n0_; have HC := n3_; clear n0_ n3_; refine hK.out _ _ Z21 (fun hHeld => ?_); clear hK K; refine noR 61 ?_
         exact norm_ Z12 (hj (Aa, Ab, b9) _ ⟨HB.out, HC.out, HL.out⟩)
       rintro ⟨Aa, Ab, b9⟩ w1 ⟨h0_, h1_, h2_⟩; have HB := Aside0.mk h0_; have HC := Aside0.mk h1_; have HL := Aside0.mk h2_; have hHeld : Below W0.heap.size W0 w1 ∧ w1.cell? (adW.add i.toNat) = some (.int .i64 x) := ⟨h0_, CELL.out _ h0_⟩; clear h0_ h1_ h2_; refine norm_ (a' := ?_) ?_ ?_
       rotate_left
       ·simp only [putAll, Act.put, List.setIfInBounds_toArray, List.set_cons_zero, List.set_cons_succ]
        rfl
       refine one_ (i := 10) (N := some 67) #[true, true, true, true, true, true, true, true, true, true, true, true, true, true, false, false] rfl rfl Z6 (by decide) (fun K hK => ?_); refine Kd.R_append_rows_step (Kd.int .i64) (w0 := W0) W0.heap.size (by rfl) (.tmp 61) (.tmp 66) 26 3 (.int .i64 0) 8 rfl Try.underlying26 info3 rfl (by decide) (by omega) Ab (OUT.take p.toNat) [x] _ _ _ (fun _ => True) (fun _ => False) rfl rfl ?aO ?aR (fun _ _ h => h) (fun _ h => h.elim) ?aF HB.out HB.out.size ?aL ?_; (case aO => exact (Kd.R_mono HC.out (fun _ _ => trivial))); (case aR => exact (C_of_block (by simp) HL.out (fun i u hu => by simpa using hu))); (case aF => exact (fun _ _ => trivial)); (case aL => have := LM.out; simp; omega); intro Ai w1 ho hb hg hat; have n0_ := Aside0.mk hb; have n3_ := Aside0.mk ho; clear HB HC ho hb hg hat; have HB := n0_; have HC := n3_; clear n0_ n3_; refine hK.out _ _ Z21 (fun hHeld => ?_); clear hK K; refine noR 67 ?_; refine one_ (i := 14) (N := some 71) #[true, true, true, true, true, true, true, true, true, true, true, true, true, true, true, false] rfl rfl Z6 (by decide) (fun K hK => ?_); refine Kd.R_append_rows_step (Kd.int .i64) (w0 := W0) W0.heap.size (by rfl) (.tmp 67) (.tmp 70) 26 3 (.int .i64 0) 8 rfl Try.underlying26 info3 rfl (by decide) (by omega) Ai (OUT.take p.toNat ++ [x]) (OUT.drop p.toNat) _ _ _ (fun _ => True) (fun _ => False) rfl rfl ?aO ?aR (fun _ _ h => h) (fun _ h => h.elim) ?aF HB.out HB.out.size ?aL ?_; (case aO => exact HC.out); (case aR => exact CD.out _ HB.out); (case aF => exact (fun _ _ => trivial)); (case aL => have := LM.out; simp; omega); intro Ao w1 ho hb hg hat; have n0_ := Aside0.mk hb; have n3_ := Aside0.mk ho; clear HB HC ho hb hg hat; have HB := n0_; have HC := n3_; clear n0_ n3_; refine hK.out _ _ Z21 (fun hHeld => ?_); clear hK K; refine noR 71 ?_; refine puK 15 4 #[true, true, true, true, true, true, true, true, true, true, true, true, true, true, true, true] rfl rfl ?_; refine done_ Z6 ?_; have hw1 := Al.out
       go_wp2
       go_roundg (ws0.length - (i.toNat + 1))
       case measure => have := HI.out; have := HL1.out; omega
       case rel =>
        refine ⟨_, i + 1, rfl, Z47, ⟨Z61, by have := HL1.out; omega, by have := HI.out; have := HL1.out; omega⟩, ⟨?_⟩, ⟨Below.trans BS.out (HB.out.mono HSZ.out)⟩⟩; have e1 := insE_step (errS k l0) ws0 i HI.out.1 HL1.out; rw [e1, ← Ac.out, ← HXX.out]
        unfold insE
        rw [HPOS.out]; have e2 : (p.toNat : Nat) = p.toNat := rfl; refine Kd.R_lower (by simpa using HC.out) (below_size (below_step Ad.out BS.out))
      ·have c2 : decide (wrap64 ((errS k l0 y).1 * (errS k l0 x).2) ≤ wrap64 ((errS k l0 x).1 * (errS k l0 y).2)) = false := decide_eq_false ht
       have HPE2 : Aside0 (posS (errS k l0) OUT x OUT.length = posS (errS k l0) OUT x q.toNat) := ⟨by rw [HPE.out, HQ2.out, posS, hg0.out, if_neg ht]⟩; clear ht
       go_wp2_with fail
       refine (HE.out _ y HYM.out (below_step Ad.out BS.out)).mono ?_; rintro e w5 ⟨rfl, hd⟩; have BS5 := aM (Below.trans BS.out (hd.below.mono (below_size BS.out))); have RO5 := aM (Kd.R_below RO.out hd.below); clear hd Ah
       go_wp2
       go_roundg q.toNat
       case measure => have := HPG.out; have := HQ2.out; omega
       case rel => exact ⟨q, rfl, ⟨by have := HQ4.out; omega, by have := HPP.out; have := HQ3.out; omega⟩, ⟨by have := HQ4.out; omega⟩, HPE2, RO5, BS5⟩
     ·have c1 : decide (0 < p) = false := decide_eq_false hj
      have HPOS : Aside0 (posS (errS k l0) OUT x OUT.length = p.toNat) := ⟨by rw [HPE.out, show p.toNat = 0 by omega]; rfl⟩; clear hj; obtain ⟨W0, rfl⟩ : ∃ W0 : World, W0 = wr := ⟨_, rfl⟩; have hp0 := HPP.out.1; have hp1 : p ≤ (OUT.length : Int) := HPP.out.2; obtain ⟨i0, hi0, _, hsz0, _⟩ := info_parts info3; have hroom := (Kd.R_reads' RO.out).2.1; have hcutT := cut_to 26 3 .i64 Try.underlying26 hi0 AO OUT.length cO p hp0 hp1 hroom; obtain ⟨AD, hAD⟩ : ∃ AD, AD = (if cO = p.toNat then AO else Option.map (·.add (p.toNat * 1)) AO) := ⟨_, rfl⟩; have hcutF := cut_from 26 3 .i64 Try.underlying26 hi0 1 hsz0 AO OUT.length cO p hp0 hp1; rw [← hAD] at hcutF
      have CO : Aside0 (∀ W', Below W0.heap.size W0 W' → Kd.C (Kd.int .i64) W' AO p.toNat (OUT.take p.toNat)) := ⟨fun W' h => by
       have := Kd.C_take (m := p.toNat) (Kd.C_below (Kd.R_reads' RO.out).2.2 h) (by omega)
       rwa [show (OUT.take p.toNat).length = p.toNat by rw [List.length_take]; omega] at this⟩
      have CD : Aside0 (∀ W', Below W0.heap.size W0 W' → Kd.C (Kd.int .i64) W' AD (OUT.length - p.toNat) (OUT.drop p.toNat)) := ⟨fun W' h => by
       have := Kd.C_drop (m := p.toNat) (Kd.C_below (Kd.R_reads' RO.out).2.2 h) (by omega) hroom; rw [List.length_drop] at this; rw [hAD]
       exact this⟩
      have CELL : Aside0 (∀ W', Below W0.heap.size W0 W' → W'.cell? (adW.add i.toNat) = some (.int .i64 x)) := ⟨fun W' h => by
       obtain ⟨a', e', h'⟩ := Kd.at_int (Kd.C_below (Kd.C_below CW.out BS.out) h) i HI.out.1 HL1.out; obtain rfl := Option.some.inj e'; rw [HXX.out]
       exact h'⟩
      have HBd := aM (below_drew1 (Below.refl W0.heap.size W0)); have LM : Aside0 (OUT.length ≤ 1000 ∧ p.toNat ≤ OUT.length) := ⟨⟨HOUT.out.1, by omega⟩⟩; have HSZ := aM (below_size BS.out); have q0 := eq_true HI.out.1; have q1 := eq_true HL1.out; clear hAD hroom hi0 hsz0
      try go_wp2
      refine start_ (n := 16) (S := fun w' => Below W0.heap.size W0 w' ∧ w'.cell? (adW.add i.toNat) = some (.int .i64 x)) (ds := []) #[false, false, false, false, false, false, false, false, false, false, false, false, false, false, false, false] Z6 rfl rfl ⟨HBd.out, CELL.out _ HBd.out⟩ (fun hHeld => ?_); have HB := HBd; clear HBd
      generalize W0.drew = w1 at HB hHeld ⊢
      refine puK 1 58 #[false, true, false, false, false, false, false, false, false, false, false, false, false, false, false, false] rfl rfl ?_; refine puK 2 59 #[false, true, true, false, false, false, false, false, false, false, false, false, false, false, false, false] rfl rfl ?_; refine puK 3 60 #[false, true, true, true, false, false, false, false, false, false, false, false, false, false, false, false] rfl rfl ?_; refine puK 5 62 #[false, true, true, true, false, true, false, false, false, false, false, false, false, false, false, false] rfl rfl ?_; refine puK 6 63 #[false, true, true, true, false, true, true, false, false, false, false, false, false, false, false, false] rfl rfl ?_; refine puK 7 64 #[false, true, true, true, false, true, true, true, false, false, false, false, false, false, false, false] rfl rfl ?_; refine taK 8 65 #[false, true, true, true, false, true, true, true, true, false, false, false, false, false, false, false] hHeld rfl rfl ?_; refine puK 11 68 #[false, true, true, true, false, true, true, true, true, false, false, true, false, false, false, false] rfl rfl ?_; refine puK 12 69 #[false, true, true, true, false, true, true, true, true, false, false, true, true, false, false, false] rfl rfl ?_; refine puK 13 70 #[false, true, true, true, false, true, true, true, true, false, false, true, true, true, false, false] rfl rfl ?_; refine join_ (σ := Value × Value × Nat) 3 #[true, true, true, true, true, true, true, true, true, true, false, true, true, true, false, false] (fun s_ => [(57, s_.1), (61, s_.2.1), (66, .slice (some ⟨s_.2.2, 0, none⟩) 1 1)]) (fun s_ w' => Below W0.heap.size W0 w' ∧ Kd.R (Kd.int .i64) 3 w' W0.heap.size (fun k_ => k_ ≠ s_.2.2) s_.2.1 (OUT.take p.toNat) ∧ w'.heap[s_.2.2]? = some (.cells #[.int .i64 x] 3 (0, 0))) ?_ (fun hj => ?_)
      rotate_left
      ·skip
       refine two_ (i := 0) (j := 9) (Ni := some 57) (Nj := some 66) #[true, true, true, true, false, true, true, true, true, false, false, true, true, true, false, false] #[false, true, true, true, false, true, true, true, true, true, false, true, true, true, false, false] rfl rfl rfl rfl Z6 (by decide) (by decide) (fun K hK => ?_) (fun K hK => ?_)
       ·skip
        refine Kd.R_lit_step (Kd.int .i64) (w0 := W0) W0.heap.size 3 (by rfl) (N := 57) rfl (xs := ([] : List Int)) (inner := []) (ok := (fun _ => True)) (okp := fun _ => False) ?hr (Reps.none _ _) (fun _ hk => hk.elim) trivial HB.out HB.out.size (by simp) ?_; (case hr => first | (go_simp; done) | (go_simp; rfl)); intro Aa w1 ho hb hg hat; have n0_ := Aside0.mk hb; have n3_ := Aside0.mk ho; clear HB ho hb hg hat; have HB := n0_; have HC := n3_; clear n0_ n3_; refine hK.out _ _ Z21 (fun hHeld => ?_); clear hK K; refine noR 57 ?_; refine two_ (i := 4) (j := 9) (Ni := some 61) (Nj := some 66) #[true, true, true, true, true, true, true, true, true, false, false, true, true, true, false, false] #[true, true, true, true, false, true, true, true, true, true, false, true, true, true, false, false] rfl rfl rfl rfl Z6 (by decide) (by decide) (fun K hK => ?_) (fun K hK => ?_)
        ·skip
         refine Kd.R_append_rows_step (Kd.int .i64) (w0 := W0) W0.heap.size (by rfl) (.tmp 57) (.tmp 60) 26 3 (.int .i64 0) 8 rfl Try.underlying26 info3 rfl (by decide) (by omega) Aa ([] : List Int) (OUT.take p.toNat) _ _ _ (fun _ => True) (fun _ => False) rfl rfl ?aO ?aR (fun _ _ h => h) (fun _ h => h.elim) ?aF HB.out HB.out.size ?aL ?_; (case aO => exact HC.out); (case aR => exact CO.out _ HB.out); (case aF => exact (fun k_ hk => trivial)); (case aL => have := LM.out; simp; omega); intro Ab w1 ho hb hg hat; have n0_ := Aside0.mk hb; have n3_ := Aside0.mk ho; clear HB HC ho hb hg hat; have HB := n0_; have HC := n3_; clear n0_ n3_; refine hK.out _ _ Z21 (fun hHeld => ?_); clear hK K; refine noR 61 ?_; refine one_ (i := 9) (N := some 66) #[true, true, true, true, true, true, true, true, true, true, false, true, true, true, false, false] rfl rfl Z6 (by decide) (fun K hK => ?_); have HL := aM (lit_new HB.out (.cells #[.int .i64 x] 3)).2; have n3_ := aM (lit_apart HC.out (.cells #[.int .i64 x] 3)); have n0_ := aM (lit_new HB.out (.cells #[.int .i64 x] 3)).1; refine value_ (w1 := ?_) (v := ?_) (by rfl) rfl ?_ ?_
         rotate_left 2
         ·go_simp
          constructor
          ·rfl
          ·rfl
         clear HB HC; have HB := n0_; have HC := n3_; clear n3_; clear n0_; refine hK.out _ _ Z21 (fun hHeld => ?_); clear hK K; refine noR 66 ?_
         generalize w1.alloc (.cells #[.int .i64 x] 3) = w9 at HB HL HC hHeld ⊢
         generalize w1.heap.size = b9 at HL HC ⊢
         (try clear w1); obtain ⟨w1, rfl⟩ : ∃ w1 : World, w1 = w9 := ⟨_, rfl⟩
         exact norm_ Z12 (hj (Aa, Ab, b9) _ ⟨HB.out, HC.out, HL.out⟩)
        ·skip
         have HL := aM (lit_new HB.out (.cells #[.int .i64 x] 3)).2; have n3_ := aM (lit_apart HC.out (.cells #[.int .i64 x] 3)); have n0_ := aM (lit_new HB.out (.cells #[.int .i64 x] 3)).1; refine value_ (w1 := ?_) (v := ?_) (by rfl) rfl ?_ ?_
         rotate_left 2
         ·go_simp
          constructor
          ·rfl
          ·rfl
         clear HB HC; have HB := n0_; have HC := n3_; clear n3_; clear n0_; refine hK.out _ _ Z21 (fun hHeld => ?_); clear hK K; refine noR 66 ?_
         generalize w1.alloc (.cells #[.int .i64 x] 3) = w9 at HB HL HC hHeld ⊢
         generalize w1.heap.size = b9 at HL HC ⊢
         (try clear w1); obtain ⟨w1, rfl⟩ : ∃ w1 : World, w1 = w9 := ⟨_, rfl⟩; refine one_ (i := 4) (N := some 61) #[true, true, true, true, true, true, true, true, true, true, false, true, true, true, false, false] rfl rfl Z6 (by decide) (fun K hK => ?_); refine Kd.R_append_rows_step (Kd.int .i64) (w0 := W0) W0.heap.size (by rfl) (.tmp 57) (.tmp 60) 26 3 (.int .i64 0) 8 rfl Try.underlying26 info3 rfl (by decide) (by omega) Aa ([] : List Int) (OUT.take p.toNat) _ _ _ (fun k_ => k_ ≠ b9) (fun _ => False) rfl rfl ?aO ?aR (fun _ _ h => h) (fun _ h => h.elim) ?aF HB.out HB.out.size ?aL ?_; (case aO => exact HC.out); (case aR => exact CO.out _ HB.out); (case aF => exact (fun k_ hk => Nat.ne_of_gt (Nat.lt_of_lt_of_le (blk_lt HL.out) hk))); (case aL => have := LM.out; simp; omega); intro Ab w1 ho hb hg hat; have n2_ := aM (blk_grown HL.out hg (lit_ne HC.out)); clear HL; have HL := n2_; clear n2_; have n0_ := Aside0.mk hb; have n3_ := Aside0.mk ho; clear HB HC ho hb hg hat; have HB := n0_; have HC := n3_; clear n0_ n3_; refine hK.out _ _ Z21 (fun hHeld => ?_); clear hK K; refine noR 61 ?_
         exact norm_ Z12 (hj (Aa, Ab, b9) _ ⟨HB.out, HC.out, HL.out⟩)
       ·skip
        have HL := aM (lit_new HB.out (.cells #[.int .i64 x] 3)).2; have n0_ := aM (lit_new HB.out (.cells #[.int .i64 x] 3)).1; refine value_ (w1 := ?_) (v := ?_) (by rfl) rfl ?_ ?_
        rotate_left 2
        ·go_simp
         constructor
         ·rfl
         ·rfl
        clear HB; have HB := n0_; clear n0_; refine hK.out _ _ Z21 (fun hHeld => ?_); clear hK K; refine noR 66 ?_
        generalize w1.alloc (.cells #[.int .i64 x] 3) = w9 at HB HL hHeld ⊢
        generalize w1.heap.size = b9 at HL ⊢
        (try clear w1); obtain ⟨w1, rfl⟩ : ∃ w1 : World, w1 = w9 := ⟨_, rfl⟩; refine one_ (i := 0) (N := some 57) #[true, true, true, true, false, true, true, true, true, true, false, true, true, true, false, false] rfl rfl Z6 (by decide) (fun K hK => ?_); refine Kd.R_lit_step (Kd.int .i64) (w0 := W0) W0.heap.size 3 (by rfl) (N := 57) rfl (xs := ([] : List Int)) (inner := []) (ok := (fun k_ => k_ ≠ b9)) (okp := fun _ => False) ?hr (Reps.none _ _) (fun _ hk => hk.elim) (Nat.ne_of_gt (blk_lt HL.out)) HB.out HB.out.size (by simp) ?_; (case hr => first | (go_simp; done) | (go_simp; rfl)); intro Aa w1 ho hb hg hat; have n2_ := aM (blk_grown HL.out hg (by simp)); clear HL; have HL := n2_; clear n2_; have n0_ := Aside0.mk hb; have n3_ := Aside0.mk ho; clear HB ho hb hg hat; have HB := n0_; have HC := n3_; clear n0_ n3_; refine hK.out _ _ Z21 (fun hHeld => ?_); clear hK K; refine noR 57 ?_; refine one_ (i := 4) (N := some 61) #[true, true, true, true, true, true, true, true, true, true, false, true, true, true, false, false] rfl rfl Z6 (by decide) (fun K hK => ?_); refine Kd.R_append_rows_step (Kd.int .i64) (w0 := W0) W0.heap.size (by rfl) (.tmp 57) (.tmp 60) 26 3 (.int .i64 0) 8 rfl Try.underlying26 info3 rfl (by decide) (by omega) Aa ([] : List Int) (OUT.take p.toNat) _ _ _ (fun k_ => k_ ≠ b9) (fun _ => False) rfl rfl ?aO ?aR (fun _ _ h => h) (fun _ h => h.elim) ?aF HB.out HB.out.size ?aL ?_; (case aO => exact HC.out); (case aR => exact CO.out _ HB.out); (case aF => exact (fun k_ hk => Nat.ne_of_gt (Nat.lt_of_lt_of_le (blk_lt HL.out) hk))); (case aL => have := LM.out; simp; omega); intro Ab w1 ho hb hg hat; have n2_ := aM (blk_grown HL.out hg (lit_ne HC.out)); clear HL; have HL := n2_; clear n2_; have n0_ := Aside0.mk hb; have n3_ := Aside0.mk ho; clear HB HC ho hb hg hat; have HB := n0_; have HC := n3_; clear n0_ n3_; refine hK.out _ _ Z21 (fun hHeld => ?_); clear hK K; refine noR 61 ?_
        exact norm_ Z12 (hj (Aa, Ab, b9) _ ⟨HB.out, HC.out, HL.out⟩)
      rintro ⟨Aa, Ab, b9⟩ w1 ⟨h0_, h1_, h2_⟩; have HB := Aside0.mk h0_; have HC := Aside0.mk h1_; have HL := Aside0.mk h2_; have hHeld : Below W0.heap.size W0 w1 ∧ w1.cell? (adW.add i.toNat) = some (.int .i64 x) := ⟨h0_, CELL.out _ h0_⟩; clear h0_ h1_ h2_; refine norm_ (a' := ?_) ?_ ?_
      rotate_left
      ·simp only [putAll, Act.put, List.setIfInBounds_toArray, List.set_cons_zero, List.set_cons_succ]
       rfl
      refine one_ (i := 10) (N := some 67) #[true, true, true, true, true, true, true, true, true, true, true, true, true, true, false, false] rfl rfl Z6 (by decide) (fun K hK => ?_); refine Kd.R_append_rows_step (Kd.int .i64) (w0 := W0) W0.heap.size (by rfl) (.tmp 61) (.tmp 66) 26 3 (.int .i64 0) 8 rfl Try.underlying26 info3 rfl (by decide) (by omega) Ab (OUT.take p.toNat) [x] _ _ _ (fun _ => True) (fun _ => False) rfl rfl ?aO ?aR (fun _ _ h => h) (fun _ h => h.elim) ?aF HB.out HB.out.size ?aL ?_; (case aO => exact (Kd.R_mono HC.out (fun _ _ => trivial))); (case aR => exact (C_of_block (by simp) HL.out (fun i u hu => by simpa using hu))); (case aF => exact (fun _ _ => trivial)); (case aL => have := LM.out; simp; omega); intro Ai w1 ho hb hg hat; have n0_ := Aside0.mk hb; have n3_ := Aside0.mk ho; clear HB HC ho hb hg hat; have HB := n0_; have HC := n3_; clear n0_ n3_; refine hK.out _ _ Z21 (fun hHeld => ?_); clear hK K; refine noR 67 ?_; refine one_ (i := 14) (N := some 71) #[true, true, true, true, true, true, true, true, true, true, true, true, true, true, true, false] rfl rfl Z6 (by decide) (fun K hK => ?_); refine Kd.R_append_rows_step (Kd.int .i64) (w0 := W0) W0.heap.size (by rfl) (.tmp 67) (.tmp 70) 26 3 (.int .i64 0) 8 rfl Try.underlying26 info3 rfl (by decide) (by omega) Ai (OUT.take p.toNat ++ [x]) (OUT.drop p.toNat) _ _ _ (fun _ => True) (fun _ => False) rfl rfl ?aO ?aR (fun _ _ h => h) (fun _ h => h.elim) ?aF HB.out HB.out.size ?aL ?_; (case aO => exact HC.out); (case aR => exact CD.out _ HB.out); (case aF => exact (fun _ _ => trivial)); (case aL => have := LM.out; simp; omega); intro Ao w1 ho hb hg hat; have n0_ := Aside0.mk hb; have n3_ := Aside0.mk ho; clear HB HC ho hb hg hat; have HB := n0_; have HC := n3_; clear n0_ n3_; refine hK.out _ _ Z21 (fun hHeld => ?_); clear hK K; refine noR 71 ?_; refine puK 15 4 #[true, true, true, true, true, true, true, true, true, true, true, true, true, true, true, true] rfl rfl ?_; refine done_ Z6 ?_; have hw1 := Al.out
      go_wp2
      go_roundg (ws0.length - (i.toNat + 1))
      case measure => have := HI.out; have := HL1.out; omega
      case rel =>
       refine ⟨_, i + 1, rfl, Z47, ⟨Z61, by have := HL1.out; omega, by have := HI.out; have := HL1.out; omega⟩, ⟨?_⟩, ⟨Below.trans BS.out (HB.out.mono HSZ.out)⟩⟩; have e1 := insE_step (errS k l0) ws0 i HI.out.1 HL1.out; rw [e1, ← Ac.out, ← HXX.out]
       unfold insE
       rw [HPOS.out]; have e2 : (p.toNat : Nat) = p.toNat := rfl; refine Kd.R_lower (by simpa using HC.out) (below_size (below_step Ad.out BS.out))
   ·have c0 : decide (i < (ws0.length : Int)) = false := decide_eq_false hlt
    have HLL := aM (show (ws0.take i.toNat) = ws0 from List.take_of_length_le Z61); clear hlt; rw [HLL.out] at RO1; obtain ⟨AO, cO, rfl⟩ := Kd.R_slice RO1.out
    go_wp2
    go_ret2
    have h5 := RO1.out
    exact ⟨_, Z54, h5, below_step Ad.out BO.out⟩
def impl_in.f (a0 : Int) (a1 : Int) (a2 : Int) : Option (Bool) := if a0 ≥ a1 then (some (decide (a0 ≤ a2))) else (some false)
theorem impl_in.calls (a0 : Int) (a1 : Int) (a2 : Int) (r : Bool) (w : World) (h : impl_in.f a0 a1 a2 = some r) :
  Calls Try.prog 52 #[.int .i64 a0, .int .i64 a1, .int .i64 a2] w fun e w' => e = .returned (.bool r) ∧ Drawn0 w w' := by
 have H : (if a0 ≥ a1 then (some (decide (a0 ≤ a2))) else (some false)) = some r := h; clear h
 by_cases c4 : a0 ≥ a1
 ·rw [if_pos c4] at H
  have c4b0 : decide (a1 ≤ a0) = true := decide_eq_true c4; clear c4; obtain rfl := Option.some.inj H
  go_enter Try.func52, Try.ntmps52
  go_wp2
  go_ret
  exact ⟨Z3, Z9⟩
 ·rw [if_neg c4] at H
  have c4b0 : decide (a1 ≤ a0) = false := decide_eq_false c4; clear c4; obtain rfl := Option.some.inj H
  go_enter Try.func52, Try.ntmps52
  go_wp2
  go_ret
  exact ⟨Z3, Z9⟩
theorem impl_in.eq (a b c : Int) : impl_in.f a b c = some (rng a b c) := by
 unfold impl_in.f rng; by_cases h : b ≤ a <;> simp [h]
def impl_isId.f (a0 : Int) : Option (Bool) := (impl_in.f a0 1 99).bind fun t193 => (some t193)
theorem impl_isId.calls (a0 : Int) (r : Bool) (w : World) (h : impl_isId.f a0 = some r) :
  Calls Try.prog 55 #[.int .i64 a0] w fun e w' => e = .returned (.bool r) ∧ Drawn0 w w' := by
 have H : ((impl_in.f a0 1 99).bind fun Aa => (some Aa)) = some r := h; clear h; replace H := Option.bind_eq_some_iff.mp H; obtain ⟨Aa, Ab, H⟩ := H; replace H : (some Aa) = some r := H; have A2 := Aside0.mk Ab; clear Ab; obtain rfl := Option.some.inj H
 go_enter Try.func55, Try.ntmps55
 go_wp2_with (first | ((with_reducible refine gate_callee (f := 52) rfl ?_); refine glE (some 4) Try.func52 #[.int .i64 a0, .int .i64 1, .int .i64 99] ?_; (with_reducible refine (impl_in.calls a0 1 99 Aa _ A2.out).mono ?_); rintro e w' ⟨rfl, ⟨nd, rfl⟩⟩; refine ⟨_, rfl, ?_⟩))
 go_ret
 exact ⟨Z3, Z9⟩
def impl_isDay.f (a0 : Int) : Option (Bool) := (impl_in.f a0 0 4000).bind fun t194 => (some t194)
theorem impl_isDay.calls (a0 : Int) (r : Bool) (w : World) (h : impl_isDay.f a0 = some r) :
  Calls Try.prog 56 #[.int .i64 a0] w fun e w' => e = .returned (.bool r) ∧ Drawn0 w w' := by
 have H : ((impl_in.f a0 0 4000).bind fun Aa => (some Aa)) = some r := h; clear h; replace H := Option.bind_eq_some_iff.mp H; obtain ⟨Aa, Ab, H⟩ := H; replace H : (some Aa) = some r := H; have A2 := Aside0.mk Ab; clear Ab; obtain rfl := Option.some.inj H
 go_enter Try.func56, Try.ntmps56
 go_wp2_with (first | ((with_reducible refine gate_callee (f := 52) rfl ?_); refine glE (some 4) Try.func52 #[.int .i64 a0, .int .i64 0, .int .i64 4000] ?_; (with_reducible refine (impl_in.calls a0 0 4000 Aa _ A2.out).mono ?_); rintro e w' ⟨rfl, ⟨nd, rfl⟩⟩; refine ⟨_, rfl, ?_⟩))
 go_ret
 exact ⟨Z3, Z9⟩
def impl_IsWorkSheet.f (a0_0 : Int) (a0_1 : Int) (a0_2 : Int) (a0_3 : Int) (a0_4 : Int) : Option (Bool) := (impl_isId.f a0_0).bind fun t196 => (if t196 = true then ((impl_isDay.f a0_1).bind fun t197 => (if t197 = true then ((impl_in.f a0_2 0 12000).bind fun t198 => (if t198 = true then ((impl_in.f a0_3 0 a0_2).bind fun t199 => (if t199 = true then ((impl_in.f a0_4 0 12).bind fun t200 => (some t200)) else (some false))) else (some false))) else (some false))) else (some false))
theorem impl_IsWorkSheet.calls (Ad : Int) (Ah : Int) (Aa : Int) (Af : Int) (Ae : Int) (r : Bool) (w : World) (h : impl_IsWorkSheet.f Ad Ah Aa Af Ae = some r) :
  Calls Try.prog 33 #[.agg #[.int .i64 Ad, .int .i64 Ah, .int .i64 Aa, .int .i64 Af, .int .i64 Ae]] w fun e w' => e = .returned (.bool r) ∧ Below w.heap.size w w' := by
 have hu48 := Try.underlying48; have HB := aM (Below.refl w.heap.size w); have H : ((impl_isId.f Ad).bind fun An => (if An = true then ((impl_isDay.f Ah).bind fun Ak => (if Ak = true then ((impl_in.f Aa 0 12000).bind fun Aj => (if Aj = true then ((impl_in.f Af 0 Aa).bind fun Ag => (if Ag = true then ((impl_in.f Ae 0 12).bind fun Ac => (some Ac)) else (some false))) else (some false))) else (some false))) else (some false))) = some r := h; clear h; replace H := Option.bind_eq_some_iff.mp H; obtain ⟨An, Ci, H⟩ := H; replace H : (if An = true then ((impl_isDay.f Ah).bind fun Ak => (if Ak = true then ((impl_in.f Aa 0 12000).bind fun Aj => (if Aj = true then ((impl_in.f Af 0 Aa).bind fun Ag => (if Ag = true then ((impl_in.f Ae 0 12).bind fun Ac => (some Ac)) else (some false))) else (some false))) else (some false))) else (some false)) = some r := H; have A2 := Aside0.mk Ci; clear Ci
 by_cases c3 : An = true
 ·subst c3
  have H1 : ((impl_isDay.f Ah).bind fun Ak => (if Ak = true then ((impl_in.f Aa 0 12000).bind fun Aj => (if Aj = true then ((impl_in.f Af 0 Aa).bind fun Ag => (if Ag = true then ((impl_in.f Ae 0 12).bind fun Ac => (some Ac)) else (some false))) else (some false))) else (some false))) = some r := by rw [if_pos rfl] at H; exact H
  clear H; have H := H1; clear H1; replace H := Option.bind_eq_some_iff.mp H; obtain ⟨Ak, Cj, H⟩ := H; replace H : (if Ak = true then ((impl_in.f Aa 0 12000).bind fun Aj => (if Aj = true then ((impl_in.f Af 0 Aa).bind fun Ag => (if Ag = true then ((impl_in.f Ae 0 12).bind fun Ac => (some Ac)) else (some false))) else (some false))) else (some false)) = some r := H; have A4 := Aside0.mk Cj; clear Cj
  by_cases c5 : Ak = true
  ·subst c5
   have H1 : ((impl_in.f Aa 0 12000).bind fun Aj => (if Aj = true then ((impl_in.f Af 0 Aa).bind fun Ag => (if Ag = true then ((impl_in.f Ae 0 12).bind fun Ac => (some Ac)) else (some false))) else (some false))) = some r := by rw [if_pos rfl] at H; exact H
   clear H; have H := H1; clear H1; replace H := Option.bind_eq_some_iff.mp H; obtain ⟨Aj, Ck, H⟩ := H; replace H : (if Aj = true then ((impl_in.f Af 0 Aa).bind fun Ag => (if Ag = true then ((impl_in.f Ae 0 12).bind fun Ac => (some Ac)) else (some false))) else (some false)) = some r := H; have A6 := Aside0.mk Ck; clear Ck
   by_cases c7 : Aj = true
   ·subst c7
    have H1 : ((impl_in.f Af 0 Aa).bind fun Ag => (if Ag = true then ((impl_in.f Ae 0 12).bind fun Ac => (some Ac)) else (some false))) = some r := by rw [if_pos rfl] at H; exact H
    clear H; have H := H1; clear H1; replace H := Option.bind_eq_some_iff.mp H; obtain ⟨Ag, Cl, H⟩ := H; replace H : (if Ag = true then ((impl_in.f Ae 0 12).bind fun Ac => (some Ac)) else (some false)) = some r := H; have A8 := Aside0.mk Cl; clear Cl
    by_cases c9 : Ag = true
    ·subst c9
     have H1 : ((impl_in.f Ae 0 12).bind fun Ac => (some Ac)) = some r := by rw [if_pos rfl] at H; exact H
     clear H; have H := H1; clear H1; replace H := Option.bind_eq_some_iff.mp H; obtain ⟨Ac, Ao, H⟩ := H; replace H : (some Ac) = some r := H; have Cm := Aside0.mk Ao; clear Ao; obtain rfl := Option.some.inj H
     go_enter Try.func33, Try.ntmps33
     go_wp2_with (first | ((with_reducible refine gate_dst (N := 1) rfl ?_); refine bxE 1 #[.int .i64 Ad, .int .i64 Ah, .int .i64 Aa, .int .i64 Af, .int .i64 Ae] 48 ?_; intro Al hg Cn hbox hb; have Ab := aM (hbox); have Am := gwS hg Z0; have Ai := gwS hg Z0; replace HB := hbS Z0 hb; clear hb hbox hg; obtain ⟨Ap, Aq, Ar, Au, Av⟩ := bz5 Ab; obtain ⟨Aw, Ax, Ay, Az, A3⟩ := fz5 Ab) | ((with_reducible refine gate_callee (f := 55) rfl ?_); refine glE (some 5) Try.func55 #[.int .i64 Ad] ?_; (with_reducible refine (impl_isId.calls Ad true _ A2.out).mono ?_); rintro e w' ⟨rfl, ⟨nd, rfl⟩⟩; refine ⟨_, rfl, ?_⟩) | (go_at_call 56; (with_reducible refine (impl_isDay.calls Ah true _ A4.out).mono ?_); rintro e w' ⟨rfl, ⟨nd, rfl⟩⟩) | (go_at_call 52; (with_reducible refine (impl_in.calls Aa 0 12000 true _ A6.out).mono ?_); rintro e w' ⟨rfl, ⟨nd, rfl⟩⟩) | (go_at_call 52; (with_reducible refine (impl_in.calls Af 0 Aa true _ A8.out).mono ?_); rintro e w' ⟨rfl, ⟨nd, rfl⟩⟩) | (go_at_call 52; (with_reducible refine (impl_in.calls Ae 0 12 Ac _ Cm.out).mono ?_); rintro e w' ⟨rfl, ⟨nd, rfl⟩⟩))
     go_ret
     exact ⟨Z4, Z8⟩
    ·replace c9 := Bool.eq_false_iff.mpr c9
     subst c9
     have H1 : (some false) = some r := by rw [if_neg (show ¬ (false = true) by decide)] at H; exact H
     clear H; have H := H1; clear H1; obtain rfl := Option.some.inj H
     go_enter Try.func33, Try.ntmps33
     go_wp2_with (first | ((with_reducible refine gate_dst (N := 1) rfl ?_); refine bxE 1 #[.int .i64 Ad, .int .i64 Ah, .int .i64 Aa, .int .i64 Af, .int .i64 Ae] 48 ?_; intro Al hg Co hbox hb; have Ab := aM (hbox); have Am := gwS hg Z0; have Ai := gwS hg Z0; replace HB := hbS Z0 hb; clear hb hbox hg; obtain ⟨Ba, Bb, Bc, Bd, Bf⟩ := bz5 Ab; obtain ⟨Bg, Bh, Bi, Bj, Bk⟩ := fz5 Ab) | ((with_reducible refine gate_callee (f := 55) rfl ?_); refine glE (some 5) Try.func55 #[.int .i64 Ad] ?_; (with_reducible refine (impl_isId.calls Ad true _ A2.out).mono ?_); rintro e w' ⟨rfl, ⟨nd, rfl⟩⟩; refine ⟨_, rfl, ?_⟩) | (go_at_call 56; (with_reducible refine (impl_isDay.calls Ah true _ A4.out).mono ?_); rintro e w' ⟨rfl, ⟨nd, rfl⟩⟩) | (go_at_call 52; (with_reducible refine (impl_in.calls Aa 0 12000 true _ A6.out).mono ?_); rintro e w' ⟨rfl, ⟨nd, rfl⟩⟩) | (go_at_call 52; (with_reducible refine (impl_in.calls Af 0 Aa false _ A8.out).mono ?_); rintro e w' ⟨rfl, ⟨nd, rfl⟩⟩))
     go_ret
     exact ⟨Z4, Z8⟩
   ·replace c7 := Bool.eq_false_iff.mpr c7
    subst c7
    have H1 : (some false) = some r := by rw [if_neg (show ¬ (false = true) by decide)] at H; exact H
    clear H; have H := H1; clear H1; obtain rfl := Option.some.inj H
    go_enter Try.func33, Try.ntmps33
    go_wp2_with (first | ((with_reducible refine gate_dst (N := 1) rfl ?_); refine bxE 1 #[.int .i64 Ad, .int .i64 Ah, .int .i64 Aa, .int .i64 Af, .int .i64 Ae] 48 ?_; intro Al hg Cp hbox hb; have Ab := aM (hbox); have Am := gwS hg Z0; have Ai := gwS hg Z0; replace HB := hbS Z0 hb; clear hb hbox hg; obtain ⟨Bl, Bm, Bn, Bo, Bp⟩ := bz5 Ab; obtain ⟨Bq, Br, Bs, Bt, Bu⟩ := fz5 Ab) | ((with_reducible refine gate_callee (f := 55) rfl ?_); refine glE (some 5) Try.func55 #[.int .i64 Ad] ?_; (with_reducible refine (impl_isId.calls Ad true _ A2.out).mono ?_); rintro e w' ⟨rfl, ⟨nd, rfl⟩⟩; refine ⟨_, rfl, ?_⟩) | (go_at_call 56; (with_reducible refine (impl_isDay.calls Ah true _ A4.out).mono ?_); rintro e w' ⟨rfl, ⟨nd, rfl⟩⟩) | (go_at_call 52; (with_reducible refine (impl_in.calls Aa 0 12000 false _ A6.out).mono ?_); rintro e w' ⟨rfl, ⟨nd, rfl⟩⟩))
    go_ret
    exact ⟨Z4, Z8⟩
  ·replace c5 := Bool.eq_false_iff.mpr c5
   subst c5
   have H1 : (some false) = some r := by rw [if_neg (show ¬ (false = true) by decide)] at H; exact H
   clear H; have H := H1; clear H1; obtain rfl := Option.some.inj H
   go_enter Try.func33, Try.ntmps33
   go_wp2_with (first | ((with_reducible refine gate_dst (N := 1) rfl ?_); refine bxE 1 #[.int .i64 Ad, .int .i64 Ah, .int .i64 Aa, .int .i64 Af, .int .i64 Ae] 48 ?_; intro Al hg Cq hbox hb; have Ab := aM (hbox); have Am := gwS hg Z0; have Ai := gwS hg Z0; replace HB := hbS Z0 hb; clear hb hbox hg; obtain ⟨Bv, Bw, Bx, Bz, B0⟩ := bz5 Ab; obtain ⟨B1, B2, B3, B5, B7⟩ := fz5 Ab) | ((with_reducible refine gate_callee (f := 55) rfl ?_); refine glE (some 5) Try.func55 #[.int .i64 Ad] ?_; (with_reducible refine (impl_isId.calls Ad true _ A2.out).mono ?_); rintro e w' ⟨rfl, ⟨nd, rfl⟩⟩; refine ⟨_, rfl, ?_⟩) | (go_at_call 56; (with_reducible refine (impl_isDay.calls Ah false _ A4.out).mono ?_); rintro e w' ⟨rfl, ⟨nd, rfl⟩⟩))
   go_ret
   exact ⟨Z4, Z8⟩
 ·replace c3 := Bool.eq_false_iff.mpr c3
  subst c3
  have H1 : (some false) = some r := by rw [if_neg (show ¬ (false = true) by decide)] at H; exact H
  clear H; have H := H1; clear H1; obtain rfl := Option.some.inj H
  go_enter Try.func33, Try.ntmps33
  go_wp2_with (first | ((with_reducible refine gate_dst (N := 1) rfl ?_); refine bxE 1 #[.int .i64 Ad, .int .i64 Ah, .int .i64 Aa, .int .i64 Af, .int .i64 Ae] 48 ?_; intro Al hg Cr hbox hb; have Ab := aM (hbox); have Am := gwS hg Z0; have Ai := gwS hg Z0; replace HB := hbS Z0 hb; clear hb hbox hg; obtain ⟨B8, B9, Ca, Cb, Cc⟩ := bz5 Ab; obtain ⟨Cd, Ce, Cf, Cg, Ch⟩ := fz5 Ab) | ((with_reducible refine gate_callee (f := 55) rfl ?_); refine glE (some 5) Try.func55 #[.int .i64 Ad] ?_; (with_reducible refine (impl_isId.calls Ad false _ A2.out).mono ?_); rintro e w' ⟨rfl, ⟨nd, rfl⟩⟩; refine ⟨_, rfl, ?_⟩))
  go_ret
  exact ⟨Z4, Z8⟩
set_option maxHeartbeats 4000000 in
theorem IndexFunc_ws (p : S48 → Bool) (g : Nat) (lb : Array Value) (A : Option Addr) (c : Nat) (xs : List S48) (w : World)
  (eg : ∀ args w, (callFunc g args).run Try.prog w = .ok (.enter g args) w) (hr : Kd.C k48 w A xs.length xs)
  (hp : ∀ (W : World) (x : S48), Below w.heap.size w W → Calls Try.prog g (#[.agg #[.int .i64 x.f0, .int .i64 x.f1, .int .i64 x.f2, .int .i64 x.f3, .int .i64 x.f4]] ++ lb) W fun e w' => e = .returned (.bool (p x)) ∧ Below W.heap.size W w') :
  Calls Try.prog 86 #[.slice A xs.length c, .func (.func g) #[] lb] w fun e w' => e = .returned (.int .i64 (findI p xs)) ∧ Below w.heap.size w w' := by
 have hu_ := Try.underlying48; have hlen := Aside0.mk hr.2.1; have HR := Aside0.mk hr; have HP := Aside0.mk hp; clear hr hp
 go_enter Try.func86, Try.ntmps86
 go_wp2
 go_loopg [5, 8] xs.length (fun gg _ s8 wr => ∃ x : Int, s8 = .int .i64 x ∧ Aside0 (0 ≤ x ∧ x ≤ (xs.length : Int) ∧ (xs.length : Int) - x ≤ gg) ∧ Aside0 (Below w.heap.size w wr) ∧ Aside0 (∀ j : Nat, (j : Int) < x → p (xs.getD j z48) = false))
 case atStart => exact ⟨0, rfl, ⟨by omega, by omega, by omega⟩, ⟨Below.refl _ _⟩, ⟨fun j hj => absurd hj (by omega)⟩⟩
 case round =>
  obtain ⟨x, rfl, HX, BW, HA⟩ := hrel
  by_cases hlt : x < (xs.length : Int)
  ·have c0 : decide (x < (xs.length : Int)) = true := decide_eq_true hlt
   obtain ⟨ad, e0, Aa, Ab, Ac, Ad, Ae⟩ := at_T48 (Kd.C_below HR.out BW.out) x HX.out.1 hlt; cases e0; have c1 : decide (0 ≤ x) = true := decide_eq_true HX.out.1; have p0 := eq_true HX.out.1; have p1 := eq_true hlt; have HL := Aside0.mk hlt; clear hlt; have hcall := HP.out _ (rd_T48 xs x) BW.out; have hget : Aside0 (xs.getD x.toNat z48 = (rd_T48 xs x)) := ⟨rfl⟩; cases hq : p (rd_T48 xs x) with
   | true =>
    rw [hq] at hcall; have HQ := Aside0.mk hq; have HC := Aside0.mk hcall; clear hq hcall
    go_wp2_with fail
    refine HC.out.mono ?_; rintro e w' ⟨rfl, hb'⟩; have HB := aM (below_step BW.out hb'); clear hb'
    go_wp2
    go_ret
    refine ⟨?_, HB.out⟩; rw [findI_hit p z48 xs x.toNat Z53 (fun j hj => HA.out j Z60) (by rw [hget.out]; exact HQ.out)]; rw [Int.toNat_of_nonneg HX.out.1]
    rfl
   | false =>
    rw [hq] at hcall; have HQ := Aside0.mk hq; have HC := Aside0.mk hcall; clear hq hcall
    go_wp2_with fail
    refine HC.out.mono ?_; rintro e w' ⟨rfl, hb'⟩; have HB := aM (below_step BW.out hb'); clear hb'
    go_wp2
    have hw1 : wrap64 (x + 1) = x + 1 := by have := HX.out; have := HL.out; have := hlen.out; unfold wrap64; omega
    go_roundg (xs.length - (x.toNat + 1))
    case measure => have := HX.out; have := HL.out; omega
    case rel =>
     refine ⟨x + 1, Z47, ⟨Z60, Z56, Z53⟩, HB, ⟨fun j hj => ?_⟩⟩
     by_cases e : (j : Int) < x
     ·exact HA.out j e
     ·have hj' : j = x.toNat := by have := HX.out; omega
      subst hj'; rw [hget.out]
      exact HQ.out
  ·have c0 : decide (x < (xs.length : Int)) = false := decide_eq_false hlt
   have HL := Aside0.mk hlt; clear hlt
   go_wp2
   go_ret
   refine ⟨?_, BW.out⟩; rw [findI_miss p z48 xs (fun j hj => HA.out j Z56)]
   rfl
set_option maxHeartbeats 4000000 in
theorem ContainsFunc_ws (p : S48 → Bool) (g : Nat) (lb : Array Value) (A : Option Addr) (c : Nat) (xs : List S48) (w : World)
  (eg : ∀ args w, (callFunc g args).run Try.prog w = .ok (.enter g args) w) (hr : Kd.C k48 w A xs.length xs)
  (hp : ∀ (W : World) (x : S48), Below w.heap.size w W → Calls Try.prog g (#[.agg #[.int .i64 x.f0, .int .i64 x.f1, .int .i64 x.f2, .int .i64 x.f3, .int .i64 x.f4]] ++ lb) W fun e w' => e = .returned (.bool (p x)) ∧ Below W.heap.size W w') :
  Calls Try.prog 79 #[.slice A xs.length c, .func (.func g) #[] lb] w fun e w' => e = .returned (.bool (xs.any p)) ∧ Below w.heap.size w w' := by
 have HC := aM (IndexFunc_ws p g lb A c xs w eg hr hp); clear hr hp eg; rw [← findI_any]
 go_enter Try.func79, Try.ntmps79
 go_wp2_with fail
 refine HC.out.mono ?_; rintro e w' ⟨rfl, hb'⟩
 go_wp2
 go_ret
 exact ⟨Z54, hb'⟩
set_option maxHeartbeats 4000000 in
theorem areAll_ws_1 (p : S48 → Bool) (g : Nat) (lb : Array Value) (b : Nat) (x : S48) (W : World)
  (eg : ∀ args w, (callFunc g args).run Try.prog w = .ok (.enter g args) w) (hc : W.cell? ⟨b, 0, none⟩ = some (.func (.func g) #[] lb))
  (hp : ∀ W1, Below W.heap.size W W1 → Calls Try.prog g (#[.agg #[.int .i64 x.f0, .int .i64 x.f1, .int .i64 x.f2, .int .i64 x.f3, .int .i64 x.f4]] ++ lb) W1 fun e w' => e = .returned (.bool (p x)) ∧ Below W1.heap.size W1 w') (hb : b < W.heap.size) :
  Calls Try.prog 80 #[.agg #[.int .i64 x.f0, .int .i64 x.f1, .int .i64 x.f2, .int .i64 x.f3, .int .i64 x.f4], .pointer (some ⟨b, 0, none⟩)] W fun e w' => e = .returned (.bool (!p x)) ∧ Below W.heap.size W w' := by
 have hu_ := Try.underlying48; have HP := Aside0.mk hp; clear hp; have hB1 : Below W.heap.size W (W.alloc (.cells #[.int .i64 x.f0, .int .i64 x.f1, .int .i64 x.f2, .int .i64 x.f3, .int .i64 x.f4] 48)) := below_alloc (Below.refl _ _) _; have Aa : (W.alloc (.cells #[.int .i64 x.f0, .int .i64 x.f1, .int .i64 x.f2, .int .i64 x.f3, .int .i64 x.f4] 48)).cell? ⟨b, 0, none⟩ = some (.func (.func g) #[] lb) := (hB1.cell (p := ⟨b, 0, none⟩) hb).trans hc; have HB := Aside0.mk hB1; clear hB1 hc
 go_enter Try.func80, Try.ntmps80
 go_wp2_with fail
 refine (HP.out _ HB.out).mono ?_; rintro e w' ⟨rfl, hb'⟩
 go_wp2
 go_ret
 exact ⟨Z54, below_step HB.out hb'⟩
set_option maxHeartbeats 4000000 in
theorem areAll_ws (p : S48 → Bool) (g : Nat) (lb : Array Value) (A : Option Addr) (c : Nat) (xs : List S48) (w : World)
  (eg : ∀ args w, (callFunc g args).run Try.prog w = .ok (.enter g args) w) (hr : Kd.C k48 w A xs.length xs)
  (hp : ∀ (W : World) (x : S48), Below w.heap.size w W → Calls Try.prog g (#[.agg #[.int .i64 x.f0, .int .i64 x.f1, .int .i64 x.f2, .int .i64 x.f3, .int .i64 x.f4]] ++ lb) W fun e w' => e = .returned (.bool (p x)) ∧ Below W.heap.size W w') :
  Calls Try.prog 65 #[.slice A xs.length c, .func (.func g) #[] lb] w fun e w' => e = .returned (.bool (xs.all p)) ∧ Below w.heap.size w w' := by
 have hmf : ∀ (fn : Fn) (first cap : Array Value) (w : World), (Instr.makeFunc fn first cap).run Try.prog w = .ok (.func fn first cap) w := fun _ _ _ _ => rfl
 have hB1 : Below w.heap.size w (w.alloc (.cells #[.func (.func g) #[] lb] 60)) := below_alloc (Below.refl _ _) _
 have Aa : (w.alloc (.cells #[.func (.func g) #[] lb] 60)).cell? ⟨w.heap.size, 0, none⟩ = some (.func (.func g) #[] lb) := by simp
 have hsz : w.heap.size < (w.alloc (.cells #[.func (.func g) #[] lb] 60)).heap.size := by simp
 have HC := aM (ContainsFunc_ws (fun x => !p x) 80 #[.pointer (some ⟨w.heap.size, 0, none⟩)] A c xs (w.alloc (.cells #[.func (.func g) #[] lb] 60)) (enters_of Try.func80 Z6 rfl) (Kd.C_below hr hB1)
  (fun W x hW => areAll_ws_1 p g lb w.heap.size x W eg ((hW.cell (p := ⟨w.heap.size, 0, none⟩) hsz).trans Aa) (fun W1 h1 => hp W1 x ((hB1.trans (hW.mono hB1.size)).trans (h1.mono (Nat.le_trans hB1.size hW.size)))) (Nat.lt_of_lt_of_le hsz hW.size)))
 have HB := Aside0.mk hB1; rw [← any_not]; clear hB1 Aa hsz hp hr eg
 go_enter Try.func65, Try.ntmps65
 go_wp2_with fail
 refine HC.out.mono ?_; rintro e w' ⟨rfl, hb'⟩
 go_wp2
 go_ret
 exact ⟨Z54, below_step HB.out hb'⟩
set_option maxHeartbeats 8000000 in
theorem isAscending_ws (of : S48 → Int) (g : Nat) (lb : Array Value) (A : Option Addr) (c : Nat) (xs : List S48) (w : World)
  (eg : ∀ args w, (callFunc g args).run Try.prog w = .ok (.enter g args) w) (hr : Kd.C k48 w A xs.length xs)
  (hp : ∀ (W : World) (x : S48), Below w.heap.size w W → Calls Try.prog g (#[.agg #[.int .i64 x.f0, .int .i64 x.f1, .int .i64 x.f2, .int .i64 x.f3, .int .i64 x.f4]] ++ lb) W fun e w' => e = .returned (.int .i64 (of x)) ∧ Below W.heap.size W w') :
  Calls Try.prog 66 #[.slice A xs.length c, .func (.func g) #[] lb] w fun e w' => e = .returned (.bool (asc of xs)) ∧ Below w.heap.size w w' := by
 have hu_ := Try.underlying48; have hlen := Aside0.mk hr.2.1; have HR := Aside0.mk hr; have HP := Aside0.mk hp; clear hr hp
 go_enter Try.func66, Try.ntmps66
 go_wp2
 go_loopg [5] xs.length (fun gg s5 wr => ∃ x : Int, s5 = .int .i64 x ∧ Aside0 (1 ≤ x ∧ (x ≤ (xs.length : Int) ∨ x = 1) ∧ (xs.length : Int) + 1 - x ≤ gg) ∧ Aside0 (Below w.heap.size w wr) ∧ Aside0 (∀ j : Nat, (j : Int) + 1 < x → of (xs.getD j z48) < of (xs.getD (j + 1) z48)))
 case atStart => exact ⟨1, rfl, ⟨by omega, .inr rfl, by omega⟩, ⟨Below.refl _ _⟩, ⟨fun j hj => absurd hj (by omega)⟩⟩
 case round =>
  obtain ⟨x, rfl, HX, BW, HA⟩ := hrel
  by_cases hlt : x < (xs.length : Int)
  ·have c0 : decide (x < (xs.length : Int)) = true := decide_eq_true hlt
   have HL := Aside0.mk hlt; obtain ⟨y, hy⟩ : ∃ y : Int, y = x - 1 := ⟨_, rfl⟩
   have Ac : IntKind.i64.wrap (x - 1) = y := by rw [hy]; exact IntWalk.i64_in _ (by have := HX.out; have := hlen.out; omega)
   have Aa : 0 ≤ y := by have := HX.out; omega
   have Ab : y < (xs.length : Int) := by omega
   have HY := Aside0.mk hy
   have h0 : 0 ≤ x := by omega
   clear hy; obtain ⟨ad, e0, _⟩ := at_T48 (Kd.C_below HR.out BW.out) x h0 hlt; subst e0
   have KEY : Aside0 (∀ W', Below w.heap.size w W' → Below w.heap.size w W' ∧ W'.cell? (ad.add (y.toNat * 5)) = some (.int .i64 (rd_T48 xs y).f0) ∧ W'.cell? ⟨(ad.add (y.toNat * 5)).block, (ad.add (y.toNat * 5)).off + 1, none⟩ = some (.int .i64 (rd_T48 xs y).f1) ∧ W'.cell? ⟨(ad.add (y.toNat * 5)).block, (ad.add (y.toNat * 5)).off + 2, none⟩ = some (.int .i64 (rd_T48 xs y).f2) ∧ W'.cell? ⟨(ad.add (y.toNat * 5)).block, (ad.add (y.toNat * 5)).off + 3, none⟩ = some (.int .i64 (rd_T48 xs y).f3) ∧ W'.cell? ⟨(ad.add (y.toNat * 5)).block, (ad.add (y.toNat * 5)).off + 4, none⟩ = some (.int .i64 (rd_T48 xs y).f4) ∧ W'.cell? (ad.add (x.toNat * 5)) = some (.int .i64 (rd_T48 xs x).f0) ∧ W'.cell? ⟨(ad.add (x.toNat * 5)).block, (ad.add (x.toNat * 5)).off + 1, none⟩ = some (.int .i64 (rd_T48 xs x).f1) ∧ W'.cell? ⟨(ad.add (x.toNat * 5)).block, (ad.add (x.toNat * 5)).off + 2, none⟩ = some (.int .i64 (rd_T48 xs x).f2) ∧ W'.cell? ⟨(ad.add (x.toNat * 5)).block, (ad.add (x.toNat * 5)).off + 3, none⟩ = some (.int .i64 (rd_T48 xs x).f3) ∧ W'.cell? ⟨(ad.add (x.toNat * 5)).block, (ad.add (x.toNat * 5)).off + 4, none⟩ = some (.int .i64 (rd_T48 xs x).f4)) := ⟨fun W' h => by
    obtain ⟨a1, e1, h1⟩ := at_T48 (Kd.C_below HR.out h) y Aa Ab; obtain ⟨a2, e2, h2⟩ := at_T48 (Kd.C_below HR.out h) x h0 hlt; obtain rfl := Option.some.inj e1; obtain rfl := Option.some.inj e2; obtain ⟨b0, b1, b2, b3, b4⟩ := h1; obtain ⟨d0, d1, d2, d3, d4⟩ := h2
    exact ⟨h, b0, b1, b2, b3, b4, d0, d1, d2, d3, d4⟩⟩
   have HK := KEY.out _ BW.out; obtain ⟨_, b0, b1, b2, b3, b4, d0, d1, d2, d3, d4⟩ := HK
   have hw1 : wrap64 (x + 1) = x + 1 := by have := HX.out; have := HL.out; have := hlen.out; unfold wrap64; omega
   have hg0 : Aside0 (xs.getD x.toNat z48 = (rd_T48 xs x)) := ⟨rfl⟩; have hg1 : Aside0 (xs.getD y.toNat z48 = (rd_T48 xs y)) := ⟨rfl⟩
   by_cases hc : of (rd_T48 xs x) ≤ of (rd_T48 xs y)
   ·have c1 : decide (of (rd_T48 xs x) ≤ of (rd_T48 xs y)) = true := decide_eq_true hc
    have HC := Aside0.mk hc; clear hc
    go_wp2_with fail
    go_region_held3 (fun W' => Below w.heap.size w W' ∧ W'.cell? (ad.add (y.toNat * 5)) = some (.int .i64 (rd_T48 xs y).f0) ∧ W'.cell? ⟨(ad.add (y.toNat * 5)).block, (ad.add (y.toNat * 5)).off + 1, none⟩ = some (.int .i64 (rd_T48 xs y).f1) ∧ W'.cell? ⟨(ad.add (y.toNat * 5)).block, (ad.add (y.toNat * 5)).off + 2, none⟩ = some (.int .i64 (rd_T48 xs y).f2) ∧ W'.cell? ⟨(ad.add (y.toNat * 5)).block, (ad.add (y.toNat * 5)).off + 3, none⟩ = some (.int .i64 (rd_T48 xs y).f3) ∧ W'.cell? ⟨(ad.add (y.toNat * 5)).block, (ad.add (y.toNat * 5)).off + 4, none⟩ = some (.int .i64 (rd_T48 xs y).f4) ∧ W'.cell? (ad.add (x.toNat * 5)) = some (.int .i64 (rd_T48 xs x).f0) ∧ W'.cell? ⟨(ad.add (x.toNat * 5)).block, (ad.add (x.toNat * 5)).off + 1, none⟩ = some (.int .i64 (rd_T48 xs x).f1) ∧ W'.cell? ⟨(ad.add (x.toNat * 5)).block, (ad.add (x.toNat * 5)).off + 2, none⟩ = some (.int .i64 (rd_T48 xs x).f2) ∧ W'.cell? ⟨(ad.add (x.toNat * 5)).block, (ad.add (x.toNat * 5)).off + 3, none⟩ = some (.int .i64 (rd_T48 xs x).f3) ∧ W'.cell? ⟨(ad.add (x.toNat * 5)).block, (ad.add (x.toNat * 5)).off + 4, none⟩ = some (.int .i64 (rd_T48 xs x).f4))
     ((refine KEY.out _ ?_; first | ((repeat (first | exact BW.out | assumption | exact (‹Below w.heap.size w _ ∧ _›).1 | apply below_drew1 | apply pw_below_drewN)); done) | (refine below_step ?_ hb'; (repeat (first | exact BW.out | assumption | exact (‹Below w.heap.size w _ ∧ _›).1 | apply below_drew1 | apply pw_below_drewN)); done)))
     (first | (go_at_fn g; refine Calls.mono (HP.out _ _ ?_) ?_; (repeat (first | exact BW.out | assumption | exact (‹Below w.heap.size w _ ∧ _›).1 | apply below_drew1 | apply pw_below_drewN)); rintro e w' ⟨rfl, hb'⟩))
    have HB : Aside0 (Below w.heap.size w w') := ⟨(‹Below w.heap.size w w' ∧ _›).1⟩
    go_wp2
    go_ret
    refine ⟨?_, HB.out⟩; rw [asc_false of z48 xs y.toNat (by have := HX.out; have := HY.out; have := HL.out; omega) (by rw [show y.toNat + 1 = x.toNat by have := HX.out; have := HY.out; omega, hg0.out, hg1.out]; exact HC.out)]
    rfl
   ·have c1 : decide (of (rd_T48 xs x) ≤ of (rd_T48 xs y)) = false := decide_eq_false hc
    have HC := Aside0.mk hc; clear hc
    go_wp2_with fail
    go_region_held3 (fun W' => Below w.heap.size w W' ∧ W'.cell? (ad.add (y.toNat * 5)) = some (.int .i64 (rd_T48 xs y).f0) ∧ W'.cell? ⟨(ad.add (y.toNat * 5)).block, (ad.add (y.toNat * 5)).off + 1, none⟩ = some (.int .i64 (rd_T48 xs y).f1) ∧ W'.cell? ⟨(ad.add (y.toNat * 5)).block, (ad.add (y.toNat * 5)).off + 2, none⟩ = some (.int .i64 (rd_T48 xs y).f2) ∧ W'.cell? ⟨(ad.add (y.toNat * 5)).block, (ad.add (y.toNat * 5)).off + 3, none⟩ = some (.int .i64 (rd_T48 xs y).f3) ∧ W'.cell? ⟨(ad.add (y.toNat * 5)).block, (ad.add (y.toNat * 5)).off + 4, none⟩ = some (.int .i64 (rd_T48 xs y).f4) ∧ W'.cell? (ad.add (x.toNat * 5)) = some (.int .i64 (rd_T48 xs x).f0) ∧ W'.cell? ⟨(ad.add (x.toNat * 5)).block, (ad.add (x.toNat * 5)).off + 1, none⟩ = some (.int .i64 (rd_T48 xs x).f1) ∧ W'.cell? ⟨(ad.add (x.toNat * 5)).block, (ad.add (x.toNat * 5)).off + 2, none⟩ = some (.int .i64 (rd_T48 xs x).f2) ∧ W'.cell? ⟨(ad.add (x.toNat * 5)).block, (ad.add (x.toNat * 5)).off + 3, none⟩ = some (.int .i64 (rd_T48 xs x).f3) ∧ W'.cell? ⟨(ad.add (x.toNat * 5)).block, (ad.add (x.toNat * 5)).off + 4, none⟩ = some (.int .i64 (rd_T48 xs x).f4))
     ((refine KEY.out _ ?_; first | ((repeat (first | exact BW.out | assumption | exact (‹Below w.heap.size w _ ∧ _›).1 | apply below_drew1 | apply pw_below_drewN)); done) | (refine below_step ?_ hb'; (repeat (first | exact BW.out | assumption | exact (‹Below w.heap.size w _ ∧ _›).1 | apply below_drew1 | apply pw_below_drewN)); done)))
     (first | (go_at_fn g; refine Calls.mono (HP.out _ _ ?_) ?_; (repeat (first | exact BW.out | assumption | exact (‹Below w.heap.size w _ ∧ _›).1 | apply below_drew1 | apply pw_below_drewN)); rintro e w' ⟨rfl, hb'⟩))
    have HB : Aside0 (Below w.heap.size w w') := ⟨(‹Below w.heap.size w w' ∧ _›).1⟩
    go_wp2
    go_roundg (xs.length - x.toNat)
    case measure => have := HX.out; have := HL.out; omega
    case rel =>
     refine ⟨x + 1, Z47, ⟨Z60, Z56, Z53⟩, HB, ⟨fun j hj => ?_⟩⟩
     by_cases e : (j : Int) + 1 < x
     ·exact HA.out j e
     ·have hj' : j = y.toNat := by have := HX.out; have := HY.out; omega
      subst hj'; rw [show y.toNat + 1 = x.toNat by have := HX.out; have := HY.out; omega, hg0.out, hg1.out]; have := HC.out
      omega
  ·have c0 : decide (x < (xs.length : Int)) = false := decide_eq_false hlt
   have HL := Aside0.mk hlt; clear hlt
   go_wp2
   go_ret
   refine ⟨?_, BW.out⟩; rw [asc_true of z48 xs (fun j hj => HA.out j Z56)]
   rfl
def impl_AreSheets_1.f (a0_0 : Int) (a0_1 : Int) (a0_2 : Int) (a0_3 : Int) (a0_4 : Int) : Option (Int) := some (wrap64 ((wrap64 (100 * a0_1)) + a0_0))
theorem impl_AreSheets_1.calls (Aa : Int) (Ab : Int) (Ad : Int) (Ae : Int) (Af : Int) (r : Int) (w : World) (h : impl_AreSheets_1.f Aa Ab Ad Ae Af = some r) :
  Calls Try.prog 67 #[.agg #[.int .i64 Aa, .int .i64 Ab, .int .i64 Ad, .int .i64 Ae, .int .i64 Af]] w fun e w' => e = .returned (.int .i64 r) ∧ Below w.heap.size w w' := by
 have hu48 := Try.underlying48; have HB := aM (Below.refl w.heap.size w); have H : (some (wrap64 ((wrap64 (100 * Ab)) + Aa))) = some r := h; clear h; obtain rfl := Option.some.inj H
 go_enter Try.func67, Try.ntmps67
 go_wp2_with (first | ((with_reducible refine gate_dst (N := 1) rfl ?_); refine bxE 1 #[.int .i64 Aa, .int .i64 Ab, .int .i64 Ad, .int .i64 Ae, .int .i64 Af] 48 ?_; intro Ar hg w2 hbox hb; have Ac := aM (hbox); have Au := gwS hg Z0; have Ag := gwS hg Z0; replace HB := hbS Z0 hb; clear hb hbox hg; obtain ⟨Ah, Ai, Aj, Ak, Al⟩ := bz5 Ac; obtain ⟨Am, An, Ao, Ap, Aq⟩ := fz5 Ac))
 go_ret
 exact ⟨Z4, by repeat (first | (with_reducible first | exact HB.out | apply below_alloc | apply pw_below_drewN | apply below_drew1 | refine below_set ?_ Ag.out) | exact HB.out)⟩
theorem impl_IsWorkSheet.total (x : S48) : impl_IsWorkSheet.f x.f0 x.f1 x.f2 x.f3 x.f4 = some ((fun x : S48 => (impl_IsWorkSheet.f x.f0 x.f1 x.f2 x.f3 x.f4).getD false) x) := by
 unfold impl_IsWorkSheet.f impl_isId.f impl_isDay.f
 simp only [impl_in.eq, Option.bind_some]
 cases rng x.f0 1 99 <;> cases rng x.f1 0 4000 <;> cases rng x.f2 0 12000 <;> cases rng x.f3 0 x.f2 <;> rfl
theorem impl_AreSheets_1.total (x : S48) : impl_AreSheets_1.f x.f0 x.f1 x.f2 x.f3 x.f4 = some ((fun x : S48 => (impl_AreSheets_1.f x.f0 x.f1 x.f2 x.f3 x.f4).getD 0) x) := by
 unfold impl_AreSheets_1.f
 rfl
def impl_AreSheets.f (l0 : List (S48)) : Option Bool := some (decide ((l0.length : Int) ≤ 12) && (l0.all (fun x : S48 => (impl_IsWorkSheet.f x.f0 x.f1 x.f2 x.f3 x.f4).getD false) && asc (fun x : S48 => (impl_AreSheets_1.f x.f0 x.f1 x.f2 x.f3 x.f4).getD 0) l0))
set_option maxHeartbeats 4000000 in
theorem impl_AreSheets.calls (A0 : Option Addr) (c0 : Nat) (l0 : List (S48)) (r : Bool) (w : World) (Aa : Kd.C k48 w A0 l0.length l0) (Ab : l0.length ≤ c0) (h : impl_AreSheets.f l0 = some r) :
  Calls Try.prog 39 #[.slice A0 l0.length c0] w fun e w' => e = .returned (.bool r) ∧ Below w.heap.size w w' := by
 have Ac := Option.some.inj h; subst Ac; clear h
 have h1 := areAll_ws (fun x : S48 => (impl_IsWorkSheet.f x.f0 x.f1 x.f2 x.f3 x.f4).getD false) 33 #[] A0 c0 l0 w (enters_of Try.func33 Z6 rfl) Aa
  (fun W x _ => (impl_IsWorkSheet.calls x.f0 x.f1 x.f2 x.f3 x.f4 _ W (impl_IsWorkSheet.total x)).mono fun e w' ⟨he, hd⟩ => ⟨he, Z52⟩)
 have h2 : ∀ w1, Below w.heap.size w w1 → _ := fun w1 hb => isAscending_ws (fun x : S48 => (impl_AreSheets_1.f x.f0 x.f1 x.f2 x.f3 x.f4).getD 0) 67 #[] A0 c0 l0 w1 (enters_of Try.func67 Z6 rfl) (Kd.C_below Aa hb)
  (fun W x _ => (impl_AreSheets_1.calls x.f0 x.f1 x.f2 x.f3 x.f4 _ W (impl_AreSheets_1.total x)).mono fun e w' ⟨he, hd⟩ => ⟨he, Z52⟩)
 have H2 := Aside0.mk h2; clear h2 Aa Ab
 by_cases hn : (l0.length : Int) ≤ 12
 ·have c0 : decide ((l0.length : Int) ≤ 12) = true := decide_eq_true hn
  have c1 : decide (l0.length ≤ 12) = true := decide_eq_true (by omega); rw [c0]; clear hn; cases hq : l0.all (fun x : S48 => (impl_IsWorkSheet.f x.f0 x.f1 x.f2 x.f3 x.f4).getD false) with
  | true =>
   rw [hq] at h1; have H1 := Aside0.mk h1; clear h1 hq
   go_enter Try.func39, Try.ntmps39
   go_wp2_with fail
   refine H1.out.mono ?_; rintro e w1 ⟨rfl, hb1⟩; have HB := Aside0.mk hb1; clear hb1
   go_wp2_with fail
   refine (H2.out _ HB.out).mono ?_; rintro e w2 ⟨rfl, hb2⟩
   go_wp2
   go_ret
   exact ⟨Z54, below_step HB.out hb2⟩
  | false =>
   rw [hq] at h1; have H1 := Aside0.mk h1; clear h1 hq
   go_enter Try.func39, Try.ntmps39
   go_wp2_with fail
   refine H1.out.mono ?_; rintro e w1 ⟨rfl, hb1⟩
   go_wp2
   go_ret
   exact ⟨Z54, hb1⟩
 ·have c0 : decide ((l0.length : Int) ≤ 12) = false := decide_eq_false hn
  have c1 : decide (l0.length ≤ 12) = false := decide_eq_false (by omega); rw [c0]; clear hn h1
  go_enter Try.func39, Try.ntmps39
  go_wp2
  go_ret
  exact ⟨Z54, Below.refl _ _⟩
end Go.Proofs.Ytffgmmfkiecheaa.H
