-- by wip/pack.py of this repo
import Derived.Test.YtaadbpibmlnncaaZ08Hx0
import Derived.Test.YtaadbpibmlnncaaZ08Hx5
import Derived.Test.YtaadbpibmlnncaaZ08Hx6
import Derived.Test.YtaadbpibmlnncaaZ08Hx7
import Derived.Test.YtaadbpibmlnncaaZ08WApart
import Derived.Test.YtaadbpibmlnncaaZ08WKept
import Derived.Test.YtaadbpibmlnncaaZ08WLast
import Derived.Test.YtaadbpibmlnncaaZ08WMore
import Derived.Test.YtaadbpibmlnncaaZ08WN
import Derived.Test.YtaadbpibmlnncaaZ08WRepsOne
import Derived.Test.YtaadbpibmlnncaaZ08WWords
import Derived.Test.YtaadbpibmlnncaaZ08Short
namespace Go.Proofs.Ytaadbpibmlnncaa.H
open Go.RowKit Go.Proofs.YtaadbpibmlnncaaW.PrintWords Go.Proofs.YtaadbpibmlnncaaW.PrintLast Go.Proofs.YtaadbpibmlnncaaW.PrintMore
attribute [local go_sem] max2_int min2_int max_two min_two max_three min_three max_four min_four
set_option maxHeartbeats 8000000
set_option maxRecDepth 100000
set_option linter.unusedVariables false
set_option linter.unusedSimpArgs false
set_option maxHeartbeats 4000000 in
theorem firstAssignment_1 (A : Option Addr) (c : Nat) (l : List Int) (b8 b9 : Nat) (v8 v9 : Value) (w0 W : World) (hB : Below w0.heap.size w0 W) (h8 : w0.heap.size ≤ b8) (h9 : w0.heap.size ≤ b9) (k8 : W.heap[b8]? = some (.cells #[v8] 22 (0, 0))) (k9 : W.heap[b9]? = some (.cells #[v9] 4 (0, 0))) (hne : b8 ≠ b9) (hr : Kd.C (Kd.int .i64) W A l.length l) (hc : l.length ≤ c) (hl : l.length ≤ 1000) :
  Calls Try.prog 64 #[.slice A l.length c, .pointer (some ⟨b8, 0, none⟩), .pointer (some ⟨b9, 0, none⟩)] W fun e w' => e = .returned (.bool false) ∧ Below w0.heap.size w0 w' ∧ Kept W w' (fun k => k = b8 ∨ k = b9) ∧ ∃ v, w'.heap[b8]? = some (.cells #[v] 22 (0, 0)) ∧ w'.heap[b9]? = some (.cells #[.bool true] 4 (0, 0)) ∧ Kd.R (Kd.int .i64) 3 w' W.heap.size (fun _ => True) v l := by
 have HCL := aM (slices_Clone_int.calls A c l l W hr hc (by unfold slices_Clone_int.f; rw [if_pos (by omega)])); have HB := Aside0.mk hB; have K8 := Aside0.mk k8; have K9 := Aside0.mk k9; have H8 := Aside0.mk h8; have H9 := Aside0.mk h9; have HN := Aside0.mk hne; clear hB k8 k9 h8 h9 hne hr hc hl
 go_enter Try.func64, Try.ntmps64
 go_wp2_with fail
 refine HCL.out.mono ?_; rintro e w1 ⟨v, rfl, hrow, hb⟩; obtain ⟨Av, cv, rfl⟩ := Kd.R_slice hrow; have HR := Aside0.mk hrow; have Aa := Aside0.mk hb; have L8 := aM (blk_below K8.out hb); have L9 := aM (blk_below K9.out hb); clear hrow hb; have c8 : w1.cell? ⟨b8, 0, none⟩ = some v8 := (blk_cell L8.out 0).trans rfl; have f8 := blk_frozen L8.out 0; have c9 : (w1.setCell ⟨b8, 0, none⟩ (.slice Av l.length cv)).cell? ⟨b9, 0, none⟩ = some v9 := (blk_cell (blk_far L9.out (p := ⟨b8, 0, none⟩) (fun h => HN.out h.symm) (.slice Av l.length cv)) 0).trans rfl; have f9 := blk_frozen (blk_far L9.out (p := ⟨b8, 0, none⟩) (fun h => HN.out h.symm) (.slice Av l.length cv)) 0
 go_wp2
 go_ret
 have hlt8 : b8 < W.heap.size := blk_lt K8.out; have hlt9 : b9 < W.heap.size := blk_lt K9.out; refine ⟨rfl, below_set (below_set (below_step HB.out Aa.out) H8.out) H9.out, Kept.setCell (Kept.setCell (Kept.of_below Aa.out _) (p := ⟨b8, 0, none⟩) (.inl (.inl rfl)) _) (p := ⟨b9, 0, none⟩) (.inl (.inr rfl)) _, _, blk_far (blk_put L8.out 0 _ rfl) (p := ⟨b9, 0, none⟩) HN.out _, blk_put (blk_far L9.out (p := ⟨b8, 0, none⟩) (fun h => HN.out h.symm) (.slice Av l.length cv)) 0 _ rfl, ?_⟩; have h1 := Kd.R_mono (Kd.R_bound HR.out) (ok' := fun k => W.heap.size ≤ k) (fun k hk => hk.2.1)
 exact Kd.R_mono (Kd.R_far (Kd.R_far h1 (p := ⟨b8, 0, none⟩) (fun k hk => by show k ≠ b8; omega) _) (p := ⟨b9, 0, none⟩) (fun k hk => by show k ≠ b9; omega) _) (fun _ _ => trivial)
def firstOfA (sz l2 : List Int) : List Int × Bool := match asg sz sz.length l2 [] with | some r => (r, true) | none => ([], false)
def impl_FirstAssignment.f (k : Nat) (a0_0 : Int) (a0_1 : Int) (l0_2 : List Int) (a1 : Int) (l2 : List Int) : Option (List Int × Bool) :=
 (impl_hasFewAreas.f k a0_0 a0_1 l0_2 a1 l2).bind fun t => if t = true then ((impl_Chart_sizesOf.f k a0_0 a0_1 l0_2 a1).bind fun sz => if (1 ≤ l2.length ∧ l2.length ≤ 100 ∧ sz.length ≤ 100) ∧ (∀ x ∈ sz, 0 ≤ x ∧ x ≤ 1000000) ∧ (∀ x ∈ l2, 0 ≤ x ∧ x ≤ 1000000) then some (firstOfA sz l2) else none) else some ([], false)
theorem impl_FirstAssignment.calls (k : Nat) (Ab : Int) (Ac : Int) (Ag : Option Addr) (Ah : Nat) (Aa : List Int) (a1 : Int) (A2 : Option Addr) (c2 : Nat) (l2 : List Int) (r1 : List Int) (r2 : Bool) (w : World) (Ai : Kd.C (Kd.int .i64) w Ag Aa.length Aa) (Aj : Aa.length ≤ Ah) (Ay : Kd.C (Kd.int .i64) w A2 l2.length l2) (Az : l2.length ≤ c2) (h : impl_FirstAssignment.f k Ab Ac Aa a1 l2 = some (r1, r2)) :
  Calls Try.prog 33 #[.agg #[.int .i64 Ab, .int .i64 Ac, .slice Ag Aa.length Ah], .int .i64 a1, .slice A2 l2.length c2] w fun e w' => ∃ v0_ : Value, e = .returned (.tuple #[v0_, .bool r2]) ∧ Kd.R (Kd.int .i64) 3 w' w.heap.size (fun _ => True) v0_ r1 ∧ Below w.heap.size w w' := by
 have hu28 := Try.underlying28
 have hmf : ∀ (fn : Fn) (first cap : Array Value) (w : World), (Instr.makeFunc fn first cap).run Try.prog w = .ok (.func fn first cap) w := fun _ _ _ _ => rfl
 obtain ⟨t, ht, h⟩ := Option.bind_eq_some_iff.mp h; have Ba := Aside0.mk Ai; have Bb := Aside0.mk Aj; have Bc := Aside0.mk Ay; have Bd := Aside0.mk Az; have HT := Aside0.mk ht; clear Ai Aj Ay Az ht; have HB := aM (Below.refl w.heap.size w); have HH := Aside0.mk h; clear h
 go_enter Try.func33, Try.ntmps33
 go_wp2_with (first | ((with_reducible refine gate_dst (N := 3) rfl ?_); refine bxE 3 #[.int .i64 Ab, .int .i64 Ac, .slice Ag Aa.length Ah] 28 ?_; intro g3 hg w3 hbox hb; have n0_ := aM (below_step HB.out hb); have BK := Aside0.mk hbox; have G3 := aM (Z205 : w.heap.size ≤ g3); clear HB; have HB := n0_; clear n0_ hb hbox hg; obtain ⟨An, Ao, Ap⟩ := bz3 BK; obtain ⟨Aq, Ar, Au⟩ := fz3 BK))
 refine (impl_hasFewAreas.calls k Ab Ac _ _ Aa a1 _ _ l2 t _ (Kd.C_below Ba.out HB.out) Bb.out (Kd.C_below Bc.out HB.out) Bd.out HT.out).mono ?_; rintro e w4 ⟨rfl, hb⟩; have n0_ := aM (blk_below BK.out hb); have n1_ := aM (below_step HB.out hb); clear BK HB hb An Ao Ap Aq Ar Au; have BK := n0_; have HB := n1_; clear n0_ n1_; obtain ⟨An, Ao, Ap⟩ := bz3 BK; obtain ⟨Aq, Ar, Au⟩ := fz3 BK; cases t with
 | false =>
  have h1 := HH.out; rw [if_neg (by decide)] at h1; obtain ⟨rfl, rfl⟩ := Prod.mk.inj (Option.some.inj h1); clear h1
  go_wp2
  go_ret2
  exact ⟨_, rfl, Kd.R_nil _ _ _ _ _, HB.out⟩
 | true =>
  have h1 := HH.out; rw [if_pos rfl] at h1; obtain ⟨sz, hsz, h2⟩ := Option.bind_eq_some_iff.mp h1; have HSZ := Aside0.mk hsz
  have h3 : ((1 ≤ l2.length ∧ l2.length ≤ 100 ∧ sz.length ≤ 100) ∧ (∀ x ∈ sz, 0 ≤ x ∧ x ≤ 1000000) ∧ (∀ x ∈ l2, 0 ≤ x ∧ x ≤ 1000000)) ∧ firstOfA sz l2 = (r1, r2) := by
   split at h2
   case isTrue hg => exact ⟨hg, Option.some.inj h2⟩
   case isFalse => cases h2
  have HG := Aside0.mk h3.1; have HF := Aside0.mk h3.2; clear h1 h2 h3 hsz
  go_wp2_with (first | ((with_reducible refine gate_dst (N := 15) rfl ?_); refine Kd.R_lit (Kd.int .i64) _ 3 ?hg (N := 15) ?hd (xs := ([] : List Int)) (inner := []) (ok := fun _ => True) (okp := fun _ => True) ?hr ?hp (fun _ hk => hk) trivial (Below.refl _ _) (Nat.le_refl _) (by simp) ?_; (case hd => rfl); (case hg => rfl); (case hr => first | (go_simp; done) | (go_simp; rfl)); (case hp => exact (Reps.none _ _)); intro Bj w5 Ax hb hg_ hnew_; clear hg_ hnew_; obtain ⟨Ae, Af, ev15⟩ := Kd.R_slice Ax; subst ev15; have ROW := aM (Kd.R_lower Ax HB.out.size); have n1_ := aM (blk_below BK.out hb); have n2_ := aM (below_step HB.out hb); clear BK HB hb Ax; have BK := n1_; have HB := n2_; clear n1_ n2_) | ((with_reducible refine gate_dst (N := 8) rfl ?_); refine bxE 8 #[.slice none 0 0] 22 ?_; intro g8 hg w6 hbox hb; have S8 := Aside0.mk hg; have n0_ := aM (below_step HB.out hb); have n1_ := aM (blk_below BK.out hb); have n2_ := aM (Kd.R_below ROW.out hb); have B8 := Aside0.mk hbox; have G8 := aM (Z205 : w.heap.size ≤ g8); clear HB BK ROW; have HB := n0_; have BK := n1_; have ROW := n2_; clear n0_ n1_ n2_ hb hbox hg) | ((with_reducible refine gate_dst (N := 9) rfl ?_); refine bxE 9 #[.bool false] 4 ?_; intro g9 hg w7 hbox hb; have n0_ := aM (below_step HB.out hb); have n1_ := aM (blk_below BK.out hb); have n2_ := aM (Kd.R_below ROW.out hb); have n3_ := aM (blk_below B8.out hb); have B9 := Aside0.mk hbox; have G9 := aM (Z205 : w.heap.size ≤ g9); have NE := aM (by have := blk_lt B8.out; omega : g8 ≠ g9); clear HB BK ROW B8; have HB := n0_; have BK := n1_; have ROW := n2_; have B8 := n3_; clear n0_ n1_ n2_ n3_ hb hbox hg; have c8 : w7.cell? ⟨g8, 0, none⟩ = some (.slice none 0 0) := (blk_cell B8.out 0).trans rfl; have f8 := blk_frozen B8.out 0; have c9 : (w7.setCell ⟨g8, 0, none⟩ (.slice Ae 0 Af)).cell? ⟨g9, 0, none⟩ = some (.bool false) := (blk_cell (blk_far B9.out (p := ⟨g8, 0, none⟩) (fun h => NE.out h.symm) (.slice Ae 0 Af)) 0).trans rfl; have f9 := blk_frozen (blk_far B9.out (p := ⟨g8, 0, none⟩) (fun h => NE.out h.symm) (.slice Ae 0 Af)) 0; have Ak := aM (blk_far (blk_far BK.out (p := ⟨g8, 0, none⟩) (blk_ne BK.out B8.out (by decide)) (.slice Ae 0 Af)) (p := ⟨g9, 0, none⟩) (blk_ne BK.out B9.out (by decide)) (.bool false)); have d0 : ((w7.setCell ⟨g8, 0, none⟩ (.slice Ae 0 Af)).setCell ⟨g9, 0, none⟩ (.bool false)).cell? ⟨g3, 0, none⟩ = some (.int .i64 Ab) := (blk_cell Ak.out 0).trans rfl; have d1 : ((w7.setCell ⟨g8, 0, none⟩ (.slice Ae 0 Af)).setCell ⟨g9, 0, none⟩ (.bool false)).cell? ⟨g3, 1, none⟩ = some (.int .i64 Ac) := (blk_cell Ak.out 1).trans rfl; have d2 : ((w7.setCell ⟨g8, 0, none⟩ (.slice Ae 0 Af)).setCell ⟨g9, 0, none⟩ (.bool false)).cell? ⟨g3, 2, none⟩ = some (.slice Ag Aa.length Ah) := (blk_cell Ak.out 2).trans rfl; have e0 := blk_frozen Ak.out 0; have e1 := blk_frozen Ak.out 1; have e2 := blk_frozen Ak.out 2))
  have P8 := aM (blk_far (blk_put B8.out 0 (.slice Ae 0 Af) rfl) (p := ⟨g9, 0, none⟩) NE.out (.bool false)); have P9 := aM (blk_put (blk_far B9.out (p := ⟨g8, 0, none⟩) (fun h => NE.out h.symm) (.slice Ae 0 Af)) 0 (.bool false) rfl); have PB := aM (below_set (below_set HB.out G8.out) G9.out : Below w.heap.size w ((w7.setCell ⟨g8, 0, none⟩ (.slice Ae 0 Af)).setCell ⟨g9, 0, none⟩ (.bool false))); have PR := aM (Kd.R_far (Kd.R_far (Kd.R_far1 (Kd.R_far1 ROW.out rfl (Kd.R_ne ROW.out B8.out (by decide))) rfl (Kd.R_ne ROW.out B9.out (by decide))) (p := ⟨g8, 0, none⟩) (fun k hk => hk.1.2) (.slice Ae 0 Af)) (p := ⟨g9, 0, none⟩) (fun k hk => hk.2) (.bool false)); clear c8 f8 c9 f9 d0 d1 d2 e0 e1 e2 BK Ak B8 B9 HB ROW; refine (impl_Chart_sizesOf.calls k Ab Ac _ _ Aa a1 sz _ (Kd.C_below Ba.out PB.out) Bb.out HSZ.out).mono ?_; rintro e w9 ⟨Bk, rfl, Al, hb⟩; obtain ⟨Bf, Bg, rfl⟩ := Kd.R_slice Al; have Q8 := aM (blk_below P8.out hb); have Q9 := aM (blk_below P9.out hb); have QB := aM (below_step PB.out hb); have QR := aM (Kd.R_mono (Kd.R_bound (Kd.R_below PR.out hb)) (ok' := fun k => (k ≠ g8 ∧ k ≠ g9) ∧ k < w9.heap.size) (fun k hk => ⟨⟨hk.1.1.2, hk.1.2⟩, hk.2.2.1⟩)); have QS := aM (Kd.R_mono (Kd.R_bound (Kd.R_lower Al PB.out.size)) (ok' := fun k => k < w9.heap.size) (fun k hk => hk.2.2.1)); clear hb Al P8 P9 PB PR
  go_wp2_with fail
  refine (slices_Clone_int.calls A2 c2 l2 l2 _ (Kd.C_below Bc.out QB.out) Bd.out (by unfold slices_Clone_int.f; rw [if_pos (by have := HG.out.1; omega)])).mono ?_; rintro e Am ⟨Bl, rfl, Ad, hb⟩; obtain ⟨Bh, Bi, rfl⟩ := Kd.R_slice Ad
  have hA : ∃ lb, Bh = some ⟨lb, 0, none⟩ := by
   rcases (Kd.own_of_R Ad).2 with ⟨hv, _⟩ | ⟨g, cap, cur, hv, _⟩
   ·injection hv with _ h2 _
    have := HG.out.1
    omega
   ·injection hv with h1 _ _
    exact ⟨g, h1⟩
  obtain ⟨lb, rfl⟩ := hA; have hlb9 : w9.heap.size ≤ lb := Kd.R_base Ad lb rfl; have hlbw : lb < Am.heap.size := own_lt (Kd.own_of_R Ad) lb rfl; have U8 := aM (blk_below Q8.out hb); have U9 := aM (blk_below Q9.out hb); have UB := aM (below_step QB.out hb); have UR := aM (Kd.R_below QR.out hb); have US := aM (Kd.R_below QS.out hb); have UL := aM (Kd.R_lower (Kd.R_mono (Kd.R_tight rfl Ad) (ok' := fun k => k = lb) (fun k hk => by injection hk)) QB.out.size); have N8 := aM (by have := blk_lt Q8.out; omega : g8 ≠ lb); have N9 := aM (by have := blk_lt Q9.out; omega : g9 ≠ lb); have HLB := aM (And.intro hlb9 hlbw); clear hb Ad Q8 Q9 QB QR QS hlb9 hlbw
  go_wp2_with fail
  have hPOST : Aside0 (∀ r W i u, (∃ v, W.heap[g8]? = some (.cells #[v] 22 (0, 0)) ∧ W.heap[g9]? = some (.cells #[.bool true] 4 (0, 0)) ∧ Kd.R (Kd.int .i64) 3 W w.heap.size (fun k => k ≠ lb) v r) → ∃ v, (W.setCell ⟨lb, i, none⟩ u).heap[g8]? = some (.cells #[v] 22 (0, 0)) ∧ (W.setCell ⟨lb, i, none⟩ u).heap[g9]? = some (.cells #[.bool true] 4 (0, 0)) ∧ Kd.R (Kd.int .i64) 3 (W.setCell ⟨lb, i, none⟩ u) w.heap.size (fun k => k ≠ lb) v r) := ⟨fun r W i u ⟨v, p1, p2, p3⟩ => ⟨v, blk_far p1 (p := ⟨lb, i, none⟩) N8.out u, blk_far p2 (p := ⟨lb, i, none⟩) N9.out u, Kd.R_far p3 (p := ⟨lb, i, none⟩) (fun k hk => hk) u⟩⟩
  refine (assign_calls sz Bf Bg 64 #[.pointer (some ⟨g8, 0, none⟩), .pointer (some ⟨g9, 0, none⟩)] lb Bi (fun k => k < Am.heap.size ∧ k ≠ lb) (fun k => k = g8 ∨ k = g9) Am.heap.size (fun W => ∀ k, k < Am.heap.size → k ≠ lb → W.heap[k]? = Am.heap[k]?) (fun r W => ∃ v, W.heap[g8]? = some (.cells #[v] 22 (0, 0)) ∧ W.heap[g9]? = some (.cells #[.bool true] 4 (0, 0)) ∧ Kd.R (Kd.int .i64) 3 W w.heap.size (fun k => k ≠ lb) v r) w (enters_of Try.func64 Z61 rfl) (getD_rng sz HG.out.2.1) HG.out.1.2.2 (fun k hk => hk) (fun k hk => by
    rcases hk with hk | hk
    ·rw [hk]; exact ⟨blk_lt U8.out, N8.out⟩
    ·rw [hk]; exact ⟨blk_lt U9.out, N9.out⟩) HLB.out.2 UB.out.size
   (fun W hN hJ => (Kd.R_reads' (Kd.R_step US.out (fun k hk hk2 => hJ k hk2 (by have := HLB.out.1; omega)))).2.2) (fun W W' hJ hk k h1 h2 => (hk k ⟨h1, h2⟩).trans (hJ k h1 h2)) hPOST.out (fun W A' c' r hb hNW hJ hl hc hr => ?_) sz.length l2 (.slice none 0 0) [] Am (Nat.zero_add _) (getD_rng l2 HG.out.2.2) HG.out.1.2.1 UB.out (Nat.le_refl _) UL.out (Kd.R_nil _ _ _ _ _) (fun _ _ _ => rfl)).mono ?_
  ·refine (firstAssignment_1 A' c' r g8 g9 _ _ w W hb G8.out G9.out ((hJ g8 (blk_lt U8.out) N8.out).trans U8.out) ((hJ g9 (blk_lt U9.out) N9.out).trans U9.out) NE.out hr hc (by have := HG.out.1.2.2; omega)).mono ?_
   rintro e w' ⟨rfl, q1, q2, v, q3, q4, q5⟩
   exact ⟨rfl, q1, q2, v, q3, q4, Kd.R_lower (Kd.R_mono (Kd.R_bound q5) (fun k hk => by have := hk.2.1; have := HLB.out.2; omega)) hb.size⟩
  ·rintro e Aw ⟨rfl, hb, _, _, hk, hsome, hnone⟩
   have HBB := Aside0.mk hb
   have hres : ∃ v fl, Aw.heap[g8]? = some (.cells #[v] 22 (0, 0)) ∧ Aw.heap[g9]? = some (.cells #[.bool fl] 4 (0, 0)) ∧ Kd.R (Kd.int .i64) 3 Aw w.heap.size (fun _ => True) v r1 ∧ fl = r2 := by
    have hf := HF.out
    unfold firstOfA at hf
    cases ha : asg sz sz.length l2 [] with
    | some r =>
     rw [ha] at hf; obtain ⟨e1, e2⟩ := Prod.mk.inj hf; obtain ⟨v, q3, q4, q5⟩ := hsome r ha
     exact ⟨v, true, q3, q4, by rw [← e1]; exact Kd.R_mono q5 (fun _ _ => trivial), e2⟩
    | none =>
     rw [ha] at hf; obtain ⟨e1, e2⟩ := Prod.mk.inj hf; have hJ := hnone ha
     exact ⟨.slice Ae 0 Af, false, (hJ g8 (blk_lt U8.out) N8.out).trans U8.out, (hJ g9 (blk_lt U9.out) N9.out).trans U9.out, by rw [← e1]; exact Kd.R_mono (Kd.R_step UR.out (fun k hk hk2 => hJ k hk2 (by have := HLB.out.1; omega))) (fun _ _ => trivial), e2⟩
   obtain ⟨v, fl, q3, q4, q5, rfl⟩ := hres; obtain ⟨Av, cv, rfl⟩ := Kd.R_slice q5; have c8 : Aw.cell? ⟨g8, 0, none⟩ = some (.slice Av r1.length cv) := (blk_cell q3 0).trans rfl; have f8 := blk_frozen q3 0; have c9 : Aw.cell? ⟨g9, 0, none⟩ = some (.bool fl) := (blk_cell q4 0).trans rfl; have f9 := blk_frozen q4 0; have Q5 := Aside0.mk q5; clear hb hk hsome hnone q3 q4 q5
   go_wp2
   repeat (go_quiet (fail); try go_wp2)
   go_ret2
   exact ⟨_, rfl, by (with_reducible repeat (first | apply Kd.R_alloc | apply Kd.R_drewN | apply Kd.R_drew)); exact Q5.out, by repeat (first | exact HBB.out | apply below_alloc | apply pw_below_drewN | apply below_drew1)⟩
def laws_vBig.f (l0 : List Int) : Option (Bool) := some (decide ((l0.length : Int) > 65536))
theorem laws_vBig.calls (A0 : Option Addr) (c0 : Nat) (l0 : List Int) (r : Bool) (w : World) (Aa : Kd.C (Kd.int .u8) w A0 l0.length l0) (Ab : l0.length ≤ c0) (h : laws_vBig.f l0 = some r) :
  Calls Try.prog 36 #[.slice A0 l0.length c0] w fun e w' => e = .returned (.bool r) ∧ Drawn0 w w' := by
 have Ac := Aside0.mk Aa; have Ad := Aside0.mk Ab; clear Aa Ab; have H : (some (decide ((l0.length : Int) > 65536))) = some r := h; clear h; obtain rfl := Option.some.inj H
 go_enter Try.func36, Try.ntmps36
 go_wp2
 go_ret
 exact ⟨Z14, Z44⟩
def IsS78 (w0 W : World) (g : Nat) (f0 : List Int) (f1 : Int) (f2 : Int) : Prop := ∃ A0 c0, W.heap[g]? = some (.cells #[.slice A0 f0.length c0, .int .i64 f1, .int .u64 f2] 78 (0, 0)) ∧ w0.heap.size ≤ g ∧ Kd.C (Kd.int .u8) w0 A0 f0.length f0
theorem IsS78.grown {w0 W : World} {g : Nat} {f0 : List Int} {f1 : Int} {f2 : Int} {W1 : World} {row : Option Nat} (h : IsS78 w0 W g f0 f1 f2) (hw : W.grownBy W1 row) (hne : some g ≠ row) : IsS78 w0 W1 g f0 f1 f2 := by
 obtain ⟨A0, c0, hb, hg, Aa⟩ := h
 exact ⟨A0, c0, blk_grown hb hw hne, hg, Aa⟩
theorem IsS78.kept {w0 W : World} {g : Nat} {f0 : List Int} {f1 : Int} {f2 : Int} {W1 : World} {S : Nat → Prop} (h : IsS78 w0 W g f0 f1 f2) (hk : Kept W W1 S) (hne : ¬ S g) : IsS78 w0 W1 g f0 f1 f2 := by
 obtain ⟨A0, c0, hb, hg, Aa⟩ := h
 exact ⟨A0, c0, blk_kept hb hk hne, hg, Aa⟩
theorem IsS78.below {w0 W : World} {g : Nat} {f0 : List Int} {f1 : Int} {f2 : Int} {W1 : World} (h : IsS78 w0 W g f0 f1 f2) (hw : Below W.heap.size W W1) : IsS78 w0 W1 g f0 f1 f2 := h.grown (grown_of_below hw none) (by simp)
theorem IsS78.alloc {w0 W : World} {g : Nat} {f0 : List Int} {f1 : Int} {f2 : Int} (h : IsS78 w0 W g f0 f1 f2) (o : Obj) : IsS78 w0 (W.alloc o) g f0 f1 f2 := h.below (below_alloc (Below.refl _ _) o)
theorem IsS78.drewN {w0 W : World} {g : Nat} {f0 : List Int} {f1 : Int} {f2 : Int} (h : IsS78 w0 W g f0 f1 f2) (m : Nat) : IsS78 w0 (W.drewN m) g f0 f1 f2 := h
theorem IsS78.drew {w0 W : World} {g : Nat} {f0 : List Int} {f1 : Int} {f2 : Int} (h : IsS78 w0 W g f0 f1 f2) : IsS78 w0 W.drew g f0 f1 f2 := h
theorem IsS78.at_ {w0 W : World} {g : Nat} {f0 : List Int} {f1 : Int} {f2 : Int} {w' : World} {m : Nat} (hq : W.drewN m = w') (h : IsS78 w0 W g f0 f1 f2) : IsS78 w0 w' g f0 f1 f2 := by subst hq; exact IsS78.drewN h m
theorem IsS78.apart {w0 W : World} {g : Nat} {f0 : List Int} {f1 : Int} {f2 : Int} {α : Type} {d : Kd α} {e : Nat} {base : Nat} {ok : Nat → Prop} {v : Value} {xs : List α} (h : IsS78 w0 W g f0 f1 f2) (ho : d.R e W base ok v xs) (ht : ∀ q, q ∈ e :: d.E → q ≠ 78) : d.R e W base (fun k => ok k ∧ k ≠ g) v xs := by
 obtain ⟨A0, c0, hb, hg, Aa⟩ := h
 exact Kd.R_types ho hb ht
theorem IsS78.own_ne {w0 W : World} {g : Nat} {f0 : List Int} {f1 : Int} {f2 : Int} {α : Type} {d : Kd α} {e : Nat} {base : Nat} {ok : Nat → Prop} {v : Value} {xs : List α} (h : IsS78 w0 W g f0 f1 f2) (ho : d.R e W base ok v xs) (ht : e ≠ 78) : some g ≠ v.ownBlock := by
 obtain ⟨A0, c0, hb, hg, Aa⟩ := h
 exact Kd.R_ne ho hb ht
theorem IsS78.lt {w0 W : World} {g : Nat} {f0 : List Int} {f1 : Int} {f2 : Int} (h : IsS78 w0 W g f0 f1 f2) : g < W.heap.size := by
 obtain ⟨A0, c0, hb, hg, Aa⟩ := h
 exact blk_lt hb
theorem IsS78.ge {w0 W : World} {g : Nat} {f0 : List Int} {f1 : Int} {f2 : Int} (h : IsS78 w0 W g f0 f1 f2) : w0.heap.size ≤ g := by
 obtain ⟨A0, c0, hb, hg, Aa⟩ := h
 exact hg
theorem IsS78.far {w0 W : World} {g : Nat} {f0 : List Int} {f1 : Int} {f2 : Int} {p : Addr} (h : IsS78 w0 W g f0 f1 f2) (hne : g ≠ p.block) (u : Value) : IsS78 w0 (W.setCell p u) g f0 f1 f2 := by
 obtain ⟨A0, c0, hb, hg, Aa⟩ := h
 exact ⟨A0, c0, blk_far hb hne u, hg, Aa⟩
theorem cellS78_0 {W : World} {g : Nat} {A0 : Option Addr} {c0 : Nat} {f0 : List Int} {f1 : Int} {f2 : Int} (h : W.heap[g]? = some (.cells #[.slice A0 f0.length c0, .int .i64 f1, .int .u64 f2] 78 (0, 0))) : W.cell? ⟨g, 0, none⟩ = some (.slice A0 f0.length c0) := (blk_cell h 0).trans rfl
theorem cellS78_1 {W : World} {g : Nat} {A0 : Option Addr} {c0 : Nat} {f0 : List Int} {f1 : Int} {f2 : Int} (h : W.heap[g]? = some (.cells #[.slice A0 f0.length c0, .int .i64 f1, .int .u64 f2] 78 (0, 0))) : W.cell? ⟨g, 1, none⟩ = some (.int .i64 f1) := (blk_cell h 1).trans rfl
theorem IsS78.set_1 {w0 W : World} {g : Nat} {f0 : List Int} {f1 : Int} {f2 : Int} (h : IsS78 w0 W g f0 f1 f2) (x : Int) : IsS78 w0 (W.setCell ⟨g, 1, none⟩ (.int .i64 x)) g f0 x f2 := by
 obtain ⟨A0, c0, hb, hg, Aa⟩ := h
 exact ⟨A0, c0, by simpa using blk_set hb 1 (.int .i64 x), hg, Aa⟩
theorem cellS78_2 {W : World} {g : Nat} {A0 : Option Addr} {c0 : Nat} {f0 : List Int} {f1 : Int} {f2 : Int} (h : W.heap[g]? = some (.cells #[.slice A0 f0.length c0, .int .i64 f1, .int .u64 f2] 78 (0, 0))) : W.cell? ⟨g, 2, none⟩ = some (.int .u64 f2) := (blk_cell h 2).trans rfl
theorem IsS78.set_2 {w0 W : World} {g : Nat} {f0 : List Int} {f1 : Int} {f2 : Int} (h : IsS78 w0 W g f0 f1 f2) (x : Int) : IsS78 w0 (W.setCell ⟨g, 2, none⟩ (.int .u64 x)) g f0 f1 x := by
 obtain ⟨A0, c0, hb, hg, Aa⟩ := h
 exact ⟨A0, c0, by simpa using blk_set hb 2 (.int .u64 x), hg, Aa⟩
def spec_l1Cur_next.f (s0_0 : List Int) (s0_1 : Int) (s0_2 : Int) : Option (Int × Int × Int) := if s0_1 < (s0_0.length : Int) then (if 0 ≤ s0_1 then (if (wrap64 (s0_1 + 1)) ≤ (s0_0.length : Int) then (some (wrap64 (rd s0_0 s0_1), wrap64 (s0_1 + 1), IntKind.u64.wrap ((IntKind.u64.wrap ((IntKind.u64.wrap (s0_2 * 6364136223846793005)) + (IntKind.u64.wrap (wrap64 (rd s0_0 s0_1))))) + 102323))) else (some (wrap64 (Go.bits .and .u64 ((IntKind.u64.wrap ((IntKind.u64.wrap ((IntKind.u64.wrap (s0_2 * 6364136223846793005)) + (IntKind.u64.wrap (wrap64 (rd s0_0 s0_1))))) + 102323)) / 1099511627776) 255), wrap64 (s0_1 + 1), IntKind.u64.wrap ((IntKind.u64.wrap ((IntKind.u64.wrap (s0_2 * 6364136223846793005)) + (IntKind.u64.wrap (wrap64 (rd s0_0 s0_1))))) + 102323)))) else (none)) else (if (wrap64 (s0_1 + 1)) ≤ (s0_0.length : Int) then (some (0, wrap64 (s0_1 + 1), IntKind.u64.wrap ((IntKind.u64.wrap ((IntKind.u64.wrap (s0_2 * 6364136223846793005)))) + 102323))) else (some (wrap64 (Go.bits .and .u64 ((IntKind.u64.wrap ((IntKind.u64.wrap ((IntKind.u64.wrap (s0_2 * 6364136223846793005)))) + 102323)) / 1099511627776) 255), wrap64 (s0_1 + 1), IntKind.u64.wrap ((IntKind.u64.wrap ((IntKind.u64.wrap (s0_2 * 6364136223846793005)))) + 102323))))
theorem spec_l1Cur_next.calls (g : Nat) (Ab : List Int) (Aa : Int) (Ad : Int) (r1 : Int) (r2 : Int) (r3 : Int) (w0 w : World) (hI : IsS78 w0 w g Ab Aa Ad) (hB : Below w0.heap.size w0 w) (h : spec_l1Cur_next.f Ab Aa Ad = some (r1, r2, r3)) :
  Calls Try.prog 92 #[.pointer (some ⟨g, 0, none⟩)] w fun e w' => e = .returned (.int .i64 r1) ∧ IsS78 w0 w' g Ab r2 r3 ∧ Below w0.heap.size w0 w' ∧ KeepBut w w' g none := by
 have HI0 := Aside0.mk hI; have HK := aM (KeepBut.refl w g none); have HL := Aside0.mk hB.size; clear hI; have Bd := Aside0.mk hB.size; have HB := Aside0.mk hB; clear hB; have H : (if Aa < (Ab.length : Int) then (if 0 ≤ Aa then (if (wrap64 (Aa + 1)) ≤ (Ab.length : Int) then (some (wrap64 (rd Ab Aa), wrap64 (Aa + 1), IntKind.u64.wrap ((IntKind.u64.wrap ((IntKind.u64.wrap (Ad * 6364136223846793005)) + (IntKind.u64.wrap (wrap64 (rd Ab Aa))))) + 102323))) else (some (wrap64 (Go.bits .and .u64 ((IntKind.u64.wrap ((IntKind.u64.wrap ((IntKind.u64.wrap (Ad * 6364136223846793005)) + (IntKind.u64.wrap (wrap64 (rd Ab Aa))))) + 102323)) / 1099511627776) 255), wrap64 (Aa + 1), IntKind.u64.wrap ((IntKind.u64.wrap ((IntKind.u64.wrap (Ad * 6364136223846793005)) + (IntKind.u64.wrap (wrap64 (rd Ab Aa))))) + 102323)))) else (none)) else (if (wrap64 (Aa + 1)) ≤ (Ab.length : Int) then (some (0, wrap64 (Aa + 1), IntKind.u64.wrap ((IntKind.u64.wrap ((IntKind.u64.wrap (Ad * 6364136223846793005)))) + 102323))) else (some (wrap64 (Go.bits .and .u64 ((IntKind.u64.wrap ((IntKind.u64.wrap ((IntKind.u64.wrap (Ad * 6364136223846793005)))) + 102323)) / 1099511627776) 255), wrap64 (Aa + 1), IntKind.u64.wrap ((IntKind.u64.wrap ((IntKind.u64.wrap (Ad * 6364136223846793005)))) + 102323))))) = some (r1, r2, r3) := h; clear h
 by_cases c2 : Aa < (Ab.length : Int)
 ·rw [if_pos c2] at H
  have c2b0 : decide (Aa < (Ab.length : Int)) = true := decide_eq_true c2; clear c2
  by_cases c3 : 0 ≤ Aa
  ·rw [if_pos c3] at H
   have c3b0 : decide (0 ≤ Aa) = true := decide_eq_true c3; clear c3
   by_cases c4 : (wrap64 (Aa + 1)) ≤ (Ab.length : Int)
   ·rw [if_pos c4] at H
    have c4b0 : decide ((wrap64 (Aa + 1)) ≤ (Ab.length : Int)) = true := decide_eq_true c4; clear c4
    simp only [Option.some.injEq, Prod.mk.injEq] at H
    obtain ⟨rfl, rfl, rfl⟩ := H; obtain ⟨ASz5_0, cSz5_0, HGz5, hgz5, HSz5_0⟩ := HI0.out; have Ag := cellS78_0 HGz5; have Ah := cellS78_1 HGz5; have Ai := cellS78_2 HGz5; have Aj := blk_frozen HGz5 1; have Ak := blk_frozen HGz5 2; clear HGz5 hgz5; have Ae : 0 ≤ (Aa : Int) := of_decide_eq_true Z3; have Af : Aa < (Ab.length : Int) := of_decide_eq_true Z3; obtain ⟨ad411, e411, Ac⟩ := Kd.at_int HSz5_0 Aa Ae Af; cases e411; replace Ac := pw_cell_below HB.out Ac; replace Ae := eq_true Ae; replace Af := eq_true Af
    go_enter Try.func92, Try.ntmps92
    go_wp2
    repeat (go_quiet (fail); try go_wp2)
    go_ret
    exact ⟨Z10, Z2, Z8, Z7⟩
   ·rw [if_neg c4] at H
    have c4b0 : decide ((wrap64 (Aa + 1)) ≤ (Ab.length : Int)) = false := decide_eq_false c4; clear c4
    simp only [Option.some.injEq, Prod.mk.injEq] at H
    obtain ⟨rfl, rfl, rfl⟩ := H; obtain ⟨ASz6_0, cSz6_0, HGz6, hgz6, HSz6_0⟩ := HI0.out; have Al := cellS78_0 HGz6; have Am := cellS78_1 HGz6; have An := cellS78_2 HGz6; have Ao := blk_frozen HGz6 1; have Ap := blk_frozen HGz6 2; clear HGz6 hgz6; have Ae : 0 ≤ (Aa : Int) := of_decide_eq_true Z3; have Af : Aa < (Ab.length : Int) := of_decide_eq_true Z3; obtain ⟨ad411, e411, Ac⟩ := Kd.at_int HSz6_0 Aa Ae Af; cases e411; replace Ac := pw_cell_below HB.out Ac; replace Ae := eq_true Ae; replace Af := eq_true Af
    go_enter Try.func92, Try.ntmps92
    go_wp2
    repeat (go_quiet (fail); try go_wp2)
    go_ret
    exact ⟨Z10, Z2, Z8, Z7⟩
  ·rw [if_neg c3] at H
   exact absurd H (by simp)
 ·rw [if_neg c2] at H
  have c2b0 : decide (Aa < (Ab.length : Int)) = false := decide_eq_false c2; clear c2
  by_cases c7 : (wrap64 (Aa + 1)) ≤ (Ab.length : Int)
  ·rw [if_pos c7] at H
   have c7b0 : decide ((wrap64 (Aa + 1)) ≤ (Ab.length : Int)) = true := decide_eq_true c7; clear c7
   simp only [Option.some.injEq, Prod.mk.injEq] at H
   obtain ⟨rfl, rfl, rfl⟩ := H; obtain ⟨ASz8_0, cSz8_0, HGz8, hgz8, HSz8_0⟩ := HI0.out; have Aq := cellS78_0 HGz8; have Ar := cellS78_1 HGz8; have Au := cellS78_2 HGz8; have Aw := blk_frozen HGz8 1; have Ax := blk_frozen HGz8 2; clear HGz8 hgz8
   go_enter Try.func92, Try.ntmps92
   go_wp2
   repeat (go_quiet (fail); try go_wp2)
   go_ret
   exact ⟨Z10, Z2, Z8, Z7⟩
  ·rw [if_neg c7] at H
   have c7b0 : decide ((wrap64 (Aa + 1)) ≤ (Ab.length : Int)) = false := decide_eq_false c7; clear c7
   simp only [Option.some.injEq, Prod.mk.injEq] at H
   obtain ⟨rfl, rfl, rfl⟩ := H; obtain ⟨ASz9_0, cSz9_0, HGz9, hgz9, HSz9_0⟩ := HI0.out; have Ay := cellS78_0 HGz9; have Az := cellS78_1 HGz9; have Ba := cellS78_2 HGz9; have Bb := blk_frozen HGz9 1; have Bc := blk_frozen HGz9 2; clear HGz9 hgz9
   go_enter Try.func92, Try.ntmps92
   go_wp2
   repeat (go_quiet (fail); try go_wp2)
   go_ret
   exact ⟨Z10, Z2, Z8, Z7⟩
def spec_l1Cur_pick.f (s0_0 : List Int) (s0_1 : Int) (s0_2 : Int) (a1 : Int) : Option (Int × Int × Int) := if a1 ≤ 1 then (some (0, s0_1, s0_2)) else ((spec_l1Cur_next.f s0_0 s0_1 s0_2).bind fun bt412 => (if a1 > 200 then ((spec_l1Cur_next.f s0_0 bt412.2.1 bt412.2.2).bind fun bt415 => (if a1 = 0 then (none) else (some (Int.tmod (wrap64 ((wrap64 (bt412.1 * 256)) + bt415.1)) a1, bt415.2.1, bt415.2.2)))) else (if a1 = 0 then (none) else (some (Int.tmod bt412.1 a1, bt412.2.1, bt412.2.2)))))
theorem spec_l1Cur_pick.calls (g : Nat) (Ac : List Int) (Ad : Int) (Ae : Int) (a1 : Int) (r1 : Int) (r2 : Int) (r3 : Int) (w0 w : World) (hI : IsS78 w0 w g Ac Ad Ae) (hB : Below w0.heap.size w0 w) (h : spec_l1Cur_pick.f Ac Ad Ae a1 = some (r1, r2, r3)) :
  Calls Try.prog 74 #[.pointer (some ⟨g, 0, none⟩), .int .i64 a1] w fun e w' => e = .returned (.int .i64 r1) ∧ IsS78 w0 w' g Ac r2 r3 ∧ Below w0.heap.size w0 w' ∧ KeepBut w w' g none := by
 have HI0 := Aside0.mk hI; have HK := aM (KeepBut.refl w g none); have HL := Aside0.mk hB.size; clear hI; have Ao := Aside0.mk hB.size; have HB := Aside0.mk hB; clear hB; have H : (if a1 ≤ 1 then (some (0, Ad, Ae)) else ((spec_l1Cur_next.f Ac Ad Ae).bind fun Ab => (if a1 > 200 then ((spec_l1Cur_next.f Ac Ab.2.1 Ab.2.2).bind fun Aa => (if a1 = 0 then (none) else (some (Int.tmod (wrap64 ((wrap64 (Ab.1 * 256)) + Aa.1)) a1, Aa.2.1, Aa.2.2)))) else (if a1 = 0 then (none) else (some (Int.tmod Ab.1 a1, Ab.2.1, Ab.2.2)))))) = some (r1, r2, r3) := h; clear h
 by_cases c3 : a1 ≤ 1
 ·rw [if_pos c3] at H
  have c3b0 : decide (a1 ≤ 1) = true := decide_eq_true c3; clear c3
  simp only [Option.some.injEq, Prod.mk.injEq] at H
  obtain ⟨rfl, rfl, rfl⟩ := H
  go_enter Try.func74, Try.ntmps74
  go_wp2
  go_ret
  exact ⟨Z10, Z2, Z8, Z7⟩
 ·rw [if_neg c3] at H
  have c3b0 : decide (a1 ≤ 1) = false := decide_eq_false c3; clear c3; replace H := Option.bind_eq_some_iff.mp H; obtain ⟨⟨Af, Ag, Ah⟩, Am, H⟩ := H; replace H : (if a1 > 200 then ((spec_l1Cur_next.f Ac Ag Ah).bind fun Aa => (if a1 = 0 then (none) else (some (Int.tmod (wrap64 ((wrap64 (Af * 256)) + Aa.1)) a1, Aa.2.1, Aa.2.2)))) else (if a1 = 0 then (none) else (some (Int.tmod Af a1, Ag, Ah)))) = some (r1, r2, r3) := H; have A4 := Aside0.mk Am; clear Am
  by_cases c5 : a1 > 200
  ·rw [if_pos c5] at H
   have c5b0 : decide (200 < a1) = true := decide_eq_true c5; clear c5; replace H := Option.bind_eq_some_iff.mp H; obtain ⟨⟨Ai, Aj, Ak⟩, An, H⟩ := H; replace H : (if a1 = 0 then (none) else (some (Int.tmod (wrap64 ((wrap64 (Af * 256)) + Ai)) a1, Aj, Ak))) = some (r1, r2, r3) := H; have A6 := Aside0.mk An; clear An
   by_cases c7 : a1 = 0
   ·rw [if_pos c7] at H
    exact absurd H (by simp)
   ·rw [if_neg c7] at H
    have c7b0 : (a1 == 0) = false := beq_eq_false_iff_ne.mpr c7; have c7b1 : (a1 != 0) = true := bne_iff_ne.mpr c7
    simp only [Option.some.injEq, Prod.mk.injEq] at H
    obtain ⟨rfl, rfl, rfl⟩ := H
    go_enter Try.func74, Try.ntmps74
    go_wp2_with (first | ((with_reducible refine gate_callee (f := 92) rfl ?_); refine glE (some 9) Try.func92 #[.pointer (some ⟨g, 0, none⟩)] ?_; (with_reducible refine (spec_l1Cur_next.calls g Ac Ad Ae Af Ag Ah w0 _ ?side1 ?side2 A4.out).mono ?_); (case side1 => exact Z2); (case side2 => exact Z8); rintro e w8 ⟨rfl, hi, hb, hk⟩; refine ⟨_, rfl, ?_⟩; replace HK := aM (KeepBut.trans Z7 hk (.inl rfl)); replace HB := aM (hb); replace HI0 := aM (hi); (try clear hb); (try clear hk); (try clear hi)) | ((with_reducible refine gate_callee (f := 92) rfl ?_); refine glE (some 15) Try.func92 #[.pointer (some ⟨g, 0, none⟩)] ?_; (with_reducible refine (spec_l1Cur_next.calls g Ac Ag Ah Ai Aj Ak w0 _ ?side1 ?side2 A6.out).mono ?_); (case side1 => exact Z2); (case side2 => exact Z8); rintro e w9 ⟨rfl, hi, hb, hk⟩; refine ⟨_, rfl, ?_⟩; replace HK := aM (KeepBut.trans Z7 hk (.inl rfl)); replace HB := aM (hb); replace HI0 := aM (hi); (try clear hb); (try clear hk); (try clear hi)))
    go_ret
    exact ⟨Z10, Z2, Z8, Z7⟩
  ·rw [if_neg c5] at H
   have c5b0 : decide (200 < a1) = false := decide_eq_false c5; clear c5
   by_cases Al : a1 = 0
   ·rw [if_pos Al] at H
    exact absurd H (by simp)
   ·rw [if_neg Al] at H
    have c10b0 : (a1 == 0) = false := beq_eq_false_iff_ne.mpr Al; have c10b1 : (a1 != 0) = true := bne_iff_ne.mpr Al
    simp only [Option.some.injEq, Prod.mk.injEq] at H
    obtain ⟨rfl, rfl, rfl⟩ := H
    go_enter Try.func74, Try.ntmps74
    go_wp2_with (first | ((with_reducible refine gate_callee (f := 92) rfl ?_); refine glE (some 9) Try.func92 #[.pointer (some ⟨g, 0, none⟩)] ?_; (with_reducible refine (spec_l1Cur_next.calls g Ac Ad Ae Af Ag Ah w0 _ ?side1 ?side2 A4.out).mono ?_); (case side1 => exact Z2); (case side2 => exact Z8); rintro e Ap ⟨rfl, hi, hb, hk⟩; refine ⟨_, rfl, ?_⟩; replace HK := aM (KeepBut.trans Z7 hk (.inl rfl)); replace HB := aM (hb); replace HI0 := aM (hi); (try clear hb); (try clear hk); (try clear hi)))
    go_ret
    exact ⟨Z10, Z2, Z8, Z7⟩
def spec_l1Cur_one.f (s0_0 : List Int) (s0_1 : Int) (s0_2 : Int) (a1 : Int) : Option (Bool × Int × Int) := (spec_l1Cur_pick.f s0_0 s0_1 s0_2 a1).bind fun bt418 => (some ((bt418.1 == 0), bt418.2.1, bt418.2.2))
theorem spec_l1Cur_one.calls (g : Nat) (Aa : List Int) (Ac : Int) (Ad : Int) (a1 : Int) (r1 : Bool) (r2 : Int) (r3 : Int) (w0 w : World) (hI : IsS78 w0 w g Aa Ac Ad) (hB : Below w0.heap.size w0 w) (h : spec_l1Cur_one.f Aa Ac Ad a1 = some (r1, r2, r3)) :
  Calls Try.prog 73 #[.pointer (some ⟨g, 0, none⟩), .int .i64 a1] w fun e w' => e = .returned (.bool r1) ∧ IsS78 w0 w' g Aa r2 r3 ∧ Below w0.heap.size w0 w' ∧ KeepBut w w' g none := by
 have HI0 := Aside0.mk hI; have HK := aM (KeepBut.refl w g none); have HL := Aside0.mk hB.size; clear hI; have Ai := Aside0.mk hB.size; have HB := Aside0.mk hB; clear hB; have H : ((spec_l1Cur_pick.f Aa Ac Ad a1).bind fun Ab => (some ((Ab.1 == 0), Ab.2.1, Ab.2.2))) = some (r1, r2, r3) := h; clear h; replace H := Option.bind_eq_some_iff.mp H; obtain ⟨⟨Ae, Af, Ag⟩, Ah, H⟩ := H; replace H : (some ((Ae == 0), Af, Ag)) = some (r1, r2, r3) := H; have A3 := Aside0.mk Ah; clear Ah
 simp only [Option.some.injEq, Prod.mk.injEq] at H
 obtain ⟨rfl, rfl, rfl⟩ := H
 go_enter Try.func73, Try.ntmps73
 go_wp2_with (first | ((with_reducible refine gate_callee (f := 74) rfl ?_); refine glE (some 7) Try.func74 #[.pointer (some ⟨g, 0, none⟩), .int .i64 a1] ?_; (with_reducible refine (spec_l1Cur_pick.calls g Aa Ac Ad a1 Ae Af Ag w0 _ ?side1 ?side2 A3.out).mono ?_); (case side1 => exact Z2); (case side2 => exact Z8); rintro e w4 ⟨rfl, hi, hb, hk⟩; refine ⟨_, rfl, ?_⟩; replace HK := aM (KeepBut.trans Z7 hk (.inl rfl)); replace HB := aM (hb); replace HI0 := aM (hi); (try clear hb); (try clear hk); (try clear hi)))
 go_ret
 exact ⟨Z10, Z2, Z8, Z7⟩
def spec_l1Cur_among.f (s0_0 : List Int) (s0_1 : Int) (s0_2 : Int) (l1 : List Int) : Option (Int × Int × Int) := (spec_l1Cur_pick.f s0_0 s0_1 s0_2 (l1.length : Int)).bind fun bt421 => (if 0 ≤ bt421.1 then (if bt421.1 < (l1.length : Int) then (some (rd l1 bt421.1, bt421.2.1, bt421.2.2)) else (none)) else (none))
theorem spec_l1Cur_among.calls (g : Nat) (Ad : List Int) (Ae : Int) (Af : Int) (A1 : Option Addr) (c1 : Nat) (l1 : List Int) (r1 : Int) (r2 : Int) (r3 : Int) (w0 w : World) (hI : IsS78 w0 w g Ad Ae Af) (hB : Below w0.heap.size w0 w) (Al : Kd.C (Kd.int .i64) w A1 l1.length l1) (Am : l1.length ≤ c1) (Ak : ∀ ad, A1 = some ad → 0 < l1.length → ad.block ≠ g) (h : spec_l1Cur_among.f Ad Ae Af l1 = some (r1, r2, r3)) :
  Calls Try.prog 89 #[.pointer (some ⟨g, 0, none⟩), .slice A1 l1.length c1] w fun e w' => e = .returned (.int .i64 r1) ∧ IsS78 w0 w' g Ad r2 r3 ∧ Below w0.heap.size w0 w' ∧ KeepBut w w' g none := by
 have Ao := Aside0.mk Al; have Ap := Aside0.mk Am; clear Al Am; have HI0 := Aside0.mk hI; have HK := aM (KeepBut.refl w g none); have HL := Aside0.mk hB.size; clear hI; have Aq := Aside0.mk hB.size; have HB := Aside0.mk hB; clear hB; have H : ((spec_l1Cur_pick.f Ad Ae Af (l1.length : Int)).bind fun Ab => (if 0 ≤ Ab.1 then (if Ab.1 < (l1.length : Int) then (some (rd l1 Ab.1, Ab.2.1, Ab.2.2)) else (none)) else (none))) = some (r1, r2, r3) := h; clear h; replace H := Option.bind_eq_some_iff.mp H; obtain ⟨⟨Aa, Ai, Aj⟩, An, H⟩ := H; replace H : (if 0 ≤ Aa then (if Aa < (l1.length : Int) then (some (rd l1 Aa, Ai, Aj)) else (none)) else (none)) = some (r1, r2, r3) := H; have A3 := Aside0.mk An; clear An
 by_cases c4 : 0 ≤ Aa
 ·rw [if_pos c4] at H
  have c4b0 : decide (0 ≤ Aa) = true := decide_eq_true c4; clear c4
  by_cases c5 : Aa < (l1.length : Int)
  ·rw [if_pos c5] at H
   have c5b0 : decide (Aa < (l1.length : Int)) = true := decide_eq_true c5; clear c5
   simp only [Option.some.injEq, Prod.mk.injEq] at H
   obtain ⟨rfl, rfl, rfl⟩ := H
   go_enter Try.func89, Try.ntmps89
   go_wp2_with (first | ((with_reducible refine gate_callee (f := 74) rfl ?_); refine glE (some 9) Try.func74 #[.pointer (some ⟨g, 0, none⟩), .int .i64 (l1.length : Int)] ?_; (with_reducible refine (spec_l1Cur_pick.calls g Ad Ae Af (l1.length : Int) Aa Ai Aj w0 _ ?side1 ?side2 A3.out).mono ?_); (case side1 => exact Z2); (case side2 => exact Z8); rintro e w6 ⟨rfl, hi, hb, hk⟩; refine ⟨_, rfl, ?_⟩; replace HK := aM (KeepBut.trans Z7 hk (.inl rfl)); replace HB := aM (hb); replace HI0 := aM (hi); (try clear hb); (try clear hk); (try clear hi); have Ag : 0 ≤ (Aa : Int) := of_decide_eq_true Z3; have Ah : Aa < (l1.length : Int) := of_decide_eq_true Z3; obtain ⟨ad424, e424, Ac⟩ := Kd.at_int Ao.out Aa Ag Ah; cases e424; replace Ac := keep_cell HK.out Ac (by first | (rw [add_block]; exact Ak _ rfl (by omega)) | exact Ak _ rfl (by omega) | exact Ak ad424 rfl (by omega)); replace Ag := eq_true Ag; replace Ah := eq_true Ah))
   go_ret
   exact ⟨Z10, Z2, Z8, Z7⟩
  ·rw [if_neg c5] at H
   exact absurd H (by simp)
 ·rw [if_neg c4] at H
  exact absurd H (by simp)
def spec_l1Cur_plain.l0 : Nat → Int → Int → Int → List Int → Int → Int → Int → Int → List Int → Option (Int × Int × List Int × Int × Int)
 | 0, _, _, _, _, _, _, _, _, _ => none
 | k + 1, x1, x2, x8, x1000, x1001, x1002, x430000, x430001, x430002 => if x8 < (wrap64 (x1 * x2)) then ((spec_l1Cur_among.f x1000 x1001 x1002 (([0, 0, 0, 1, 1, 2, 5] : List Int))).bind fun bt433 => (if x8 ≥ x1 then ((spec_l1Cur_one.f x1000 bt433.2.1 bt433.2.2 3).bind fun bt436 => (if bt436.1 = true then (if 0 ≤ (wrap64 (x8 - x1)) then (if (wrap64 (x8 - x1)) < (x430002.length : Int) then (if x430002.length < 17592186044416 then (spec_l1Cur_plain.l0 k x1 x2 (wrap64 (x8 + 1)) x1000 bt436.2.1 bt436.2.2 x430000 x430001 (x430002 ++ [rd x430002 (wrap64 (x8 - x1))])) else (none)) else (none)) else (none)) else (if x430002.length < 17592186044416 then (spec_l1Cur_plain.l0 k x1 x2 (wrap64 (x8 + 1)) x1000 bt436.2.1 bt436.2.2 x430000 x430001 (x430002 ++ [bt433.1])) else (none)))) else (if x430002.length < 17592186044416 then (spec_l1Cur_plain.l0 k x1 x2 (wrap64 (x8 + 1)) x1000 bt433.2.1 bt433.2.2 x430000 x430001 (x430002 ++ [bt433.1])) else (none)))) else (some (x430000, x430001, x430002, x1001, x1002))
def spec_l1Cur_plain.f (k : Nat) (s0_0 : List Int) (s0_1 : Int) (s0_2 : Int) (a1 : Int) (a2 : Int) : Option (Int × Int × List Int × Int × Int) := spec_l1Cur_plain.l0 k a1 a2 0 s0_0 s0_1 s0_2 a1 a2 (([] : List Int))
theorem spec_l1Cur_plain.calls (k : Nat) (g : Nat) (Ah : List Int) (Bi : Int) (Bj : Int) (a1 : Int) (a2 : Int) (r1 : Int) (r2 : Int) (r3 : List Int) (r4 : Int) (r5 : Int) (w0 w : World) (hI : IsS78 w0 w g Ah Bi Bj) (hB : Below w0.heap.size w0 w) (h : spec_l1Cur_plain.f k Ah Bi Bj a1 a2 = some (r1, r2, r3, r4, r5)) :
  Calls Try.prog 88 #[.pointer (some ⟨g, 0, none⟩), .int .i64 a1, .int .i64 a2] w fun e w' => ∃ v2_ : Value, e = .returned (.agg #[.int .i64 r1, .int .i64 r2, v2_]) ∧ Kd.R (Kd.int .i64) 3 w' w.heap.size (fun _ => True) v2_ r3 ∧ IsS78 w0 w' g Ah r4 r5 ∧ Below w0.heap.size w0 w' ∧ KeepBut w w' g none := by
 have hu28 := Try.underlying28; have HI0 := Aside0.mk hI; have HK := aM (KeepBut.refl w g none); have HL := Aside0.mk hB.size; clear hI; have E2 := Aside0.mk hB.size; have HB := Aside0.mk hB; clear hB; have H : (spec_l1Cur_plain.l0 k a1 a2 0 Ah Bi Bj a1 a2 (([] : List Int))) = some (r1, r2, r3, r4, r5) := h; clear h; obtain ⟨Bt, Bk⟩ : ∃ y_ : List Int, y_ = (([] : List Int)) := ⟨_, rfl⟩
 replace H : (spec_l1Cur_plain.l0 k a1 a2 0 Ah Bi Bj a1 a2 Bt) = some (r1, r2, r3, r4, r5) := by first | (rw [Bk]; with_reducible exact H) | (have H2_ := (Option.bind_some _ _).symm.trans H; rw [Bk]; with_reducible exact H2_) | (have H2_ := (Option.bind_some _ _).symm.trans H; with_reducible exact H2_) | with_reducible exact H | (rw [Bk]; exact H) | exact H
 have B7 := Aside0.mk Bk; clear Bk; have H' := Aside0.mk H; clear H
 go_enter Try.func88, Try.ntmps88
 go_wp2_with (first | ((with_reducible refine gate_dst (N := 6) rfl ?_); refine bxE 6 #[.int .i64 0, .int .i64 0, .slice none 0 0] 28 ?_; intro Ap hg w4 hbox hb; replace HB := aM (below_step Z8 hb); have Af := aM (hbox); have Aj := aM ((Z209 : w.heap.size ≤ Ap)); have Aq := aM ((Nat.le_trans E2.out (Z209 : w.heap.size ≤ Ap) : w0.heap.size ≤ Ap)); replace HK := aM (KeepBut.trans Z7 (KeepBut.of_below hb g none) (.inl rfl)); have Ac := aM ((by rw [hg]; exact Nat.ne_of_lt (IsS78.lt (show IsS78 w0 _ g Ah Bi Bj from Z2)) : g ≠ Ap)); have Ay := aM ((by rw [hg]; exact Nat.ne_of_gt (IsS78.lt (show IsS78 w0 _ g Ah Bi Bj from Z2)) : Ap ≠ g)); replace HI0 := aM (IsS78.below Z2 hb); clear hb hbox hg) | ((with_reducible refine gate_dst (N := 12) rfl ?_); refine Kd.R_lit (Kd.int .i64) _ 3 ?hg (N := 12) ?hd (xs := ([] : List Int)) (inner := []) (ok := fun _ => True) (okp := fun _ => True) ?hr ?hp (fun _ hk => hk) trivial (Below.refl _ _) (Nat.le_refl _) (by simp) ?_; (case hd => rfl); (case hg => rfl); (case hr => first | (go_simp; done) | (go_simp; rfl)); (case hp => exact (Reps.none _ _)); intro Fq w5 Ci hb hg_ hnew_; clear hg_ hnew_; (first | rw [← B7.out] at Ci | (simp only [Int.reduceToNat] at Ci; rw [← B7.out] at Ci)); have Bp := aM (Kd.R_lower Ci (keep_size (w := w) (g := g) (row := none) Z89)); replace Af := bkB Af hb; replace HK := aM (KeepBut.trans Z89 (KeepBut.of_below hb g none) (.inl rfl)); replace HB := aM (below_step Z18 hb); replace HI0 := aM (IsS78.below Z97 hb); clear hb Ci; obtain ⟨E3, E4, Fr⟩ := Kd.R_slice Bp.out; subst Fr) | ((with_reducible refine gate_dst (N := 7) rfl ?_); refine bxE 7 #[.int .i64 0, .int .i64 0, .slice none 0 0] 28 ?_; intro Ao hg w8 hbox hb; replace Bp := roB Bp hb; replace HB := aM (below_step Z18 hb); have Ae := aM (hbox); have An := aM ((Z228 : w.heap.size ≤ Ao)); have Au := aM ((Nat.le_trans E2.out (Z228 : w.heap.size ≤ Ao) : w0.heap.size ≤ Ao)); replace HK := aM (KeepBut.trans Z89 (KeepBut.of_below hb g none) (.inl rfl)); have Ak := nbL hg Af; have Aw := nbG hg Af; replace Af := bkB Af hb; have Ad := aM ((by rw [hg]; exact Nat.ne_of_lt (IsS78.lt (show IsS78 w0 _ g Ah Bi Bj from Z97)) : g ≠ Ao)); have Ar := aM ((by rw [hg]; exact Nat.ne_of_gt (IsS78.lt (show IsS78 w0 _ g Ah Bi Bj from Z97)) : Ao ≠ g)); replace HI0 := aM (IsS78.below Z97 hb); clear hb hbox hg; have Fs := Aw.out; have Ft := Ak.out; have E5 := Ar.out; have E6 := Ad.out; obtain ⟨Bu, Bv, Bw⟩ := bz3 Ae; obtain ⟨Bx, Bz, B0⟩ := fz3 Ae))
 go_loopg [8] k (fun kq v8 w' => ∃ (Ai : Int) (Al : Int) (Am : Int) (Aa : List Int) (u430002 : Value), v8 = .int .i64 Ai ∧ Aside0 (spec_l1Cur_plain.l0 kq a1 a2 Ai Ah Al Am a1 a2 Aa = some (r1, r2, r3, r4, r5)) ∧ Aside0 (kq ≤ k) ∧ Aside0 (Kd.R (Kd.int .i64) 3 w' w.heap.size (fun _ => True) u430002 Aa) ∧ Aside0 (w'.heap[Ap]? = some (.cells #[.int .i64 0, .int .i64 0, (.slice none 0 0)] 28 (0, 0))) ∧ Aside0 (w'.heap[Ao]? = some (.cells #[.int .i64 a1, .int .i64 a2, u430002] 28 (0, 0))) ∧ Aside0 (IsS78 w0 w' g Ah Al Am) ∧ Aside0 (KeepBut w w' g none) ∧ Aside0 (Below w0.heap.size w0 w'))
 case atStart => exact ⟨(0), (Bi), (Bj), (Bt), (.slice E3 Bt.length E4), Z14, H', ⟨Nat.le_refl _⟩, ⟨by (with_reducible repeat (first | apply Kd.R_alloc | apply Kd.R_drewN | apply Kd.R_drew)); exact Kd.R_mono (Kd.R_far (p := ⟨Ao, 2, none⟩) (Kd.R_far (p := ⟨Ao, 1, none⟩) (Kd.R_far (p := ⟨Ao, 0, none⟩) (Kd.R_types Bp.out Ae.out (by decide)) (fun _ hk => hk.2) (.int .i64 a1)) (fun _ hk => hk.2) (.int .i64 a2)) (fun _ hk => hk.2) (.slice E3 Bt.length E4)) (fun _ hk => trivial)⟩, ⟨Z46⟩, ⟨by (with_reducible repeat (first | refine blk_drewN ?_ _ | refine blk_drew ?_ | refine blk_alloc ?_ _)); refine blk_put (cs := #[.int .i64 a1, .int .i64 a2, .slice none 0 0]) ?_ 2 _ rfl; (with_reducible repeat (first | refine blk_drewN ?_ _ | refine blk_drew ?_ | refine blk_alloc ?_ _)); refine blk_put (cs := #[.int .i64 a1, .int .i64 0, .slice none 0 0]) ?_ 1 _ rfl; (with_reducible repeat (first | refine blk_drewN ?_ _ | refine blk_drew ?_ | refine blk_alloc ?_ _)); refine blk_put (cs := #[.int .i64 0, .int .i64 0, .slice none 0 0]) ?_ 0 _ rfl; (with_reducible repeat (first | refine blk_drewN ?_ _ | refine blk_drew ?_ | refine blk_alloc ?_ _)); exact Ae.out⟩, ⟨Z15⟩, ⟨Z22⟩, ⟨Z33⟩⟩
 case round =>
  clear H'; (try clear c1); (try clear p2); (try clear c8); (try clear c9); (try clear Fy); (try clear Bu); (try clear Bv); (try clear Bw); (try clear Bx); (try clear Bz); (try clear B0); obtain ⟨Ai, Al, Am, Aa, u430002, rfl, HA, HK1, Ab, Af, Ae, HI0, HK, HB⟩ := hrel; cases gk with
  | zero => exact absurd HA.out (by simp [spec_l1Cur_plain.l0])
  | succ k1 =>
   have H := HA.out; clear HA
   simp only [spec_l1Cur_plain.l0] at H
   by_cases Cg : Ai < (wrap64 (a1 * a2))
   ·rw [if_pos Cg] at H
    have c12b0 : decide (Ai < (wrap64 (a1 * a2))) = true := decide_eq_true Cg; clear Cg; obtain ⟨Bf, Bl⟩ : ∃ y_ : List Int, y_ = (([0, 0, 0, 1, 1, 2, 5] : List Int)) := ⟨_, rfl⟩
    replace H : ((spec_l1Cur_among.f Ah Al Am Bf).bind fun Bg => (if Ai ≥ a1 then ((spec_l1Cur_one.f Ah Bg.2.1 Bg.2.2 3).bind fun Ax => (if Ax.1 = true then (if 0 ≤ (wrap64 (Ai - a1)) then (if (wrap64 (Ai - a1)) < (Aa.length : Int) then (if Aa.length < 17592186044416 then (spec_l1Cur_plain.l0 k1 a1 a2 (wrap64 (Ai + 1)) Ah Ax.2.1 Ax.2.2 a1 a2 (Aa ++ [rd Aa (wrap64 (Ai - a1))])) else (none)) else (none)) else (none)) else (if Aa.length < 17592186044416 then (spec_l1Cur_plain.l0 k1 a1 a2 (wrap64 (Ai + 1)) Ah Ax.2.1 Ax.2.2 a1 a2 (Aa ++ [Bg.1])) else (none)))) else (if Aa.length < 17592186044416 then (spec_l1Cur_plain.l0 k1 a1 a2 (wrap64 (Ai + 1)) Ah Bg.2.1 Bg.2.2 a1 a2 (Aa ++ [Bg.1])) else (none)))) = some (r1, r2, r3, r4, r5) := by first | (rw [Bl]; with_reducible exact H) | (have H2_ := (Option.bind_some _ _).symm.trans H; rw [Bl]; with_reducible exact H2_) | (have H2_ := (Option.bind_some _ _).symm.trans H; with_reducible exact H2_) | with_reducible exact H | (rw [Bl]; exact H) | exact H
    have Bh := Aside0.mk Bl; clear Bl; replace H := Option.bind_eq_some_iff.mp H; obtain ⟨⟨Az, Ba, Bb⟩, Cj, H⟩ := H; replace H : (if Ai ≥ a1 then ((spec_l1Cur_one.f Ah Ba Bb 3).bind fun Ax => (if Ax.1 = true then (if 0 ≤ (wrap64 (Ai - a1)) then (if (wrap64 (Ai - a1)) < (Aa.length : Int) then (if Aa.length < 17592186044416 then (spec_l1Cur_plain.l0 k1 a1 a2 (wrap64 (Ai + 1)) Ah Ax.2.1 Ax.2.2 a1 a2 (Aa ++ [rd Aa (wrap64 (Ai - a1))])) else (none)) else (none)) else (none)) else (if Aa.length < 17592186044416 then (spec_l1Cur_plain.l0 k1 a1 a2 (wrap64 (Ai + 1)) Ah Ax.2.1 Ax.2.2 a1 a2 (Aa ++ [Az])) else (none)))) else (if Aa.length < 17592186044416 then (spec_l1Cur_plain.l0 k1 a1 a2 (wrap64 (Ai + 1)) Ah Ba Bb a1 a2 (Aa ++ [Az])) else (none))) = some (r1, r2, r3, r4, r5) := H; have C5 := Aside0.mk Cj; clear Cj
    by_cases Ch : Ai ≥ a1
    ·rw [if_pos Ch] at H
     have c14b0 : decide (a1 ≤ Ai) = true := decide_eq_true Ch; clear Ch; replace H := Option.bind_eq_some_iff.mp H; obtain ⟨⟨Ck, Bc, Bd⟩, Cl, H⟩ := H; replace H : (if Ck = true then (if 0 ≤ (wrap64 (Ai - a1)) then (if (wrap64 (Ai - a1)) < (Aa.length : Int) then (if Aa.length < 17592186044416 then (spec_l1Cur_plain.l0 k1 a1 a2 (wrap64 (Ai + 1)) Ah Bc Bd a1 a2 (Aa ++ [rd Aa (wrap64 (Ai - a1))])) else (none)) else (none)) else (none)) else (if Aa.length < 17592186044416 then (spec_l1Cur_plain.l0 k1 a1 a2 (wrap64 (Ai + 1)) Ah Bc Bd a1 a2 (Aa ++ [Az])) else (none))) = some (r1, r2, r3, r4, r5) := H; have Er := Aside0.mk Cl; clear Cl
     by_cases C6 : Ck = true
     ·subst C6
      have H1 : (if 0 ≤ (wrap64 (Ai - a1)) then (if (wrap64 (Ai - a1)) < (Aa.length : Int) then (if Aa.length < 17592186044416 then (spec_l1Cur_plain.l0 k1 a1 a2 (wrap64 (Ai + 1)) Ah Bc Bd a1 a2 (Aa ++ [rd Aa (wrap64 (Ai - a1))])) else (none)) else (none)) else (none)) = some (r1, r2, r3, r4, r5) := by rw [if_pos rfl] at H; exact H
      clear H; have H := H1; clear H1; obtain ⟨ji17, hji17⟩ : ∃ j_ : Int, (wrap64 (Ai - a1)) = j_ := ⟨_, rfl⟩
      replace H : (if 0 ≤ (ji17) then (if (ji17) < (Aa.length : Int) then (if Aa.length < 17592186044416 then (spec_l1Cur_plain.l0 k1 a1 a2 (wrap64 (Ai + 1)) Ah Bc Bd a1 a2 (Aa ++ [rd Aa (ji17)])) else (none)) else (none)) else (none)) = some (r1, r2, r3, r4, r5) := by first | (rw [hji17] at H; exact H) | (simp only [hji17] at H ⊢; exact H)
      (try rw [hji17] at C5)
      (try rw [hji17] at Er)
      have hji17w : (IntKind.i64.wrap (Ai - a1)) = ji17 := (i64_w _).trans hji17
      by_cases C7 : 0 ≤ (ji17)
      ·rw [if_pos C7] at H
       have c18b0 : decide (0 ≤ (ji17)) = true := decide_eq_true C7; clear C7
       by_cases C8 : (ji17) < (Aa.length : Int)
       ·rw [if_pos C8] at H
        have c19b0 : decide ((ji17) < (Aa.length : Int)) = true := decide_eq_true C8; clear C8
        by_cases C9 : Aa.length < 17592186044416
        ·rw [if_pos C9] at H
         have LMc20 := Aside0.mk C9; clear C9; obtain ⟨B2, Bm⟩ : ∃ y_ : List Int, y_ = (Aa ++ [rd Aa (ji17)]) := ⟨_, rfl⟩
         replace H : (spec_l1Cur_plain.l0 k1 a1 a2 (wrap64 (Ai + 1)) Ah Bc Bd a1 a2 B2) = some (r1, r2, r3, r4, r5) := by first | (rw [Bm]; with_reducible exact H) | (have H2_ := (Option.bind_some _ _).symm.trans H; rw [Bm]; with_reducible exact H2_) | (have H2_ := (Option.bind_some _ _).symm.trans H; with_reducible exact H2_) | with_reducible exact H | (rw [Bm]; exact H) | exact H
         have Cm := Aside0.mk Bm; clear Bm; have H' := Aside0.mk H; clear H
         go_wp2_with (first | ((with_reducible refine gate_dst (N := 22) rfl ?_); refine Kd.R_lit (Kd.int .i64) _ 3 ?hg (N := 22) ?hd (xs := ([0, 0, 0, 1, 1, 2, 5] : List Int)) (inner := [.int .i64 0, .int .i64 0, .int .i64 0, .int .i64 1, .int .i64 1, .int .i64 2, .int .i64 5]) (ok := fun _ => True) (okp := fun _ => True) ?hr ?hp (fun _ hk => hk) trivial (Below.refl _ _) (Nat.le_refl _) (by simp) ?_; (case hd => rfl); (case hg => rfl); (case hr => first | (go_simp; done) | (go_simp; rfl)); (case hp => exact (Reps.one (show Kd.M (Kd.int .i64) _ _ _ 0 [.int .i64 0] from rfl) (Reps.one (show Kd.M (Kd.int .i64) _ _ _ 0 [.int .i64 0] from rfl) (Reps.one (show Kd.M (Kd.int .i64) _ _ _ 0 [.int .i64 0] from rfl) (Reps.one (show Kd.M (Kd.int .i64) _ _ _ 1 [.int .i64 1] from rfl) (Reps.one (show Kd.M (Kd.int .i64) _ _ _ 1 [.int .i64 1] from rfl) (Reps.one (show Kd.M (Kd.int .i64) _ _ _ 2 [.int .i64 2] from rfl) (Reps.one (show Kd.M (Kd.int .i64) _ _ _ 5 [.int .i64 5] from rfl) (Reps.none _ _))))))))); intro Cn Fz Bq hb hg_ hnew_; clear hg_ hnew_; (first | rw [← Bh.out] at Bq | (simp only [Int.reduceToNat] at Bq; rw [← Bh.out] at Bq)); have Ag := aM (Kd.R_lower (Kd.R_new' Bq (Kd.R_lt Z74)) (keep_size (w := w) (g := g) (row := none) Z22)); replace Ab := aM (Kd.R_elder' Z74 (Kd.R_base Bq) hb); replace Af := bkB Af hb; replace Ae := bkB Ae hb; replace HK := aM (KeepBut.trans Z22 (KeepBut.of_below hb g none) (.inl rfl)); replace HB := aM (below_step Z33 hb); replace HI0 := aM (IsS78.below Z15 hb); clear hb Bq; obtain ⟨Co, Cp, Es⟩ := Kd.R_slice Ag.out; subst Es) | ((with_reducible refine gate_callee (f := 89) rfl ?_); refine glE (some 23) Try.func89 #[.pointer (some ⟨g, 0, none⟩), .slice Co Bf.length Cp] ?_; (with_reducible refine (spec_l1Cur_among.calls g Ah Al Am _ _ Bf Az Ba Bb w0 _ ?side1 ?side2 ?side3 ?side4 ?side5 C5.out).mono ?_); (case side1 => exact Z15); (case side2 => exact Z33); (case side3 => exact Z64); (case side4 => exact (Kd.R_reads' Ag.out).2.1); (case side5 => exact far_slice (IsS78.own_ne HI0.out Ag.out (by decide))); rintro e F0 ⟨rfl, hi, hb, hk⟩; refine ⟨_, rfl, ?_⟩; replace Ab := aM (Kd.R_mono (Kd.R_keep (IsS78.apart (show IsS78 w0 _ g Ah Al Am from Z15) Z74 (by decide)) hk (fun _ h => h.2)) (fun _ h => h.1)); replace Af := aM (KeepBut.blk hk (g' := Ap) (o := .cells #[.int .i64 0, .int .i64 0, .slice none 0 0] 28 (0, 0)) Z29 Ay.out (by simp)); replace Ae := aM (KeepBut.blk hk (g' := Ao) (o := .cells #[.int .i64 a1, .int .i64 a2, u430002] 28 (0, 0)) Z88 Ar.out (by simp)); replace Ag := aM (Kd.R_mono (Kd.R_keep (IsS78.apart (show IsS78 w0 _ g Ah Al Am from Z15) Z19 (by decide)) hk (fun _ h => h.2)) (fun _ h => h.1)); replace HK := aM (KeepBut.trans Z22 hk (.inl rfl)); replace HB := aM (hb); replace HI0 := aM (hi); (try clear hb); (try clear hk); (try clear hi)) | (go_at_call 73; (with_reducible refine (spec_l1Cur_one.calls g Ah Ba Bb 3 true Bc Bd w0 _ ?side1 ?side2 Er.out).mono ?_); (case side1 => exact Z15); (case side2 => exact Z33); rintro e F1 ⟨rfl, hi, hb, hk⟩; replace Ab := aM (Kd.R_mono (Kd.R_keep (IsS78.apart (show IsS78 w0 _ g Ah Ba Bb from Z15) Z74 (by decide)) hk (fun _ h => h.2)) (fun _ h => h.1)); replace Af := aM (KeepBut.blk hk (g' := Ap) (o := .cells #[.int .i64 0, .int .i64 0, .slice none 0 0] 28 (0, 0)) Z29 Ay.out (by simp)); replace Ae := aM (KeepBut.blk hk (g' := Ao) (o := .cells #[.int .i64 a1, .int .i64 a2, u430002] 28 (0, 0)) Z88 Ar.out (by simp)); replace Ag := aM (Kd.R_mono (Kd.R_keep (IsS78.apart (show IsS78 w0 _ g Ah Ba Bb from Z15) Z19 (by decide)) hk (fun _ h => h.2)) (fun _ h => h.1)); replace HK := aM (KeepBut.trans Z22 hk (.inl rfl)); replace HB := aM (hb); replace HI0 := aM (hi); (try clear hb); (try clear hk); (try clear hi); have E7 := Aw.out; have E8 := Ak.out; have E9 := Ar.out; have Fa := Ad.out; obtain ⟨Da, Db, Dc⟩ := bz3 Ae; obtain ⟨Dd, De, Df⟩ := fz3 Ae; obtain ⟨Fu, Cd, Et⟩ := Kd.R_slice Ab.out; subst Et; have Ce : 0 ≤ ((ji17) : Int) := of_decide_eq_true Z3; have Cf : (ji17) < (Aa.length : Int) := of_decide_eq_true Z3; obtain ⟨ad439, e439, Dg⟩ := Kd.at_int (Kd.R_reads' Ab.out).2.2 (ji17) Ce Cf; cases e439; replace Ce := eq_true Ce; replace Cf := eq_true Cf) | ((with_reducible refine gate_builtin (b := .append) (xs := #[.tmp 39, .tmp 41]) rfl ?_); at_builtin; refine Kd.R_append (Kd.int .i64) w.heap.size rfl (.tmp 39) (.tmp 41) 22 3 (.int .i64 0) 8 rfl Try.underlying22 info3 rfl (by decide) (by omega) (.slice (some ad439) Aa.length Cd) Aa (rd Aa (ji17)) [.int .i64 (rd Aa (ji17))] (fun k_ => nS k_ Co Bf.length Cp) (fun _ => False) rfl rfl ?aP (fun _ hk => hk.elim) ?aF ?aO (Below.refl _ _) ?aS ?aL ?_; (case aP => exact rfl); (case aF => exact (fun k_ hk => Kd.fresh' (Kd.R_lt Z19) k_ hk)); (case aO => exact Z139); (case aS => exact (keep_size (w := w) (g := g) (row := none) Z22)); (case aL => have := LMc20.out; omega); intro Fv F2 ho hb hg hat; rw [← Cm.out] at ho; replace Af := aM (blk_grown (g := Ap) (o := .cells #[.int .i64 0, .int .i64 0, .slice none 0 0] 28 (0, 0)) Z29 hg (Kd.R_ne Ab.out Af.out (by decide))); replace Ae := aM (blk_grown (g := Ao) (o := .cells #[.int .i64 a1, .int .i64 a2, .slice (some ad439) Aa.length Cd] 28 (0, 0)) Z88 hg (Kd.R_ne Ab.out Ae.out (by decide))); replace Ag := aM (Kd.R_after (ok := (fun _ => True)) Z19 hg hat); replace HB := aM (below_weaken Z33 HL.out hb); replace HI0 := aM (IsS78.grown Z15 hg (IsS78.own_ne HI0.out Ab.out (by decide))); replace HK := aM (KeepBut.trans Z22 (KeepBut.of_grown hg g) (Kd.R_base2 Ab.out)); have Ca := aM (ho); clear Ab; clear ho hb hg hat; obtain ⟨Cq, Cr, Eu⟩ := Kd.R_slice Ca.out; subst Eu; obtain ⟨Dh, Di, Dj⟩ := bz3 Ae; obtain ⟨Dk, Dl, Dm⟩ := fz3 Ae))
         go_roundg k1
         case measure => have := HK1.out; omega
         case rel => exact ⟨(wrap64 (Ai + 1)), (Bc), (Bd), (B2), (.slice Cq B2.length Cr), Z14, H', ⟨Z118⟩, ⟨by (with_reducible repeat (first | apply Kd.R_alloc | apply Kd.R_drewN | apply Kd.R_drew)); exact Kd.R_mono (Kd.R_far (p := ⟨Ao, 2, none⟩) (Kd.R_types Ca.out Ae.out (by decide)) (fun _ hk => hk.2) (.slice Cq B2.length Cr)) (fun _ hk => trivial)⟩, ⟨Z98⟩, ⟨by (with_reducible repeat (first | refine blk_drewN ?_ _ | refine blk_drew ?_ | refine blk_alloc ?_ _)); refine blk_put (cs := #[.int .i64 a1, .int .i64 a2, .slice (some ad439) Aa.length Cd]) ?_ 2 _ rfl; (with_reducible repeat (first | refine blk_drewN ?_ _ | refine blk_drew ?_ | refine blk_alloc ?_ _)); exact Ae.out⟩, ⟨Z15⟩, ⟨Z22⟩, ⟨Z33⟩⟩
        ·rw [if_neg C9] at H
         exact absurd H (by simp)
       ·rw [if_neg C8] at H
        exact absurd H (by simp)
      ·rw [if_neg C7] at H
       exact absurd H (by simp)
     ·replace C6 := Bool.eq_false_iff.mpr C6
      subst C6
      have H1 : (if Aa.length < 17592186044416 then (spec_l1Cur_plain.l0 k1 a1 a2 (wrap64 (Ai + 1)) Ah Bc Bd a1 a2 (Aa ++ [Az])) else (none)) = some (r1, r2, r3, r4, r5) := by rw [if_neg (show ¬ (false = true) by decide)] at H; exact H
      clear H; have H := H1; clear H1
      by_cases Dn : Aa.length < 17592186044416
      ·rw [if_pos Dn] at H
       have LMc33 := Aside0.mk Dn; clear Dn; obtain ⟨B5, Bn⟩ : ∃ y_ : List Int, y_ = (Aa ++ [Az]) := ⟨_, rfl⟩
       replace H : (spec_l1Cur_plain.l0 k1 a1 a2 (wrap64 (Ai + 1)) Ah Bc Bd a1 a2 B5) = some (r1, r2, r3, r4, r5) := by first | (rw [Bn]; with_reducible exact H) | (have H2_ := (Option.bind_some _ _).symm.trans H; rw [Bn]; with_reducible exact H2_) | (have H2_ := (Option.bind_some _ _).symm.trans H; with_reducible exact H2_) | with_reducible exact H | (rw [Bn]; exact H) | exact H
       have Cs := Aside0.mk Bn; clear Bn; have H' := Aside0.mk H; clear H
       go_wp2_with (first | ((with_reducible refine gate_dst (N := 22) rfl ?_); refine Kd.R_lit (Kd.int .i64) _ 3 ?hg (N := 22) ?hd (xs := ([0, 0, 0, 1, 1, 2, 5] : List Int)) (inner := [.int .i64 0, .int .i64 0, .int .i64 0, .int .i64 1, .int .i64 1, .int .i64 2, .int .i64 5]) (ok := fun _ => True) (okp := fun _ => True) ?hr ?hp (fun _ hk => hk) trivial (Below.refl _ _) (Nat.le_refl _) (by simp) ?_; (case hd => rfl); (case hg => rfl); (case hr => first | (go_simp; done) | (go_simp; rfl)); (case hp => exact (Reps.one (show Kd.M (Kd.int .i64) _ _ _ 0 [.int .i64 0] from rfl) (Reps.one (show Kd.M (Kd.int .i64) _ _ _ 0 [.int .i64 0] from rfl) (Reps.one (show Kd.M (Kd.int .i64) _ _ _ 0 [.int .i64 0] from rfl) (Reps.one (show Kd.M (Kd.int .i64) _ _ _ 1 [.int .i64 1] from rfl) (Reps.one (show Kd.M (Kd.int .i64) _ _ _ 1 [.int .i64 1] from rfl) (Reps.one (show Kd.M (Kd.int .i64) _ _ _ 2 [.int .i64 2] from rfl) (Reps.one (show Kd.M (Kd.int .i64) _ _ _ 5 [.int .i64 5] from rfl) (Reps.none _ _))))))))); intro Cn F3 Br hb hg_ hnew_; clear hg_ hnew_; (first | rw [← Bh.out] at Br | (simp only [Int.reduceToNat] at Br; rw [← Bh.out] at Br)); have Ag := aM (Kd.R_lower (Kd.R_new' Br (Kd.R_lt Z74)) (keep_size (w := w) (g := g) (row := none) Z22)); replace Ab := aM (Kd.R_elder' Z74 (Kd.R_base Br) hb); replace Af := bkB Af hb; replace Ae := bkB Ae hb; replace HK := aM (KeepBut.trans Z22 (KeepBut.of_below hb g none) (.inl rfl)); replace HB := aM (below_step Z33 hb); replace HI0 := aM (IsS78.below Z15 hb); clear hb Br; obtain ⟨Ct, Cu, Ew⟩ := Kd.R_slice Ag.out; subst Ew) | ((with_reducible refine gate_callee (f := 89) rfl ?_); refine glE (some 23) Try.func89 #[.pointer (some ⟨g, 0, none⟩), .slice Ct Bf.length Cu] ?_; (with_reducible refine (spec_l1Cur_among.calls g Ah Al Am _ _ Bf Az Ba Bb w0 _ ?side1 ?side2 ?side3 ?side4 ?side5 C5.out).mono ?_); (case side1 => exact Z15); (case side2 => exact Z33); (case side3 => exact Z64); (case side4 => exact (Kd.R_reads' Ag.out).2.1); (case side5 => exact far_slice (IsS78.own_ne HI0.out Ag.out (by decide))); rintro e F4 ⟨rfl, hi, hb, hk⟩; refine ⟨_, rfl, ?_⟩; replace Ab := aM (Kd.R_mono (Kd.R_keep (IsS78.apart (show IsS78 w0 _ g Ah Al Am from Z15) Z74 (by decide)) hk (fun _ h => h.2)) (fun _ h => h.1)); replace Af := aM (KeepBut.blk hk (g' := Ap) (o := .cells #[.int .i64 0, .int .i64 0, .slice none 0 0] 28 (0, 0)) Z29 Ay.out (by simp)); replace Ae := aM (KeepBut.blk hk (g' := Ao) (o := .cells #[.int .i64 a1, .int .i64 a2, u430002] 28 (0, 0)) Z88 Ar.out (by simp)); replace Ag := aM (Kd.R_mono (Kd.R_keep (IsS78.apart (show IsS78 w0 _ g Ah Al Am from Z15) Z19 (by decide)) hk (fun _ h => h.2)) (fun _ h => h.1)); replace HK := aM (KeepBut.trans Z22 hk (.inl rfl)); replace HB := aM (hb); replace HI0 := aM (hi); (try clear hb); (try clear hk); (try clear hi)) | (go_at_call 73; (with_reducible refine (spec_l1Cur_one.calls g Ah Ba Bb 3 false Bc Bd w0 _ ?side1 ?side2 Er.out).mono ?_); (case side1 => exact Z15); (case side2 => exact Z33); rintro e F5 ⟨rfl, hi, hb, hk⟩; replace Ab := aM (Kd.R_mono (Kd.R_keep (IsS78.apart (show IsS78 w0 _ g Ah Ba Bb from Z15) Z74 (by decide)) hk (fun _ h => h.2)) (fun _ h => h.1)); replace Af := aM (KeepBut.blk hk (g' := Ap) (o := .cells #[.int .i64 0, .int .i64 0, .slice none 0 0] 28 (0, 0)) Z29 Ay.out (by simp)); replace Ae := aM (KeepBut.blk hk (g' := Ao) (o := .cells #[.int .i64 a1, .int .i64 a2, u430002] 28 (0, 0)) Z88 Ar.out (by simp)); replace Ag := aM (Kd.R_mono (Kd.R_keep (IsS78.apart (show IsS78 w0 _ g Ah Ba Bb from Z15) Z19 (by decide)) hk (fun _ h => h.2)) (fun _ h => h.1)); replace HK := aM (KeepBut.trans Z22 hk (.inl rfl)); replace HB := aM (hb); replace HI0 := aM (hi); (try clear hb); (try clear hk); (try clear hi); have Fb := Aw.out; have Fc := Ak.out; have Fd := Ar.out; have Fe := Ad.out; obtain ⟨Dp, Dq, Dr⟩ := bz3 Ae; obtain ⟨Ds, Dt, Du⟩ := fz3 Ae) | ((with_reducible refine gate_builtin (b := .append) (xs := #[.tmp 39, .tmp 41]) rfl ?_); at_builtin; refine Kd.R_append (Kd.int .i64) w.heap.size rfl (.tmp 39) (.tmp 41) 22 3 (.int .i64 0) 8 rfl Try.underlying22 info3 rfl (by decide) (by omega) u430002 Aa Az [.int .i64 Az] (fun k_ => nS k_ Ct Bf.length Cu) (fun _ => False) rfl rfl ?aP (fun _ hk => hk.elim) ?aF ?aO (Below.refl _ _) ?aS ?aL ?_; (case aP => exact rfl); (case aF => exact (fun k_ hk => Kd.fresh' (Kd.R_lt Z19) k_ hk)); (case aO => exact Z139); (case aS => exact (keep_size (w := w) (g := g) (row := none) Z22)); (case aL => have := LMc33.out; omega); intro Fw F6 ho hb hg hat; rw [← Cs.out] at ho; replace Af := aM (blk_grown (g := Ap) (o := .cells #[.int .i64 0, .int .i64 0, .slice none 0 0] 28 (0, 0)) Z29 hg (Kd.R_ne Ab.out Af.out (by decide))); replace Ae := aM (blk_grown (g := Ao) (o := .cells #[.int .i64 a1, .int .i64 a2, u430002] 28 (0, 0)) Z88 hg (Kd.R_ne Ab.out Ae.out (by decide))); replace Ag := aM (Kd.R_after (ok := (fun _ => True)) Z19 hg hat); replace HB := aM (below_weaken Z33 HL.out hb); replace HI0 := aM (IsS78.grown Z15 hg (IsS78.own_ne HI0.out Ab.out (by decide))); replace HK := aM (KeepBut.trans Z22 (KeepBut.of_grown hg g) (Kd.R_base2 Ab.out)); have Cb := aM (ho); clear Ab; clear ho hb hg hat; obtain ⟨Cv, Cw, Ex⟩ := Kd.R_slice Cb.out; subst Ex; obtain ⟨Dv, Dw, Dx⟩ := bz3 Ae; obtain ⟨Dy, Dz, D0⟩ := fz3 Ae))
       go_roundg k1
       case measure => have := HK1.out; omega
       case rel => exact ⟨(wrap64 (Ai + 1)), (Bc), (Bd), (B5), (.slice Cv B5.length Cw), Z14, H', ⟨Z118⟩, ⟨by (with_reducible repeat (first | apply Kd.R_alloc | apply Kd.R_drewN | apply Kd.R_drew)); exact Kd.R_mono (Kd.R_far (p := ⟨Ao, 2, none⟩) (Kd.R_types Cb.out Ae.out (by decide)) (fun _ hk => hk.2) (.slice Cv B5.length Cw)) (fun _ hk => trivial)⟩, ⟨Z98⟩, ⟨Z114⟩, ⟨Z15⟩, ⟨Z22⟩, ⟨Z33⟩⟩
      ·rw [if_neg Dn] at H
       exact absurd H (by simp)
    ·rw [if_neg Ch] at H
     have c14b0 : decide (a1 ≤ Ai) = false := decide_eq_false Ch; clear Ch
     by_cases D1 : Aa.length < 17592186044416
     ·rw [if_pos D1] at H
      have LMc45 := Aside0.mk D1; clear D1; obtain ⟨B6, Bo⟩ : ∃ y_ : List Int, y_ = (Aa ++ [Az]) := ⟨_, rfl⟩
      replace H : (spec_l1Cur_plain.l0 k1 a1 a2 (wrap64 (Ai + 1)) Ah Ba Bb a1 a2 B6) = some (r1, r2, r3, r4, r5) := by first | (rw [Bo]; with_reducible exact H) | (have H2_ := (Option.bind_some _ _).symm.trans H; rw [Bo]; with_reducible exact H2_) | (have H2_ := (Option.bind_some _ _).symm.trans H; with_reducible exact H2_) | with_reducible exact H | (rw [Bo]; exact H) | exact H
      have Cx := Aside0.mk Bo; clear Bo; have H' := Aside0.mk H; clear H
      go_wp2_with (first | ((with_reducible refine gate_dst (N := 22) rfl ?_); refine Kd.R_lit (Kd.int .i64) _ 3 ?hg (N := 22) ?hd (xs := ([0, 0, 0, 1, 1, 2, 5] : List Int)) (inner := [.int .i64 0, .int .i64 0, .int .i64 0, .int .i64 1, .int .i64 1, .int .i64 2, .int .i64 5]) (ok := fun _ => True) (okp := fun _ => True) ?hr ?hp (fun _ hk => hk) trivial (Below.refl _ _) (Nat.le_refl _) (by simp) ?_; (case hd => rfl); (case hg => rfl); (case hr => first | (go_simp; done) | (go_simp; rfl)); (case hp => exact (Reps.one (show Kd.M (Kd.int .i64) _ _ _ 0 [.int .i64 0] from rfl) (Reps.one (show Kd.M (Kd.int .i64) _ _ _ 0 [.int .i64 0] from rfl) (Reps.one (show Kd.M (Kd.int .i64) _ _ _ 0 [.int .i64 0] from rfl) (Reps.one (show Kd.M (Kd.int .i64) _ _ _ 1 [.int .i64 1] from rfl) (Reps.one (show Kd.M (Kd.int .i64) _ _ _ 1 [.int .i64 1] from rfl) (Reps.one (show Kd.M (Kd.int .i64) _ _ _ 2 [.int .i64 2] from rfl) (Reps.one (show Kd.M (Kd.int .i64) _ _ _ 5 [.int .i64 5] from rfl) (Reps.none _ _))))))))); intro Cn F7 Bs hb hg_ hnew_; clear hg_ hnew_; (first | rw [← Bh.out] at Bs | (simp only [Int.reduceToNat] at Bs; rw [← Bh.out] at Bs)); have Ag := aM (Kd.R_lower (Kd.R_new' Bs (Kd.R_lt Z74)) (keep_size (w := w) (g := g) (row := none) Z22)); replace Ab := aM (Kd.R_elder' Z74 (Kd.R_base Bs) hb); replace Af := bkB Af hb; replace Ae := bkB Ae hb; replace HK := aM (KeepBut.trans Z22 (KeepBut.of_below hb g none) (.inl rfl)); replace HB := aM (below_step Z33 hb); replace HI0 := aM (IsS78.below Z15 hb); clear hb Bs; obtain ⟨Cy, Cz, Ey⟩ := Kd.R_slice Ag.out; subst Ey) | ((with_reducible refine gate_callee (f := 89) rfl ?_); refine glE (some 23) Try.func89 #[.pointer (some ⟨g, 0, none⟩), .slice Cy Bf.length Cz] ?_; (with_reducible refine (spec_l1Cur_among.calls g Ah Al Am _ _ Bf Az Ba Bb w0 _ ?side1 ?side2 ?side3 ?side4 ?side5 C5.out).mono ?_); (case side1 => exact Z15); (case side2 => exact Z33); (case side3 => exact Z64); (case side4 => exact (Kd.R_reads' Ag.out).2.1); (case side5 => exact far_slice (IsS78.own_ne HI0.out Ag.out (by decide))); rintro e F8 ⟨rfl, hi, hb, hk⟩; refine ⟨_, rfl, ?_⟩; replace Ab := aM (Kd.R_mono (Kd.R_keep (IsS78.apart (show IsS78 w0 _ g Ah Al Am from Z15) Z74 (by decide)) hk (fun _ h => h.2)) (fun _ h => h.1)); replace Af := aM (KeepBut.blk hk (g' := Ap) (o := .cells #[.int .i64 0, .int .i64 0, .slice none 0 0] 28 (0, 0)) Z29 Ay.out (by simp)); replace Ae := aM (KeepBut.blk hk (g' := Ao) (o := .cells #[.int .i64 a1, .int .i64 a2, u430002] 28 (0, 0)) Z88 Ar.out (by simp)); replace Ag := aM (Kd.R_mono (Kd.R_keep (IsS78.apart (show IsS78 w0 _ g Ah Al Am from Z15) Z19 (by decide)) hk (fun _ h => h.2)) (fun _ h => h.1)); replace HK := aM (KeepBut.trans Z22 hk (.inl rfl)); replace HB := aM (hb); replace HI0 := aM (hi); (try clear hb); (try clear hk); (try clear hi); have Ff := Aw.out; have Fg := Ak.out; have Fh := Ar.out; have Fi := Ad.out; obtain ⟨D2, D3, D4⟩ := bz3 Ae; obtain ⟨D5, D6, D7⟩ := fz3 Ae) | ((with_reducible refine gate_builtin (b := .append) (xs := #[.tmp 39, .tmp 41]) rfl ?_); at_builtin; refine Kd.R_append (Kd.int .i64) w.heap.size rfl (.tmp 39) (.tmp 41) 22 3 (.int .i64 0) 8 rfl Try.underlying22 info3 rfl (by decide) (by omega) u430002 Aa Az [.int .i64 Az] (fun k_ => nS k_ Cy Bf.length Cz) (fun _ => False) rfl rfl ?aP (fun _ hk => hk.elim) ?aF ?aO (Below.refl _ _) ?aS ?aL ?_; (case aP => exact rfl); (case aF => exact (fun k_ hk => Kd.fresh' (Kd.R_lt Z19) k_ hk)); (case aO => exact Z139); (case aS => exact (keep_size (w := w) (g := g) (row := none) Z22)); (case aL => have := LMc45.out; omega); intro Fx F9 ho hb hg hat; rw [← Cx.out] at ho; replace Af := aM (blk_grown (g := Ap) (o := .cells #[.int .i64 0, .int .i64 0, .slice none 0 0] 28 (0, 0)) Z29 hg (Kd.R_ne Ab.out Af.out (by decide))); replace Ae := aM (blk_grown (g := Ao) (o := .cells #[.int .i64 a1, .int .i64 a2, u430002] 28 (0, 0)) Z88 hg (Kd.R_ne Ab.out Ae.out (by decide))); replace Ag := aM (Kd.R_after (ok := (fun _ => True)) Z19 hg hat); replace HB := aM (below_weaken Z33 HL.out hb); replace HI0 := aM (IsS78.grown Z15 hg (IsS78.own_ne HI0.out Ab.out (by decide))); replace HK := aM (KeepBut.trans Z22 (KeepBut.of_grown hg g) (Kd.R_base2 Ab.out)); have Cc := aM (ho); clear Ab; clear ho hb hg hat; obtain ⟨C0, C1, Ez⟩ := Kd.R_slice Cc.out; subst Ez; obtain ⟨D8, D9, Ea⟩ := bz3 Ae; obtain ⟨Eb, Ec, Ed⟩ := fz3 Ae))
      go_roundg k1
      case measure => have := HK1.out; omega
      case rel => exact ⟨(wrap64 (Ai + 1)), (Ba), (Bb), (B6), (.slice C0 B6.length C1), Z14, H', ⟨Z118⟩, ⟨by (with_reducible repeat (first | apply Kd.R_alloc | apply Kd.R_drewN | apply Kd.R_drew)); exact Kd.R_mono (Kd.R_far (p := ⟨Ao, 2, none⟩) (Kd.R_types Cc.out Ae.out (by decide)) (fun _ hk => hk.2) (.slice C0 B6.length C1)) (fun _ hk => trivial)⟩, ⟨Z98⟩, ⟨Z114⟩, ⟨Z15⟩, ⟨Z22⟩, ⟨Z33⟩⟩
     ·rw [if_neg D1] at H
      exact absurd H (by simp)
   ·rw [if_neg Cg] at H
    have c12b0 : decide (Ai < (wrap64 (a1 * a2))) = false := decide_eq_false Cg; clear Cg
    simp only [Option.some.injEq, Prod.mk.injEq] at H
    obtain ⟨rfl, rfl, rfl, rfl, rfl⟩ := H; have Fj := Aw.out; have Fk := Ak.out; have Fl := Ar.out; have Fm := Ad.out; obtain ⟨Ee, Ef, Eg⟩ := bz3 Ae; obtain ⟨Eh, Ei, Ej⟩ := fz3 Ae; have Fo := Ay.out; have Fp := Ac.out; obtain ⟨Ek, El, Em⟩ := bz3 Af; obtain ⟨En, Eo, Ep⟩ := fz3 Af; obtain ⟨C3, C4, E0⟩ := Kd.R_slice Ab.out; subst E0
    go_wp2
    refine bodyPost_ret (results_cell_row rfl _ _ Ap 28 #[.int .i64 a1, .int .i64 a2, .slice C3 Aa.length C4] (0, 0) _ rfl (by (with_reducible repeat (first | refine blk_drewN ?_ _ | refine blk_drew ?_ | refine blk_alloc ?_ _)); refine blk_put (cs := #[.int .i64 a1, .int .i64 a2, .slice none 0 0]) ?_ 2 _ rfl; (with_reducible repeat (first | refine blk_drewN ?_ _ | refine blk_drew ?_ | refine blk_alloc ?_ _)); refine blk_put (cs := #[.int .i64 a1, .int .i64 0, .slice none 0 0]) ?_ 1 _ rfl; (with_reducible repeat (first | refine blk_drewN ?_ _ | refine blk_drew ?_ | refine blk_alloc ?_ _)); refine blk_put (cs := #[.int .i64 0, .int .i64 0, .slice none 0 0]) ?_ 0 _ rfl; (with_reducible repeat (first | refine blk_drewN ?_ _ | refine blk_drew ?_ | refine blk_alloc ?_ _)); exact Af.out) Try.underlying28 rfl Z61) rfl ?_
    exact ⟨_, Z10, by (with_reducible repeat (first | apply Kd.R_alloc | apply Kd.R_drewN | apply Kd.R_drew)); exact Kd.R_mono (Kd.R_far (p := ⟨Ap, 2, none⟩) (Kd.R_far (p := ⟨Ap, 1, none⟩) (Kd.R_far (p := ⟨Ap, 0, none⟩) (Kd.R_types Ab.out Af.out (by decide)) (fun _ hk => hk.2) (.int .i64 a1)) (fun _ hk => hk.2) (.int .i64 a2)) (fun _ hk => hk.2) (.slice C3 Aa.length C4)) (fun _ hk => trivial), Z15, Z33, Z22⟩
end Go.Proofs.Ytaadbpibmlnncaa.H
