-- by wip/pack.py of this repo
import Derived.Test.YtaadbpibmlnncaaZ05Hx0
import Derived.Test.YtaadbpibmlnncaaZ05Hx1
import Derived.Test.YtaadbpibmlnncaaZ05Hx4
import Derived.Test.YtaadbpibmlnncaaZ05Hx6
import Derived.Test.YtaadbpibmlnncaaZ05WApart
import Derived.Test.YtaadbpibmlnncaaZ05WKept
import Derived.Test.YtaadbpibmlnncaaZ05WLast
import Derived.Test.YtaadbpibmlnncaaZ05WMore
import Derived.Test.YtaadbpibmlnncaaZ05WWords
import Derived.Test.YtaadbpibmlnncaaZ05Short
namespace Go.Proofs.Ytaadbpibmlnncaa.H
open Go.RowKit Go.Proofs.YtaadbpibmlnncaaW.PrintWords Go.Proofs.YtaadbpibmlnncaaW.PrintLast Go.Proofs.YtaadbpibmlnncaaW.PrintMore
attribute [local go_sem] max2_int min2_int max_two min_two max_three min_three max_four min_four
set_option maxHeartbeats 80000000
set_option maxRecDepth 100000
set_option linter.unusedVariables false
set_option linter.unusedSimpArgs false
theorem begun_append {ops : Array Oper} {rest : List Oper} {o : Oper} {a : Act} {Q : Exit → Act → World → Prop} {w0 W : World} (hgd : o.guard = none) (s x : Operand)
  (ho : o.op = .call { callee := .builtin .append, args := #[s, x], argTypes := #[22, 22] }) (v : Value) (b : List Int) (p : Int) (ok : Nat → Prop) (hs : a.eval s = v) (N1 : Nat) (Aa : a.eval x = .slice (some ⟨N1, 0, none⟩) 1 1) (hN1 : N1 = W.heap.size)
  (hfresh : ∀ k, W.heap.size ≤ k → ok k) (HO : Kd.R (Kd.int .i64) 3 W w0.heap.size ok v b) (HB : Below w0.heap.size w0 W) (hl : b.length ≤ 1000)
  (h : ∀ v1 w1, Kd.R (Kd.int .i64) 3 w1 w0.heap.size ok v1 (b ++ [p]) → Below w0.heap.size w0 w1 → Kept W w1 (fun k => some k = v.ownBlock) →
   (∀ (S : Nat → Prop) (w3 : World), (∀ k, ok k → ¬ S k) → Kd.R (Kd.int .i64) 3 w3 w0.heap.size ok v1 (b ++ [p]) → Kept w1 w3 (fun k => S k ∨ some k = v1.ownBlock) → Kd.R (Kd.int .i64) 3 w3 w0.heap.size ok v b ∧ Kept W w3 (fun k => S k ∨ some k = v.ownBlock)) →
   wpList Try.prog ops Q rest (a.put o.dst v1) w1) :
  wpList Try.prog ops Q (o :: rest) a (W.alloc (.cells #[.int .i64 p] 3)) := by
 subst hN1; have hx := Aa; obtain ⟨i0, hi0, hz0, hsz0, hby0⟩ := info_parts info3; have HO' := Kd.R_alloc HO (.cells #[.int .i64 p] 3); have hB' : Below w0.heap.size w0 (W.alloc (.cells #[.int .i64 p] 3)) := below_alloc HB _
 have hwn : (W.alloc (.cells #[.int .i64 p] 3)).heap.size = W.heap.size + 1 := by simp
 have hown := Kd.own_of_R HO'; have hK0 : Kept W (W.alloc (.cells #[.int .i64 p] 3)) (fun k => some k = v.ownBlock) := Kept.alloc (Kept.refl W _) _
 have hen : encs (Value.int .i64) (b ++ [p]) = encs (Value.int .i64) b ++ [.int .i64 p] := by simp [encs]
 have hone : ∀ u ∈ [Value.int .i64 p], u.oneCell' = true := fun u hu => by rw [List.mem_singleton.1 hu]; rfl
 obtain ⟨A, c, rfl⟩ := Kd.R_slice HO
 by_cases hr : b.length + 1 ≤ c
 ·have hA : ∃ g, A = some ⟨g, 0, none⟩ := by
   rcases hown.2 with ⟨hv, _⟩ | ⟨g, cap, cur, hv, _⟩
   ·injection hv with _ _ h3
    omega
   ·injection hv with h1 _ _
    exact ⟨g, h1⟩
  obtain ⟨g, rfl⟩ := hA; refine wpList_append_own_spare (W.alloc (.cells #[.int .i64 p] 3)) hgd s x 22 ho w0.heap.size 3 i0 1 Try.underlying22 hi0 hsz0 g b.length c (encs (Value.int .i64) b) hs hown ⟨W.heap.size, 0, none⟩ 1 1 [.int .i64 p] hx rfl (cell_one_new _ _ _) hone hr ?_; intro w1 hown1 hg1; rw [← hen, show b.length + 1 = (b ++ [p]).length from by simp] at hown1; have hK1 : Kept W w1 (fun k => some k = (Value.slice (some (⟨g, 0, none⟩ : Addr)) b.length c).ownBlock) := Kept.of_grown hg1 hK0 (fun k hk => .inl hk.symm); refine h _ w1 ?_ (hB'.grown hg1 hB'.size (fun k hk => ?_)) hK1 ?_
  ·have := Kd.R_of_own (h1 := fun _ => rfl) (ok := ok) hown1 (fun k hk => HO.1 k hk)
   rw [show (b ++ [p]).length = b.length + 1 from by simp] at this
   exact this
  ·injection hk with hk
   subst hk
   exact Kd.R_base HO g rfl
  ·intro S w3 hS hR3 hK3
   refine ⟨?_, hK1.mono (fun k hk => .inr hk) |>.then_ hK3 (fun k hk => .inl hk)⟩; have := Kd.R_take hR3 (m := b.length) (by simp); rwa [List.take_left' rfl] at this
 ·have hnone : A = none → b.length = 0 ∧ c = 0 := fun hA => by
   subst hA
   rcases hown.2 with ⟨hv, _⟩ | ⟨g, cap, cur, hv, _⟩
   ·injection hv with _ h2 h3
    exact ⟨h2, h3⟩
   ·injection hv with h1 _ _
    cases h1
  refine wpList_append_grows (W.alloc (.cells #[.int .i64 p] 3)) hgd s x 22 ho 3 i0 (.int .i64 0) 1 8 Try.underlying22 hi0 hz0 hsz0 hby0 rfl (by decide) A b.length c (encs (Value.int .i64) b) hs hnone (by simp [encs]) (fun b' hb' j u hj => ?_) ⟨W.heap.size, 0, none⟩ 1 1 [.int .i64 p] hx rfl (cell_one_new _ _ _) hone (by omega) (Nat.le_trans (show b.length + 1 ≤ 1001 from by omega) (by decide)) (by omega) ?_
  ·subst hb'
   rcases hown.2 with ⟨hv, _⟩ | ⟨g, cap, cur, hv, _⟩
   ·cases hv
   ·have h1 := Option.some.inj (Value.slice.inj hv).1
    subst h1
    exact hown.cells (g := g) (by simp [Value.ownBlock]) j u hj
  ·intro v1 w1 hown1 hg1
   rw [← hen, show b.length + 1 = (b ++ [p]).length from by simp] at hown1; have hR1 : Kd.R (Kd.int .i64) 3 w1 (W.alloc (.cells #[.int .i64 p] 3)).heap.size (fun _ => True) v1 (b ++ [p]) := Kd.R_of_own (h1 := fun _ => rfl) hown1 (fun _ _ => trivial); have hbs := Kd.R_base hR1; have hR1' : Kd.R (Kd.int .i64) 3 w1 w0.heap.size ok v1 (b ++ [p]) := Kd.R_lower (Kd.R_of_own (h1 := fun _ => rfl) hown1 (fun k hk => hfresh k (by have := hbs k hk; omega))) hB'.size; have hK00 : Kept W (W.alloc (.cells #[.int .i64 p] 3)) (fun _ => False) := Kept.alloc (Kept.refl W _) _; have hsz1 := hg1.size
   have hall : ∀ k, k < W.heap.size → w1.heap[k]? = W.heap[k]? := fun k hk => (hg1.block k (by omega) (by simp)).trans (hK00.2 k hk (fun h => h))
   refine h v1 w1 hR1' (hB'.grown hg1 hB'.size (fun k hk => by cases hk)) ⟨by omega, fun k hk _ => hall k hk⟩ ?_; intro S w3 hS hR3 hK3; have hsz3 := hK3.1
   have hun : ∀ k, k < W.heap.size → ¬ S k → w3.heap[k]? = W.heap[k]? := fun k hk hn => (hK3.2 k (by omega) (fun h' => h'.elim hn (fun h2 => by have := hbs k h2.symm; omega))).trans (hall k hk)
   exact ⟨Kd.R_step HO (fun k ho hk => hun k hk (hS k ho)), ⟨by omega, fun k hk hn => hun k hk (fun h' => hn (.inl h'))⟩⟩
def tryL (f : Nat → Option (List Int)) : Nat → Option (List Int)
 | 0 => none
 | n + 1 => match tryL f n with | some r => some r | none => f n
theorem tryL_none (f : Nat → Option (List Int)) (n : Nat) (h : tryL f n = none) (h2 : f n = none) : tryL f (n + 1) = none := by
 rw [tryL, h]
 exact h2
theorem tryL_hit (f : Nat → Option (List Int)) (m : Nat) (r : List Int) (h : tryL f m = none) (h2 : f m = some r) : ∀ n, m < n → tryL f n = some r := by
 intro n
 induction n with
 | zero => intro h; exact absurd h (by omega)
 | succ n ih =>
  intro hm
  by_cases c : m = n
  ·subst c
   rw [tryL, h]
   exact h2
  ·rw [tryL, ih (by omega)]
def asgF (sz l b : List Int) (rec : List Int → List Int → Option (List Int)) (i : Nat) : Option (List Int) := if l.getD i 0 < sz.getD b.length 0 then none else rec (l.set i (l.getD i 0 - sz.getD b.length 0)) (b ++ [(i : Int)])
def asg (sz : List Int) : Nat → List Int → List Int → Option (List Int)
 | 0, _, b => some b
 | n + 1, l, b => tryL (asgF sz l b (asg sz n)) l.length
theorem set_back (l : List Int) (i : Nat) (x : Int) (h : i < l.length) : (l.set i x).set i (l.getD i 0) = l := by
 rw [List.set_set, List.getD_eq_getElem?_getD, List.getElem?_eq_getElem h]
 exact List.set_getElem_self h
theorem assign_calls (sz : List Int) (A0 : Option Addr) (c0 : Nat) (g : Nat) (cb : Array Value) (lb cl : Nat) (G D : Nat → Prop) (N : Nat) (J : World → Prop) (Post : List Int → World → Prop) (w0 : World)
  (eg : ∀ args w, (callFunc g args).run Try.prog w = .ok (.enter g args) w)
  (hs0 : ∀ j, 0 ≤ sz.getD j 0 ∧ sz.getD j 0 ≤ 1000000) (hsl : sz.length ≤ 100)
  (hG : ∀ k, G k → k < N ∧ k ≠ lb) (hD : ∀ k, D k → G k) (hlb : lb < N) (hN : w0.heap.size ≤ N)
  (hC : ∀ W, N ≤ W.heap.size → J W → Kd.C (Kd.int .i64) W A0 sz.length sz)
  (hJ : ∀ W W', J W → (∀ k, G k → W'.heap[k]? = W.heap[k]?) → J W')
  (hP : ∀ r W i u, Post r W → Post r (W.setCell ⟨lb, i, none⟩ u))
  (hdo : ∀ W A c (r : List Int), Below w0.heap.size w0 W → J W → r.length = sz.length → r.length ≤ c → Kd.C (Kd.int .i64) W A r.length r → Calls Try.prog g (#[.slice A r.length c] ++ cb) W fun e w' => e = .returned (.bool false) ∧ Below w0.heap.size w0 w' ∧ Kept W w' D ∧ Post r w') :
  ∀ (n : Nat) (l : List Int) (vb : Value) (b : List Int) (w : World), b.length + n = sz.length → (∀ j, 0 ≤ l.getD j 0 ∧ l.getD j 0 ≤ 1000000) → l.length ≤ 100 → Below w0.heap.size w0 w → N ≤ w.heap.size →
   Kd.R (Kd.int .i64) 3 w w0.heap.size (fun k => k = lb) (.slice (some ⟨lb, 0, none⟩) l.length cl) l → Kd.R (Kd.int .i64) 3 w w0.heap.size (fun k => k ≠ lb ∧ ¬ G k) vb b → J w →
   Calls Try.prog 62 #[.slice A0 sz.length c0, (.slice (some ⟨lb, 0, none⟩) l.length cl), vb, .func (.func g) #[] cb] w fun e w' => e = .returned (.bool (asg sz n l b).isNone) ∧ Below w0.heap.size w0 w' ∧ Kd.R (Kd.int .i64) 3 w' w0.heap.size (fun k => k = lb) (.slice (some ⟨lb, 0, none⟩) l.length cl) l ∧ Kd.R (Kd.int .i64) 3 w' w0.heap.size (fun k => k ≠ lb ∧ ¬ G k) vb b ∧ Kept w w' (fun k => (k = lb ∨ D k) ∨ some k = vb.ownBlock) ∧ (∀ r, asg sz n l b = some r → Post r w') ∧ (asg sz n l b = none → J w') := by
 intro n
 induction n with
 | zero =>
  intro l vb b w hn Ac hl hB hNw hL hb hj; have n0 : ((b.length : Int) == (sz.length : Int)) = true := beq_iff_eq.2 (by omega); have n2 : (b.length == sz.length) = true := beq_iff_eq.2 (by omega); obtain ⟨A, c, rfl⟩ := Kd.R_slice hb; have HD := aM (hdo w A c b hB hj (by omega) (Kd.R_reads' hb).2.1 (Kd.R_reads' hb).2.2); have HL := Aside0.mk hL; have HB := Aside0.mk hb; have HGG := Aside0.mk hG; have HDD := Aside0.mk hD; clear hdo hC hJ hP hb hL hB hj hs0 hn Ac
  go_enter Try.func62, Try.ntmps62
  go_wp2_with fail
  refine HD.out.mono ?_; rintro e w1 ⟨rfl, hb1, hk1, hp1⟩; have H1 := Aside0.mk hb1; have H2 := Aside0.mk hk1; have H3 := Aside0.mk hp1; clear hb1 hk1 hp1
  go_wp2
  go_ret
  exact ⟨by first | rfl | (simp [asg]; done), H1.out, Kd.R_kept HL.out H2.out (fun k hk hg => (HGG.out k (HDD.out k hg)).2 hk), Kd.R_kept HB.out H2.out (fun k hk hg => hk.2 (HDD.out k hg)), H2.out.mono (fun k hk => .inl (.inr hk)), fun r hr => by have := Option.some.inj hr; subst this; exact H3.out, fun hr => by cases hr⟩
 | succ n ih =>
  intro l vb b w hn Ac hl hB hNw hL hb hj; have n0 : ((b.length : Int) == (sz.length : Int)) = false := beq_eq_false_iff_ne.2 (by omega); have n2 : (b.length == sz.length) = false := beq_eq_false_iff_ne.2 (by omega); obtain ⟨ad, e0, Aa⟩ := Kd.at_int (hC w hNw hj) (b.length : Int) (by omega) (by omega); subst e0; rw [Int.toNat_natCast] at Aa; obtain ⟨s, hs⟩ : ∃ s, s = sz.getD b.length 0 := ⟨_, rfl⟩; have ers : rd sz (b.length : Int) = s := hs.symm; rw [ers] at Aa; have hs1 := hs0 b.length; rw [← hs] at hs1; obtain ⟨A, c, rfl⟩ := Kd.R_slice hb
  have q0 : b.length < sz.length := by omega
  have q1 := eq_true (show ((b.length : Int)) < (sz.length : Int) from by omega); have HS := Aside0.mk hs; have HS1 := Aside0.mk hs1; have HN := aM (And.intro hn (And.intro hl (And.intro hNw (And.intro hsl (And.intro hlb hN))))); have HL0 := Aside0.mk Ac; have HIH := Aside0.mk ih; have HGG := Aside0.mk hG; have HDD := Aside0.mk hD; have HJJ := Aside0.mk hJ; have HPP := Aside0.mk hP; have HBW := Aside0.mk hB; have HL := Aside0.mk hL; have HB := Aside0.mk hb; have HJ := Aside0.mk hj; clear hdo hC hJ hP hb hL hB hj eg hs0 hn Ac ih hG hs hs1 ers hlb hN hNw hl hsl
  go_enter Try.func62, Try.ntmps62
  go_wp2
  clear Aa q0 q1 n0 n2
  go_loopg [27] l.length (fun gg Ae wr => ∃ x : Int, Ae = .int .i64 x ∧ Aside0 (0 ≤ x ∧ x ≤ (l.length : Int) ∧ (l.length : Int) - x ≤ gg) ∧ Aside0 (tryL (asgF sz l b (asg sz n)) x.toNat = none) ∧ Aside0 (Below w0.heap.size w0 wr) ∧ Aside0 (Kd.R (Kd.int .i64) 3 wr w0.heap.size (fun k => k = lb) (.slice (some ⟨lb, 0, none⟩) l.length cl) l) ∧ Aside0 (Kd.R (Kd.int .i64) 3 wr w0.heap.size (fun k => k ≠ lb ∧ ¬ G k) (.slice A b.length c) b) ∧ Aside0 (J wr) ∧ Aside0 (Kept w wr (fun k => (k = lb ∨ D k) ∨ some k = (Value.slice A b.length c).ownBlock)))
  case atStart => exact ⟨0, rfl, ⟨by omega, by omega, by omega⟩, ⟨rfl⟩, HBW, HL, HB, HJ, ⟨Kept.refl _ _⟩⟩
  case round =>
   clear HBW HL HB HJ; obtain ⟨x, rfl, HX, HT, HBW, HL, HB, HJ, HK⟩ := hrel
   by_cases hlt : x < (l.length : Int)
   ·have d0 : decide (x < (l.length : Int)) = true := decide_eq_true hlt
    have Aa := HX.out.1; obtain ⟨c1, f1⟩ := Kd.R_celln 0 HL.out x Aa hlt; obtain ⟨L, hL⟩ : ∃ L, L = l.getD x.toNat 0 := ⟨_, rfl⟩; have eL : rdOf (0 : Int) l x = L := hL.symm; rw [eL] at c1; have hL1 := HL0.out x.toNat; rw [← hL] at hL1; have q0 := eq_true Aa; have q1 := eq_true hlt
    have w1x : wrap64 (x + 1) = x + 1 := by have := HN.out; unfold wrap64; omega
    have HLT := Aside0.mk hlt; have HLL := Aside0.mk hL; have HL1 := Aside0.mk hL1; clear hlt Aa hL hL1 eL
    by_cases hls : L < s
    ·have d1 : decide (L < s) = true := decide_eq_true hls
     have HLS := Aside0.mk hls; clear hls
     go_wp2
     go_roundg (l.length - (x.toNat + 1))
     case measure => have := HX.out; have := HLT.out; omega
     case rel =>
      refine ⟨x + 1, by first | rfl | rw [w1x] | simp [w1x], ⟨Z110, by have := HLT.out; omega, Z100⟩, ⟨?_⟩, HBW, HL, HB, HJ, HK⟩; rw [show (x + 1).toNat = x.toNat + 1 from Z110]; refine tryL_none _ _ HT.out ?_
      unfold asgF
      rw [← HLL.out, ← HS.out, if_pos HLS.out]
    ·have d1 : decide (L < s) = false := decide_eq_false hls
     have HLS := Aside0.mk hls
     have wm : wrap64 (L - s) = L - s := by have := HL1.out; have := HS1.out; unfold wrap64; omega
     have wl : wrap64 L = L := by have := HL1.out; unfold wrap64; omega
     have wb : wrap64 (L - s + s) = L := by have := HL1.out; have := HS1.out; unfold wrap64; omega
     have HRP := aM (Kd.R_putn HL.out x (L - s))
     have ex : ((x.toNat : Nat) : Int) = x := by have := HX.out; omega
     have EX := Aside0.mk ex; have HFX : Aside0 (asgF sz l b (asg sz n) x.toNat = asg sz n (l.set x.toNat (L - s)) (b ++ [x])) := ⟨by unfold asgF; rw [← HLL.out, ← HS.out, if_neg hls, ex]⟩
     have own_ne : ∀ k, some k = (Value.slice A b.length c).ownBlock → k ≠ lb ∧ ¬ G k := fun k hk => HB.out.1 k hk.symm
     have HOW := Aside0.mk own_ne
     have hwb0 : Below w0.heap.size w0 (wr.setCell ⟨lb, x.toNat, none⟩ (.int .i64 (L - s))) := below_set HBW.out (by
      exact Kd.R_base HL.out lb rfl)
     have HWB0 := Aside0.mk hwb0; have hbs : Kd.R (Kd.int .i64) 3 (wr.setCell ⟨lb, x.toNat, none⟩ (.int .i64 (L - s))) w0.heap.size (fun k => k ≠ lb ∧ ¬ G k) (.slice A b.length c) b := Kd.R_far HB.out (p := ⟨lb, x.toNat, none⟩) (fun k hk => hk.1) _; have HBS := Aside0.mk hbs; have HNS : Aside0 (N ≤ (wr.setCell ⟨lb, x.toNat, none⟩ (.int .i64 (L - s))).heap.size) := ⟨by have h1 := HK.out.1; have h2 := HN.out; simp [World.setCell]; omega⟩; have HKS : Aside0 (Kept w (wr.setCell ⟨lb, x.toNat, none⟩ (.int .i64 (L - s))) (fun k => (k = lb ∨ D k) ∨ some k = (Value.slice A b.length c).ownBlock)) := ⟨Kept.setCell HK.out (p := ⟨lb, x.toNat, none⟩) (.inl (.inl (.inl rfl))) _⟩; have HJS : Aside0 (J (wr.setCell ⟨lb, x.toNat, none⟩ (.int .i64 (L - s)))) := ⟨HJJ.out _ _ HJ.out (fun k hk => Below.heap_setCell wr ⟨lb, x.toNat, none⟩ _ k (HGG.out k hk).2)⟩; have HBL : Aside0 (b.length ≤ 1000) := ⟨Z113⟩; have HSZ : Aside0 (wr.heap.size = (wr.setCell ⟨lb, x.toNat, none⟩ (.int .i64 (L - s))).heap.size) := ⟨by simp [World.setCell]⟩; have HFR : Aside0 (∀ k, (wr.setCell ⟨lb, x.toNat, none⟩ (.int .i64 (L - s))).heap.size ≤ k → k ≠ lb ∧ ¬ G k) := ⟨fun k hk => ⟨by have := HNS.out; have := HN.out; omega, fun hg => by have := HNS.out; have := (HGG.out k hg).1; omega⟩⟩; clear hls ex own_ne hwb0 hbs
     go_wp2_with (first | ((with_reducible refine gate_builtin (b := .append) (xs := #[.tmp 45, .tmp 47]) rfl ?_); at_builtin; refine begun_append (w0 := w0) rfl (.tmp 45) (.tmp 47) rfl (.slice A b.length c) b x (fun k => k ≠ lb ∧ ¬ G k) rfl wr.heap.size rfl HSZ.out HFR.out HBS.out HWB0.out HBL.out ?_; intro v1 w1 Ad hb1 hk1 hback; have R1 := Aside0.mk Ad; have B1 := Aside0.mk hb1; have K1 := Aside0.mk hk1; have BACK := Aside0.mk hback; clear Ad hb1 hk1 hback))
     have HL1R : Aside0 (Kd.R (Kd.int .i64) 3 w1 w0.heap.size (fun k => k = lb) (.slice (some ⟨lb, 0, none⟩) (l.set x.toNat (L - s)).length cl) (l.set x.toNat (L - s))) := ⟨by
      rw [List.length_set]
      exact Kd.R_kept HRP.out K1.out (fun k hk h2 => (HOW.out k h2).1 hk)⟩
     have HN1 : Aside0 (N ≤ w1.heap.size) := ⟨Nat.le_trans HNS.out K1.out.1⟩; have HJ1 : Aside0 (J w1) := ⟨HJJ.out _ _ HJS.out (fun k hk => K1.out.2 k (Nat.lt_of_lt_of_le (HGG.out k hk).1 HNS.out) (fun h2 => (HOW.out k h2).2 hk))⟩
     have HI := HIH.out (l.set x.toNat (L - s)) v1 (b ++ [x]) w1 (by have := HN.out.1; rw [List.length_append, List.length_singleton]; omega) (fun j => by
      have h1 := HL0.out j; have h2 := HL1.out; have h3 := HS1.out; have h4 := HLS.out; rw [List.getD_eq_getElem?_getD, List.getElem?_set]
      split
      ·split
       ·show 0 ≤ L - s ∧ L - s ≤ 1000000
        omega
       ·show (0 : Int) ≤ 0 ∧ (0 : Int) ≤ 1000000
        omega
      ·rw [← List.getD_eq_getElem?_getD]
       exact h1) (by rw [List.length_set]; exact HN.out.2.1) B1.out HN1.out HL1R.out R1.out HJ1.out
     rw [List.length_set] at HI; cases hq : asg sz n (l.set x.toNat (L - s)) (b ++ [x]) with
     | none =>
      rw [hq] at HI; have HII := Aside0.mk HI; have HQ := Aside0.mk hq; clear HI hq; refine HII.out.mono ?_; rintro e w3 ⟨rfl, h1, h2, h3, h4, _, h6⟩; have B3 := Aside0.mk h1; have L3 := Aside0.mk h2; obtain ⟨h7, h8⟩ := BACK.out (fun k => k = lb ∨ D k) w3 (fun k hk h => h.elim hk.1 (fun h' => hk.2 (HDD.out k h'))) h3 h4; have R3 := Aside0.mk h7; have K3 := aM (HKS.out.then_ h8 (fun k hk => .inl hk)); have J3 := aM (h6 rfl)
      have hlt : x < ((l.set x.toNat (L - s)).length : Int) := by rw [List.length_set]; exact HLT.out
      have h2' := h2; rw [show l.length = (l.set x.toNat (L - s)).length from (List.length_set ..).symm] at h2'; obtain ⟨c3, f3⟩ := Kd.R_celln 0 h2' x HX.out.1 hlt
      have eL3 : rdOf (0 : Int) (l.set x.toNat (L - s)) x = L - s := by
       show (l.set x.toNat (L - s)).getD x.toNat 0 = _
       rw [List.getD_eq_getElem?_getD, List.getElem?_set_self Z100]
       rfl
      rw [eL3] at c3; have Ab := Kd.R_putn h2' x L; have h5 := set_back l x.toNat (L - s) Z100; rw [← HLL.out] at h5; rw [h5, List.length_set] at Ab; have L4 := Aside0.mk Ab; clear h1 h2 h2' h3 h4 h5 h6 h7 h8 hlt eL3 Ab
      go_wp2
      go_roundg (l.length - (x.toNat + 1))
      case measure => have := HX.out; have := HLT.out; omega
      case rel =>
       refine ⟨x + 1, by first | rfl | rw [w1x] | simp [w1x], ⟨Z110, by have := HLT.out; omega, Z100⟩, ⟨?_⟩, ⟨below_set B3.out (Kd.R_base L3.out lb rfl)⟩, L4, ⟨Kd.R_far R3.out (p := ⟨lb, x.toNat, none⟩) (fun k hk => hk.1) _⟩, ⟨HJJ.out _ _ J3.out (fun k hk => Below.heap_setCell w3 ⟨lb, x.toNat, none⟩ _ k (HGG.out k hk).2)⟩, ⟨Kept.setCell K3.out (p := ⟨lb, x.toNat, none⟩) (.inl (.inl (.inl rfl))) _⟩⟩; rw [show (x + 1).toNat = x.toNat + 1 from Z110]
       exact tryL_none _ _ HT.out (HFX.out.trans HQ.out)
     | some r =>
      rw [hq] at HI; have HII := Aside0.mk HI; have HQ := Aside0.mk hq; clear HI hq; refine HII.out.mono ?_; rintro e w3 ⟨rfl, h1, h2, h3, h4, h6, _⟩; have B3 := Aside0.mk h1; have L3 := Aside0.mk h2; obtain ⟨h7, h8⟩ := BACK.out (fun k => k = lb ∨ D k) w3 (fun k hk h => h.elim hk.1 (fun h' => hk.2 (HDD.out k h'))) h3 h4; have R3 := Aside0.mk h7; have K3 := aM (HKS.out.then_ h8 (fun k hk => .inl hk)); have P3 := aM (h6 r rfl)
      have hlt : x < ((l.set x.toNat (L - s)).length : Int) := by rw [List.length_set]; exact HLT.out
      have h2' := h2; rw [show l.length = (l.set x.toNat (L - s)).length from (List.length_set ..).symm] at h2'; obtain ⟨c3, f3⟩ := Kd.R_celln 0 h2' x HX.out.1 hlt
      have eL3 : rdOf (0 : Int) (l.set x.toNat (L - s)) x = L - s := by
       show (l.set x.toNat (L - s)).getD x.toNat 0 = _
       rw [List.getD_eq_getElem?_getD, List.getElem?_set_self Z100]
       rfl
      rw [eL3] at c3; have Ab := Kd.R_putn h2' x L; have h5 := set_back l x.toNat (L - s) Z100; rw [← HLL.out] at h5; rw [h5, List.length_set] at Ab; have L4 := Aside0.mk Ab; clear h1 h2 h2' h3 h4 h5 h6 h7 h8 hlt eL3 Ab; have HHIT : Aside0 (asg sz (n + 1) l b = some r) := ⟨tryL_hit _ x.toNat r HT.out (HFX.out.trans HQ.out) l.length Z100⟩
      go_wp2
      go_ret
      exact ⟨by rw [HHIT.out]; first | rfl | (simp; done), below_set B3.out (Kd.R_base L3.out lb rfl), L4.out, Kd.R_far R3.out (p := ⟨lb, x.toNat, none⟩) (fun k hk => hk.1) _, Kept.setCell K3.out (p := ⟨lb, x.toNat, none⟩) (.inl (.inl (.inl rfl))) _, (fun r' hr' => by
       rw [HHIT.out] at hr'; obtain rfl := Option.some.inj hr'
       exact HPP.out _ _ _ _ P3.out), (fun hn => by rw [HHIT.out] at hn; cases hn)⟩
   ·have d0 : decide (x < (l.length : Int)) = false := decide_eq_false hlt
    have HNO : Aside0 (asg sz (n + 1) l b = none) := ⟨by
     have h1 := HT.out; rw [show x.toNat = l.length from Z110] at h1
     exact h1⟩
    clear hlt
    go_wp2
    go_ret
    exact ⟨by rw [HNO.out]; first | rfl | (simp; done), HBW.out, HL.out, HB.out, HK.out, (fun r hr => by rw [HNO.out] at hr; cases hr), fun _ => HJ.out⟩
def assign_few.f (l0 l1 : List Int) : Option (Bool × List Int) := if (1 ≤ l1.length ∧ l1.length ≤ 100 ∧ l0.length ≤ 100) ∧ (∀ x ∈ l0, 0 ≤ x ∧ x ≤ 1000000) ∧ (∀ x ∈ l1, 0 ≤ x ∧ x ≤ 1000000) then some ((asg l0 l0.length l1 []).isNone, l1) else none
theorem getD_rng (l : List Int) (h : ∀ x ∈ l, 0 ≤ x ∧ x ≤ 1000000) (j : Nat) : 0 ≤ l.getD j 0 ∧ l.getD j 0 ≤ 1000000 := by
 rw [List.getD_eq_getElem?_getD]
 by_cases hj : j < l.length
 ·rw [List.getElem?_eq_getElem hj]
  exact h _ (List.getElem_mem hj)
 ·rw [List.getElem?_eq_none (by omega)]
  show (0 : Int) ≤ 0 ∧ (0 : Int) ≤ 1000000
  omega
theorem assign_few.calls (A0 : Option Addr) (c0 : Nat) (l0 : List Int) (P0_ : Nat → Prop) (u9000_ : Value) (l1 : List Int) (r1 : Bool) (r2 : List Int) (w0 w : World) (hB : Below w0.heap.size w0 w) (Ab : ∀ W', Kept w W' (fun k_ => P0_ k_) → Kd.C (Kd.int .i64) W' A0 l0.length l0) (Ac : l0.length ≤ c0) (Aa : Kd.R (Kd.int .i64) 3 w w0.heap.size P0_ u9000_ l1) (h : assign_few.f l0 l1 = some (r1, r2)) :
  Calls Try.prog 62 #[.slice A0 l0.length c0, u9000_, .slice none 0 0, .func (.func 63) #[] #[]] w fun e w' => e = .returned (.bool r1) ∧ Kd.R (Kd.int .i64) 3 w' w0.heap.size P0_ u9000_ r2 ∧ Below w0.heap.size w0 w' ∧ Kept w w' (fun k_ => P0_ k_) := by
 unfold assign_few.f at h
 split at h
 case isFalse => cases h
 case isTrue hg =>
  obtain ⟨⟨g1, g2, g3⟩, g4, g5⟩ := hg; obtain ⟨rfl, rfl⟩ := Prod.mk.inj (Option.some.inj h); obtain ⟨A, c, rfl⟩ := Kd.R_slice Aa
  have hA : ∃ lb, A = some ⟨lb, 0, none⟩ := by
   rcases (Kd.own_of_R Aa).2 with ⟨hv, _⟩ | ⟨g, cap, cur, hv, _⟩
   ·injection hv with _ h2 _
    omega
   ·injection hv with h1 _ _
    exact ⟨g, h1⟩
  obtain ⟨lb, rfl⟩ := hA; have hlb0 : P0_ lb := Aa.1 lb rfl; have hlbw : lb < w.heap.size := own_lt (Kd.own_of_R Aa) lb rfl
  refine (assign_calls l0 A0 c0 63 #[] lb c (fun k => k < w.heap.size ∧ k ≠ lb) (fun _ => False) w.heap.size (fun W => ∀ k, k < w.heap.size → k ≠ lb → W.heap[k]? = w.heap[k]?) (fun _ _ => True) w0 (enters_of Try.func63 Z35 rfl) (getD_rng l0 g4) g3 (fun k hk => hk) (fun _ hk => hk.elim) hlbw hB.size
   (fun W hN hJ => Ab W ⟨hN, fun k hk hn => hJ k hk (fun e => hn (e ▸ hlb0))⟩) (fun W W' hJ hk k h1 h2 => (hk k ⟨h1, h2⟩).trans (hJ k h1 h2)) (fun _ _ _ _ _ => trivial) (fun W A' c' r hb _ _ _ _ => ?_) l0.length l1 (.slice none 0 0) [] w (Nat.zero_add _) (getD_rng l1 g5) g2 hB (Nat.le_refl _) (Kd.R_mono (Kd.R_tight rfl Aa) (fun k hk => by injection hk)) (Kd.R_nil _ _ _ _ _) (fun _ _ _ => rfl)).mono ?_
  ·have HB := Aside0.mk hb
   rw [Array.append_empty]; clear hb Aa Ab hB h
   go_enter Try.func63, Try.ntmps63
   go_wp2
   go_ret
   exact ⟨rfl, HB.out, Kept.refl _ _, trivial⟩
  ·rintro e w' ⟨rfl, hb, hl, _, hk, _, _⟩
   exact ⟨rfl, Kd.R_mono hl (fun k hk => hk ▸ hlb0), hb, hk.mono (fun k hk => by
    rcases hk with (hk | hk) | hk
    ·exact hk ▸ hlb0
    ·exact hk.elim
    ·cases hk)⟩
mutual
def impl_FewestLots.l0 : Nat → List Int → List Int → Int → Int → Int → Option (Int × Bool)
 | 0, _, _, _, _, _ => none
 | k + 1, x2, x8, x9, x28, x29 => if x29 < x28 then (if 0 ≤ (x2.length : Int) then (if ((x2.length : Int) : Int).toNat ≤ 35184372088832 then (impl_FewestLots.l1 k x2 x8 x9 x29 (List.replicate ((x2.length : Int) : Int).toNat 0) 0 x28 x29 x2 (x2.length : Int) 0) else (none)) else (none)) else (if x9 > (x2.length : Int) then (some (0, false)) else (some (x9, true)))
def impl_FewestLots.l1 : Nat → List Int → List Int → Int → Int → List Int → Int → Int → Int → List Int → Int → Int → Option (Int × Bool)
 | 0, _, _, _, _, _, _, _, _, _, _, _ => none
 | k + 1, x2, x8, x9, x10, x11, x12, x28, x29, x35, x36, x37 => if x37 < x36 then (if 0 ≤ x37 then (if x37 < (x35.length : Int) then (if (Go.bits .and .i64 (shr .i64 x10 x37) 1) = 1 then (if x37 < (x11.length : Int) then (impl_FewestLots.l1 k x2 x8 x9 x10 (x11.set (x37 : Int).toNat (rd x35 x37)) (wrap64 (x12 + 1)) x28 x29 x35 x36 (wrap64 (x37 + 1))) else (none)) else (impl_FewestLots.l1 k x2 x8 x9 x10 x11 x12 x28 x29 x35 x36 (wrap64 (x37 + 1)))) else (none)) else (none)) else (if x12 < x9 then ((assign_few.f x8 x11).bind fun bt362 => (if bt362.1 = true then (impl_FewestLots.l0 k x2 x8 x9 x28 (wrap64 (x29 + 1))) else (impl_FewestLots.l0 k x2 x8 x12 x28 (wrap64 (x29 + 1))))) else (impl_FewestLots.l0 k x2 x8 x9 x28 (wrap64 (x29 + 1))))
end
def impl_FewestLots.f (k : Nat) (a0_0 : Int) (a0_1 : Int) (l0_2 : List Int) (a1 : Int) (l2 : List Int) : Option (Int × Bool) := (impl_hasFewAreas.f k a0_0 a0_1 l0_2 a1 l2).bind fun t353 => (if t353 = true then ((impl_Chart_sizesOf.f k a0_0 a0_1 l0_2 a1).bind fun t354 => (impl_FewestLots.l0 k l2 t354 (wrap64 ((l2.length : Int) + 1)) (shl .i64 1 (l2.length : Int)) 0)) else (some (0, false)))
theorem impl_FewestLots.calls (k : Nat) (Am : Int) (An : Int) (Ao : Option Addr) (Ap : Nat) (Ai : List Int) (a1 : Int) (A2 : Option Addr) (c2 : Nat) (l2 : List Int) (r1 : Int) (r2 : Bool) (w : World) (Br : Kd.C (Kd.int .i64) w Ao Ai.length Ai) (Bs : Ai.length ≤ Ap) (Db : Kd.C (Kd.int .i64) w A2 l2.length l2) (Dc : l2.length ≤ c2) (h : impl_FewestLots.f k Am An Ai a1 l2 = some (r1, r2)) :
  Calls Try.prog 31 #[.agg #[.int .i64 Am, .int .i64 An, .slice Ao Ai.length Ap], .int .i64 a1, .slice A2 l2.length c2] w fun e w' => e = .returned (.tuple #[.int .i64 r1, .bool r2]) ∧ Below w.heap.size w w' := by
 have hu28 := Try.underlying28; have Bg := Aside0.mk Br; have Bh := Aside0.mk Bs; clear Br Bs; have Cp := Aside0.mk Db; have Dd := Aside0.mk Dc; clear Db Dc; have HB := aM (Below.refl w.heap.size w); have H : ((impl_hasFewAreas.f k Am An Ai a1 l2).bind fun Bp => (if Bp = true then ((impl_Chart_sizesOf.f k Am An Ai a1).bind fun Aq => (impl_FewestLots.l0 k l2 Aq (wrap64 ((l2.length : Int) + 1)) (shl .i64 1 (l2.length : Int)) 0)) else (some (0, false)))) = some (r1, r2) := h; clear h; replace H := Option.bind_eq_some_iff.mp H; obtain ⟨Bp, De, H⟩ := H; replace H : (if Bp = true then ((impl_Chart_sizesOf.f k Am An Ai a1).bind fun Aq => (impl_FewestLots.l0 k l2 Aq (wrap64 ((l2.length : Int) + 1)) (shl .i64 1 (l2.length : Int)) 0)) else (some (0, false))) = some (r1, r2) := H; have A4 := Aside0.mk De; clear De
 by_cases c5 : Bp = true
 ·subst c5
  have H1 : ((impl_Chart_sizesOf.f k Am An Ai a1).bind fun Aq => (impl_FewestLots.l0 k l2 Aq (wrap64 ((l2.length : Int) + 1)) (shl .i64 1 (l2.length : Int)) 0)) = some (r1, r2) := by rw [if_pos rfl] at H; exact H
  clear H; have H := H1; clear H1; replace H := Option.bind_eq_some_iff.mp H; obtain ⟨Aq, Df, H⟩ := H; replace H : (impl_FewestLots.l0 k l2 Aq (wrap64 ((l2.length : Int) + 1)) (shl .i64 1 (l2.length : Int)) 0) = some (r1, r2) := H; have A6 := Aside0.mk Df; clear Df; obtain ⟨ji7, hji7⟩ : ∃ j_ : Int, (shl .i64 1 (l2.length : Int)) = j_ := ⟨_, rfl⟩
  replace H : (impl_FewestLots.l0 k l2 Aq (wrap64 ((l2.length : Int) + 1)) ji7 0) = some (r1, r2) := by first | (rw [hji7] at H; exact H) | (simp only [hji7] at H ⊢; exact H)
  (try rw [hji7] at A4)
  (try rw [hji7] at A6)
  have hji7_ : (IntKind.i64.wrap (1 * 2 ^ min (l2.length : Int).toNat 64)) = ji7 := hji7; have hji7z : (l2.length : Int) ≤ 64 → (IntKind.i64.wrap (1 * 2 ^ (l2.length : Int).toNat)) = ji7 := shl_small hji7; have hji7p : (IntKind.i64.wrap (1 * 2 ^ min l2.length 64)) = ji7 := hji7_; have hji7q : (l2.length : Int) ≤ 64 → (IntKind.i64.wrap (1 * 2 ^ l2.length)) = ji7 := hji7z
  have hji7r : (IntKind.i64.wrap (2 ^ min l2.length 64)) = ji7 := by have h_ := hji7p; rw [Int.one_mul] at h_; exact h_
  have hji7s : (l2.length : Int) ≤ 64 → (IntKind.i64.wrap (2 ^ l2.length)) = ji7 := fun hle_ => by have h_ := hji7q hle_; rw [Int.one_mul] at h_; exact h_
  have hji7u : (IntKind.i64.wrap (2 ^ min (l2.length : Int).toNat 64)) = ji7 := by have h_ := hji7_; rw [Int.one_mul] at h_; exact h_
  have hji7v : (l2.length : Int) ≤ 64 → (IntKind.i64.wrap (2 ^ (l2.length : Int).toNat)) = ji7 := fun hle_ => by have h_ := hji7z hle_; rw [Int.one_mul] at h_; exact h_
  have hji7y : (wrap64 (1 * 2 ^ min (l2.length : Int).toNat 64)) = ji7 := (i64_w _).symm.trans hji7_
  have hji7x : (l2.length : Int) ≤ 64 → (wrap64 (1 * 2 ^ (l2.length : Int).toNat)) = ji7 := fun h_ => (i64_w _).symm.trans (hji7z h_)
  have H' := Aside0.mk H; clear H
  go_enter Try.func31, Try.ntmps31
  go_wp2_with (first | ((with_reducible refine gate_dst (N := 3) rfl ?_); refine bxE 3 #[.int .i64 Am, .int .i64 An, .slice Ao Ai.length Ap] 28 ?_; intro Ax hg w8 hbox hb; have Ab := aM (hbox); have Cd := gwS hg Z0; have Ae := gwS hg Z0; replace HB := hbS Z0 hb; clear hb hbox hg; obtain ⟨Bi, Bj, Bk⟩ := bz3 Ab; obtain ⟨Bl, Bm, Bn⟩ := fz3 Ab) | ((with_reducible refine gate_callee (f := 61) rfl ?_); refine glE (some 18) Try.func61 #[.agg #[.int .i64 Am, .int .i64 An, .slice Ao Ai.length Ap], .int .i64 a1, .slice A2 l2.length c2] ?_; (with_reducible refine (impl_hasFewAreas.calls k Am An _ _ Ai a1 _ _ l2 true _ ?side1 ?side2 ?side3 ?side4 A4.out).mono ?_); (case side1 => exact Z53); (case side2 => exact Bh.out); (case side3 => exact Z68); (case side4 => exact Dd.out); rintro e Dr ⟨rfl, hb⟩; refine ⟨_, rfl, ?_⟩; replace Ab := bkB Ab hb; replace HB := hbS Z8 hb; (try clear hb); obtain ⟨Ay, Az, Ba⟩ := bz3 Ab; obtain ⟨Bb, Bc, Bd⟩ := fz3 Ab) | ((with_reducible refine gate_callee (f := 54) rfl ?_); refine glE (some 22) Try.func54 #[.agg #[.int .i64 Am, .int .i64 An, .slice Ao Ai.length Ap], .int .i64 a1] ?_; (with_reducible refine (impl_Chart_sizesOf.calls k Am An _ _ Ai a1 Aq _ ?side1 ?side2 A6.out).mono ?_); (case side1 => exact Z53); (case side2 => exact Bh.out); rintro e Ds ⟨Bq, rfl, Dg, hb⟩; refine ⟨_, rfl, ?_⟩; have Ce := aM (Kd.R_lower Dg (below_size Z8)); replace Ab := bkB Ab hb; replace HB := hbS Z8 hb; (try clear hb); (try clear Dg)))
  go_loopg [9, 29] k (fun kq v9 Di w' => ∃ (Ak : List Int) (Al : Int) (Ac : Int), v9 = .int .i64 Al ∧ Di = .int .i64 Ac ∧ Aside0 (impl_FewestLots.l0 kq l2 Ak Al ji7 Ac = some (r1, r2)) ∧ Aside0 (kq ≤ k) ∧ Aside0 (Kd.R (Kd.int .i64) 3 w' w.heap.size (fun _ => True) Bq Ak) ∧ Aside0 (w'.heap[Ax]? = some (.cells #[.int .i64 Am, .int .i64 An, (.slice Ao Ai.length Ap)] 28 (0, 0))) ∧ Aside0 (Below w.heap.size w w'))
  case atStart => exact ⟨(Aq), (wrap64 ((l2.length : Int) + 1)), (0), Z5, Z5, H', ⟨Nat.le_refl _⟩, ⟨by (with_reducible repeat (first | apply Kd.R_alloc | apply Kd.R_drewN | apply Kd.R_drew)); exact Ce.out⟩, ⟨Z7⟩, ⟨Z8⟩⟩
  case round =>
   clear H'; (try clear c2); (try clear p2); (try clear c3); (try clear c5); (try clear c6); (try clear p6); (try clear Ay); (try clear Az); (try clear Ba); (try clear Bi); (try clear Bj); (try clear Bk); (try clear Bb); (try clear Bc); (try clear Bd); (try clear Bl); (try clear Bm); (try clear Bn); obtain ⟨Ak, Al, Ac, rfl, rfl, HA, HK1, Ag, Ab, HB⟩ := hrel; cases gk with
   | zero => exact absurd HA.out (by simp [impl_FewestLots.l0])
   | succ k1 =>
    have H := HA.out; clear HA
    simp only [impl_FewestLots.l0] at H
    by_cases Bu : Ac < ji7
    ·rw [if_pos Bu] at H
     have c13b0 : decide (Ac < ji7) = true := decide_eq_true Bu; clear Bu
     by_cases B6 : 0 ≤ (l2.length : Int)
     ·rw [if_pos B6] at H
      have c14b0 := eq_true B6; have c14b1 : decide (0 ≤ (l2.length : Int)) = true := decide_eq_true B6; clear B6
      by_cases B7 : ((l2.length : Int) : Int).toNat ≤ 35184372088832
      ·rw [if_pos B7] at H
       have c15b0 := eq_true B7; have c15b1 : decide (((l2.length : Int) : Int).toNat ≤ 35184372088832) = true := decide_eq_true B7; clear B7; obtain ⟨Cf, Ar⟩ : ∃ y_ : List Int, y_ = (List.replicate ((l2.length : Int) : Int).toNat 0) := ⟨_, rfl⟩
       replace H : (impl_FewestLots.l1 k1 l2 Ak Al Ac Cf 0 ji7 Ac l2 (l2.length : Int) 0) = some (r1, r2) := by first | (rw [Ar]; with_reducible exact H) | (have H2_ := (Option.bind_some _ _).symm.trans H; rw [Ar]; with_reducible exact H2_) | (have H2_ := (Option.bind_some _ _).symm.trans H; with_reducible exact H2_) | with_reducible exact H | (rw [Ar]; exact H) | exact H
       have Bt := Aside0.mk Ar; clear Ar; have H' := Aside0.mk H; clear H
       go_wp2_with (first | ((with_reducible refine gate_dst (N := 34) rfl ?_); refine Kd.R_make (Kd.int .i64) _ 3 rfl (N := 34) rfl 22 _ _ rfl (l2.length : Int) rfl rfl Try.underlying22 (.int .i64 0) 8 info3 rfl (by decide) (by omega) 0 (ok := fun _ => True) (okp := fun _ => True) rfl (fun _ hk => hk) trivial (of_decide_eq_true Z3) (Nat.le_trans (Nat.mul_le_mul_right _ (of_decide_eq_true Z3 : (l2.length : Int).toNat ≤ 35184372088832)) (by omega)) (Below.refl _ _) (Nat.le_refl _) ?_; intro Cg Dt Bf hb hg_ hnew_; clear hg_ hnew_; (first | rw [← Bt.out] at Bf | (simp only [Int.reduceToNat] at Bf; rw [← Bt.out] at Bf)); have Ch := aM (Kd.R_lower (Kd.R_new' Bf (Kd.R_lt Z28)) (below_size Z8)); replace Ag := aM (Kd.R_elder' Z28 (Kd.R_base Bf) hb); replace Ab := bkB Ab hb; replace HB := hbS Z8 hb; clear hb Bf))
       go_loopg [12, 37] k1 (fun kq Dj Dk w' => ∃ (Ad : List Int) (Ah : Int) (Aa : Int), Dj = .int .i64 Ah ∧ Dk = .int .i64 Aa ∧ Aside0 (impl_FewestLots.l1 kq l2 Ak Al Ac Ad Ah ji7 Ac l2 (l2.length : Int) Aa = some (r1, r2)) ∧ Aside0 (kq ≤ k1) ∧ Aside0 (Kd.R (Kd.int .i64) 3 w' w.heap.size (fun k_ => nV k_ Cg) Bq Ak) ∧ Aside0 (Kd.R (Kd.int .i64) 3 w' w.heap.size (fun k_ => nV k_ Bq) Cg Ad) ∧ Aside0 (w'.heap[Ax]? = some (.cells #[.int .i64 Am, .int .i64 An, (.slice Ao Ai.length Ap)] 28 (0, 0))) ∧ Aside0 (Below w.heap.size w w'))
       case atStart => exact ⟨(Cf), (0), (0), Z5, Z5, H', ⟨Nat.le_refl _⟩, ⟨Z102⟩, ⟨by (with_reducible repeat (first | apply Kd.R_alloc | apply Kd.R_drewN | apply Kd.R_drew)); exact Kd.R_mono Ch.out (fun _ hk => hk.2)⟩, ⟨Z7⟩, ⟨Z8⟩⟩
       case round =>
        clear H'; (try clear c1); (try clear c2); (try clear p2); (try clear c3); (try clear c5); (try clear c6); (try clear p6); (try clear Bu); (try clear c13b0); (try clear B6); (try clear c14b0); (try clear c14b1); (try clear B7); (try clear c15b0); (try clear c15b1); (try clear Ay); (try clear Az); (try clear Ba); (try clear Bi); (try clear Bj); (try clear Bk); (try clear Bb); (try clear Bc); (try clear Bd); (try clear Bl); (try clear Bm); (try clear Bn); (try clear p2); (try clear p6); obtain ⟨Ad, Ah, Aa, rfl, rfl, HA, HK2, Ag, Af, Ab, HB⟩ := hrel; cases gk with
        | zero => exact absurd HA.out (by simp [impl_FewestLots.l1])
        | succ k2 =>
         have H := HA.out; clear HA
         simp only [impl_FewestLots.l1] at H
         by_cases Ca : Aa < (l2.length : Int)
         ·rw [if_pos Ca] at H
          have c18b0 : decide (Aa < (l2.length : Int)) = true := decide_eq_true Ca; clear Ca
          by_cases Cq : 0 ≤ Aa
          ·rw [if_pos Cq] at H
           have c19b0 : decide (0 ≤ Aa) = true := decide_eq_true Cq; clear Cq
           by_cases Cr : Aa < (l2.length : Int)
           ·rw [if_pos Cr] at H
            have c20b0 : decide (Aa < (l2.length : Int)) = true := decide_eq_true Cr; clear Cr; have c21b0 := eq_true (of_decide_eq_true Z3 : 0 ≤ Aa); obtain ⟨ji22, hji22⟩ : ∃ j_ : Int, (shr .i64 Ac Aa) = j_ := ⟨_, rfl⟩
            replace H : (if (Go.bits .and .i64 (ji22) 1) = 1 then (if Aa < (Ad.length : Int) then (impl_FewestLots.l1 k2 l2 Ak Al Ac (Ad.set (Aa : Int).toNat (rd l2 Aa)) (wrap64 (Ah + 1)) ji7 Ac l2 (l2.length : Int) (wrap64 (Aa + 1))) else (none)) else (impl_FewestLots.l1 k2 l2 Ak Al Ac Ad Ah ji7 Ac l2 (l2.length : Int) (wrap64 (Aa + 1)))) = some (r1, r2) := by first | (rw [hji22] at H; exact H) | (simp only [hji22] at H ⊢; exact H)
            have hji22_ : (Ac / 2 ^ min Aa.toNat 64) = ji22 := hji22; have hji22z : Aa ≤ 64 → (Ac / 2 ^ Aa.toNat) = ji22 := shr_small hji22
            by_cases Bv : (Go.bits .and .i64 (ji22) 1) = 1
            ·rw [if_pos Bv] at H
             have c23b0 : ((Go.bits .and .i64 (ji22) 1) == 1) = true := beq_iff_eq.mpr Bv; have c23b1 : ((Go.bits .and .i64 (ji22) 1) != 1) = false := bne_eq_false_iff_eq.mpr Bv; clear Bv
             by_cases Cs : Aa < (Ad.length : Int)
             ·rw [if_pos Cs] at H
              have c24b0 : decide (Aa < (Ad.length : Int)) = true := decide_eq_true Cs; clear Cs; obtain ⟨Bw, Au⟩ : ∃ y_ : List Int, y_ = (Ad.set (Aa : Int).toNat (rd l2 Aa)) := ⟨_, rfl⟩
              replace H : (impl_FewestLots.l1 k2 l2 Ak Al Ac Bw (wrap64 (Ah + 1)) ji7 Ac l2 (l2.length : Int) (wrap64 (Aa + 1))) = some (r1, r2) := by first | (rw [Au]; with_reducible exact H) | (have H2_ := (Option.bind_some _ _).symm.trans H; rw [Au]; with_reducible exact H2_) | (have H2_ := (Option.bind_some _ _).symm.trans H; with_reducible exact H2_) | with_reducible exact H | (rw [Au]; exact H) | exact H
              have Ci := Aside0.mk Au; clear Au; have H' := Aside0.mk H; clear H; have Av : 0 ≤ (Aa : Int) := of_decide_eq_true Z3; have Aw : Aa < (l2.length : Int) := of_decide_eq_true Z3; obtain ⟨ad360, e360, Aj⟩ := Kd.at_int Cp.out Aa Av Aw; cases e360; replace Aj := (HB.out.cell (World.block_lt_of_cell? w _ Aj)).trans Aj; replace Av := eq_true Av; replace Aw := eq_true Aw; have C0 : 0 ≤ (Aa : Int) := of_decide_eq_true Z3; have C1 : (Aa : Int) < ((Ad.length : Int) : Int) := of_decide_eq_true Z3; obtain ⟨Bo, Bx, Cj, Ck, gl25, cl25, HG25⟩ := Kd.R_form Af.out (by omega)
              (first | cases Cj | (injection Cj with ea_ en_ ec_; (first | subst ea_ | (injection ea_ with ea_; subst ea_)); subst ec_; clear en_))
              have C3 := Aside0.mk Ck; have Dl := Aside0.mk HG25; clear Ck gl25 HG25; obtain ⟨C4, C5⟩ := Kd.R_celln 0 Af.out (Aa : Int) C0 C1; replace C0 := eq_true C0; replace C1 := eq_true C1; have Bz := Kd.R_putg Af.out (Aa : Int) (rd l2 Aa)
              go_wp2_with (first | ((with_reducible refine gate_store (t := 3) (p := 50) rfl ?_); refine store_event (t := 3) (p := 50) (v := ?vo_w27) (w1 := (wr.setCell ⟨Bo, (Aa : Int).toNat, none⟩ (.int .i64 (rd l2 Aa)))) ?hg ?ho ?hn ?hr ?_; (case ho => rfl); (case hg => rfl); (case hn => rfl); (case hr => first | (go_simp; done) | (go_simp; rfl)); intro C6 hw; have hg : wr.grownBy C6 (some Bo) := (by rw [hw]; exact Bz.2); have hp_ : Kd.R (Kd.int .i64) 3 C6 w.heap.size (fun k_ => nV k_ Bq) (.slice (some ⟨Bo, 0, none⟩) Ad.length Bx) Bw := (by rw [hw, Ci.out]; exact Bz.1); clear Bz; replace Ag := aM (Kd.R_after (v := (.slice (some ⟨Bo, 0, none⟩) Ad.length Bx)) (v1 := (.slice (some ⟨Bo, 0, none⟩) Ad.length Bx)) (ok := (fun _ => True)) (by (with_reducible repeat (first | apply Kd.R_alloc | apply Kd.R_drewN | apply Kd.R_drew)); exact Kd.R_mono Ag.out (fun _ hk => ⟨trivial, hk⟩)) hg (.inl rfl)); replace Ab := aM (blk_grown (g := Ax) (o := .cells #[.int .i64 Am, .int .i64 An, .slice Ao Ai.length Ap] 28 (0, 0)) Z7 hg (Kd.R_ne Af.out Ab.out (by decide))); replace Af := aM (hp_); replace HB := aM ((by rw [hw]; exact below_set (HB.out) C3.out : Below w.heap.size w C6)); clear hg hw hp_))
              go_roundg k2
              case measure => have := HK1.out; have := HK2.out; omega
              case rel => exact ⟨(Bw), (wrap64 (Ah + 1)), (wrap64 (Aa + 1)), Z5, Z5, H', ⟨Z96⟩, ⟨Z102⟩, ⟨Z30⟩, ⟨Z7⟩, ⟨Z8⟩⟩
             ·rw [if_neg Cs] at H
              exact absurd H (by simp)
            ·rw [if_neg Bv] at H
             have c23b0 : ((Go.bits .and .i64 (ji22) 1) == 1) = false := beq_eq_false_iff_ne.mpr Bv; have c23b1 : ((Go.bits .and .i64 (ji22) 1) != 1) = true := bne_iff_ne.mpr Bv; have H' := Aside0.mk H; clear H; have Av : 0 ≤ (Aa : Int) := of_decide_eq_true Z3; have Aw : Aa < (l2.length : Int) := of_decide_eq_true Z3; obtain ⟨ad360, e360, Aj⟩ := Kd.at_int Cp.out Aa Av Aw; cases e360; replace Aj := (HB.out.cell (World.block_lt_of_cell? w _ Aj)).trans Aj; replace Av := eq_true Av; replace Aw := eq_true Aw
             go_wp2
             go_roundg k2
             case measure => have := HK1.out; have := HK2.out; omega
             case rel => exact ⟨(Ad), (Ah), (wrap64 (Aa + 1)), Z5, Z5, H', ⟨Z96⟩, ⟨Z28⟩, ⟨Z30⟩, ⟨Z7⟩, ⟨Z8⟩⟩
           ·rw [if_neg Cr] at H
            exact absurd H (by simp)
          ·rw [if_neg Cq] at H
           exact absurd H (by simp)
         ·rw [if_neg Ca] at H
          have c18b0 : decide (Aa < (l2.length : Int)) = false := decide_eq_false Ca; clear Ca
          by_cases Cb : Ah < Al
          ·rw [if_pos Cb] at H
           have c28b0 : decide (Ah < Al) = true := decide_eq_true Cb; clear Cb; replace H := Option.bind_eq_some_iff.mp H; obtain ⟨⟨Cl, Cm⟩, Cn, H⟩ := H; replace H : (if Cl = true then (impl_FewestLots.l0 k2 l2 Ak Al ji7 (wrap64 (Ac + 1))) else (impl_FewestLots.l0 k2 l2 Ak Ah ji7 (wrap64 (Ac + 1)))) = some (r1, r2) := H; have Dh := Aside0.mk Cn; clear Cn
           by_cases Ct : Cl = true
           ·subst Ct
            have H1 : (impl_FewestLots.l0 k2 l2 Ak Al ji7 (wrap64 (Ac + 1))) = some (r1, r2) := by rw [if_pos rfl] at H; exact H
            clear H; have H := H1; clear H1; have H' := Aside0.mk H; clear H; obtain ⟨Dm, Dn, C7⟩ := Kd.R_slice Ag.out; subst C7; obtain ⟨B0, B2, C8⟩ := Kd.R_slice Af.out; subst C8
            go_wp2_with (first | (go_at_call 62; (with_reducible refine (assign_few.calls _ _ Ak (fun k_ => some k_ = (.slice B0 Ad.length B2 : Value).ownBlock) (.slice B0 Ad.length B2) Ad true Cm w _ ?side1 ?side2 ?side3 ?side4 Dh.out).mono ?_); (case side1 => exact Z8); (case side2 => exact Kd.C_kept_own (Ag.out) (fun k_ hk_ hs_ => (hk_) hs_)); (case side3 => exact (Kd.R_reads' Ag.out).2.1); (case side4 => exact Kd.R_tight rfl Af.out); rintro e Du ⟨rfl, Co, hb, hkp⟩; replace Ag := aM (Kd.R_mono (ok' := fun k_ => nS k_ B0 Ad.length B2) (Kd.R_keptB (Ag.out) hkp (fun k_ hk_ hs_ => (hk_) hs_)) (fun k_ hk_ => hk_.1)); replace Ab := aM (blk_kept Z7 hkp (fun hs_ => (fun e_ => (Kd.R_ne Af.out Ab.out (by decide)) e_) hs_)); replace Af := aM (Kd.R_reok rfl Co (fun k_ e_ => Af.out.1 k_ e_)); replace HB := aM (hb); (try clear hb); (try clear hkp); (try clear Co)))
            go_roundg k2
            case measure => have := HK1.out; have := HK2.out; omega
            case rel => exact ⟨(Ak), (Al), (wrap64 (Ac + 1)), Z5, Z5, H', ⟨Z96⟩, ⟨Z59⟩, ⟨Z7⟩, ⟨Z8⟩⟩
           ·replace Ct := Bool.eq_false_iff.mpr Ct
            subst Ct
            have H1 : (impl_FewestLots.l0 k2 l2 Ak Ah ji7 (wrap64 (Ac + 1))) = some (r1, r2) := by rw [if_neg (show ¬ (false = true) by decide)] at H; exact H
            clear H; have H := H1; clear H1; have H' := Aside0.mk H; clear H; obtain ⟨Dp, Dq, C9⟩ := Kd.R_slice Ag.out; subst C9; obtain ⟨B4, B5, Da⟩ := Kd.R_slice Af.out; subst Da
            go_wp2_with (first | (go_at_call 62; (with_reducible refine (assign_few.calls _ _ Ak (fun k_ => some k_ = (.slice B4 Ad.length B5 : Value).ownBlock) (.slice B4 Ad.length B5) Ad false Cm w _ ?side1 ?side2 ?side3 ?side4 Dh.out).mono ?_); (case side1 => exact Z8); (case side2 => exact Kd.C_kept_own (Ag.out) (fun k_ hk_ hs_ => (hk_) hs_)); (case side3 => exact (Kd.R_reads' Ag.out).2.1); (case side4 => exact Kd.R_tight rfl Af.out); rintro e Dv ⟨rfl, Co, hb, hkp⟩; replace Ag := aM (Kd.R_mono (ok' := fun k_ => nS k_ B4 Ad.length B5) (Kd.R_keptB (Ag.out) hkp (fun k_ hk_ hs_ => (hk_) hs_)) (fun k_ hk_ => hk_.1)); replace Ab := aM (blk_kept Z7 hkp (fun hs_ => (fun e_ => (Kd.R_ne Af.out Ab.out (by decide)) e_) hs_)); replace Af := aM (Kd.R_reok rfl Co (fun k_ e_ => Af.out.1 k_ e_)); replace HB := aM (hb); (try clear hb); (try clear hkp); (try clear Co)))
            go_roundg k2
            case measure => have := HK1.out; have := HK2.out; omega
            case rel => exact ⟨(Ak), (Ah), (wrap64 (Ac + 1)), Z5, Z5, H', ⟨Z96⟩, ⟨Z59⟩, ⟨Z7⟩, ⟨Z8⟩⟩
          ·rw [if_neg Cb] at H
           have c28b0 : decide (Ah < Al) = false := decide_eq_false Cb; clear Cb; have H' := Aside0.mk H; clear H
           go_wp2
           go_roundg k2
           case measure => have := HK1.out; have := HK2.out; omega
           case rel => exact ⟨(Ak), (Al), (wrap64 (Ac + 1)), Z5, Z5, H', ⟨Z96⟩, ⟨Z59⟩, ⟨Z7⟩, ⟨Z8⟩⟩
      ·rw [if_neg B7] at H
       exact absurd H (by simp)
     ·rw [if_neg B6] at H
      exact absurd H (by simp)
    ·rw [if_neg Bu] at H
     have c13b0 : decide (Ac < ji7) = false := decide_eq_false Bu; clear Bu
     by_cases Cc : Al > (l2.length : Int)
     ·rw [if_pos Cc] at H
      have c37b0 : decide ((l2.length : Int) < Al) = true := decide_eq_true Cc; clear Cc
      simp only [Option.some.injEq, Prod.mk.injEq] at H
      obtain ⟨rfl, rfl⟩ := H
      go_wp2
      go_ret2
      exact ⟨Z72, Z8⟩
     ·rw [if_neg Cc] at H
      have c37b0 : decide ((l2.length : Int) < Al) = false := decide_eq_false Cc; clear Cc
      simp only [Option.some.injEq, Prod.mk.injEq] at H
      obtain ⟨rfl, rfl⟩ := H
      go_wp2
      go_ret2
      exact ⟨Z72, Z8⟩
 ·replace c5 := Bool.eq_false_iff.mpr c5
  subst c5
  have H1 : (some (0, false)) = some (r1, r2) := by rw [if_neg (show ¬ (false = true) by decide)] at H; exact H
  clear H; have H := H1; clear H1
  simp only [Option.some.injEq, Prod.mk.injEq] at H
  obtain ⟨rfl, rfl⟩ := H
  go_enter Try.func31, Try.ntmps31
  go_wp2_with (first | ((with_reducible refine gate_dst (N := 3) rfl ?_); refine bxE 3 #[.int .i64 Am, .int .i64 An, .slice Ao Ai.length Ap] 28 ?_; intro Ax hg Dw hbox hb; have Ab := aM (hbox); have Cd := gwS hg Z0; have Ae := gwS hg Z0; replace HB := hbS Z0 hb; clear hb hbox hg; obtain ⟨Cu, Cv, Cw⟩ := bz3 Ab; obtain ⟨Cx, Cy, Cz⟩ := fz3 Ab) | ((with_reducible refine gate_callee (f := 61) rfl ?_); refine glE (some 18) Try.func61 #[.agg #[.int .i64 Am, .int .i64 An, .slice Ao Ai.length Ap], .int .i64 a1, .slice A2 l2.length c2] ?_; (with_reducible refine (impl_hasFewAreas.calls k Am An _ _ Ai a1 _ _ l2 false _ ?side1 ?side2 ?side3 ?side4 A4.out).mono ?_); (case side1 => exact Z53); (case side2 => exact Bh.out); (case side3 => exact Z68); (case side4 => exact Dd.out); rintro e Dx ⟨rfl, hb⟩; refine ⟨_, rfl, ?_⟩; replace Ab := bkB Ab hb; replace HB := hbS Z8 hb; (try clear hb)))
  go_ret2
  exact ⟨Z4, Z8⟩
def laws_FnExactFewestLots.j0 : Nat → List Int → List Int → Bool → Int → Int → List Int → Int → Int → List Int → Option (Bool)
 | 0, _, _, _, _, _, _, _, _, _ => none
 | k + 1, x2, x11, x49, x365000, x365001, x365002, x382000, x382001, x382002 => if x49 = true then (none) else ((laws_toChart.f k x365000 x365001 x365002).bind fun bt387 => ((laws_eqChart.f k x382000 x382001 x382002 bt387.1 bt387.2.1 bt387.2.2).bind fun t392 => (if t392 = true then ((laws_toIntS.f k x2).bind fun t393 => ((laws_eqIntS.f k x11 t393).bind fun t396 => (if t396 = true then (some true) else (none)))) else (none))))
def laws_FnExactFewestLots.f (k : Nat) (a0_0 : Int) (a0_1 : Int) (l0_2 : List Int) (a1 : Int) (l2 : List Int) : Option (Bool) := if (l2.length : Int) > 1048576 then (some true) else ((laws_szChart.f a0_0 a0_1 l0_2 1048576).bind fun t365 => (if t365 < 0 then (some true) else ((laws_toChart.f k a0_0 a0_1 l0_2).bind fun bt366 => ((laws_toIntS.f k l2).bind fun t371 => ((spec_FewestLots.f k bt366.1 bt366.2.1 bt366.2.2 a1 t371).bind fun bt374 => ((laws_toChart.f k a0_0 a0_1 l0_2).bind fun bt376 => ((laws_toIntS.f k l2).bind fun t382 => ((impl_FewestLots.f k bt376.1 bt376.2.1 bt376.2.2 a1 t382).bind fun bt385 => (if bt385.1 = bt374.1 then (laws_FnExactFewestLots.j0 k l2 t382 (bt385.2 != bt374.2) a0_0 a0_1 l0_2 bt376.1 bt376.2.1 bt376.2.2) else (laws_FnExactFewestLots.j0 k l2 t382 true a0_0 a0_1 l0_2 bt376.1 bt376.2.1 bt376.2.2))))))))))
theorem laws_FnExactFewestLots.calls (k : Nat) (Af : Int) (Ag : Int) (Ay : Option Addr) (Az : Nat) (Ae : List Int) (a1 : Int) (A2 : Option Addr) (c2 : Nat) (l2 : List Int) (r : Bool) (w : World) (C4 : Kd.C (Kd.int .i64) w Ay Ae.length Ae) (C5 : Ae.length ≤ Az) (Ea : Kd.C (Kd.int .i64) w A2 l2.length l2) (Eb : l2.length ≤ c2) (h : laws_FnExactFewestLots.f k Af Ag Ae a1 l2 = some r) :
  Calls Try.prog 8 #[.agg #[.int .i64 Af, .int .i64 Ag, .slice Ay Ae.length Az], .int .i64 a1, .slice A2 l2.length c2] w fun e w' => e = .returned (.bool r) ∧ Below w.heap.size w w' := by
 have hu24 := Try.underlying24; have hu28 := Try.underlying28; have Bm := Aside0.mk C4; have Bn := Aside0.mk C5; clear C4 C5; have Dv := Aside0.mk Ea; have Dw := Aside0.mk Eb; clear Ea Eb; have HB := aM (Below.refl w.heap.size w); have H : (if (l2.length : Int) > 1048576 then (some true) else ((laws_szChart.f Af Ag Ae 1048576).bind fun Bo => (if Bo < 0 then (some true) else ((laws_toChart.f k Af Ag Ae).bind fun Bg => ((laws_toIntS.f k l2).bind fun Bj => ((spec_FewestLots.f k Bg.1 Bg.2.1 Bg.2.2 a1 Bj).bind fun Au => ((laws_toChart.f k Af Ag Ae).bind fun Ab => ((laws_toIntS.f k l2).bind fun Ah => ((impl_FewestLots.f k Ab.1 Ab.2.1 Ab.2.2 a1 Ah).bind fun Aj => (if Aj.1 = Au.1 then (laws_FnExactFewestLots.j0 k l2 Ah (Aj.2 != Au.2) Af Ag Ae Ab.1 Ab.2.1 Ab.2.2) else (laws_FnExactFewestLots.j0 k l2 Ah true Af Ag Ae Ab.1 Ab.2.1 Ab.2.2))))))))))) = some r := h; clear h
 by_cases c4 : (l2.length : Int) > 1048576
 ·rw [if_pos c4] at H
  have c4b0 : decide (1048576 < (l2.length : Int)) = true := decide_eq_true c4; have c4b1 : decide (1048576 < l2.length) = true := decide_eq_true (by omega); clear c4; obtain rfl := Option.some.inj H
  go_enter Try.func8, Try.ntmps8
  go_wp2_with (first | ((with_reducible refine gate_dst (N := 3) rfl ?_); refine bxE 3 #[.int .i64 Af, .int .i64 Ag, .slice Ay Ae.length Az] 24 ?_; intro Bh hg w5 hbox hb; have Aa := aM (hbox); have C6 := gwS hg Z0; have Ai := gwS hg Z0; replace HB := hbS Z0 hb; clear hb hbox hg))
  go_ret
  exact ⟨Z4, Z18⟩
 ·rw [if_neg c4] at H
  have c4b0 : decide (1048576 < (l2.length : Int)) = false := decide_eq_false c4; have c4b1 : decide (1048576 < l2.length) = false := decide_eq_false (by omega); clear c4; replace H := Option.bind_eq_some_iff.mp H; obtain ⟨Bo, Ec, H⟩ := H; replace H : (if Bo < 0 then (some true) else ((laws_toChart.f k Af Ag Ae).bind fun Bg => ((laws_toIntS.f k l2).bind fun Bj => ((spec_FewestLots.f k Bg.1 Bg.2.1 Bg.2.2 a1 Bj).bind fun Au => ((laws_toChart.f k Af Ag Ae).bind fun Ab => ((laws_toIntS.f k l2).bind fun Ah => ((impl_FewestLots.f k Ab.1 Ab.2.1 Ab.2.2 a1 Ah).bind fun Aj => (if Aj.1 = Au.1 then (laws_FnExactFewestLots.j0 k l2 Ah (Aj.2 != Au.2) Af Ag Ae Ab.1 Ab.2.1 Ab.2.2) else (laws_FnExactFewestLots.j0 k l2 Ah true Af Ag Ae Ab.1 Ab.2.1 Ab.2.2))))))))) = some r := H; have A6 := Aside0.mk Ec; clear Ec
  by_cases c7 : Bo < 0
  ·rw [if_pos c7] at H
   have c7b0 : decide (Bo < 0) = true := decide_eq_true c7; clear c7; obtain rfl := Option.some.inj H
   go_enter Try.func8, Try.ntmps8
   go_wp2_with (first | ((with_reducible refine gate_dst (N := 3) rfl ?_); refine bxE 3 #[.int .i64 Af, .int .i64 Ag, .slice Ay Ae.length Az] 24 ?_; intro Bh hg w8 hbox hb; have Aa := aM (hbox); have C6 := gwS hg Z0; have Ai := gwS hg Z0; replace HB := hbS Z0 hb; clear hb hbox hg; obtain ⟨C8, C9, Da⟩ := bz3 Aa; obtain ⟨Db, Dc, Dd⟩ := fz3 Aa) | ((with_reducible refine gate_callee (f := 12) rfl ?_); refine glE (some 19) Try.func12 #[.agg #[.int .i64 Af, .int .i64 Ag, .slice Ay Ae.length Az], .int .i64 1048576] ?_; (with_reducible refine (laws_szChart.calls Af Ag _ _ Ae 1048576 Bo _ ?side1 ?side2 A6.out).mono ?_); (case side1 => exact Z38); (case side2 => exact Bn.out); rintro e Ez ⟨rfl, hb⟩; refine ⟨_, rfl, ?_⟩; replace Aa := bkB Aa hb; replace HB := hbS Z18 hb; (try clear hb)))
   go_ret
   exact ⟨Z4, Z18⟩
  ·rw [if_neg c7] at H
   have c7b0 : decide (Bo < 0) = false := decide_eq_false c7; clear c7; replace H := Option.bind_eq_some_iff.mp H; obtain ⟨⟨Bu, Bv, Bw⟩, Dg, H⟩ := H; replace H : ((laws_toIntS.f k l2).bind fun Bj => ((spec_FewestLots.f k Bu Bv Bw a1 Bj).bind fun Au => ((laws_toChart.f k Af Ag Ae).bind fun Ab => ((laws_toIntS.f k l2).bind fun Ah => ((impl_FewestLots.f k Ab.1 Ab.2.1 Ab.2.2 a1 Ah).bind fun Aj => (if Aj.1 = Au.1 then (laws_FnExactFewestLots.j0 k l2 Ah (Aj.2 != Au.2) Af Ag Ae Ab.1 Ab.2.1 Ab.2.2) else (laws_FnExactFewestLots.j0 k l2 Ah true Af Ag Ae Ab.1 Ab.2.1 Ab.2.2))))))) = some r := H; have Eg := Aside0.mk Dg; clear Dg; replace H := Option.bind_eq_some_iff.mp H; obtain ⟨Bj, Dh, H⟩ := H; replace H : ((spec_FewestLots.f k Bu Bv Bw a1 Bj).bind fun Au => ((laws_toChart.f k Af Ag Ae).bind fun Ab => ((laws_toIntS.f k l2).bind fun Ah => ((impl_FewestLots.f k Ab.1 Ab.2.1 Ab.2.2 a1 Ah).bind fun Aj => (if Aj.1 = Au.1 then (laws_FnExactFewestLots.j0 k l2 Ah (Aj.2 != Au.2) Af Ag Ae Ab.1 Ab.2.1 Ab.2.2) else (laws_FnExactFewestLots.j0 k l2 Ah true Af Ag Ae Ab.1 Ab.2.1 Ab.2.2)))))) = some r := H; have Eh := Aside0.mk Dh; clear Dh; replace H := Option.bind_eq_some_iff.mp H; obtain ⟨⟨Bk, Br⟩, Di, H⟩ := H; replace H : ((laws_toChart.f k Af Ag Ae).bind fun Ab => ((laws_toIntS.f k l2).bind fun Ah => ((impl_FewestLots.f k Ab.1 Ab.2.1 Ab.2.2 a1 Ah).bind fun Aj => (if Aj.1 = Bk then (laws_FnExactFewestLots.j0 k l2 Ah (Aj.2 != Br) Af Ag Ae Ab.1 Ab.2.1 Ab.2.2) else (laws_FnExactFewestLots.j0 k l2 Ah true Af Ag Ae Ab.1 Ab.2.1 Ab.2.2))))) = some r := H; have Ei := Aside0.mk Di; clear Di; replace H := Option.bind_eq_some_iff.mp H; obtain ⟨⟨Am, An, Ak⟩, Dj, H⟩ := H; replace H : ((laws_toIntS.f k l2).bind fun Ah => ((impl_FewestLots.f k Am An Ak a1 Ah).bind fun Aj => (if Aj.1 = Bk then (laws_FnExactFewestLots.j0 k l2 Ah (Aj.2 != Br) Af Ag Ae Am An Ak) else (laws_FnExactFewestLots.j0 k l2 Ah true Af Ag Ae Am An Ak)))) = some r := H; have Ej := Aside0.mk Dj; clear Dj; replace H := Option.bind_eq_some_iff.mp H; obtain ⟨Ah, Dk, H⟩ := H; replace H : ((impl_FewestLots.f k Am An Ak a1 Ah).bind fun Aj => (if Aj.1 = Bk then (laws_FnExactFewestLots.j0 k l2 Ah (Aj.2 != Br) Af Ag Ae Am An Ak) else (laws_FnExactFewestLots.j0 k l2 Ah true Af Ag Ae Am An Ak))) = some r := H; have Ek := Aside0.mk Dk; clear Dk; replace H := Option.bind_eq_some_iff.mp H; obtain ⟨⟨Bq, De⟩, Dl, H⟩ := H; replace H : (if Bq = Bk then (laws_FnExactFewestLots.j0 k l2 Ah (De != Br) Af Ag Ae Am An Ak) else (laws_FnExactFewestLots.j0 k l2 Ah true Af Ag Ae Am An Ak)) = some r := H; have El := Aside0.mk Dl; clear Dl; have Df := Aside0.mk H; clear H
   go_enter Try.func8, Try.ntmps8
   go_upto_region 11 with (first | ((with_reducible refine gate_dst (N := 3) rfl ?_); refine bxE 3 #[.int .i64 Af, .int .i64 Ag, .slice Ay Ae.length Az] 24 ?_; intro Bh hg E0 hbox hb; have Aa := aM (hbox); have C6 := gwS hg Z0; have Ai := gwS hg Z0; replace HB := hbS Z0 hb; clear hb hbox hg; obtain ⟨B0, B2, B4⟩ := bz3 Aa; obtain ⟨B5, B6, B7⟩ := fz3 Aa) | ((with_reducible refine gate_callee (f := 12) rfl ?_); refine glE (some 19) Try.func12 #[.agg #[.int .i64 Af, .int .i64 Ag, .slice Ay Ae.length Az], .int .i64 1048576] ?_; (with_reducible refine (laws_szChart.calls Af Ag _ _ Ae 1048576 Bo _ ?side1 ?side2 A6.out).mono ?_); (case side1 => exact Z38); (case side2 => exact Bn.out); rintro e E1 ⟨rfl, hb⟩; refine ⟨_, rfl, ?_⟩; replace Aa := bkB Aa hb; replace HB := hbS Z18 hb; (try clear hb); obtain ⟨Ca, Cb, Cc⟩ := bz3 Aa; obtain ⟨Cd, Ce, Cf⟩ := fz3 Aa) | ((with_reducible refine gate_callee (f := 14) rfl ?_); refine glE (some 24) Try.func14 #[.agg #[.int .i64 Af, .int .i64 Ag, .slice Ay Ae.length Az]] ?_; (with_reducible refine (laws_toChart.calls k Af Ag _ _ Ae Bu Bv Bw _ ?side1 ?side2 Eg.out).mono ?_); (case side1 => exact Z38); (case side2 => exact Bn.out); rintro e E2 ⟨Em, rfl, Ax, hb⟩; refine ⟨_, rfl, ?_⟩; have Al := aM (Kd.R_lower Ax (below_size Z18)); replace Aa := bkB Aa hb; replace HB := hbS Z18 hb; (try clear hb); (try clear Ax)) | ((with_reducible refine gate_callee (f := 28) rfl ?_); refine glE (some 27) Try.func28 #[.slice A2 l2.length c2] ?_; (with_reducible refine (laws_toIntS.calls k _ _ l2 Bj _ ?side1 ?side2 Eh.out).mono ?_); (case side1 => exact Z69); (case side2 => exact Dw.out); rintro e E3 ⟨En, rfl, Ax, hb⟩; refine ⟨_, rfl, ?_⟩; have Ao := aM (Kd.R_lower (Kd.R_new' Ax (Kd.R_lt Z27)) (below_size Z18)); replace Al := aM (Kd.R_elder' Z27 (Kd.R_base Ax) hb); replace Aa := bkB Aa hb; replace HB := hbS Z18 hb; (try clear hb); (try clear Ax); obtain ⟨Dx, Dy, Dz⟩ := Kd.R_slice Al.out; subst Dz; obtain ⟨D0, D1, D2⟩ := Kd.R_slice Ao.out; subst D2) | ((with_reducible refine gate_callee (f := 30) rfl ?_); refine glE (some 28) Try.func30 #[.agg #[.int .i64 Bu, .int .i64 Bv, .slice Dx Bw.length Dy], .int .i64 a1, .slice D0 Bj.length D1] ?_; (with_reducible refine (spec_FewestLots.calls k Bu Bv _ _ Bw a1 _ _ Bj Bk Br _ ?side1 ?side2 ?side3 ?side4 Ei.out).mono ?_); (case side1 => exact (by repeat (first | exact (Kd.R_reads' Al.out).2.2 | (with_reducible refine Kd.C_alloc ?_ _) | (with_reducible refine Kd.C_drewN ?_ _) | (with_reducible refine Kd.C_drew ?_)))); (case side2 => exact (Kd.R_reads' Al.out).2.1); (case side3 => exact Z44); (case side4 => exact (Kd.R_reads' Ao.out).2.1); rintro e E4 ⟨rfl, hb⟩; refine ⟨_, rfl, ?_⟩; replace Al := roB Al hb; replace Ao := roB Ao hb; replace Aa := bkB Aa hb; replace HB := hbS Z18 hb; (try clear hb); obtain ⟨Cg, Ch, Ci⟩ := bz3 Aa; obtain ⟨Cj, Ck, Cl⟩ := fz3 Aa) | ((with_reducible refine gate_callee (f := 14) rfl ?_); refine glE (some 32) Try.func14 #[.agg #[.int .i64 Af, .int .i64 Ag, .slice Ay Ae.length Az]] ?_; (with_reducible refine (laws_toChart.calls k Af Ag _ _ Ae Am An Ak _ ?side1 ?side2 Ej.out).mono ?_); (case side1 => exact Z38); (case side2 => exact Bn.out); rintro e E5 ⟨Eo, rfl, Ax, hb⟩; refine ⟨_, rfl, ?_⟩; have Aq := aM (Kd.R_lower (Kd.R_new' (Kd.R_new' Ax (Kd.R_lt Z27)) (Kd.R_lt Z29)) (below_size Z18)); replace Al := aM (Kd.R_elder' Z27 (Kd.R_base Ax) hb); replace Ao := aM (Kd.R_elder' Z29 (Kd.R_base Ax) hb); replace Aa := bkB Aa hb; replace HB := hbS Z18 hb; (try clear hb); (try clear Ax)) | ((with_reducible refine gate_dst (N := 10) rfl ?_); refine bxE 10 #[.int .i64 0, .int .i64 0, .slice none 0 0] 28 ?_; intro Bp hg E6 hbox hb; replace Al := roB Al hb; replace Ao := roB Ao hb; replace Aq := roB Aq hb; have Ac := aM (hbox); have Ed := gwS hg Z18; have Ar := gwS hg Z18; replace HB := hbS Z18 hb; have Av := nbL hg Aa; have Bs := nbG hg Aa; replace Aa := bkB Aa hb; clear hb hbox hg; have Ee := Bs.out; have Ef := Av.out; obtain ⟨Cm, Cn, Co⟩ := bz3 Ac; obtain ⟨Cp, Cq, Cr⟩ := fz3 Ac; obtain ⟨Ba, Bb, D3⟩ := Kd.R_slice Aq.out; subst D3) | ((with_reducible refine gate_callee (f := 28) rfl ?_); refine glE (some 34) Try.func28 #[.slice A2 l2.length c2] ?_; (with_reducible refine (laws_toIntS.calls k _ _ l2 Ah _ ?side1 ?side2 Ek.out).mono ?_); (case side1 => exact Kd.C_below Dv.out Z17); (case side2 => exact Dw.out); rintro e E7 ⟨Ep, rfl, Ax, hb⟩; refine ⟨_, rfl, ?_⟩; have Bi := aM (Kd.R_lower (Kd.R_new' (Kd.R_new' (Kd.R_new' Ax (Kd.R_lt Z76)) (Kd.R_lt Z77)) (Kd.R_lt Z78)) (below_size Z17)); replace Al := aM (Kd.R_elder' Z76 (Kd.R_base Ax) hb); replace Ao := aM (Kd.R_elder' Z77 (Kd.R_base Ax) hb); replace Aq := aM (Kd.R_elder' Z78 (Kd.R_base Ax) hb); replace Aa := aM (blk_below (g := Bh) (o := .cells #[.int .i64 Af, .int .i64 Ag, .slice Ay Ae.length Az] 24 (0, 0)) (by (with_reducible repeat (first | refine blk_drewN ?_ _ | refine blk_drew ?_ | refine blk_alloc ?_ _)); refine blk_far ?_ Av.out _; (with_reducible repeat (first | refine blk_drewN ?_ _ | refine blk_drew ?_ | refine blk_alloc ?_ _)); refine blk_far ?_ Av.out _; (with_reducible repeat (first | refine blk_drewN ?_ _ | refine blk_drew ?_ | refine blk_alloc ?_ _)); refine blk_far ?_ Av.out _; (with_reducible repeat (first | refine blk_drewN ?_ _ | refine blk_drew ?_ | refine blk_alloc ?_ _)); exact Aa.out) hb); replace Ac := aM (blk_below (g := Bp) (o := .cells #[.int .i64 Am, .int .i64 An, .slice Ba Ak.length Bb] 28 (0, 0)) (by (with_reducible repeat (first | refine blk_drewN ?_ _ | refine blk_drew ?_ | refine blk_alloc ?_ _)); refine blk_put (cs := #[.int .i64 Am, .int .i64 An, .slice none 0 0]) ?_ 2 _ rfl; (with_reducible repeat (first | refine blk_drewN ?_ _ | refine blk_drew ?_ | refine blk_alloc ?_ _)); refine blk_put (cs := #[.int .i64 Am, .int .i64 0, .slice none 0 0]) ?_ 1 _ rfl; (with_reducible repeat (first | refine blk_drewN ?_ _ | refine blk_drew ?_ | refine blk_alloc ?_ _)); refine blk_put (cs := #[.int .i64 0, .int .i64 0, .slice none 0 0]) ?_ 0 _ rfl; (with_reducible repeat (first | refine blk_drewN ?_ _ | refine blk_drew ?_ | refine blk_alloc ?_ _)); exact Ac.out) hb); replace HB := hbS Z17 hb; (try clear hb); (try clear Ax); obtain ⟨Cs, Ct, Cu⟩ := bz3 Ac; obtain ⟨Cv, Cw, Cx⟩ := fz3 Ac; obtain ⟨Cy, Cz, D4⟩ := Kd.R_slice Bi.out; subst D4) | ((with_reducible refine gate_callee (f := 31) rfl ?_); refine glE (some 39) Try.func31 #[.agg #[.int .i64 Am, .int .i64 An, .slice Ba Ak.length Bb], .int .i64 a1, .slice Cy Ah.length Cz] ?_; (with_reducible refine (impl_FewestLots.calls k Am An _ _ Ak a1 _ _ Ah Bq De _ ?side1 ?side2 ?side3 ?side4 El.out).mono ?_); (case side1 => exact (by repeat (first | exact (Kd.R_reads' Aq.out).2.2 | (with_reducible refine Kd.C_alloc ?_ _) | (with_reducible refine Kd.C_drewN ?_ _) | (with_reducible refine Kd.C_drew ?_)))); (case side2 => exact (Kd.R_reads' Aq.out).2.1); (case side3 => exact (by repeat (first | exact (Kd.R_reads' Bi.out).2.2 | (with_reducible refine Kd.C_alloc ?_ _) | (with_reducible refine Kd.C_drewN ?_ _) | (with_reducible refine Kd.C_drew ?_)))); (case side4 => exact (Kd.R_reads' Bi.out).2.1); rintro e E8 ⟨rfl, hb⟩; refine ⟨_, rfl, ?_⟩; replace Al := roB Al hb; replace Ao := roB Ao hb; replace Aq := roB Aq hb; replace Bi := roB Bi hb; replace Aa := bkB Aa hb; replace Ac := bkB Ac hb; replace HB := hbS Z17 hb; (try clear hb)))
   (try simp only [Act.put, List.setIfInBounds_toArray, List.set_cons_zero, List.set_cons_succ])
   go_cut [49] (fun Er wc => ∃ (kq : Nat) (Bl : Bool), Er = .bool Bl ∧ Aside0 (laws_FnExactFewestLots.j0 kq l2 Ah Bl Af Ag Ae Am An Ak = some r) ∧ Aside0 (kq ≤ k) ∧ Aside0 (Kd.R (Kd.int .i64) 3 wc w.heap.size (fun k_ => nS k_ Ba Ak.length Bb) (.slice Cy Ah.length Cz) Ah) ∧ Aside0 (Kd.R (Kd.int .i64) 3 wc w.heap.size (fun k_ => nS k_ Cy Ah.length Cz) (.slice Ba Ak.length Bb) Ak) ∧ Aside0 (wc.heap[Bh]? = some (.cells #[.int .i64 Af, .int .i64 Ag, (.slice Ay Ae.length Az)] 24 (0, 0))) ∧ Aside0 (wc.heap[Bp]? = some (.cells #[.int .i64 Am, .int .i64 An, (.slice Ba Ak.length Bb)] 28 (0, 0))) ∧ Aside0 (Below w.heap.size w wc))
   case first => as_aux_lemma =>
    have H := Df.out; clear Df
    by_cases C7 : Bq = Bk
    ·rw [if_pos C7] at H
     have c37b0 : (Bq == Bk) = true := beq_iff_eq.mpr C7; have c37b1 : (Bq != Bk) = false := bne_eq_false_iff_eq.mpr C7; clear C7
     (first | rw [c37b0] | (simp only [i64_w, i32_w]; rw [c37b0]) | skip)
     have H' := Aside0.mk H; clear H
     go_wp2
     go_meet
     case rel => exact ⟨_, ((De != Br)), Z5, H', ⟨Z84⟩, ⟨Z103⟩, ⟨Z51⟩, ⟨Z12⟩, ⟨Z21⟩, ⟨Z17⟩⟩
    ·rw [if_neg C7] at H
     have c37b0 : (Bq == Bk) = false := beq_eq_false_iff_ne.mpr C7; have c37b1 : (Bq != Bk) = true := bne_iff_ne.mpr C7
     (first | rw [c37b0] | (simp only [i64_w, i32_w]; rw [c37b0]) | skip)
     have H' := Aside0.mk H; clear H
     go_wp2
     go_meet
     case rel => exact ⟨_, (true), Z5, H', ⟨Z84⟩, ⟨Z103⟩, ⟨Z51⟩, ⟨Z12⟩, ⟨Z21⟩, ⟨Z17⟩⟩
   case rest => as_aux_lemma =>
    clear Df; (try clear c1); (try clear c2); (try clear p2); (try clear c3); (try clear c4); (try clear c4b0); (try clear c4b1); (try clear c7); (try clear c7b0); (try clear c8); (try clear E9); (try clear Fa); (try clear Fb); (try clear Fc); (try clear Fd); (try clear C7); (try clear c37b0); (try clear c37b1); (try clear B0); (try clear B2); (try clear B4); (try clear Ca); (try clear Cb); (try clear Cc); (try clear Cg); (try clear Ch); (try clear Ci); (try clear Cm); (try clear Cn); (try clear Co); (try clear Cs); (try clear Ct); (try clear Cu); (try clear C8); (try clear C9); (try clear Da); (try clear B5); (try clear B6); (try clear B7); (try clear Cd); (try clear Ce); (try clear Cf); (try clear Cj); (try clear Ck); (try clear Cl); (try clear Cp); (try clear Cq); (try clear Cr); (try clear Cv); (try clear Cw); (try clear Cx); (try clear Db); (try clear Dc); (try clear Dd); obtain ⟨kq, Bl, rfl, HA, HJ16, Ap, Ad, Aa, Ac, HB⟩ := hcut; cases kq with
    | zero => exact absurd HA.out (by simp [laws_FnExactFewestLots.j0])
    | succ Aw =>
     have H := HA.out; clear HA
     simp only [laws_FnExactFewestLots.j0] at H
     by_cases Ds : Bl = true
     ·subst Ds
      have H1 : (none) = some r := by rw [if_pos rfl] at H; exact H
      clear H; have H := H1; clear H1; exact absurd H (by simp)
     ·replace Ds := Bool.eq_false_iff.mpr Ds
      subst Ds
      have H1 : ((laws_toChart.f Aw Af Ag Ae).bind fun Bx => ((laws_eqChart.f Aw Am An Ak Bx.1 Bx.2.1 Bx.2.2).bind fun Bt => (if Bt = true then ((laws_toIntS.f Aw l2).bind fun Bd => ((laws_eqIntS.f Aw Ah Bd).bind fun Bf => (if Bf = true then (some true) else (none)))) else (none)))) = some r := by rw [if_neg (show ¬ (false = true) by decide)] at H; exact H
      clear H; have H := H1; clear H1; replace H := Option.bind_eq_some_iff.mp H; obtain ⟨⟨C0, C1, C3⟩, Dm, H⟩ := H; replace H : ((laws_eqChart.f Aw Am An Ak C0 C1 C3).bind fun Bt => (if Bt = true then ((laws_toIntS.f Aw l2).bind fun Bd => ((laws_eqIntS.f Aw Ah Bd).bind fun Bf => (if Bf = true then (some true) else (none)))) else (none))) = some r := H; have Es := Aside0.mk Dm; clear Dm; replace H := Option.bind_eq_some_iff.mp H; obtain ⟨Bt, Dn, H⟩ := H; replace H : (if Bt = true then ((laws_toIntS.f Aw l2).bind fun Bd => ((laws_eqIntS.f Aw Ah Bd).bind fun Bf => (if Bf = true then (some true) else (none)))) else (none)) = some r := H; have Et := Aside0.mk Dn; clear Dn
      by_cases Dt : Bt = true
      ·subst Dt
       have H1 : ((laws_toIntS.f Aw l2).bind fun Bd => ((laws_eqIntS.f Aw Ah Bd).bind fun Bf => (if Bf = true then (some true) else (none)))) = some r := by rw [if_pos rfl] at H; exact H
       clear H; have H := H1; clear H1; replace H := Option.bind_eq_some_iff.mp H; obtain ⟨Bd, Dp, H⟩ := H; replace H : ((laws_eqIntS.f Aw Ah Bd).bind fun Bf => (if Bf = true then (some true) else (none))) = some r := H; have Eu := Aside0.mk Dp; clear Dp; replace H := Option.bind_eq_some_iff.mp H; obtain ⟨Bf, Dq, H⟩ := H; replace H : (if Bf = true then (some true) else (none)) = some r := H; have Ew := Aside0.mk Dq; clear Dq
       by_cases Du : Bf = true
       ·subst Du
        have H1 : (some true) = some r := by rw [if_pos rfl] at H; exact H
        clear H; have H := H1; clear H1; obtain rfl := Option.some.inj H
        try go_wp2
        replace Ap := aM (Kd.R_drew Ap.out); replace Ad := aM (Kd.R_drew Ad.out); replace Aa := aM (blk_drew Aa.out); replace Ac := aM (blk_drew Ac.out); replace HB := aM (below_drew1 HB.out); refine start_ (n := 5) (S := fun w' => w'.cell? ⟨Bp, 0, none⟩ = some (.int .i64 Am) ∧ w'.cell? ⟨Bp, 1, none⟩ = some (.int .i64 An) ∧ w'.cell? ⟨Bp, 2, none⟩ = some (.slice Ba Ak.length Bb) ∧ w'.cell? ⟨Bh, 0, none⟩ = some (.int .i64 Af) ∧ w'.cell? ⟨Bh, 1, none⟩ = some (.int .i64 Ag) ∧ w'.cell? ⟨Bh, 2, none⟩ = some (.slice Ay Ae.length Az)) (ds := []) #[false, false, false, false, false] Z35 rfl rfl ⟨(blk_cell Ac.out 0).trans rfl, (blk_cell Ac.out 1).trans rfl, (blk_cell Ac.out 2).trans rfl, (blk_cell Aa.out 0).trans rfl, (blk_cell Aa.out 1).trans rfl, (blk_cell Aa.out 2).trans rfl⟩ (fun hHeld => ?_)
        generalize wc.drew = Fe at Ap Ad Aa Ac HB hHeld ⊢
        refine taK 0 50 #[true, false, false, false, false] hHeld rfl rfl ?_; refine taK 1 51 #[true, true, false, false, false] hHeld rfl rfl ?_; refine one_ (i := 2) (N := some 52) #[true, true, true, false, false] rfl rfl Z35 (by decide) (fun K hK => ?_); refine goes_ Try.func14 Z35 rfl #[.agg #[.int .i64 Af, .int .i64 Ag, .slice Ay Ae.length Az]] (by rfl) rfl rfl Z50 ?_; (with_reducible refine (laws_toChart.calls Aw Af Ag _ _ Ae C0 C1 C3 _ ?side1 ?side2 Es.out).mono ?_); (case side1 => exact Z38); (case side2 => exact Bn.out); rintro e Ff ⟨Ex, rfl, Ax, hb⟩; refine ⟨_, rfl, ?_⟩; have Bc := aM (Kd.R_lower (Kd.R_new' (Kd.R_new' Ax (Kd.R_lt Z43)) (Kd.R_lt Z14)) (below_size Z17)); replace Ap := aM (Kd.R_elder' Z43 (Kd.R_base Ax) hb); replace Ad := aM (Kd.R_elder' Z14 (Kd.R_base Ax) hb); replace Aa := bkB Aa hb; replace Ac := bkB Ac hb; replace HB := hbS Z17 hb; (try clear hb); (try clear hb2); (try clear hk); (try clear hi); (try clear Ax); obtain ⟨D5, D6, Dr⟩ := Kd.R_slice Bc.out
        (first | subst Dr | (injection Dr with f1_ f2_ f3_; have f4_ := f1_.symm; have f5_ := f3_.symm; clear f1_ f2_ f3_; subst f4_; subst f5_))
        refine hK.out _ _ Z60 (fun hHeld => ?_); clear hK K; refine noR 52 ?_; refine one_ (i := 3) (N := some 53) #[true, true, true, true, false] rfl rfl Z35 (by decide) (fun K hK => ?_); refine goes_ Try.func16 Z35 rfl #[.agg #[.int .i64 Am, .int .i64 An, .slice Ba Ak.length Bb], .agg #[.int .i64 C0, .int .i64 C1, .slice D5 C3.length D6]] (by rfl) rfl rfl Z50 ?_; (with_reducible refine (laws_eqChart.calls Aw Am An _ _ Ak C0 C1 _ _ C3 true _ ?side1 ?side2 ?side3 ?side4 Et.out).mono ?_); (case side1 => exact (by repeat (first | exact (Kd.R_reads' Ad.out).2.2 | (with_reducible refine Kd.C_alloc ?_ _) | (with_reducible refine Kd.C_drewN ?_ _) | (with_reducible refine Kd.C_drew ?_)))); (case side2 => exact (Kd.R_reads' Ad.out).2.1); (case side3 => exact (by repeat (first | exact (Kd.R_reads' Bc.out).2.2 | (with_reducible refine Kd.C_alloc ?_ _) | (with_reducible refine Kd.C_drewN ?_ _) | (with_reducible refine Kd.C_drew ?_)))); (case side4 => exact (Kd.R_reads' Bc.out).2.1); rintro e Fg ⟨rfl, hb⟩; refine ⟨_, rfl, ?_⟩; replace Ap := roB Ap hb; replace Ad := roB Ad hb; replace Bc := roB Bc hb; replace Aa := bkB Aa hb; replace Ac := bkB Ac hb; replace HB := hbS Z17 hb; (try clear hb); (try clear hb2); (try clear hk); (try clear hi); refine hK.out _ _ Z60 (fun hHeld => ?_); clear hK K; refine noR 53 ?_; refine puK 4 54 #[true, true, true, true, true] rfl rfl ?_; refine done_ Z35 ?_
        try go_wp2_with (first | ((with_reducible refine gate_callee (f := 28) rfl ?_); refine glE (some 57) Try.func28 #[.slice A2 l2.length c2] ?_; (with_reducible refine (laws_toIntS.calls Aw _ _ l2 Bd _ ?side1 ?side2 Eu.out).mono ?_); (case side1 => exact Z69); (case side2 => exact Dw.out); rintro e Fh ⟨Ey, rfl, Ax, hb⟩; refine ⟨_, rfl, ?_⟩; have Bz := aM (Kd.R_lower (Kd.R_new' (Kd.R_new' (Kd.R_new' Ax (Kd.R_lt Z43)) (Kd.R_lt Z14)) (Kd.R_lt Z108)) (below_size Z17)); replace Ap := aM (Kd.R_elder' Z43 (Kd.R_base Ax) hb); replace Ad := aM (Kd.R_elder' Z14 (Kd.R_base Ax) hb); replace Bc := aM (Kd.R_elder' Z108 (Kd.R_base Ax) hb); replace Aa := bkB Aa hb; replace Ac := bkB Ac hb; replace HB := hbS Z17 hb; (try clear hb); (try clear Ax); obtain ⟨D7, D8, D9⟩ := Kd.R_slice Bz.out; subst D9) | ((with_reducible refine gate_callee (f := 19) rfl ?_); refine glE (some 58) Try.func19 #[.slice Cy Ah.length Cz, .slice D7 Bd.length D8] ?_; (with_reducible refine (laws_eqIntS.calls Aw _ _ Ah _ _ Bd true _ ?side1 ?side2 ?side3 ?side4 Ew.out).mono ?_); (case side1 => exact (by repeat (first | exact (Kd.R_reads' Ap.out).2.2 | (with_reducible refine Kd.C_alloc ?_ _) | (with_reducible refine Kd.C_drewN ?_ _) | (with_reducible refine Kd.C_drew ?_)))); (case side2 => exact (Kd.R_reads' Ap.out).2.1); (case side3 => exact (by repeat (first | exact (Kd.R_reads' Bz.out).2.2 | (with_reducible refine Kd.C_alloc ?_ _) | (with_reducible refine Kd.C_drewN ?_ _) | (with_reducible refine Kd.C_drew ?_)))); (case side4 => exact (Kd.R_reads' Bz.out).2.1); rintro e w' ⟨rfl, ⟨nd, rfl⟩⟩; refine ⟨_, rfl, ?_⟩))
        go_ret
        exact ⟨Z4, Z17⟩
       ·replace Du := Bool.eq_false_iff.mpr Du
        subst Du
        have H1 : (none) = some r := by rw [if_neg (show ¬ (false = true) by decide)] at H; exact H
        clear H; have H := H1; clear H1; exact absurd H (by simp)
      ·replace Dt := Bool.eq_false_iff.mpr Dt
       subst Dt
       have H1 : (none) = some r := by rw [if_neg (show ¬ (false = true) by decide)] at H; exact H
       clear H; have H := H1; clear H1; exact absurd H (by simp)
end Go.Proofs.Ytaadbpibmlnncaa.H
