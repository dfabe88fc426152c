-- by wip/pack.py of this repo
import Derived.Test.YtffgmmfkiecheaaZ01Hx0
import Derived.Test.YtffgmmfkiecheaaZ01Hx1
import Derived.Test.YtffgmmfkiecheaaZ01Hx4
import Derived.Test.YtffgmmfkiecheaaZ01WApart
import Derived.Test.YtffgmmfkiecheaaZ01WKept
import Derived.Test.YtffgmmfkiecheaaZ01WLast
import Derived.Test.YtffgmmfkiecheaaZ01WMore
import Derived.Test.YtffgmmfkiecheaaZ01WWords
import Derived.Test.YtffgmmfkiecheaaZ01Short
namespace Go.Proofs.Ytffgmmfkiecheaa.H
open Go.RowKit Go.Proofs.YtffgmmfkiecheaaW.PrintWords Go.Proofs.YtffgmmfkiecheaaW.PrintLast Go.Proofs.YtffgmmfkiecheaaW.PrintMore
attribute [local go_sem] max2_int min2_int max_two min_two max_three min_three max_four min_four
set_option maxHeartbeats 80000000
set_option maxRecDepth 100000
set_option linter.unusedVariables false
set_option linter.unusedSimpArgs false
def lays_slices_Sort_int_int__ren : Go.Shelf.Ren := ⟨fun | 189 => 68 | 125 => 82 | 257 => 81 | 128 => 96 | 129 => 97 | 294 => 87 | 295 => 88 | 296 => 89 | 297 => 90 | 298 => 91 | 299 => 92 | 216 => 93 | 300 => 94 | 301 => 95 | 328 => 99 | 329 => 100 | 330 => 101 | 331 => 102 | 332 => 103 | 215 => 72 | 343 => 105 | n => n, fun | 28 => 26 | 3 => 3 | 46 => 93 | 0 => 0 | 51 => 107 | 53 => 72 | 4 => 4 | 183 => 100 | 182 => 99 | 131 => 45 | 5 => 5 | 9 => 9 | 218 => 109 | 222 => 113 | 228 => 115 | 229 => 67 | n => n, fun | n => n⟩
theorem lays_slices_Sort_int_int_ : Go.Proofs.Lays.n189 Try.prog lays_slices_Sort_int_int__ren := {
 mixed := by kernel_rfl
 f125 := Try.func82.trans (congrArg some Z6)
 f128 := Try.func96.trans (congrArg some Z6)
 f129 := Try.func97.trans (congrArg some Z6)
 f189 := Try.func68.trans (congrArg some Z6)
 f215 := Try.func72.trans (congrArg some Z6)
 f216 := Try.func93.trans (congrArg some Z6)
 f257 := Try.func81.trans (congrArg some Z6)
 f294 := Try.func87.trans (congrArg some Z6)
 f295 := Try.func88.trans (congrArg some Z6)
 f296 := Try.func89.trans (congrArg some Z6)
 f297 := Try.func90.trans (congrArg some Z6)
 f298 := Try.func91.trans (congrArg some Z6)
 f299 := Try.func92.trans (congrArg some Z6)
 f300 := Try.func94.trans (congrArg some Z6)
 f301 := Try.func95.trans (congrArg some Z6)
 f328 := Try.func99.trans (congrArg some Z6)
 f329 := Try.func100.trans (congrArg some Z6)
 f330 := Try.func101.trans (congrArg some Z6)
 f331 := Try.func102.trans (congrArg some Z6)
 f332 := Try.func103.trans (congrArg some Z6)
 f343 := Try.func105.trans (congrArg some Z6)
 t0 := Try.underlying0
 a0 := Try.isAgg0
 z0 := Try.sizeOf0
 v0 := Try.zeroValue0
 t3 := Try.underlying3
 a3 := Try.isAgg3
 z3 := Try.sizeOf3
 v3 := Try.zeroValue3
 t4 := Try.underlying4
 a4 := Try.isAgg4
 z4 := Try.sizeOf4
 v4 := Try.zeroValue4
 t5 := Try.underlying5
 a5 := Try.isAgg5
 z5 := Try.sizeOf5
 v5 := Try.zeroValue5
 t9 := Try.underlying9
 a9 := Try.isAgg9
 z9 := Try.sizeOf9
 v9 := Try.zeroValue9
 t28 := Try.underlying26
 a28 := Try.isAgg26
 z28 := Try.sizeOf26
 v28 := Try.zeroValue26
 t46 := Try.underlying93
 a46 := Try.isAgg93
 z46 := Try.sizeOf93
 v46 := Try.zeroValue93
 t51 := Try.underlying107
 a51 := Try.isAgg107
 z51 := Try.sizeOf107
 v51 := Try.zeroValue107
 t53 := Try.underlying72
 a53 := Try.isAgg72
 z53 := Try.sizeOf72
 v53 := Try.zeroValue72
 t131 := Try.underlying45
 a131 := Try.isAgg45
 z131 := Try.sizeOf45
 v131 := Try.zeroValue45
 t182 := Try.underlying99
 a182 := Try.isAgg99
 z182 := Try.sizeOf99
 v182 := Try.zeroValue99
 t183 := Try.underlying100
 a183 := Try.isAgg100
 z183 := Try.sizeOf100
 v183 := Try.zeroValue100
 t218 := Try.underlying109
 a218 := Try.isAgg109
 z218 := Try.sizeOf109
 v218 := Try.zeroValue109
 t222 := Try.underlying113
 a222 := Try.isAgg113
 z222 := Try.sizeOf113
 v222 := Try.zeroValue113
 t228 := Try.underlying115
 a228 := Try.isAgg115
 z228 := Try.sizeOf115
 v228 := Try.zeroValue115
 t229 := Try.underlying67
 a229 := Try.isAgg67
 z229 := Try.sizeOf67
 v229 := Try.zeroValue67 }
theorem srt_grow {w : World} {os : Array Obj} {k : Nat} (hk : k < w.heap.size) : (Sort.grow w os).heap[k]? = w.heap[k]? := by
 unfold Sort.grow
 exact Array.getElem?_append_left hk
theorem srt_put {w : World} {e base g n cap : Nat} {ok : Nat → Prop} {xs ys : List Int} (h : Kd.R (Kd.int .i64) e w base ok (.slice (some ⟨g, 0, none⟩) n cap) xs) (hl : ys.length = n) (q : Nat) (os : Array Obj) :
  Kd.R (Kd.int .i64) e (Sort.grow ((w.drewN q).setCells g 0 (ys.map (Value.int .i64))) os) base ok (.slice (some ⟨g, 0, none⟩) n cap) ys ∧ w.grownBy (Sort.grow ((w.drewN q).setCells g 0 (ys.map (Value.int .i64))) os) (some g) := by
 obtain ⟨hok, inner, ⟨Ab, Aa⟩, hr⟩ := h
 rcases Aa with ⟨hv, _⟩ | ⟨g', cap', cur, hv, hb, hh, hnc, hcm, hcs, ht⟩
 ·cases hv
 injection hv with ha hn hc; injection ha with ha; injection ha with hg; subst hg; subst hc
 have hgs : g < w.heap.size := by
  rcases Nat.lt_or_ge g w.heap.size with hlt | hge
  ·exact hlt
  ·rw [Array.getElem?_eq_none hge] at hh; cases hh
 have hh' : (w.drewN q).heap[g]? = some (.cells cur e (0, 0)) := hh
 have hcz : cur.size = cap := by rw [hcs]; exact Nat.mul_one _
 obtain ⟨cur', h3, h4, h5⟩ := setCells_row (ys.map (Value.int .i64)) 0 (w.drewN q) cur hh' (by rw [List.length_map]; omega); obtain ⟨s1, s2, s3, s4⟩ := setCells_same g (ys.map (Value.int .i64)) 0 (w.drewN q); have s5 : ((w.drewN q).setCells g 0 (ys.map (Value.int .i64))).heap.size = w.heap.size := s4
 have ht' : cur'.toList.take n = ys.map (Value.int .i64) := by
  rw [h5, List.take_zero, List.nil_append]
  exact List.take_left' (by rw [List.length_map]; exact hl)
 refine ⟨⟨hok, ys.map (Value.int .i64), ⟨?_, .inr ⟨g, cap, cur', ?_, hb, ?_, ?_, hcm, ?_, ?_⟩⟩, ?_, ?_⟩, ⟨s1, s2, s3, ?_, fun k hk hne => ?_⟩⟩
 ·rw [List.length_map]; exact (Nat.mul_one _).symm
 ·rw [hl]
 ·rw [srt_grow (by rw [s5]; exact hgs)]; exact h3
 ·omega
 ·rw [h4, hcs]
 ·rw [hl, show n * (Kd.int .i64).sz = n from Nat.mul_one _]; exact ht'
 ·rw [List.length_map]; exact (Nat.mul_one _).symm
 ·intro m p hp
  have hm : m < ys.length := by
   rcases Nat.lt_or_ge m ys.length with h | h
   ·exact h
   ·rw [List.getElem?_eq_none h] at hp; cases hp
  rw [List.getElem?_eq_getElem hm] at hp; rw [← Option.some.inj hp, show (Kd.int .i64).sz = 1 from rfl, Nat.mul_one, ← List.map_drop, ← List.map_take, List.drop_eq_getElem_cons hm]
  rfl
 ·unfold Sort.grow
  rw [Array.size_append, s5]
  exact Nat.le_add_right _ _
 ·rw [srt_grow (by rw [s5]; exact hk)]
  exact setCells_far _ 0 k (fun e => hne (by rw [e]))
theorem srt_holds {w : World} {e base g n cap : Nat} {ok : Nat → Prop} {xs : List Int} (h : Kd.R (Kd.int .i64) e w base ok (.slice (some ⟨g, 0, none⟩) n cap) xs) : Sort.Holds (Value.int .i64) w g 0 xs.toArray ∧ xs.length = n ∧ n ≤ cap ∧ g < w.heap.size := by
 obtain ⟨hn, hnc, _⟩ := Kd.R_reads' h; obtain ⟨_, inner, ho, hr⟩ := h; refine ⟨fun j hj => ?_, hn.symm, hnc, ?_⟩
 ·have hj' : j < xs.length := by simpa using hj
  have hx := ho.cells (g := g) (by simp [Value.ownBlock]); obtain ⟨cells, hc⟩ := own_typed ho g (by simp [Value.ownBlock]); have hm := hr.2 j _ (List.getElem?_eq_getElem hj')
  have hsz : inner.length = xs.length := by rw [hr.1]; exact Nat.mul_one _
  have hin : inner[j]? = some (.int .i64 xs[j]) := by
   have e1 : (inner.drop (j * (Kd.int .i64).sz)).take (Kd.int .i64).sz = [inner[j]'(by omega)] := by
    rw [show (Kd.int .i64).sz = 1 from rfl, Nat.mul_one, List.drop_eq_getElem_cons (by omega)]
    rfl
   rw [e1] at hm; have hm2 : [inner[j]'(by omega)] = [Value.int .i64 xs[j]] := hm; rw [List.getElem?_eq_getElem (by omega)]; injection hm2 with hm3; rw [hm3]
  refine ⟨?_, ?_⟩
  ·have := hx j _ hin
   rw [add_plain] at this; rw [Nat.zero_add]; rw [this]
   simp [hj']
  ·exact blk_frozen hc _
 ·obtain ⟨cells, hc⟩ := own_typed ho g (by simp [Value.ownBlock])
  rcases Nat.lt_or_ge g w.heap.size with hlt | hge
  ·exact hlt
  ·rw [Array.getElem?_eq_none hge] at hc; cases hc
def slices_Sort_int.f (l0 : List Int) : Option (List Int) := if l0.length < 1000000000000 then some (l0.mergeSort fun x y => decide (x ≤ y)) else none
set_option maxHeartbeats 4000000 in
theorem slices_Sort_int.calls (P0_ : Nat → Prop) (u9000_ : Value) (l0 : List Int) (r : List Int) (w0 w : World) (hB : Below w0.heap.size w0 w) (Aa : Kd.R (Kd.int .i64) 3 w w0.heap.size P0_ u9000_ l0) (h : slices_Sort_int.f l0 = some r) :
  Calls Try.prog 68 #[u9000_] w fun e w' => e = .returned (.tuple #[]) ∧ Kd.R (Kd.int .i64) 3 w' w0.heap.size (fun k_ => (P0_ k_ ∨ w.heap.size ≤ k_)) u9000_ r ∧ Below w0.heap.size w0 w' ∧ Kept w w' (fun k_ => P0_ k_) := by
 unfold slices_Sort_int.f at h
 by_cases hq : l0.length < 1000000000000
 case neg => rw [if_neg hq] at h; cases h
 rw [if_pos hq] at h; obtain rfl := Option.some.inj h
 by_cases hp : 0 < l0.length
 ·obtain ⟨g, cap, rfl, hge, hgl, _⟩ := Kd.R_form Aa hp
  obtain ⟨hH, _, hnc, hg⟩ := srt_holds Aa; have hl : (l0.mergeSort fun x y => decide (x ≤ y)).length = l0.length := List.length_mergeSort _; have hcall : Calls Try.prog 68 #[.slice (some ⟨g, 0, none⟩) l0.length cap] w _ := Any.slices_Sort_int lays_slices_Sort_int_int_ g 0 cap l0 w hH hg (by omega); refine hcall.mono ?_; rintro e w' ⟨rfl, q, os, rfl⟩; have hH' : Sort.Holds (Value.int .i64) w g 0 l0.toArray := hH; rw [Lib.putRow_eq_setCells (Value.int .i64) w g 0 l0.toArray (l0.mergeSort fun x y => decide (x ≤ y)) q hH' (by rw [hl]; simp)]; obtain ⟨hR, hG⟩ := srt_put Aa hl q os
  exact ⟨rfl, Kd.R_mono hR (fun k_ hk => .inl hk), hB.grown hG hB.size (fun k hk => Z58), Kept.of_grown (S := fun k_ => P0_ k_) hG (Kept.refl w _) (fun k_ e_ => .inl (Aa.1 k_ e_))⟩
 ·have hn : l0 = [] := List.eq_nil_of_length_eq_zero (by omega)
  subst hn; obtain ⟨A, c, rfl⟩ := Kd.R_slice Aa; have hcall : Calls Try.prog 68 #[.slice A 0 c] w _ := Any.slices_Sort_int_none lays_slices_Sort_int_int_ A c w; refine hcall.mono ?_; rintro e w' ⟨rfl, rfl⟩; refine ⟨rfl, ?_, hB, Kept.refl _ _⟩; rw [List.mergeSort_nil]
  exact Kd.R_mono Aa (fun k_ hk => .inl hk)
def lays_slices_Compact_int_int__ren : Go.Shelf.Ren := ⟨fun | 20 => 69 | n => n, fun | 22 => 26 | 3 => 3 | 4 => 4 | 0 => 0 | n => n, fun | n => n⟩
theorem lays_slices_Compact_int_int_ : Go.Proofs.Lays2.n20 Try.prog lays_slices_Compact_int_int__ren := {
 mixed := by kernel_rfl
 f20 := Try.func69.trans (congrArg some Z6)
 t0 := Try.underlying0
 a0 := Try.isAgg0
 z0 := Try.sizeOf0
 v0 := Try.zeroValue0
 t3 := Try.underlying3
 a3 := Try.isAgg3
 z3 := Try.sizeOf3
 v3 := Try.zeroValue3
 t4 := Try.underlying4
 a4 := Try.isAgg4
 z4 := Try.sizeOf4
 v4 := Try.zeroValue4
 t22 := Try.underlying26
 a22 := Try.isAgg26
 z22 := Try.sizeOf26
 v22 := Try.zeroValue26
 i3 := Z6}
def slices_Compact_int.f (l0 : List Int) : Option (List Int) := if l0.length < 1000000000000 then some (Lib.compact l0) else none
set_option maxHeartbeats 4000000 in
theorem slices_Compact_int.calls (P0_ : Nat → Prop) (u9000_ : Value) (l0 : List Int) (r : List Int) (w0 w : World) (hB : Below w0.heap.size w0 w) (Aa : Kd.R (Kd.int .i64) 3 w w0.heap.size P0_ u9000_ l0) (h : slices_Compact_int.f l0 = some r) :
  Calls Try.prog 69 #[u9000_] w fun e w' => ∃ v0_ : Value, e = .returned (v0_) ∧ Kd.R (Kd.int .i64) 3 w' w0.heap.size (fun k_ => (P0_ k_ ∨ w.heap.size ≤ k_)) v0_ r ∧ Below w0.heap.size w0 w' ∧ Kept w w' (fun k_ => P0_ k_) := by
 unfold slices_Compact_int.f at h
 by_cases hq : l0.length < 1000000000000
 case neg => rw [if_neg hq] at h; cases h
 rw [if_pos hq] at h; obtain rfl := Option.some.inj h
 by_cases hp : 0 < l0.length
 ·obtain ⟨g, cap, rfl, hge, hgl, _⟩ := Kd.R_form Aa hp
  obtain ⟨hH, _, hnc, hg⟩ := srt_holds Aa; have hle := Lib.compact_length_le l0; have hcall : Calls Try.prog 69 #[.slice (some ⟨g, 0, none⟩) l0.length cap] w _ := Any.slices_Compact_int lays_slices_Compact_int_int_ g 0 cap l0 w hH (by omega) hnc; refine hcall.mono ?_; rintro e w' ⟨rfl, q, rfl⟩
  have hl : (Lib.compact l0 ++ List.replicate (l0.length - (Lib.compact l0).length) 0).length = l0.length := by simp; omega
  rw [Lib.putRow_eq_setCells (Value.int .i64) w g 0 l0.toArray _ q hH (by rw [hl]; simp)]; obtain ⟨hR, hG⟩ := srt_put Aa hl q #[]
  have e0 : Sort.grow ((w.drewN q).setCells g 0 ((Lib.compact l0 ++ List.replicate (l0.length - (Lib.compact l0).length) 0).map (Value.int .i64))) #[] = (w.drewN q).setCells g 0 ((Lib.compact l0 ++ List.replicate (l0.length - (Lib.compact l0).length) 0).map (Value.int .i64)) := by unfold Sort.grow; simp
  rw [e0] at hR hG; have hT := Kd.R_take hR (m := (Lib.compact l0).length) (by rw [hl]; exact hle); rw [List.take_left' rfl] at hT
  exact ⟨_, rfl, Kd.R_mono hT (fun k_ hk => .inl hk), hB.grown hG hB.size (fun k hk => Z58), Kept.of_grown (S := fun k_ => P0_ k_) hG (Kept.refl w _) (fun k_ e_ => .inl (Aa.1 k_ e_))⟩
 ·have hn : l0 = [] := List.eq_nil_of_length_eq_zero (by omega)
  subst hn; obtain ⟨A, c, rfl⟩ := Kd.R_slice Aa; have hcall : Calls Try.prog 69 #[.slice A 0 c] w _ := Any.slices_Compact_int_empty lays_slices_Compact_int_int_ A c w; refine hcall.mono ?_; rintro e w' ⟨rfl, rfl⟩
  exact ⟨_, rfl, Kd.R_mono Aa (fun k_ hk => .inl hk), hB, Kept.refl _ _⟩
def impl_weaversOf.l0 : Nat → List Int → List (S48) → Int → Int → Option (List Int)
 | 0, _, _, _, _ => none
 | k + 1, x3, x7, x8, x9 => if x9 < x8 then (if 0 ≤ x9 then (if x9 < (x7.length : Int) then (if x3.length < 17592186044416 then (impl_weaversOf.l0 k (x3 ++ [(rd_T48 x7 x9).f0]) x7 x8 (wrap64 (x9 + 1))) else (none)) else (none)) else (none)) else ((slices_Sort_int.f x3).bind fun t210 => ((slices_Compact_int.f t210).bind fun t211 => (some t211)))
def impl_weaversOf.f (k : Nat) (l0 : List (S48)) : Option (List Int) := impl_weaversOf.l0 k (([] : List Int)) l0 (l0.length : Int) 0
theorem impl_weaversOf.calls (k : Nat) (A0 : Option Addr) (c0 : Nat) (l0 : List (S48)) (r : List Int) (w : World) (Bq : Kd.C k48 w A0 l0.length l0) (Br : l0.length ≤ c0) (h : impl_weaversOf.f k l0 = some r) :
  Calls Try.prog 40 #[.slice A0 l0.length c0] w fun e w' => ∃ v0_ : Value, e = .returned (v0_) ∧ Kd.R (Kd.int .i64) 3 w' w.heap.size (fun _ => True) v0_ r ∧ Below w.heap.size w w' := by
 have hu48 := Try.underlying48; have Bv := Aside0.mk Bq; have B2 := Aside0.mk Br; clear Bq Br; have HB := aM (Below.refl w.heap.size w); have H : (impl_weaversOf.l0 k (([] : List Int)) l0 (l0.length : Int) 0) = some r := h; clear h; obtain ⟨Aw, Ak⟩ : ∃ y_ : List Int, y_ = (([] : List Int)) := ⟨_, rfl⟩
 replace H : (impl_weaversOf.l0 k Aw l0 (l0.length : Int) 0) = some r := by first | (rw [Ak]; with_reducible exact H) | (have H2_ := (Option.bind_some _ _).symm.trans H; rw [Ak]; with_reducible exact H2_) | (have H2_ := (Option.bind_some _ _).symm.trans H; with_reducible exact H2_) | with_reducible exact H | (rw [Ak]; exact H) | exact H
 have Aq := Aside0.mk Ak; clear Ak; have H' := Aside0.mk H; clear H
 go_enter Try.func40, Try.ntmps40
 go_wp2_with (first | ((with_reducible refine gate_dst (N := 6) rfl ?_); refine Kd.R_lit (Kd.int .i64) _ 3 ?hg (N := 6) ?hd (xs := ([] : List Int)) (inner := []) (ok := fun _ => True) (okp := fun _ => True) ?hr ?hp (fun _ hk => hk) trivial (Below.refl _ _) (Nat.le_refl _) (by simp) ?_; (case hd => rfl); (case hg => rfl); (case hr => first | (go_simp; done) | (go_simp; rfl)); (case hp => exact (Reps.none _ _)); intro Bw w2 Ax hb hg_ hnew_; clear hg_ hnew_; (first | rw [← Aq.out] at Ax | (simp only [Int.reduceToNat] at Ax; rw [← Aq.out] at Ax)); have Ay := aM (Kd.R_lower Ax (below_size Z0)); replace HB := hbS Z0 hb; clear hb Ax))
 go_loopg [3, 9] k (fun kq v3 v9 w' => ∃ (Ab : List Int) (Aa : Int), v9 = .int .i64 Aa ∧ Aside0 (impl_weaversOf.l0 kq Ab l0 (l0.length : Int) Aa = some r) ∧ Aside0 (kq ≤ k) ∧ Aside0 (Kd.R (Kd.int .i64) 3 w' w.heap.size (fun _ => True) v3 Ab) ∧ Aside0 (Below w.heap.size w w'))
 case atStart => exact ⟨(Aw), (0), Z3, H', ⟨Nat.le_refl _⟩, ⟨Z48⟩, ⟨Z0⟩⟩
 case round =>
  clear H'; (try clear p2); obtain ⟨Ab, Aa, rfl, HA, HK1, Ac, HB⟩ := hrel; cases gk with
  | zero => exact absurd HA.out (by simp [impl_weaversOf.l0])
  | succ k1 =>
   have H := HA.out; clear HA
   simp only [impl_weaversOf.l0] at H
   by_cases c4 : Aa < (l0.length : Int)
   ·rw [if_pos c4] at H
    have c4b0 : decide (Aa < (l0.length : Int)) = true := decide_eq_true c4; clear c4
    by_cases c5 : 0 ≤ Aa
    ·rw [if_pos c5] at H
     have c5b0 : decide (0 ≤ Aa) = true := decide_eq_true c5; clear c5
     by_cases c6 : Aa < (l0.length : Int)
     ·rw [if_pos c6] at H
      have c6b0 : decide (Aa < (l0.length : Int)) = true := decide_eq_true c6; clear c6
      by_cases c7 : Ab.length < 17592186044416
      ·rw [if_pos c7] at H
       have LMc7 := Aside0.mk c7; clear c7; obtain ⟨Az, Al⟩ : ∃ y_ : List Int, y_ = (Ab ++ [(rd_T48 l0 Aa).f0]) := ⟨_, rfl⟩
       replace H : (impl_weaversOf.l0 k1 Az l0 (l0.length : Int) (wrap64 (Aa + 1))) = some r := by first | (rw [Al]; with_reducible exact H) | (have H2_ := (Option.bind_some _ _).symm.trans H; rw [Al]; with_reducible exact H2_) | (have H2_ := (Option.bind_some _ _).symm.trans H; with_reducible exact H2_) | with_reducible exact H | (rw [Al]; exact H) | exact H
       have A3 := Aside0.mk Al; clear Al; have H' := Aside0.mk H; clear H; have Ar : 0 ≤ (Aa : Int) := of_decide_eq_true Z2; have Au : Aa < (l0.length : Int) := of_decide_eq_true Z2; obtain ⟨ad205, e205, Af, Ag, Ah, Ai, Aj⟩ := at_T48 Bv.out Aa Ar Au; cases e205; replace Af := (HB.out.cell (World.block_lt_of_cell? w _ Af)).trans Af; replace Ag := (HB.out.cell (World.block_lt_of_cell? w _ Ag)).trans Ag; replace Ah := (HB.out.cell (World.block_lt_of_cell? w _ Ah)).trans Ah; replace Ai := (HB.out.cell (World.block_lt_of_cell? w _ Ai)).trans Ai; replace Aj := (HB.out.cell (World.block_lt_of_cell? w _ Aj)).trans Aj; replace Ar := eq_true Ar; replace Au := eq_true Au
       go_wp2_with (first | ((with_reducible refine gate_dst (N := 5) rfl ?_); refine bxE 5 #[.int .i64 0, .int .i64 0, .int .i64 0, .int .i64 0, .int .i64 0] 48 ?_; intro Ad hg w8 hbox hb; replace Ac := roB Ac hb; have Ae := aM (hbox); have Bs := gwS hg Z0; have Ao := gwS hg Z0; replace HB := hbS Z0 hb; clear hb hbox hg; obtain ⟨Bf, Bg, Bh, Bi, Bj⟩ := bz5 Ae; obtain ⟨Bk, Bl, Bm, Bn, Bo⟩ := fz5 Ae) | ((with_reducible refine gate_builtin (b := .append) (xs := #[.tmp 13, .tmp 16]) rfl ?_); at_builtin; refine Kd.R_append (Kd.int .i64) (w0 := w) w.heap.size rfl (.tmp 13) (.tmp 16) 26 3 (.int .i64 0) 8 rfl Try.underlying26 info3 rfl (by decide) (by omega) u3 Ab ((rd_T48 l0 Aa).f0) [.int .i64 ((rd_T48 l0 Aa).f0)] (fun _ => True) (fun _ => False) rfl (by first | (go_simp; done) | (go_simp; rfl)) ?aP (fun _ hk => hk.elim) ?aF ?aO ?aB ?aS ?aL ?_; (case aP => exact rfl); (case aB => exact Z28); (case aF => exact (fun _ _ => trivial)); (case aO => exact (by (with_reducible repeat (first | apply Kd.R_alloc | apply Kd.R_drewN | apply Kd.R_drew)); exact Kd.R_mono (Kd.R_far (p := ⟨Ad, 4, none⟩) (Kd.R_far (p := ⟨Ad, 3, none⟩) (Kd.R_far (p := ⟨Ad, 2, none⟩) (Kd.R_far (p := ⟨Ad, 1, none⟩) (Kd.R_far (p := ⟨Ad, 0, none⟩) (Kd.R_types Ac.out Ae.out (by decide)) (fun _ hk => hk.2) (.int .i64 ((rd_T48 l0 Aa).f0))) (fun _ hk => hk.2) (.int .i64 ((rd_T48 l0 Aa).f1))) (fun _ hk => hk.2) (.int .i64 ((rd_T48 l0 Aa).f2))) (fun _ hk => hk.2) (.int .i64 ((rd_T48 l0 Aa).f3))) (fun _ hk => hk.2) (.int .i64 ((rd_T48 l0 Aa).f4))) (fun _ hk => trivial))); (case aS => exact (below_size Z28)); (case aL => have := LMc7.out; omega); intro Bx B3 ho hb hg hat; rw [← A3.out] at ho; replace Ae := aM (blk_grown (g := Ad) (o := .cells #[.int .i64 ((rd_T48 l0 Aa).f0), .int .i64 ((rd_T48 l0 Aa).f1), .int .i64 ((rd_T48 l0 Aa).f2), .int .i64 ((rd_T48 l0 Aa).f3), .int .i64 ((rd_T48 l0 Aa).f4)] 48 (0, 0)) (by (with_reducible repeat (first | refine blk_drewN ?_ _ | refine blk_drew ?_ | refine blk_alloc ?_ _)); refine blk_put (cs := #[.int .i64 ((rd_T48 l0 Aa).f0), .int .i64 ((rd_T48 l0 Aa).f1), .int .i64 ((rd_T48 l0 Aa).f2), .int .i64 ((rd_T48 l0 Aa).f3), .int .i64 0]) ?_ 4 _ rfl; (with_reducible repeat (first | refine blk_drewN ?_ _ | refine blk_drew ?_ | refine blk_alloc ?_ _)); refine blk_put (cs := #[.int .i64 ((rd_T48 l0 Aa).f0), .int .i64 ((rd_T48 l0 Aa).f1), .int .i64 ((rd_T48 l0 Aa).f2), .int .i64 0, .int .i64 0]) ?_ 3 _ rfl; (with_reducible repeat (first | refine blk_drewN ?_ _ | refine blk_drew ?_ | refine blk_alloc ?_ _)); refine blk_put (cs := #[.int .i64 ((rd_T48 l0 Aa).f0), .int .i64 ((rd_T48 l0 Aa).f1), .int .i64 0, .int .i64 0, .int .i64 0]) ?_ 2 _ rfl; (with_reducible repeat (first | refine blk_drewN ?_ _ | refine blk_drew ?_ | refine blk_alloc ?_ _)); refine blk_put (cs := #[.int .i64 ((rd_T48 l0 Aa).f0), .int .i64 0, .int .i64 0, .int .i64 0, .int .i64 0]) ?_ 1 _ rfl; (with_reducible repeat (first | refine blk_drewN ?_ _ | refine blk_drew ?_ | refine blk_alloc ?_ _)); refine blk_put (cs := #[.int .i64 0, .int .i64 0, .int .i64 0, .int .i64 0, .int .i64 0]) ?_ 0 _ rfl; (with_reducible repeat (first | refine blk_drewN ?_ _ | refine blk_drew ?_ | refine blk_alloc ?_ _)); exact Ae.out) hg (Kd.R_ne Ac.out Ae.out (by decide))); replace HB := aM (hb); have Ba := aM (ho); clear Ac; clear ho hb hg hat))
       go_roundg k1
       case measure => have := HK1.out; omega
       case rel => exact ⟨(Az), (wrap64 (Aa + 1)), Z3, H', ⟨Z39⟩, ⟨by (with_reducible repeat (first | apply Kd.R_alloc | apply Kd.R_drewN | apply Kd.R_drew)); exact Ba.out⟩, ⟨Z28⟩⟩
      ·rw [if_neg c7] at H
       exact absurd H (by simp)
     ·rw [if_neg c6] at H
      exact absurd H (by simp)
    ·rw [if_neg c5] at H
     exact absurd H (by simp)
   ·rw [if_neg c4] at H
    have c4b0 : decide (Aa < (l0.length : Int)) = false := decide_eq_false c4; clear c4; replace H := Option.bind_eq_some_iff.mp H; obtain ⟨Av, Bb, H⟩ := H; replace H : ((slices_Compact_int.f Av).bind fun Ap => (some Ap)) = some r := H; have Bz := Aside0.mk Bb; clear Bb; replace H := Option.bind_eq_some_iff.mp H; obtain ⟨Ap, Bc, H⟩ := H; replace H : (some Ap) = some r := H; have B0 := Aside0.mk Bc; clear Bc; obtain rfl := Option.some.inj H; obtain ⟨Am, An, Bp⟩ := Kd.R_slice Ac.out; subst Bp
    go_wp2_with (first | ((with_reducible refine gate_callee (f := 68) rfl ?_); refine glE (some 20) Try.func68 #[.slice Am Ab.length An] ?_; (with_reducible refine (slices_Sort_int.calls (fun k_ => some k_ = (.slice Am Ab.length An : Value).ownBlock) (.slice Am Ab.length An) Ab Av w _ ?side1 ?side2 Bz.out).mono ?_); (case side1 => exact Z0); (case side2 => exact Kd.R_tight rfl Ac.out); rintro e B5 ⟨rfl, Bt, hb, hkp⟩; refine ⟨_, rfl, ?_⟩; replace Ac := aM (Kd.R_reok rfl Bt (fun k_ e_ => Ac.out.1 k_ e_)); replace HB := aM (hb); (try clear hb); (try clear hkp); (try clear Bt)) | ((with_reducible refine gate_callee (f := 69) rfl ?_); refine glE (some 22) Try.func69 #[.slice Am Ab.length An] ?_; (with_reducible refine (slices_Compact_int.calls (fun k_ => some k_ = (.slice Am Ab.length An : Value).ownBlock) (.slice Am Ab.length An) Av Ap w _ ?side1 ?side2 B0.out).mono ?_); (case side1 => exact Z0); (case side2 => exact Kd.R_tight rfl Ac.out); rintro e B7 ⟨B1, rfl, Bu, hb, hkp⟩; refine ⟨_, rfl, ?_⟩; have Bd := aM (Kd.R_mono (ok' := fun k_ => True) Bu (fun k_ hk_ => trivial)); replace HB := aM (hb); clear Ac; (try clear hb); (try clear hkp); (try clear Bu)))
    go_ret
    exact ⟨_, Z4, by (with_reducible repeat (first | apply Kd.R_alloc | apply Kd.R_drewN | apply Kd.R_drew)); exact Bd.out, Z0⟩
def lays_slices_insertionSortCmpFunc_int__ren : Go.Shelf.Ren := ⟨fun | 20 => 83 | n => n, fun | 24 => 3 | 22 => 26 | 3 => 3 | 25 => 70 | 4 => 4 | 0 => 0 | n => n, fun | n => n⟩
theorem lays_slices_insertionSortCmpFunc_int_ : Go.Proofs.SlLaysF.n20 Try.prog lays_slices_insertionSortCmpFunc_int__ren := {
 mixed := by kernel_rfl
 f20 := ⟨Try.f83.name, by decide, Try.func83.trans (congrArg some Z6)⟩
 t0 := Try.underlying0
 a0 := Try.isAgg0
 z0 := Try.sizeOf0
 v0 := Try.zeroValue0
 t3 := Try.underlying3
 a3 := Try.isAgg3
 z3 := Try.sizeOf3
 v3 := Try.zeroValue3
 t4 := Try.underlying4
 a4 := Try.isAgg4
 z4 := Try.sizeOf4
 v4 := Try.zeroValue4
 t22 := Try.underlying26
 a22 := Try.isAgg26
 z22 := Try.sizeOf26
 v22 := Try.zeroValue26
 a24 := Try.isAgg3
 z24 := Try.sizeOf3
 t25 := Try.underlying70
 a25 := Try.isAgg70
 z25 := Try.sizeOf70
 v25 := Try.zeroValue70 }
def Grw (w w' : World) : Prop := ∃ (q : Nat) (os : Array Obj), w' = Go.Sort.grow (w.drewN q) os
theorem Grw.refl (w : World) : Grw w w := ⟨0, #[], by simp [Go.Sort.grow, World.drewN]⟩
theorem Grw.alloc {w W : World} (h : Grw w W) (o : Obj) : Grw w (W.alloc o) := by
 obtain ⟨q, os, rfl⟩ := h
 exact ⟨q, os ++ #[o], by rw [Go.Sort.alloc_eq_grow, Go.Sort.grow_grow]⟩
theorem Grw.drewN {w W : World} (h : Grw w W) (n : Nat) : Grw w (W.drewN n) := by
 obtain ⟨q, os, rfl⟩ := h
 exact ⟨q + n, os, by simp [Go.Sort.grow, World.drewN, Nat.add_assoc]⟩
theorem Grw.drew {w W : World} (h : Grw w W) : Grw w W.drew := h.drewN 1
theorem Grw.trans {w W W2 : World} (h : Grw w W) (k : Grw W W2) : Grw w W2 := by
 obtain ⟨q, os, rfl⟩ := h; obtain ⟨q2, os2, rfl⟩ := k
 exact ⟨q + q2, os ++ os2, by simp [Go.Sort.grow, World.drewN, Nat.add_assoc, Array.append_assoc]⟩
theorem Grw.below {w W : World} (h : Grw w W) : Below w.heap.size w W := by
 obtain ⟨q, os, rfl⟩ := h
 exact ⟨rfl, rfl, rfl, by simp [Go.Sort.grow, World.drewN], fun k hk => by simp [Go.Sort.grow, World.drewN, Array.getElem?_append_left hk]⟩
theorem Grw.drawn {w W : World} (h : Drawn0 w W) : Grw w W := by
 obtain ⟨n, rfl⟩ := h.out
 exact (Grw.refl w).drewN n
def talF (a : Int) (p : Int × Int) (s : S48) : Int × Int := if s.f0 = a then (wrap64 (p.1 + s.f2), wrap64 (p.2 + s.f3)) else p
def talV (xs : List S48) (a : Int) : Int × Int := xs.foldl (talF a) (0, 0)
def talK (xs : List S48) (a : Int) : Int := max (talV xs a).1 1
theorem tal_step (a : Int) (xs : List S48) (x : Int) (h0 : 0 ≤ x) (h1 : x < (xs.length : Int)) : (xs.take (x + 1).toNat).foldl (talF a) (0, 0) = talF a ((xs.take x.toNat).foldl (talF a) (0, 0)) (rd_T48 xs x) := by
 have e : (x + 1).toNat = x.toNat + 1 := by omega
 rw [e, List.take_succ_eq_append_getElem (by omega), List.foldl_append]
 show talF a _ _ = _
 congr 1
 unfold rd_T48
 rw [List.getD_eq_getElem?_getD, List.getElem?_eq_getElem (by omega)]
 rfl
set_option maxHeartbeats 4000000 in
set_option maxRecDepth 100000 in
theorem tally_grw (A : Option Addr) (c : Nat) (xs : List S48) (a : Int) (w : World) (hr : Kd.C k48 w A xs.length xs) :
  Calls Try.prog 45 #[.slice A xs.length c, .int .i64 a] w fun e w' => e = .returned (.tuple #[.int .i64 (talK xs a), .int .i64 (talV xs a).2]) ∧ Grw w w' := by
 have hu_ := Try.underlying48; have hlen := Aside0.mk hr.2.1; have HR := Aside0.mk hr; clear hr
 go_enter Try.func45, Try.ntmps45
 go_wp2
 go_loopg [6, 7, 12] xs.length (fun gg s6 s7 Aa wr => ∃ (p q x : Int), s6 = .int .i64 p ∧ s7 = .int .i64 q ∧ Aa = .int .i64 x ∧ Aside0 (0 ≤ x ∧ x ≤ (xs.length : Int) ∧ (xs.length : Int) - x ≤ gg) ∧ Aside0 (Grw w wr) ∧ Aside0 ((p, q) = (xs.take x.toNat).foldl (talF a) (0, 0)))
 case atStart => exact ⟨0, 0, 0, rfl, rfl, rfl, ⟨by omega, by omega, by omega⟩, ⟨Grw.refl _⟩, ⟨rfl⟩⟩
 case round =>
  obtain ⟨p, q, x, rfl, rfl, rfl, HX, BW, HP⟩ := hrel
  by_cases hlt : x < (xs.length : Int)
  ·have c0 : decide (x < (xs.length : Int)) = true := decide_eq_true hlt
   obtain ⟨ad, e0, Ab, Ac, Ad, Ae, Af⟩ := at_T48 (Kd.C_below HR.out BW.out.below) x HX.out.1 hlt; cases e0; have p0 := eq_true HX.out.1; have p1 := eq_true hlt; have HL := Aside0.mk hlt; have HS := aM (tal_step a xs x HX.out.1 hlt)
   have hw1 : wrap64 (x + 1) = x + 1 := by have := HX.out; have := hlen.out; unfold wrap64; omega
   clear hlt
   by_cases hc : (rd_T48 xs x).f0 = a
   ·have d0 : ((rd_T48 xs x).f0 == a) = true := beq_iff_eq.2 hc
    have HC := Aside0.mk hc; clear hc
    go_wp2
    go_roundg (xs.length - (x.toNat + 1))
    case measure => have := HX.out; have := HL.out; omega
    case rel =>
     refine ⟨_, _, x + 1, rfl, rfl, Z47, ⟨Z60, Z56, Z53⟩, ⟨by first | exact BW.out.alloc _⟩, ⟨?_⟩⟩; rw [HS.out, ← HP.out]
     unfold talF
     rw [if_pos HC.out]
     first | rfl | trace_state
   ·have d0 : ((rd_T48 xs x).f0 == a) = false := beq_eq_false_iff_ne.2 hc
    have HC := Aside0.mk hc; clear hc
    go_wp2
    go_roundg (xs.length - (x.toNat + 1))
    case measure => have := HX.out; have := HL.out; omega
    case rel =>
     refine ⟨_, _, x + 1, rfl, rfl, Z47, ⟨Z60, Z56, Z53⟩, ⟨by first | exact BW.out.alloc _⟩, ⟨?_⟩⟩; rw [HS.out, ← HP.out]
     unfold talF
     rw [if_neg HC.out]
  ·have c0 : decide (x < (xs.length : Int)) = false := decide_eq_false hlt
   have HL := Aside0.mk hlt; clear hlt; have e : (xs.take x.toNat) = xs := List.take_of_length_le Z56; have hv : Aside0 ((p, q) = talV xs a) := ⟨by rw [HP.out, e]; rfl⟩; clear e
   go_wp2
   all_goals
    go_ret2
    refine ⟨?_, BW.out⟩
    unfold talK
    rw [← hv.out]
    first | rfl | (simp; omega) | (simp only []; congr 3; omega) | (simp [Int.max_def]; omega) | trace_state
def cmpI (a b : Int) : Int := if a < b then -1 else if b < a then 1 else 0
def carF (xs : List S48) (x y : Int) : Int := cmpI (wrap64 ((talV xs x).2 * talK xs y)) (wrap64 ((talV xs y).2 * talK xs x))
set_option maxHeartbeats 4000000 in
set_option maxRecDepth 100000 in
theorem cmp_grw (x y : Int) (W : World) : Calls Try.prog 46 #[.int .i64 x, .int .i64 y] W fun e w' => e = .returned (.int .i64 (cmpI x y)) ∧ w' = W := by
 have hn : (x != x) = false := by simp
 have hm : (y != y) = false := by simp
 by_cases h1 : x < y
 ·have c0 : decide (x < y) = true := decide_eq_true h1
  have e : cmpI x y = -1 := if_pos h1; rw [e]; clear h1 e
  go_enter Try.func46, Try.ntmps46
  go_wp2
  go_ret
  exact ⟨rfl, rfl⟩
 ·have c0 : decide (x < y) = false := decide_eq_false h1
  by_cases h2 : y < x
  ·have c1 : decide (y < x) = true := decide_eq_true h2
   have e : cmpI x y = 1 := by unfold cmpI; rw [if_neg h1, if_pos h2]
   rw [e]; clear h1 h2 e
   go_enter Try.func46, Try.ntmps46
   go_wp2
   go_ret
   exact ⟨rfl, rfl⟩
  ·have c1 : decide (y < x) = false := decide_eq_false h2
   have e : cmpI x y = 0 := by unfold cmpI; rw [if_neg h1, if_neg h2]
   rw [e]; clear h1 h2 e
   go_enter Try.func46, Try.ntmps46
   go_wp2
   go_ret
   exact ⟨rfl, rfl⟩
set_option maxHeartbeats 4000000 in
set_option maxRecDepth 100000 in
theorem careful_1 (b : Nat) (A : Option Addr) (c : Nat) (xs : List S48) (x y : Int) (W : World) (hc : W.cell? ⟨b, 0, none⟩ = some (.slice A xs.length c)) (hb : b < W.heap.size) (hr : Kd.C k48 W A xs.length xs) :
  Calls Try.prog 44 #[.int .i64 x, .int .i64 y, .pointer (some ⟨b, 0, none⟩)] W fun e w' => e = .returned (.int .i64 (carF xs x y)) ∧ Grw W w' := by
 have H1 := aM (tally_grw A c xs x W hr); have H2 : Aside0 (∀ w1, Grw W w1 → w1.cell? ⟨b, 0, none⟩ = some (.slice A xs.length c) ∧ _) := ⟨fun w1 h => ⟨(h.below.cell (p := ⟨b, 0, none⟩) hb).trans hc, tally_grw A c xs y w1 (Kd.C_below hr h.below)⟩⟩; have H3 := aM (fun w1 => cmp_grw (wrap64 ((talV xs x).2 * talK xs y)) (wrap64 ((talV xs y).2 * talK xs x)) w1); clear hr hb
 go_enter Try.func44, Try.ntmps44
 go_wp2_with fail
 refine H1.out.mono ?_; rintro e w1 ⟨rfl, g1⟩; have G1 := Aside0.mk g1; clear g1 hc; obtain ⟨Aa, h2⟩ := H2.out w1 G1.out; have H2' := Aside0.mk h2; clear h2 H2
 go_wp2_with fail
 refine H2'.out.mono ?_; rintro e w2 ⟨rfl, g2⟩; have G2 := aM (G1.out.trans g2); clear g2
 go_wp2_with fail
 refine (H3.out _).mono ?_; rintro e w3 ⟨rfl, rfl⟩
 go_wp2
 go_ret
 exact ⟨rfl, G2.out⟩
def insS (cf : Int → Int → Int) (l : List Int) : List Int := (Go.Sort.insertionSort (ltOf cf) l.toArray 0 l.length).toList
theorem size_swp (d : Array Int) (i j : Nat) : (Go.Sort.swp d i j).size = d.size := by unfold Go.Sort.swp; simp
theorem size_insInner (lt : Int → Int → Bool) (a : Nat) : ∀ (j : Nat) (d : Array Int), (Go.Sort.insInner lt a j d).size = d.size := by
 intro j
 induction j with
 | zero => intro d; rfl
 | succ j ih =>
  intro d; rw [Go.Sort.insInner]
  split
  ·rw [ih, size_swp]
  ·rfl
theorem size_insOuter (lt : Int → Int → Bool) (a b : Nat) : ∀ (n i : Nat) (d : Array Int), b - i ≤ n → (Go.Sort.insOuter lt a b i d).size = d.size := by
 intro n
 induction n with
 | zero => intro i d h; rw [Go.Sort.insOuter, if_neg (by omega)]
 | succ n ih =>
  intro i d h; rw [Go.Sort.insOuter]
  split
  ·rw [ih _ _ (by omega), size_insInner]
  ·rfl
theorem insS_length (cf : Int → Int → Int) (l : List Int) : (insS cf l).length = l.length := by
 unfold insS Go.Sort.insertionSort
 rw [Array.length_toList, size_insOuter _ _ _ _ _ _ (Nat.le_refl _)]
 simp
theorem oneInt : OneCell (Value.int .i64) := fun _ => rfl
set_option maxHeartbeats 4000000 in
set_option maxRecDepth 100000 in
theorem stable_some (cf : Int → Int → Int) (g : Nat) (cb : Array Value) (blk cap : Nat) (d : Array Int) (w : World) (eg : ∀ args w, (callFunc g args).run Try.prog w = .ok (.enter g args) w)
  (hcmp : CmpLays1 Try.prog g cb (Value.int .i64) cf blk 0 d.size w) (hH : Go.Sort.Holds (Value.int .i64) w blk 0 d) (hblk : blk < w.heap.size) (hn : d.size ≤ 19) :
  Calls Try.prog 71 #[.slice (some ⟨blk, 0, none⟩) d.size cap, .int .i64 d.size, .func (.func g) #[] cb] w fun e w' => e = .returned (.tuple #[]) ∧ SW (Value.int .i64) w blk 0 (Go.Sort.insertionSort (ltOf cf) d 0 d.size) w' := by
 have hi : Calls Try.prog 83 #[.slice (some ⟨blk, 0, none⟩) d.size cap, .int .i64 (0 : Nat), .int .i64 d.size, .func (.func g) #[] cb] w _ := Any.insertionSortCmpFunc_s lays_slices_insertionSortCmpFunc_int_ (Value.int .i64) cf g cb blk 0 cap 0 d.size d d w w eg hcmp ⟨oneInt, hH, hblk⟩ rfl (SW.start hH) (Nat.zero_le _) (Nat.le_refl _) (by omega); have c0 : decide ((20 : Int) ≤ (d.size : Int)) = false := decide_eq_false (by omega); have c1 : decide ((20 : Int) < (d.size : Int)) = false := decide_eq_false (by omega); have HI := Aside0.mk hi; clear hi hcmp hH eg hblk hn
 go_enter Try.func71, Try.ntmps71
 go_wp2
 refine wp_loop_rounds 1 ?_; rw [rounds_succ]
 go_wp2_with fail
 refine HI.out.mono ?_; rintro e w' ⟨rfl, S⟩; have HS := Aside0.mk S; clear S
 go_wp2
 refine wp_loop_rounds 1 ?_; rw [rounds_succ]
 go_wp2
 go_end0
 exact ⟨rfl, HS.out⟩
set_option maxHeartbeats 4000000 in
set_option maxRecDepth 100000 in
theorem insertion_none (A : Option Addr) (c : Nat) (f : Value) (w : World) : Calls Try.prog 83 #[.slice A 0 c, .int .i64 0, .int .i64 0, f] w fun e w' => e = .returned (.tuple #[]) ∧ w' = w := by
 go_enter Try.func83, Try.ntmps83
 go_wp2
 refine wp_loop_rounds 1 ?_; rw [rounds_succ]
 go_wp2
 go_end0
 exact ⟨rfl, rfl⟩
set_option maxHeartbeats 4000000 in
set_option maxRecDepth 100000 in
theorem stable_none (A : Option Addr) (c : Nat) (f : Value) (w : World) : Calls Try.prog 71 #[.slice A 0 c, .int .i64 0, f] w fun e w' => e = .returned (.tuple #[]) ∧ w' = w := by
 have HI := aM (insertion_none A c f w)
 go_enter Try.func71, Try.ntmps71
 go_wp2
 refine wp_loop_rounds 1 ?_; rw [rounds_succ]
 go_wp2_with fail
 refine HI.out.mono ?_; rintro e w' ⟨rfl, rfl⟩
 go_wp2
 refine wp_loop_rounds 1 ?_; rw [rounds_succ]
 go_wp2
 go_end0
 exact ⟨rfl, rfl⟩
set_option maxHeartbeats 4000000 in
set_option maxRecDepth 100000 in
theorem SortStable_int (cf : Int → Int → Int) (g : Nat) (cb : Array Value) (P0_ : Nat → Prop) (u : Value) (l0 : List Int) (w0 w : World) (hB : Below w0.heap.size w0 w) (Aa : Kd.R (Kd.int .i64) 3 w w0.heap.size P0_ u l0) (hl : l0.length ≤ 19)
  (eg : ∀ args w, (callFunc g args).run Try.prog w = .ok (.enter g args) w) (hcmp : ∀ (W : World) (x y : Int), Below w0.heap.size w0 W → Calls Try.prog g (#[.int .i64 x, .int .i64 y] ++ cb) W fun e w' => e = .returned (.int .i64 (cf x y)) ∧ Grw W w') :
  Calls Try.prog 43 #[u, .func (.func g) #[] cb] w fun e w' => e = .returned (.tuple #[]) ∧ Kd.R (Kd.int .i64) 3 w' w0.heap.size P0_ u (insS cf l0) ∧ Below w0.heap.size w0 w' := by
 by_cases hp : 0 < l0.length
 ·obtain ⟨blk, cap, rfl, hge, hgl, _⟩ := Kd.R_form Aa hp
  obtain ⟨hH, _, hnc, hg⟩ := srt_holds Aa
  have hsz : l0.toArray.size = l0.length := by simp
  have key : ∀ (ys : List Int) (q : Nat) (os : Array Obj), ys.length = l0.length → Kd.R (Kd.int .i64) 3 (Go.Sort.grow (Go.Sort.putRow (Value.int .i64) (Go.Sort.ahead w q) blk 0 ys.toArray) os) w0.heap.size P0_ (.slice (some ⟨blk, 0, none⟩) l0.length cap) ys ∧ Below w0.heap.size w0 (Go.Sort.grow (Go.Sort.putRow (Value.int .i64) (Go.Sort.ahead w q) blk 0 ys.toArray) os) := by
   intro ys q os hy; rw [Lib.putRow_eq_setCells (Value.int .i64) w blk 0 l0.toArray ys q hH (by rw [hy, hsz])]; obtain ⟨hR, hG⟩ := srt_put Aa hy q os
   exact ⟨hR, hB.grown hG hB.size (fun k hk => Z58)⟩
  have hC : CmpLays1 Try.prog g cb (Value.int .i64) cf blk 0 l0.toArray.size w := fun m os dk hs x y => by
   have hw := (key dk.toList m os (by simpa using hs)).2; rw [show dk.toList.toArray = dk from by simp] at hw; refine (hcmp _ x y hw).mono ?_; rintro e w' ⟨he, q, os', hq⟩
   exact ⟨he, q, os', hq⟩
  have h1 := stable_some cf g cb blk cap l0.toArray w eg hC hH hg (by rw [hsz]; exact hl); rw [hsz] at h1; have H1 := Aside0.mk h1; have HK := Aside0.mk key; have HL := aM (insS_length cf l0); clear h1 key hC hH hB Aa hcmp eg hp hge hgl hnc hg hsz hl
  go_enter Try.func43, Try.ntmps43
  go_wp2_with fail
  refine H1.out.mono ?_; rintro e w' ⟨rfl, m, os, rfl⟩; have hk := HK.out (insS cf l0) m os HL.out; have HK2 := Aside0.mk hk; clear hk
  go_wp2
  go_end0
  have e0 : (insS cf l0).toArray = Go.Sort.insertionSort (ltOf cf) l0.toArray 0 l0.length := by unfold insS; simp
  have h2 := HK2.out; rw [e0] at h2
  exact ⟨rfl, h2.1, h2.2⟩
 ·have hn : l0 = [] := List.eq_nil_of_length_eq_zero (by omega)
  subst hn; obtain ⟨A, c, rfl⟩ := Kd.R_slice Aa; have H1 := aM (stable_none A c (.func (.func g) #[] cb) w); have HR := Aside0.mk Aa; have HB := Aside0.mk hB; clear Aa hB hcmp eg hl hp
  go_enter Try.func43, Try.ntmps43
  go_wp2_with fail
  refine H1.out.mono ?_; rintro e w' ⟨rfl, rfl⟩
  go_wp2
  go_end0
  refine ⟨rfl, ?_, HB.out⟩; have e0 : insS cf [] = [] := List.eq_nil_of_length_eq_zero (by rw [insS_length]; rfl); rw [e0]
  exact HR.out
def impl_CarefulWeavers.f (k : Nat) (l0 : List (S48)) : Option (List Int × Bool) := (impl_AreSheets.f l0).bind fun b => if b = true then ((impl_weaversOf.f k l0).bind fun r => if r.length ≤ 19 then some (insS (carF l0) r, true) else none) else some ([], false)
theorem impl_CarefulWeavers.calls (k : Nat) (A0 : Option Addr) (c0 : Nat) (l0 : List (S48)) (r1 : List Int) (r2 : Bool) (w : World) (Aa : Kd.C k48 w A0 l0.length l0) (Ab : l0.length ≤ c0) (h : impl_CarefulWeavers.f k l0 = some (r1, r2)) :
  Calls Try.prog 17 #[.slice A0 l0.length c0] w fun e w' => ∃ v0_ : Value, e = .returned (.tuple #[v0_, .bool r2]) ∧ Kd.R (Kd.int .i64) 3 w' w.heap.size (fun _ => True) v0_ r1 ∧ Below w.heap.size w w' := by
 obtain ⟨b, hb, h1⟩ := Option.bind_eq_some_iff.mp h; clear h
 have hmf : ∀ (fn : Fn) (first cap : Array Value) (w : World), (Instr.makeFunc fn first cap).run Try.prog w = .ok (.func fn first cap) w := fun _ _ _ _ => rfl
 obtain ⟨wa, hwa⟩ : ∃ wa, wa = w.alloc (.cells #[.slice A0 l0.length c0] 31) := ⟨_, rfl⟩
 have hB1 : Below w.heap.size w wa := by rw [hwa]; exact below_alloc (Below.refl _ _) _
 have hcell : wa.cell? ⟨w.heap.size, 0, none⟩ = some (.slice A0 l0.length c0) := by rw [hwa]; simp
 have hsz : w.heap.size < wa.heap.size := by rw [hwa]; simp
 have hA := impl_AreSheets.calls A0 c0 l0 b wa (Kd.C_below Aa hB1) Ab hb; have HA := Aside0.mk hA; have HB := Aside0.mk hB1; have K : Aside0 (∀ W, Below wa.heap.size wa W → W.cell? ⟨w.heap.size, 0, none⟩ = some (.slice A0 l0.length c0) ∧ Kd.C k48 W A0 l0.length l0 ∧ w.heap.size < W.heap.size) := ⟨fun W hW => ⟨(hW.cell (p := ⟨w.heap.size, 0, none⟩) hsz).trans hcell, Kd.C_below (Kd.C_below Aa hB1) hW, Nat.lt_of_lt_of_le hsz hW.size⟩⟩; have EQ := Aside0.mk hwa; cases b with
 | false =>
  rw [if_neg (by decide)] at h1; obtain ⟨rfl, rfl⟩ := Prod.mk.inj (Option.some.inj h1); clear h1 hb hA hB1 hcell hsz Aa Ab; subst hwa
  go_enter Try.func17, Try.ntmps17
  go_wp2_with fail
  refine HA.out.mono ?_; rintro e w1 ⟨rfl, hb1⟩; have Ac := aM (below_step HB.out hb1); clear hb1
  go_wp2
  go_ret2
  exact ⟨_, rfl, Kd.R_nil _ _ _ _ _, Ac.out⟩
 | true =>
  rw [if_pos rfl] at h1; obtain ⟨r, hrr, h2⟩ := Option.bind_eq_some_iff.mp h1
  by_cases hl : r.length ≤ 19
  case neg => rw [if_neg hl] at h2; cases h2
  rw [if_pos hl] at h2; obtain ⟨rfl, rfl⟩ := Prod.mk.inj (Option.some.inj h2); have HW : Aside0 (∀ W, Below wa.heap.size wa W → _) := ⟨fun W hW => impl_weaversOf.calls k A0 c0 l0 r W (K.out W hW).2.1 Ab hrr⟩
  have HS : Aside0 (∀ (w1 w2 : World) (v : Value), Below wa.heap.size wa w1 → Below w1.heap.size w1 w2 → Kd.R (Kd.int .i64) 3 w2 w1.heap.size (fun _ => True) v r → _) := ⟨fun w1 w2 v hW hb2 hR => SortStable_int (carF l0) 44 #[.pointer (some ⟨w.heap.size, 0, none⟩)] (fun _ => True) v r w1 w2 hb2 hR hl (enters_of Try.func44 Z6 rfl)
   (fun W x y hb3 => by
    have q := K.out W (below_step hW hb3)
    exact careful_1 w.heap.size A0 c0 l0 x y W q.1 q.2.2 q.2.1)⟩
  clear h1 h2 hb hA hB1 hcell hsz Aa Ab hrr hl; subst hwa
  go_enter Try.func17, Try.ntmps17
  go_wp2_with fail
  refine HA.out.mono ?_; rintro e w1 ⟨rfl, hb1⟩; have H1 := Aside0.mk hb1; clear hb1; have Ad := (K.out w1 H1.out).1
  go_wp2_with fail
  refine (HW.out w1 H1.out).mono ?_; rintro e w2 ⟨v, rfl, hR, hb2⟩; have H2 := Aside0.mk hb2; have HR := Aside0.mk hR; clear hb2 hR Ad; have hs := HS.out w1 w2 v H1.out H2.out HR.out; have HS2 := Aside0.mk hs; clear hs
  go_wp2_with fail
  refine HS2.out.mono ?_; rintro e w3 ⟨rfl, hR3, hb3⟩; have Ae := Aside0.mk hR3; have Af := aM (below_step (below_step HB.out H1.out) hb3); have HZ := aM (below_size (below_step HB.out H1.out)); clear hR3 hb3
  go_wp2
  go_ret2
  exact ⟨_, rfl, Kd.R_lower Ae.out HZ.out, Af.out⟩
mutual
def laws_FnExactCarefulWeavers.j0 : Nat → List (S65) → List Int → Bool → List (S48) → List Int → Bool → Bool → Option (Bool)
 | 0, _, _, _, _, _, _, _ => none
 | k + 1, x0, x4, x5, x6, x7, x8, x40 => if x40 = true then (none) else ((laws_toWorkSheetS.f k x0).bind fun t230 => ((laws_eqWorkSheetS.f k x6 t230).bind fun t233 => (if t233 = true then ((laws_markWorkSheetS.f k x6 1).bind fun bt234 => (if bt234.1 < 0 then (laws_FnExactCarefulWeavers.j1 k x0 x4 x5 x7 true) else ((laws_eqIntS.f k x7 x4).bind fun t236 => (if t236 = true then (laws_FnExactCarefulWeavers.j1 k x0 x4 x5 x7 (x8 != x5)) else (laws_FnExactCarefulWeavers.j1 k x0 x4 x5 x7 true))))) else (none))))
def laws_FnExactCarefulWeavers.j1 : Nat → List (S65) → List Int → Bool → List Int → Bool → Option (Bool)
 | 0, _, _, _, _, _ => none
 | k + 1, x0, x4, x5, x7, x61 => if x61 = true then (none) else ((laws_markIntS.f k x7 1).bind fun bt237 => ((laws_heldIntS.f k bt237.2 1).bind fun t239 => (if t239 < 0 then (none) else (if t239 = bt237.1 then ((laws_toWorkSheetS.f k x0).bind fun t240 => ((impl_CarefulWeavers.f k t240).bind fun bt243 => ((laws_eqIntS.f k bt243.1 x4).bind fun t247 => (if t247 = true then (laws_FnExactCarefulWeavers.j2 k bt237.2 bt237.1 (bt243.2 != x5)) else (laws_FnExactCarefulWeavers.j2 k bt237.2 bt237.1 true))))) else (none)))))
def laws_FnExactCarefulWeavers.j2 : Nat → List Int → Int → Bool → Option (Bool)
 | 0, _, _, _ => none
 | k + 1, x7, x10, x87 => if x87 = true then (none) else ((laws_heldIntS.f k x7 1).bind fun t248 => (if t248 < 0 then (none) else (if t248 = x10 then (some true) else (none))))
end
def laws_FnExactCarefulWeavers.f (k : Nat) (l0 : List (S65)) : Option (Bool) := (laws_szWorkSheetS.f l0 1048576).bind fun t214 => (if t214 < 0 then (some true) else ((laws_toWorkSheetS.f k l0).bind fun t215 => ((spec_CarefulWeavers.f k t215).bind fun bt218 => ((laws_toWorkSheetS.f k l0).bind fun t222 => ((impl_CarefulWeavers.f k t222).bind fun bt225 => ((laws_eqIntS.f k bt225.1 bt218.1).bind fun t229 => (if t229 = true then (laws_FnExactCarefulWeavers.j0 k l0 bt218.1 bt218.2 t222 bt225.1 bt225.2 (bt225.2 != bt218.2)) else (laws_FnExactCarefulWeavers.j0 k l0 bt218.1 bt218.2 t222 bt225.1 bt225.2 true))))))))
theorem laws_FnExactCarefulWeavers.calls (k : Nat) (A0 : Option Addr) (c0 : Nat) (l0 : List (S65)) (r : Bool) (w : World) (D1 : Kd.C k65 w A0 l0.length l0) (D2 : l0.length ≤ c0) (h : laws_FnExactCarefulWeavers.f k l0 = some r) :
  Calls Try.prog 4 #[.slice A0 l0.length c0] w fun e w' => e = .returned (.bool r) ∧ Below w.heap.size w w' := by
 have B3 := Aside0.mk D1; have B5 := Aside0.mk D2; clear D1 D2; have HB := aM (Below.refl w.heap.size w); have H : ((laws_szWorkSheetS.f l0 1048576).bind fun Bi => (if Bi < 0 then (some true) else ((laws_toWorkSheetS.f k l0).bind fun Bj => ((spec_CarefulWeavers.f k Bj).bind fun Ah => ((laws_toWorkSheetS.f k l0).bind fun Ae => ((impl_CarefulWeavers.f k Ae).bind fun Ac => ((laws_eqIntS.f k Ac.1 Ah.1).bind fun Aq => (if Aq = true then (laws_FnExactCarefulWeavers.j0 k l0 Ah.1 Ah.2 Ae Ac.1 Ac.2 (Ac.2 != Ah.2)) else (laws_FnExactCarefulWeavers.j0 k l0 Ah.1 Ah.2 Ae Ac.1 Ac.2 true))))))))) = some r := h; clear h; replace H := Option.bind_eq_some_iff.mp H; obtain ⟨Bi, D3, H⟩ := H; replace H : (if Bi < 0 then (some true) else ((laws_toWorkSheetS.f k l0).bind fun Bj => ((spec_CarefulWeavers.f k Bj).bind fun Ah => ((laws_toWorkSheetS.f k l0).bind fun Ae => ((impl_CarefulWeavers.f k Ae).bind fun Ac => ((laws_eqIntS.f k Ac.1 Ah.1).bind fun Aq => (if Aq = true then (laws_FnExactCarefulWeavers.j0 k l0 Ah.1 Ah.2 Ae Ac.1 Ac.2 (Ac.2 != Ah.2)) else (laws_FnExactCarefulWeavers.j0 k l0 Ah.1 Ah.2 Ae Ac.1 Ac.2 true)))))))) = some r := H; have A2 := Aside0.mk D3; clear D3
 by_cases c3 : Bi < 0
 ·rw [if_pos c3] at H
  have c3b0 : decide (Bi < 0) = true := decide_eq_true c3; clear c3; obtain rfl := Option.some.inj H
  go_enter Try.func4, Try.ntmps4
  go_wp2_with (first | ((with_reducible refine gate_callee (f := 6) rfl ?_); refine glE (some 16) Try.func6 #[.slice A0 l0.length c0, .int .i64 1048576] ?_; (with_reducible refine (laws_szWorkSheetS.calls _ _ l0 1048576 Bi _ ?side1 ?side2 A2.out).mono ?_); (case side1 => exact Z29); (case side2 => exact B5.out); rintro e w' ⟨rfl, ⟨nd, rfl⟩⟩; refine ⟨_, rfl, ?_⟩))
  go_ret
  exact ⟨Z4, Z0⟩
 ·rw [if_neg c3] at H
  have c3b0 : decide (Bi < 0) = false := decide_eq_false c3; clear c3; replace H := Option.bind_eq_some_iff.mp H; obtain ⟨Bj, Cs, H⟩ := H; replace H : ((spec_CarefulWeavers.f k Bj).bind fun Ah => ((laws_toWorkSheetS.f k l0).bind fun Ae => ((impl_CarefulWeavers.f k Ae).bind fun Ac => ((laws_eqIntS.f k Ac.1 Ah.1).bind fun Aq => (if Aq = true then (laws_FnExactCarefulWeavers.j0 k l0 Ah.1 Ah.2 Ae Ac.1 Ac.2 (Ac.2 != Ah.2)) else (laws_FnExactCarefulWeavers.j0 k l0 Ah.1 Ah.2 Ae Ac.1 Ac.2 true)))))) = some r := H; have A4 := Aside0.mk Cs; clear Cs; replace H := Option.bind_eq_some_iff.mp H; obtain ⟨⟨Aa, Ab⟩, D4, H⟩ := H; replace H : ((laws_toWorkSheetS.f k l0).bind fun Ae => ((impl_CarefulWeavers.f k Ae).bind fun Ac => ((laws_eqIntS.f k Ac.1 Aa).bind fun Aq => (if Aq = true then (laws_FnExactCarefulWeavers.j0 k l0 Aa Ab Ae Ac.1 Ac.2 (Ac.2 != Ab)) else (laws_FnExactCarefulWeavers.j0 k l0 Aa Ab Ae Ac.1 Ac.2 true))))) = some r := H; have A5 := Aside0.mk D4; clear D4; replace H := Option.bind_eq_some_iff.mp H; obtain ⟨Ae, D5, H⟩ := H; replace H : ((impl_CarefulWeavers.f k Ae).bind fun Ac => ((laws_eqIntS.f k Ac.1 Aa).bind fun Aq => (if Aq = true then (laws_FnExactCarefulWeavers.j0 k l0 Aa Ab Ae Ac.1 Ac.2 (Ac.2 != Ab)) else (laws_FnExactCarefulWeavers.j0 k l0 Aa Ab Ae Ac.1 Ac.2 true)))) = some r := H; have A6 := Aside0.mk D5; clear D5; replace H := Option.bind_eq_some_iff.mp H; obtain ⟨⟨Ad, Al⟩, D6, H⟩ := H; replace H : ((laws_eqIntS.f k Ad Aa).bind fun Aq => (if Aq = true then (laws_FnExactCarefulWeavers.j0 k l0 Aa Ab Ae Ad Al (Al != Ab)) else (laws_FnExactCarefulWeavers.j0 k l0 Aa Ab Ae Ad Al true))) = some r := H; have A7 := Aside0.mk D6; clear D6; have Cv := Aside0.mk H; clear H
  go_enter Try.func4, Try.ntmps4
  go_upto_region 8 with (first | ((with_reducible refine gate_callee (f := 6) rfl ?_); refine glE (some 16) Try.func6 #[.slice A0 l0.length c0, .int .i64 1048576] ?_; (with_reducible refine (laws_szWorkSheetS.calls _ _ l0 1048576 Bi _ ?side1 ?side2 A2.out).mono ?_); (case side1 => exact Z29); (case side2 => exact B5.out); rintro e w' ⟨rfl, ⟨nd, rfl⟩⟩; refine ⟨_, rfl, ?_⟩) | ((with_reducible refine gate_callee (f := 9) rfl ?_); refine glE (some 21) Try.func9 #[.slice A0 l0.length c0] ?_; (with_reducible refine (laws_toWorkSheetS.calls k _ _ l0 Bj _ ?side1 ?side2 A4.out).mono ?_); (case side1 => exact Z29); (case side2 => exact B5.out); rintro e w9 ⟨Ec, rfl, Av, hb⟩; refine ⟨_, rfl, ?_⟩; have Ap := aM (Kd.R_lower Av (below_size Z0)); replace HB := hbS Z0 hb; (try clear hb); (try clear Av); obtain ⟨Cw, Cx, Cy⟩ := Kd.R_slice Ap.out; subst Cy) | ((with_reducible refine gate_callee (f := 16) rfl ?_); refine glE (some 22) Try.func16 #[.slice Cw Bj.length Cx] ?_; (with_reducible refine (spec_CarefulWeavers.calls k _ _ Bj Aa Ab _ ?side1 ?side2 A5.out).mono ?_); (case side1 => exact (by repeat (first | exact (Kd.R_reads' Ap.out).2.2 | (with_reducible refine Kd.C_alloc ?_ _) | (with_reducible refine Kd.C_drewN ?_ _) | (with_reducible refine Kd.C_drew ?_)))); (case side2 => exact (Kd.R_reads' Ap.out).2.1); rintro e E3 ⟨Bt, rfl, Av, hb⟩; refine ⟨_, rfl, ?_⟩; replace Ap := roB Ap hb; have Am := aM (Kd.R_lower Av (below_size Z0)); replace HB := hbS Z0 hb; (try clear hb); (try clear Av)) | ((with_reducible refine gate_callee (f := 9) rfl ?_); refine glE (some 26) Try.func9 #[.slice A0 l0.length c0] ?_; (with_reducible refine (laws_toWorkSheetS.calls k _ _ l0 Ae _ ?side1 ?side2 A6.out).mono ?_); (case side1 => exact Z32); (case side2 => exact B5.out); rintro e E4 ⟨Ed, rfl, Av, hb⟩; refine ⟨_, rfl, ?_⟩; replace Am := roB Am hb; have Az := aM (Kd.R_lower (Kd.R_new' Av (Kd.R_lt Z37)) (below_size Z0)); replace Ap := aM (Kd.R_elder' Z37 (Kd.R_base Av) hb); replace HB := hbS Z0 hb; (try clear hb); (try clear Av); obtain ⟨Bl, Bm, Cz⟩ := Kd.R_slice Az.out; subst Cz) | ((with_reducible refine gate_callee (f := 17) rfl ?_); refine glE (some 29) Try.func17 #[.slice Bl Ae.length Bm] ?_; (with_reducible refine (impl_CarefulWeavers.calls k _ _ Ae Ad Al _ ?side1 ?side2 A7.out).mono ?_); (case side1 => exact (by repeat (first | exact (Kd.R_reads' Az.out).2.2 | (with_reducible refine Kd.C_alloc ?_ _) | (with_reducible refine Kd.C_drewN ?_ _) | (with_reducible refine Kd.C_drew ?_)))); (case side2 => exact (Kd.R_reads' Az.out).2.1); rintro e E5 ⟨Bu, rfl, Av, hb⟩; refine ⟨_, rfl, ?_⟩; replace Ap := roB Ap hb; replace Az := roB Az hb; have Au := aM (Kd.R_lower (Kd.R_new' Av (Kd.R_lt Z49)) (below_size Z0)); replace Am := aM (Kd.R_elder' Z49 (Kd.R_base Av) hb); replace HB := hbS Z0 hb; (try clear hb); (try clear Av)))
  (try simp only [Act.put, List.setIfInBounds_toArray, List.set_cons_zero, List.set_cons_succ])
  go_cut [40] (fun Ee wc => ∃ (kq : Nat) (Bp : Bool), Ee = .bool Bp ∧ Aside0 (laws_FnExactCarefulWeavers.j0 kq l0 Aa Ab Ae Ad Al Bp = some r) ∧ Aside0 (kq ≤ k) ∧ Aside0 (Kd.R (Kd.int .i64) 3 wc w.heap.size (fun k_ => nV k_ Bu) Bt Aa) ∧ Aside0 (Kd.R k48 48 wc w.heap.size (fun _ => True) (.slice Bl Ae.length Bm) Ae) ∧ Aside0 (Kd.R (Kd.int .i64) 3 wc w.heap.size (fun k_ => nV k_ Bt) Bu Ad) ∧ Aside0 (Below w.heap.size w wc))
  case first => as_aux_lemma =>
   have H := Cv.out; clear Cv; replace H := Option.bind_eq_some_iff.mp H; obtain ⟨Aq, Cb, H⟩ := H; replace H : (if Aq = true then (laws_FnExactCarefulWeavers.j0 k l0 Aa Ab Ae Ad Al (Al != Ab)) else (laws_FnExactCarefulWeavers.j0 k l0 Aa Ab Ae Ad Al true)) = some r := H; have D7 := Aside0.mk Cb; clear Cb
   by_cases B0 : Aq = true
   ·subst B0
    have H1 : (laws_FnExactCarefulWeavers.j0 k l0 Aa Ab Ae Ad Al (Al != Ab)) = some r := by rw [if_pos rfl] at H; exact H
    clear H; have H := H1; clear H1; have H' := Aside0.mk H; clear H; obtain ⟨C0, C1, C2⟩ := Kd.R_slice Au.out; subst C2; obtain ⟨C3, C4, C5⟩ := Kd.R_slice Am.out; subst C5
    go_wp2_with (first | ((with_reducible refine gate_callee (f := 11) rfl ?_); refine glE (some 34) Try.func11 #[.slice C0 Ad.length C1, .slice C3 Aa.length C4] ?_; (with_reducible refine (laws_eqIntS.calls k _ _ Ad _ _ Aa true _ ?side1 ?side2 ?side3 ?side4 D7.out).mono ?_); (case side1 => exact Z33); (case side2 => exact (Kd.R_reads' Au.out).2.1); (case side3 => exact Z34); (case side4 => exact (Kd.R_reads' Am.out).2.1); rintro e w' ⟨rfl, ⟨nd, rfl⟩⟩; refine ⟨_, rfl, ?_⟩))
    go_meet
    case rel => exact ⟨_, ((Al != Ab)), Z3, H', ⟨by first | omega | exact Nat.le_refl _⟩, ⟨Z45⟩, ⟨Z40⟩, ⟨Z46⟩, ⟨Z0⟩⟩
   ·replace B0 := Bool.eq_false_iff.mpr B0
    subst B0
    have H1 : (laws_FnExactCarefulWeavers.j0 k l0 Aa Ab Ae Ad Al true) = some r := by rw [if_neg (show ¬ (false = true) by decide)] at H; exact H
    clear H; have H := H1; clear H1; have H' := Aside0.mk H; clear H; obtain ⟨C6, C7, C8⟩ := Kd.R_slice Au.out; subst C8; obtain ⟨C9, Da, Db⟩ := Kd.R_slice Am.out; subst Db
    go_wp2_with (first | ((with_reducible refine gate_callee (f := 11) rfl ?_); refine glE (some 34) Try.func11 #[.slice C6 Ad.length C7, .slice C9 Aa.length Da] ?_; (with_reducible refine (laws_eqIntS.calls k _ _ Ad _ _ Aa false _ ?side1 ?side2 ?side3 ?side4 D7.out).mono ?_); (case side1 => exact Z33); (case side2 => exact (Kd.R_reads' Au.out).2.1); (case side3 => exact Z34); (case side4 => exact (Kd.R_reads' Am.out).2.1); rintro e w' ⟨rfl, ⟨nd, rfl⟩⟩; refine ⟨_, rfl, ?_⟩))
    go_meet
    case rel => exact ⟨_, (true), Z3, H', ⟨by first | omega | exact Nat.le_refl _⟩, ⟨Z45⟩, ⟨Z40⟩, ⟨Z46⟩, ⟨Z0⟩⟩
  case rest => as_aux_lemma =>
   clear Cv; (try clear c1); (try clear p2); (try clear c3); (try clear c3b0); (try clear c4); (try clear c6); (try clear c9); (try clear D8); (try clear B0); (try clear D9); obtain ⟨kq, Bp, rfl, HA, HJ7, Ai, Aw, Af, HB⟩ := hcut; cases kq with
   | zero => exact absurd HA.out (by simp [laws_FnExactCarefulWeavers.j0])
   | succ An =>
    have H := HA.out; clear HA
    simp only [laws_FnExactCarefulWeavers.j0] at H
    by_cases B7 : Bp = true
    ·subst B7
     have H1 : (none) = some r := by rw [if_pos rfl] at H; exact H
     clear H; have H := H1; clear H1; exact absurd H (by simp)
    ·replace B7 := Bool.eq_false_iff.mpr B7
     subst B7
     have H1 : ((laws_toWorkSheetS.f An l0).bind fun Bq => ((laws_eqWorkSheetS.f An Ae Bq).bind fun Br => (if Br = true then ((laws_markWorkSheetS.f An Ae 1).bind fun A3 => (if A3.1 < 0 then (laws_FnExactCarefulWeavers.j1 An l0 Aa Ab Ad true) else ((laws_eqIntS.f An Ad Aa).bind fun Ax => (if Ax = true then (laws_FnExactCarefulWeavers.j1 An l0 Aa Ab Ad (Al != Ab)) else (laws_FnExactCarefulWeavers.j1 An l0 Aa Ab Ad true))))) else (none)))) = some r := by rw [if_neg (show ¬ (false = true) by decide)] at H; exact H
     clear H; have H := H1; clear H1; replace H := Option.bind_eq_some_iff.mp H; obtain ⟨Bq, Cc, H⟩ := H; replace H : ((laws_eqWorkSheetS.f An Ae Bq).bind fun Br => (if Br = true then ((laws_markWorkSheetS.f An Ae 1).bind fun A3 => (if A3.1 < 0 then (laws_FnExactCarefulWeavers.j1 An l0 Aa Ab Ad true) else ((laws_eqIntS.f An Ad Aa).bind fun Ax => (if Ax = true then (laws_FnExactCarefulWeavers.j1 An l0 Aa Ab Ad (Al != Ab)) else (laws_FnExactCarefulWeavers.j1 An l0 Aa Ab Ad true))))) else (none))) = some r := H; have Ef := Aside0.mk Cc; clear Cc; replace H := Option.bind_eq_some_iff.mp H; obtain ⟨Br, Cd, H⟩ := H; replace H : (if Br = true then ((laws_markWorkSheetS.f An Ae 1).bind fun A3 => (if A3.1 < 0 then (laws_FnExactCarefulWeavers.j1 An l0 Aa Ab Ad true) else ((laws_eqIntS.f An Ad Aa).bind fun Ax => (if Ax = true then (laws_FnExactCarefulWeavers.j1 An l0 Aa Ab Ad (Al != Ab)) else (laws_FnExactCarefulWeavers.j1 An l0 Aa Ab Ad true))))) else (none)) = some r := H; have Eg := Aside0.mk Cd; clear Cd
     by_cases B8 : Br = true
     ·subst B8
      have H1 : ((laws_markWorkSheetS.f An Ae 1).bind fun A3 => (if A3.1 < 0 then (laws_FnExactCarefulWeavers.j1 An l0 Aa Ab Ad true) else ((laws_eqIntS.f An Ad Aa).bind fun Ax => (if Ax = true then (laws_FnExactCarefulWeavers.j1 An l0 Aa Ab Ad (Al != Ab)) else (laws_FnExactCarefulWeavers.j1 An l0 Aa Ab Ad true))))) = some r := by rw [if_pos rfl] at H; exact H
      clear H; have H := H1; clear H1; replace H := Option.bind_eq_some_iff.mp H; obtain ⟨⟨Bv, Dc⟩, Ce, H⟩ := H; replace H : (if Bv < 0 then (laws_FnExactCarefulWeavers.j1 An l0 Aa Ab Ad true) else ((laws_eqIntS.f An Ad Aa).bind fun Ax => (if Ax = true then (laws_FnExactCarefulWeavers.j1 An l0 Aa Ab Ad (Al != Ab)) else (laws_FnExactCarefulWeavers.j1 An l0 Aa Ab Ad true)))) = some r := H; have Eh := Aside0.mk Ce; clear Ce; have B1 := Aside0.mk H; clear H
      go_upto_region 14 with (first | ((with_reducible refine gate_callee (f := 9) rfl ?_); refine glE (some 43) Try.func9 #[.slice A0 l0.length c0] ?_; (with_reducible refine (laws_toWorkSheetS.calls An _ _ l0 Bq _ ?side1 ?side2 Ef.out).mono ?_); (case side1 => exact Z32); (case side2 => exact B5.out); rintro e E6 ⟨Ei, rfl, Av, hb⟩; refine ⟨_, rfl, ?_⟩; replace Ai := roB Ai hb; replace Af := roB Af hb; have Ba := aM (Kd.R_lower (Kd.R_new' Av (Kd.R_lt Z50)) (below_size Z0)); replace Aw := aM (Kd.R_elder' Z50 (Kd.R_base Av) hb); replace HB := hbS Z0 hb; (try clear hb); (try clear Av); obtain ⟨Dd, De, Df⟩ := Kd.R_slice Ba.out; subst Df) | ((with_reducible refine gate_callee (f := 12) rfl ?_); refine glE (some 44) Try.func12 #[.slice Bl Ae.length Bm, .slice Dd Bq.length De] ?_; (with_reducible refine (laws_eqWorkSheetS.calls An _ _ Ae _ _ Bq true _ ?side1 ?side2 ?side3 ?side4 Eg.out).mono ?_); (case side1 => exact (by repeat (first | exact (Kd.R_reads' Aw.out).2.2 | (with_reducible refine Kd.C_alloc ?_ _) | (with_reducible refine Kd.C_drewN ?_ _) | (with_reducible refine Kd.C_drew ?_)))); (case side2 => exact (Kd.R_reads' Aw.out).2.1); (case side3 => exact (by repeat (first | exact (Kd.R_reads' Ba.out).2.2 | (with_reducible refine Kd.C_alloc ?_ _) | (with_reducible refine Kd.C_drewN ?_ _) | (with_reducible refine Kd.C_drew ?_)))); (case side4 => exact (Kd.R_reads' Ba.out).2.1); rintro e E7 ⟨rfl, hb⟩; refine ⟨_, rfl, ?_⟩; replace Ai := roB Ai hb; replace Aw := roB Aw hb; replace Af := roB Af hb; replace Ba := roB Ba hb; replace HB := hbS Z0 hb; (try clear hb)) | ((with_reducible refine gate_callee (f := 13) rfl ?_); refine glE (some 48) Try.func13 #[.slice Bl Ae.length Bm, .int .i64 1] ?_; (with_reducible refine (laws_markWorkSheetS.calls An (fun k_ => some k_ = (.slice Bl Ae.length Bm : Value).ownBlock) (.slice Bl Ae.length Bm) Ae 1 Bv Dc w _ ?side1 ?side2 Eh.out).mono ?_); (case side1 => exact Z0); (case side2 => exact Kd.R_tight rfl Aw.out); rintro e E8 ⟨rfl, Cf, hb, hkp⟩; refine ⟨_, rfl, ?_⟩; replace Ai := aM (Kd.R_mono (ok' := fun k_ => nV k_ Bu) (Kd.R_keptB ((Kd.R_apart' Ai.out (Kd.R_typed Aw.out) (by decide))) hkp (fun k_ hk_ hs_ => (hk_.2) hs_)) (fun k_ hk_ => hk_.1.1)); replace Af := aM (Kd.R_mono (ok' := fun k_ => nV k_ Bt) (Kd.R_keptB ((Kd.R_apart' Af.out (Kd.R_typed Aw.out) (by decide))) hkp (fun k_ hk_ hs_ => (hk_.2) hs_)) (fun k_ hk_ => hk_.1.1)); replace Aw := aM (Kd.R_reok rfl Cf (fun k_ e_ => Aw.out.1 k_ e_)); replace Ba := aM (Kd.R_mono (ok' := fun k_ => nS k_ Bl Ae.length Bm) (Kd.R_keptB (Ba.out) hkp (fun k_ hk_ hs_ => (hk_.2) hs_)) (fun k_ hk_ => hk_.1.2)); replace HB := aM (hb); (try clear hb); (try clear hkp); (try clear Cf)))
      (try simp only [Act.put, List.setIfInBounds_toArray, List.set_cons_zero, List.set_cons_succ])
      go_cut [61] (fun Ej wc => ∃ (kq : Nat) (Bg : Bool), Ej = .bool Bg ∧ Aside0 (laws_FnExactCarefulWeavers.j1 kq l0 Aa Ab Ad Bg = some r) ∧ Aside0 (kq ≤ An) ∧ Aside0 (Kd.R (Kd.int .i64) 3 wc w.heap.size (fun k_ => nV k_ Bu) Bt Aa) ∧ Aside0 (Kd.R (Kd.int .i64) 3 wc w.heap.size (fun k_ => nV k_ Bt) Bu Ad) ∧ Aside0 (Below w.heap.size w wc))
      case first => as_aux_lemma =>
       have H := B1.out; clear B1
       by_cases Bz : Bv < 0
       ·rw [if_pos Bz] at H
        have c31b0 : decide (Bv < 0) = true := decide_eq_true Bz; clear Bz
        (first | rw [c31b0] | (simp only [i64_w, i32_w]; rw [c31b0]) | skip)
        have H' := Aside0.mk H; clear H
        go_wp2
        go_meet
        case rel => exact ⟨_, (true), Z3, H', ⟨Z55⟩, ⟨Z26⟩, ⟨Z7⟩, ⟨Z0⟩⟩
       ·rw [if_neg Bz] at H
        have c31b0 : decide (Bv < 0) = false := decide_eq_false Bz; clear Bz
        (first | rw [c31b0] | (simp only [i64_w, i32_w]; rw [c31b0]) | skip)
        replace H := Option.bind_eq_some_iff.mp H; obtain ⟨Ax, Cg, H⟩ := H; replace H : (if Ax = true then (laws_FnExactCarefulWeavers.j1 An l0 Aa Ab Ad (Al != Ab)) else (laws_FnExactCarefulWeavers.j1 An l0 Aa Ab Ad true)) = some r := H; have Ea := Aside0.mk Cg; clear Cg
        by_cases B9 : Ax = true
        ·subst B9
         have H1 : (laws_FnExactCarefulWeavers.j1 An l0 Aa Ab Ad (Al != Ab)) = some r := by rw [if_pos rfl] at H; exact H
         clear H; have H := H1; clear H1; have H' := Aside0.mk H; clear H; obtain ⟨Ek, El, Dg⟩ := Kd.R_slice Af.out; subst Dg; obtain ⟨Em, En, Dh⟩ := Kd.R_slice Ai.out; subst Dh
         go_wp2_with (first | (go_at_call 11; (with_reducible refine (laws_eqIntS.calls An _ _ Ad _ _ Aa true _ ?side1 ?side2 ?side3 ?side4 Ea.out).mono ?_); (case side1 => exact Z19); (case side2 => exact (Kd.R_reads' Af.out).2.1); (case side3 => exact Z20); (case side4 => exact (Kd.R_reads' Ai.out).2.1); rintro e w' ⟨rfl, ⟨nd, rfl⟩⟩))
         go_meet
         case rel => exact ⟨_, ((Al != Ab)), Z3, H', ⟨Z55⟩, ⟨Z26⟩, ⟨Z7⟩, ⟨Z0⟩⟩
        ·replace B9 := Bool.eq_false_iff.mpr B9
         subst B9
         have H1 : (laws_FnExactCarefulWeavers.j1 An l0 Aa Ab Ad true) = some r := by rw [if_neg (show ¬ (false = true) by decide)] at H; exact H
         clear H; have H := H1; clear H1; have H' := Aside0.mk H; clear H; obtain ⟨Eo, Ep, Di⟩ := Kd.R_slice Af.out; subst Di; obtain ⟨Er, Es, Dj⟩ := Kd.R_slice Ai.out; subst Dj
         go_wp2_with (first | (go_at_call 11; (with_reducible refine (laws_eqIntS.calls An _ _ Ad _ _ Aa false _ ?side1 ?side2 ?side3 ?side4 Ea.out).mono ?_); (case side1 => exact Z19); (case side2 => exact (Kd.R_reads' Af.out).2.1); (case side3 => exact Z20); (case side4 => exact (Kd.R_reads' Ai.out).2.1); rintro e w' ⟨rfl, ⟨nd, rfl⟩⟩))
         go_meet
         case rel => exact ⟨_, (true), Z3, H', ⟨Z55⟩, ⟨Z26⟩, ⟨Z7⟩, ⟨Z0⟩⟩
      case rest => as_aux_lemma =>
       clear B1; (try clear c1); (try clear c2); (try clear p2); (try clear c3); (try clear c3b0); (try clear c4); (try clear c6); (try clear c9); (try clear D8); (try clear Et); (try clear Eu); (try clear B0); (try clear D9); (try clear B7); (try clear B8); (try clear Bz); (try clear c31b0); (try clear B9); (try clear p2); obtain ⟨kq, Bg, rfl, HA, HJ25, Ai, Af, HB⟩ := hcut; cases kq with
       | zero => exact absurd HA.out (by simp [laws_FnExactCarefulWeavers.j1])
       | succ Ag =>
        have H := HA.out; clear HA
        simp only [laws_FnExactCarefulWeavers.j1] at H
        by_cases Ch : Bg = true
        ·subst Ch
         have H1 : (none) = some r := by rw [if_pos rfl] at H; exact H
         clear H; have H := H1; clear H1; exact absurd H (by simp)
        ·replace Ch := Bool.eq_false_iff.mpr Ch
         subst Ch
         have H1 : ((laws_markIntS.f Ag Ad 1).bind fun Bd => ((laws_heldIntS.f Ag Bd.2 1).bind fun Ar => (if Ar < 0 then (none) else (if Ar = Bd.1 then ((laws_toWorkSheetS.f Ag l0).bind fun Bc => ((impl_CarefulWeavers.f Ag Bc).bind fun Ao => ((laws_eqIntS.f Ag Ao.1 Aa).bind fun Ay => (if Ay = true then (laws_FnExactCarefulWeavers.j2 Ag Bd.2 Bd.1 (Ao.2 != Ab)) else (laws_FnExactCarefulWeavers.j2 Ag Bd.2 Bd.1 true))))) else (none))))) = some r := by rw [if_neg (show ¬ (false = true) by decide)] at H; exact H
         clear H; have H := H1; clear H1; replace H := Option.bind_eq_some_iff.mp H; obtain ⟨⟨Aj, Ak⟩, Ci, H⟩ := H; replace H : ((laws_heldIntS.f Ag Ak 1).bind fun Ar => (if Ar < 0 then (none) else (if Ar = Aj then ((laws_toWorkSheetS.f Ag l0).bind fun Bc => ((impl_CarefulWeavers.f Ag Bc).bind fun Ao => ((laws_eqIntS.f Ag Ao.1 Aa).bind fun Ay => (if Ay = true then (laws_FnExactCarefulWeavers.j2 Ag Ak Aj (Ao.2 != Ab)) else (laws_FnExactCarefulWeavers.j2 Ag Ak Aj true))))) else (none)))) = some r := H; have Ew := Aside0.mk Ci; clear Ci; replace H := Option.bind_eq_some_iff.mp H; obtain ⟨Ar, Cj, H⟩ := H; replace H : (if Ar < 0 then (none) else (if Ar = Aj then ((laws_toWorkSheetS.f Ag l0).bind fun Bc => ((impl_CarefulWeavers.f Ag Bc).bind fun Ao => ((laws_eqIntS.f Ag Ao.1 Aa).bind fun Ay => (if Ay = true then (laws_FnExactCarefulWeavers.j2 Ag Ak Aj (Ao.2 != Ab)) else (laws_FnExactCarefulWeavers.j2 Ag Ak Aj true))))) else (none))) = some r := H; have Cs := Aside0.mk Cj; clear Cj
         by_cases Ck : Ar < 0
         ·rw [if_pos Ck] at H
          exact absurd H (by simp)
         ·rw [if_neg Ck] at H
          have c41b0 : decide (Ar < 0) = false := decide_eq_false Ck; clear Ck
          by_cases Ca : Ar = Aj
          ·rw [if_pos Ca] at H
           have c42b0 : (Ar == Aj) = true := beq_iff_eq.mpr Ca; have c42b1 : (Ar != Aj) = false := bne_eq_false_iff_eq.mpr Ca; clear Ca; replace H := Option.bind_eq_some_iff.mp H; obtain ⟨Bc, Cl, H⟩ := H; replace H : ((impl_CarefulWeavers.f Ag Bc).bind fun Ao => ((laws_eqIntS.f Ag Ao.1 Aa).bind fun Ay => (if Ay = true then (laws_FnExactCarefulWeavers.j2 Ag Ak Aj (Ao.2 != Ab)) else (laws_FnExactCarefulWeavers.j2 Ag Ak Aj true)))) = some r := H; have Ex := Aside0.mk Cl; clear Cl; replace H := Option.bind_eq_some_iff.mp H; obtain ⟨⟨Bs, Bw⟩, Cm, H⟩ := H; replace H : ((laws_eqIntS.f Ag Bs Aa).bind fun Ay => (if Ay = true then (laws_FnExactCarefulWeavers.j2 Ag Ak Aj (Bw != Ab)) else (laws_FnExactCarefulWeavers.j2 Ag Ak Aj true))) = some r := H; have Ey := Aside0.mk Cm; clear Cm; have B2 := Aside0.mk H; clear H; obtain ⟨Bn, Bo, Dk⟩ := Kd.R_slice Af.out; subst Dk
           go_upto_region 25 with (first | ((with_reducible refine gate_callee (f := 14) rfl ?_); refine glE (some 64) Try.func14 #[.slice Bn Ad.length Bo, .int .i64 1] ?_; (with_reducible refine (laws_markIntS.calls Ag (fun k_ => some k_ = (.slice Bn Ad.length Bo : Value).ownBlock) (.slice Bn Ad.length Bo) Ad 1 Aj Ak w _ ?side1 ?side2 Ew.out).mono ?_); (case side1 => exact Z0); (case side2 => exact Kd.R_tight rfl Af.out); rintro e E9 ⟨rfl, Cf, hb, hkp⟩; refine ⟨_, rfl, ?_⟩; replace Ai := aM (Kd.R_mono (ok' := fun k_ => nS k_ Bn Ad.length Bo) (Kd.R_keptB (Ai.out) hkp (fun k_ hk_ hs_ => (hk_) hs_)) (fun k_ hk_ => hk_.1)); replace Af := aM (Kd.R_reok rfl Cf (fun k_ e_ => Af.out.1 k_ e_)); replace HB := aM (hb); (try clear hb); (try clear hkp); (try clear Cf)) | ((with_reducible refine gate_callee (f := 15) rfl ?_); refine goesL_ (some 67) rfl rfl Try.func15 Z6 rfl #[.slice Bn Ak.length Bo, .int .i64 1] rfl (by (try simp only [List.map_toArray, List.map_cons, List.map_nil]); first | done | (rw [show Ak.length = Ad.length from (Kd.R_reads' Af.out).1.symm] <;> rfl) | rfl | (simp only [List.length_drop, List.length_take]; rfl)) ?_; (with_reducible refine (laws_heldIntS.calls Ag _ _ Ak 1 Ar _ ?side1 ?side2 Cs.out).mono ?_); (case side1 => exact Z19); (case side2 => exact (by rw [show Ak.length = Ad.length from (Kd.R_reads' Af.out).1.symm]; exact (Kd.R_reads' Af.out).2.1)); rintro e w' ⟨rfl, ⟨nd, rfl⟩⟩; refine ⟨_, rfl, ?_⟩) | ((with_reducible refine gate_callee (f := 9) rfl ?_); refine glE (some 75) Try.func9 #[.slice A0 l0.length c0] ?_; (with_reducible refine (laws_toWorkSheetS.calls Ag _ _ l0 Bc _ ?side1 ?side2 Ex.out).mono ?_); (case side1 => repeat (first | exact (Kd.C_below B3.out Z0) | (with_reducible refine Kd.C_alloc ?_ _) | (with_reducible refine Kd.C_drewN ?_ _) | (with_reducible refine Kd.C_drew ?_))); (case side2 => exact B5.out); rintro e Fa ⟨Ez, rfl, Av, hb⟩; refine ⟨_, rfl, ?_⟩; replace Ai := roB Ai hb; replace Af := roB Af hb; have Bk := aM (Kd.R_lower Av (below_size Z0)); replace HB := hbS Z0 hb; (try clear hb); (try clear Av); obtain ⟨Dl, Dm, Dn⟩ := Kd.R_slice Bk.out; subst Dn) | ((with_reducible refine gate_callee (f := 17) rfl ?_); refine glE (some 76) Try.func17 #[.slice Dl Bc.length Dm] ?_; (with_reducible refine (impl_CarefulWeavers.calls Ag _ _ Bc Bs Bw _ ?side1 ?side2 Ey.out).mono ?_); (case side1 => exact (by repeat (first | exact (Kd.R_reads' Bk.out).2.2 | (with_reducible refine Kd.C_alloc ?_ _) | (with_reducible refine Kd.C_drewN ?_ _) | (with_reducible refine Kd.C_drew ?_)))); (case side2 => exact (Kd.R_reads' Bk.out).2.1); rintro e Fb ⟨E0, rfl, Av, hb⟩; refine ⟨_, rfl, ?_⟩; replace Bk := roB Bk hb; have Bf := aM (Kd.R_lower (Kd.R_new' (Kd.R_new' Av (Kd.R_lt Z26)) (Kd.R_lt Z7)) (below_size Z0)); replace Ai := aM (Kd.R_elder' Z26 (Kd.R_base Av) hb); replace Af := aM (Kd.R_elder' Z7 (Kd.R_base Av) hb); replace HB := hbS Z0 hb; (try clear hb); (try clear Av)))
           (try simp only [Act.put, List.setIfInBounds_toArray, List.set_cons_zero, List.set_cons_succ])
           go_cut [87] (fun E1 wc => ∃ (kq : Nat) (Bh : Bool), E1 = .bool Bh ∧ Aside0 (laws_FnExactCarefulWeavers.j2 kq Ak Aj Bh = some r) ∧ Aside0 (kq ≤ Ag) ∧ Aside0 (Kd.R (Kd.int .i64) 3 wc w.heap.size (fun _ => True) (.slice Bn Ad.length Bo) Ak) ∧ Aside0 (Below w.heap.size w wc))
           case first => as_aux_lemma =>
            have H := B2.out; clear B2; replace H := Option.bind_eq_some_iff.mp H; obtain ⟨Ay, Cn, H⟩ := H; replace H : (if Ay = true then (laws_FnExactCarefulWeavers.j2 Ag Ak Aj (Bw != Ab)) else (laws_FnExactCarefulWeavers.j2 Ag Ak Aj true)) = some r := H; have Eb := Aside0.mk Cn; clear Cn
            by_cases Co : Ay = true
            ·subst Co
             have H1 : (laws_FnExactCarefulWeavers.j2 Ag Ak Aj (Bw != Ab)) = some r := by rw [if_pos rfl] at H; exact H
             clear H; have H := H1; clear H1; have H' := Aside0.mk H; clear H; obtain ⟨Dp, Dq, Dr⟩ := Kd.R_slice Bf.out; subst Dr; obtain ⟨Ds, Dt, Du⟩ := Kd.R_slice Ai.out; subst Du
             go_wp2_with (first | ((with_reducible refine gate_callee (f := 11) rfl ?_); refine glE (some 81) Try.func11 #[.slice Dp Bs.length Dq, .slice Ds Aa.length Dt] ?_; (with_reducible refine (laws_eqIntS.calls Ag _ _ Bs _ _ Aa true _ ?side1 ?side2 ?side3 ?side4 Eb.out).mono ?_); (case side1 => exact Z35); (case side2 => exact (Kd.R_reads' Bf.out).2.1); (case side3 => exact Z20); (case side4 => exact (Kd.R_reads' Ai.out).2.1); rintro e w' ⟨rfl, ⟨nd, rfl⟩⟩; refine ⟨_, rfl, ?_⟩))
             go_meet
             case rel => exact ⟨_, ((Bw != Ab)), Z3, H', ⟨Z57⟩, ⟨Z41⟩, ⟨Z0⟩⟩
            ·replace Co := Bool.eq_false_iff.mpr Co
             subst Co
             have H1 : (laws_FnExactCarefulWeavers.j2 Ag Ak Aj true) = some r := by rw [if_neg (show ¬ (false = true) by decide)] at H; exact H
             clear H; have H := H1; clear H1; have H' := Aside0.mk H; clear H; obtain ⟨Dv, Dw, Dx⟩ := Kd.R_slice Bf.out; subst Dx; obtain ⟨Dy, Dz, D0⟩ := Kd.R_slice Ai.out; subst D0
             go_wp2_with (first | ((with_reducible refine gate_callee (f := 11) rfl ?_); refine glE (some 81) Try.func11 #[.slice Dv Bs.length Dw, .slice Dy Aa.length Dz] ?_; (with_reducible refine (laws_eqIntS.calls Ag _ _ Bs _ _ Aa false _ ?side1 ?side2 ?side3 ?side4 Eb.out).mono ?_); (case side1 => exact Z35); (case side2 => exact (Kd.R_reads' Bf.out).2.1); (case side3 => exact Z20); (case side4 => exact (Kd.R_reads' Ai.out).2.1); rintro e w' ⟨rfl, ⟨nd, rfl⟩⟩; refine ⟨_, rfl, ?_⟩))
             go_meet
             case rel => exact ⟨_, (true), Z3, H', ⟨Z57⟩, ⟨Z41⟩, ⟨Z0⟩⟩
           case rest => as_aux_lemma =>
            clear B2; (try clear c1); (try clear c2); (try clear p2); (try clear c3); (try clear c3b0); (try clear c4); (try clear c5); (try clear c6); (try clear c9); (try clear D8); (try clear Et); (try clear Eu); (try clear Fc); (try clear Fd); (try clear B0); (try clear D9); (try clear B7); (try clear B8); (try clear Bz); (try clear c31b0); (try clear B9); (try clear Ch); (try clear Ck); (try clear c41b0); (try clear Ca); (try clear c42b0); (try clear c42b1); (try clear Co); (try clear p2); obtain ⟨kq, Bh, rfl, HA, HJ44, Af, HB⟩ := hcut; have Bx := (Kd.R_reads' Af.out).1; rw [Bx] at Af
            (try simp only [Bx])
            cases kq with
            | zero => exact absurd HA.out (by simp [laws_FnExactCarefulWeavers.j2])
            | succ Cp =>
             have H := HA.out; clear HA
             simp only [laws_FnExactCarefulWeavers.j2] at H
             by_cases Ct : Bh = true
             ·subst Ct
              have H1 : (none) = some r := by rw [if_pos rfl] at H; exact H
              clear H; have H := H1; clear H1; exact absurd H (by simp)
             ·replace Ct := Bool.eq_false_iff.mpr Ct
              subst Ct
              have H1 : ((laws_heldIntS.f Cp Ak 1).bind fun Bb => (if Bb < 0 then (none) else (if Bb = Aj then (some true) else (none)))) = some r := by rw [if_neg (show ¬ (false = true) by decide)] at H; exact H
              clear H; have H := H1; clear H1; replace H := Option.bind_eq_some_iff.mp H; obtain ⟨Bb, Cq, H⟩ := H; replace H : (if Bb < 0 then (none) else (if Bb = Aj then (some true) else (none))) = some r := H; have E2 := Aside0.mk Cq; clear Cq
              by_cases Cu : Bb < 0
              ·rw [if_pos Cu] at H
               exact absurd H (by simp)
              ·rw [if_neg Cu] at H
               have c59b0 : decide (Bb < 0) = false := decide_eq_false Cu; clear Cu
               by_cases Cr : Bb = Aj
               ·rw [if_pos Cr] at H
                have c60b0 : (Bb == Aj) = true := beq_iff_eq.mpr Cr; have c60b1 : (Bb != Aj) = false := bne_eq_false_iff_eq.mpr Cr; clear Cr; obtain rfl := Option.some.inj H
                go_wp2_with (first | ((with_reducible refine gate_callee (f := 15) rfl ?_); refine glE (some 90) Try.func15 #[.slice Bn Ak.length Bo, .int .i64 1] ?_; (with_reducible refine (laws_heldIntS.calls Cp _ _ Ak 1 Bb _ ?side1 ?side2 E2.out).mono ?_); (case side1 => exact Z19); (case side2 => exact (Kd.R_reads' Af.out).2.1); rintro e w' ⟨rfl, ⟨nd, rfl⟩⟩; refine ⟨_, rfl, ?_⟩))
                go_ret
                exact ⟨Z4, Z0⟩
               ·rw [if_neg Cr] at H
                exact absurd H (by simp)
          ·rw [if_neg Ca] at H
           exact absurd H (by simp)
     ·replace B8 := Bool.eq_false_iff.mpr B8
      subst B8
      have H1 : (none) = some r := by rw [if_neg (show ¬ (false = true) by decide)] at H; exact H
      clear H; have H := H1; clear H1; exact absurd H (by simp)
end Go.Proofs.Ytffgmmfkiecheaa.H
