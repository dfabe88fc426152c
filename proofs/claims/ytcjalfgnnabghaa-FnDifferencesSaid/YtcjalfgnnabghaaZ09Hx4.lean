-- by wip/pack.py of this repo
import Derived.Test.YtcjalfgnnabghaaZ09Hx0
import Derived.Test.YtcjalfgnnabghaaZ09Hx1
import Derived.Test.YtcjalfgnnabghaaZ09Hx3
import Derived.Test.YtcjalfgnnabghaaZ09WApart
import Derived.Test.YtcjalfgnnabghaaZ09WLast
import Derived.Test.YtcjalfgnnabghaaZ09WMore
import Derived.Test.YtcjalfgnnabghaaZ09WN
import Derived.Test.YtcjalfgnnabghaaZ09WWords
import Derived.Test.YtcjalfgnnabghaaZ09Short
namespace Go.Proofs.Ytcjalfgnnabghaa.H
open Go.RowKit Go.Proofs.YtcjalfgnnabghaaW.PrintWords Go.Proofs.YtcjalfgnnabghaaW.PrintLast Go.Proofs.YtcjalfgnnabghaaW.PrintMore
attribute [local go_sem] max2_int min2_int max_two min_two max_three min_three max_four min_four
set_option maxHeartbeats 8000000
set_option maxRecDepth 100000
set_option linter.unusedVariables false
set_option linter.unusedSimpArgs false
def Grw (w w' : World) : Prop := ∃ (q : Nat) (os : Array Obj), w' = Go.Sort.grow (w.drewN q) os
theorem Grw.refl (w : World) : Grw w w := ⟨0, #[], by simp [Go.Sort.grow, World.drewN]⟩
theorem Grw.alloc {w W : World} (h : Grw w W) (o : Obj) : Grw w (W.alloc o) := by
 obtain ⟨q, os, rfl⟩ := h
 exact ⟨q, os ++ #[o], by rw [Go.Sort.alloc_eq_grow, Go.Sort.grow_grow]⟩
theorem Grw.drewN {w W : World} (h : Grw w W) (n : Nat) : Grw w (W.drewN n) := by
 obtain ⟨q, os, rfl⟩ := h
 exact ⟨q + n, os, by simp [Go.Sort.grow, World.drewN, Nat.add_assoc]⟩
theorem Grw.drew {w W : World} (h : Grw w W) : Grw w W.drew := h.drewN 1
theorem Grw.trans {w W W2 : World} (h : Grw w W) (k : Grw W W2) : Grw w W2 := by
 obtain ⟨q, os, rfl⟩ := h; obtain ⟨q2, os2, rfl⟩ := k
 exact ⟨q + q2, os ++ os2, by simp [Go.Sort.grow, World.drewN, Nat.add_assoc, Array.append_assoc]⟩
theorem Grw.below {w W : World} (h : Grw w W) : Below w.heap.size w W := by
 obtain ⟨q, os, rfl⟩ := h
 exact ⟨rfl, rfl, rfl, by simp [Go.Sort.grow, World.drewN], fun k hk => by simp [Go.Sort.grow, World.drewN, Array.getElem?_append_left hk]⟩
theorem Grw.drawn {w W : World} (h : Drawn0 w W) : Grw w W := by
 obtain ⟨n, rfl⟩ := h.out
 exact (Grw.refl w).drewN n
def lays_slices_SortFunc_2_int_2_int__ren : Go.Shelf.Ren := ⟨fun | 6 => 80 | 15 => 100 | 14 => 99 | 28 => 117 | 29 => 118 | 20 => 109 | 21 => 110 | 22 => 111 | 23 => 112 | 24 => 113 | 25 => 114 | 26 => 115 | 27 => 116 | 46 => 122 | 47 => 123 | 48 => 124 | 49 => 125 | 50 => 126 | 57 => 127 | n => n, fun | 22 => 47 | 24 => 79 | 25 => 90 | 3 => 3 | 39 => 106 | 0 => 0 | 53 => 117 | 55 => 93 | 4 => 4 | 46 => 110 | 45 => 109 | 50 => 114 | 5 => 5 | 9 => 9 | 66 => 121 | 70 => 125 | 76 => 127 | 77 => 128 | n => n, fun | n => n⟩
theorem lays_slices_SortFunc_2_int_2_int_ : Go.Proofs.SlLaysF0.n6 Try.prog lays_slices_SortFunc_2_int_2_int__ren := {
 mixed := by kernel_rfl
 f6 := ⟨Try.f80.name, by decide, Try.func80.trans (congrArg some Z74)⟩
 f14 := ⟨Try.f99.name, by decide, Try.func99.trans (congrArg some Z74)⟩
 f15 := Try.func100.trans (congrArg some Z74)
 f20 := ⟨Try.f109.name, by decide, Try.func109.trans (congrArg some Z74)⟩
 f21 := ⟨Try.f110.name, by decide, Try.func110.trans (congrArg some Z74)⟩
 f22 := ⟨Try.f111.name, by decide, Try.func111.trans (congrArg some Z74)⟩
 f23 := ⟨Try.f112.name, by decide, Try.func112.trans (congrArg some Z74)⟩
 f24 := ⟨Try.f113.name, by decide, Try.func113.trans (congrArg some Z74)⟩
 f25 := ⟨Try.f114.name, by decide, Try.func114.trans (congrArg some Z74)⟩
 f26 := ⟨Try.f115.name, by decide, Try.func115.trans (congrArg some Z74)⟩
 f27 := ⟨Try.f116.name, by decide, Try.func116.trans (congrArg some Z74)⟩
 f28 := Try.func117.trans (congrArg some Z74)
 f29 := Try.func118.trans (congrArg some Z74)
 f46 := ⟨Try.f122.name, by decide, Try.func122.trans (congrArg some Z74)⟩
 f47 := Try.func123.trans (congrArg some Z74)
 f48 := Try.func124.trans (congrArg some Z74)
 f49 := ⟨Try.f125.name, by decide, Try.func125.trans (congrArg some Z74)⟩
 f50 := ⟨Try.f126.name, by decide, Try.func126.trans (congrArg some Z74)⟩
 f57 := ⟨Try.f127.name, by decide, Try.func127.trans (congrArg some Z74)⟩
 t0 := Try.underlying0
 a0 := Try.isAgg0
 z0 := Try.sizeOf0
 v0 := Try.zeroValue0
 t3 := Try.underlying3
 a3 := Try.isAgg3
 z3 := Try.sizeOf3
 v3 := Try.zeroValue3
 t4 := Try.underlying4
 a4 := Try.isAgg4
 z4 := Try.sizeOf4
 v4 := Try.zeroValue4
 t5 := Try.underlying5
 a5 := Try.isAgg5
 z5 := Try.sizeOf5
 v5 := Try.zeroValue5
 t9 := Try.underlying9
 a9 := Try.isAgg9
 z9 := Try.sizeOf9
 v9 := Try.zeroValue9
 t22 := Try.underlying47
 a22 := Try.isAgg47
 z22 := Try.sizeOf47
 v22 := Try.zeroValue47
 t25 := Try.underlying90
 a25 := Try.isAgg90
 z25 := Try.sizeOf90
 v25 := Try.zeroValue90
 t39 := Try.underlying106
 a39 := Try.isAgg106
 z39 := Try.sizeOf106
 v39 := Try.zeroValue106
 t45 := Try.underlying109
 a45 := Try.isAgg109
 z45 := Try.sizeOf109
 v45 := Try.zeroValue109
 t46 := Try.underlying110
 a46 := Try.isAgg110
 z46 := Try.sizeOf110
 v46 := Try.zeroValue110
 t50 := Try.underlying114
 a50 := Try.isAgg114
 z50 := Try.sizeOf114
 v50 := Try.zeroValue114
 t53 := Try.underlying117
 a53 := Try.isAgg117
 z53 := Try.sizeOf117
 v53 := Try.zeroValue117
 t55 := Try.underlying93
 a55 := Try.isAgg93
 z55 := Try.sizeOf93
 v55 := Try.zeroValue93
 t66 := Try.underlying121
 a66 := Try.isAgg121
 z66 := Try.sizeOf121
 v66 := Try.zeroValue121
 t70 := Try.underlying125
 a70 := Try.isAgg125
 z70 := Try.sizeOf125
 v70 := Try.zeroValue125
 t76 := Try.underlying127
 a76 := Try.isAgg127
 z76 := Try.sizeOf127
 v76 := Try.zeroValue127
 t77 := Try.underlying128
 a77 := Try.isAgg128
 z77 := Try.sizeOf128
 v77 := Try.zeroValue128 }
instance : Inhabited S79 := ⟨z79⟩
def encP (x : S79) : List Value := [.int .i64 x.f0, .int .i64 x.f1]
def rowP (l : List S79) : List Value := (Sort.flatK encP 2 l.toArray).toList
theorem rowP_len (l : List S79) : (rowP l).length = l.length * 2 := by unfold rowP; simp
theorem rowP_at (l : List S79) (m : Nat) (h : m < l.length) : ((rowP l).drop (m * 2)).take 2 = encP l[m] := by
 have h0 := Sort.get_flatK encP 2 l.toArray (m * 2) (by simp; omega); have h1 := Sort.get_flatK encP 2 l.toArray (m * 2 + 1) (by simp; omega); rw [show m * 2 / 2 = m from by omega, show m * 2 % 2 = 0 from by omega] at h0; rw [show (m * 2 + 1) / 2 = m from by omega, show (m * 2 + 1) % 2 = 1 from by omega] at h1; have hl := rowP_len l
 have e : l.toArray[m]! = l[m] := by simp [h]
 rw [e] at h0 h1
 have g0 : (rowP l)[m * 2]'(by omega) = Value.int .i64 l[m].f0 := by
  unfold rowP
  rw [Array.getElem_toList, ← getElem!_pos (Sort.flatK encP 2 l.toArray) (m * 2) (by simp; omega), h0]
  rfl
 have g1 : (rowP l)[m * 2 + 1]'(by omega) = Value.int .i64 l[m].f1 := by
  unfold rowP
  rw [Array.getElem_toList, ← getElem!_pos (Sort.flatK encP 2 l.toArray) (m * 2 + 1) (by simp; omega), h1]
  rfl
 rw [List.drop_eq_getElem_cons (show m * 2 < (rowP l).length from by omega), List.drop_eq_getElem_cons (show m * 2 + 1 < (rowP l).length from by omega), g0, g1]
 rfl
theorem srtP_grow {w : World} {os : Array Obj} {k : Nat} (hk : k < w.heap.size) : (Sort.grow w os).heap[k]? = w.heap[k]? := by
 unfold Sort.grow
 exact Array.getElem?_append_left hk
theorem srtP_holds {w : World} {base g n cap : Nat} {ok : Nat → Prop} {xs : List S79} (h : Kd.R k79 79 w base ok (.slice (some ⟨g, 0, none⟩) n cap) xs) : Sort.HoldsK encP 2 w g 0 xs.toArray ∧ xs.length = n ∧ n ≤ cap ∧ g < w.heap.size := by
 obtain ⟨hn, hnc, _⟩ := Kd.R_reads' h; obtain ⟨_, inner, ho, hr⟩ := h; obtain ⟨cells, hc⟩ := own_typed ho g (by simp [Value.ownBlock]); refine ⟨fun j hj => ?_, hn.symm, hnc, ?_⟩
 ·have hj' : j < xs.length * 2 := by simpa using hj
  have hx := ho.cells (g := g) (by simp [Value.ownBlock])
  have hm : j / 2 < xs.length := by omega
  have hM := k79_openM (hr.2 (j / 2) _ (List.getElem?_eq_getElem hm)); have hM2 : (inner.drop (j / 2 * 2)).take 2 = encP xs[j / 2] := hM
  have hin : inner[j]? = some (encP xs[j / 2])[j % 2]! := by
   have h2 : ((inner.drop (j / 2 * 2)).take 2)[j % 2]? = some (encP xs[j / 2])[j % 2]! := by
    rw [hM2]
    rcases (by omega : j % 2 = 0 ∨ j % 2 = 1) with e | e <;> rw [e] <;> rfl
   rw [List.getElem?_take_of_lt (by omega), List.getElem?_drop] at h2; rwa [show j / 2 * 2 + j % 2 = j from by omega] at h2
  refine ⟨?_, blk_frozen hc _⟩; have := hx j _ hin; rw [add_plain] at this; rw [Nat.zero_add]; rw [this]; rw [Sort.get_flatK _ _ _ _ (by simpa using hj')]
  simp [hm]
 ·rcases Nat.lt_or_ge g w.heap.size with hlt | hge
  ·exact hlt
  ·rw [Array.getElem?_eq_none hge] at hc; cases hc
theorem srtP_put {w : World} {base g n cap : Nat} {ok : Nat → Prop} {xs ys : List S79} (h : Kd.R k79 79 w base ok (.slice (some ⟨g, 0, none⟩) n cap) xs) (hl : ys.length = n) (q : Nat) (os : Array Obj) :
  Kd.R k79 79 (Sort.grow ((w.drewN q).setCells g 0 (rowP ys)) os) base ok (.slice (some ⟨g, 0, none⟩) n cap) ys ∧ w.grownBy (Sort.grow ((w.drewN q).setCells g 0 (rowP ys)) os) (some g) := by
 obtain ⟨hok, inner, ⟨Ab, Aa⟩, hr⟩ := h
 rcases Aa with ⟨hv, _⟩ | ⟨g', cap', cur, hv, hb, hh, hnc, hcm, hcs, ht⟩
 ·cases hv
 injection hv with ha hn hc; injection ha with ha; injection ha with hg; subst hg; subst hc
 have hgs : g < w.heap.size := by
  rcases Nat.lt_or_ge g w.heap.size with hlt | hge
  ·exact hlt
  ·rw [Array.getElem?_eq_none hge] at hh; cases hh
 have hh' : (w.drewN q).heap[g]? = some (.cells cur 79 (0, 0)) := hh; have hcz : cur.size = cap * 2 := hcs; have hrl := rowP_len ys; obtain ⟨cur', h3, h4, h5⟩ := setCells_row (rowP ys) 0 (w.drewN q) cur hh' (by omega); obtain ⟨s1, s2, s3, s4⟩ := setCells_same g (rowP ys) 0 (w.drewN q); have s5 : ((w.drewN q).setCells g 0 (rowP ys)).heap.size = w.heap.size := s4
 have ht' : cur'.toList.take (n * 2) = rowP ys := by
  rw [h5, List.take_zero, List.nil_append]
  exact List.take_left' (by omega)
 refine ⟨⟨hok, rowP ys, ⟨?_, .inr ⟨g, cap, cur', ?_, hb, ?_, ?_, hcm, ?_, ?_⟩⟩, ?_, ?_⟩, ⟨s1, s2, s3, ?_, fun k hk hne => ?_⟩⟩
 ·exact hrl
 ·rw [hl]
 ·rw [srtP_grow (by rw [s5]; exact hgs)]; exact h3
 ·omega
 ·rw [h4, hcs]
 ·rw [hl]; exact ht'
 ·exact hrl
 ·intro m p hp
  have hm : m < ys.length := by
   rcases Nat.lt_or_ge m ys.length with h | h
   ·exact h
   ·rw [List.getElem?_eq_none h] at hp; cases hp
  rw [List.getElem?_eq_getElem hm] at hp; have e := rowP_at ys m hm; rw [← Option.some.inj hp]
  show k79.M _ _ _ ys[m] (((rowP ys).drop (m * 2)).take 2)
  rw [e]
  exact k79_mkM _ _ _ _
 ·unfold Sort.grow
  rw [Array.size_append, s5]
  exact Nat.le_add_right _ _
 ·rw [srtP_grow (by rw [s5]; exact hk)]
  exact setCells_far _ 0 k (fun e => hne (by rw [e]))
def cmpQ (a b : Int) : Int := if a < b then -1 else if b < a then 1 else 0
def cmpP (x y : S79) : Int := if cmpQ x.f0 y.f0 = 0 then cmpQ x.f1 y.f1 else cmpQ x.f0 y.f0
theorem cmpQ_eq (a b : Int) : cmp_Compare_int.f a b = some (cmpQ a b) := by
 unfold cmp_Compare_int.f cmp_isNaN_int.f cmpQ
 by_cases h1 : a < b
 ·simp [h1]
 ·by_cases h2 : b < a
  ·simp [h1, h2]
  ·simp [h1, h2]
theorem cmpP_eq (x y : S79) : slices_Compare_int_int.f 3 [x.f0, x.f1] [y.f0, y.f1] = some (cmpP x y) := by
 unfold slices_Compare_int_int.f
 have r0 : rd [x.f0, x.f1] 0 = x.f0 := rfl; have r1 : rd [x.f0, x.f1] 1 = x.f1 := rfl; have s0 : rd [y.f0, y.f1] 0 = y.f0 := rfl; have s1 : rd [y.f0, y.f1] 1 = y.f1 := rfl
 have w1 : wrap64 (0 + 1) = 1 := by decide +kernel
 have w2 : wrap64 (1 + 1) = 2 := by decide +kernel
 unfold cmpP
 simp only [slices_Compare_int_int.l0, List.length_cons, List.length_nil, cmpQ_eq, Option.bind_some, r0, r1, s0, s1, w1, w2]
 by_cases h0 : cmpQ x.f0 y.f0 = 0
 ·by_cases h1 : cmpQ x.f1 y.f1 = 0
  ·simp [h0, h1]
  ·simp [h0, h1]
 ·simp [h0]
theorem ltP (x y : S79) : ltOf cmpP x y = decide (x.f0 < y.f0 ∨ (x.f0 = y.f0 ∧ x.f1 < y.f1)) := by
 unfold ltOf cmpP cmpQ
 by_cases h1 : x.f0 < y.f0
 ·simp [h1]
 ·by_cases h2 : y.f0 < x.f0
  ·simp [h1, h2]; omega
  ·have e : x.f0 = y.f0 := by omega
   by_cases h3 : x.f1 < y.f1
   ·simp [h1, h2, e, h3]
   ·by_cases h4 : y.f1 < x.f1
    ·simp [h1, h2, e, h3, h4]
    ·simp [h1, h2, e, h3, h4]
theorem swoP : Sort.SWO (ltOf cmpP) where
 irrefl x := by rw [ltP]; simp
 trans x y z h1 h2 := by rw [ltP] at *; simp only [decide_eq_true_iff] at *; omega
 ntrans x y z h1 h2 := by rw [ltP] at *; simp only [decide_eq_false_iff_not] at *; omega
set_option maxHeartbeats 4000000 in
set_option maxRecDepth 100000 in
theorem sw_1 (x y : S79) (W : World) : Calls Try.prog 81 #[.agg #[.int .i64 x.f0, .int .i64 x.f1], .agg #[.int .i64 y.f0, .int .i64 y.f1]] W fun e w' => e = .returned (.int .i64 (cmpP x y)) ∧ Grw W w' := by
 have hu_ := Try.underlying79; have hG : Grw W ((W.alloc (.cells #[.int .i64 x.f0, .int .i64 x.f1] 79)).alloc (.cells #[.int .i64 y.f0, .int .i64 y.f1] 79)) := ((Grw.refl W).alloc _).alloc _; obtain ⟨w2, hw2⟩ : ∃ w2, w2 = (W.alloc (.cells #[.int .i64 x.f0, .int .i64 x.f1] 79)).alloc (.cells #[.int .i64 y.f0, .int .i64 y.f1] 79) := ⟨_, rfl⟩; rw [← hw2] at hG
 have k0 : w2.heap[W.heap.size]? = some (.cells #[.int .i64 x.f0, .int .i64 x.f1] 79 (0, 0)) := by rw [hw2]; exact blk_alloc (heap_alloc_new W _) _
 have k1 : w2.heap[W.heap.size + 1]? = some (.cells #[.int .i64 y.f0, .int .i64 y.f1] 79 (0, 0)) := by
  rw [hw2]; have := heap_alloc_new (W.alloc (.cells #[.int .i64 x.f0, .int .i64 x.f1] 79)) (.cells #[.int .i64 y.f0, .int .i64 y.f1] 79); rwa [show (W.alloc (.cells #[.int .i64 x.f0, .int .i64 x.f1] 79)).heap.size = W.heap.size + 1 by simp] at this
 have HC : Aside0 (∀ n, Calls Try.prog 82 #[.slice (some ⟨W.heap.size, 0, none⟩) 2 2, .slice (some ⟨W.heap.size + 1, 0, none⟩) 2 2] (w2.drewN n) fun e w' => e = .returned (.int .i64 (cmpP x y)) ∧ Drawn0 (w2.drewN n) w') := ⟨fun n => by
  have c0 : Kd.C (Kd.int .i64) (w2.drewN n) (some ⟨W.heap.size, 0, none⟩) [x.f0, x.f1].length [x.f0, x.f1] := C_of_block (by simp) (blk_drewN k0 n) (fun i u hu => by simpa using hu); have c1 : Kd.C (Kd.int .i64) (w2.drewN n) (some ⟨W.heap.size + 1, 0, none⟩) [y.f0, y.f1].length [y.f0, y.f1] := C_of_block (by simp) (blk_drewN k1 n) (fun i u hu => by simpa using hu)
  exact slices_Compare_int_int.calls 3 (some ⟨W.heap.size, 0, none⟩) 2 [x.f0, x.f1] (some ⟨W.heap.size + 1, 0, none⟩) 2 [y.f0, y.f1] (cmpP x y) (w2.drewN n) c0 (Nat.le_refl _) c1 (Nat.le_refl _) (cmpP_eq x y)⟩
 have HG := Aside0.mk hG; clear hG k0 k1; subst hw2
 go_enter Try.func81, Try.ntmps81
 go_wp2
 go_quiet ((go_at_call 82; exact Calls.quiet_of ((HC.out _).mono (fun _ _ ⟨he, hd⟩ => ⟨he, hd.out⟩))))
 go_wp2
 go_ret
 exact ⟨rfl, by first | exact HG.out.drewN _ | exact HG.out⟩
def sortP (l : List S79) : List S79 := l.mergeSort fun x y => !ltOf cmpP y x
theorem sortP_len (l : List S79) : (sortP l).length = l.length := List.length_mergeSort _
set_option maxHeartbeats 4000000 in
set_option maxRecDepth 100000 in
theorem SortFunc_sw (P0_ : Nat → Prop) (u : Value) (l0 : List S79) (w0 w : World) (hB : Below w0.heap.size w0 w) (Aa : Kd.R k79 79 w w0.heap.size P0_ u l0) (hl : l0.length ≤ 1000000) :
  Calls Try.prog 80 #[u, .func (.func 81) #[] #[]] w fun e w' => e = .returned (.tuple #[]) ∧ Kd.R k79 79 w' w0.heap.size P0_ u (sortP l0) ∧ Below w0.heap.size w0 w' := by
 by_cases hp : 0 < l0.length
 ·obtain ⟨blk, cap, rfl, hge, hgl, _⟩ := Kd.R_form Aa hp
  obtain ⟨hH, _, hnc, hg⟩ := srtP_holds Aa
  have hsz : l0.toArray.size = l0.length := by simp
  have key : ∀ (ys : List S79) (q : Nat) (os : Array Obj), ys.length = l0.length → Kd.R k79 79 (sortWorldK encP 2 w blk 0 q ys.toArray os) w0.heap.size P0_ (.slice (some ⟨blk, 0, none⟩) l0.length cap) ys ∧ Below w0.heap.size w0 (sortWorldK encP 2 w blk 0 q ys.toArray os) := by
   intro ys q os hy
   have e : Go.Sort.putRowK encP 2 (Go.Sort.ahead w q) blk 0 ys.toArray = (w.drewN q).setCells blk 0 (rowP ys) := by
    have := Lib.putRow_eq_setCells id w blk 0 (Go.Sort.flatK encP 2 l0.toArray) (rowP ys) q hH (by rw [rowP_len]; simp [hy]); rw [List.map_id] at this; rw [← this]
    unfold Go.Sort.putRowK rowP
    rw [Array.toArray_toList]
   obtain ⟨hR, hG⟩ := srtP_put Aa hy q os
   unfold sortWorldK
   rw [e]
   exact ⟨hR, hB.grown hG hB.size (fun k hk => by injection hk with hk; subst hk; exact hge)⟩
  have hC : CmpLays Try.prog 81 #[] encP 2 cmpP blk 0 l0.toArray.size w := fun m os dk hs x y => by
   refine (sw_1 x y _).mono ?_; rintro e w' ⟨he, q, os', hq⟩
   exact ⟨he, q, os', hq⟩
  have h1 : Calls Try.prog 80 #[.slice (some ⟨blk, 0, none⟩) l0.toArray.size cap, .func (.func 81) #[] #[]] w _ := AnyQ.slices_SortFunc_total lays_slices_SortFunc_2_int_2_int_ 2 Try.isAgg79 Try.sizeOf79 encP (fun _ => rfl) (fun x v hv => by simp [encP] at hv; rcases hv with rfl | rfl <;> rfl) cmpP swoP 81 #[] blk 0 cap l0.toArray w (enters_of Try.func81 Z74 rfl) hC hH hg (by rw [hsz]; omega)
   (fun x y a b => by rw [ltP] at a b; simp only [decide_eq_false_iff_not] at a b; cases x; cases y; simp only at a b; congr <;> omega)
  rw [hsz] at h1; refine h1.mono ?_; rintro e w' ⟨he, n, os, rfl⟩; obtain ⟨hR, hB2⟩ := key (sortP l0) n os (sortP_len l0)
  exact ⟨he, hR, hB2⟩
 ·have hn : l0 = [] := List.eq_nil_of_length_eq_zero (by omega)
  subst hn; obtain ⟨A, c, rfl⟩ := Kd.R_slice Aa; have h1 : Calls Try.prog 80 #[.slice A 0 c, .func (.func 81) #[] #[]] w _ := AnyF.slices_SortFunc_none lays_slices_SortFunc_2_int_2_int_ A c (.func (.func 81) #[] #[]) w; refine h1.mono ?_; rintro e w' ⟨he, rfl⟩; refine ⟨he, ?_, hB⟩
  unfold sortP
  rw [List.mergeSort_nil]
  exact Aa
theorem eqArr (d : Nat) (a b c e : Int) (w : World) : (Op.equalIn (d + 1 + 1) 79 (.agg #[.int .i64 a, .int .i64 b]) (.agg #[.int .i64 c, .int .i64 e])).run Try.prog w = .ok ((a == c) && (b == e)) w := by
 have u3 := Try.underlying3; have a3 := Try.isAgg3; have z3 := Try.sizeOf3
 have hi : ∀ x y : Int, (Op.equalIn (d + 1) 3 (.int .i64 x) (.int .i64 y)).run Try.prog w = .ok (x == y) w := fun x y => run_equalIn_int w d 3 .i64 .i64 x y u3
 rw [Op.equalIn]
 simp only [Sem.run_bind, run_underlying Try.underlying79, Result.andThen_ok, z3]
 rw [Std.Legacy.Range.forIn_eq_forIn_range']
 simp only [Std.Legacy.Range.size, Nat.sub_zero, Nat.add_one_sub_one, Nat.div_one, List.range'_succ, List.range'_zero, List.forIn_cons, List.forIn_nil]
 have p0 : ∀ (x y : Int), (part 3 #[Value.int .i64 x, Value.int .i64 y] (0 * 1)).run Try.prog w = .ok (.int .i64 x) w := fun x y => by go_simp
 have p1 : ∀ (x y : Int), (part 3 #[Value.int .i64 x, Value.int .i64 y] ((0 + 1) * 1)).run Try.prog w = .ok (.int .i64 y) w := fun x y => by go_simp
 by_cases h0 : a = c
 ·subst h0
  by_cases h1 : b = e
  ·subst h1
   simp [p0, p1, hi]
  ·simp [p0, p1, hi, h1]
 ·simp [p0, hi, h0]
def eqQ (x y : S79) : Bool := (x.f0 == y.f0) && (x.f1 == y.f1)
theorem eqQ_run (x y : S79) (r : Bool) (h : eqQ x y = r) : ∀ w : World, (Op.equalIn 10000 79 (.agg #[.int .i64 x.f0, .int .i64 x.f1]) (.agg #[.int .i64 y.f0, .int .i64 y.f1])).run Try.prog w = .ok r w := fun w => by
 rw [← h]
 exact eqArr 9998 x.f0 x.f1 y.f0 y.f1 w
def newAt (xs : List S79) (i : Nat) : Bool := decide (i = 0) || !(eqQ (xs.getD i z79) (xs.getD (i - 1) z79))
def keepP (xs : List S79) (j : Nat) : List S79 := ((List.range j).filter (newAt xs)).map (fun i => xs.getD i z79)
theorem keepP_succ (xs : List S79) (j : Nat) : keepP xs (j + 1) = keepP xs j ++ if newAt xs j = true then [xs.getD j z79] else [] := by
 unfold keepP
 rw [List.range_succ, List.filter_append, List.map_append]
 congr 1
 by_cases c : newAt xs j = true
 ·simp [c]
 ·simp [c]
def compP (xs : List S79) : List S79 := keepP xs xs.length
theorem compP_short (xs : List S79) (h : xs.length < 2) : compP xs = xs := by
 match xs, h with
 | [], _ => rfl
 | [x], _ => rfl
theorem take_getD (xs : List S79) (j : Nat) (h : j < xs.length) : xs.take (j + 1) = xs.take j ++ [xs.getD j z79] := by
 rw [List.take_succ_eq_append_getElem h, List.getD_eq_getElem?_getD, List.getElem?_eq_getElem h]
 rfl
theorem row_block_sw {w : World} {base g m cap : Nat} {ok : Nat → Prop} {xs : List S79} (h : Kd.R k79 79 w base ok (.slice (some ⟨g, 0, none⟩) m cap) xs) (hm : 0 < m) : ∃ cur : Array Value, w.heap[g]? = some (.cells cur 79 (0, 0)) ∧ cur.size = cap * 2 := by
 obtain ⟨hok, inner, ⟨Ab, Aa⟩, hr⟩ := h
 rcases Aa with ⟨hv, _⟩ | ⟨g', cap', cur, hv, hb, hh, hnc, hcm, hcs, ht⟩
 ·cases hv
 injection hv with ha hn hc; injection ha with ha; injection ha with hg; subst hg; subst hc
 exact ⟨cur, hh, hcs⟩
theorem drop_getD {ys xs : List S79} {a p : Nat} (h : ys.drop a = xs.drop a) (hp : a ≤ p) : ys.getD p z79 = xs.getD p z79 := by
 have h1 : (ys.drop a)[p - a]? = (xs.drop a)[p - a]? := by rw [h]
 rw [List.getElem?_drop, List.getElem?_drop, Nat.add_sub_cancel' hp] at h1; rw [List.getD_eq_getElem?_getD, List.getD_eq_getElem?_getD, h1]
theorem addrP (b n : Nat) : (⟨b, 0, none⟩ : Addr).add n = ⟨b, n, none⟩ := by
 unfold Addr.add
 split <;> simp_all
theorem info_sizeP : (Try.prog.info? 79).map (·.size) = some 2 := by kernel_rfl
theorem R_beyond_sw {w : World} {base g m cap o : Nat} {ok : Nat → Prop} {xs : List S79} (h : Kd.R k79 79 w base ok (.slice (some ⟨g, 0, none⟩) m cap) xs) (vs : List Value) (ho : m * 2 ≤ o) (hl : o + vs.length ≤ cap * 2) :
  Kd.R k79 79 (w.setCells g o vs) base ok (.slice (some ⟨g, 0, none⟩) m cap) xs ∧ w.grownBy (w.setCells g o vs) (some g) := by
 obtain ⟨hok, inner, ⟨Aa, Ab⟩, hr⟩ := h
 rcases Ab with ⟨hv, _⟩ | ⟨g', cap', cur, hv, hb, hh, hnc, hcm, hcs, ht⟩
 ·cases hv
 injection hv with ha hn hc; injection ha with ha; injection ha with hg; subst hg; subst hc; have hcz : cur.size = cap * 2 := hcs; obtain ⟨cur', h3, h4, h5⟩ := setCells_row vs o w cur hh (by omega); obtain ⟨s1, s2, s3, s4⟩ := setCells_same g vs o w; have hsz : (k79).sz = 2 := rfl; have hml : m = xs.length := hn
 have ht' : cur'.toList.take (xs.length * (k79).sz) = inner := by
  have hle : xs.length * (k79).sz ≤ o := by rw [hsz]; omega
  have hlo : o ≤ cur.toList.length := by rw [Array.length_toList, hcz]; omega
  rw [h5, List.append_assoc, List.take_append_of_le_length (by rw [List.length_take, Nat.min_eq_left hlo]; exact hle), List.take_take, Nat.min_eq_left hle]
  exact ht
 refine ⟨⟨hok, inner, ⟨Aa, .inr ⟨g, cap, cur', by rw [hn], hb, h3, hnc, hcm, by rw [h4]; exact hcs, ht'⟩⟩, hr.imp_ (fun p c hp => ?_)⟩, ⟨s1, s2, s3, Nat.le_of_eq s4.symm, fun k hk hne => ?_⟩⟩
 ·rw [k79_openM hp]
  exact k79_mkM _ _ _ _
 ·exact setCells_far vs o k (fun e => hne (by rw [e]))
theorem clear_sw (w : World) (g i m c : Nat) (cur : Array Value) (ty : TypeId) (hh : w.heap[g]? = some (.cells cur 79 (0, 0))) (hm : 0 < m) (hl : i + m * 2 ≤ cur.size) :
  (Builtin.clear_ #[47] ty #[.slice (some ⟨g, i, none⟩) m c]).run Try.prog w = .ok (.tuple #[]) (w.setCells g i (Builtin.zeroCells #[.int .i64 0, .int .i64 0] m).toList) := by
 have hlen : (Builtin.zeroCells #[.int .i64 0, .int .i64 0] m).toList.length = m * 2 := by rw [Array.length_toList, size_zeroCells]; rfl
 have hst := run_storeCells_cells (P := Try.prog) g i (Builtin.zeroCells #[.int .i64 0, .int .i64 0] m).toList 0 w
  (by intro j hj; rw [hlen] at hj; rw [blk_cell hh (i + 0 + j)]; simp; omega)
  (by intro j hj; exact blk_frozen hh _)
  (by
   intro v hv; rw [Array.mem_toList_iff] at hv
   unfold Builtin.zeroCells at hv
   rw [Array.mem_map] at hv; obtain ⟨k, _, rfl⟩ := hv; have hk : k % 2 < 2 := Nat.mod_lt _ (by decide)
   have h5 : k % 2 = 0 ∨ k % 2 = 1 := by omega
   rcases h5 with h | h <;> (simp only [List.size_toArray, List.length_cons, List.length_nil, Nat.zero_add, Nat.reduceAdd, h]; rfl))
 simp only [Nat.add_zero] at hst
 obtain ⟨m, rfl⟩ : ∃ q, m = q + 1 := ⟨m - 1, by omega⟩; have hz : (Value.agg #[.int .i64 0, .int .i64 0]).cells = #[.int .i64 0, .int .i64 0] := rfl
 simp [Builtin.clear_, hz, run_underlying Try.underlying47, Try.zeroValue79, hst]
theorem Compact_sw (u : Value) (xs : List S79) (w0 w : World) (hB : Below w0.heap.size w0 w) (Aa : Kd.R k79 79 w w0.heap.size (fun _ => True) u xs) (hl : xs.length ≤ 1000000) :
  Calls Try.prog 83 #[u] w fun e w' => ∃ v, e = .returned v ∧ Kd.R k79 79 w' w0.heap.size (fun _ => True) v (compP xs) ∧ Below w0.heap.size w0 w' := by
 have hu_ := Try.underlying79
 have hgd : Try.prog.eqGuardType Try.prog.depth 79 = false := by kernel_rfl
 by_cases h2 : xs.length < 2
 ·have e := compP_short xs h2
  rw [e]; obtain ⟨A, cap, rfl⟩ := Kd.R_slice Aa; have c0 : decide ((xs.length : Int) < 2) = true := decide_eq_true (by omega); have c1 : decide (xs.length < 2) = true := decide_eq_true h2; have HR := Aside0.mk Aa; have HB := Aside0.mk hB; clear e h2 Aa hB hl
  go_enter Try.func83, Try.ntmps83
  go_wp2
  go_ret
  exact ⟨_, Z111, HR.out, HB.out⟩
 ·obtain ⟨b, cap, he, hge, hgl, _⟩ := Kd.R_form Aa (by omega)
  subst he; have hnc := (Kd.R_reads' Aa).2.1; have HL := aM (show xs.length ≤ 1000000 ∧ xs.length ≤ cap ∧ 2 ≤ xs.length from ⟨hl, hnc, by omega⟩); have Ac : decide ((xs.length : Int) < 2) = false := decide_eq_false (by omega); have Ad : decide (xs.length < 2) = false := decide_eq_false h2; have HR := Aside0.mk Aa; have HB := Aside0.mk hB
  have h1 : keepP xs 1 = xs.take 1 := by
   rw [show (1 : Nat) = 0 + 1 from rfl, take_getD xs 0 (by omega), keepP_succ]
   rfl
  have HK1 := Aside0.mk h1; clear Aa hB hl hnc h2 hge hgl h1
  go_enter Try.func83, Try.ntmps83
  go_wp2
  clear Ac Ad
  go_loopg [3] xs.length (fun gg s3 wr => ∃ x : Int, s3 = .int .i64 x ∧ Aside0 (1 ≤ x ∧ x ≤ (xs.length : Int) ∧ (xs.length : Int) - x ≤ gg) ∧ Aside0 (keepP xs x.toNat = xs.take x.toNat) ∧ Aside0 (Kd.R k79 79 wr w0.heap.size (fun _ => True) (.slice (some ⟨b, 0, none⟩) xs.length cap) xs) ∧ Aside0 (Below w0.heap.size w0 wr))
  case atStart => exact ⟨1, rfl, ⟨by omega, by have := HL.out; omega, by omega⟩, HK1, HR, HB⟩
  case round =>
   clear HR HB HK1; obtain ⟨x, rfl, HX, HK, RO, BW⟩ := hrel
   by_cases hlt : x < (xs.length : Int)
   ·have c0 : decide (x < (xs.length : Int)) = true := decide_eq_true hlt
    obtain ⟨ad, e0, b0, b1⟩ := at_T79 (Kd.R_reads' RO.out).2.2 (x) Z168 hlt; obtain rfl := Option.some.inj e0; rw [addrP] at b0 b1; obtain ⟨ad, e0, m0, m1⟩ := at_T79 (Kd.R_reads' RO.out).2.2 (x - 1) Z168 (by omega); obtain rfl := Option.some.inj e0; rw [addrP] at m0 m1; rw [show (x - 1).toNat = x.toNat - 1 from by omega] at m0 m1; have q0 := eq_true (show 0 ≤ x from Z168); have q1 := eq_true hlt; have q2 := eq_true (show 1 ≤ x from Z168); have q3 := eq_true (show 0 ≤ x - 1 from Z168); have q4 := eq_true (show x - 1 < (xs.length : Int) from by omega)
    have wm : wrap64 (x - 1) = x - 1 := by have := HX.out; have := HL.out; unfold wrap64; omega
    have wm2 : IntKind.i64.wrap (x - 1) = x - 1 := IntWalk.i64_in _ Z194
    have wp_ : wrap64 (x + 1) = x + 1 := by have := HX.out; have := HL.out; unfold wrap64; omega
    have HLT := Aside0.mk hlt; obtain ⟨e, he⟩ : ∃ e, eqQ (rd_T79 xs x) (rd_T79 xs (x - 1)) = e := ⟨_, rfl⟩; have HE := Aside0.mk he; have heq := eqQ_run _ _ _ he; clear hlt he; cases e with
    | false =>
     go_wp2
     go_quiet (fail)
     go_wp2
     go_roundg (xs.length - (x.toNat + 1))
     case measure => have := HX.out; have := HLT.out; omega
     case rel =>
      refine ⟨x + 1, by first | rfl | rw [wp_] | simp [wp_], ⟨Z168, Z197, Z169⟩, ⟨?_⟩, ⟨by first | exact Kd.R_drewN RO.out _ | exact RO.out⟩, ⟨by first | exact pw_below_drewN BW.out _ | exact BW.out⟩⟩; have Ae := HX.out; have Af := HLT.out
      have hn : newAt xs x.toNat = true := by
       have h3 := HE.out; have e1 : rd_T79 xs x = xs.getD x.toNat z79 := rfl
       have e2 : rd_T79 xs (x - 1) = xs.getD (x.toNat - 1) z79 := by
        show xs.getD (x - 1).toNat z79 = _
        rw [show (x - 1).toNat = x.toNat - 1 from by omega]
       rw [e1, e2] at h3
       unfold newAt
       rw [h3]
       simp
      rw [show (x + 1).toNat = x.toNat + 1 from by omega, keepP_succ, hn, if_pos rfl, take_getD xs x.toNat (by omega), HK.out]
    | true =>
     have hn : newAt xs x.toNat = false := by
      have Ae := HX.out; have Af := HLT.out; have h3 := HE.out; have e1 : rd_T79 xs x = xs.getD x.toNat z79 := rfl
      have e2 : rd_T79 xs (x - 1) = xs.getD (x.toNat - 1) z79 := by
       show xs.getD (x - 1).toNat z79 = _
       rw [show (x - 1).toNat = x.toNat - 1 from by omega]
      rw [e1, e2] at h3
      unfold newAt
      rw [h3, decide_eq_false (by omega)]
      rfl
     have HS : Aside0 (xs.take x.toNat = keepP xs (x.toNat + 1)) := ⟨by rw [keepP_succ, hn, if_neg (by decide), List.append_nil, HK.out]⟩
     have hcap : ¬ cap = x.toNat := by have := HX.out; have := HLT.out; have := HL.out; omega
     obtain ⟨i0, hi0, _, hsz0, _⟩ := info_parts info79; have hcutF := cut_from 47 79 .i64 Try.underlying47 hi0 2 hsz0 (some ⟨b, 0, none⟩) xs.length cap x Z168 Z169; rw [if_neg hcap] at hcutF
     have ea : (some (⟨b, 0, none⟩ : Addr)).map (·.add (x.toNat * 2)) = some ⟨b, x.toNat * 2, none⟩ := by
      show some ((⟨b, 0, none⟩ : Addr).add (x.toNat * 2)) = _
      rw [addrP]
     rw [ea] at hcutF; obtain ⟨m, hm⟩ : ∃ m, m = xs.length - x.toNat := ⟨_, rfl⟩; rw [← hm] at hcutF; have HM : Aside0 (x.toNat + m = xs.length ∧ 1 ≤ m) := ⟨Z169⟩; clear hn hcap ea hi0 hsz0 hm
     go_wp2
     go_quiet (fail)
     go_wp2
     have R1 := aM (Kd.R_drewN RO.out nq); have B1 := aM (pw_below_drewN BW.out nq); clear b0 b1 m0 m1 q0 q1 q2 q3 q4 wm wm2 wp_ heq hcutF
     go_loopg [3, 5] m (fun gg s3 s5 wr2 => ∃ (i j : Int) (ys : List S79), s3 = .int .i64 i ∧ s5 = .int .i64 j ∧ Aside0 (x ≤ i ∧ i < x + j ∧ 1 ≤ j ∧ j ≤ (m : Int) ∧ (m : Int) - j ≤ gg) ∧ Aside0 (ys.length = xs.length ∧ ys.take i.toNat = keepP xs (x.toNat + j.toNat) ∧ ys.drop i.toNat = xs.drop i.toNat) ∧ Aside0 (Kd.R k79 79 wr2 w0.heap.size (fun _ => True) (.slice (some ⟨b, 0, none⟩) xs.length cap) ys) ∧ Aside0 (Below w0.heap.size w0 wr2))
     case atStart => exact ⟨x, 1, xs, rfl, rfl, ⟨by omega, by omega, by omega, by have := HM.out; omega, by omega⟩, ⟨rfl, HS.out, rfl⟩, R1, B1⟩
     case round =>
      clear R1 B1; obtain ⟨i, j, ys, rfl, rfl, HI, HY, RY, BY⟩ := hrel; have HX0 : Aside0 (1 ≤ x ∧ x < (xs.length : Int) ∧ x.toNat + m = xs.length ∧ xs.length ≤ 1000000 ∧ xs.length ≤ cap) := ⟨HX.out.1, HLT.out, HM.out.1, HL.out.1, HL.out.2.1⟩; clear HX HLT HM HL HK HE HS c0
      by_cases hlt2 : j < (m : Int)
      ·have c0 : decide (j < (m : Int)) = true := decide_eq_true hlt2
       have Ab := HX0.out; have hi0 := HI.out; have hyl := HY.out.1; obtain ⟨X, hX⟩ : ∃ X, X = xs.getD (x.toNat + j.toNat) z79 := ⟨_, rfl⟩; obtain ⟨Y, hY⟩ : ∃ Y, Y = xs.getD (x.toNat + j.toNat - 1) z79 := ⟨_, rfl⟩
       have e1 : rd_T79 ys (x + j) = X := by
        rw [hX]
        show ys.getD (x + j).toNat z79 = _
        rw [show (x + j).toNat = x.toNat + j.toNat from by omega]
        exact drop_getD HY.out.2.2 (by omega)
       have e2 : rd_T79 ys (x + j - 1) = Y := by
        rw [hY]
        show ys.getD (x + j - 1).toNat z79 = _
        rw [show (x + j - 1).toNat = x.toNat + j.toNat - 1 from by omega]
        exact drop_getD HY.out.2.2 (by omega)
       obtain ⟨ad, e0, b0, b1⟩ := at_T79 (Kd.R_reads' RY.out).2.2 (x + j) (by omega) (by omega); obtain rfl := Option.some.inj e0; obtain ⟨ad, e0, m0, m1⟩ := at_T79 (Kd.R_reads' RY.out).2.2 (x + j - 1) (by omega) (by omega); obtain rfl := Option.some.inj e0; obtain ⟨ad, e0, o0, o1⟩ := at_T79 (Kd.R_reads' RY.out).2.2 i (by omega) (by omega); obtain rfl := Option.some.inj e0; rw [addrP] at b0 b1 m0 m1 o0 o1; rw [e1] at b0 b1; rw [e2] at m0 m1; rw [show (x + j).toNat * 2 = x.toNat * 2 + j.toNat * 2 from by omega] at b0 b1; rw [show (x + j - 1).toNat * 2 = x.toNat * 2 + (j.toNat - 1) * 2 from by omega] at m0 m1
       have HOLD : Aside0 (∀ (q k : Nat) (u : Value), [.int .i64 (rd_T79 ys i).f0, .int .i64 (rd_T79 ys i).f1][k]? = some u → (wr.drewN q).cell? ⟨b, i.toNat * 2 + k, none⟩ = some u) := ⟨fun q k u hu => by
        have h5 : k = 0 ∨ k = 1 := by
         rcases Nat.lt_or_ge k 2 with h | h
         ·omega
         ·rw [List.getElem?_eq_none (by simpa using h)] at hu; cases hu
        rcases h5 with rfl | rfl
        ·injection hu with hu; subst hu; exact o0
        ·injection hu with hu; subst hu; exact o1⟩
       obtain ⟨e, he⟩ : ∃ e, eqQ X Y = e := ⟨_, rfl⟩; have heq := eqQ_run _ _ _ he
       have HNEW : Aside0 (newAt xs (x.toNat + j.toNat) = !e) := ⟨by
        unfold newAt
        rw [← hX, ← hY, he, decide_eq_false (by omega), Bool.false_or]⟩
       have HXX := Aside0.mk hX; have HLT2 := Aside0.mk hlt2
       have w1j : wrap64 (j + 1) = j + 1 := by unfold wrap64; omega
       have w1i : wrap64 (i + 1) = i + 1 := by unfold wrap64; omega
       have wm2 : IntKind.i64.wrap (j - 1) = j - 1 := IntWalk.i64_in _ (by omega)
       have hp0 : 0 ≤ i := by omega
       have hp1 : i < (xs.length : Int) := by omega
       have q0 := eq_true (show 0 ≤ j from by omega); have q1 := eq_true hlt2; have q2 := eq_true (show 1 ≤ j from by omega); have q3 := eq_true (show 0 ≤ j - 1 from by omega); have q4 := eq_true (show j - 1 < (m : Int) from by omega); have q5 := eq_true hp0; have q6 := eq_true hp1; have HP := aM (And.intro hp0 hp1); clear hlt2 he hX hY o0 o1 e1 e2 Ab hi0 hp0 hp1; cases e with
       | true =>
        go_wp2
        go_quiet (fail)
        go_wp2
        go_roundg (m - (j.toNat + 1))
        case measure => have := HI.out; have := HLT2.out; omega
        case rel =>
         refine ⟨i, j + 1, ys, rfl, by first | rfl | rw [w1j] | simp [w1j], ⟨HI.out.1, by have := HI.out; omega, by have := HI.out; omega, by have := HLT2.out; omega, by have := HI.out; have := HLT2.out; omega⟩, ⟨hyl, ?_, HY.out.2.2⟩, ⟨Kd.R_drewN RY.out _⟩, ⟨pw_below_drewN BY.out _⟩⟩; rw [show (j + 1).toNat = j.toNat + 1 from by have := HI.out; omega, ← Nat.add_assoc, keepP_succ, HNEW.out, if_neg (by decide), List.append_nil]
         exact HY.out.2.1
       | false =>
        go_wp2
        go_quiet (fail)
        have RY2 := aM (Kd.R_drewN RY.out nq); have BY2 := aM (pw_below_drewN BY.out nq)
        go_wp2_with (first | ((with_reducible refine gate_store (p := 51) rfl ?_); refine Kd.R_store k79 (w0 := w0) w0.heap.size rfl rfl 79 (.tmp 51) (.tmp 50) rfl 79 (g := b) (n := xs.length) (cap := cap) i 0 ys X (.agg #[.int .i64 X.f0, .int .i64 X.f1]) [.int .i64 X.f0, .int .i64 X.f1] [.int .i64 (rd_T79 ys i).f0, .int .i64 (rd_T79 ys i).f1] (fun _ => True) (fun _ => False) rfl ?so rfl rfl ?st ?s1 RY2.out HP.out.1 HP.out.2 rfl (HOLD.out nq) (Nat.le_of_eq rfl) ?sm (fun _ h => h.elim) BY2.out ?_; (case so => first | rfl | (simp; done)); (case st => exact info_sizeP); (case s1 => intro q hq; simp only [List.mem_cons, List.not_mem_nil, or_false] at hq; rcases hq with rfl | rfl <;> rfl); (case sm => exact k79_mkM _ _ _ _); intro w3 hR3 hB3 hg3; have Ag := Aside0.mk hR3; have Ah := Aside0.mk hB3; clear hR3 hB3 hg3))
        go_roundg (m - (j.toNat + 1))
        case measure => have := HI.out; have := HLT2.out; omega
        case rel =>
         have Ab := HX0.out; have hi0 := HI.out; have hj0 := HLT2.out; refine ⟨i + 1, j + 1, ys.set i.toNat X, by first | rfl | rw [w1i] | simp [w1i], by first | rfl | rw [w1j] | simp [w1j], ⟨by omega, by omega, by omega, by omega, by omega⟩, ⟨by rw [List.length_set]; exact hyl, ?_, ?_⟩, Ag, Ah⟩
         ·rw [show (j + 1).toNat = j.toNat + 1 from by omega, ← Nat.add_assoc, keepP_succ, HNEW.out, if_pos (show (!false) = true from rfl), ← HY.out.2.1, ← HXX.out, show (i + 1).toNat = i.toNat + 1 from by omega]
          have hil : i.toNat < (ys.set i.toNat X).length := by rw [List.length_set, hyl]; omega
          rw [List.take_succ_eq_append_getElem hil, List.getElem_set_self, List.take_set_of_le (Nat.le_refl _)]
         ·have := HY.out.2.2
          rw [show (i + 1).toNat = i.toNat + 1 from by omega, List.drop_set_of_lt (by omega), ← List.drop_drop, ← List.drop_drop, this]
      ·have c0 : decide (j < (m : Int)) = false := decide_eq_false hlt2
       have Ab := HX0.out; have hi0 := HI.out; have HYL := HY.out.1
       have hjn : j = (m : Int) := by omega
       have HI2 : Aside0 (i.toNat < xs.length ∧ 0 ≤ i) := ⟨by omega, by omega⟩
       have HT : Aside0 (ys.take i.toNat = compP xs) := ⟨by
        rw [HY.out.2.1, show x.toNat + j.toNat = xs.length from by omega]
        rfl⟩
       have HL := Aside0.mk Ab.2.2.2; clear hlt2 hjn Ab hi0; obtain ⟨i0, hi0, _, hsz0, _⟩ := info_parts info79; have hcutT := cut_to 47 79 .i64 Try.underlying47 hi0 (some ⟨b, 0, none⟩) xs.length cap i HI2.out.2 Z198 HL.out.2; have hcutF := cut_from 47 79 .i64 Try.underlying47 hi0 2 hsz0 (some ⟨b, 0, none⟩) xs.length cap i HI2.out.2 Z198; rw [if_neg (show ¬ cap = i.toNat from by have := HI2.out; have := HL.out; omega)] at hcutF
       have ea : (some (⟨b, 0, none⟩ : Addr)).map (·.add (i.toNat * 2)) = some ⟨b, i.toNat * 2, none⟩ := by
        show some ((⟨b, 0, none⟩ : Addr).add (i.toNat * 2)) = _
        rw [addrP]
       rw [ea] at hcutF; have hRt := Kd.R_take RY.out (m := i.toNat) (by rw [HYL]; have := HI2.out; omega); rw [HT.out] at hRt; obtain ⟨cur, hh, hcs⟩ := row_block_sw RY.out Z198; have hclr := clear_sw wr b (i.toNat * 2) (xs.length - i.toNat) (cap - i.toNat) cur
       have hclr2 := fun ty => hclr ty hh Z198 (by rw [hcs]; have := HI2.out; have := HL.out; omega)
       have HBE := aM (R_beyond_sw hRt (Builtin.zeroCells #[.int .i64 0, .int .i64 0] (xs.length - i.toNat)).toList (Nat.le_refl _) (by rw [Array.length_toList, size_zeroCells]; show _ + (xs.length - i.toNat) * 2 ≤ _; have := HI2.out; have := HL.out; omega)); have HBG := aM (Kd.R_base RY.out b (by simp [Value.ownBlock]))
       generalize (Builtin.zeroCells #[.int .i64 0, .int .i64 0] (xs.length - i.toNat)).toList = zs at hclr2 HBE
       clear ea hRt hclr hh hcs hsz0 hi0
       go_wp2
       go_ret
       exact ⟨_, Z111, HBE.out.1, BY.out.grown HBE.out.2 BY.out.size (fun k hk => by injection hk with hk; subst hk; exact HBG.out)⟩
   ·have c0 : decide (x < (xs.length : Int)) = false := decide_eq_false hlt
    have HT : Aside0 (compP xs = xs) := ⟨by
     have h1 := HK.out; rw [show x.toNat = xs.length from Z168, List.take_length] at h1
     exact h1⟩
    clear hlt
    go_wp2
    go_ret
    rw [HT.out]
    exact ⟨_, Z111, RO.out, BW.out⟩
set_option maxHeartbeats 4000000 in
set_option maxRecDepth 100000 in
theorem IndexFunc_ch1 (p : Bool) (g : Nat) (lb : Array Value) (b : Nat) (u0 v0 : Int) (s0 : Value) (w : World) (eg : ∀ args w, (callFunc g args).run Try.prog w = .ok (.enter g args) w) (hz : ∀ W, Below w.heap.size w W → W.cell? ⟨b, 0, none⟩ = some (.int .i64 u0) ∧ W.cell? ⟨b, 1, none⟩ = some (.int .i64 v0) ∧ W.cell? ⟨b, 2, none⟩ = some s0) (hp0 : ∀ W, Below w.heap.size w W → Calls Try.prog g (#[.agg #[.int .i64 u0, .int .i64 v0, s0]] ++ lb) W fun e w' => e = .returned (.bool p) ∧ Below W.heap.size W w') :
  Calls Try.prog 120 #[.slice (some ⟨b, 0, none⟩) 1 1, .func (.func g) #[] lb] w fun e w' => e = .returned (.int .i64 (if p = true then 0 else -1)) ∧ Below w.heap.size w w' := by
 have hu28 := Try.underlying28; have HZ := Aside0.mk hz; have Aa := Aside0.mk hp0; clear hz hp0; cases p with
 | true =>
  rw [if_pos rfl]
  go_enter Try.func120, Try.ntmps120
  go_wp2
  go_loopg [5, 8] 1 (fun gg _ s8 wr => ∃ x : Int, s8 = .int .i64 x ∧ Aside0 (x = 0 ∧ 1 ≤ gg) ∧ Aside0 (Below w.heap.size w wr))
  case atStart => exact ⟨0, rfl, ⟨rfl, by omega⟩, ⟨Below.refl _ _⟩⟩
  case round =>
   obtain ⟨x, rfl, HX, BW⟩ := hrel; obtain rfl := HX.out.1; clear HX; obtain ⟨z0, z1, z2⟩ := HZ.out _ BW.out
   go_wp2_with fail
   refine (Aa.out _ BW.out).mono ?_; rintro e w' ⟨rfl, hb'⟩; have HB := aM (below_step BW.out hb'); clear hb'
   go_wp2
   go_ret
   exact ⟨Z111, HB.out⟩
 | false =>
  rw [if_neg (by decide)]
  go_enter Try.func120, Try.ntmps120
  go_wp2
  go_loopg [5, 8] 1 (fun gg _ s8 wr => ∃ x : Int, s8 = .int .i64 x ∧ Aside0 (0 ≤ x ∧ x ≤ 1 ∧ 1 - x ≤ gg) ∧ Aside0 (Below w.heap.size w wr))
  case atStart => exact ⟨0, rfl, ⟨by omega, by omega, by omega⟩, ⟨Below.refl _ _⟩⟩
  case round =>
   obtain ⟨x, rfl, HX, BW⟩ := hrel
   have hx : x = 0 ∨ x = 1 := by have := HX.out; omega
   rcases hx with rfl | rfl
   ·skip
    obtain ⟨z0, z1, z2⟩ := HZ.out _ BW.out
    go_wp2_with fail
    refine (Aa.out _ BW.out).mono ?_; rintro e w' ⟨rfl, hb'⟩; have HB := aM (below_step BW.out hb'); clear hb'
    go_wp2
    go_roundg 0
    case measure => have := HX.out; omega
    case rel => exact ⟨1, Z111, ⟨by omega, by omega, by omega⟩, HB⟩
   ·go_wp2
    go_ret
    exact ⟨Z111, BW.out⟩
set_option maxHeartbeats 4000000 in
set_option maxRecDepth 100000 in
theorem ContainsFunc_ch1 (p : Bool) (g : Nat) (lb : Array Value) (b : Nat) (u0 v0 : Int) (s0 : Value) (w : World) (eg : ∀ args w, (callFunc g args).run Try.prog w = .ok (.enter g args) w) (hz : ∀ W, Below w.heap.size w W → W.cell? ⟨b, 0, none⟩ = some (.int .i64 u0) ∧ W.cell? ⟨b, 1, none⟩ = some (.int .i64 v0) ∧ W.cell? ⟨b, 2, none⟩ = some s0) (hp0 : ∀ W, Below w.heap.size w W → Calls Try.prog g (#[.agg #[.int .i64 u0, .int .i64 v0, s0]] ++ lb) W fun e w' => e = .returned (.bool p) ∧ Below W.heap.size W w') :
  Calls Try.prog 105 #[.slice (some ⟨b, 0, none⟩) 1 1, .func (.func g) #[] lb] w fun e w' => e = .returned (.bool p) ∧ Below w.heap.size w w' := by
 have HC := aM (IndexFunc_ch1 p g lb b u0 v0 s0 w eg hz hp0); clear hz hp0 eg; cases p with
 | true =>
  rw [if_pos rfl] at HC
  go_enter Try.func105, Try.ntmps105
  go_wp2_with fail
  refine HC.out.mono ?_; rintro e w' ⟨rfl, hb'⟩
  go_wp2
  go_ret
  exact ⟨Z111, hb'⟩
 | false =>
  rw [if_neg (by decide)] at HC
  go_enter Try.func105, Try.ntmps105
  go_wp2_with fail
  refine HC.out.mono ?_; rintro e w' ⟨rfl, hb'⟩
  go_wp2
  go_ret
  exact ⟨Z111, hb'⟩
set_option maxHeartbeats 4000000 in
set_option maxRecDepth 100000 in
theorem areAll_ch1 (p : Bool) (g : Nat) (lb : Array Value) (b : Nat) (u0 v0 : Int) (s0 : Value) (w : World) (eg : ∀ args w, (callFunc g args).run Try.prog w = .ok (.enter g args) w) (hz : ∀ W, Below w.heap.size w W → W.cell? ⟨b, 0, none⟩ = some (.int .i64 u0) ∧ W.cell? ⟨b, 1, none⟩ = some (.int .i64 v0) ∧ W.cell? ⟨b, 2, none⟩ = some s0) (hp0 : ∀ W, Below w.heap.size w W → Calls Try.prog g (#[.agg #[.int .i64 u0, .int .i64 v0, s0]] ++ lb) W fun e w' => e = .returned (.bool p) ∧ Below W.heap.size W w') :
  Calls Try.prog 91 #[.slice (some ⟨b, 0, none⟩) 1 1, .func (.func g) #[] lb] w fun e w' => e = .returned (.bool p) ∧ Below w.heap.size w w' := by
 have hmf : ∀ (fn : Fn) (first cap : Array Value) (w : World), (Instr.makeFunc fn first cap).run Try.prog w = .ok (.func fn first cap) w := fun _ _ _ _ => rfl
 have hB1 : Below w.heap.size w (w.alloc (.cells #[.func (.func g) #[] lb] 77)) := below_alloc (Below.refl _ _) _
 have Aa : (w.alloc (.cells #[.func (.func g) #[] lb] 77)).cell? ⟨w.heap.size, 0, none⟩ = some (.func (.func g) #[] lb) := by simp
 have hsz : w.heap.size < (w.alloc (.cells #[.func (.func g) #[] lb] 77)).heap.size := by simp
 have HC := aM (ContainsFunc_ch1 (!p) 106 #[.pointer (some ⟨w.heap.size, 0, none⟩)] b u0 v0 s0 (w.alloc (.cells #[.func (.func g) #[] lb] 77)) (enters_of Try.func106 Z74 rfl)
  (fun W hW => hz W (hB1.trans (hW.mono hB1.size)))
  (fun W hW => areAll_ch_1 p g lb w.heap.size u0 v0 s0 W eg ((hW.cell (p := ⟨w.heap.size, 0, none⟩) hsz).trans Aa) (fun W1 h1 => hp0 W1 ((hB1.trans (hW.mono hB1.size)).trans (h1.mono (Nat.le_trans hB1.size hW.size)))) (Nat.lt_of_lt_of_le hsz hW.size)))
 have HB := Aside0.mk hB1
 have e : p = !(!p) := by cases p <;> rfl
 rw [e]; clear hB1 Aa hsz hp0 hz eg e
 go_enter Try.func91, Try.ntmps91
 go_wp2_with fail
 refine HC.out.mono ?_; rintro e w' ⟨rfl, hb'⟩
 go_wp2
 go_ret
 exact ⟨Z111, below_step HB.out hb'⟩
def impl_isSameSize.one (a0_0 a0_1 : Int) (l0_2 : List Int) (a1_0 a1_1 : Int) (l1_2 : List Int) : Option Bool := (impl_IsChart.f a0_0 a0_1 l0_2).bind fun b0 => (impl_IsChart.f a1_0 a1_1 l1_2).bind fun b1 => some (b0 && (b1 && (a1_0 == a0_0 && a1_1 == a0_1)))
theorem impl_isSameSize.calls1 (b : Nat) (Ab Ac : Int) (Ad : Option Addr) (Ae : Nat) (Aa : List Int) (Ag Ah : Int) (Ai : Option Addr) (Aj : Nat) (Af : List Int) (r : Bool) (w : World) (Ak : Kd.C (Kd.int .i64) w Ad Aa.length Aa) (Al : Aa.length ≤ Ae) (Am : Kd.C (Kd.int .i64) w Ai Af.length Af) (An : Af.length ≤ Aj) (h : impl_isSameSize.one Ab Ac Aa Ag Ah Af = some r)
  (hz : ∀ W, Below w.heap.size w W → W.cell? ⟨b, 0, none⟩ = some (.int .i64 Ag) ∧ W.cell? ⟨b, 1, none⟩ = some (.int .i64 Ah) ∧ W.cell? ⟨b, 2, none⟩ = some (.slice Ai Af.length Aj)) :
  Calls Try.prog 59 #[.agg #[.int .i64 Ab, .int .i64 Ac, .slice Ad Aa.length Ae], .slice (some ⟨b, 0, none⟩) 1 1] w fun e w' => e = .returned (.bool r) ∧ Below w.heap.size w w' := by
 have hu28 := Try.underlying28
 have hmf : ∀ (fn : Fn) (first cap : Array Value) (w : World), (Instr.makeFunc fn first cap).run Try.prog w = .ok (.func fn first cap) w := fun _ _ _ _ => rfl
 unfold impl_isSameSize.one at h
 obtain ⟨b0, hb0, h⟩ := Option.bind_eq_some_iff.mp h; obtain ⟨b1, hb1, h⟩ := Option.bind_eq_some_iff.mp h; obtain rfl := Option.some.inj h; clear h; have hB1 : Below w.heap.size w (w.alloc (.cells #[.int .i64 Ab, .int .i64 Ac, .slice Ad Aa.length Ae] 28)) := below_alloc (Below.refl _ _) _; have hk := heap_alloc_new w (.cells #[.int .i64 Ab, .int .i64 Ac, .slice Ad Aa.length Ae] 28)
 have hs : w.heap.size < (w.alloc (.cells #[.int .i64 Ab, .int .i64 Ac, .slice Ad Aa.length Ae] 28)).heap.size := by simp
 have CELLS : Aside0 (∀ W', Below (w.alloc (.cells #[.int .i64 Ab, .int .i64 Ac, .slice Ad Aa.length Ae] 28)).heap.size (w.alloc (.cells #[.int .i64 Ab, .int .i64 Ac, .slice Ad Aa.length Ae] 28)) W' → W'.cell? ⟨w.heap.size, 0, none⟩ = some (.int .i64 Ab) ∧ W'.cell? ⟨w.heap.size, 1, none⟩ = some (.int .i64 Ac) ∧ W'.cell? ⟨w.heap.size, 2, none⟩ = some (.slice Ad Aa.length Ae)) :=
  ⟨fun W' h => ⟨(h.cell (p := ⟨w.heap.size, 0, none⟩) hs).trans ((blk_cell hk 0).trans rfl), (h.cell (p := ⟨w.heap.size, 1, none⟩) hs).trans ((blk_cell hk 1).trans rfl), (h.cell (p := ⟨w.heap.size, 2, none⟩) hs).trans ((blk_cell hk 2).trans rfl)⟩⟩
 have HA : Aside0 (∀ W', Below w.heap.size w W' → _) := ⟨fun W' h => impl_IsChart.calls Ab Ac Ad Ae Aa b0 W' (Kd.C_below Ak h) Al hb0⟩
 have HF : Aside0 (∀ W', Below (w.alloc (.cells #[.int .i64 Ab, .int .i64 Ac, .slice Ad Aa.length Ae] 28)).heap.size (w.alloc (.cells #[.int .i64 Ab, .int .i64 Ac, .slice Ad Aa.length Ae] 28)) W' → Below w.heap.size w W' → _) := ⟨fun W' hV hB => areAll_ch1 (b1 && (Ag == Ab && Ah == Ac)) 92 #[.pointer (some ⟨w.heap.size, 0, none⟩)] b Ag Ah (.slice Ai Af.length Aj) W' (enters_of Try.func92 Z74 rfl)
  (fun W2 h2 => hz W2 (hB.trans (h2.mono hB.size)))
  (fun W2 h2 => isSameSize_1 w.heap.size Ab Ac Ag Ah Ai Aj Af b1 W2 (Kd.C_below Am (hB.trans (h2.mono hB.size))) An hb1 ⟨(CELLS.out _ (hV.trans (h2.mono hV.size))).1, (CELLS.out _ (hV.trans (h2.mono hV.size))).2.1⟩ (Nat.lt_of_lt_of_le hs (Nat.le_trans hV.size h2.size)))⟩
 have HB := Aside0.mk hB1; clear hB1 hk hs hz Ak Al Am An hb0 hb1; cases b0 with
 | false =>
  rw [Bool.false_and]; clear HF
  go_enter Try.func59, Try.ntmps59
  obtain ⟨z0, z1, z2⟩ := CELLS.out _ (Below.refl _ _)
  go_wp2_with fail
  refine (HA.out _ HB.out).mono ?_; rintro e w1 ⟨rfl, hb'⟩
  go_wp2
  go_ret
  exact ⟨Z111, below_step HB.out hb'⟩
 | true =>
  rw [Bool.true_and]
  go_enter Try.func59, Try.ntmps59
  obtain ⟨z0, z1, z2⟩ := CELLS.out _ (Below.refl _ _)
  go_wp2_with fail
  refine (HA.out _ HB.out).mono ?_; rintro e w1 ⟨rfl, hb'⟩; have Ao := aM (below_step HB.out hb'); have HV1 := Aside0.mk hb'; clear hb' z0 z1 z2
  go_wp2_with fail
  refine (HF.out _ HV1.out Ao.out).mono ?_; rintro e w2 ⟨rfl, hb'⟩
  go_wp2
  go_ret
  exact ⟨Z111, below_step Ao.out hb'⟩
def swAt (l0 l1 : List Int) (i : Nat) : Bool := l1.getD i 0 != l0.getD i 0
def pairsTo (l0 l1 : List Int) (j : Nat) : List S79 := ((List.range j).filter (swAt l0 l1)).map fun i => ⟨l0.getD i 0, l1.getD i 0⟩
theorem pairs_succ (l0 l1 : List Int) (j : Nat) : pairsTo l0 l1 (j + 1) = pairsTo l0 l1 j ++ if swAt l0 l1 j = true then [⟨l0.getD j 0, l1.getD j 0⟩] else [] := by
 unfold pairsTo
 rw [List.range_succ, List.filter_append, List.map_append]
 congr 1
 by_cases c : swAt l0 l1 j = true
 ·simp [c]
 ·simp [c]
theorem pairs_len (l0 l1 : List Int) (j : Nat) : (pairsTo l0 l1 j).length ≤ j := by
 have := List.length_filter_le (swAt l0 l1) (List.range j)
 unfold pairsTo
 rw [List.length_map]; rwa [List.length_range] at this
def impl_SwappedColors.f (a0_0 : Int) (a0_1 : Int) (l0_2 : List Int) (a1_0 : Int) (a1_1 : Int) (l1_2 : List Int) : Option (List S79 × Bool) := (impl_isSameSize.one a0_0 a0_1 l0_2 a1_0 a1_1 l1_2).bind fun s => if s = true then (if l0_2.length = l1_2.length ∧ l0_2.length ≤ 1000000 then some (compP (sortP (pairsTo l0_2 l1_2 l0_2.length)), true) else none) else some ([], false)
theorem impl_SwappedColors.calls (Ah : Int) (Ai : Int) (Aj : Option Addr) (Af : Nat) (Aa : List Int) (Ac : Int) (Ad : Int) (Ag : Option Addr) (Ae : Nat) (Ab : List Int) (r1 : List S79) (r2 : Bool) (w : World) (Ak : Kd.C (Kd.int .i64) w Aj Aa.length Aa) (Am : Aa.length ≤ Af) (Al : Kd.C (Kd.int .i64) w Ag Ab.length Ab) (An : Ab.length ≤ Ae) (h : impl_SwappedColors.f Ah Ai Aa Ac Ad Ab = some (r1, r2)) :
  Calls Try.prog 39 #[.agg #[.int .i64 Ah, .int .i64 Ai, .slice Aj Aa.length Af], .agg #[.int .i64 Ac, .int .i64 Ad, .slice Ag Ab.length Ae]] w fun e w' => ∃ v0_ : Value, e = .returned (.tuple #[v0_, .bool r2]) ∧ Kd.R k79 79 w' w.heap.size (fun _ => True) v0_ r1 ∧ Below w.heap.size w w' := by
 have hu28 := Try.underlying28; have hu79 := Try.underlying79; have hB0 : Below w.heap.size w (((w.alloc (.cells #[.int .i64 Ah, .int .i64 Ai, .slice Aj Aa.length Af] 28)).alloc (.cells #[.int .i64 Ac, .int .i64 Ad, .slice Ag Ab.length Ae] 28)).alloc (.cells #[.int .i64 Ac, .int .i64 Ad, .slice Ag Ab.length Ae] 28)) := below_alloc (below_alloc (below_alloc (Below.refl _ _) _) _) _; have Au := Aside0.mk hB0
 have hs1 : (w.alloc (.cells #[.int .i64 Ah, .int .i64 Ai, .slice Aj Aa.length Af] 28)).heap.size = w.heap.size + 1 := by simp
 have hs2 : ((w.alloc (.cells #[.int .i64 Ah, .int .i64 Ai, .slice Aj Aa.length Af] 28)).alloc (.cells #[.int .i64 Ac, .int .i64 Ad, .slice Ag Ab.length Ae] 28)).heap.size = w.heap.size + 2 := by simp
 have hk0 := heap_alloc_new w (.cells #[.int .i64 Ah, .int .i64 Ai, .slice Aj Aa.length Af] 28); have hk1 := heap_alloc_new (w.alloc (.cells #[.int .i64 Ah, .int .i64 Ai, .slice Aj Aa.length Af] 28)) (.cells #[.int .i64 Ac, .int .i64 Ad, .slice Ag Ab.length Ae] 28); have hk2 := heap_alloc_new ((w.alloc (.cells #[.int .i64 Ah, .int .i64 Ai, .slice Aj Aa.length Af] 28)).alloc (.cells #[.int .i64 Ac, .int .i64 Ad, .slice Ag Ab.length Ae] 28)) (.cells #[.int .i64 Ac, .int .i64 Ad, .slice Ag Ab.length Ae] 28); rw [hs1] at hk1; rw [hs2] at hk2; have Ao : Aside0 ((((w.alloc (.cells #[.int .i64 Ah, .int .i64 Ai, .slice Aj Aa.length Af] 28)).alloc (.cells #[.int .i64 Ac, .int .i64 Ad, .slice Ag Ab.length Ae] 28)).alloc (.cells #[.int .i64 Ac, .int .i64 Ad, .slice Ag Ab.length Ae] 28)).heap[w.heap.size]? = some (.cells #[.int .i64 Ah, .int .i64 Ai, .slice Aj Aa.length Af] 28 (0, 0))) := ⟨blk_alloc (blk_alloc hk0 _) _⟩; have Ap : Aside0 ((((w.alloc (.cells #[.int .i64 Ah, .int .i64 Ai, .slice Aj Aa.length Af] 28)).alloc (.cells #[.int .i64 Ac, .int .i64 Ad, .slice Ag Ab.length Ae] 28)).alloc (.cells #[.int .i64 Ac, .int .i64 Ad, .slice Ag Ab.length Ae] 28)).heap[w.heap.size + 1]? = some (.cells #[.int .i64 Ac, .int .i64 Ad, .slice Ag Ab.length Ae] 28 (0, 0))) := ⟨blk_alloc hk1 _⟩
 unfold impl_SwappedColors.f at h
 obtain ⟨s, hs, h2⟩ := Option.bind_eq_some_iff.mp h; clear h; have h := h2; clear h2
 have HS := aM (impl_isSameSize.calls1 (w.heap.size + 2) Ah Ai Aj Af Aa Ac Ad Ag Ae Ab s (((w.alloc (.cells #[.int .i64 Ah, .int .i64 Ai, .slice Aj Aa.length Af] 28)).alloc (.cells #[.int .i64 Ac, .int .i64 Ad, .slice Ag Ab.length Ae] 28)).alloc (.cells #[.int .i64 Ac, .int .i64 Ad, .slice Ag Ab.length Ae] 28)) (Kd.C_below Ak hB0) Am (Kd.C_below Al hB0) An hs
  (fun W hb => ⟨(hb.cell (p := ⟨w.heap.size + 2, 0, none⟩) (by simp)).trans ((blk_cell hk2 0).trans rfl), (hb.cell (p := ⟨w.heap.size + 2, 1, none⟩) (by simp)).trans ((blk_cell hk2 1).trans rfl), (hb.cell (p := ⟨w.heap.size + 2, 2, none⟩) (by simp)).trans ((blk_cell hk2 2).trans rfl)⟩))
 clear hk0 hk1 hk2 hs1 hs2 hB0 hs; cases s with
 | false =>
  rw [if_neg (by decide)] at h; obtain ⟨rfl, rfl⟩ := Prod.mk.inj (Option.some.inj h); clear Ak Am Al An h
  go_enter Try.func39, Try.ntmps39
  go_wp2_with fail
  refine HS.out.mono ?_; rintro e w1 ⟨rfl, hb⟩; have Aq := aM (below_step Au.out hb); clear hb
  go_wp2
  go_ret2
  exact ⟨_, Z111, Kd.R_nil _ _ _ _ _, Aq.out⟩
 | true =>
  rw [if_pos rfl] at h
  by_cases hg : Aa.length = Ab.length ∧ Aa.length ≤ 1000000
  case neg => rw [if_neg hg] at h; cases h
  rw [if_pos hg] at h; obtain ⟨rfl, rfl⟩ := Prod.mk.inj (Option.some.inj h); have HG := Aside0.mk hg; have Bf := Aside0.mk Ak; have Bg := Aside0.mk Al; have HSO : Aside0 (∀ (v : Value) (W : World), Below w.heap.size w W → Kd.R k79 79 W w.heap.size (fun _ => True) v (pairsTo Aa Ab Aa.length) → _) := ⟨fun v W hb hr => SortFunc_sw (fun _ => True) v (pairsTo Aa Ab Aa.length) w W hb hr (by have := pairs_len Aa Ab Aa.length; omega)⟩; have HCO : Aside0 (∀ (v : Value) (W : World), Below w.heap.size w W → Kd.R k79 79 W w.heap.size (fun _ => True) v (sortP (pairsTo Aa Ab Aa.length)) → _) := ⟨fun v W hb hr => Compact_sw v (sortP (pairsTo Aa Ab Aa.length)) w W hb hr (by have := pairs_len Aa Ab Aa.length; rw [sortP_len]; omega)⟩; clear Ak Am Al An h hg
  go_enter Try.func39, Try.ntmps39
  go_wp2_with fail
  refine HS.out.mono ?_; rintro e w1 ⟨rfl, hb⟩; have Aq := aM (below_step Au.out hb); have C0 := aM (blk_below Ao.out hb); have C1 := aM (blk_below Ap.out hb); clear hb HS Au Ao Ap
  go_wp2_with (first | ((with_reducible refine gate_dst (N := 14) rfl ?_); refine Kd.R_lit k79 _ 79 ?hg (N := 14) ?hd (xs := ([] : List S79)) (inner := []) (ok := fun _ => True) (okp := fun _ => True) ?hr ?hp (fun _ hk => hk) trivial (Below.refl _ _) (Nat.le_refl _) (by simp) ?_; (case hd => rfl); (case hg => rfl); (case hr => first | (go_simp; done) | (go_simp; rfl)); (case hp => exact (Reps.none _ _)); intro Bk w2 ho hb hg_ hnew_; have HO := aM (Kd.R_lower ho (below_size Aq.out)); have HB := aM (below_step Aq.out hb); have D0 := aM (blk_below C0.out hb); have D1 := aM (blk_below C1.out hb); have y0_ : w2.cell? ⟨w.heap.size, 2, none⟩ = some (.slice Aj Aa.length Af) := (blk_cell D0.out 2).trans rfl; clear hg_ hnew_ ho hb))
  clear Aq C0 C1
  go_loopg [6, 18] Aa.length (fun gg s6 Bh wr => ∃ (x : Int), Bh = .int .i64 x ∧ Aside0 (0 ≤ x ∧ x ≤ (Aa.length : Int) ∧ (Aa.length : Int) - x ≤ gg) ∧ Aside0 (Kd.R k79 79 wr w.heap.size (fun _ => True) s6 (pairsTo Aa Ab x.toNat)) ∧ Aside0 (Below w.heap.size w wr) ∧ Aside0 (wr.heap[w.heap.size]? = some (.cells #[.int .i64 Ah, .int .i64 Ai, .slice Aj Aa.length Af] 28 (0, 0))) ∧ Aside0 (wr.heap[w.heap.size + 1]? = some (.cells #[.int .i64 Ac, .int .i64 Ad, .slice Ag Ab.length Ae] 28 (0, 0))))
  case atStart => exact ⟨0, rfl, ⟨by omega, by omega, by omega⟩, HO, HB, D0, D1⟩
  case round =>
   clear HO HB D0 D1 y0_; obtain ⟨x, rfl, HX, RO, BW, Ao, Ap⟩ := hrel
   by_cases hlt : x < (Aa.length : Int)
   ·have c0 : decide (x < (Aa.length : Int)) = true := decide_eq_true hlt
    have Ar := HX.out.1
    have hlt1 : x < (Ab.length : Int) := by have := HG.out; omega
    obtain ⟨ad, e0, k0⟩ := Kd.at_int (Kd.C_below Bf.out BW.out) x Ar hlt; cases e0; obtain ⟨ad1, e1, k1⟩ := Kd.at_int (Kd.C_below Bg.out BW.out) x Ar hlt1; cases e1; have Av : wr.cell? ⟨w.heap.size, 0, none⟩ = some (.int .i64 Ah) := (blk_cell Ao.out 0).trans rfl; have Aw : wr.cell? ⟨w.heap.size, 1, none⟩ = some (.int .i64 Ai) := (blk_cell Ao.out 1).trans rfl; have Ax : wr.cell? ⟨w.heap.size, 2, none⟩ = some (.slice (some ad) Aa.length Af) := (blk_cell Ao.out 2).trans rfl; have Ay : wr.cell? ⟨w.heap.size + 1, 0, none⟩ = some (.int .i64 Ac) := (blk_cell Ap.out 0).trans rfl; have Az : wr.cell? ⟨w.heap.size + 1, 1, none⟩ = some (.int .i64 Ad) := (blk_cell Ap.out 1).trans rfl; have Ba : wr.cell? ⟨w.heap.size + 1, 2, none⟩ = some (.slice (some ad1) Ab.length Ae) := (blk_cell Ap.out 2).trans rfl
    have w1x : wrap64 (x + 1) = x + 1 := by have := HG.out; unfold wrap64; omega
    have q0 := eq_true Ar; have q1 := eq_true hlt; have q2 := eq_true hlt1; have HLT := Aside0.mk hlt
    have HPS : Aside0 (pairsTo Aa Ab (x + 1).toNat = pairsTo Aa Ab x.toNat ++ if (rd Ab x != rd Aa x) = true then [⟨rd Aa x, rd Ab x⟩] else []) := ⟨by
     rw [show (x + 1).toNat = x.toNat + 1 from by omega, pairs_succ]
     rfl⟩
    have HPL : Aside0 ((pairsTo Aa Ab x.toNat).length ≤ 1000000) := ⟨by have := pairs_len Aa Ab x.toNat; have := HG.out; omega⟩; obtain ⟨ys, hys⟩ : ∃ ys, ys = pairsTo Aa Ab x.toNat := ⟨_, rfl⟩; rw [← hys] at RO HPS HPL; clear hlt hlt1 Ar hys; cases hd : (rd Ab x != rd Aa x) with
    | true =>
     have HD := Aside0.mk hd
     have hd2 : (rd Ab x == rd Aa x) = false := by simpa using hd
     go_wp2_with (first | ((with_reducible refine gate_builtin (b := .append) (xs := #[.tmp 30, .tmp 38]) rfl ?_); at_builtin; refine Kd.R_append k79 (w0 := w) w.heap.size rfl (.tmp 30) (.tmp 38) 47 79 (.agg #[(.int .i64 0), (.int .i64 0)]) 16 rfl Try.underlying47 info79 rfl (by decide) (by omega) u6 ys (⟨rd Aa x, rd Ab x⟩ : S79) [.int .i64 (rd Aa x), .int .i64 (rd Ab x)] (fun _ => True) (fun _ => False) rfl rfl ?aP (fun _ hk => hk.elim) ?aF ?aO ?aB ?aS ?aL ?_; (case aP => exact k79_mkM _ _ _ (⟨rd Aa x, rd Ab x⟩ : S79)); (case aB => exact Z171); (case aF => exact (fun _ _ => trivial)); (case aO => exact (by (with_reducible repeat (first | apply Kd.R_alloc | apply Kd.R_drewN | apply Kd.R_drew)); exact RO.out)); (case aS => exact (below_size Z171)); (case aL => have := HPL.out; omega); intro Bl w4 ho hb hg hat; have n0_ := aM (blk_grown (g := w.heap.size) (o := .cells #[.int .i64 Ah, .int .i64 Ai, .slice (some ad) Aa.length Af] 28 (0, 0)) Z154 hg (Kd.R_ne RO.out Ao.out (by decide))); have n1_ := aM (blk_grown (g := w.heap.size + 1) (o := .cells #[.int .i64 Ac, .int .i64 Ad, .slice (some ad1) Ab.length Ae] 28 (0, 0)) (by (with_reducible repeat (first | refine blk_drewN ?_ _ | refine blk_drew ?_ | refine blk_alloc ?_ _)); exact Ap.out) hg (Kd.R_ne RO.out Ap.out (by decide))); have Bb := Aside0.mk hb; have Bi := Aside0.mk ho; clear ho hb hg hat))
     go_roundg (Aa.length - (x.toNat + 1))
     case measure => have := HX.out; have := HLT.out; omega
     case rel =>
      refine ⟨x + 1, Z195, ⟨Z168, Z197, Z169⟩, ⟨?_⟩, Bb, n0_, n1_⟩; rw [HPS.out, HD.out, if_pos rfl]
      exact Bi.out
    | false =>
     have HD := Aside0.mk hd
     have hd2 : (rd Ab x == rd Aa x) = true := by simpa using hd
     go_wp2
     go_roundg (Aa.length - (x.toNat + 1))
     case measure => have := HX.out; have := HLT.out; omega
     case rel =>
      refine ⟨x + 1, Z195, ⟨Z168, Z197, Z169⟩, ⟨?_⟩, BW, Ao, Ap⟩; rw [HPS.out, HD.out, if_neg (by decide), List.append_nil]
      exact RO.out
   ·have c0 : decide (x < (Aa.length : Int)) = false := decide_eq_false hlt
    have hxn : x.toNat = Aa.length := by have := HX.out; omega
    have hr := RO.out; rw [hxn] at hr; have h1 := HSO.out u6 wr BW.out hr; have H1 := Aside0.mk h1; clear hlt hxn hr h1
    go_wp2_with fail
    refine H1.out.mono ?_; rintro e w3 ⟨rfl, Bc, hb3⟩; have h2 := HCO.out u6 w3 hb3 Bc; have H2 := Aside0.mk h2; clear h2 Bc hb3
    go_wp2_with fail
    refine H2.out.mono ?_; rintro e w4 ⟨v4, rfl, Bd, hb4⟩; have Bj := Aside0.mk Bd; have Bb := Aside0.mk hb4; clear Bd hb4
    go_wp2
    go_ret2
    exact ⟨_, Z111, Bj.out, Bb.out⟩
def laws_vBig.f (l0 : List Int) : Option (Bool) := some (decide ((l0.length : Int) > 65536))
theorem laws_vBig.calls (A0 : Option Addr) (c0 : Nat) (l0 : List Int) (r : Bool) (w : World) (Aa : Kd.C (Kd.int .u8) w A0 l0.length l0) (Ab : l0.length ≤ c0) (h : laws_vBig.f l0 = some r) :
  Calls Try.prog 40 #[.slice A0 l0.length c0] w fun e w' => e = .returned (.bool r) ∧ Drawn0 w w' := by
 have Ac := Aside0.mk Aa; have Ad := Aside0.mk Ab; clear Aa Ab; have H : (some (decide ((l0.length : Int) > 65536))) = some r := h; clear h; obtain rfl := Option.some.inj H
 go_enter Try.func40, Try.ntmps40
 go_wp2
 go_ret
 exact ⟨Z18, Z60⟩
mutual
def spec_ShiftPhoto.j0 : Nat → Int → Int → Int → Bool → Int → Int → List Int → Option (Int × Int × List Int × Bool)
 | 0, _, _, _, _, _, _, _ => none
 | k + 1, x1, x2, x3, x24, x242000, x242001, x242002 => if x24 = true then (some (0, 0, ([] : List Int), false)) else (spec_ShiftPhoto.l0 k x1 x2 x3 0 x242000 x242001 x242002 x242000 x242001 (([] : List Int)))
def spec_ShiftPhoto.l0 : Nat → Int → Int → Int → Int → Int → Int → List Int → Int → Int → List Int → Option (Int × Int × List Int × Bool)
 | 0, _, _, _, _, _, _, _, _, _, _ => none
 | k + 1, x1, x2, x3, x11, x242000, x242001, x242002, x249000, x249001, x249002 => if x11 < x242001 then (spec_ShiftPhoto.l1 k x1 x2 x3 x11 0 x242000 x242001 x242002 x249000 x249001 x249002) else (some (x249000, x249001, x249002, true))
def spec_ShiftPhoto.l1 : Nat → Int → Int → Int → Int → Int → Int → Int → List Int → Int → Int → List Int → Option (Int × Int × List Int × Bool)
 | 0, _, _, _, _, _, _, _, _, _, _, _ => none
 | k + 1, x1, x2, x3, x11, x12, x242000, x242001, x242002, x249000, x249001, x249002 => if x12 < x242000 then ((spec_l2Within.f k x242000 x242001 x242002 (wrap64 (x11 + x1)) (wrap64 (x12 + x2))).bind fun t249 => (if t249 = true then ((spec_l2At.f x242000 x242001 x242002 (wrap64 (x11 + x1)) (wrap64 (x12 + x2))).bind fun t250 => (if x249002.length < 17592186044416 then (spec_ShiftPhoto.l1 k x1 x2 x3 x11 (wrap64 (x12 + 1)) x242000 x242001 x242002 x249000 x249001 (x249002 ++ [t250])) else (none))) else (if x249002.length < 17592186044416 then (spec_ShiftPhoto.l1 k x1 x2 x3 x11 (wrap64 (x12 + 1)) x242000 x242001 x242002 x249000 x249001 (x249002 ++ [x3])) else (none)))) else (spec_ShiftPhoto.l0 k x1 x2 x3 (wrap64 (x11 + 1)) x242000 x242001 x242002 x249000 x249001 x249002)
end
def spec_ShiftPhoto.f (k : Nat) (a0_0 : Int) (a0_1 : Int) (l0_2 : List Int) (a1 : Int) (a2 : Int) (a3 : Int) : Option (Int × Int × List Int × Bool) := (spec_l13Shift.f k a0_0 a0_1 l0_2 a0_0 a0_1 l0_2 a1 a2).bind fun t243 => (if t243 = true then ((spec_l2Color.f a3).bind fun t244 => (spec_ShiftPhoto.j0 k a1 a2 a3 (!t244) a0_0 a0_1 l0_2)) else (spec_ShiftPhoto.j0 k a1 a2 a3 true a0_0 a0_1 l0_2))
theorem spec_ShiftPhoto.calls (k : Nat) (Ad : Int) (Ae : Int) (Ax : Option Addr) (Ay : Nat) (Ah : List Int) (a1 : Int) (a2 : Int) (a3 : Int) (r1 : Int) (r2 : Int) (r3 : List Int) (r4 : Bool) (w : World) (Cv : Kd.C (Kd.int .i64) w Ax Ah.length Ah) (Cw : Ah.length ≤ Ay) (h : spec_ShiftPhoto.f k Ad Ae Ah a1 a2 a3 = some (r1, r2, r3, r4)) :
  Calls Try.prog 22 #[.agg #[.int .i64 Ad, .int .i64 Ae, .slice Ax Ah.length Ay], .int .i64 a1, .int .i64 a2, .int .i64 a3] w fun e w' => ∃ v2_ : Value, e = .returned (.tuple #[.agg #[.int .i64 r1, .int .i64 r2, v2_], .bool r4]) ∧ Kd.R (Kd.int .i64) 3 w' w.heap.size (fun _ => True) v2_ r3 ∧ Below w.heap.size w w' := by
 have hu28 := Try.underlying28; have Ba := Aside0.mk Cv; have Bb := Aside0.mk Cw; clear Cv Cw; have HB := aM (Below.refl w.heap.size w); have H : ((spec_l13Shift.f k Ad Ae Ah Ad Ae Ah a1 a2).bind fun Cl => (if Cl = true then ((spec_l2Color.f a3).bind fun Bc => (spec_ShiftPhoto.j0 k a1 a2 a3 (!Bc) Ad Ae Ah)) else (spec_ShiftPhoto.j0 k a1 a2 a3 true Ad Ae Ah))) = some (r1, r2, r3, r4) := h; clear h; have Fm := Aside0.mk H; clear H
 go_enter Try.func22, Try.ntmps22
 go_upto_region 1 with (first | ((with_reducible refine gate_dst (N := 4) rfl ?_); refine bxE 4 #[.int .i64 Ad, .int .i64 Ae, .slice Ax Ah.length Ay] 28 ?_; intro Br hg w6 hbox hb; have Aa := aM (hbox); have Fs := gwS hg Z0; have Aj := gwS hg Z0; replace HB := hbS Z0 hb; clear hb hbox hg) | ((with_reducible refine gate_dst (N := 8) rfl ?_); refine bxE 8 #[.int .i64 0, .int .i64 0, .slice none 0 0] 28 ?_; intro Aw hg w7 hbox hb; have Af := aM (hbox); have Ft := gwS hg Z131; have Ak := gwS hg Z131; replace HB := hbS Z131 hb; have An := nbL hg Aa; have Ao := nbG hg Aa; replace Aa := bkB Aa hb; clear hb hbox hg))
 (try simp only [Act.put, List.setIfInBounds_toArray, List.set_cons_zero, List.set_cons_succ])
 go_cut [24] (fun G2 wc => ∃ (kq : Nat) (Bv : Bool), G2 = .bool Bv ∧ Aside0 (spec_ShiftPhoto.j0 kq a1 a2 a3 Bv Ad Ae Ah = some (r1, r2, r3, r4)) ∧ Aside0 (kq ≤ k) ∧ Aside0 (wc.heap[Br]? = some (.cells #[.int .i64 Ad, .int .i64 Ae, (.slice Ax Ah.length Ay)] 28 (0, 0))) ∧ Aside0 (wc.heap[Aw]? = some (.cells #[.int .i64 0, .int .i64 0, (.slice none 0 0)] 28 (0, 0))) ∧ Aside0 (Below w.heap.size w wc))
 case first =>
  have H := Fm.out; clear Fm; replace H := Option.bind_eq_some_iff.mp H; obtain ⟨Cl, Fu, H⟩ := H; replace H : (if Cl = true then ((spec_l2Color.f a3).bind fun Bc => (spec_ShiftPhoto.j0 k a1 a2 a3 (!Bc) Ad Ae Ah)) else (spec_ShiftPhoto.j0 k a1 a2 a3 true Ad Ae Ah)) = some (r1, r2, r3, r4) := H; have A8 := Aside0.mk Fu; clear Fu
  by_cases c9 : Cl = true
  ·subst c9
   have H1 : ((spec_l2Color.f a3).bind fun Bc => (spec_ShiftPhoto.j0 k a1 a2 a3 (!Bc) Ad Ae Ah)) = some (r1, r2, r3, r4) := by rw [if_pos rfl] at H; exact H
   clear H; have H := H1; clear H1; replace H := Option.bind_eq_some_iff.mp H; obtain ⟨Bc, C5, H⟩ := H; replace H : (spec_ShiftPhoto.j0 k a1 a2 a3 (!Bc) Ad Ae Ah) = some (r1, r2, r3, r4) := H; have G3 := Aside0.mk C5; clear C5; have H' := Aside0.mk H; clear H; have Fv := An.out; have Fw := Ao.out; obtain ⟨Bd, Bf, Bg⟩ := bz3 Aa; obtain ⟨Bh, Bi, Bj⟩ := fz3 Aa
   go_wp2_with (first | ((with_reducible refine gate_callee (f := 52) rfl ?_); refine glE (some 18) Try.func52 #[.agg #[.int .i64 Ad, .int .i64 Ae, .slice Ax Ah.length Ay], .agg #[.int .i64 Ad, .int .i64 Ae, .slice Ax Ah.length Ay], .int .i64 a1, .int .i64 a2] ?_; (with_reducible refine (spec_l13Shift.calls k Ad Ae _ _ Ah Ad Ae _ _ Ah a1 a2 true _ ?side1 ?side2 ?side3 ?side4 A8.out).mono ?_); (case side1 => exact Z78); (case side2 => exact Bb.out); (case side3 => exact Z78); (case side4 => exact Bb.out); rintro e Hf ⟨rfl, hb⟩; refine ⟨_, rfl, ?_⟩; replace Aa := bkB Aa hb; replace Af := bkB Af hb; replace HB := hbS Z59 hb; (try clear hb)) | (go_at_call 63; (with_reducible refine (spec_l2Color.calls a3 Bc _ G3.out).mono ?_); rintro e w' ⟨rfl, ⟨nd, rfl⟩⟩))
   go_meet
   case rel => exact ⟨_, (!Bc), Z18, H', ⟨Z172⟩, ⟨Z26⟩, ⟨Z39⟩, ⟨Z59⟩⟩
  ·replace c9 := Bool.eq_false_iff.mpr c9
   subst c9
   have H1 : (spec_ShiftPhoto.j0 k a1 a2 a3 true Ad Ae Ah) = some (r1, r2, r3, r4) := by rw [if_neg (show ¬ (false = true) by decide)] at H; exact H
   clear H; have H := H1; clear H1; have H' := Aside0.mk H; clear H; have Fx := An.out; have Fy := Ao.out; obtain ⟨Bk, Bl, Bm⟩ := bz3 Aa; obtain ⟨Bn, Bo, Bp⟩ := fz3 Aa
   go_wp2_with (first | ((with_reducible refine gate_callee (f := 52) rfl ?_); refine glE (some 18) Try.func52 #[.agg #[.int .i64 Ad, .int .i64 Ae, .slice Ax Ah.length Ay], .agg #[.int .i64 Ad, .int .i64 Ae, .slice Ax Ah.length Ay], .int .i64 a1, .int .i64 a2] ?_; (with_reducible refine (spec_l13Shift.calls k Ad Ae _ _ Ah Ad Ae _ _ Ah a1 a2 false _ ?side1 ?side2 ?side3 ?side4 A8.out).mono ?_); (case side1 => exact Z78); (case side2 => exact Bb.out); (case side3 => exact Z78); (case side4 => exact Bb.out); rintro e Hg ⟨rfl, hb⟩; refine ⟨_, rfl, ?_⟩; replace Aa := bkB Aa hb; replace Af := bkB Af hb; replace HB := hbS Z59 hb; (try clear hb)))
   go_meet
   case rel => exact ⟨_, (true), Z18, H', ⟨Z172⟩, ⟨Z26⟩, ⟨Z39⟩, ⟨Z59⟩⟩
 case rest =>
  clear Fm; (try clear c1); (try clear c2); (try clear p2); (try clear c5); (try clear c9); (try clear Fz); (try clear F0); (try clear Bd); (try clear Bf); (try clear Bg); (try clear Bk); (try clear Bl); (try clear Bm); (try clear Bh); (try clear Bi); (try clear Bj); (try clear Bn); (try clear Bo); (try clear Bp); obtain ⟨kq, Bv, rfl, HA, HJ4, Aa, Af, HB⟩ := hcut; cases kq with
  | zero => exact absurd HA.out (by simp [spec_ShiftPhoto.j0])
  | succ Dj =>
   have H := HA.out; clear HA
   simp only [spec_ShiftPhoto.j0] at H
   by_cases C3 : Bv = true
   ·subst C3
    have H1 : (some (0, 0, ([] : List Int), false)) = some (r1, r2, r3, r4) := by rw [if_pos rfl] at H; exact H
    clear H; have H := H1; clear H1
    simp only [Option.some.injEq, Prod.mk.injEq] at H
    obtain ⟨rfl, rfl, rfl, rfl⟩ := H; have F1 := Ao.out; have F2 := An.out; obtain ⟨Bw, Bx, Bz⟩ := bz3 Af; obtain ⟨B0, B2, B6⟩ := fz3 Af
    go_wp2
    refine bodyPost_ret (results_ct rfl _ _ Aw 28 #[.int .i64 0, .int .i64 0, .slice none 0 0] (0, 0) _ rfl (by (with_reducible repeat (first | refine blk_drewN ?_ _ | refine blk_drew ?_ | refine blk_alloc ?_ _)); refine blk_put (cs := #[.int .i64 0, .int .i64 0, .slice none 0 0]) ?_ 2 _ rfl; (with_reducible repeat (first | refine blk_drewN ?_ _ | refine blk_drew ?_ | refine blk_alloc ?_ _)); refine blk_put (cs := #[.int .i64 0, .int .i64 0, .slice none 0 0]) ?_ 1 _ rfl; (with_reducible repeat (first | refine blk_drewN ?_ _ | refine blk_drew ?_ | refine blk_alloc ?_ _)); refine blk_put (cs := #[.int .i64 0, .int .i64 0, .slice none 0 0]) ?_ 0 _ rfl; (with_reducible repeat (first | refine blk_drewN ?_ _ | refine blk_drew ?_ | refine blk_alloc ?_ _)); exact Af.out) Try.underlying28 rfl Z74) rfl ?_
    exact ⟨_, Z10, Z141, Z59⟩
   ·replace C3 := Bool.eq_false_iff.mpr C3
    subst C3
    have H1 : (spec_ShiftPhoto.l0 Dj a1 a2 a3 0 Ad Ae Ah Ad Ae (([] : List Int))) = some (r1, r2, r3, r4) := by rw [if_neg (show ¬ (false = true) by decide)] at H; exact H
    clear H; have H := H1; clear H1; obtain ⟨Cm, Bs⟩ : ∃ y_ : List Int, y_ = (([] : List Int)) := ⟨_, rfl⟩
    replace H : (spec_ShiftPhoto.l0 Dj a1 a2 a3 0 Ad Ae Ah Ad Ae Cm) = some (r1, r2, r3, r4) := by first | (rw [Bs]; with_reducible exact H) | (have H2_ := (Option.bind_some _ _).symm.trans H; rw [Bs]; with_reducible exact H2_) | (have H2_ := (Option.bind_some _ _).symm.trans H; with_reducible exact H2_) | with_reducible exact H | (rw [Bs]; exact H) | exact H
    have Cx := Aside0.mk Bs; clear Bs; have H' := Aside0.mk H; clear H; have F3 := An.out; have F4 := Ao.out; obtain ⟨B7, B8, B9⟩ := bz3 Aa; obtain ⟨Ca, Cb, Cc⟩ := fz3 Aa
    go_wp2_with (first | ((with_reducible refine gate_dst (N := 30) rfl ?_); refine Kd.R_lit (Kd.int .i64) _ 3 ?hg (N := 30) ?hd (xs := ([] : List Int)) (inner := []) (ok := fun _ => True) (okp := fun _ => True) ?hr ?hp (fun _ hk => hk) trivial (Below.refl _ _) (Nat.le_refl _) (by simp) ?_; (case hd => rfl); (case hg => rfl); (case hr => first | (go_simp; done) | (go_simp; rfl)); (case hp => exact (Reps.none _ _)); intro G4 Hh Ck hb hg_ hnew_; clear hg_ hnew_; (first | rw [← Cx.out] at Ck | (simp only [Int.reduceToNat] at Ck; rw [← Cx.out] at Ck)); have Cd := aM (Kd.R_lower Ck (below_size Z59)); replace Aa := bkB Aa hb; replace Af := bkB Af hb; replace HB := hbS Z59 hb; clear hb Ck; obtain ⟨C6, C7, Fo⟩ := Kd.R_slice Cd.out; subst Fo) | ((with_reducible refine gate_dst (N := 10) rfl ?_); refine bxE 10 #[.int .i64 0, .int .i64 0, .slice none 0 0] 28 ?_; intro Az hg Hi hbox hb; replace Cd := roB Cd hb; have Ag := aM (hbox); have F5 := gwS hg Z59; have Au := gwS hg Z59; replace HB := hbS Z59 hb; have Ai := nbL hg Aa; have Aq := nbG hg Aa; replace Aa := bkB Aa hb; have Ap := nbL hg Af; have Av := nbG hg Af; replace Af := bkB Af hb; clear hb hbox hg; have F6 := Aq.out; have F7 := Ai.out; have F8 := Av.out; have F9 := Ap.out; obtain ⟨Ce, Cf, Cg⟩ := bz3 Ag; obtain ⟨Ch, Ci, Cj⟩ := fz3 Ag))
    go_loopg [11] Dj (fun kq G5 w' => ∃ (Al : Int) (Ar : List Int) (u249002 : Value), G5 = .int .i64 Al ∧ Aside0 (spec_ShiftPhoto.l0 kq a1 a2 a3 Al Ad Ae Ah Ad Ae Ar = some (r1, r2, r3, r4)) ∧ Aside0 (kq ≤ Dj) ∧ Aside0 (Kd.R (Kd.int .i64) 3 w' w.heap.size (fun _ => True) u249002 Ar) ∧ Aside0 (w'.heap[Br]? = some (.cells #[.int .i64 Ad, .int .i64 Ae, (.slice Ax Ah.length Ay)] 28 (0, 0))) ∧ Aside0 (w'.heap[Aw]? = some (.cells #[.int .i64 0, .int .i64 0, (.slice none 0 0)] 28 (0, 0))) ∧ Aside0 (w'.heap[Az]? = some (.cells #[.int .i64 Ad, .int .i64 Ae, u249002] 28 (0, 0))) ∧ Aside0 (Below w.heap.size w w'))
    case atStart => exact ⟨(0), (Cm), (.slice C6 Cm.length C7), Z18, H', ⟨Nat.le_refl _⟩, ⟨by (with_reducible repeat (first | apply Kd.R_alloc | apply Kd.R_drewN | apply Kd.R_drew)); exact Kd.R_mono (Kd.R_far (p := ⟨Az, 2, none⟩) (Kd.R_far (p := ⟨Az, 1, none⟩) (Kd.R_far (p := ⟨Az, 0, none⟩) (Kd.R_types Cd.out Ag.out (by decide)) (fun _ hk => hk.2) (.int .i64 Ad)) (fun _ hk => hk.2) (.int .i64 Ae)) (fun _ hk => hk.2) (.slice C6 Cm.length C7)) (fun _ hk => trivial)⟩, ⟨by (with_reducible repeat (first | refine blk_drewN ?_ _ | refine blk_drew ?_ | refine blk_alloc ?_ _)); refine blk_far ?_ Ai.out _; (with_reducible repeat (first | refine blk_drewN ?_ _ | refine blk_drew ?_ | refine blk_alloc ?_ _)); refine blk_far ?_ Ai.out _; (with_reducible repeat (first | refine blk_drewN ?_ _ | refine blk_drew ?_ | refine blk_alloc ?_ _)); refine blk_far ?_ Ai.out _; (with_reducible repeat (first | refine blk_drewN ?_ _ | refine blk_drew ?_ | refine blk_alloc ?_ _)); exact Aa.out⟩, ⟨by (with_reducible repeat (first | refine blk_drewN ?_ _ | refine blk_drew ?_ | refine blk_alloc ?_ _)); refine blk_far ?_ Ap.out _; (with_reducible repeat (first | refine blk_drewN ?_ _ | refine blk_drew ?_ | refine blk_alloc ?_ _)); refine blk_far ?_ Ap.out _; (with_reducible repeat (first | refine blk_drewN ?_ _ | refine blk_drew ?_ | refine blk_alloc ?_ _)); refine blk_far ?_ Ap.out _; (with_reducible repeat (first | refine blk_drewN ?_ _ | refine blk_drew ?_ | refine blk_alloc ?_ _)); exact Af.out⟩, ⟨by (with_reducible repeat (first | refine blk_drewN ?_ _ | refine blk_drew ?_ | refine blk_alloc ?_ _)); refine blk_put (cs := #[.int .i64 Ad, .int .i64 Ae, .slice none 0 0]) ?_ 2 _ rfl; (with_reducible repeat (first | refine blk_drewN ?_ _ | refine blk_drew ?_ | refine blk_alloc ?_ _)); refine blk_put (cs := #[.int .i64 Ad, .int .i64 0, .slice none 0 0]) ?_ 1 _ rfl; (with_reducible repeat (first | refine blk_drewN ?_ _ | refine blk_drew ?_ | refine blk_alloc ?_ _)); refine blk_put (cs := #[.int .i64 0, .int .i64 0, .slice none 0 0]) ?_ 0 _ rfl; (with_reducible repeat (first | refine blk_drewN ?_ _ | refine blk_drew ?_ | refine blk_alloc ?_ _)); exact Ag.out⟩, ⟨Z41⟩⟩
    case round =>
     clear H'; (try clear c1); (try clear c2); (try clear p2); (try clear c5); (try clear c9); (try clear Fz); (try clear F0); (try clear C3); (try clear G6); (try clear G7); (try clear G8); (try clear G9); (try clear Ha); (try clear Bd); (try clear Bf); (try clear Bg); (try clear Bk); (try clear Bl); (try clear Bm); (try clear Bw); (try clear Bx); (try clear Bz); (try clear B7); (try clear B8); (try clear B9); (try clear Ce); (try clear Cf); (try clear Cg); (try clear Bh); (try clear Bi); (try clear Bj); (try clear Bn); (try clear Bo); (try clear Bp); (try clear B0); (try clear B2); (try clear B6); (try clear Ca); (try clear Cb); (try clear Cc); (try clear Ch); (try clear Ci); (try clear Cj); (try clear p2); obtain ⟨Al, Ar, u249002, rfl, HA, HK2, Ab, Aa, Af, Ag, HB⟩ := hrel; cases gk with
     | zero => exact absurd HA.out (by simp [spec_ShiftPhoto.l0])
     | succ k2 =>
      have H := HA.out; clear HA
      simp only [spec_ShiftPhoto.l0] at H
      by_cases C2 : Al < Ae
      ·rw [if_pos C2] at H
       have c29b0 : decide (Al < Ae) = true := decide_eq_true C2; clear C2; have H' := Aside0.mk H; clear H; have Ga := An.out; have Gb := Ao.out; have Gc := Ai.out; have Gd := Aq.out; obtain ⟨Cn, Co, Cp⟩ := bz3 Aa; obtain ⟨Cq, Cr, Cs⟩ := fz3 Aa
       go_wp2
       go_loopg [12] k2 (fun kq Hb w' => ∃ (Am : Int) (Ac : List Int) (u249002 : Value), Hb = .int .i64 Am ∧ Aside0 (spec_ShiftPhoto.l1 kq a1 a2 a3 Al Am Ad Ae Ah Ad Ae Ac = some (r1, r2, r3, r4)) ∧ Aside0 (kq ≤ k2) ∧ Aside0 (Kd.R (Kd.int .i64) 3 w' w.heap.size (fun _ => True) u249002 Ac) ∧ Aside0 (w'.heap[Br]? = some (.cells #[.int .i64 Ad, .int .i64 Ae, (.slice Ax Ah.length Ay)] 28 (0, 0))) ∧ Aside0 (w'.heap[Aw]? = some (.cells #[.int .i64 0, .int .i64 0, (.slice none 0 0)] 28 (0, 0))) ∧ Aside0 (w'.heap[Az]? = some (.cells #[.int .i64 Ad, .int .i64 Ae, u249002] 28 (0, 0))) ∧ Aside0 (Below w.heap.size w w'))
       case atStart => exact ⟨(0), (Ar), (u249002), Z18, H', ⟨Nat.le_refl _⟩, ⟨Z47⟩, ⟨Z26⟩, ⟨Z39⟩, ⟨Z27⟩, ⟨Z41⟩⟩
       case round =>
        clear H'; (try clear c1); (try clear c2); (try clear p2); (try clear c3); (try clear c5); (try clear c9); (try clear Fz); (try clear F0); (try clear C3); (try clear G6); (try clear G7); (try clear G8); (try clear G9); (try clear Ha); (try clear C2); (try clear c29b0); (try clear Hj); (try clear Hk); (try clear Bd); (try clear Bf); (try clear Bg); (try clear Bk); (try clear Bl); (try clear Bm); (try clear Bw); (try clear Bx); (try clear Bz); (try clear B7); (try clear B8); (try clear B9); (try clear Ce); (try clear Cf); (try clear Cg); (try clear Cn); (try clear Co); (try clear Cp); (try clear Bh); (try clear Bi); (try clear Bj); (try clear Bn); (try clear Bo); (try clear Bp); (try clear B0); (try clear B2); (try clear B6); (try clear Ca); (try clear Cb); (try clear Cc); (try clear Ch); (try clear Ci); (try clear Cj); (try clear Cq); (try clear Cr); (try clear Cs); (try clear p2); obtain ⟨Am, Ac, u249002, rfl, HA, HK3, Ab, Aa, Af, Ag, HB⟩ := hrel; cases gk with
        | zero => exact absurd HA.out (by simp [spec_ShiftPhoto.l1])
        | succ k3 =>
         have H := HA.out; clear HA
         simp only [spec_ShiftPhoto.l1] at H
         by_cases C4 : Am < Ad
         ·rw [if_pos C4] at H
          have c33b0 : decide (Am < Ad) = true := decide_eq_true C4; clear C4; replace H := Option.bind_eq_some_iff.mp H; obtain ⟨C8, C9, H⟩ := H; replace H : (if C8 = true then ((spec_l2At.f Ad Ae Ah (wrap64 (Al + a1)) (wrap64 (Am + a2))).bind fun Bq => (if Ac.length < 17592186044416 then (spec_ShiftPhoto.l1 k3 a1 a2 a3 Al (wrap64 (Am + 1)) Ad Ae Ah Ad Ae (Ac ++ [Bq])) else (none))) else (if Ac.length < 17592186044416 then (spec_ShiftPhoto.l1 k3 a1 a2 a3 Al (wrap64 (Am + 1)) Ad Ae Ah Ad Ae (Ac ++ [a3])) else (none))) = some (r1, r2, r3, r4) := H; have Ge := Aside0.mk C9; clear C9
          by_cases Dk : C8 = true
          ·subst Dk
           have H1 : ((spec_l2At.f Ad Ae Ah (wrap64 (Al + a1)) (wrap64 (Am + a2))).bind fun Bq => (if Ac.length < 17592186044416 then (spec_ShiftPhoto.l1 k3 a1 a2 a3 Al (wrap64 (Am + 1)) Ad Ae Ah Ad Ae (Ac ++ [Bq])) else (none))) = some (r1, r2, r3, r4) := by rw [if_pos rfl] at H; exact H
           clear H; have H := H1; clear H1; replace H := Option.bind_eq_some_iff.mp H; obtain ⟨Bq, Da, H⟩ := H; replace H : (if Ac.length < 17592186044416 then (spec_ShiftPhoto.l1 k3 a1 a2 a3 Al (wrap64 (Am + 1)) Ad Ae Ah Ad Ae (Ac ++ [Bq])) else (none)) = some (r1, r2, r3, r4) := H; have Hc := Aside0.mk Da; clear Da
           by_cases Dl : Ac.length < 17592186044416
           ·rw [if_pos Dl] at H
            have LMc37 := Aside0.mk Dl; clear Dl; obtain ⟨Ct, Bt⟩ : ∃ y_ : List Int, y_ = (Ac ++ [Bq]) := ⟨_, rfl⟩
            replace H : (spec_ShiftPhoto.l1 k3 a1 a2 a3 Al (wrap64 (Am + 1)) Ad Ae Ah Ad Ae Ct) = some (r1, r2, r3, r4) := by first | (rw [Bt]; with_reducible exact H) | (have H2_ := (Option.bind_some _ _).symm.trans H; rw [Bt]; with_reducible exact H2_) | (have H2_ := (Option.bind_some _ _).symm.trans H; with_reducible exact H2_) | with_reducible exact H | (rw [Bt]; exact H) | exact H
            have Db := Aside0.mk Bt; clear Bt; have H' := Aside0.mk H; clear H; have Gf := An.out; have Gg := Ao.out; have Gh := Ai.out; have Gi := Aq.out; obtain ⟨Dm, Dn, Dp⟩ := bz3 Aa; obtain ⟨Dq, Dr, Ds⟩ := fz3 Aa
            go_wp2_with (first | ((with_reducible refine gate_callee (f := 64) rfl ?_); refine glE (some 52) Try.func64 #[.agg #[.int .i64 Ad, .int .i64 Ae, .slice Ax Ah.length Ay], .int .i64 (wrap64 (Al + a1)), .int .i64 (wrap64 (Am + a2))] ?_; (with_reducible refine (spec_l2Within.calls k3 Ad Ae _ _ Ah (wrap64 (Al + a1)) (wrap64 (Am + a2)) true _ ?side1 ?side2 Ge.out).mono ?_); (case side1 => exact Z78); (case side2 => exact Bb.out); rintro e Hl ⟨rfl, hb⟩; refine ⟨_, rfl, ?_⟩; replace Ab := roB Ab hb; replace Aa := bkB Aa hb; replace Af := bkB Af hb; replace Ag := bkB Ag hb; replace HB := hbS Z41 hb; (try clear hb); obtain ⟨Dt, Du, Dv⟩ := bz3 Aa; obtain ⟨Dw, Dx, Dy⟩ := fz3 Aa) | ((with_reducible refine gate_callee (f := 65) rfl ?_); refine glE (some 60) Try.func65 #[.agg #[.int .i64 Ad, .int .i64 Ae, .slice Ax Ah.length Ay], .int .i64 (wrap64 (Al + a1)), .int .i64 (wrap64 (Am + a2))] ?_; (with_reducible refine (spec_l2At.calls Ad Ae _ _ Ah (wrap64 (Al + a1)) (wrap64 (Am + a2)) Bq _ ?side1 ?side2 Hc.out).mono ?_); (case side1 => exact Z78); (case side2 => exact Bb.out); rintro e Hm ⟨rfl, hb⟩; refine ⟨_, rfl, ?_⟩; replace Ab := roB Ab hb; replace Aa := bkB Aa hb; replace Af := bkB Af hb; replace Ag := bkB Ag hb; replace HB := hbS Z41 hb; (try clear hb); have Gj := Av.out; have Gk := Ap.out; obtain ⟨Dz, D2, D3⟩ := bz3 Ag; obtain ⟨D4, D5, D6⟩ := fz3 Ag) | ((with_reducible refine gate_builtin (b := .append) (xs := #[.tmp 62, .tmp 64]) rfl ?_); at_builtin; refine Kd.R_append (Kd.int .i64) (w0 := w) w.heap.size rfl (.tmp 62) (.tmp 64) 22 3 (.int .i64 0) 8 rfl Try.underlying22 info3 rfl (by decide) (by omega) u249002 Ac Bq [.int .i64 Bq] (fun _ => True) (fun _ => False) rfl rfl ?aP (fun _ hk => hk.elim) ?aF ?aO ?aB ?aS ?aL ?_; (case aP => exact rfl); (case aB => exact Z41); (case aF => exact (fun _ _ => trivial)); (case aO => exact Z47); (case aS => exact (below_size Z41)); (case aL => have := LMc37.out; omega); intro Hd Hn ho hb hg hat; rw [← Db.out] at ho; replace Aa := aM (blk_grown (g := Br) (o := .cells #[.int .i64 Ad, .int .i64 Ae, .slice Ax Ah.length Ay] 28 (0, 0)) Z26 hg (Kd.R_ne Ab.out Aa.out (by decide))); replace Af := aM (blk_grown (g := Aw) (o := .cells #[.int .i64 0, .int .i64 0, .slice none 0 0] 28 (0, 0)) Z39 hg (Kd.R_ne Ab.out Af.out (by decide))); replace Ag := aM (blk_grown (g := Az) (o := .cells #[.int .i64 Ad, .int .i64 Ae, u249002] 28 (0, 0)) Z27 hg (Kd.R_ne Ab.out Ag.out (by decide))); replace HB := aM (hb); have Cy := aM (ho); clear Ab; clear ho hb hg hat; obtain ⟨Dc, Dd, Fp⟩ := Kd.R_slice Cy.out; subst Fp; obtain ⟨D7, D8, D9⟩ := bz3 Ag; obtain ⟨Ea, Eb, Ec⟩ := fz3 Ag))
            go_roundg k3
            case measure => have := HJ4.out; have := HK2.out; have := HK3.out; omega
            case rel => exact ⟨(wrap64 (Am + 1)), (Ct), (.slice Dc Ct.length Dd), Z18, H', ⟨Z189⟩, ⟨by (with_reducible repeat (first | apply Kd.R_alloc | apply Kd.R_drewN | apply Kd.R_drew)); exact Kd.R_mono (Kd.R_far (p := ⟨Az, 2, none⟩) (Kd.R_types Cy.out Ag.out (by decide)) (fun _ hk => hk.2) (.slice Dc Ct.length Dd)) (fun _ hk => trivial)⟩, ⟨Z129⟩, ⟨Z130⟩, ⟨Z116⟩, ⟨Z41⟩⟩
           ·rw [if_neg Dl] at H
            exact absurd H (by simp)
          ·replace Dk := Bool.eq_false_iff.mpr Dk
           subst Dk
           have H1 : (if Ac.length < 17592186044416 then (spec_ShiftPhoto.l1 k3 a1 a2 a3 Al (wrap64 (Am + 1)) Ad Ae Ah Ad Ae (Ac ++ [a3])) else (none)) = some (r1, r2, r3, r4) := by rw [if_neg (show ¬ (false = true) by decide)] at H; exact H
           clear H; have H := H1; clear H1
           by_cases Ed : Ac.length < 17592186044416
           ·rw [if_pos Ed] at H
            have LMc49 := Aside0.mk Ed; clear Ed; obtain ⟨Cu, Bu⟩ : ∃ y_ : List Int, y_ = (Ac ++ [a3]) := ⟨_, rfl⟩
            replace H : (spec_ShiftPhoto.l1 k3 a1 a2 a3 Al (wrap64 (Am + 1)) Ad Ae Ah Ad Ae Cu) = some (r1, r2, r3, r4) := by first | (rw [Bu]; with_reducible exact H) | (have H2_ := (Option.bind_some _ _).symm.trans H; rw [Bu]; with_reducible exact H2_) | (have H2_ := (Option.bind_some _ _).symm.trans H; with_reducible exact H2_) | with_reducible exact H | (rw [Bu]; exact H) | exact H
            have De := Aside0.mk Bu; clear Bu; have H' := Aside0.mk H; clear H; have Gl := An.out; have Gm := Ao.out; have Gn := Ai.out; have Gp := Aq.out; obtain ⟨Ee, Ef, Eg⟩ := bz3 Aa; obtain ⟨Eh, Ei, Ej⟩ := fz3 Aa
            go_wp2_with (first | ((with_reducible refine gate_callee (f := 64) rfl ?_); refine glE (some 52) Try.func64 #[.agg #[.int .i64 Ad, .int .i64 Ae, .slice Ax Ah.length Ay], .int .i64 (wrap64 (Al + a1)), .int .i64 (wrap64 (Am + a2))] ?_; (with_reducible refine (spec_l2Within.calls k3 Ad Ae _ _ Ah (wrap64 (Al + a1)) (wrap64 (Am + a2)) false _ ?side1 ?side2 Ge.out).mono ?_); (case side1 => exact Z78); (case side2 => exact Bb.out); rintro e Ho ⟨rfl, hb⟩; refine ⟨_, rfl, ?_⟩; replace Ab := roB Ab hb; replace Aa := bkB Aa hb; replace Af := bkB Af hb; replace Ag := bkB Ag hb; replace HB := hbS Z41 hb; (try clear hb); have Gq := Av.out; have Gr := Ap.out; obtain ⟨Ek, El, Em⟩ := bz3 Ag; obtain ⟨En, Eo, Ep⟩ := fz3 Ag) | ((with_reducible refine gate_builtin (b := .append) (xs := #[.tmp 62, .tmp 64]) rfl ?_); at_builtin; refine Kd.R_append (Kd.int .i64) (w0 := w) w.heap.size rfl (.tmp 62) (.tmp 64) 22 3 (.int .i64 0) 8 rfl Try.underlying22 info3 rfl (by decide) (by omega) u249002 Ac a3 [.int .i64 a3] (fun _ => True) (fun _ => False) rfl rfl ?aP (fun _ hk => hk.elim) ?aF ?aO ?aB ?aS ?aL ?_; (case aP => exact rfl); (case aB => exact Z41); (case aF => exact (fun _ _ => trivial)); (case aO => exact Z47); (case aS => exact (below_size Z41)); (case aL => have := LMc49.out; omega); intro He Hp ho hb hg hat; rw [← De.out] at ho; replace Aa := aM (blk_grown (g := Br) (o := .cells #[.int .i64 Ad, .int .i64 Ae, .slice Ax Ah.length Ay] 28 (0, 0)) Z26 hg (Kd.R_ne Ab.out Aa.out (by decide))); replace Af := aM (blk_grown (g := Aw) (o := .cells #[.int .i64 0, .int .i64 0, .slice none 0 0] 28 (0, 0)) Z39 hg (Kd.R_ne Ab.out Af.out (by decide))); replace Ag := aM (blk_grown (g := Az) (o := .cells #[.int .i64 Ad, .int .i64 Ae, u249002] 28 (0, 0)) Z27 hg (Kd.R_ne Ab.out Ag.out (by decide))); replace HB := aM (hb); have Cz := aM (ho); clear Ab; clear ho hb hg hat; obtain ⟨Df, Dg, Fq⟩ := Kd.R_slice Cz.out; subst Fq; obtain ⟨Er, Es, Et⟩ := bz3 Ag; obtain ⟨Eu, Ew, Ex⟩ := fz3 Ag))
            go_roundg k3
            case measure => have := HJ4.out; have := HK2.out; have := HK3.out; omega
            case rel => exact ⟨(wrap64 (Am + 1)), (Cu), (.slice Df Cu.length Dg), Z18, H', ⟨Z189⟩, ⟨by (with_reducible repeat (first | apply Kd.R_alloc | apply Kd.R_drewN | apply Kd.R_drew)); exact Kd.R_mono (Kd.R_far (p := ⟨Az, 2, none⟩) (Kd.R_types Cz.out Ag.out (by decide)) (fun _ hk => hk.2) (.slice Df Cu.length Dg)) (fun _ hk => trivial)⟩, ⟨Z129⟩, ⟨Z130⟩, ⟨Z116⟩, ⟨Z41⟩⟩
           ·rw [if_neg Ed] at H
            exact absurd H (by simp)
         ·rw [if_neg C4] at H
          have c33b0 : decide (Am < Ad) = false := decide_eq_false C4; clear C4; have H' := Aside0.mk H; clear H; have Gs := An.out; have Gt := Ao.out; have Gu := Ai.out; have Gv := Aq.out; obtain ⟨Ey, Ez, E0⟩ := bz3 Aa; obtain ⟨E1, E2, E3⟩ := fz3 Aa
          go_wp2
          go_roundg k3
          case measure => have := HJ4.out; have := HK2.out; have := HK3.out; omega
          case rel => exact ⟨(wrap64 (Al + 1)), (Ac), (u249002), Z18, H', ⟨Z189⟩, ⟨Z47⟩, ⟨Z26⟩, ⟨Z39⟩, ⟨Z27⟩, ⟨Z41⟩⟩
      ·rw [if_neg C2] at H
       have c29b0 : decide (Al < Ae) = false := decide_eq_false C2; clear C2
       simp only [Option.some.injEq, Prod.mk.injEq] at H
       obtain ⟨rfl, rfl, rfl, rfl⟩ := H; have Gw := An.out; have Gx := Ao.out; have Gy := Ai.out; have Gz := Aq.out; obtain ⟨E4, E5, E6⟩ := bz3 Aa; obtain ⟨E7, E8, E9⟩ := fz3 Aa; have G0 := Av.out; have G1 := Ap.out; obtain ⟨Fa, Fb, Fc⟩ := bz3 Ag; obtain ⟨Fd, Fe, Ff⟩ := fz3 Ag; obtain ⟨Fg, Fh, Fi⟩ := bz3 Af; obtain ⟨Fj, Fk, Fl⟩ := fz3 Af; obtain ⟨Dh, Di, Fr⟩ := Kd.R_slice Ab.out; subst Fr
       go_wp2
       refine bodyPost_ret (results_ct rfl _ _ Aw 28 #[.int .i64 Ad, .int .i64 Ae, .slice Dh Ar.length Di] (0, 0) _ rfl (by (with_reducible repeat (first | refine blk_drewN ?_ _ | refine blk_drew ?_ | refine blk_alloc ?_ _)); refine blk_put (cs := #[.int .i64 Ad, .int .i64 Ae, .slice none 0 0]) ?_ 2 _ rfl; (with_reducible repeat (first | refine blk_drewN ?_ _ | refine blk_drew ?_ | refine blk_alloc ?_ _)); refine blk_put (cs := #[.int .i64 Ad, .int .i64 0, .slice none 0 0]) ?_ 1 _ rfl; (with_reducible repeat (first | refine blk_drewN ?_ _ | refine blk_drew ?_ | refine blk_alloc ?_ _)); refine blk_put (cs := #[.int .i64 0, .int .i64 0, .slice none 0 0]) ?_ 0 _ rfl; (with_reducible repeat (first | refine blk_drewN ?_ _ | refine blk_drew ?_ | refine blk_alloc ?_ _)); exact Af.out) Try.underlying28 rfl Z74) rfl ?_
       exact ⟨_, Z10, by (with_reducible repeat (first | apply Kd.R_alloc | apply Kd.R_drewN | apply Kd.R_drew)); exact Kd.R_mono (Kd.R_far (p := ⟨Aw, 2, none⟩) (Kd.R_far (p := ⟨Aw, 1, none⟩) (Kd.R_far (p := ⟨Aw, 0, none⟩) (Kd.R_types Ab.out Af.out (by decide)) (fun _ hk => hk.2) (.int .i64 Ad)) (fun _ hk => hk.2) (.int .i64 Ae)) (fun _ hk => hk.2) (.slice Dh Ar.length Di)) (fun _ hk => trivial), Z41⟩
def spec_l1Own.f (l0 : List Int) : Option (List Int) := (some (([] : List Int) : List Int)).bind fun y257 => (if y257.length + l0.length < 17592186044416 then (some (y257 ++ l0)) else (none))
theorem spec_l1Own.calls (A0 : Option Addr) (c0 : Nat) (l0 : List Int) (r : List Int) (w : World) (Ak : Kd.C (Kd.int .i64) w A0 l0.length l0) (Al : l0.length ≤ c0) (h : spec_l1Own.f l0 = some r) :
  Calls Try.prog 90 #[.slice A0 l0.length c0] w fun e w' => ∃ v0_ : Value, e = .returned (v0_) ∧ Kd.R (Kd.int .i64) 3 w' w.heap.size (fun _ => True) v0_ r ∧ Below w.heap.size w w' := by
 have Am := Aside0.mk Ak; have Ao := Aside0.mk Al; clear Ak Al; have HB := aM (Below.refl w.heap.size w); have H : ((some (([] : List Int) : List Int)).bind fun Aa => (if Aa.length + l0.length < 17592186044416 then (some (Aa ++ l0)) else (none))) = some r := h; clear h; obtain ⟨Aa, Ab⟩ : ∃ y_ : List Int, y_ = (([] : List Int)) := ⟨_, rfl⟩
 replace H : (if Aa.length + l0.length < 17592186044416 then (some (Aa ++ l0)) else (none)) = some r := by first | (rw [Ab]; with_reducible exact H) | (have H2_ := (Option.bind_some _ _).symm.trans H; rw [Ab]; with_reducible exact H2_) | (have H2_ := (Option.bind_some _ _).symm.trans H; with_reducible exact H2_) | with_reducible exact H | (rw [Ab]; exact H) | exact H
 have Ad := Aside0.mk Ab; clear Ab
 by_cases c2 : Aa.length + l0.length < 17592186044416
 ·rw [if_pos c2] at H
  have LMc2 := Aside0.mk c2; clear c2; obtain ⟨Ai, Ac⟩ : ∃ y_ : List Int, y_ = (Aa ++ l0) := ⟨_, rfl⟩
  replace H : (some Ai) = some r := by first | (rw [Ac]; with_reducible exact H) | (have H2_ := (Option.bind_some _ _).symm.trans H; rw [Ac]; with_reducible exact H2_) | (have H2_ := (Option.bind_some _ _).symm.trans H; with_reducible exact H2_) | with_reducible exact H | (rw [Ac]; exact H) | exact H
  have Af := Aside0.mk Ac; clear Ac; obtain rfl := Option.some.inj H
  go_enter Try.func90, Try.ntmps90
  go_wp2_with (first | ((with_reducible refine gate_dst (N := 3) rfl ?_); refine Kd.R_lit (Kd.int .i64) _ 3 ?hg (N := 3) ?hd (xs := ([] : List Int)) (inner := []) (ok := fun _ => True) (okp := fun _ => True) ?hr ?hp (fun _ hk => hk) trivial (Below.refl _ _) (Nat.le_refl _) (by simp) ?_; (case hd => rfl); (case hg => rfl); (case hr => first | (go_simp; done) | (go_simp; rfl)); (case hp => exact (Reps.none _ _)); intro Aj w3 Ag hb hg_ hnew_; clear hg_ hnew_; (first | rw [← Ad.out] at Ag | (simp only [Int.reduceToNat] at Ag; rw [← Ad.out] at Ag)); have Ae := aM (Kd.R_lower Ag (below_size Z0)); replace HB := hbS Z0 hb; clear hb Ag) | ((with_reducible refine gate_builtin (b := .append) (xs := #[.tmp 3, .tmp 4]) rfl ?_); at_builtin; refine Kd.R_append_rows (Kd.int .i64) (w0 := w) w.heap.size rfl (.tmp 3) (.tmp 4) 22 3 (.int .i64 0) 8 rfl Try.underlying22 info3 rfl (by decide) (by omega) Aj Aa l0 _ _ _ (fun _ => True) (fun _ => False) rfl rfl ?aO ?aR (fun _ _ h => h) (fun _ h => h.elim) ?aF ?aB ?aS ?aL ?_; (case aR => repeat (first | exact (Kd.C_below Am.out HB.out) | (with_reducible refine Kd.C_alloc ?_ _) | (with_reducible refine Kd.C_drewN ?_ _) | (with_reducible refine Kd.C_drew ?_))); (case aB => exact Z0); (case aF => exact (fun _ _ => trivial)); (case aO => exact Z108); (case aS => exact (below_size Z0)); (case aL => have := LMc2.out; omega); intro An w5 ho hb hg hat; rw [← Af.out] at ho; replace HB := aM (hb); have Ah := aM (ho); clear Ae; clear ho hb hg hat))
  go_ret
  exact ⟨_, Z10, by (with_reducible repeat (first | apply Kd.R_alloc | apply Kd.R_drewN | apply Kd.R_drew)); exact Ah.out, Z0⟩
 ·rw [if_neg c2] at H
  exact absurd H (by simp)
end Go.Proofs.Ytcjalfgnnabghaa.H
