-- Written by wip/hook.py of this repo: the kit's print over all of the seat's laws, with texts of this repo for what it does not take. Lean checks it.
import Derived.Test.YtcjalfgnnabghaaHx0
import Derived.Test.YtcjalfgnnabghaaHx2
import Derived.Test.YtcjalfgnnabghaaWMore
import Derived.Test.YtcjalfgnnabghaaWWords
namespace Go.Proofs.Ytcjalfgnnabghaa.H
open Go.RowKit Go.Proofs.YtcjalfgnnabghaaW.PrintWords Go.Proofs.YtcjalfgnnabghaaW.PrintLast Go.Proofs.YtcjalfgnnabghaaW.PrintMore
attribute [local go_sem] max2_int min2_int max_two min_two max_three min_three max_four min_four   -- for this text's walks alone
set_option linter.unusedVariables false
set_option linter.unusedSimpArgs false

/-! ### impl_SwappedColors: function 39, by hand -/

/-- draws and new blocks alone -/
def Grw (w w' : World) : Prop := ∃ (q : Nat) (os : Array Obj), w' = Go.Sort.grow (w.drewN q) os
theorem Grw.refl (w : World) : Grw w w := ⟨0, #[], by simp [Go.Sort.grow, World.drewN]⟩
theorem Grw.alloc {w W : World} (h : Grw w W) (o : Obj) : Grw w (W.alloc o) := by
 obtain ⟨q, os, rfl⟩ := h
 exact ⟨q, os ++ #[o], by rw [Go.Sort.alloc_eq_grow, Go.Sort.grow_grow]⟩
theorem Grw.drewN {w W : World} (h : Grw w W) (n : Nat) : Grw w (W.drewN n) := by
 obtain ⟨q, os, rfl⟩ := h
 exact ⟨q + n, os, by simp [Go.Sort.grow, World.drewN, Nat.add_assoc]⟩
theorem Grw.drew {w W : World} (h : Grw w W) : Grw w W.drew := h.drewN 1
theorem Grw.trans {w W W2 : World} (h : Grw w W) (k : Grw W W2) : Grw w W2 := by
 obtain ⟨q, os, rfl⟩ := h
 obtain ⟨q2, os2, rfl⟩ := k
 exact ⟨q + q2, os ++ os2, by simp [Go.Sort.grow, World.drewN, Nat.add_assoc, Array.append_assoc]⟩
theorem Grw.below {w W : World} (h : Grw w W) : Below w.heap.size w W := by
 obtain ⟨q, os, rfl⟩ := h
 exact ⟨rfl, rfl, rfl, by simp [Go.Sort.grow, World.drewN], fun k hk => by simp [Go.Sort.grow, World.drewN, Array.getElem?_append_left hk]⟩
theorem Grw.drawn {w W : World} (h : Drawn0 w W) : Grw w W := by
 obtain ⟨n, rfl⟩ := h.out
 exact (Grw.refl w).drewN n
def lays_slices_SortFunc_2_int_2_int__ren : Go.Shelf.Ren := ⟨fun | 6 => 80 | 15 => 100 | 14 => 99 | 28 => 117 | 29 => 118 | 20 => 109 | 21 => 110 | 22 => 111 | 23 => 112 | 24 => 113 | 25 => 114 | 26 => 115 | 27 => 116 | 46 => 122 | 47 => 123 | 48 => 124 | 49 => 125 | 50 => 126 | 57 => 127 | n => n, fun | 22 => 47 | 24 => 79 | 25 => 90 | 3 => 3 | 39 => 106 | 0 => 0 | 53 => 117 | 55 => 93 | 4 => 4 | 46 => 110 | 45 => 109 | 50 => 114 | 5 => 5 | 9 => 9 | 66 => 121 | 70 => 125 | 76 => 127 | 77 => 128 | n => n, fun | n => n⟩
theorem lays_slices_SortFunc_2_int_2_int_ : Go.Proofs.SlLaysF0.n6 Try.prog lays_slices_SortFunc_2_int_2_int__ren := {
 mixed := by kernel_rfl
 f6 := ⟨Try.f80.name, by decide, Try.func80.trans (congrArg some (by kernel_rfl))⟩
 f14 := ⟨Try.f99.name, by decide, Try.func99.trans (congrArg some (by kernel_rfl))⟩
 f15 := Try.func100.trans (congrArg some (by kernel_rfl))
 f20 := ⟨Try.f109.name, by decide, Try.func109.trans (congrArg some (by kernel_rfl))⟩
 f21 := ⟨Try.f110.name, by decide, Try.func110.trans (congrArg some (by kernel_rfl))⟩
 f22 := ⟨Try.f111.name, by decide, Try.func111.trans (congrArg some (by kernel_rfl))⟩
 f23 := ⟨Try.f112.name, by decide, Try.func112.trans (congrArg some (by kernel_rfl))⟩
 f24 := ⟨Try.f113.name, by decide, Try.func113.trans (congrArg some (by kernel_rfl))⟩
 f25 := ⟨Try.f114.name, by decide, Try.func114.trans (congrArg some (by kernel_rfl))⟩
 f26 := ⟨Try.f115.name, by decide, Try.func115.trans (congrArg some (by kernel_rfl))⟩
 f27 := ⟨Try.f116.name, by decide, Try.func116.trans (congrArg some (by kernel_rfl))⟩
 f28 := Try.func117.trans (congrArg some (by kernel_rfl))
 f29 := Try.func118.trans (congrArg some (by kernel_rfl))
 f46 := ⟨Try.f122.name, by decide, Try.func122.trans (congrArg some (by kernel_rfl))⟩
 f47 := Try.func123.trans (congrArg some (by kernel_rfl))
 f48 := Try.func124.trans (congrArg some (by kernel_rfl))
 f49 := ⟨Try.f125.name, by decide, Try.func125.trans (congrArg some (by kernel_rfl))⟩
 f50 := ⟨Try.f126.name, by decide, Try.func126.trans (congrArg some (by kernel_rfl))⟩
 f57 := ⟨Try.f127.name, by decide, Try.func127.trans (congrArg some (by kernel_rfl))⟩
 t0 := Try.underlying0
 a0 := Try.isAgg0
 z0 := Try.sizeOf0
 v0 := Try.zeroValue0
 t3 := Try.underlying3
 a3 := Try.isAgg3
 z3 := Try.sizeOf3
 v3 := Try.zeroValue3
 t4 := Try.underlying4
 a4 := Try.isAgg4
 z4 := Try.sizeOf4
 v4 := Try.zeroValue4
 t5 := Try.underlying5
 a5 := Try.isAgg5
 z5 := Try.sizeOf5
 v5 := Try.zeroValue5
 t9 := Try.underlying9
 a9 := Try.isAgg9
 z9 := Try.sizeOf9
 v9 := Try.zeroValue9
 t22 := Try.underlying47
 a22 := Try.isAgg47
 z22 := Try.sizeOf47
 v22 := Try.zeroValue47
 t25 := Try.underlying90
 a25 := Try.isAgg90
 z25 := Try.sizeOf90
 v25 := Try.zeroValue90
 t39 := Try.underlying106
 a39 := Try.isAgg106
 z39 := Try.sizeOf106
 v39 := Try.zeroValue106
 t45 := Try.underlying109
 a45 := Try.isAgg109
 z45 := Try.sizeOf109
 v45 := Try.zeroValue109
 t46 := Try.underlying110
 a46 := Try.isAgg110
 z46 := Try.sizeOf110
 v46 := Try.zeroValue110
 t50 := Try.underlying114
 a50 := Try.isAgg114
 z50 := Try.sizeOf114
 v50 := Try.zeroValue114
 t53 := Try.underlying117
 a53 := Try.isAgg117
 z53 := Try.sizeOf117
 v53 := Try.zeroValue117
 t55 := Try.underlying93
 a55 := Try.isAgg93
 z55 := Try.sizeOf93
 v55 := Try.zeroValue93
 t66 := Try.underlying121
 a66 := Try.isAgg121
 z66 := Try.sizeOf121
 v66 := Try.zeroValue121
 t70 := Try.underlying125
 a70 := Try.isAgg125
 z70 := Try.sizeOf125
 v70 := Try.zeroValue125
 t76 := Try.underlying127
 a76 := Try.isAgg127
 z76 := Try.sizeOf127
 v76 := Try.zeroValue127
 t77 := Try.underlying128
 a77 := Try.isAgg128
 z77 := Try.sizeOf128
 v77 := Try.zeroValue128 }

/-! ### SortFunc over pairs -/
instance : Inhabited S79 := ⟨z79⟩
def encP (x : S79) : List Value := [.int .i64 x.f0, .int .i64 x.f1]
def rowP (l : List S79) : List Value := (Sort.flatK encP 2 l.toArray).toList
theorem rowP_len (l : List S79) : (rowP l).length = l.length * 2 := by unfold rowP; simp
theorem rowP_at (l : List S79) (m : Nat) (h : m < l.length) : ((rowP l).drop (m * 2)).take 2 = encP l[m] := by
 have h0 := Sort.get_flatK encP 2 l.toArray (m * 2) (by simp; omega)
 have h1 := Sort.get_flatK encP 2 l.toArray (m * 2 + 1) (by simp; omega)
 rw [show m * 2 / 2 = m by omega, show m * 2 % 2 = 0 by omega] at h0
 rw [show (m * 2 + 1) / 2 = m by omega, show (m * 2 + 1) % 2 = 1 by omega] at h1
 have hl := rowP_len l
 have e : l.toArray[m]! = l[m] := by simp [h]
 rw [e] at h0 h1
 have g0 : (rowP l)[m * 2]'(by omega) = Value.int .i64 l[m].f0 := by
  unfold rowP
  rw [Array.getElem_toList, ← getElem!_pos (Sort.flatK encP 2 l.toArray) (m * 2) (by simp; omega), h0]
  rfl
 have g1 : (rowP l)[m * 2 + 1]'(by omega) = Value.int .i64 l[m].f1 := by
  unfold rowP
  rw [Array.getElem_toList, ← getElem!_pos (Sort.flatK encP 2 l.toArray) (m * 2 + 1) (by simp; omega), h1]
  rfl
 rw [List.drop_eq_getElem_cons (show m * 2 < (rowP l).length by omega), List.drop_eq_getElem_cons (show m * 2 + 1 < (rowP l).length by omega), g0, g1]
 rfl
theorem srtP_grow {w : World} {os : Array Obj} {k : Nat} (hk : k < w.heap.size) : (Sort.grow w os).heap[k]? = w.heap[k]? := by
 unfold Sort.grow
 exact Array.getElem?_append_left hk
theorem srtP_holds {w : World} {base g n cap : Nat} {ok : Nat → Prop} {xs : List S79} (h : Kd.R k79 79 w base ok (.slice (some ⟨g, 0, none⟩) n cap) xs) : Sort.HoldsK encP 2 w g 0 xs.toArray ∧ xs.length = n ∧ n ≤ cap ∧ g < w.heap.size := by
 obtain ⟨hn, hnc, _⟩ := Kd.R_reads' h
 obtain ⟨_, inner, ho, hr⟩ := h
 obtain ⟨cells, hc⟩ := own_typed ho g (by simp [Value.ownBlock])
 refine ⟨fun j hj => ?_, hn.symm, hnc, ?_⟩
 ·have hj' : j < xs.length * 2 := by simpa using hj
  have hx := ho.cells (g := g) (by simp [Value.ownBlock])
  have hm : j / 2 < xs.length := by omega
  have hM := k79_openM (hr.2 (j / 2) _ (List.getElem?_eq_getElem hm))
  have hM2 : (inner.drop (j / 2 * 2)).take 2 = encP xs[j / 2] := hM
  have hin : inner[j]? = some (encP xs[j / 2])[j % 2]! := by
   have h2 : ((inner.drop (j / 2 * 2)).take 2)[j % 2]? = some (encP xs[j / 2])[j % 2]! := by
    rw [hM2]
    rcases (by omega : j % 2 = 0 ∨ j % 2 = 1) with e | e <;> rw [e] <;> rfl
   rw [List.getElem?_take_of_lt (by omega), List.getElem?_drop] at h2
   rwa [show j / 2 * 2 + j % 2 = j by omega] at h2
  refine ⟨?_, blk_frozen hc _⟩
  have := hx j _ hin
  rw [add_plain] at this
  rw [Nat.zero_add]
  rw [this]
  rw [Sort.get_flatK _ _ _ _ (by simpa using hj')]
  simp [hm]
 ·rcases Nat.lt_or_ge g w.heap.size with hlt | hge
  ·exact hlt
  ·rw [Array.getElem?_eq_none hge] at hc; cases hc
theorem srtP_put {w : World} {base g n cap : Nat} {ok : Nat → Prop} {xs ys : List S79} (h : Kd.R k79 79 w base ok (.slice (some ⟨g, 0, none⟩) n cap) xs) (hl : ys.length = n) (q : Nat) (os : Array Obj) :
  Kd.R k79 79 (Sort.grow ((w.drewN q).setCells g 0 (rowP ys)) os) base ok (.slice (some ⟨g, 0, none⟩) n cap) ys ∧ w.grownBy (Sort.grow ((w.drewN q).setCells g 0 (rowP ys)) os) (some g) := by
 obtain ⟨hok, inner, ⟨ho1, ho2⟩, hr⟩ := h
 rcases ho2 with ⟨hv, _⟩ | ⟨g', cap', cur, hv, hb, hh, hnc, hcm, hcs, ht⟩
 ·cases hv
 injection hv with ha hn hc
 injection ha with ha
 injection ha with hg
 subst hg; subst hc
 have hgs : g < w.heap.size := by
  rcases Nat.lt_or_ge g w.heap.size with hlt | hge
  ·exact hlt
  ·rw [Array.getElem?_eq_none hge] at hh; cases hh
 have hh' : (w.drewN q).heap[g]? = some (.cells cur 79 (0, 0)) := hh
 have hcz : cur.size = cap * 2 := hcs
 have hrl := rowP_len ys
 obtain ⟨cur', h3, h4, h5⟩ := setCells_row (rowP ys) 0 (w.drewN q) cur hh' (by omega)
 obtain ⟨s1, s2, s3, s4⟩ := setCells_same g (rowP ys) 0 (w.drewN q)
 have s5 : ((w.drewN q).setCells g 0 (rowP ys)).heap.size = w.heap.size := s4
 have ht' : cur'.toList.take (n * 2) = rowP ys := by
  rw [h5, List.take_zero, List.nil_append]
  exact List.take_left' (by omega)
 refine ⟨⟨hok, rowP ys, ⟨?_, .inr ⟨g, cap, cur', ?_, hb, ?_, ?_, hcm, ?_, ?_⟩⟩, ?_, ?_⟩, ⟨s1, s2, s3, ?_, fun k hk hne => ?_⟩⟩
 ·exact hrl
 ·rw [hl]
 ·rw [srtP_grow (by rw [s5]; exact hgs)]; exact h3
 ·omega
 ·rw [h4, hcs]
 ·rw [hl]; exact ht'
 ·exact hrl
 ·intro m p hp
  have hm : m < ys.length := by
   rcases Nat.lt_or_ge m ys.length with h | h
   ·exact h
   ·rw [List.getElem?_eq_none h] at hp; cases hp
  rw [List.getElem?_eq_getElem hm] at hp
  have e := rowP_at ys m hm
  rw [← Option.some.inj hp]
  show k79.M _ _ _ ys[m] (((rowP ys).drop (m * 2)).take 2)
  rw [e]
  exact k79_mkM _ _ _ _
 ·unfold Sort.grow
  rw [Array.size_append, s5]
  exact Nat.le_add_right _ _
 ·rw [srtP_grow (by rw [s5]; exact hk)]
  exact setCells_far _ 0 k (fun e => hne (by rw [e]))
def cmpQ (a b : Int) : Int := if a < b then -1 else if b < a then 1 else 0
def cmpP (x y : S79) : Int := if cmpQ x.f0 y.f0 = 0 then cmpQ x.f1 y.f1 else cmpQ x.f0 y.f0
theorem cmpQ_eq (a b : Int) : cmp_Compare_int.f a b = some (cmpQ a b) := by
 unfold cmp_Compare_int.f cmp_isNaN_int.f cmpQ
 by_cases h1 : a < b
 ·simp [h1]
 ·by_cases h2 : b < a
  ·simp [h1, h2]
  ·simp [h1, h2]
theorem cmpP_eq (x y : S79) : slices_Compare_int_int.f 3 [x.f0, x.f1] [y.f0, y.f1] = some (cmpP x y) := by
 unfold slices_Compare_int_int.f
 have r0 : rd [x.f0, x.f1] 0 = x.f0 := rfl
 have r1 : rd [x.f0, x.f1] 1 = x.f1 := rfl
 have s0 : rd [y.f0, y.f1] 0 = y.f0 := rfl
 have s1 : rd [y.f0, y.f1] 1 = y.f1 := rfl
 have w1 : wrap64 (0 + 1) = 1 := by decide +kernel
 have w2 : wrap64 (1 + 1) = 2 := by decide +kernel
 unfold cmpP
 simp only [slices_Compare_int_int.l0, List.length_cons, List.length_nil, cmpQ_eq, Option.bind_some, r0, r1, s0, s1, w1, w2]
 by_cases h0 : cmpQ x.f0 y.f0 = 0
 ·by_cases h1 : cmpQ x.f1 y.f1 = 0
  ·simp [h0, h1]
  ·simp [h0, h1]
 ·simp [h0]
theorem ltP (x y : S79) : ltOf cmpP x y = decide (x.f0 < y.f0 ∨ (x.f0 = y.f0 ∧ x.f1 < y.f1)) := by
 unfold ltOf cmpP cmpQ
 by_cases h1 : x.f0 < y.f0
 ·simp [h1]
 ·by_cases h2 : y.f0 < x.f0
  ·simp [h1, h2]; omega
  ·have e : x.f0 = y.f0 := by omega
   by_cases h3 : x.f1 < y.f1
   ·simp [h1, h2, e, h3]
   ·by_cases h4 : y.f1 < x.f1
    ·simp [h1, h2, e, h3, h4]
    ·simp [h1, h2, e, h3, h4]
theorem swoP : Sort.SWO (ltOf cmpP) where
 irrefl x := by rw [ltP]; simp
 trans x y z h1 h2 := by rw [ltP] at *; simp only [decide_eq_true_iff] at *; omega
 ntrans x y z h1 h2 := by rw [ltP] at *; simp only [decide_eq_false_iff_not] at *; omega
set_option maxHeartbeats 4000000 in
set_option maxRecDepth 100000 in
theorem sw_1 (x y : S79) (W : World) : Calls Try.prog 81 #[.agg #[.int .i64 x.f0, .int .i64 x.f1], .agg #[.int .i64 y.f0, .int .i64 y.f1]] W fun e w' => e = .returned (.int .i64 (cmpP x y)) ∧ Grw W w' := by
 have hu_ := Try.underlying79
 have hG : Grw W ((W.alloc (.cells #[.int .i64 x.f0, .int .i64 x.f1] 79)).alloc (.cells #[.int .i64 y.f0, .int .i64 y.f1] 79)) := ((Grw.refl W).alloc _).alloc _
 obtain ⟨w2, hw2⟩ : ∃ w2, w2 = (W.alloc (.cells #[.int .i64 x.f0, .int .i64 x.f1] 79)).alloc (.cells #[.int .i64 y.f0, .int .i64 y.f1] 79) := ⟨_, rfl⟩
 rw [← hw2] at hG
 have k0 : w2.heap[W.heap.size]? = some (.cells #[.int .i64 x.f0, .int .i64 x.f1] 79 (0, 0)) := by rw [hw2]; exact blk_alloc (heap_alloc_new W _) _
 have k1 : w2.heap[W.heap.size + 1]? = some (.cells #[.int .i64 y.f0, .int .i64 y.f1] 79 (0, 0)) := by
  rw [hw2]
  have := heap_alloc_new (W.alloc (.cells #[.int .i64 x.f0, .int .i64 x.f1] 79)) (.cells #[.int .i64 y.f0, .int .i64 y.f1] 79)
  rwa [show (W.alloc (.cells #[.int .i64 x.f0, .int .i64 x.f1] 79)).heap.size = W.heap.size + 1 by simp] at this
 have HC : Aside0 (∀ n, Calls Try.prog 82 #[.slice (some ⟨W.heap.size, 0, none⟩) 2 2, .slice (some ⟨W.heap.size + 1, 0, none⟩) 2 2] (w2.drewN n) fun e w' => e = .returned (.int .i64 (cmpP x y)) ∧ Drawn0 (w2.drewN n) w') := ⟨fun n => by
  have c0 : Kd.C (Kd.int .i64) (w2.drewN n) (some ⟨W.heap.size, 0, none⟩) [x.f0, x.f1].length [x.f0, x.f1] := C_of_block (by simp) (blk_drewN k0 n) (fun i u hu => by simpa using hu)
  have c1 : Kd.C (Kd.int .i64) (w2.drewN n) (some ⟨W.heap.size + 1, 0, none⟩) [y.f0, y.f1].length [y.f0, y.f1] := C_of_block (by simp) (blk_drewN k1 n) (fun i u hu => by simpa using hu)
  exact slices_Compare_int_int.calls 3 (some ⟨W.heap.size, 0, none⟩) 2 [x.f0, x.f1] (some ⟨W.heap.size + 1, 0, none⟩) 2 [y.f0, y.f1] (cmpP x y) (w2.drewN n) c0 (Nat.le_refl _) c1 (Nat.le_refl _) (cmpP_eq x y)⟩
 have HG := Aside0.mk hG
 clear hG k0 k1
 subst hw2
 go_enter Try.func81, Try.ntmps81
 go_wp2
 go_quiet ((go_at_call 82; exact Calls.quiet_of ((HC.out _).mono (fun _ _ ⟨he, hd⟩ => ⟨he, hd.out⟩))))
 go_wp2
 go_ret
 exact ⟨rfl, by first | exact HG.out.drewN _ | exact HG.out⟩
def sortP (l : List S79) : List S79 := l.mergeSort fun x y => !ltOf cmpP y x
theorem sortP_len (l : List S79) : (sortP l).length = l.length := List.length_mergeSort _
set_option maxHeartbeats 4000000 in
set_option maxRecDepth 100000 in
theorem SortFunc_sw (P0_ : Nat → Prop) (u : Value) (l0 : List S79) (w0 w : World) (hB : Below w0.heap.size w0 w) (ho0 : Kd.R k79 79 w w0.heap.size P0_ u l0) (hl : l0.length ≤ 1000000) :
  Calls Try.prog 80 #[u, .func (.func 81) #[] #[]] w fun e w' => e = .returned (.tuple #[]) ∧ Kd.R k79 79 w' w0.heap.size P0_ u (sortP l0) ∧ Below w0.heap.size w0 w' := by
 by_cases hp : 0 < l0.length
 ·obtain ⟨blk, cap, rfl, hge, hgl, _⟩ := Kd.R_form ho0 hp
  obtain ⟨hH, _, hnc, hg⟩ := srtP_holds ho0
  have hsz : l0.toArray.size = l0.length := by simp
  have key : ∀ (ys : List S79) (q : Nat) (os : Array Obj), ys.length = l0.length → Kd.R k79 79 (sortWorldK encP 2 w blk 0 q ys.toArray os) w0.heap.size P0_ (.slice (some ⟨blk, 0, none⟩) l0.length cap) ys ∧ Below w0.heap.size w0 (sortWorldK encP 2 w blk 0 q ys.toArray os) := by
   intro ys q os hy
   have e : Go.Sort.putRowK encP 2 (Go.Sort.ahead w q) blk 0 ys.toArray = (w.drewN q).setCells blk 0 (rowP ys) := by
    have := Lib.putRow_eq_setCells id w blk 0 (Go.Sort.flatK encP 2 l0.toArray) (rowP ys) q hH (by rw [rowP_len]; simp [hy])
    rw [List.map_id] at this
    rw [← this]
    unfold Go.Sort.putRowK rowP
    rw [Array.toArray_toList]
   obtain ⟨hR, hG⟩ := srtP_put ho0 hy q os
   unfold sortWorldK
   rw [e]
   exact ⟨hR, hB.grown hG hB.size (fun k hk => by injection hk with hk; subst hk; exact hge)⟩
  have hC : CmpLays Try.prog 81 #[] encP 2 cmpP blk 0 l0.toArray.size w := fun m os dk hs x y => by
   refine (sw_1 x y _).mono ?_
   rintro e w' ⟨he, q, os', hq⟩
   exact ⟨he, q, os', hq⟩
  have h1 : Calls Try.prog 80 #[.slice (some ⟨blk, 0, none⟩) l0.toArray.size cap, .func (.func 81) #[] #[]] w _ := AnyQ.slices_SortFunc_total lays_slices_SortFunc_2_int_2_int_ 2 Try.isAgg79 Try.sizeOf79 encP (fun _ => rfl) (fun x v hv => by simp [encP] at hv; rcases hv with rfl | rfl <;> rfl) cmpP swoP 81 #[] blk 0 cap l0.toArray w (enters_of Try.func81 (by kernel_rfl) rfl) hC hH hg (by rw [hsz]; omega)
   (fun x y a b => by rw [ltP] at a b; simp only [decide_eq_false_iff_not] at a b; cases x; cases y; simp only at a b; congr <;> omega)
  rw [hsz] at h1
  refine h1.mono ?_
  rintro e w' ⟨he, n, os, rfl⟩
  obtain ⟨hR, hB2⟩ := key (sortP l0) n os (sortP_len l0)
  exact ⟨he, hR, hB2⟩
 ·have hn : l0 = [] := List.eq_nil_of_length_eq_zero (by omega)
  subst hn
  obtain ⟨A, c, rfl⟩ := Kd.R_slice ho0
  have h1 : Calls Try.prog 80 #[.slice A 0 c, .func (.func 81) #[] #[]] w _ := AnyF.slices_SortFunc_none lays_slices_SortFunc_2_int_2_int_ A c (.func (.func 81) #[] #[]) w
  refine h1.mono ?_
  rintro e w' ⟨he, rfl⟩
  refine ⟨he, ?_, hB⟩
  unfold sortP
  rw [List.mergeSort_nil]
  exact ho0

/-! ### Compact over pairs -/
theorem eqArr (d : Nat) (a b c e : Int) (w : World) : (Op.equalIn (d + 1 + 1) 79 (.agg #[.int .i64 a, .int .i64 b]) (.agg #[.int .i64 c, .int .i64 e])).run Try.prog w = .ok ((a == c) && (b == e)) w := by
 have u3 := Try.underlying3
 have a3 := Try.isAgg3
 have z3 := Try.sizeOf3
 have hi : ∀ x y : Int, (Op.equalIn (d + 1) 3 (.int .i64 x) (.int .i64 y)).run Try.prog w = .ok (x == y) w := fun x y => run_equalIn_int w d 3 .i64 .i64 x y u3
 rw [Op.equalIn]
 simp only [Sem.run_bind, run_underlying Try.underlying79, Result.andThen_ok, z3]
 rw [Std.Legacy.Range.forIn_eq_forIn_range']
 simp only [Std.Legacy.Range.size, Nat.sub_zero, Nat.add_one_sub_one, Nat.div_one, List.range'_succ, List.range'_zero, List.forIn_cons, List.forIn_nil]
 have p0 : ∀ (x y : Int), (part 3 #[Value.int .i64 x, Value.int .i64 y] (0 * 1)).run Try.prog w = .ok (.int .i64 x) w := fun x y => by go_simp
 have p1 : ∀ (x y : Int), (part 3 #[Value.int .i64 x, Value.int .i64 y] ((0 + 1) * 1)).run Try.prog w = .ok (.int .i64 y) w := fun x y => by go_simp
 by_cases h0 : a = c
 ·subst h0
  by_cases h1 : b = e
  ·subst h1
   simp [p0, p1, hi]
  ·simp [p0, p1, hi, h1]
 ·simp [p0, hi, h0]
def eqQ (x y : S79) : Bool := (x.f0 == y.f0) && (x.f1 == y.f1)
theorem eqQ_run (x y : S79) (r : Bool) (h : eqQ x y = r) : ∀ w : World, (Op.equalIn 10000 79 (.agg #[.int .i64 x.f0, .int .i64 x.f1]) (.agg #[.int .i64 y.f0, .int .i64 y.f1])).run Try.prog w = .ok r w := fun w => by
 rw [← h]
 exact eqArr 9998 x.f0 x.f1 y.f0 y.f1 w
def newAt (xs : List S79) (i : Nat) : Bool := decide (i = 0) || !(eqQ (xs.getD i z79) (xs.getD (i - 1) z79))
def keepP (xs : List S79) (j : Nat) : List S79 := ((List.range j).filter (newAt xs)).map (fun i => xs.getD i z79)
theorem keepP_succ (xs : List S79) (j : Nat) : keepP xs (j + 1) = keepP xs j ++ if newAt xs j = true then [xs.getD j z79] else [] := by
 unfold keepP
 rw [List.range_succ, List.filter_append, List.map_append]
 congr 1
 by_cases c : newAt xs j = true
 ·simp [c]
 ·simp [c]
theorem keepP_len (xs : List S79) (j : Nat) : (keepP xs j).length ≤ j := by
 have := List.length_filter_le (newAt xs) (List.range j)
 unfold keepP
 rw [List.length_map]
 rwa [List.length_range] at this
def compP (xs : List S79) : List S79 := keepP xs xs.length
theorem compP_short (xs : List S79) (h : xs.length < 2) : compP xs = xs := by
 match xs, h with
 | [], _ => rfl
 | [x], _ => rfl
theorem take_getD (xs : List S79) (j : Nat) (h : j < xs.length) : xs.take (j + 1) = xs.take j ++ [xs.getD j z79] := by
 rw [List.take_succ_eq_append_getElem h, List.getD_eq_getElem?_getD, List.getElem?_eq_getElem h]
 rfl
theorem row_block_sw {w : World} {base g m cap : Nat} {ok : Nat → Prop} {xs : List S79} (h : Kd.R k79 79 w base ok (.slice (some ⟨g, 0, none⟩) m cap) xs) (hm : 0 < m) : ∃ cur : Array Value, w.heap[g]? = some (.cells cur 79 (0, 0)) ∧ cur.size = cap * 2 := by
 obtain ⟨hok, inner, ⟨ho1, ho2⟩, hr⟩ := h
 rcases ho2 with ⟨hv, _⟩ | ⟨g', cap', cur, hv, hb, hh, hnc, hcm, hcs, ht⟩
 ·cases hv
 injection hv with ha hn hc
 injection ha with ha
 injection ha with hg
 subst hg; subst hc
 exact ⟨cur, hh, hcs⟩
theorem drop_getD {ys xs : List S79} {a p : Nat} (h : ys.drop a = xs.drop a) (hp : a ≤ p) : ys.getD p z79 = xs.getD p z79 := by
 have h1 : (ys.drop a)[p - a]? = (xs.drop a)[p - a]? := by rw [h]
 rw [List.getElem?_drop, List.getElem?_drop, Nat.add_sub_cancel' hp] at h1
 rw [List.getD_eq_getElem?_getD, List.getD_eq_getElem?_getD, h1]
theorem addrP (b n : Nat) : (⟨b, 0, none⟩ : Addr).add n = ⟨b, n, none⟩ := by
 unfold Addr.add
 split <;> simp_all
theorem info_sizeP : (Try.prog.info? 79).map (·.size) = some 2 := by kernel_rfl

/-- a row of one's own, its block written behind its end -/
theorem R_beyond_sw {w : World} {base g m cap o : Nat} {ok : Nat → Prop} {xs : List S79} (h : Kd.R k79 79 w base ok (.slice (some ⟨g, 0, none⟩) m cap) xs) (vs : List Value) (ho : m * 2 ≤ o) (hl : o + vs.length ≤ cap * 2) :
  Kd.R k79 79 (w.setCells g o vs) base ok (.slice (some ⟨g, 0, none⟩) m cap) xs ∧ w.grownBy (w.setCells g o vs) (some g) := by
 obtain ⟨hok, inner, ⟨ho1, ho2⟩, hr⟩ := h
 rcases ho2 with ⟨hv, _⟩ | ⟨g', cap', cur, hv, hb, hh, hnc, hcm, hcs, ht⟩
 ·cases hv
 injection hv with ha hn hc
 injection ha with ha
 injection ha with hg
 subst hg; subst hc
 have hcz : cur.size = cap * 2 := hcs
 obtain ⟨cur', h3, h4, h5⟩ := setCells_row vs o w cur hh (by omega)
 obtain ⟨s1, s2, s3, s4⟩ := setCells_same g vs o w
 have hsz : (k79).sz = 2 := rfl
 have hml : m = xs.length := hn
 have ht' : cur'.toList.take (xs.length * (k79).sz) = inner := by
  have hle : xs.length * (k79).sz ≤ o := by rw [hsz]; omega
  have hlo : o ≤ cur.toList.length := by rw [Array.length_toList, hcz]; omega
  rw [h5, List.append_assoc, List.take_append_of_le_length (by rw [List.length_take, Nat.min_eq_left hlo]; exact hle), List.take_take, Nat.min_eq_left hle]
  exact ht
 refine ⟨⟨hok, inner, ⟨ho1, .inr ⟨g, cap, cur', by rw [hn], hb, h3, hnc, hcm, by rw [h4]; exact hcs, ht'⟩⟩, hr.imp_ (fun p c hp => ?_)⟩, ⟨s1, s2, s3, Nat.le_of_eq s4.symm, fun k hk hne => ?_⟩⟩
 ·rw [k79_openM hp]
  exact k79_mkM _ _ _ _
 ·exact setCells_far vs o k (fun e => hne (by rw [e]))
theorem clear_sw (w : World) (g i m c : Nat) (cur : Array Value) (ty : TypeId) (hh : w.heap[g]? = some (.cells cur 79 (0, 0))) (hm : 0 < m) (hl : i + m * 2 ≤ cur.size) :
  (Builtin.clear_ #[47] ty #[.slice (some ⟨g, i, none⟩) m c]).run Try.prog w = .ok (.tuple #[]) (w.setCells g i (Builtin.zeroCells #[.int .i64 0, .int .i64 0] m).toList) := by
 have hlen : (Builtin.zeroCells #[.int .i64 0, .int .i64 0] m).toList.length = m * 2 := by rw [Array.length_toList, size_zeroCells]; rfl
 have hst := run_storeCells_cells (P := Try.prog) g i (Builtin.zeroCells #[.int .i64 0, .int .i64 0] m).toList 0 w
  (by intro j hj; rw [hlen] at hj; rw [blk_cell hh (i + 0 + j)]; simp; omega)
  (by intro j hj; exact blk_frozen hh _)
  (by
   intro v hv
   rw [Array.mem_toList_iff] at hv
   unfold Builtin.zeroCells at hv
   rw [Array.mem_map] at hv
   obtain ⟨k, _, rfl⟩ := hv
   have hk : k % 2 < 2 := Nat.mod_lt _ (by decide)
   have h5 : k % 2 = 0 ∨ k % 2 = 1 := by omega
   rcases h5 with h | h <;> (simp only [List.size_toArray, List.length_cons, List.length_nil, Nat.zero_add, Nat.reduceAdd, h]; rfl))
 simp only [Nat.add_zero] at hst
 obtain ⟨m, rfl⟩ : ∃ q, m = q + 1 := ⟨m - 1, by omega⟩
 have hz : (Value.agg #[.int .i64 0, .int .i64 0]).cells = #[.int .i64 0, .int .i64 0] := rfl
 simp [Builtin.clear_, hz, run_underlying Try.underlying47, Try.zeroValue79, hst]

set_option maxHeartbeats 8000000 in
set_option maxRecDepth 100000 in
theorem Compact_sw (u : Value) (xs : List S79) (w0 w : World) (hB : Below w0.heap.size w0 w) (ho0 : Kd.R k79 79 w w0.heap.size (fun _ => True) u xs) (hl : xs.length ≤ 1000000) :
  Calls Try.prog 83 #[u] w fun e w' => ∃ v, e = .returned v ∧ Kd.R k79 79 w' w0.heap.size (fun _ => True) v (compP xs) ∧ Below w0.heap.size w0 w' := by
 have hu_ := Try.underlying79
 have hgd : Try.prog.eqGuardType Try.prog.depth 79 = false := by kernel_rfl
 by_cases h2 : xs.length < 2
 ·have e := compP_short xs h2
  rw [e]
  obtain ⟨A, cap, rfl⟩ := Kd.R_slice ho0
  have c0 : decide ((xs.length : Int) < 2) = true := decide_eq_true (by omega)
  have c1 : decide (xs.length < 2) = true := decide_eq_true h2
  have HR := Aside0.mk ho0
  have HB := Aside0.mk hB
  clear e h2 ho0 hB hl
  go_enter Try.func83, Try.ntmps83
  go_wp2
  go_ret
  exact ⟨_, by first | rfl | (simp; done), HR.out, HB.out⟩
 ·obtain ⟨b, cap, he, hge, hgl, _⟩ := Kd.R_form ho0 (by omega)
  subst he
  have hnc := (Kd.R_reads' ho0).2.1
  have HL := Aside0.mk (show xs.length ≤ 1000000 ∧ xs.length ≤ cap ∧ 2 ≤ xs.length from ⟨hl, hnc, by omega⟩)
  have c00 : decide ((xs.length : Int) < 2) = false := decide_eq_false (by omega)
  have c01 : decide (xs.length < 2) = false := decide_eq_false h2
  have HR := Aside0.mk ho0
  have HB := Aside0.mk hB
  have h1 : keepP xs 1 = xs.take 1 := by
   rw [show (1 : Nat) = 0 + 1 from rfl, take_getD xs 0 (by omega), keepP_succ]
   rfl
  have HK1 := Aside0.mk h1
  clear ho0 hB hl hnc h2 hge hgl h1
  go_enter Try.func83, Try.ntmps83
  go_wp2
  clear c00 c01
  go_loopg [3] xs.length (fun gg s3 wr => ∃ x : Int, s3 = .int .i64 x ∧ Aside0 (1 ≤ x ∧ x ≤ (xs.length : Int) ∧ (xs.length : Int) - x ≤ gg) ∧ Aside0 (keepP xs x.toNat = xs.take x.toNat) ∧ Aside0 (Kd.R k79 79 wr w0.heap.size (fun _ => True) (.slice (some ⟨b, 0, none⟩) xs.length cap) xs) ∧ Aside0 (Below w0.heap.size w0 wr))
  case atStart => exact ⟨1, rfl, ⟨by omega, by have := HL.out; omega, by omega⟩, HK1, HR, HB⟩
  case round =>
   clear HR HB HK1
   obtain ⟨x, rfl, HX, HK, RO, BW⟩ := hrel
   by_cases hlt : x < (xs.length : Int)
   ·have c0 : decide (x < (xs.length : Int)) = true := decide_eq_true hlt
    obtain ⟨ad, e0, b0, b1⟩ := at_T79 (Kd.R_reads' RO.out).2.2 (x) (by have := HX.out; omega) hlt
    obtain rfl := Option.some.inj e0
    rw [addrP] at b0 b1
    obtain ⟨ad, e0, m0, m1⟩ := at_T79 (Kd.R_reads' RO.out).2.2 (x - 1) (by have := HX.out; omega) (by omega)
    obtain rfl := Option.some.inj e0
    rw [addrP] at m0 m1
    rw [show (x - 1).toNat = x.toNat - 1 from by omega] at m0 m1
    have q0 := eq_true (show 0 ≤ x by have := HX.out; omega)
    have q1 := eq_true hlt
    have q2 := eq_true (show 1 ≤ x by have := HX.out; omega)
    have q3 := eq_true (show 0 ≤ x - 1 by have := HX.out; omega)
    have q4 := eq_true (show x - 1 < (xs.length : Int) by omega)
    have wm : wrap64 (x - 1) = x - 1 := by have := HX.out; have := HL.out; unfold wrap64; omega
    have wm2 : IntKind.i64.wrap (x - 1) = x - 1 := IntWalk.i64_in _ (by have := HX.out; have := HL.out; omega)
    have wp_ : wrap64 (x + 1) = x + 1 := by have := HX.out; have := HL.out; unfold wrap64; omega
    have HLT := Aside0.mk hlt
    obtain ⟨e, he⟩ : ∃ e, eqQ (rd_T79 xs x) (rd_T79 xs (x - 1)) = e := ⟨_, rfl⟩
    have HE := Aside0.mk he
    have heq := eqQ_run _ _ _ he
    clear hlt he
    cases e with
    | false =>
     go_wp2
     go_quiet (fail)
     go_wp2
     go_roundg (xs.length - (x.toNat + 1))
     case measure => have := HX.out; have := HLT.out; omega
     case rel =>
      refine ⟨x + 1, by first | rfl | rw [wp_] | simp [wp_], ⟨by have := HX.out; omega, by have := HLT.out; omega, by have := HX.out; have := HLT.out; omega⟩, ⟨?_⟩, ⟨by first | exact Kd.R_drewN RO.out _ | exact RO.out⟩, ⟨by first | exact pw_below_drewN BW.out _ | exact BW.out⟩⟩
      have hx1 := HX.out
      have hx2 := HLT.out
      have hn : newAt xs x.toNat = true := by
       have h3 := HE.out
       have e1 : rd_T79 xs x = xs.getD x.toNat z79 := rfl
       have e2 : rd_T79 xs (x - 1) = xs.getD (x.toNat - 1) z79 := by
        show xs.getD (x - 1).toNat z79 = _
        rw [show (x - 1).toNat = x.toNat - 1 from by omega]
       rw [e1, e2] at h3
       unfold newAt
       rw [h3]
       simp
      rw [show (x + 1).toNat = x.toNat + 1 from by omega, keepP_succ, hn, if_pos rfl, take_getD xs x.toNat (by omega), HK.out]
    | true =>
     have hn : newAt xs x.toNat = false := by
      have hx1 := HX.out
      have hx2 := HLT.out
      have h3 := HE.out
      have e1 : rd_T79 xs x = xs.getD x.toNat z79 := rfl
      have e2 : rd_T79 xs (x - 1) = xs.getD (x.toNat - 1) z79 := by
       show xs.getD (x - 1).toNat z79 = _
       rw [show (x - 1).toNat = x.toNat - 1 from by omega]
      rw [e1, e2] at h3
      unfold newAt
      rw [h3, decide_eq_false (by omega)]
      rfl
     have HS : Aside0 (xs.take x.toNat = keepP xs (x.toNat + 1)) := ⟨by rw [keepP_succ, hn, if_neg (by decide), List.append_nil, HK.out]⟩
     have hcap : ¬ cap = x.toNat := by have := HX.out; have := HLT.out; have := HL.out; omega
     obtain ⟨i0, hi0, _, hsz0, _⟩ := info_parts info79
     have hcutF := cut_from 47 79 .i64 Try.underlying47 hi0 2 hsz0 (some ⟨b, 0, none⟩) xs.length cap x (by have := HX.out; omega) (by have := HX.out; have := HLT.out; omega)
     rw [if_neg hcap] at hcutF
     have ea : (some (⟨b, 0, none⟩ : Addr)).map (·.add (x.toNat * 2)) = some ⟨b, x.toNat * 2, none⟩ := by
      show some ((⟨b, 0, none⟩ : Addr).add (x.toNat * 2)) = _
      rw [addrP]
     rw [ea] at hcutF
     obtain ⟨m, hm⟩ : ∃ m, m = xs.length - x.toNat := ⟨_, rfl⟩
     rw [← hm] at hcutF
     have HM : Aside0 (x.toNat + m = xs.length ∧ 1 ≤ m) := ⟨by have := HX.out; have := HLT.out; omega⟩
     clear hn hcap ea hi0 hsz0 hm
     go_wp2
     go_quiet (fail)
     go_wp2
     have R1 := Aside0.mk (Kd.R_drewN RO.out nq)
     have B1 := Aside0.mk (pw_below_drewN BW.out nq)
     clear b0 b1 m0 m1 q0 q1 q2 q3 q4 wm wm2 wp_ heq hcutF
     go_loopg [3, 5] m (fun gg s3 s5 wr2 => ∃ (i j : Int) (ys : List S79), s3 = .int .i64 i ∧ s5 = .int .i64 j ∧ Aside0 (x ≤ i ∧ i < x + j ∧ 1 ≤ j ∧ j ≤ (m : Int) ∧ (m : Int) - j ≤ gg) ∧ Aside0 (ys.length = xs.length ∧ ys.take i.toNat = keepP xs (x.toNat + j.toNat) ∧ ys.drop i.toNat = xs.drop i.toNat) ∧ Aside0 (Kd.R k79 79 wr2 w0.heap.size (fun _ => True) (.slice (some ⟨b, 0, none⟩) xs.length cap) ys) ∧ Aside0 (Below w0.heap.size w0 wr2))
     case atStart => exact ⟨x, 1, xs, rfl, rfl, ⟨by omega, by omega, by omega, by have := HM.out; omega, by omega⟩, ⟨rfl, HS.out, rfl⟩, R1, B1⟩
     case round =>
      clear R1 B1
      obtain ⟨i, j, ys, rfl, rfl, HI, HY, RY, BY⟩ := hrel
      have HX0 : Aside0 (1 ≤ x ∧ x < (xs.length : Int) ∧ x.toNat + m = xs.length ∧ xs.length ≤ 1000000 ∧ xs.length ≤ cap) := ⟨HX.out.1, HLT.out, HM.out.1, HL.out.1, HL.out.2.1⟩
      clear HX HLT HM HL HK HE HS c0
      by_cases hlt2 : j < (m : Int)
      ·have c0 : decide (j < (m : Int)) = true := decide_eq_true hlt2
       have hx0 := HX0.out
       have hi0 := HI.out
       have hyl := HY.out.1
       obtain ⟨X, hX⟩ : ∃ X, X = xs.getD (x.toNat + j.toNat) z79 := ⟨_, rfl⟩
       obtain ⟨Y, hY⟩ : ∃ Y, Y = xs.getD (x.toNat + j.toNat - 1) z79 := ⟨_, rfl⟩
       have e1 : rd_T79 ys (x + j) = X := by
        rw [hX]
        show ys.getD (x + j).toNat z79 = _
        rw [show (x + j).toNat = x.toNat + j.toNat from by omega]
        exact drop_getD HY.out.2.2 (by omega)
       have e2 : rd_T79 ys (x + j - 1) = Y := by
        rw [hY]
        show ys.getD (x + j - 1).toNat z79 = _
        rw [show (x + j - 1).toNat = x.toNat + j.toNat - 1 from by omega]
        exact drop_getD HY.out.2.2 (by omega)
       obtain ⟨ad, e0, b0, b1⟩ := at_T79 (Kd.R_reads' RY.out).2.2 (x + j) (by omega) (by omega)
       obtain rfl := Option.some.inj e0
       obtain ⟨ad, e0, m0, m1⟩ := at_T79 (Kd.R_reads' RY.out).2.2 (x + j - 1) (by omega) (by omega)
       obtain rfl := Option.some.inj e0
       obtain ⟨ad, e0, o0, o1⟩ := at_T79 (Kd.R_reads' RY.out).2.2 i (by omega) (by omega)
       obtain rfl := Option.some.inj e0
       rw [addrP] at b0 b1 m0 m1 o0 o1
       rw [e1] at b0 b1
       rw [e2] at m0 m1
       rw [show (x + j).toNat * 2 = x.toNat * 2 + j.toNat * 2 from by omega] at b0 b1
       rw [show (x + j - 1).toNat * 2 = x.toNat * 2 + (j.toNat - 1) * 2 from by omega] at m0 m1
       have HOLD : Aside0 (∀ (q k : Nat) (u : Value), [.int .i64 (rd_T79 ys i).f0, .int .i64 (rd_T79 ys i).f1][k]? = some u → (wr.drewN q).cell? ⟨b, i.toNat * 2 + k, none⟩ = some u) := ⟨fun q k u hu => by
        have h5 : k = 0 ∨ k = 1 := by
         rcases Nat.lt_or_ge k 2 with h | h
         ·omega
         ·rw [List.getElem?_eq_none (by simpa using h)] at hu; cases hu
        rcases h5 with rfl | rfl
        ·injection hu with hu; subst hu; exact o0
        ·injection hu with hu; subst hu; exact o1⟩
       obtain ⟨e, he⟩ : ∃ e, eqQ X Y = e := ⟨_, rfl⟩
       have heq := eqQ_run _ _ _ he
       have HNEW : Aside0 (newAt xs (x.toNat + j.toNat) = !e) := ⟨by
        unfold newAt
        rw [← hX, ← hY, he, decide_eq_false (by omega), Bool.false_or]⟩
       have HXX := Aside0.mk hX
       have HLT2 := Aside0.mk hlt2
       have w1j : wrap64 (j + 1) = j + 1 := by unfold wrap64; omega
       have w1i : wrap64 (i + 1) = i + 1 := by unfold wrap64; omega
       have wm2 : IntKind.i64.wrap (j - 1) = j - 1 := IntWalk.i64_in _ (by omega)
       have hp0 : 0 ≤ i := by omega
       have hp1 : i < (xs.length : Int) := by omega
       have q0 := eq_true (show 0 ≤ j by omega)
       have q1 := eq_true hlt2
       have q2 := eq_true (show 1 ≤ j by omega)
       have q3 := eq_true (show 0 ≤ j - 1 by omega)
       have q4 := eq_true (show j - 1 < (m : Int) by omega)
       have q5 := eq_true hp0
       have q6 := eq_true hp1
       have HP := Aside0.mk (And.intro hp0 hp1)
       clear hlt2 he hX hY o0 o1 e1 e2 hx0 hi0 hp0 hp1
       cases e with
       | true =>
        go_wp2
        go_quiet (fail)
        go_wp2
        go_roundg (m - (j.toNat + 1))
        case measure => have := HI.out; have := HLT2.out; omega
        case rel =>
         refine ⟨i, j + 1, ys, rfl, by first | rfl | rw [w1j] | simp [w1j], ⟨HI.out.1, by have := HI.out; omega, by have := HI.out; omega, by have := HLT2.out; omega, by have := HI.out; have := HLT2.out; omega⟩, ⟨hyl, ?_, HY.out.2.2⟩, ⟨Kd.R_drewN RY.out _⟩, ⟨pw_below_drewN BY.out _⟩⟩
         rw [show (j + 1).toNat = j.toNat + 1 from by have := HI.out; omega, ← Nat.add_assoc, keepP_succ, HNEW.out, if_neg (by decide), List.append_nil]
         exact HY.out.2.1
       | false =>
        go_wp2
        go_quiet (fail)
        have RY2 := Aside0.mk (Kd.R_drewN RY.out nq)
        have BY2 := Aside0.mk (pw_below_drewN BY.out nq)
        go_wp2_with (first | ((with_reducible refine gate_store (p := 51) rfl ?_); refine Kd.R_store k79 (w0 := w0) w0.heap.size rfl rfl 79 (.tmp 51) (.tmp 50) rfl 79 (g := b) (n := xs.length) (cap := cap) i 0 ys X (.agg #[.int .i64 X.f0, .int .i64 X.f1]) [.int .i64 X.f0, .int .i64 X.f1] [.int .i64 (rd_T79 ys i).f0, .int .i64 (rd_T79 ys i).f1] (fun _ => True) (fun _ => False) rfl ?so rfl rfl ?st ?s1 RY2.out HP.out.1 HP.out.2 rfl (HOLD.out nq) (Nat.le_of_eq rfl) ?sm (fun _ h => h.elim) BY2.out ?_; (case so => first | rfl | (simp; done)); (case st => exact info_sizeP); (case s1 => intro q hq; simp only [List.mem_cons, List.not_mem_nil, or_false] at hq; rcases hq with rfl | rfl <;> rfl); (case sm => exact k79_mkM _ _ _ _); intro w3 hR3 hB3 hg3; have HR3 := Aside0.mk hR3; have HB3 := Aside0.mk hB3; clear hR3 hB3 hg3))
        go_roundg (m - (j.toNat + 1))
        case measure => have := HI.out; have := HLT2.out; omega
        case rel =>
         have hx0 := HX0.out
         have hi0 := HI.out
         have hj0 := HLT2.out
         refine ⟨i + 1, j + 1, ys.set i.toNat X, by first | rfl | rw [w1i] | simp [w1i], by first | rfl | rw [w1j] | simp [w1j], ⟨by omega, by omega, by omega, by omega, by omega⟩, ⟨by rw [List.length_set]; exact hyl, ?_, ?_⟩, HR3, HB3⟩
         ·rw [show (j + 1).toNat = j.toNat + 1 from by omega, ← Nat.add_assoc, keepP_succ, HNEW.out, if_pos (show (!false) = true from rfl), ← HY.out.2.1, ← HXX.out, show (i + 1).toNat = i.toNat + 1 from by omega]
          have hil : i.toNat < (ys.set i.toNat X).length := by rw [List.length_set, hyl]; omega
          rw [List.take_succ_eq_append_getElem hil, List.getElem_set_self, List.take_set_of_le (Nat.le_refl _)]
         ·have := HY.out.2.2
          rw [show (i + 1).toNat = i.toNat + 1 from by omega, List.drop_set_of_lt (by omega), ← List.drop_drop, ← List.drop_drop, this]
      ·have c0 : decide (j < (m : Int)) = false := decide_eq_false hlt2
       have hx0 := HX0.out
       have hi0 := HI.out
       have HYL := HY.out.1
       have hjn : j = (m : Int) := by omega
       have HI2 : Aside0 (i.toNat < xs.length ∧ 0 ≤ i) := ⟨by omega, by omega⟩
       have HT : Aside0 (ys.take i.toNat = compP xs) := ⟨by
        rw [HY.out.2.1, show x.toNat + j.toNat = xs.length from by omega]
        rfl⟩
       have HL := Aside0.mk hx0.2.2.2
       clear hlt2 hjn hx0 hi0
       obtain ⟨i0, hi0, _, hsz0, _⟩ := info_parts info79
       have hcutT := cut_to 47 79 .i64 Try.underlying47 hi0 (some ⟨b, 0, none⟩) xs.length cap i HI2.out.2 (by have := HI2.out; omega) HL.out.2
       have hcutF := cut_from 47 79 .i64 Try.underlying47 hi0 2 hsz0 (some ⟨b, 0, none⟩) xs.length cap i HI2.out.2 (by have := HI2.out; omega)
       rw [if_neg (show ¬ cap = i.toNat from by have := HI2.out; have := HL.out; omega)] at hcutF
       have ea : (some (⟨b, 0, none⟩ : Addr)).map (·.add (i.toNat * 2)) = some ⟨b, i.toNat * 2, none⟩ := by
        show some ((⟨b, 0, none⟩ : Addr).add (i.toNat * 2)) = _
        rw [addrP]
       rw [ea] at hcutF
       have hRt := Kd.R_take RY.out (m := i.toNat) (by rw [HYL]; have := HI2.out; omega)
       rw [HT.out] at hRt
       obtain ⟨cur, hh, hcs⟩ := row_block_sw RY.out (by have := HI2.out; omega)
       have hclr := clear_sw wr b (i.toNat * 2) (xs.length - i.toNat) (cap - i.toNat) cur
       have hclr2 := fun ty => hclr ty hh (by have := HI2.out; omega) (by rw [hcs]; have := HI2.out; have := HL.out; omega)
       have HBE := Aside0.mk (R_beyond_sw hRt (Builtin.zeroCells #[.int .i64 0, .int .i64 0] (xs.length - i.toNat)).toList (Nat.le_refl _) (by rw [Array.length_toList, size_zeroCells]; show _ + (xs.length - i.toNat) * 2 ≤ _; have := HI2.out; have := HL.out; omega))
       have HBG := Aside0.mk (Kd.R_base RY.out b (by simp [Value.ownBlock]))
       generalize (Builtin.zeroCells #[.int .i64 0, .int .i64 0] (xs.length - i.toNat)).toList = zs at hclr2 HBE
       clear ea hRt hclr hh hcs hsz0 hi0
       go_wp2
       go_ret
       exact ⟨_, by first | rfl | (simp; done), HBE.out.1, BY.out.grown HBE.out.2 BY.out.size (fun k hk => by injection hk with hk; subst hk; exact HBG.out)⟩
   ·have c0 : decide (x < (xs.length : Int)) = false := decide_eq_false hlt
    have HT : Aside0 (compP xs = xs) := ⟨by
     have h1 := HK.out
     rw [show x.toNat = xs.length from by have := HX.out; omega, List.take_length] at h1
     exact h1⟩
    clear hlt
    go_wp2
    go_ret
    rw [HT.out]
    exact ⟨_, by first | rfl | (simp; done), RO.out, BW.out⟩

/-! ### isSameSize of one other -/
set_option maxHeartbeats 4000000 in
set_option maxRecDepth 100000 in
theorem IndexFunc_ch1 (p : Bool) (g : Nat) (lb : Array Value) (b : Nat) (u0 v0 : Int) (s0 : Value) (w : World) (eg : ∀ args w, (callFunc g args).run Try.prog w = .ok (.enter g args) w) (hz : ∀ W, Below w.heap.size w W → W.cell? ⟨b, 0, none⟩ = some (.int .i64 u0) ∧ W.cell? ⟨b, 1, none⟩ = some (.int .i64 v0) ∧ W.cell? ⟨b, 2, none⟩ = some s0) (hp0 : ∀ W, Below w.heap.size w W → Calls Try.prog g (#[.agg #[.int .i64 u0, .int .i64 v0, s0]] ++ lb) W fun e w' => e = .returned (.bool p) ∧ Below W.heap.size W w') :
  Calls Try.prog 120 #[.slice (some ⟨b, 0, none⟩) 1 1, .func (.func g) #[] lb] w fun e w' => e = .returned (.int .i64 (if p = true then 0 else -1)) ∧ Below w.heap.size w w' := by
 have hu28 := Try.underlying28
 have HZ := Aside0.mk hz
 have HP0 := Aside0.mk hp0
 clear hz hp0
 cases p with
 | true =>
  rw [if_pos rfl]
  go_enter Try.func120, Try.ntmps120
  go_wp2
  go_loopg [5, 8] 1 (fun gg _ s8 wr => ∃ x : Int, s8 = .int .i64 x ∧ Aside0 (x = 0 ∧ 1 ≤ gg) ∧ Aside0 (Below w.heap.size w wr))
  case atStart => exact ⟨0, rfl, ⟨rfl, by omega⟩, ⟨Below.refl _ _⟩⟩
  case round =>
   obtain ⟨x, rfl, HX, BW⟩ := hrel
   obtain rfl := HX.out.1
   clear HX
   obtain ⟨z0, z1, z2⟩ := HZ.out _ BW.out
   go_wp2_with fail
   refine (HP0.out _ BW.out).mono ?_
   rintro e w' ⟨rfl, hb'⟩
   have HB := Aside0.mk (below_step BW.out hb')
   clear hb'
   go_wp2
   go_ret
   exact ⟨by first | rfl | (simp; done), HB.out⟩
 | false =>
  rw [if_neg (by decide)]
  go_enter Try.func120, Try.ntmps120
  go_wp2
  go_loopg [5, 8] 1 (fun gg _ s8 wr => ∃ x : Int, s8 = .int .i64 x ∧ Aside0 (0 ≤ x ∧ x ≤ 1 ∧ 1 - x ≤ gg) ∧ Aside0 (Below w.heap.size w wr))
  case atStart => exact ⟨0, rfl, ⟨by omega, by omega, by omega⟩, ⟨Below.refl _ _⟩⟩
  case round =>
   obtain ⟨x, rfl, HX, BW⟩ := hrel
   have hx : x = 0 ∨ x = 1 := by have := HX.out; omega
   rcases hx with rfl | rfl
   ·skip
    obtain ⟨z0, z1, z2⟩ := HZ.out _ BW.out
    go_wp2_with fail
    refine (HP0.out _ BW.out).mono ?_
    rintro e w' ⟨rfl, hb'⟩
    have HB := Aside0.mk (below_step BW.out hb')
    clear hb'
    go_wp2
    go_roundg 0
    case measure => have := HX.out; omega
    case rel => exact ⟨1, by first | rfl | (simp; done), ⟨by omega, by omega, by omega⟩, HB⟩
   ·go_wp2
    go_ret
    exact ⟨by first | rfl | (simp; done), BW.out⟩
set_option maxHeartbeats 4000000 in
set_option maxRecDepth 100000 in
theorem ContainsFunc_ch1 (p : Bool) (g : Nat) (lb : Array Value) (b : Nat) (u0 v0 : Int) (s0 : Value) (w : World) (eg : ∀ args w, (callFunc g args).run Try.prog w = .ok (.enter g args) w) (hz : ∀ W, Below w.heap.size w W → W.cell? ⟨b, 0, none⟩ = some (.int .i64 u0) ∧ W.cell? ⟨b, 1, none⟩ = some (.int .i64 v0) ∧ W.cell? ⟨b, 2, none⟩ = some s0) (hp0 : ∀ W, Below w.heap.size w W → Calls Try.prog g (#[.agg #[.int .i64 u0, .int .i64 v0, s0]] ++ lb) W fun e w' => e = .returned (.bool p) ∧ Below W.heap.size W w') :
  Calls Try.prog 105 #[.slice (some ⟨b, 0, none⟩) 1 1, .func (.func g) #[] lb] w fun e w' => e = .returned (.bool p) ∧ Below w.heap.size w w' := by
 have HC := Aside0.mk (IndexFunc_ch1 p g lb b u0 v0 s0 w eg hz hp0)
 clear hz hp0 eg
 cases p with
 | true =>
  rw [if_pos rfl] at HC
  go_enter Try.func105, Try.ntmps105
  go_wp2_with fail
  refine HC.out.mono ?_
  rintro e w' ⟨rfl, hb'⟩
  go_wp2
  go_ret
  exact ⟨by first | rfl | (simp; done), hb'⟩
 | false =>
  rw [if_neg (by decide)] at HC
  go_enter Try.func105, Try.ntmps105
  go_wp2_with fail
  refine HC.out.mono ?_
  rintro e w' ⟨rfl, hb'⟩
  go_wp2
  go_ret
  exact ⟨by first | rfl | (simp; done), hb'⟩
set_option maxHeartbeats 4000000 in
set_option maxRecDepth 100000 in
theorem areAll_ch1 (p : Bool) (g : Nat) (lb : Array Value) (b : Nat) (u0 v0 : Int) (s0 : Value) (w : World) (eg : ∀ args w, (callFunc g args).run Try.prog w = .ok (.enter g args) w) (hz : ∀ W, Below w.heap.size w W → W.cell? ⟨b, 0, none⟩ = some (.int .i64 u0) ∧ W.cell? ⟨b, 1, none⟩ = some (.int .i64 v0) ∧ W.cell? ⟨b, 2, none⟩ = some s0) (hp0 : ∀ W, Below w.heap.size w W → Calls Try.prog g (#[.agg #[.int .i64 u0, .int .i64 v0, s0]] ++ lb) W fun e w' => e = .returned (.bool p) ∧ Below W.heap.size W w') :
  Calls Try.prog 91 #[.slice (some ⟨b, 0, none⟩) 1 1, .func (.func g) #[] lb] w fun e w' => e = .returned (.bool p) ∧ Below w.heap.size w w' := by
 have hmf : ∀ (fn : Fn) (first cap : Array Value) (w : World), (Instr.makeFunc fn first cap).run Try.prog w = .ok (.func fn first cap) w := fun _ _ _ _ => rfl
 have hB1 : Below w.heap.size w (w.alloc (.cells #[.func (.func g) #[] lb] 77)) := below_alloc (Below.refl _ _) _
 have hc1 : (w.alloc (.cells #[.func (.func g) #[] lb] 77)).cell? ⟨w.heap.size, 0, none⟩ = some (.func (.func g) #[] lb) := by simp
 have hsz : w.heap.size < (w.alloc (.cells #[.func (.func g) #[] lb] 77)).heap.size := by simp
 have HC := Aside0.mk (ContainsFunc_ch1 (!p) 106 #[.pointer (some ⟨w.heap.size, 0, none⟩)] b u0 v0 s0 (w.alloc (.cells #[.func (.func g) #[] lb] 77)) (enters_of Try.func106 (by kernel_rfl) rfl)
  (fun W hW => hz W (hB1.trans (hW.mono hB1.size)))
  (fun W hW => areAll_ch_1 p g lb w.heap.size u0 v0 s0 W eg ((hW.cell (p := ⟨w.heap.size, 0, none⟩) hsz).trans hc1) (fun W1 h1 => hp0 W1 ((hB1.trans (hW.mono hB1.size)).trans (h1.mono (Nat.le_trans hB1.size hW.size)))) (Nat.lt_of_lt_of_le hsz hW.size)))
 have HB := Aside0.mk hB1
 have e : p = !(!p) := by cases p <;> rfl
 rw [e]
 clear hB1 hc1 hsz hp0 hz eg e
 go_enter Try.func91, Try.ntmps91
 go_wp2_with fail
 refine HC.out.mono ?_
 rintro e w' ⟨rfl, hb'⟩
 go_wp2
 go_ret
 exact ⟨by first | rfl | (simp; done), below_step HB.out hb'⟩
def impl_isSameSize.one (a0_0 a0_1 : Int) (l0_2 : List Int) (a1_0 a1_1 : Int) (l1_2 : List Int) : Option Bool := (impl_IsChart.f a0_0 a0_1 l0_2).bind fun b0 => (impl_IsChart.f a1_0 a1_1 l1_2).bind fun b1 => some (b0 && (b1 && (a1_0 == a0_0 && a1_1 == a0_1)))
set_option maxHeartbeats 8000000 in
set_option maxRecDepth 100000 in
theorem impl_isSameSize.calls1 (b : Nat) (a0_0 a0_1 : Int) (A0_2 : Option Addr) (c0_2 : Nat) (l0_2 : List Int) (a1_0 a1_1 : Int) (A1_2 : Option Addr) (c1_2 : Nat) (l1_2 : List Int) (r : Bool) (w : World) (hr0_2 : Kd.C (Kd.int .i64) w A0_2 l0_2.length l0_2) (hc0_2 : l0_2.length ≤ c0_2) (hr1_2 : Kd.C (Kd.int .i64) w A1_2 l1_2.length l1_2) (hc1_2 : l1_2.length ≤ c1_2) (h : impl_isSameSize.one a0_0 a0_1 l0_2 a1_0 a1_1 l1_2 = some r)
  (hz : ∀ W, Below w.heap.size w W → W.cell? ⟨b, 0, none⟩ = some (.int .i64 a1_0) ∧ W.cell? ⟨b, 1, none⟩ = some (.int .i64 a1_1) ∧ W.cell? ⟨b, 2, none⟩ = some (.slice A1_2 l1_2.length c1_2)) :
  Calls Try.prog 59 #[.agg #[.int .i64 a0_0, .int .i64 a0_1, .slice A0_2 l0_2.length c0_2], .slice (some ⟨b, 0, none⟩) 1 1] w fun e w' => e = .returned (.bool r) ∧ Below w.heap.size w w' := by
 have hu28 := Try.underlying28
 have hmf : ∀ (fn : Fn) (first cap : Array Value) (w : World), (Instr.makeFunc fn first cap).run Try.prog w = .ok (.func fn first cap) w := fun _ _ _ _ => rfl
 unfold impl_isSameSize.one at h
 obtain ⟨b0, hb0, h⟩ := Option.bind_eq_some_iff.mp h
 obtain ⟨b1, hb1, h⟩ := Option.bind_eq_some_iff.mp h
 obtain rfl := Option.some.inj h
 clear h
 have hB1 : Below w.heap.size w (w.alloc (.cells #[.int .i64 a0_0, .int .i64 a0_1, .slice A0_2 l0_2.length c0_2] 28)) := below_alloc (Below.refl _ _) _
 have hk := heap_alloc_new w (.cells #[.int .i64 a0_0, .int .i64 a0_1, .slice A0_2 l0_2.length c0_2] 28)
 have hs : w.heap.size < (w.alloc (.cells #[.int .i64 a0_0, .int .i64 a0_1, .slice A0_2 l0_2.length c0_2] 28)).heap.size := by simp
 have CELLS : Aside0 (∀ W', Below (w.alloc (.cells #[.int .i64 a0_0, .int .i64 a0_1, .slice A0_2 l0_2.length c0_2] 28)).heap.size (w.alloc (.cells #[.int .i64 a0_0, .int .i64 a0_1, .slice A0_2 l0_2.length c0_2] 28)) W' → W'.cell? ⟨w.heap.size, 0, none⟩ = some (.int .i64 a0_0) ∧ W'.cell? ⟨w.heap.size, 1, none⟩ = some (.int .i64 a0_1) ∧ W'.cell? ⟨w.heap.size, 2, none⟩ = some (.slice A0_2 l0_2.length c0_2)) :=
  ⟨fun W' h => ⟨(h.cell (p := ⟨w.heap.size, 0, none⟩) hs).trans ((blk_cell hk 0).trans rfl), (h.cell (p := ⟨w.heap.size, 1, none⟩) hs).trans ((blk_cell hk 1).trans rfl), (h.cell (p := ⟨w.heap.size, 2, none⟩) hs).trans ((blk_cell hk 2).trans rfl)⟩⟩
 have HA : Aside0 (∀ W', Below w.heap.size w W' → _) := ⟨fun W' h => impl_IsChart.calls a0_0 a0_1 A0_2 c0_2 l0_2 b0 W' (Kd.C_below hr0_2 h) hc0_2 hb0⟩
 have HF : Aside0 (∀ W', Below (w.alloc (.cells #[.int .i64 a0_0, .int .i64 a0_1, .slice A0_2 l0_2.length c0_2] 28)).heap.size (w.alloc (.cells #[.int .i64 a0_0, .int .i64 a0_1, .slice A0_2 l0_2.length c0_2] 28)) W' → Below w.heap.size w W' → _) := ⟨fun W' hV hB => areAll_ch1 (b1 && (a1_0 == a0_0 && a1_1 == a0_1)) 92 #[.pointer (some ⟨w.heap.size, 0, none⟩)] b a1_0 a1_1 (.slice A1_2 l1_2.length c1_2) W' (enters_of Try.func92 (by kernel_rfl) rfl)
  (fun W2 h2 => hz W2 (hB.trans (h2.mono hB.size)))
  (fun W2 h2 => isSameSize_1 w.heap.size a0_0 a0_1 a1_0 a1_1 A1_2 c1_2 l1_2 b1 W2 (Kd.C_below hr1_2 (hB.trans (h2.mono hB.size))) hc1_2 hb1 ⟨(CELLS.out _ (hV.trans (h2.mono hV.size))).1, (CELLS.out _ (hV.trans (h2.mono hV.size))).2.1⟩ (Nat.lt_of_lt_of_le hs (Nat.le_trans hV.size h2.size)))⟩
 have HB := Aside0.mk hB1
 clear hB1 hk hs hz hr0_2 hc0_2 hr1_2 hc1_2 hb0 hb1
 cases b0 with
 | false =>
  rw [Bool.false_and]
  clear HF
  go_enter Try.func59, Try.ntmps59
  obtain ⟨z0, z1, z2⟩ := CELLS.out _ (Below.refl _ _)
  go_wp2_with fail
  refine (HA.out _ HB.out).mono ?_
  rintro e w1 ⟨rfl, hb'⟩
  go_wp2
  go_ret
  exact ⟨by first | rfl | (simp; done), below_step HB.out hb'⟩
 | true =>
  rw [Bool.true_and]
  go_enter Try.func59, Try.ntmps59
  obtain ⟨z0, z1, z2⟩ := CELLS.out _ (Below.refl _ _)
  go_wp2_with fail
  refine (HA.out _ HB.out).mono ?_
  rintro e w1 ⟨rfl, hb'⟩
  have HB1 := Aside0.mk (below_step HB.out hb')
  have HV1 := Aside0.mk hb'
  clear hb' z0 z1 z2
  go_wp2_with fail
  refine (HF.out _ HV1.out HB1.out).mono ?_
  rintro e w2 ⟨rfl, hb'⟩
  go_wp2
  go_ret
  exact ⟨by first | rfl | (simp; done), below_step HB1.out hb'⟩

/-! ### SwappedColors -/
def swAt (l0 l1 : List Int) (i : Nat) : Bool := l1.getD i 0 != l0.getD i 0
def pairsTo (l0 l1 : List Int) (j : Nat) : List S79 := ((List.range j).filter (swAt l0 l1)).map fun i => ⟨l0.getD i 0, l1.getD i 0⟩
theorem pairs_succ (l0 l1 : List Int) (j : Nat) : pairsTo l0 l1 (j + 1) = pairsTo l0 l1 j ++ if swAt l0 l1 j = true then [⟨l0.getD j 0, l1.getD j 0⟩] else [] := by
 unfold pairsTo
 rw [List.range_succ, List.filter_append, List.map_append]
 congr 1
 by_cases c : swAt l0 l1 j = true
 ·simp [c]
 ·simp [c]
theorem pairs_len (l0 l1 : List Int) (j : Nat) : (pairsTo l0 l1 j).length ≤ j := by
 have := List.length_filter_le (swAt l0 l1) (List.range j)
 unfold pairsTo
 rw [List.length_map]
 rwa [List.length_range] at this
theorem compP_len (xs : List S79) : (compP xs).length ≤ xs.length := keepP_len xs xs.length
def impl_SwappedColors.f (a0_0 : Int) (a0_1 : Int) (l0_2 : List Int) (a1_0 : Int) (a1_1 : Int) (l1_2 : List Int) : Option (List S79 × Bool) := (impl_isSameSize.one a0_0 a0_1 l0_2 a1_0 a1_1 l1_2).bind fun s => if s = true then (if l0_2.length = l1_2.length ∧ l0_2.length ≤ 1000000 then some (compP (sortP (pairsTo l0_2 l1_2 l0_2.length)), true) else none) else some ([], false)
set_option maxHeartbeats 8000000 in
set_option maxRecDepth 100000 in
theorem impl_SwappedColors.calls (a0_0 : Int) (a0_1 : Int) (A0_2 : Option Addr) (c0_2 : Nat) (l0_2 : List Int) (a1_0 : Int) (a1_1 : Int) (A1_2 : Option Addr) (c1_2 : Nat) (l1_2 : List Int) (r1 : List S79) (r2 : Bool) (w : World) (hr0_2 : Kd.C (Kd.int .i64) w A0_2 l0_2.length l0_2) (hc0_2 : l0_2.length ≤ c0_2) (hr1_2 : Kd.C (Kd.int .i64) w A1_2 l1_2.length l1_2) (hc1_2 : l1_2.length ≤ c1_2) (h : impl_SwappedColors.f a0_0 a0_1 l0_2 a1_0 a1_1 l1_2 = some (r1, r2)) :
  Calls Try.prog 39 #[.agg #[.int .i64 a0_0, .int .i64 a0_1, .slice A0_2 l0_2.length c0_2], .agg #[.int .i64 a1_0, .int .i64 a1_1, .slice A1_2 l1_2.length c1_2]] w fun e w' => ∃ v0_ : Value, e = .returned (.tuple #[v0_, .bool r2]) ∧ Kd.R k79 79 w' w.heap.size (fun _ => True) v0_ r1 ∧ Below w.heap.size w w' := by
 have hu28 := Try.underlying28
 have hu79 := Try.underlying79
 have hB0 : Below w.heap.size w (((w.alloc (.cells #[.int .i64 a0_0, .int .i64 a0_1, .slice A0_2 l0_2.length c0_2] 28)).alloc (.cells #[.int .i64 a1_0, .int .i64 a1_1, .slice A1_2 l1_2.length c1_2] 28)).alloc (.cells #[.int .i64 a1_0, .int .i64 a1_1, .slice A1_2 l1_2.length c1_2] 28)) := below_alloc (below_alloc (below_alloc (Below.refl _ _) _) _) _
 have HB0 := Aside0.mk hB0
 have hs1 : (w.alloc (.cells #[.int .i64 a0_0, .int .i64 a0_1, .slice A0_2 l0_2.length c0_2] 28)).heap.size = w.heap.size + 1 := by simp
 have hs2 : ((w.alloc (.cells #[.int .i64 a0_0, .int .i64 a0_1, .slice A0_2 l0_2.length c0_2] 28)).alloc (.cells #[.int .i64 a1_0, .int .i64 a1_1, .slice A1_2 l1_2.length c1_2] 28)).heap.size = w.heap.size + 2 := by simp
 have hk0 := heap_alloc_new w (.cells #[.int .i64 a0_0, .int .i64 a0_1, .slice A0_2 l0_2.length c0_2] 28)
 have hk1 := heap_alloc_new (w.alloc (.cells #[.int .i64 a0_0, .int .i64 a0_1, .slice A0_2 l0_2.length c0_2] 28)) (.cells #[.int .i64 a1_0, .int .i64 a1_1, .slice A1_2 l1_2.length c1_2] 28)
 have hk2 := heap_alloc_new ((w.alloc (.cells #[.int .i64 a0_0, .int .i64 a0_1, .slice A0_2 l0_2.length c0_2] 28)).alloc (.cells #[.int .i64 a1_0, .int .i64 a1_1, .slice A1_2 l1_2.length c1_2] 28)) (.cells #[.int .i64 a1_0, .int .i64 a1_1, .slice A1_2 l1_2.length c1_2] 28)
 rw [hs1] at hk1
 rw [hs2] at hk2
 have BK0 : Aside0 ((((w.alloc (.cells #[.int .i64 a0_0, .int .i64 a0_1, .slice A0_2 l0_2.length c0_2] 28)).alloc (.cells #[.int .i64 a1_0, .int .i64 a1_1, .slice A1_2 l1_2.length c1_2] 28)).alloc (.cells #[.int .i64 a1_0, .int .i64 a1_1, .slice A1_2 l1_2.length c1_2] 28)).heap[w.heap.size]? = some (.cells #[.int .i64 a0_0, .int .i64 a0_1, .slice A0_2 l0_2.length c0_2] 28 (0, 0))) := ⟨blk_alloc (blk_alloc hk0 _) _⟩
 have BK1 : Aside0 ((((w.alloc (.cells #[.int .i64 a0_0, .int .i64 a0_1, .slice A0_2 l0_2.length c0_2] 28)).alloc (.cells #[.int .i64 a1_0, .int .i64 a1_1, .slice A1_2 l1_2.length c1_2] 28)).alloc (.cells #[.int .i64 a1_0, .int .i64 a1_1, .slice A1_2 l1_2.length c1_2] 28)).heap[w.heap.size + 1]? = some (.cells #[.int .i64 a1_0, .int .i64 a1_1, .slice A1_2 l1_2.length c1_2] 28 (0, 0))) := ⟨blk_alloc hk1 _⟩
 unfold impl_SwappedColors.f at h
 obtain ⟨s, hs, h2⟩ := Option.bind_eq_some_iff.mp h
 clear h
 have h := h2
 clear h2
 have HS := Aside0.mk (impl_isSameSize.calls1 (w.heap.size + 2) a0_0 a0_1 A0_2 c0_2 l0_2 a1_0 a1_1 A1_2 c1_2 l1_2 s (((w.alloc (.cells #[.int .i64 a0_0, .int .i64 a0_1, .slice A0_2 l0_2.length c0_2] 28)).alloc (.cells #[.int .i64 a1_0, .int .i64 a1_1, .slice A1_2 l1_2.length c1_2] 28)).alloc (.cells #[.int .i64 a1_0, .int .i64 a1_1, .slice A1_2 l1_2.length c1_2] 28)) (Kd.C_below hr0_2 hB0) hc0_2 (Kd.C_below hr1_2 hB0) hc1_2 hs
  (fun W hb => ⟨(hb.cell (p := ⟨w.heap.size + 2, 0, none⟩) (by simp)).trans ((blk_cell hk2 0).trans rfl), (hb.cell (p := ⟨w.heap.size + 2, 1, none⟩) (by simp)).trans ((blk_cell hk2 1).trans rfl), (hb.cell (p := ⟨w.heap.size + 2, 2, none⟩) (by simp)).trans ((blk_cell hk2 2).trans rfl)⟩))
 clear hk0 hk1 hk2 hs1 hs2 hB0 hs
 cases s with
 | false =>
  rw [if_neg (by decide)] at h
  obtain ⟨rfl, rfl⟩ := Prod.mk.inj (Option.some.inj h)
  clear hr0_2 hc0_2 hr1_2 hc1_2 h
  go_enter Try.func39, Try.ntmps39
  go_wp2_with fail
  refine HS.out.mono ?_
  rintro e w1 ⟨rfl, hb⟩
  have HB1 := Aside0.mk (below_step HB0.out hb)
  clear hb
  go_wp2
  go_ret2
  exact ⟨_, by first | rfl | (simp; done), Kd.R_nil _ _ _ _ _, HB1.out⟩
 | true =>
  rw [if_pos rfl] at h
  by_cases hg : l0_2.length = l1_2.length ∧ l0_2.length ≤ 1000000
  case neg => rw [if_neg hg] at h; cases h
  rw [if_pos hg] at h
  obtain ⟨rfl, rfl⟩ := Prod.mk.inj (Option.some.inj h)
  have HG := Aside0.mk hg
  have HR0 := Aside0.mk hr0_2
  have HR1 := Aside0.mk hr1_2
  have HSO : Aside0 (∀ (v : Value) (W : World), Below w.heap.size w W → Kd.R k79 79 W w.heap.size (fun _ => True) v (pairsTo l0_2 l1_2 l0_2.length) → _) := ⟨fun v W hb hr => SortFunc_sw (fun _ => True) v (pairsTo l0_2 l1_2 l0_2.length) w W hb hr (by have := pairs_len l0_2 l1_2 l0_2.length; omega)⟩
  have HCO : Aside0 (∀ (v : Value) (W : World), Below w.heap.size w W → Kd.R k79 79 W w.heap.size (fun _ => True) v (sortP (pairsTo l0_2 l1_2 l0_2.length)) → _) := ⟨fun v W hb hr => Compact_sw v (sortP (pairsTo l0_2 l1_2 l0_2.length)) w W hb hr (by have := pairs_len l0_2 l1_2 l0_2.length; rw [sortP_len]; omega)⟩
  clear hr0_2 hc0_2 hr1_2 hc1_2 h hg
  go_enter Try.func39, Try.ntmps39
  go_wp2_with fail
  refine HS.out.mono ?_
  rintro e w1 ⟨rfl, hb⟩
  have HB1 := Aside0.mk (below_step HB0.out hb)
  have C0 := Aside0.mk (blk_below BK0.out hb)
  have C1 := Aside0.mk (blk_below BK1.out hb)
  clear hb HS HB0 BK0 BK1
  go_wp2_with (first | ((with_reducible refine gate_dst (N := 14) rfl ?_); refine Kd.R_lit k79 _ 79 ?hg (N := 14) ?hd (xs := ([] : List S79)) (inner := []) (ok := fun _ => True) (okp := fun _ => True) ?hr ?hp (fun _ hk => hk) trivial (Below.refl _ _) (Nat.le_refl _) (by simp) ?_; (case hd => rfl); (case hg => rfl); (case hr => first | (go_simp; done) | (go_simp; rfl)); (case hp => exact (Reps.none _ _)); intro v14 w2 ho hb hg_ hnew_; have HO := Aside0.mk (Kd.R_lower ho (below_size HB1.out)); have HB := Aside0.mk (below_step HB1.out hb); have D0 := Aside0.mk (blk_below C0.out hb); have D1 := Aside0.mk (blk_below C1.out hb); have y0_ : w2.cell? ⟨w.heap.size, 2, none⟩ = some (.slice A0_2 l0_2.length c0_2) := (blk_cell D0.out 2).trans rfl; clear hg_ hnew_ ho hb))
  clear HB1 C0 C1
  go_loopg [6, 18] l0_2.length (fun gg s6 s18 wr => ∃ (x : Int), s18 = .int .i64 x ∧ Aside0 (0 ≤ x ∧ x ≤ (l0_2.length : Int) ∧ (l0_2.length : Int) - x ≤ gg) ∧ Aside0 (Kd.R k79 79 wr w.heap.size (fun _ => True) s6 (pairsTo l0_2 l1_2 x.toNat)) ∧ Aside0 (Below w.heap.size w wr) ∧ Aside0 (wr.heap[w.heap.size]? = some (.cells #[.int .i64 a0_0, .int .i64 a0_1, .slice A0_2 l0_2.length c0_2] 28 (0, 0))) ∧ Aside0 (wr.heap[w.heap.size + 1]? = some (.cells #[.int .i64 a1_0, .int .i64 a1_1, .slice A1_2 l1_2.length c1_2] 28 (0, 0))))
  case atStart => exact ⟨0, rfl, ⟨by omega, by omega, by omega⟩, HO, HB, D0, D1⟩
  case round =>
   clear HO HB D0 D1 y0_
   obtain ⟨x, rfl, HX, RO, BW, BK0, BK1⟩ := hrel
   by_cases hlt : x < (l0_2.length : Int)
   ·have c0 : decide (x < (l0_2.length : Int)) = true := decide_eq_true hlt
    have hx0 := HX.out.1
    have hlt1 : x < (l1_2.length : Int) := by have := HG.out; omega
    obtain ⟨ad, e0, k0⟩ := Kd.at_int (Kd.C_below HR0.out BW.out) x hx0 hlt
    cases e0
    obtain ⟨ad1, e1, k1⟩ := Kd.at_int (Kd.C_below HR1.out BW.out) x hx0 hlt1
    cases e1
    have hcz0_0 : wr.cell? ⟨w.heap.size, 0, none⟩ = some (.int .i64 a0_0) := (blk_cell BK0.out 0).trans rfl
    have hcz0_1 : wr.cell? ⟨w.heap.size, 1, none⟩ = some (.int .i64 a0_1) := (blk_cell BK0.out 1).trans rfl
    have hcz0_2 : wr.cell? ⟨w.heap.size, 2, none⟩ = some (.slice (some ad) l0_2.length c0_2) := (blk_cell BK0.out 2).trans rfl
    have hcz1_0 : wr.cell? ⟨w.heap.size + 1, 0, none⟩ = some (.int .i64 a1_0) := (blk_cell BK1.out 0).trans rfl
    have hcz1_1 : wr.cell? ⟨w.heap.size + 1, 1, none⟩ = some (.int .i64 a1_1) := (blk_cell BK1.out 1).trans rfl
    have hcz1_2 : wr.cell? ⟨w.heap.size + 1, 2, none⟩ = some (.slice (some ad1) l1_2.length c1_2) := (blk_cell BK1.out 2).trans rfl
    have w1x : wrap64 (x + 1) = x + 1 := by have := HG.out; unfold wrap64; omega
    have q0 := eq_true hx0
    have q1 := eq_true hlt
    have q2 := eq_true hlt1
    have HLT := Aside0.mk hlt
    have HPS : Aside0 (pairsTo l0_2 l1_2 (x + 1).toNat = pairsTo l0_2 l1_2 x.toNat ++ if (rd l1_2 x != rd l0_2 x) = true then [⟨rd l0_2 x, rd l1_2 x⟩] else []) := ⟨by
     rw [show (x + 1).toNat = x.toNat + 1 from by omega, pairs_succ]
     rfl⟩
    have HPL : Aside0 ((pairsTo l0_2 l1_2 x.toNat).length ≤ 1000000) := ⟨by have := pairs_len l0_2 l1_2 x.toNat; have := HG.out; omega⟩
    obtain ⟨ys, hys⟩ : ∃ ys, ys = pairsTo l0_2 l1_2 x.toNat := ⟨_, rfl⟩
    rw [← hys] at RO HPS HPL
    clear hlt hlt1 hx0 hys
    cases hd : (rd l1_2 x != rd l0_2 x) with
    | true =>
     have HD := Aside0.mk hd
     have hd2 : (rd l1_2 x == rd l0_2 x) = false := by simpa using hd
     go_wp2_with (first | ((with_reducible refine gate_builtin (b := .append) (xs := #[.tmp 30, .tmp 38]) rfl ?_); at_builtin; refine Kd.R_append k79 (w0 := w) w.heap.size rfl (.tmp 30) (.tmp 38) 47 79 (.agg #[(.int .i64 0), (.int .i64 0)]) 16 rfl Try.underlying47 info79 rfl (by decide) (by omega) u6 ys (⟨rd l0_2 x, rd l1_2 x⟩ : S79) [.int .i64 (rd l0_2 x), .int .i64 (rd l1_2 x)] (fun _ => True) (fun _ => False) rfl rfl ?aP (fun _ hk => hk.elim) ?aF ?aO ?aB ?aS ?aL ?_; (case aP => exact k79_mkM _ _ _ (⟨rd l0_2 x, rd l1_2 x⟩ : S79)); (case aB => exact (by repeat (first | (with_reducible first | exact BW.out | apply below_alloc | apply pw_below_drewN | apply below_drew1) | exact BW.out))); (case aF => exact (fun _ _ => trivial)); (case aO => exact (by (with_reducible repeat (first | apply Kd.R_alloc | apply Kd.R_drewN | apply Kd.R_drew)); exact RO.out)); (case aS => exact (below_size (by repeat (first | (with_reducible first | exact BW.out | apply below_alloc | apply pw_below_drewN | apply below_drew1) | exact BW.out)))); (case aL => have := HPL.out; omega); intro v39 w4 ho hb hg hat; have n0_ := Aside0.mk (blk_grown (g := w.heap.size) (o := .cells #[.int .i64 a0_0, .int .i64 a0_1, .slice (some ad) l0_2.length c0_2] 28 (0, 0)) (by (with_reducible repeat (first | refine blk_drewN ?_ _ | refine blk_drew ?_ | refine blk_alloc ?_ _)); exact BK0.out) hg (Kd.R_ne RO.out BK0.out (by decide))); have n1_ := Aside0.mk (blk_grown (g := w.heap.size + 1) (o := .cells #[.int .i64 a1_0, .int .i64 a1_1, .slice (some ad1) l1_2.length c1_2] 28 (0, 0)) (by (with_reducible repeat (first | refine blk_drewN ?_ _ | refine blk_drew ?_ | refine blk_alloc ?_ _)); exact BK1.out) hg (Kd.R_ne RO.out BK1.out (by decide))); have HB4 := Aside0.mk hb; have HO4 := Aside0.mk ho; clear ho hb hg hat))
     go_roundg (l0_2.length - (x.toNat + 1))
     case measure => have := HX.out; have := HLT.out; omega
     case rel =>
      refine ⟨x + 1, by first | rfl | rw [w1x] | simp [w1x], ⟨by have := HX.out; omega, by have := HLT.out; omega, by have := HX.out; have := HLT.out; omega⟩, ⟨?_⟩, HB4, n0_, n1_⟩
      rw [HPS.out, HD.out, if_pos rfl]
      exact HO4.out
    | false =>
     have HD := Aside0.mk hd
     have hd2 : (rd l1_2 x == rd l0_2 x) = true := by simpa using hd
     go_wp2
     go_roundg (l0_2.length - (x.toNat + 1))
     case measure => have := HX.out; have := HLT.out; omega
     case rel =>
      refine ⟨x + 1, by first | rfl | rw [w1x] | simp [w1x], ⟨by have := HX.out; omega, by have := HLT.out; omega, by have := HX.out; have := HLT.out; omega⟩, ⟨?_⟩, BW, BK0, BK1⟩
      rw [HPS.out, HD.out, if_neg (by decide), List.append_nil]
      exact RO.out
   ·have c0 : decide (x < (l0_2.length : Int)) = false := decide_eq_false hlt
    have hxn : x.toNat = l0_2.length := by have := HX.out; omega
    have hr := RO.out
    rw [hxn] at hr
    have h1 := HSO.out u6 wr BW.out hr
    have H1 := Aside0.mk h1
    clear hlt hxn hr h1
    go_wp2_with fail
    refine H1.out.mono ?_
    rintro e w3 ⟨rfl, hr3, hb3⟩
    have h2 := HCO.out u6 w3 hb3 hr3
    have H2 := Aside0.mk h2
    clear h2 hr3 hb3
    go_wp2_with fail
    refine H2.out.mono ?_
    rintro e w4 ⟨v4, rfl, hr4, hb4⟩
    have HR4 := Aside0.mk hr4
    have HB4 := Aside0.mk hb4
    clear hr4 hb4
    go_wp2
    go_ret2
    exact ⟨_, by first | rfl | (simp; done), HR4.out, HB4.out⟩


end Go.Proofs.Ytcjalfgnnabghaa.H
