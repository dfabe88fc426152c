-- Written by wip/hook.py of this repo: the kit's print over all of the seat's laws, with texts of this repo for what it does not take. Lean checks it.
import Derived.Test.YthalifhbjioaeaaDoorHx0
import Derived.Test.YthalifhbjioaeaaDoorHx1
import Derived.Test.YthalifhbjioaeaaDoorHx3
import Derived.Test.YthalifhbjioaeaaDoorWLast
import Derived.Test.YthalifhbjioaeaaDoorWMore
import Derived.Test.YthalifhbjioaeaaDoorWWords
namespace Go.Proofs.YthalifhbjioaeaaDoor.H
open Go.RowKit Go.Proofs.YthalifhbjioaeaaDoorW.PrintWords Go.Proofs.YthalifhbjioaeaaDoorW.PrintLast Go.Proofs.YthalifhbjioaeaaDoorW.PrintMore
attribute [local go_sem] max2_int min2_int max_two min_two max_three min_three max_four min_four   -- for this text's walks alone
set_option linter.unusedVariables false
set_option linter.unusedSimpArgs false

/-! ### impl_FastestFree: function 37, by hand -/

theorem row_block_wv {w : World} {base g m cap : Nat} {ok : Nat → Prop} {xs : List S26} (h : Kd.R k26 26 w base ok (.slice (some ⟨g, 0, none⟩) m cap) xs) (hm : 0 < m) : ∃ cur : Array Value, w.heap[g]? = some (.cells cur 26 (0, 0)) ∧ cur.size = cap * 5 := by
 obtain ⟨hok, inner, ⟨ho1, ho2⟩, hr⟩ := h
 rcases ho2 with ⟨hv, _⟩ | ⟨g', cap', cur, hv, hb, hh, hnc, hcm, hcs, ht⟩
 ·cases hv
 injection hv with ha hn hc
 injection ha with ha
 injection ha with hg
 subst hg; subst hc
 exact ⟨cur, hh, hcs⟩
theorem info_size26 : (Tryd.prog.info? 26).map (·.size) = some 5 := by kernel_rfl

/-- a row of one's own, its block written behind its end -/
theorem R_beyond_wv {w : World} {base g m cap o : Nat} {ok : Nat → Prop} {xs : List S26} (h : Kd.R k26 26 w base ok (.slice (some ⟨g, 0, none⟩) m cap) xs) (vs : List Value) (ho : m * 5 ≤ o) (hl : o + vs.length ≤ cap * 5) :
  Kd.R k26 26 (w.setCells g o vs) base ok (.slice (some ⟨g, 0, none⟩) m cap) xs ∧ w.grownBy (w.setCells g o vs) (some g) := by
 obtain ⟨hok, inner, ⟨ho1, ho2⟩, hr⟩ := h
 rcases ho2 with ⟨hv, _⟩ | ⟨g', cap', cur, hv, hb, hh, hnc, hcm, hcs, ht⟩
 ·cases hv
 injection hv with ha hn hc
 injection ha with ha
 injection ha with hg
 subst hg; subst hc
 have hcz : cur.size = cap * 5 := hcs
 obtain ⟨cur', h3, h4, h5⟩ := setCells_row vs o w cur hh (by omega)
 obtain ⟨s1, s2, s3, s4⟩ := setCells_same g vs o w
 have hsz : (k26).sz = 5 := rfl
 have hml : m = xs.length := hn
 have ht' : cur'.toList.take (xs.length * (k26).sz) = inner := by
  have hle : xs.length * (k26).sz ≤ o := by rw [hsz]; omega
  have hlo : o ≤ cur.toList.length := by rw [Array.length_toList, hcz]; omega
  rw [h5, List.append_assoc, List.take_append_of_le_length (by rw [List.length_take, Nat.min_eq_left hlo]; exact hle), List.take_take, Nat.min_eq_left hle]
  exact ht
 refine ⟨⟨hok, inner, ⟨ho1, .inr ⟨g, cap, cur', by rw [hn], hb, h3, hnc, hcm, by rw [h4]; exact hcs, ht'⟩⟩, hr.imp_ (fun p c hp => ?_)⟩, ⟨s1, s2, s3, Nat.le_of_eq s4.symm, fun k hk hne => ?_⟩⟩
 ·rw [k26_openM hp]
  exact k26_mkM _ _ _ _
 ·exact setCells_far vs o k (fun e => hne (by rw [e]))
theorem clear_wv (w : World) (g i m c : Nat) (cur : Array Value) (ty : TypeId) (hh : w.heap[g]? = some (.cells cur 26 (0, 0))) (hm : 0 < m) (hl : i + m * 5 ≤ cur.size) :
  (Builtin.clear_ #[32] ty #[.slice (some ⟨g, i, none⟩) m c]).run Tryd.prog w = .ok (.tuple #[]) (w.setCells g i (Builtin.zeroCells #[.int .i64 0, .string ⟨#[]⟩, .int .i64 0, .int .i64 0, .int .i64 0] m).toList) := by
 have hlen : (Builtin.zeroCells #[.int .i64 0, .string ⟨#[]⟩, .int .i64 0, .int .i64 0, .int .i64 0] m).toList.length = m * 5 := by rw [Array.length_toList, size_zeroCells]; rfl
 have hst := run_storeCells_cells (P := Tryd.prog) g i (Builtin.zeroCells #[.int .i64 0, .string ⟨#[]⟩, .int .i64 0, .int .i64 0, .int .i64 0] m).toList 0 w
  (by intro j hj; rw [hlen] at hj; rw [blk_cell hh (i + 0 + j)]; simp; omega)
  (by intro j hj; exact blk_frozen hh _)
  (by
   intro v hv
   rw [Array.mem_toList_iff] at hv
   unfold Builtin.zeroCells at hv
   rw [Array.mem_map] at hv
   obtain ⟨k, _, rfl⟩ := hv
   have hk : k % 5 < 5 := Nat.mod_lt _ (by decide)
   have h5 : k % 5 = 0 ∨ k % 5 = 1 ∨ k % 5 = 2 ∨ k % 5 = 3 ∨ k % 5 = 4 := by omega
   rcases h5 with h | h | h | h | h <;> (simp only [List.size_toArray, List.length_cons, List.length_nil, Nat.zero_add, Nat.reduceAdd, h]; rfl))
 simp only [Nat.add_zero] at hst
 obtain ⟨m, rfl⟩ : ∃ q, m = q + 1 := ⟨m - 1, by omega⟩
 have hz : (Value.agg #[.int .i64 0, .string ⟨#[]⟩, .int .i64 0, .int .i64 0, .int .i64 0]).cells = #[.int .i64 0, .string ⟨#[]⟩, .int .i64 0, .int .i64 0, .int .i64 0] := rfl
 simp [Builtin.clear_, hz, run_underlying Tryd.underlying32, Tryd.zeroValue26, hst]

/-! ### slices.DeleteFunc over loop.example/g01023/impl.Weaver -/
theorem filter_hit_wv (del : S26 → Bool) (xs : List S26) (j : Nat) (hj : j < xs.length) : (xs.take (j + 1)).filter (fun x => !del x) = (xs.take j).filter (fun x => !del x) ++ if del (xs.getD j z26) = true then [] else [xs.getD j z26] := by
 have e : xs[j] = xs.getD j z26 := by rw [List.getD_eq_getElem?_getD, List.getElem?_eq_getElem hj]; rfl
 rw [List.take_succ_eq_append_getElem hj, List.filter_append, e]
 congr 1
 cases h : del (xs.getD j z26) with
 | true => rw [if_pos rfl, List.filter_cons_of_neg (by rw [h]; decide), List.filter_nil]
 | false => rw [if_neg (by decide), List.filter_cons_of_pos (by rw [h]; rfl), List.filter_nil]
theorem filter_none_wv (del : S26 → Bool) (xs : List S26) (k : Nat) (hk : k ≤ xs.length) (h : ∀ j : Nat, j < k → del (xs.getD j z26) = false) : (xs.take k).filter (fun x => !del x) = xs.take k := by
 rw [List.filter_eq_self]
 intro x hx
 obtain ⟨i, hi, rfl⟩ := List.getElem_of_mem hx
 rw [List.length_take] at hi
 have := h i (by omega)
 rw [List.getElem_take]
 rw [List.getD_eq_getElem?_getD, List.getElem?_eq_getElem (by omega)] at this
 simp only [Option.getD_some] at this
 rw [this]
 rfl
theorem first_hit_wv (del : S26 → Bool) : ∀ (xs : List S26), (∀ j : Nat, j < xs.length → del (xs.getD j z26) = false) ∨ ∃ k, k < xs.length ∧ del (xs.getD k z26) = true ∧ ∀ j : Nat, j < k → del (xs.getD j z26) = false := by
 intro xs
 induction xs with
 | nil => exact .inl (fun j hj => absurd hj (by simp))
 | cons x r ih =>
  cases hx : del x with
  | true => exact .inr ⟨0, by simp, by simpa using hx, fun j hj => absurd hj (by omega)⟩
  | false =>
   rcases ih with h | ⟨k, hk, h1, h2⟩
   ·refine .inl (fun j hj => ?_)
    cases j with
    | zero => simpa using hx
    | succ j => simpa using h j (by simpa using hj)
   ·refine .inr ⟨k + 1, by simpa using hk, by simpa using h1, fun j hj => ?_⟩
    cases j with
    | zero => simpa using hx
    | succ j => simpa using h2 j (by omega)
set_option maxHeartbeats 8000000 in
set_option maxRecDepth 100000 in
theorem DeleteFunc_wv (del : S26 → Bool) (g : Nat) (lb : Array Value) (u : Value) (xs : List S26) (w0 w : World) (hB : Below w0.heap.size w0 w) (ho0 : Kd.R k26 26 w w0.heap.size (fun _ => True) u xs) (hl : xs.length ≤ 1000000)
  (eg : ∀ args w, (callFunc g args).run Tryd.prog w = .ok (.enter g args) w)
  (hp : ∀ (W : World) (x : S26), Below w0.heap.size w0 W → Calls Tryd.prog g (#[.agg #[.int .i64 x.f0, .string x.f1, .int .i64 x.f2, .int .i64 x.f3, .int .i64 x.f4]] ++ lb) W fun e w' => e = .returned (.bool (del x)) ∧ Below W.heap.size W w') :
  Calls Tryd.prog 77 #[u, .func (.func g) #[] lb] w fun e w' => ∃ v, e = .returned v ∧ Kd.R k26 26 w' w0.heap.size (fun _ => True) v (xs.filter fun x => !del x) ∧ Below w0.heap.size w0 w' := by
 have hu_ := Tryd.underlying26
 obtain ⟨A, cap, rfl⟩ := Kd.R_slice ho0
 have hC := (Kd.R_reads' ho0).2.2
 have hI := IndexFunc_wv del g lb A cap xs w eg hC (fun W x hW => hp W x (Below.trans hB (hW.mono hB.size)))
 have HB := Aside0.mk hB
 have HR := Aside0.mk ho0
 have HP := Aside0.mk hp
 rcases first_hit_wv del xs with hno | ⟨k0, hk0, hd0, hno⟩
 ·rw [findI_miss del z26 xs hno] at hI
  have HI := Aside0.mk hI
  have HF := Aside0.mk (filter_none_wv del xs xs.length (Nat.le_refl _) hno)
  clear hI hno hC hp ho0 hB hl
  go_enter Tryd.func77, Tryd.ntmps77
  go_wp2_with fail
  refine HI.out.mono ?_
  rintro e w1 ⟨rfl, hb⟩
  have HR1 := Aside0.mk (Kd.R_below HR.out hb)
  have HB1 := Aside0.mk (below_step HB.out hb)
  clear hb
  go_wp2
  go_ret
  have hf := HF.out
  rw [List.take_length] at hf
  rw [hf]
  exact ⟨_, by first | rfl | (simp; done), HR1.out, HB1.out⟩
 ·rw [findI_hit del z26 xs k0 hk0 hno hd0] at hI
  obtain ⟨b, cap', he, hge, hgl, _⟩ := Kd.R_form ho0 (by omega)
  injection he with he1 he2 he3
  subst he1; subst he3
  have HI := Aside0.mk hI
  have hnc := (Kd.R_reads' ho0).2.1
  have HS : Aside0 ((0 : Int) ≤ (k0 : Int) ∧ (k0 : Int) < (k0 : Int) + 1 ∧ (k0 : Int) + 1 ≤ (xs.length : Int)) := ⟨by omega, by omega, by omega⟩
  have HF : Aside0 (xs.take ((k0 : Int)).toNat = (xs.take ((k0 : Int) + 1).toNat).filter fun x => !del x) := ⟨by
   rw [show ((k0 : Int) + 1).toNat = k0 + 1 by omega, filter_hit_wv del xs k0 hk0, if_pos hd0, List.append_nil, filter_none_wv del xs k0 (by omega) hno]
   rfl⟩
  have HL := Aside0.mk (show xs.length ≤ 1000000 ∧ xs.length ≤ cap from ⟨hl, hnc⟩)
  have n0 : ((k0 : Int) == -1) = false := beq_eq_false_iff_ne.2 (by omega)
  have wk : wrap64 ((k0 : Int) + 1) = (k0 : Int) + 1 := by unfold wrap64; omega
  clear hI hno hC hp ho0 hB hl hk0 hd0 hge hgl hnc he2
  go_enter Tryd.func77, Tryd.ntmps77
  go_wp2_with fail
  refine HI.out.mono ?_
  rintro e w1 ⟨rfl, hb⟩
  have HR1 := Aside0.mk (Kd.R_below HR.out hb)
  have HB1 := Aside0.mk (below_step HB.out hb)
  clear hb
  go_wp2
  clear n0
  go_loopg [5, 6] xs.length (fun gg s5 s6 wr => ∃ (i j : Int) (ys : List S26), s5 = .int .i64 i ∧ s6 = .int .i64 j ∧ Aside0 (0 ≤ i ∧ i < j ∧ j ≤ (xs.length : Int) ∧ (xs.length : Int) - j ≤ gg) ∧ Aside0 (ys.length = xs.length ∧ ys.take i.toNat = (xs.take j.toNat).filter (fun x => !del x) ∧ ys.drop j.toNat = xs.drop j.toNat) ∧ Aside0 (Kd.R k26 26 wr w0.heap.size (fun _ => True) (.slice (some ⟨b, 0, none⟩) xs.length cap) ys) ∧ Aside0 (Below w0.heap.size w0 wr))
  case atStart => exact ⟨(k0 : Int), (k0 : Int) + 1, xs, rfl, by first | rfl | rw [wk] | simp [wk], ⟨by have := HS.out; omega, by have := HS.out; omega, by have := HS.out; omega, by have := HS.out; omega⟩, ⟨rfl, HF.out, rfl⟩, HR1, HB1⟩
  case round =>
   clear HR1 HB1 wk
   obtain ⟨i, j, ys, rfl, rfl, HX, HY, RO, BW⟩ := hrel
   have HYL := HY.out.1
   by_cases hlt : j < (xs.length : Int)
   ·have c0 : decide (j < (xs.length : Int)) = true := decide_eq_true hlt
    have hj0 : 0 ≤ j := by have := HX.out; omega
    obtain ⟨X, hX⟩ : ∃ X, X = (rd_T26 ys j) := ⟨_, rfl⟩
    obtain ⟨ad, e0, b0, b1, b2, b3, b4⟩ := at_T26 (Kd.R_reads' RO.out).2.2 j hj0 (by rw [HYL]; exact hlt)
    cases e0
    have ea : (⟨b, 0, none⟩ : Addr).add (j.toNat * 5) = ⟨b, j.toNat * 5, none⟩ := by unfold Addr.add; split <;> simp_all
    rw [← hX] at b0 b1 b2 b3 b4
    rw [ea] at b0 b1 b2 b3 b4
    clear ea
    have hXx : X = xs.getD j.toNat z26 := by
     rw [hX]
     show ys.getD j.toNat z26 = _
     have := HY.out.2.2
     rw [List.getD_eq_getElem?_getD, List.getD_eq_getElem?_getD]
     have h1 : (ys.drop j.toNat)[0]? = (xs.drop j.toNat)[0]? := by rw [this]
     rw [List.getElem?_drop, List.getElem?_drop, Nat.add_zero] at h1
     rw [h1]
    have HFH := Aside0.mk (filter_hit_wv del xs j.toNat (by omega))
    rw [← hXx] at HFH
    have HBa := Aside0.mk (below_alloc BW.out (.cells #[.int .i64 X.f0, .string X.f1, .int .i64 X.f2, .int .i64 X.f3, .int .i64 X.f4] 26))
    have hcall := HP.out _ X HBa.out
    have HLT := Aside0.mk hlt
    have q0 := eq_true hj0
    have q1 := eq_true hlt
    have w1j : wrap64 (j + 1) = j + 1 := by have := HL.out; unfold wrap64; omega
    have w1i : wrap64 (i + 1) = i + 1 := by have := HX.out; have := HL.out; unfold wrap64; omega
    have HXX := Aside0.mk hX
    clear hlt hXx hX
    cases hq : del X with
    | true =>
     rw [hq] at hcall
     have HC := Aside0.mk hcall
     have HQ := Aside0.mk hq
     clear hcall hq
     go_wp2_with fail
     refine HC.out.mono ?_
     rintro e w2 ⟨rfl, hb⟩
     have HB2 := Aside0.mk (below_step HBa.out hb)
     have HR2 := Aside0.mk (Kd.R_below (Kd.R_alloc RO.out (.cells #[.int .i64 X.f0, .string X.f1, .int .i64 X.f2, .int .i64 X.f3, .int .i64 X.f4] 26)) hb)
     clear hb
     go_wp2
     go_roundg (xs.length - (j.toNat + 1))
     case measure => have := HX.out; have := HLT.out; omega
     case rel =>
      refine ⟨i, j + 1, ys, rfl, by first | rfl | rw [w1j] | simp [w1j], ⟨by have := HX.out; omega, by have := HX.out; omega, by have := HLT.out; omega, by have := HX.out; have := HLT.out; omega⟩, ⟨HYL, ?_, ?_⟩, HR2, HB2⟩
      ·rw [show (j + 1).toNat = j.toNat + 1 by have := HX.out; omega, HFH.out, if_pos HQ.out, List.append_nil]
       exact HY.out.2.1
      ·have := HY.out.2.2
       rw [show (j + 1).toNat = j.toNat + 1 by have := HX.out; omega, ← List.drop_drop, ← List.drop_drop, this]
    | false =>
     rw [hq] at hcall
     have HC := Aside0.mk hcall
     have HQ := Aside0.mk hq
     clear hcall hq
     go_wp2_with fail
     refine HC.out.mono ?_
     rintro e w2 ⟨rfl, hb⟩
     have HB2 := Aside0.mk (below_step HBa.out hb)
     have HR2 := Aside0.mk (Kd.R_below (Kd.R_alloc RO.out (.cells #[.int .i64 X.f0, .string X.f1, .int .i64 X.f2, .int .i64 X.f3, .int .i64 X.f4] 26)) hb)
     have HBK := Aside0.mk (blk_below (blk_new wr (.cells #[.int .i64 X.f0, .string X.f1, .int .i64 X.f2, .int .i64 X.f3, .int .i64 X.f4] 26)) hb)
     clear hb b0 b1 b2 b3 b4 q0 q1
     
     have m0 : w2.cell? ⟨wr.heap.size, 0, none⟩ = some (.int .i64 X.f0) := (blk_cell HBK.out 0).trans rfl
     have m1 : w2.cell? ⟨wr.heap.size, 1, none⟩ = some (.string X.f1) := (blk_cell HBK.out 1).trans rfl
     have m2 : w2.cell? ⟨wr.heap.size, 2, none⟩ = some (.int .i64 X.f2) := (blk_cell HBK.out 2).trans rfl
     have m3 : w2.cell? ⟨wr.heap.size, 3, none⟩ = some (.int .i64 X.f3) := (blk_cell HBK.out 3).trans rfl
     have m4 : w2.cell? ⟨wr.heap.size, 4, none⟩ = some (.int .i64 X.f4) := (blk_cell HBK.out 4).trans rfl
     have hi0 : 0 ≤ i := by have := HX.out; omega
     have hi1 : i < (xs.length : Int) := by have := HX.out; have := HLT.out; omega
     have q0 := eq_true hi0
     have q1 := eq_true hi1
     obtain ⟨ad, e0, b0, b1, b2, b3, b4⟩ := at_T26 (Kd.R_reads' HR2.out).2.2 i hi0 (by rw [HYL]; exact hi1)
     obtain rfl := Option.some.inj e0
     have HOLD : Aside0 (∀ (k : Nat) (u : Value), [.int .i64 (rd_T26 ys i).f0, .string (rd_T26 ys i).f1, .int .i64 (rd_T26 ys i).f2, .int .i64 (rd_T26 ys i).f3, .int .i64 (rd_T26 ys i).f4][k]? = some u → w2.cell? ⟨b, i.toNat * 5 + k, none⟩ = some u) := ⟨fun k u hu => by
      have h5 : k = 0 ∨ k = 1 ∨ k = 2 ∨ k = 3 ∨ k = 4 := by
       rcases Nat.lt_or_ge k 5 with h | h
       ·omega
       ·rw [List.getElem?_eq_none (by simpa using h)] at hu; cases hu
      have ea : (⟨b, 0, none⟩ : Addr).add (i.toNat * 5) = ⟨b, i.toNat * 5, none⟩ := by unfold Addr.add; split <;> simp_all
      rw [ea] at b0 b1 b2 b3 b4
      rcases h5 with rfl | rfl | rfl | rfl | rfl
      ·injection hu with hu; subst hu; exact b0
      ·injection hu with hu; subst hu; exact b1
      ·injection hu with hu; subst hu; exact b2
      ·injection hu with hu; subst hu; exact b3
      ·injection hu with hu; subst hu; exact b4⟩
     clear b0 b1 b2 b3 b4
     go_wp2_with (first | ((with_reducible refine gate_store (p := 33) rfl ?_); refine Kd.R_store k26 (w0 := w0) w0.heap.size rfl rfl 26 (.tmp 33) (.tmp 32) rfl 26 (g := b) (n := xs.length) (cap := cap) i 0 ys X (.agg #[.int .i64 X.f0, .string X.f1, .int .i64 X.f2, .int .i64 X.f3, .int .i64 X.f4]) [.int .i64 X.f0, .string X.f1, .int .i64 X.f2, .int .i64 X.f3, .int .i64 X.f4] [.int .i64 (rd_T26 ys i).f0, .string (rd_T26 ys i).f1, .int .i64 (rd_T26 ys i).f2, .int .i64 (rd_T26 ys i).f3, .int .i64 (rd_T26 ys i).f4] (fun _ => True) (fun _ => False) rfl ?so rfl rfl ?st ?s1 HR2.out hi0 hi1 rfl HOLD.out (Nat.le_of_eq rfl) ?sm (fun _ h => h.elim) HB2.out ?_; (case so => first | rfl | (simp; done)); (case st => exact info_size26); (case s1 => intro q hq; simp only [List.mem_cons, List.not_mem_nil, or_false] at hq; rcases hq with rfl | rfl | rfl | rfl | rfl <;> rfl); (case sm => exact k26_mkM _ _ _ _); intro w3 hR3 hB3 hg3; have HR3 := Aside0.mk hR3; have HB3 := Aside0.mk hB3; clear hR3 hB3 hg3))
     go_roundg (xs.length - (j.toNat + 1))
     case measure => have := HX.out; have := HLT.out; omega
     case rel =>
      refine ⟨i + 1, j + 1, ys.set i.toNat X, by first | rfl | rw [w1i] | simp [w1i], by first | rfl | rw [w1j] | simp [w1j], ⟨by have := HX.out; omega, by have := HX.out; omega, by have := HLT.out; omega, by have := HX.out; have := HLT.out; omega⟩, ⟨by rw [List.length_set]; exact HYL, ?_, ?_⟩, HR3, HB3⟩
      ·rw [show (j + 1).toNat = j.toNat + 1 by have := HX.out; omega, HFH.out, if_neg (by rw [HQ.out]; decide), ← HY.out.2.1, show (i + 1).toNat = i.toNat + 1 by have := HX.out; omega]
       have hil : i.toNat < (ys.set i.toNat X).length := by rw [List.length_set, HYL]; have := HX.out; have := HLT.out; omega
       rw [List.take_succ_eq_append_getElem hil, List.getElem_set_self, List.take_set_of_le (Nat.le_refl _)]
      ·have := HY.out.2.2
       rw [show (j + 1).toNat = j.toNat + 1 by have := HX.out; omega, List.drop_set_of_lt (by have := HX.out; omega), ← List.drop_drop, ← List.drop_drop, this]
   ·have c0 : decide (j < (xs.length : Int)) = false := decide_eq_false hlt
    have hjn : j = (xs.length : Int) := by have := HX.out; omega
    have HI2 : Aside0 (i.toNat < xs.length ∧ 0 ≤ i) := ⟨by have := HX.out; omega, by have := HX.out; omega⟩
    have HT : Aside0 (ys.take i.toNat = xs.filter fun x => !del x) := ⟨by rw [HY.out.2.1, hjn, Int.toNat_natCast, List.take_length]⟩
    clear hlt hjn
    obtain ⟨i0, hi0, _, hsz0, _⟩ := info_parts info26
    have hcutT := cut_to 32 26 .i64 Tryd.underlying32 hi0 (some ⟨b, 0, none⟩) xs.length cap i HI2.out.2 (by have := HI2.out; omega) HL.out.2
    have hcutF := cut_from 32 26 .i64 Tryd.underlying32 hi0 5 hsz0 (some ⟨b, 0, none⟩) xs.length cap i HI2.out.2 (by have := HI2.out; omega)
    rw [if_neg (show ¬ cap = i.toNat by have := HI2.out; have := HL.out; omega)] at hcutF
    have ea : (some (⟨b, 0, none⟩ : Addr)).map (·.add (i.toNat * 5)) = some ⟨b, i.toNat * 5, none⟩ := by
     show some ((⟨b, 0, none⟩ : Addr).add (i.toNat * 5)) = _
     congr 1
     unfold Addr.add
     split <;> simp_all
    rw [ea] at hcutF
    have hRt := Kd.R_take RO.out (m := i.toNat) (by rw [HYL]; have := HI2.out; omega)
    rw [HT.out] at hRt
    obtain ⟨cur, hh, hcs⟩ := row_block_wv RO.out (by have := HI2.out; omega)
    have hclr := clear_wv wr b (i.toNat * 5) (xs.length - i.toNat) (cap - i.toNat) cur
    have hclr2 := fun ty => hclr ty hh (by have := HI2.out; omega) (by rw [hcs]; have := HI2.out; have := HL.out; omega)
    have HBE := Aside0.mk (R_beyond_wv hRt (Builtin.zeroCells #[.int .i64 0, .string ⟨#[]⟩, .int .i64 0, .int .i64 0, .int .i64 0] (xs.length - i.toNat)).toList (Nat.le_refl _) (by rw [Array.length_toList, size_zeroCells]; show _ + (xs.length - i.toNat) * 5 ≤ _; have := HI2.out; have := HL.out; omega))
    have HBG := Aside0.mk (Kd.R_base RO.out b (by simp [Value.ownBlock]))
    generalize (Builtin.zeroCells #[.int .i64 0, .string ⟨#[]⟩, .int .i64 0, .int .i64 0, .int .i64 0] (xs.length - i.toNat)).toList = zs at hclr2 HBE
    clear ea hRt hclr hh hcs hsz0 hi0
    go_wp2
    go_ret
    exact ⟨_, by first | rfl | (simp; done), HBE.out.1, BW.out.grown HBE.out.2 BW.out.size (fun k hk => by injection hk with hk; subst hk; exact HBG.out)⟩

/-! ### cmp.Compare over whole numbers -/
def cmpW (a b : Int) : Int := if a < b then -1 else if b < a then 1 else 0
set_option maxHeartbeats 4000000 in
set_option maxRecDepth 100000 in
theorem cmpW_calls (x y : Int) (W : World) : Calls Tryd.prog 82 #[.int .i64 x, .int .i64 y] W fun e w' => e = .returned (.int .i64 (cmpW x y)) ∧ w' = W := by
 have hn : (x != x) = false := by simp
 have hm : (y != y) = false := by simp
 by_cases h1 : x < y
 ·have c0 : decide (x < y) = true := decide_eq_true h1
  have e : cmpW x y = -1 := if_pos h1
  rw [e]
  clear h1 e
  go_enter Tryd.func82, Tryd.ntmps82
  go_wp2
  go_ret
  exact ⟨rfl, rfl⟩
 ·have c0 : decide (x < y) = false := decide_eq_false h1
  by_cases h2 : y < x
  ·have c1 : decide (y < x) = true := decide_eq_true h2
   have e : cmpW x y = 1 := by unfold cmpW; rw [if_neg h1, if_pos h2]
   rw [e]
   clear h1 h2 e
   go_enter Tryd.func82, Tryd.ntmps82
   go_wp2
   go_ret
   exact ⟨rfl, rfl⟩
  ·have c1 : decide (y < x) = false := decide_eq_false h2
   have e : cmpW x y = 0 := by unfold cmpW; rw [if_neg h1, if_neg h2]
   rw [e]
   clear h1 h2 e
   go_enter Tryd.func82, Tryd.ntmps82
   go_wp2
   go_ret
   exact ⟨rfl, rfl⟩

/-- the pick: the first element stands till one comes that is less -/
def minTo_wv (of : S26 → S26 → Int) (xs : List S26) : Nat → S26
 | 0 => xs.getD 0 z26
 | i + 1 => if of (xs.getD (i + 1) z26) (minTo_wv of xs i) < 0 then xs.getD (i + 1) z26 else minTo_wv of xs i
set_option maxHeartbeats 8000000 in
set_option maxRecDepth 100000 in
theorem MinFunc_wv (of : S26 → S26 → Int) (g : Nat) (lb : Array Value) (A : Option Addr) (c : Nat) (xs : List S26) (w : World) (h0 : 0 < xs.length)
  (eg : ∀ args w, (callFunc g args).run Tryd.prog w = .ok (.enter g args) w) (hr : Kd.C k26 w A xs.length xs)
  (hp : ∀ (W : World) (x y : S26), Below w.heap.size w W → Calls Tryd.prog g (#[.agg #[.int .i64 x.f0, .string x.f1, .int .i64 x.f2, .int .i64 x.f3, .int .i64 x.f4], .agg #[.int .i64 y.f0, .string y.f1, .int .i64 y.f2, .int .i64 y.f3, .int .i64 y.f4]] ++ lb) W fun e w' => e = .returned (.int .i64 (of x y)) ∧ Below W.heap.size W w') :
  Calls Tryd.prog 80 #[.slice A xs.length c, .func (.func g) #[] lb] w fun e w' => e = .returned (.agg #[.int .i64 (minTo_wv of xs (xs.length - 1)).f0, .string (minTo_wv of xs (xs.length - 1)).f1, .int .i64 (minTo_wv of xs (xs.length - 1)).f2, .int .i64 (minTo_wv of xs (xs.length - 1)).f3, .int .i64 (minTo_wv of xs (xs.length - 1)).f4]) ∧ Below w.heap.size w w' := by
 have hu_ := Tryd.underlying26
 have hlen := Aside0.mk hr.2.1
 have HR := Aside0.mk hr
 have HP := Aside0.mk hp
 have c00 : decide ((xs.length : Int) < 1) = false := decide_eq_false (by omega)
 have c01 : decide (xs.length < 1) = false := decide_eq_false (by omega)
 have H0 := Aside0.mk h0
 obtain ⟨ad, e0, b0, b1, b2, b3, b4⟩ := at_T26 (Kd.C_below hr (below_alloc (Below.refl _ _) (.cells #[.int .i64 0, .string ⟨#[]⟩, .int .i64 0, .int .i64 0, .int .i64 0] 26))) 0 (by omega) (by omega)
 subst e0
 obtain ⟨X0, hX0⟩ : ∃ X0, X0 = (rd_T26 xs 0) := ⟨_, rfl⟩
 rw [← hX0] at b0 b1 b2 b3 b4
 simp only [Int.toNat_zero, Nat.zero_mul] at b0 b1 b2 b3 b4
 have ea : ad.add 0 = ad := rfl
 rw [ea] at b0 b1 b2 b3 b4
 clear ea
 have p0 : 0 < xs.length := h0
 have HX0 : Aside0 (X0 = minTo_wv of xs 0) := ⟨hX0⟩
 clear hr hp hX0
 go_enter Tryd.func80, Tryd.ntmps80
 go_wp2
 clear b0 b1 b2 b3 b4
 go_loopg [6] xs.length (fun gg s6 wr => ∃ (x : Int) (mv : S26), s6 = .int .i64 x ∧ Aside0 (1 ≤ x ∧ x ≤ (xs.length : Int) ∧ (xs.length : Int) - x ≤ gg) ∧ Aside0 (Below w.heap.size w wr) ∧ Aside0 (wr.heap[w.heap.size + 1]? = some (.cells #[.int .i64 mv.f0, .string mv.f1, .int .i64 mv.f2, .int .i64 mv.f3, .int .i64 mv.f4] 26 (0, 0))) ∧ Aside0 (wr.heap[w.heap.size]? = some (.cells #[.int .i64 0, .string ⟨#[]⟩, .int .i64 0, .int .i64 0, .int .i64 0] 26 (0, 0))) ∧ Aside0 (mv = minTo_wv of xs (x - 1).toNat))
 case atStart => exact ⟨1, X0, rfl, ⟨by omega, by have := H0.out; omega, by omega⟩, ⟨below_alloc (below_alloc (Below.refl _ _) _) _⟩, ⟨by have h := blk_new (w.alloc (.cells #[.int .i64 0, .string ⟨#[]⟩, .int .i64 0, .int .i64 0, .int .i64 0] 26)) (.cells #[.int .i64 X0.f0, .string X0.f1, .int .i64 X0.f2, .int .i64 X0.f3, .int .i64 X0.f4] 26 (0, 0)); rw [show (w.alloc (.cells #[.int .i64 0, .string ⟨#[]⟩, .int .i64 0, .int .i64 0, .int .i64 0] 26)).heap.size = w.heap.size + 1 by simp] at h; exact h⟩, ⟨blk_alloc (blk_new w _) _⟩, HX0⟩
 case round =>
  obtain ⟨x, mv, rfl, HX, BW, BK, BZ, HM⟩ := hrel
  have z0 := Aside0.mk (blk_lt BK.out)
  by_cases hlt : x < (xs.length : Int)
  ·have c0 : decide (x < (xs.length : Int)) = true := decide_eq_true hlt
   have h1 : 0 ≤ x := by have := HX.out; omega
   have HL := Aside0.mk hlt
   obtain ⟨X, hX⟩ : ∃ X, X = (rd_T26 xs x) := ⟨_, rfl⟩
   have HXX := Aside0.mk hX
   have KEY : Aside0 (∀ W', Below wr.heap.size wr W' → Below wr.heap.size wr W' ∧ W'.cell? (ad.add (x.toNat * 5)) = some (.int .i64 X.f0) ∧ W'.cell? ⟨(ad.add (x.toNat * 5)).block, (ad.add (x.toNat * 5)).off + 1, none⟩ = some (.string X.f1) ∧ W'.cell? ⟨(ad.add (x.toNat * 5)).block, (ad.add (x.toNat * 5)).off + 2, none⟩ = some (.int .i64 X.f2) ∧ W'.cell? ⟨(ad.add (x.toNat * 5)).block, (ad.add (x.toNat * 5)).off + 3, none⟩ = some (.int .i64 X.f3) ∧ W'.cell? ⟨(ad.add (x.toNat * 5)).block, (ad.add (x.toNat * 5)).off + 4, none⟩ = some (.int .i64 X.f4) ∧ W'.cell? ⟨w.heap.size + 1, 0, none⟩ = some (.int .i64 mv.f0) ∧ W'.cell? ⟨w.heap.size + 1, 1, none⟩ = some (.string mv.f1) ∧ W'.cell? ⟨w.heap.size + 1, 2, none⟩ = some (.int .i64 mv.f2) ∧ W'.cell? ⟨w.heap.size + 1, 3, none⟩ = some (.int .i64 mv.f3) ∧ W'.cell? ⟨w.heap.size + 1, 4, none⟩ = some (.int .i64 mv.f4)) := ⟨fun W' h => by
    obtain ⟨a1, e1, d0, d1, d2, d3, d4⟩ := at_T26 (Kd.C_below (Kd.C_below HR.out BW.out) h) x h1 hlt
    obtain rfl := Option.some.inj e1
    rw [← hX] at d0 d1 d2 d3 d4
    have hb := blk_below BK.out h
    exact ⟨h, d0, d1, d2, d3, d4, (blk_cell hb 0).trans rfl, (blk_cell hb 1).trans rfl, (blk_cell hb 2).trans rfl, (blk_cell hb 3).trans rfl, (blk_cell hb 4).trans rfl⟩⟩
   have hw1 : wrap64 (x + 1) = x + 1 := by have := HX.out; have := hlen.out; unfold wrap64; omega
   have q0 := eq_true h1
   have q1 := eq_true hlt
   have HS : Aside0 (minTo_wv of xs (x + 1 - 1).toNat = if of X mv < 0 then X else mv) := ⟨by
    have e : (x + 1 - 1).toNat = (x - 1).toNat + 1 := by have := HX.out; omega
    have e2 : xs.getD ((x - 1).toNat + 1) z26 = X := by rw [hX, show (x - 1).toNat + 1 = x.toNat from by have := HX.out; omega]; rfl
    rw [e, minTo_wv, e2, ← HM.out]⟩
   have HK := KEY.out _ (Below.refl _ _)
   obtain ⟨_, b0, b1, b2, b3, b4, m0, m1, m2, m3, m4⟩ := HK
   clear hlt hX
   by_cases hc : of X mv < 0
   ·have c1 : decide (of X mv < 0) = true := decide_eq_true hc
    have HC := Aside0.mk hc
    clear hc
    go_wp2_with fail
    go_region_held3 (fun W' => Below wr.heap.size wr W' ∧ W'.cell? (ad.add (x.toNat * 5)) = some (.int .i64 X.f0) ∧ W'.cell? ⟨(ad.add (x.toNat * 5)).block, (ad.add (x.toNat * 5)).off + 1, none⟩ = some (.string X.f1) ∧ W'.cell? ⟨(ad.add (x.toNat * 5)).block, (ad.add (x.toNat * 5)).off + 2, none⟩ = some (.int .i64 X.f2) ∧ W'.cell? ⟨(ad.add (x.toNat * 5)).block, (ad.add (x.toNat * 5)).off + 3, none⟩ = some (.int .i64 X.f3) ∧ W'.cell? ⟨(ad.add (x.toNat * 5)).block, (ad.add (x.toNat * 5)).off + 4, none⟩ = some (.int .i64 X.f4) ∧ W'.cell? ⟨w.heap.size + 1, 0, none⟩ = some (.int .i64 mv.f0) ∧ W'.cell? ⟨w.heap.size + 1, 1, none⟩ = some (.string mv.f1) ∧ W'.cell? ⟨w.heap.size + 1, 2, none⟩ = some (.int .i64 mv.f2) ∧ W'.cell? ⟨w.heap.size + 1, 3, none⟩ = some (.int .i64 mv.f3) ∧ W'.cell? ⟨w.heap.size + 1, 4, none⟩ = some (.int .i64 mv.f4))
     ((refine KEY.out _ ?_; first | ((repeat (first | exact Below.refl _ _ | assumption | exact (‹Below wr.heap.size wr _ ∧ _›).1 | apply below_drew1 | apply pw_below_drewN)); done) | (refine below_step ?_ hb'; (repeat (first | exact Below.refl _ _ | assumption | exact (‹Below wr.heap.size wr _ ∧ _›).1 | apply below_drew1 | apply pw_below_drewN)); done)))
     (first | (go_at_fn g; refine Calls.mono (HP.out _ X mv ?_) ?_; (refine Below.trans BW.out (Below.mono ?_ (below_size BW.out)); (repeat (first | exact Below.refl _ _ | assumption | exact (‹Below wr.heap.size wr _ ∧ _›).1 | apply below_drew1 | apply pw_below_drewN))); rintro e w' ⟨rfl, hb'⟩))
    have HBr : Aside0 (Below wr.heap.size wr w') := ⟨(‹Below wr.heap.size wr w' ∧ _›).1⟩
    clear b0 b1 b2 b3 b4 m0 m1 m2 m3 m4
    obtain ⟨_, b0, b1, b2, b3, b4, m0, m1, m2, m3, m4⟩ := KEY.out _ HBr.out
    have HBK := Aside0.mk (blk_below BK.out HBr.out)
    have HBZ := Aside0.mk (blk_below BZ.out HBr.out)
    have HB := Aside0.mk (Below.trans BW.out (HBr.out.mono (below_size BW.out)))
    have f0 := blk_frozen HBK.out 0; have f1 := blk_frozen HBK.out 1; have f2 := blk_frozen HBK.out 2; have f3 := blk_frozen HBK.out 3; have f4 := blk_frozen HBK.out 4
    go_wp2
    go_roundg (xs.length - (x.toNat + 1))
    case measure => have := HX.out; have := HL.out; omega
    case rel =>
     refine ⟨x + 1, X, by first | rfl | rw [hw1] | simp [hw1], ⟨by have := HX.out; omega, by have := HL.out; omega, by have := HX.out; have := HL.out; omega⟩, ⟨?_⟩, ⟨?_⟩, ⟨?_⟩, ⟨by rw [HS.out, if_pos (by have := HC.out; omega)]⟩⟩
     ·exact (((((HB.out).setCell (by simp) _).setCell (by simp) _).setCell (by simp) _).setCell (by simp) _).setCell (by simp) _
     ·exact blk_put (blk_put (blk_put (blk_put (blk_put (HBK.out) 0 (.int .i64 X.f0) rfl) 1 (.string X.f1) rfl) 2 (.int .i64 X.f2) rfl) 3 (.int .i64 X.f3) rfl) 4 (.int .i64 X.f4) rfl
     ·exact blk_far (blk_far (blk_far (blk_far (blk_far (HBZ.out) (p := ⟨w.heap.size + 1, 0, none⟩) (by simp) _) (p := ⟨w.heap.size + 1, 1, none⟩) (by simp) _) (p := ⟨w.heap.size + 1, 2, none⟩) (by simp) _) (p := ⟨w.heap.size + 1, 3, none⟩) (by simp) _) (p := ⟨w.heap.size + 1, 4, none⟩) (by simp) _
   ·have c1 : decide (of X mv < 0) = false := decide_eq_false hc
    have HC := Aside0.mk hc
    clear hc
    go_wp2_with fail
    go_region_held3 (fun W' => Below wr.heap.size wr W' ∧ W'.cell? (ad.add (x.toNat * 5)) = some (.int .i64 X.f0) ∧ W'.cell? ⟨(ad.add (x.toNat * 5)).block, (ad.add (x.toNat * 5)).off + 1, none⟩ = some (.string X.f1) ∧ W'.cell? ⟨(ad.add (x.toNat * 5)).block, (ad.add (x.toNat * 5)).off + 2, none⟩ = some (.int .i64 X.f2) ∧ W'.cell? ⟨(ad.add (x.toNat * 5)).block, (ad.add (x.toNat * 5)).off + 3, none⟩ = some (.int .i64 X.f3) ∧ W'.cell? ⟨(ad.add (x.toNat * 5)).block, (ad.add (x.toNat * 5)).off + 4, none⟩ = some (.int .i64 X.f4) ∧ W'.cell? ⟨w.heap.size + 1, 0, none⟩ = some (.int .i64 mv.f0) ∧ W'.cell? ⟨w.heap.size + 1, 1, none⟩ = some (.string mv.f1) ∧ W'.cell? ⟨w.heap.size + 1, 2, none⟩ = some (.int .i64 mv.f2) ∧ W'.cell? ⟨w.heap.size + 1, 3, none⟩ = some (.int .i64 mv.f3) ∧ W'.cell? ⟨w.heap.size + 1, 4, none⟩ = some (.int .i64 mv.f4))
     ((refine KEY.out _ ?_; first | ((repeat (first | exact Below.refl _ _ | assumption | exact (‹Below wr.heap.size wr _ ∧ _›).1 | apply below_drew1 | apply pw_below_drewN)); done) | (refine below_step ?_ hb'; (repeat (first | exact Below.refl _ _ | assumption | exact (‹Below wr.heap.size wr _ ∧ _›).1 | apply below_drew1 | apply pw_below_drewN)); done)))
     (first | (go_at_fn g; refine Calls.mono (HP.out _ X mv ?_) ?_; (refine Below.trans BW.out (Below.mono ?_ (below_size BW.out)); (repeat (first | exact Below.refl _ _ | assumption | exact (‹Below wr.heap.size wr _ ∧ _›).1 | apply below_drew1 | apply pw_below_drewN))); rintro e w' ⟨rfl, hb'⟩))
    have HBr : Aside0 (Below wr.heap.size wr w') := ⟨(‹Below wr.heap.size wr w' ∧ _›).1⟩
    have HBK := Aside0.mk (blk_below BK.out HBr.out)
    have HBZ := Aside0.mk (blk_below BZ.out HBr.out)
    have HB := Aside0.mk (Below.trans BW.out (HBr.out.mono (below_size BW.out)))
    go_wp2
    go_roundg (xs.length - (x.toNat + 1))
    case measure => have := HX.out; have := HL.out; omega
    case rel => exact ⟨x + 1, mv, by first | rfl | rw [hw1] | simp [hw1], ⟨by have := HX.out; omega, by have := HL.out; omega, by have := HX.out; have := HL.out; omega⟩, HB, HBK, HBZ, ⟨by rw [HS.out, if_neg (by have := HC.out; omega)]⟩⟩
  ·have c0 : decide (x < (xs.length : Int)) = false := decide_eq_false hlt
   have HE : Aside0 (mv = minTo_wv of xs (xs.length - 1)) := ⟨by rw [HM.out, show (x - 1).toNat = xs.length - 1 from by have := HX.out; omega]⟩
   clear hlt
   
   have m0 : wr.cell? ⟨w.heap.size + 1, 0, none⟩ = some (.int .i64 mv.f0) := (blk_cell BK.out 0).trans rfl
   have m1 : wr.cell? ⟨w.heap.size + 1, 1, none⟩ = some (.string mv.f1) := (blk_cell BK.out 1).trans rfl
   have m2 : wr.cell? ⟨w.heap.size + 1, 2, none⟩ = some (.int .i64 mv.f2) := (blk_cell BK.out 2).trans rfl
   have m3 : wr.cell? ⟨w.heap.size + 1, 3, none⟩ = some (.int .i64 mv.f3) := (blk_cell BK.out 3).trans rfl
   have m4 : wr.cell? ⟨w.heap.size + 1, 4, none⟩ = some (.int .i64 mv.f4) := (blk_cell BK.out 4).trans rfl
   have f0 := blk_frozen BZ.out 0; have f1 := blk_frozen BZ.out 1; have f2 := blk_frozen BZ.out 2; have f3 := blk_frozen BZ.out 3; have f4 := blk_frozen BZ.out 4
   have y0 : wr.cell? ⟨w.heap.size, 0, none⟩ = some (.int .i64 0) := (blk_cell BZ.out 0).trans rfl
   have y1 : wr.cell? ⟨w.heap.size, 1, none⟩ = some (.string ⟨#[]⟩) := (blk_cell BZ.out 1).trans rfl
   have y2 : wr.cell? ⟨w.heap.size, 2, none⟩ = some (.int .i64 0) := (blk_cell BZ.out 2).trans rfl
   have y3 : wr.cell? ⟨w.heap.size, 3, none⟩ = some (.int .i64 0) := (blk_cell BZ.out 3).trans rfl
   have y4 : wr.cell? ⟨w.heap.size, 4, none⟩ = some (.int .i64 0) := (blk_cell BZ.out 4).trans rfl
   go_wp2
   rw [← HE.out]
   exact bodyPost_ret (v := .agg #[.int .i64 mv.f0, .string mv.f1, .int .i64 mv.f2, .int .i64 mv.f3, .int .i64 mv.f4]) (by simp [results, Tryd.results80, go_sem, y0, y1, y2, y3, y4]) rfl ⟨rfl, (((((BW.out).setCell (by simp) _).setCell (by simp) _).setCell (by simp) _).setCell (by simp) _).setCell (by simp) _⟩

/-! ### impl_FastestFree_2 -/
def impl_FastestFree_2.of (x y : S26) : Int := cmpW y.f3 x.f3
set_option maxHeartbeats 4000000 in
set_option maxRecDepth 100000 in
theorem impl_FastestFree_2.any (x y : S26) (W : World) : Calls Tryd.prog 81 #[.agg #[.int .i64 x.f0, .string x.f1, .int .i64 x.f2, .int .i64 x.f3, .int .i64 x.f4], .agg #[.int .i64 y.f0, .string y.f1, .int .i64 y.f2, .int .i64 y.f3, .int .i64 y.f4]] W fun e w' => e = .returned (.int .i64 (impl_FastestFree_2.of x y)) ∧ Below W.heap.size W w' := by
 have hu_ := Tryd.underlying26
 have H := Aside0.mk (fun w1 => cmpW_calls y.f3 x.f3 w1)
 have HB := Aside0.mk (below_alloc (below_alloc (Below.refl W.heap.size W) (.cells #[.int .i64 x.f0, .string x.f1, .int .i64 x.f2, .int .i64 x.f3, .int .i64 x.f4] 26)) (.cells #[.int .i64 y.f0, .string y.f1, .int .i64 y.f2, .int .i64 y.f3, .int .i64 y.f4] 26))
 go_enter Tryd.func81, Tryd.ntmps81
 go_wp2_with fail
 refine (H.out _).mono ?_
 rintro e w' ⟨rfl, rfl⟩
 go_wp2
 go_ret
 exact ⟨rfl, HB.out⟩

/-! ### FastestFree -/
def delF (x : S26) : Bool := (x.f4 != 0) || !((Go.bits .and .i64 x.f2 1) == 1)
set_option maxHeartbeats 4000000 in
set_option maxRecDepth 100000 in
theorem FastestFree_1 (x : S26) (W : World) : Calls Tryd.prog 79 #[.agg #[.int .i64 x.f0, .string x.f1, .int .i64 x.f2, .int .i64 x.f3, .int .i64 x.f4]] W fun e w' => e = .returned (.bool (delF x)) ∧ Below W.heap.size W w' := by
 have hu_ := Tryd.underlying26
 have HB := Aside0.mk (below_alloc (Below.refl W.heap.size W) (.cells #[.int .i64 x.f0, .string x.f1, .int .i64 x.f2, .int .i64 x.f3, .int .i64 x.f4] 26))
 have HH := Aside0.mk (impl_Weaver_has.calls x.f0 x.f1 x.f2 x.f3 x.f4 1 ((Go.bits .and .i64 x.f2 1) == 1) (W.alloc (.cells #[.int .i64 x.f0, .string x.f1, .int .i64 x.f2, .int .i64 x.f3, .int .i64 x.f4] 26)) rfl)
 by_cases h0 : x.f4 = 0
 ·have d0 : (x.f4 != 0) = false := by simp [h0]
  have d1 : (x.f4 == 0) = true := by simp [h0]
  have e : delF x = !((Go.bits .and .i64 x.f2 1) == 1) := by unfold delF; rw [d0]; rfl
  rw [e]
  clear e h0
  obtain ⟨q, hq⟩ : ∃ q, q = ((Go.bits .and .i64 x.f2 1) == 1) := ⟨_, rfl⟩
  rw [← hq] at HH ⊢
  clear hq
  cases q with
  | true =>
   go_enter Tryd.func79, Tryd.ntmps79
   go_wp2_with fail
   refine HH.out.mono ?_
   rintro e w' ⟨rfl, hb⟩
   have HB2 := Aside0.mk (below_step HB.out hb)
   clear hb
   go_wp2
   go_ret
   exact ⟨by first | rfl | (simp; done), HB2.out⟩
  | false =>
   go_enter Tryd.func79, Tryd.ntmps79
   go_wp2_with fail
   refine HH.out.mono ?_
   rintro e w' ⟨rfl, hb⟩
   have HB2 := Aside0.mk (below_step HB.out hb)
   clear hb
   go_wp2
   go_ret
   exact ⟨by first | rfl | (simp; done), HB2.out⟩
 ·have d0 : (x.f4 != 0) = true := by simp [h0]
  have d1 : (x.f4 == 0) = false := by simp [h0]
  have e : delF x = true := by unfold delF; rw [d0]; rfl
  rw [e]
  clear e h0 HH
  go_enter Tryd.func79, Tryd.ntmps79
  go_wp2
  go_ret
  exact ⟨by first | rfl | (simp; done), HB.out⟩
def freeW (l0 : List (S26)) : List (S26) := l0.filter fun x => !delF x
def impl_FastestFree.f (l0 : List (S26)) : Option (Int × Bool) := (impl_AreWeavers.f l0).bind fun b => if b = true then (if l0.length ≤ 1000000 then (if (freeW l0).length = 0 then some (0, false) else some ((minTo_wv impl_FastestFree_2.of (freeW l0) ((freeW l0).length - 1)).f0, true)) else none) else some (0, false)
set_option maxHeartbeats 8000000 in
set_option maxRecDepth 100000 in
theorem impl_FastestFree.calls (A0 : Option Addr) (c0 : Nat) (l0 : List (S26)) (r1 : Int) (r2 : Bool) (w : World) (hr0 : Kd.C k26 w A0 l0.length l0) (hc0 : l0.length ≤ c0) (h : impl_FastestFree.f l0 = some (r1, r2)) :
  Calls Tryd.prog 37 #[.slice A0 l0.length c0] w fun e w' => e = .returned (.tuple #[.int .i64 r1, .bool r2]) ∧ Below w.heap.size w w' := by
 have hu_ := Tryd.underlying26
 have hfd_ : ∀ (q0 : Int) (q1 : ByteArray) (q2 : Int) (q3 : Int) (q4 : Int) (W : World), Sem.run Tryd.prog (Instr.field 26 (.agg #[.int .i64 q0, .string q1, .int .i64 q2, .int .i64 q3, .int .i64 q4]) 0) W = .ok (.int .i64 q0) W := fun _ _ _ _ _ _ => by kernel_rfl
 obtain ⟨b, hb, h1⟩ := Option.bind_eq_some_iff.mp h
 have HA := Aside0.mk (impl_AreWeavers.calls A0 c0 l0 b w hr0 hc0 hb)
 have HR0 := Aside0.mk hr0
 have HC0 := Aside0.mk hc0
 clear h hb hr0 hc0
 cases b with
 | false =>
  rw [if_neg (by decide)] at h1
  obtain ⟨rfl, rfl⟩ := Prod.mk.inj (Option.some.inj h1)
  clear h1
  go_enter Tryd.func37, Tryd.ntmps37
  go_wp2_with fail
  refine HA.out.mono ?_
  rintro e w1 ⟨rfl, hb⟩
  go_wp2
  go_ret2
  exact ⟨by first | rfl | (simp; done), hb⟩
 | true =>
  rw [if_pos rfl] at h1
  by_cases hl : l0.length ≤ 1000000
  case neg => rw [if_neg hl] at h1; cases h1
  rw [if_pos hl] at h1
  have HL := Aside0.mk hl
  have HCL : Aside0 (∀ W, Below w.heap.size w W → _) := ⟨fun W hW => slices_Clone_wv.calls A0 c0 l0 l0 W (Kd.C_below HR0.out hW) HC0.out (by unfold slices_Clone_wv.f; rw [if_pos (by omega)])⟩
  have HD : Aside0 (∀ (w1 w2 : World) (v : Value), Below w1.heap.size w1 w2 → Kd.R k26 26 w2 w1.heap.size (fun _ => True) v l0 → _) := ⟨fun w1 w2 v hb hR => DeleteFunc_wv delF 79 #[] v l0 w1 w2 hb hR HL.out (enters_of Tryd.func79 (by kernel_rfl) rfl) (fun W x _ => FastestFree_1 x W)⟩
  obtain ⟨fr, hfr⟩ : ∃ fr, fr = freeW l0 := ⟨_, rfl⟩
  rw [← hfr] at h1
  have HFR := Aside0.mk (show (l0.filter fun x => !delF x) = fr from hfr.symm)
  clear hl hfr
  by_cases hz : fr.length = 0
  ·rw [if_pos hz] at h1
   obtain ⟨rfl, rfl⟩ := Prod.mk.inj (Option.some.inj h1)
   have z0 : ((fr.length : Int) == 0) = true := beq_iff_eq.2 (by omega)
   clear h1 hz
   go_enter Tryd.func37, Tryd.ntmps37
   go_wp2_with fail
   refine HA.out.mono ?_
   rintro e w1 ⟨rfl, hb⟩
   have HB1 := Aside0.mk hb
   clear hb
   go_wp2_with fail
   refine (HCL.out w1 HB1.out).mono ?_
   rintro e w2 ⟨v2, rfl, hR, hb⟩
   have hd := HD.out w1 w2 v2 hb hR
   rw [HFR.out] at hd
   have HD2 := Aside0.mk hd
   clear hd hR hb
   go_wp2_with fail
   refine HD2.out.mono ?_
   rintro e w3 ⟨v3, rfl, hR, hb⟩
   obtain ⟨A3, c3, rfl⟩ := Kd.R_slice hR
   have HB3 := Aside0.mk (below_step HB1.out hb)
   clear hR hb
   go_wp2
   go_ret2
   exact ⟨by first | rfl | (simp; done), HB3.out⟩
  ·rw [if_neg hz] at h1
   obtain ⟨rfl, rfl⟩ := Prod.mk.inj (Option.some.inj h1)
   have z0 : ((fr.length : Int) == 0) = false := beq_eq_false_iff_ne.2 (by omega)
   have HM : Aside0 (∀ (W : World) (A : Option Addr) (c : Nat), Kd.C k26 W A fr.length fr → _) := ⟨fun W A c hC => MinFunc_wv impl_FastestFree_2.of 81 #[] A c fr W (by omega) (enters_of Tryd.func81 (by kernel_rfl) rfl) hC (fun W2 x y _ => impl_FastestFree_2.any x y W2)⟩
   clear h1 hz
   go_enter Tryd.func37, Tryd.ntmps37
   go_wp2_with fail
   refine HA.out.mono ?_
   rintro e w1 ⟨rfl, hb⟩
   have HB1 := Aside0.mk hb
   clear hb
   go_wp2_with fail
   refine (HCL.out w1 HB1.out).mono ?_
   rintro e w2 ⟨v2, rfl, hR, hb⟩
   have hd := HD.out w1 w2 v2 hb hR
   rw [HFR.out] at hd
   have HD2 := Aside0.mk hd
   clear hd hR hb
   go_wp2_with fail
   refine HD2.out.mono ?_
   rintro e w3 ⟨v3, rfl, hR, hb⟩
   obtain ⟨A3, c3, rfl⟩ := Kd.R_slice hR
   have HB3 := Aside0.mk (below_step HB1.out hb)
   have hm := HM.out w3 A3 c3 (Kd.R_reads' hR).2.2
   have HM2 := Aside0.mk hm
   clear hR hb hm
   go_wp2_with fail
   refine HM2.out.mono ?_
   rintro e w4 ⟨rfl, hb⟩
   have HB4 := Aside0.mk (below_step HB3.out hb)
   clear hb
   go_wp2
   go_ret2
   exact ⟨by first | rfl | (simp; done), HB4.out⟩


/-! ### laws_FnExactFastestFree: function 9 -/
def laws_FnExactFastestFree.j0 : Nat → List (S23) → List (S26) → Bool → Option (Bool)
 | 0, _, _, _ => none
 | k + 1, x0, x6, x34 => if x34 = true then (none) else ((laws_toWeaverS.f k x0).bind fun t165 => ((laws_eqWeaverS.f k x6 t165).bind fun t168 => (if t168 = true then (some true) else (none))))
def laws_FnExactFastestFree.f (k : Nat) (l0 : List (S23)) : Option (Bool) := (laws_szWeaverS.f k l0 1048576).bind fun t154 => (if t154 < 0 then (some true) else ((laws_toWeaverS.f k l0).bind fun t155 => ((spec_FastestFree.f k t155).bind fun bt158 => ((laws_toWeaverS.f k l0).bind fun t160 => ((impl_FastestFree.f t160).bind fun bt163 => (if bt163.1 = bt158.1 then (laws_FnExactFastestFree.j0 k l0 t160 (bt163.2 != bt158.2)) else (laws_FnExactFastestFree.j0 k l0 t160 true)))))))

set_option maxHeartbeats 8000000 in
set_option maxRecDepth 100000 in
theorem laws_FnExactFastestFree.calls (k : Nat) (A0 : Option Addr) (c0 : Nat) (l0 : List (S23)) (r : Bool) (w : World) (hr0 : Kd.C k23 w A0 l0.length l0) (hc0 : l0.length ≤ c0) (h : laws_FnExactFastestFree.f k l0 = some r) :
  Calls Tryd.prog 9 #[.slice A0 l0.length c0] w fun e w' => e = .returned (.bool r) ∧ Below w.heap.size w w' := by
 have HR0 := Aside0.mk hr0
 have HC0 := Aside0.mk hc0
 clear hr0 hc0
 have HB := Aside0.mk (Below.refl w.heap.size w)
 have H : ((laws_szWeaverS.f k l0 1048576).bind fun t154 => (if t154 < 0 then (some true) else ((laws_toWeaverS.f k l0).bind fun t155 => ((spec_FastestFree.f k t155).bind fun bt158 => ((laws_toWeaverS.f k l0).bind fun t160 => ((impl_FastestFree.f t160).bind fun bt163 => (if bt163.1 = bt158.1 then (laws_FnExactFastestFree.j0 k l0 t160 (bt163.2 != bt158.2)) else (laws_FnExactFastestFree.j0 k l0 t160 true)))))))) = some r := h
 clear h
 replace H := Option.bind_eq_some_iff.mp H
 obtain ⟨t154, A20, H⟩ := H
 replace H : (if t154 < 0 then (some true) else ((laws_toWeaverS.f k l0).bind fun t155 => ((spec_FastestFree.f k t155).bind fun bt158 => ((laws_toWeaverS.f k l0).bind fun t160 => ((impl_FastestFree.f t160).bind fun bt163 => (if bt163.1 = bt158.1 then (laws_FnExactFastestFree.j0 k l0 t160 (bt163.2 != bt158.2)) else (laws_FnExactFastestFree.j0 k l0 t160 true))))))) = some r := H
 have A2 := Aside0.mk A20
 clear A20
 by_cases c3 : t154 < 0
 ·rw [if_pos c3] at H
  have c3b0 : decide (t154 < 0) = true := decide_eq_true c3
  clear c3
  obtain rfl := Option.some.inj H
  go_enter Tryd.func9, Tryd.ntmps9
  go_wp2_with (first | ((with_reducible refine gate_callee (f := 19) rfl ?_); refine goesL_ (some 11) rfl rfl Tryd.func19 (by kernel_rfl) rfl #[.slice A0 l0.length c0, .int .i64 1048576] rfl (by (try simp only [List.map_toArray, List.map_cons, List.map_nil]); first | done | rfl | (simp only [List.length_drop, List.length_take]; rfl)) ?_; (with_reducible refine (laws_szWeaverS.calls k _ _ l0 1048576 t154 _ ?side1 ?side2 A2.out).mono ?_); (case side1 => repeat (first | exact HR0.out | (with_reducible refine Kd.C_alloc ?_ _) | (with_reducible refine Kd.C_drewN ?_ _) | (with_reducible refine Kd.C_drew ?_))); (case side2 => exact HC0.out); rintro e w4 ⟨rfl, hb⟩; refine ⟨_, rfl, ?_⟩; have n0_ := Aside0.mk (below_step (by repeat (first | (with_reducible first | exact HB.out | apply below_alloc | apply pw_below_drewN | apply below_drew1) | exact HB.out)) hb); clear HB; have HB := n0_; clear n0_; (try clear hb); (try clear hb2); (try clear hk); (try clear hi)))
  go_ret
  exact ⟨by first | rfl | (simp [errW_none, errW_some] <;> rfl) | (simp [*, errW_none, errW_some] <;> rfl), by repeat (first | (with_reducible first | exact HB.out | apply below_alloc | apply pw_below_drewN | apply below_drew1) | exact HB.out)⟩
 ·rw [if_neg c3] at H
  have c3b0 : decide (t154 < 0) = false := decide_eq_false c3
  clear c3
  replace H := Option.bind_eq_some_iff.mp H
  obtain ⟨t155, A50, H⟩ := H
  replace H : ((spec_FastestFree.f k t155).bind fun bt158 => ((laws_toWeaverS.f k l0).bind fun t160 => ((impl_FastestFree.f t160).bind fun bt163 => (if bt163.1 = bt158.1 then (laws_FnExactFastestFree.j0 k l0 t160 (bt163.2 != bt158.2)) else (laws_FnExactFastestFree.j0 k l0 t160 true))))) = some r := H
  have A5 := Aside0.mk A50
  clear A50
  replace H := Option.bind_eq_some_iff.mp H
  obtain ⟨⟨t158, t159⟩, A60, H⟩ := H
  replace H : ((laws_toWeaverS.f k l0).bind fun t160 => ((impl_FastestFree.f t160).bind fun bt163 => (if bt163.1 = t158 then (laws_FnExactFastestFree.j0 k l0 t160 (bt163.2 != t159)) else (laws_FnExactFastestFree.j0 k l0 t160 true)))) = some r := H
  have A6 := Aside0.mk A60
  clear A60
  replace H := Option.bind_eq_some_iff.mp H
  obtain ⟨t160, A70, H⟩ := H
  replace H : ((impl_FastestFree.f t160).bind fun bt163 => (if bt163.1 = t158 then (laws_FnExactFastestFree.j0 k l0 t160 (bt163.2 != t159)) else (laws_FnExactFastestFree.j0 k l0 t160 true))) = some r := H
  have A7 := Aside0.mk A70
  clear A70
  replace H := Option.bind_eq_some_iff.mp H
  obtain ⟨⟨t163, t164⟩, A80, H⟩ := H
  replace H : (if t163 = t158 then (laws_FnExactFastestFree.j0 k l0 t160 (t164 != t159)) else (laws_FnExactFastestFree.j0 k l0 t160 true)) = some r := H
  have A8 := Aside0.mk A80
  clear A80
  have HC9 := Aside0.mk H
  clear H
  go_enter Tryd.func9, Tryd.ntmps9
  go_upto_region 8 with (first | ((with_reducible refine gate_callee (f := 19) rfl ?_); refine goesL_ (some 11) rfl rfl Tryd.func19 (by kernel_rfl) rfl #[.slice A0 l0.length c0, .int .i64 1048576] rfl (by (try simp only [List.map_toArray, List.map_cons, List.map_nil]); first | done | rfl | (simp only [List.length_drop, List.length_take]; rfl)) ?_; (with_reducible refine (laws_szWeaverS.calls k _ _ l0 1048576 t154 _ ?side1 ?side2 A2.out).mono ?_); (case side1 => repeat (first | exact HR0.out | (with_reducible refine Kd.C_alloc ?_ _) | (with_reducible refine Kd.C_drewN ?_ _) | (with_reducible refine Kd.C_drew ?_))); (case side2 => exact HC0.out); rintro e w10 ⟨rfl, hb⟩; refine ⟨_, rfl, ?_⟩; have n0_ := Aside0.mk (below_step (by repeat (first | (with_reducible first | exact HB.out | apply below_alloc | apply pw_below_drewN | apply below_drew1) | exact HB.out)) hb); clear HB; have HB := n0_; clear n0_; (try clear hb); (try clear hb2); (try clear hk); (try clear hi)) | ((with_reducible refine gate_callee (f := 21) rfl ?_); refine goesL_ (some 16) rfl rfl Tryd.func21 (by kernel_rfl) rfl #[.slice A0 l0.length c0] rfl (by (try simp only [List.map_toArray, List.map_cons, List.map_nil]); first | done | rfl | (simp only [List.length_drop, List.length_take]; rfl)) ?_; (with_reducible refine (laws_toWeaverS.calls k _ _ l0 t155 _ ?side1 ?side2 A5.out).mono ?_); (case side1 => repeat (first | exact (Kd.C_below HR0.out HB.out) | (with_reducible refine Kd.C_alloc ?_ _) | (with_reducible refine Kd.C_drewN ?_ _) | (with_reducible refine Kd.C_drew ?_))); (case side2 => exact HC0.out); rintro e w11 ⟨v156, rfl, ho0, hb⟩; refine ⟨_, rfl, ?_⟩; have n0_ := Aside0.mk (Kd.R_lower ho0 (below_size (by repeat (first | (with_reducible first | exact HB.out | apply below_alloc | apply pw_below_drewN | apply below_drew1) | exact HB.out)))); have n1_ := Aside0.mk (below_step (by repeat (first | (with_reducible first | exact HB.out | apply below_alloc | apply pw_below_drewN | apply below_drew1) | exact HB.out)) hb); clear HB; have HO157 := n0_; have HB := n1_; clear n0_ n1_; (try clear hb); (try clear hb2); (try clear hk); (try clear hi); (try clear ho0); obtain ⟨Ao12, co12, eo12⟩ := Kd.R_slice HO157.out; subst eo12) | ((with_reducible refine gate_callee (f := 36) rfl ?_); refine goesL_ (some 17) rfl rfl Tryd.func36 (by kernel_rfl) rfl #[.slice Ao12 t155.length co12] rfl (by (try simp only [List.map_toArray, List.map_cons, List.map_nil]); first | done | rfl | (simp only [List.length_drop, List.length_take]; rfl)) ?_; (with_reducible refine (spec_FastestFree.calls k _ _ t155 t158 t159 _ ?side1 ?side2 A6.out).mono ?_); (case side1 => repeat (first | exact (Kd.R_reads' HO157.out).2.2 | (with_reducible refine Kd.C_alloc ?_ _) | (with_reducible refine Kd.C_drewN ?_ _) | (with_reducible refine Kd.C_drew ?_))); (case side2 => exact (Kd.R_reads' HO157.out).2.1); rintro e w13 ⟨rfl, hb⟩; refine ⟨_, rfl, ?_⟩; have n0_ := Aside0.mk (Kd.R_below (by (with_reducible repeat (first | apply Kd.R_alloc | apply Kd.R_drewN | apply Kd.R_drew)); exact HO157.out) hb); have n1_ := Aside0.mk (below_step (by repeat (first | (with_reducible first | exact HB.out | apply below_alloc | apply pw_below_drewN | apply below_drew1) | exact HB.out)) hb); clear HO157; clear HB; have HO157 := n0_; have HB := n1_; clear n0_ n1_; (try clear hb); (try clear hb2); (try clear hk); (try clear hi)) | ((with_reducible refine gate_callee (f := 21) rfl ?_); refine goesL_ (some 21) rfl rfl Tryd.func21 (by kernel_rfl) rfl #[.slice A0 l0.length c0] rfl (by (try simp only [List.map_toArray, List.map_cons, List.map_nil]); first | done | rfl | (simp only [List.length_drop, List.length_take]; rfl)) ?_; (with_reducible refine (laws_toWeaverS.calls k _ _ l0 t160 _ ?side1 ?side2 A7.out).mono ?_); (case side1 => repeat (first | exact (Kd.C_below HR0.out HB.out) | (with_reducible refine Kd.C_alloc ?_ _) | (with_reducible refine Kd.C_drewN ?_ _) | (with_reducible refine Kd.C_drew ?_))); (case side2 => exact HC0.out); rintro e w14 ⟨v161, rfl, ho0, hb⟩; refine ⟨_, rfl, ?_⟩; have n0_ := Aside0.mk (Kd.R_elder' (by (with_reducible repeat (first | apply Kd.R_alloc | apply Kd.R_drewN | apply Kd.R_drew)); exact HO157.out) (Kd.R_base ho0) hb); have n1_ := Aside0.mk (Kd.R_lower (Kd.R_new' ho0 (Kd.R_lt (by (with_reducible repeat (first | apply Kd.R_alloc | apply Kd.R_drewN | apply Kd.R_drew)); exact HO157.out))) (below_size (by repeat (first | (with_reducible first | exact HB.out | apply below_alloc | apply pw_below_drewN | apply below_drew1) | exact HB.out)))); have n2_ := Aside0.mk (below_step (by repeat (first | (with_reducible first | exact HB.out | apply below_alloc | apply pw_below_drewN | apply below_drew1) | exact HB.out)) hb); clear HO157; clear HB; have HO157 := n0_; have HO162 := n1_; have HB := n2_; clear n0_ n1_ n2_; (try clear hb); (try clear hb2); (try clear hk); (try clear hi); (try clear ho0); obtain ⟨Ao15, co15, eo15⟩ := Kd.R_slice HO162.out; subst eo15) | ((with_reducible refine gate_callee (f := 37) rfl ?_); refine goesL_ (some 24) rfl rfl Tryd.func37 (by kernel_rfl) rfl #[.slice Ao15 t160.length co15] rfl (by (try simp only [List.map_toArray, List.map_cons, List.map_nil]); first | done | rfl | (simp only [List.length_drop, List.length_take]; rfl)) ?_; (with_reducible refine (impl_FastestFree.calls _ _ t160 t163 t164 _ ?side1 ?side2 A8.out).mono ?_); (case side1 => repeat (first | exact (Kd.R_reads' HO162.out).2.2 | (with_reducible refine Kd.C_alloc ?_ _) | (with_reducible refine Kd.C_drewN ?_ _) | (with_reducible refine Kd.C_drew ?_))); (case side2 => exact (Kd.R_reads' HO162.out).2.1); rintro e w16 ⟨rfl, hb⟩; refine ⟨_, rfl, ?_⟩; have n0_ := Aside0.mk (Kd.R_below (by (with_reducible repeat (first | apply Kd.R_alloc | apply Kd.R_drewN | apply Kd.R_drew)); exact HO157.out) hb); have n1_ := Aside0.mk (Kd.R_below (by (with_reducible repeat (first | apply Kd.R_alloc | apply Kd.R_drewN | apply Kd.R_drew)); exact HO162.out) hb); have n2_ := Aside0.mk (below_step (by repeat (first | (with_reducible first | exact HB.out | apply below_alloc | apply pw_below_drewN | apply below_drew1) | exact HB.out)) hb); clear HO157; clear HO162; clear HB; have HO157 := n0_; have HO162 := n1_; have HB := n2_; clear n0_ n1_ n2_; (try clear hb); (try clear hb2); (try clear hk); (try clear hi)))
  (try simp only [Act.put, List.setIfInBounds_toArray, List.set_cons_zero, List.set_cons_succ])
  go_cut [34] (fun v34 wc => ∃ (kq : Nat) (x34_8 : Bool), v34 = .bool x34_8 ∧ Aside0 (laws_FnExactFastestFree.j0 kq l0 t160 x34_8 = some r) ∧ Aside0 (kq ≤ k) ∧ Aside0 (Kd.R k26 26 wc w.heap.size (fun _ => True) (.slice Ao15 t160.length co15) t160) ∧ Aside0 (Below w.heap.size w wc))
  case first =>
   have H := HC9.out
   clear HC9
   by_cases c17 : t163 = t158
   ·rw [if_pos c17] at H
    have c17b0 : (t163 == t158) = true := beq_iff_eq.mpr c17
    have c17b1 : (t163 != t158) = false := bne_eq_false_iff_eq.mpr c17
    clear c17
    (first | rw [c17b0] | (simp only [i64_w, i32_w]; rw [c17b0]) | skip)
    have H' := Aside0.mk H
    clear H
    go_wp2
    go_meet
    case rel => exact ⟨_, ((t164 != t159)), (by first | rfl | (simp; done) | (simp [*]; done)), H', ⟨by first | omega | exact Nat.le_refl _⟩, ⟨by (with_reducible repeat (first | apply Kd.R_alloc | apply Kd.R_drewN | apply Kd.R_drew)); exact Kd.R_mono HO162.out (fun _ hk => trivial)⟩, ⟨by repeat (first | (with_reducible first | exact HB.out | apply below_alloc | apply pw_below_drewN | apply below_drew1) | exact HB.out)⟩⟩
   ·rw [if_neg c17] at H
    have c17b0 : (t163 == t158) = false := beq_eq_false_iff_ne.mpr c17
    have c17b1 : (t163 != t158) = true := bne_iff_ne.mpr c17
    (first | rw [c17b0] | (simp only [i64_w, i32_w]; rw [c17b0]) | skip)
    have H' := Aside0.mk H
    clear H
    go_wp2
    go_meet
    case rel => exact ⟨_, (true), (by first | rfl | (simp; done) | (simp [*]; done)), H', ⟨by first | omega | exact Nat.le_refl _⟩, ⟨by (with_reducible repeat (first | apply Kd.R_alloc | apply Kd.R_drewN | apply Kd.R_drew)); exact Kd.R_mono HO162.out (fun _ hk => trivial)⟩, ⟨by repeat (first | (with_reducible first | exact HB.out | apply below_alloc | apply pw_below_drewN | apply below_drew1) | exact HB.out)⟩⟩
  case rest =>
   clear HC9
   try clear c1
   try clear c2
   try clear p2
   try clear c3
   try clear c3b0
   try clear c9
   try clear c17
   try clear c17b0
   try clear c17b1
   obtain ⟨kq, x34_8, rfl, HA, HJ8, HO_6, HB⟩ := hcut
   cases kq with
   | zero => exact absurd HA.out (by simp [laws_FnExactFastestFree.j0])
   | succ kj8 =>
    have H := HA.out
    clear HA
    simp only [laws_FnExactFastestFree.j0] at H
    by_cases c18 : x34_8 = true
    ·subst c18
     have H1 : (none) = some r := by rw [if_pos rfl] at H; exact H
     clear H
     have H := H1
     clear H1
     exact absurd H (by simp)
    ·replace c18 := Bool.eq_false_iff.mpr c18
     subst c18
     have H1 : ((laws_toWeaverS.f kj8 l0).bind fun t165 => ((laws_eqWeaverS.f kj8 t160 t165).bind fun t168 => (if t168 = true then (some true) else (none)))) = some r := by rw [if_neg (show ¬ (false = true) by decide)] at H; exact H
     clear H
     have H := H1
     clear H1
     replace H := Option.bind_eq_some_iff.mp H
     obtain ⟨t165, A190, H⟩ := H
     replace H : ((laws_eqWeaverS.f kj8 t160 t165).bind fun t168 => (if t168 = true then (some true) else (none))) = some r := H
     have A19 := Aside0.mk A190
     clear A190
     replace H := Option.bind_eq_some_iff.mp H
     obtain ⟨t168, A200, H⟩ := H
     replace H : (if t168 = true then (some true) else (none)) = some r := H
     have A20 := Aside0.mk A200
     clear A200
     by_cases c21 : t168 = true
     ·subst c21
      have H1 : (some true) = some r := by rw [if_pos rfl] at H; exact H
      clear H
      have H := H1
      clear H1
      obtain rfl := Option.some.inj H
      go_wp2_with (first | ((with_reducible refine gate_callee (f := 21) rfl ?_); refine goesL_ (some 37) rfl rfl Tryd.func21 (by kernel_rfl) rfl #[.slice A0 l0.length c0] rfl (by (try simp only [List.map_toArray, List.map_cons, List.map_nil]); first | done | rfl | (simp only [List.length_drop, List.length_take]; rfl)) ?_; (with_reducible refine (laws_toWeaverS.calls kj8 _ _ l0 t165 _ ?side1 ?side2 A19.out).mono ?_); (case side1 => repeat (first | exact (Kd.C_below HR0.out HB.out) | (with_reducible refine Kd.C_alloc ?_ _) | (with_reducible refine Kd.C_drewN ?_ _) | (with_reducible refine Kd.C_drew ?_))); (case side2 => exact HC0.out); rintro e w22 ⟨v166, rfl, ho0, hb⟩; refine ⟨_, rfl, ?_⟩; have n0_ := Aside0.mk (Kd.R_elder' (by (with_reducible repeat (first | apply Kd.R_alloc | apply Kd.R_drewN | apply Kd.R_drew)); exact HO_6.out) (Kd.R_base ho0) hb); have n1_ := Aside0.mk (Kd.R_lower (Kd.R_new' ho0 (Kd.R_lt (by (with_reducible repeat (first | apply Kd.R_alloc | apply Kd.R_drewN | apply Kd.R_drew)); exact HO_6.out))) (below_size (by repeat (first | (with_reducible first | exact HB.out | apply below_alloc | apply pw_below_drewN | apply below_drew1) | exact HB.out)))); have n2_ := Aside0.mk (below_step (by repeat (first | (with_reducible first | exact HB.out | apply below_alloc | apply pw_below_drewN | apply below_drew1) | exact HB.out)) hb); clear HO_6; clear HB; have HO_6 := n0_; have HO167 := n1_; have HB := n2_; clear n0_ n1_ n2_; (try clear hb); (try clear hb2); (try clear hk); (try clear hi); (try clear ho0); obtain ⟨Ao23, co23, eo23⟩ := Kd.R_slice HO167.out; subst eo23) | ((with_reducible refine gate_callee (f := 23) rfl ?_); refine goesL_ (some 38) rfl rfl Tryd.func23 (by kernel_rfl) rfl #[.slice Ao15 t160.length co15, .slice Ao23 t165.length co23] rfl (by (try simp only [List.map_toArray, List.map_cons, List.map_nil]); first | done | rfl | (simp only [List.length_drop, List.length_take]; rfl)) ?_; (with_reducible refine (laws_eqWeaverS.calls kj8 _ _ t160 _ _ t165 true _ ?side1 ?side2 ?side3 ?side4 A20.out).mono ?_); (case side1 => repeat (first | exact (Kd.R_reads' HO_6.out).2.2 | (with_reducible refine Kd.C_alloc ?_ _) | (with_reducible refine Kd.C_drewN ?_ _) | (with_reducible refine Kd.C_drew ?_))); (case side2 => exact (Kd.R_reads' HO_6.out).2.1); (case side3 => repeat (first | exact (Kd.R_reads' HO167.out).2.2 | (with_reducible refine Kd.C_alloc ?_ _) | (with_reducible refine Kd.C_drewN ?_ _) | (with_reducible refine Kd.C_drew ?_))); (case side4 => exact (Kd.R_reads' HO167.out).2.1); rintro e w24 ⟨rfl, hb⟩; refine ⟨_, rfl, ?_⟩; have n0_ := Aside0.mk (Kd.R_below (by (with_reducible repeat (first | apply Kd.R_alloc | apply Kd.R_drewN | apply Kd.R_drew)); exact HO_6.out) hb); have n1_ := Aside0.mk (Kd.R_below (by (with_reducible repeat (first | apply Kd.R_alloc | apply Kd.R_drewN | apply Kd.R_drew)); exact HO167.out) hb); have n2_ := Aside0.mk (below_step (by repeat (first | (with_reducible first | exact HB.out | apply below_alloc | apply pw_below_drewN | apply below_drew1) | exact HB.out)) hb); clear HO_6; clear HO167; clear HB; have HO_6 := n0_; have HO167 := n1_; have HB := n2_; clear n0_ n1_ n2_; (try clear hb); (try clear hb2); (try clear hk); (try clear hi)))
      go_ret
      exact ⟨by first | rfl | (simp [errW_none, errW_some] <;> rfl) | (simp [*, errW_none, errW_some] <;> rfl), by repeat (first | (with_reducible first | exact HB.out | apply below_alloc | apply pw_below_drewN | apply below_drew1) | exact HB.out)⟩
     ·replace c21 := Bool.eq_false_iff.mpr c21
      subst c21
      have H1 : (none) = some r := by rw [if_neg (show ¬ (false = true) by decide)] at H; exact H
      clear H
      have H := H1
      clear H1
      exact absurd H (by simp)

end Go.Proofs.YthalifhbjioaeaaDoor.H
