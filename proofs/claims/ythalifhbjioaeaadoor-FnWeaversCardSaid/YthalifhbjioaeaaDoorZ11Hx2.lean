-- by wip/pack.py of this repo
import Derived.Test.YthalifhbjioaeaaDoorZ11Hx0
import Derived.Test.YthalifhbjioaeaaDoorZ11WLast
import Derived.Test.YthalifhbjioaeaaDoorZ11WMore
import Derived.Test.YthalifhbjioaeaaDoorZ11WWords
import Derived.Test.YthalifhbjioaeaaDoorZ11Short
namespace Go.Proofs.YthalifhbjioaeaaDoor.H
open Go.RowKit Go.Proofs.YthalifhbjioaeaaDoorW.PrintWords Go.Proofs.YthalifhbjioaeaaDoorW.PrintLast Go.Proofs.YthalifhbjioaeaaDoorW.PrintMore
attribute [local go_sem] max2_int min2_int max_two min_two max_three min_three max_four min_four
set_option maxHeartbeats 8000000
set_option maxRecDepth 100000
set_option linter.unusedVariables false
set_option linter.unusedSimpArgs false
def impl_in.f (a0 : Int) (a1 : Int) (a2 : Int) : Option (Bool) := if a0 ≥ a1 then (some (decide (a0 ≤ a2))) else (some false)
theorem impl_in.calls (a0 : Int) (a1 : Int) (a2 : Int) (r : Bool) (w : World) (h : impl_in.f a0 a1 a2 = some r) :
  Calls Tryd.prog 60 #[.int .i64 a0, .int .i64 a1, .int .i64 a2] w fun e w' => e = .returned (.bool r) ∧ Drawn0 w w' := by
 have H : (if a0 ≥ a1 then (some (decide (a0 ≤ a2))) else (some false)) = some r := h; clear h
 by_cases c4 : a0 ≥ a1
 ·rw [if_pos c4] at H
  have c4b0 : decide (a1 ≤ a0) = true := decide_eq_true c4; clear c4; obtain rfl := Option.some.inj H
  go_enter Tryd.func60, Tryd.ntmps60
  go_wp2
  go_ret
  exact ⟨Z15, Z26⟩
 ·rw [if_neg c4] at H
  have c4b0 : decide (a1 ≤ a0) = false := decide_eq_false c4; clear c4; obtain rfl := Option.some.inj H
  go_enter Tryd.func60, Tryd.ntmps60
  go_wp2
  go_ret
  exact ⟨Z15, Z26⟩
theorem impl_in.eq (a b c : Int) : impl_in.f a b c = some (rng a b c) := by
 unfold impl_in.f rng; by_cases h : b ≤ a <;> simp [h]
def impl_isId.f (a0 : Int) : Option (Bool) := (impl_in.f a0 1 99).bind fun t101 => (some t101)
theorem impl_isId.calls (a0 : Int) (r : Bool) (w : World) (h : impl_isId.f a0 = some r) :
  Calls Tryd.prog 57 #[.int .i64 a0] w fun e w' => e = .returned (.bool r) ∧ Drawn0 w w' := by
 have H : ((impl_in.f a0 1 99).bind fun Aa => (some Aa)) = some r := h; clear h; replace H := Option.bind_eq_some_iff.mp H; obtain ⟨Aa, Ab, H⟩ := H; replace H : (some Aa) = some r := H; have A2 := Aside0.mk Ab; clear Ab; obtain rfl := Option.some.inj H
 go_enter Tryd.func57, Tryd.ntmps57
 go_wp2_with (first | ((with_reducible refine gate_callee (f := 60) rfl ?_); refine glE (some 4) Tryd.func60 #[.int .i64 a0, .int .i64 1, .int .i64 99] ?_; (with_reducible refine (impl_in.calls a0 1 99 Aa _ A2.out).mono ?_); rintro e w' ⟨rfl, ⟨nd, rfl⟩⟩; refine ⟨_, rfl, ?_⟩))
 go_ret
 exact ⟨Z15, Z26⟩
def lays_strings_Trim_ren : Go.Shelf.Ren := ⟨fun | 160 => 98 | 232 => 108 | 231 => 107 | 227 => 109 | 234 => 111 | 233 => 110 | 236 => 113 | 235 => 112 | 228 => 114 | 271 => 117 | 151 => 116 | 197 => 115 | 120 => 120 | 152 => 119 | 260 => 118 | 137 => 121 | 119 => 122 | 224 => 123 | 225 => 124 | 217 => 125 | 266 => 126 | n => n, fun | 9 => 9 | 4 => 4 | 3 => 3 | 5 => 5 | 117 => 98 | 116 => 97 | 0 => 0 | 124 => 101 | 21 => 21 | 105 => 104 | 46 => 102 | 119 => 108 | 139 => 111 | 138 => 110 | n => n, fun | 3 => 0 | 4 => 1 | n => n⟩
theorem lays_strings_Trim : Go.Proofs.Lays.n160 Tryd.prog lays_strings_Trim_ren := {
 mixed := by kernel_rfl
 f119 := Tryd.func122.trans (congrArg some Z32)
 f120 := Tryd.func120.trans (congrArg some Z32)
 f137 := Tryd.func121.trans (congrArg some Z32)
 f151 := Tryd.func116.trans (congrArg some Z32)
 f152 := Tryd.func119.trans (congrArg some Z32)
 f160 := Tryd.func98.trans (congrArg some Z32)
 f197 := Tryd.func115.trans (congrArg some Z32)
 f217 := Tryd.func125.trans (congrArg some Z32)
 f224 := Tryd.func123.trans (congrArg some Z32)
 f225 := Tryd.func124.trans (congrArg some Z32)
 f227 := Tryd.func109.trans (congrArg some Z32)
 f228 := Tryd.func114.trans (congrArg some Z32)
 f231 := Tryd.func107.trans (congrArg some Z32)
 f232 := Tryd.func108.trans (congrArg some Z32)
 f233 := Tryd.func110.trans (congrArg some Z32)
 f234 := Tryd.func111.trans (congrArg some Z32)
 f235 := Tryd.func112.trans (congrArg some Z32)
 f236 := Tryd.func113.trans (congrArg some Z32)
 f260 := Tryd.func118.trans (congrArg some Z32)
 f266 := Tryd.func126.trans (congrArg some Z32)
 f271 := Tryd.func117.trans (congrArg some Z32)
 t0 := Tryd.underlying0
 a0 := Tryd.isAgg0
 z0 := Tryd.sizeOf0
 v0 := Tryd.zeroValue0
 t3 := Tryd.underlying3
 a3 := Tryd.isAgg3
 z3 := Tryd.sizeOf3
 v3 := Tryd.zeroValue3
 t4 := Tryd.underlying4
 a4 := Tryd.isAgg4
 z4 := Tryd.sizeOf4
 v4 := Tryd.zeroValue4
 t5 := Tryd.underlying5
 a5 := Tryd.isAgg5
 z5 := Tryd.sizeOf5
 v5 := Tryd.zeroValue5
 t9 := Tryd.underlying9
 a9 := Tryd.isAgg9
 z9 := Tryd.sizeOf9
 v9 := Tryd.zeroValue9
 t21 := Tryd.underlying21
 a21 := Tryd.isAgg21
 z21 := Tryd.sizeOf21
 v21 := Tryd.zeroValue21
 t46 := Tryd.underlying102
 a46 := Tryd.isAgg102
 z46 := Tryd.sizeOf102
 v46 := Tryd.zeroValue102
 t105 := Tryd.underlying104
 a105 := Tryd.isAgg104
 z105 := Tryd.sizeOf104
 v105 := Tryd.zeroValue104
 t116 := Tryd.underlying97
 a116 := Tryd.isAgg97
 z116 := Tryd.sizeOf97
 t117 := Tryd.underlying98
 a117 := Tryd.isAgg98
 z117 := Tryd.sizeOf98
 v117 := Tryd.zeroValue98
 t119 := Tryd.underlying108
 a119 := Tryd.isAgg108
 z119 := Tryd.sizeOf108
 t124 := Tryd.underlying101
 a124 := Tryd.isAgg101
 z124 := Tryd.sizeOf101
 v124 := Tryd.zeroValue101
 t138 := Tryd.underlying110
 a138 := Tryd.isAgg110
 z138 := Tryd.sizeOf110
 v138 := Tryd.zeroValue110
 t139 := Tryd.underlying111
 a139 := Tryd.isAgg111
 z139 := Tryd.sizeOf111
 v139 := Tryd.zeroValue111
 g3 := by kernel_rfl
 g4 := Z32}
theorem dropW_nil (p : UInt8 → Bool) (l : List UInt8) : l.dropWhile p = [] ↔ l.all p = true := by
 induction l with
 | nil => simp
 | cons x t ih =>
  by_cases h : p x = true
  ·simp [List.dropWhile_cons, h, ih]
  ·simp [List.dropWhile_cons, h]
theorem trim_nil (l cs : List UInt8) : Lib.trimS l cs = [] ↔ l.all (cs.contains ·) = true := by
 unfold Lib.trimS Lib.trimLeftS Lib.trimRightS
 rw [dropW_nil]
 constructor
 ·intro h
  have e : l.reverse.all (cs.contains ·) = true := by
   rw [List.all_reverse] at h; rw [← List.takeWhile_append_dropWhile (p := (cs.contains ·)) (l := l.reverse), List.all_append, Bool.and_eq_true]
   exact ⟨List.all_takeWhile, h⟩
  rwa [List.all_reverse] at e
 ·intro h
  have e : l.reverse.dropWhile (cs.contains ·) = [] := (dropW_nil _ _).2 (by rw [List.all_reverse]; exact h); rw [e]
  rfl
theorem cut_has (b : UInt8) : [97, 98, 99, 100, 101, 102, 103, 104, 105, 106, 107, 108, 109, 110, 111, 112, 113, 114, 115, 116, 117, 118, 119, 120, 121, 122].contains b = (decide (97 ≤ b.toNat) && decide (b.toNat ≤ 122)) := by
 have h : ∀ n : Fin 256, ([97, 98, 99, 100, 101, 102, 103, 104, 105, 106, 107, 108, 109, 110, 111, 112, 113, 114, 115, 116, 117, 118, 119, 120, 121, 122] : List UInt8).contains (UInt8.ofNat n.val) = (decide (97 ≤ (UInt8.ofNat n.val).toNat) && decide ((UInt8.ofNat n.val).toNat ≤ 122)) := by decide +kernel
 have e := h ⟨b.toNat, b.toNat_lt⟩
 simpa using e
def isWordB (s : ByteArray) : Bool := rng (s.size : Int) 1 10 && s.data.toList.all fun b => decide (97 ≤ b.toNat) && decide (b.toNat ≤ 122)
def impl_isWord.f (a0 : ByteArray) : Option Bool := some (isWordB a0)
theorem impl_isWord.calls (a0 : ByteArray) (r : Bool) (w : World) (h : impl_isWord.f a0 = some r) :
  Calls Tryd.prog 58 #[.string a0] w fun e w' => e = .returned (.bool r) ∧ Below w.heap.size w w' := by
 obtain rfl := Option.some.inj h; clear h; cases hin : rng (a0.size : Int) 1 10 with
 | false =>
  have e0 : isWordB a0 = false := by unfold isWordB; rw [hin]; rfl
  rw [e0]; have hc := impl_in.calls (a0.size : Int) 1 10 false; have HI := aM (show impl_in.f (a0.size : Int) 1 10 = some false by rw [impl_in.eq, hin]); clear hin e0; have HC := Aside0.mk hc; clear hc
  go_enter Tryd.func58, Tryd.ntmps58
  go_wp2_with fail
  refine (HC.out _ HI.out).mono ?_; rintro e w' ⟨rfl, hd⟩
  go_wp2
  go_ret
  exact ⟨Z57, hd.below⟩
 | true =>
  have hsz := (rng_iff _ _ _).1 hin
  have hcall : ∀ W, Calls Tryd.prog 98 #[.string a0, .string ⟨#[97, 98, 99, 100, 101, 102, 103, 104, 105, 106, 107, 108, 109, 110, 111, 112, 113, 114, 115, 116, 117, 118, 119, 120, 121, 122]⟩] W _ := fun W => Any.strings_Trim_laid lays_strings_Trim Z32 a0 ⟨#[97, 98, 99, 100, 101, 102, 103, 104, 105, 106, 107, 108, 109, 110, 111, 112, 113, 114, 115, 116, 117, 118, 119, 120, 121, 122]⟩ W (by omega) (by decide) (fun j b hb => (show ∀ x ∈ (⟨#[97, 98, 99, 100, 101, 102, 103, 104, 105, 106, 107, 108, 109, 110, 111, 112, 113, 114, 115, 116, 117, 118, 119, 120, 121, 122]⟩ : ByteArray).data.toList, x.toNat < 128 by decide) b (List.mem_of_getElem? hb))
  have hc := impl_in.calls (a0.size : Int) 1 10 true; have HI := aM (show impl_in.f (a0.size : Int) 1 10 = some true by rw [impl_in.eq, hin]); have HIN := Aside0.mk hin; clear hin hsz; have HC := Aside0.mk hc; have HT := Aside0.mk hcall; clear hc hcall
  have hemp : (Lib.trimS a0.data.toList [97, 98, 99, 100, 101, 102, 103, 104, 105, 106, 107, 108, 109, 110, 111, 112, 113, 114, 115, 116, 117, 118, 119, 120, 121, 122] = []) ↔ a0.data.toList.all (fun b => decide (97 ≤ b.toNat) && decide (b.toNat ≤ 122)) = true := by
   rw [trim_nil]
   simp only [cut_has]
  cases hall : a0.data.toList.all (fun b => decide (97 ≤ b.toNat) && decide (b.toNat ≤ 122)) with
  | true =>
   have e0 : isWordB a0 = true := by unfold isWordB; rw [HIN.out, hall]; rfl
   have e1 := aM (hemp.2 hall); rw [e0]; clear e0 hall hemp
   go_enter Tryd.func58, Tryd.ntmps58
   go_wp2_with fail
   refine (HC.out _ HI.out).mono ?_; rintro e w' ⟨rfl, hd⟩; have HD := Aside0.mk hd.below; clear hd
   go_wp2_with fail
   refine (HT.out _).mono ?_; rintro e w2 ⟨rfl, hb⟩
   have e2 : (⟨(Lib.trimS a0.data.toList [97, 98, 99, 100, 101, 102, 103, 104, 105, 106, 107, 108, 109, 110, 111, 112, 113, 114, 115, 116, 117, 118, 119, 120, 121, 122]).toArray⟩ : ByteArray) = ⟨#[]⟩ := by rw [e1.out]
   have e3 : (Value.string ⟨(Lib.trimS a0.data.toList (⟨#[97, 98, 99, 100, 101, 102, 103, 104, 105, 106, 107, 108, 109, 110, 111, 112, 113, 114, 115, 116, 117, 118, 119, 120, 121, 122]⟩ : ByteArray).data.toList).toArray⟩) = .string ⟨#[]⟩ := congrArg Value.string e2; rw [e3]; clear e2 e3
   go_wp2
   go_ret
   exact ⟨Z57, below_step HD.out hb⟩
  | false =>
   have e0 : isWordB a0 = false := by unfold isWordB; rw [HIN.out, hall]; rfl
   rw [e0]; obtain ⟨t, ht⟩ : ∃ t : ByteArray, t = ⟨(Lib.trimS a0.data.toList (⟨#[97, 98, 99, 100, 101, 102, 103, 104, 105, 106, 107, 108, 109, 110, 111, 112, 113, 114, 115, 116, 117, 118, 119, 120, 121, 122]⟩ : ByteArray).data.toList).toArray⟩ := ⟨_, rfl⟩
   have hne : t.data.toList ≠ [] := by
    intro h; rw [ht] at h; have := hemp.1 (by simpa using h); rw [hall] at this; cases this
   have e1 : (t.toList = []) = False := eq_false (by rw [Lib.toList_data]; exact hne)
   have e2 : t.toList.isEmpty = false := by
    cases hq : t.toList with
    | nil => exact absurd hq (by rw [Lib.toList_data]; exact hne)
    | cons _ _ => rfl
   clear e0 hall hemp hne
   go_enter Tryd.func58, Tryd.ntmps58
   go_wp2_with fail
   refine (HC.out _ HI.out).mono ?_; rintro e w' ⟨rfl, hd⟩; have HD := Aside0.mk hd.below; clear hd
   go_wp2_with fail
   refine (HT.out _).mono ?_; rintro e w2 ⟨rfl, hb⟩; rw [← ht]; clear ht
   go_wp2
   go_ret
   exact ⟨by first | rfl | (simp; done) | (simp [e1, e2]; done), below_step HD.out hb⟩
def impl_areSkills.f (a0 : Int) : Option (Bool) := (impl_in.f a0 1 15).bind fun t102 => (some t102)
theorem impl_areSkills.calls (a0 : Int) (r : Bool) (w : World) (h : impl_areSkills.f a0 = some r) :
  Calls Tryd.prog 59 #[.int .i64 a0] w fun e w' => e = .returned (.bool r) ∧ Drawn0 w w' := by
 have H : ((impl_in.f a0 1 15).bind fun Aa => (some Aa)) = some r := h; clear h; replace H := Option.bind_eq_some_iff.mp H; obtain ⟨Aa, Ab, H⟩ := H; replace H : (some Aa) = some r := H; have A2 := Aside0.mk Ab; clear Ab; obtain rfl := Option.some.inj H
 go_enter Tryd.func59, Tryd.ntmps59
 go_wp2_with (first | ((with_reducible refine gate_callee (f := 60) rfl ?_); refine glE (some 4) Tryd.func60 #[.int .i64 a0, .int .i64 1, .int .i64 15] ?_; (with_reducible refine (impl_in.calls a0 1 15 Aa _ A2.out).mono ?_); rintro e w' ⟨rfl, ⟨nd, rfl⟩⟩; refine ⟨_, rfl, ?_⟩))
 go_ret
 exact ⟨Z15, Z26⟩
def impl_IsWeaver.f (a0_0 : Int) (a0_1 : ByteArray) (a0_2 : Int) (a0_3 : Int) (a0_4 : Int) : Option (Bool) := (impl_isId.f a0_0).bind fun t104 => (if t104 = true then ((impl_isWord.f a0_1).bind fun t105 => (if t105 = true then ((impl_areSkills.f a0_2).bind fun t106 => (if t106 = true then ((impl_in.f a0_3 100 12000).bind fun t107 => (if t107 = true then ((impl_in.f a0_4 0 99).bind fun t108 => (some t108)) else (some false))) else (some false))) else (some false))) else (some false))
theorem impl_IsWeaver.calls (Ad : Int) (Ai : ByteArray) (Ah : Int) (Af : Int) (Ae : Int) (r : Bool) (w : World) (h : impl_IsWeaver.f Ad Ai Ah Af Ae = some r) :
  Calls Tryd.prog 18 #[.agg #[.int .i64 Ad, .string Ai, .int .i64 Ah, .int .i64 Af, .int .i64 Ae]] w fun e w' => e = .returned (.bool r) ∧ Below w.heap.size w w' := by
 have hu26 := Tryd.underlying26; have HB := aM (Below.refl w.heap.size w); have H : ((impl_isId.f Ad).bind fun An => (if An = true then ((impl_isWord.f Ai).bind fun Ak => (if Ak = true then ((impl_areSkills.f Ah).bind fun Aj => (if Aj = true then ((impl_in.f Af 100 12000).bind fun Ag => (if Ag = true then ((impl_in.f Ae 0 99).bind fun Ab => (some Ab)) else (some false))) else (some false))) else (some false))) else (some false))) = some r := h; clear h; replace H := Option.bind_eq_some_iff.mp H; obtain ⟨An, Dc, H⟩ := H; replace H : (if An = true then ((impl_isWord.f Ai).bind fun Ak => (if Ak = true then ((impl_areSkills.f Ah).bind fun Aj => (if Aj = true then ((impl_in.f Af 100 12000).bind fun Ag => (if Ag = true then ((impl_in.f Ae 0 99).bind fun Ab => (some Ab)) else (some false))) else (some false))) else (some false))) else (some false)) = some r := H; have A2 := Aside0.mk Dc; clear Dc
 by_cases c3 : An = true
 ·subst c3
  have H1 : ((impl_isWord.f Ai).bind fun Ak => (if Ak = true then ((impl_areSkills.f Ah).bind fun Aj => (if Aj = true then ((impl_in.f Af 100 12000).bind fun Ag => (if Ag = true then ((impl_in.f Ae 0 99).bind fun Ab => (some Ab)) else (some false))) else (some false))) else (some false))) = some r := by rw [if_pos rfl] at H; exact H
  clear H; have H := H1; clear H1; replace H := Option.bind_eq_some_iff.mp H; obtain ⟨Ak, Dd, H⟩ := H; replace H : (if Ak = true then ((impl_areSkills.f Ah).bind fun Aj => (if Aj = true then ((impl_in.f Af 100 12000).bind fun Ag => (if Ag = true then ((impl_in.f Ae 0 99).bind fun Ab => (some Ab)) else (some false))) else (some false))) else (some false)) = some r := H; have A4 := Aside0.mk Dd; clear Dd
  by_cases c5 : Ak = true
  ·subst c5
   have H1 : ((impl_areSkills.f Ah).bind fun Aj => (if Aj = true then ((impl_in.f Af 100 12000).bind fun Ag => (if Ag = true then ((impl_in.f Ae 0 99).bind fun Ab => (some Ab)) else (some false))) else (some false))) = some r := by rw [if_pos rfl] at H; exact H
   clear H; have H := H1; clear H1; replace H := Option.bind_eq_some_iff.mp H; obtain ⟨Aj, De, H⟩ := H; replace H : (if Aj = true then ((impl_in.f Af 100 12000).bind fun Ag => (if Ag = true then ((impl_in.f Ae 0 99).bind fun Ab => (some Ab)) else (some false))) else (some false)) = some r := H; have A6 := Aside0.mk De; clear De
   by_cases c7 : Aj = true
   ·subst c7
    have H1 : ((impl_in.f Af 100 12000).bind fun Ag => (if Ag = true then ((impl_in.f Ae 0 99).bind fun Ab => (some Ab)) else (some false))) = some r := by rw [if_pos rfl] at H; exact H
    clear H; have H := H1; clear H1; replace H := Option.bind_eq_some_iff.mp H; obtain ⟨Ag, Df, H⟩ := H; replace H : (if Ag = true then ((impl_in.f Ae 0 99).bind fun Ab => (some Ab)) else (some false)) = some r := H; have A8 := Aside0.mk Df; clear Df
    by_cases c9 : Ag = true
    ·subst c9
     have H1 : ((impl_in.f Ae 0 99).bind fun Ab => (some Ab)) = some r := by rw [if_pos rfl] at H; exact H
     clear H; have H := H1; clear H1; replace H := Option.bind_eq_some_iff.mp H; obtain ⟨Ab, Ao, H⟩ := H; replace H : (some Ab) = some r := H; have Dg := Aside0.mk Ao; clear Ao; obtain rfl := Option.some.inj H
     go_enter Tryd.func18, Tryd.ntmps18
     go_wp2_with (first | ((with_reducible refine gate_dst (N := 1) rfl ?_); refine bxE 1 #[.int .i64 Ad, .string Ai, .int .i64 Ah, .int .i64 Af, .int .i64 Ae] 26 ?_; intro Al hg Dh hbox hb; have Aa := aM (hbox); have Am := gwS hg Z0; have Ac := gwS hg Z0; replace HB := hbS Z0 hb; clear hb hbox hg; obtain ⟨Ap, Aq, Ar, Au, Av⟩ := bz5 Aa; obtain ⟨Aw, Ax, Ay, Az, Ba⟩ := fz5 Aa) | ((with_reducible refine gate_callee (f := 57) rfl ?_); refine glE (some 5) Tryd.func57 #[.int .i64 Ad] ?_; (with_reducible refine (impl_isId.calls Ad true _ A2.out).mono ?_); rintro e w' ⟨rfl, ⟨nd, rfl⟩⟩; refine ⟨_, rfl, ?_⟩) | (go_at_call 58; (with_reducible refine (impl_isWord.calls Ai true _ A4.out).mono ?_); rintro e Di ⟨rfl, hb⟩; replace Aa := bkB Aa hb; replace HB := hbS Z33 hb; (try clear hb); obtain ⟨Bb, Bc, Bd, Bf, Bg⟩ := bz5 Aa; obtain ⟨Bh, Bi, Bj, Bk, Bl⟩ := fz5 Aa) | (go_at_call 59; (with_reducible refine (impl_areSkills.calls Ah true _ A6.out).mono ?_); rintro e w' ⟨rfl, ⟨nd, rfl⟩⟩) | (go_at_call 60; (with_reducible refine (impl_in.calls Af 100 12000 true _ A8.out).mono ?_); rintro e w' ⟨rfl, ⟨nd, rfl⟩⟩) | (go_at_call 60; (with_reducible refine (impl_in.calls Ae 0 99 Ab _ Dg.out).mono ?_); rintro e w' ⟨rfl, ⟨nd, rfl⟩⟩))
     go_ret
     exact ⟨Z13, Z33⟩
    ·replace c9 := Bool.eq_false_iff.mpr c9
     subst c9
     have H1 : (some false) = some r := by rw [if_neg (show ¬ (false = true) by decide)] at H; exact H
     clear H; have H := H1; clear H1; obtain rfl := Option.some.inj H
     go_enter Tryd.func18, Tryd.ntmps18
     go_wp2_with (first | ((with_reducible refine gate_dst (N := 1) rfl ?_); refine bxE 1 #[.int .i64 Ad, .string Ai, .int .i64 Ah, .int .i64 Af, .int .i64 Ae] 26 ?_; intro Al hg Dj hbox hb; have Aa := aM (hbox); have Am := gwS hg Z0; have Ac := gwS hg Z0; replace HB := hbS Z0 hb; clear hb hbox hg; obtain ⟨Bm, Bn, Bo, Bp, Bq⟩ := bz5 Aa; obtain ⟨Br, Bs, Bt, Bu, Bv⟩ := fz5 Aa) | ((with_reducible refine gate_callee (f := 57) rfl ?_); refine glE (some 5) Tryd.func57 #[.int .i64 Ad] ?_; (with_reducible refine (impl_isId.calls Ad true _ A2.out).mono ?_); rintro e w' ⟨rfl, ⟨nd, rfl⟩⟩; refine ⟨_, rfl, ?_⟩) | (go_at_call 58; (with_reducible refine (impl_isWord.calls Ai true _ A4.out).mono ?_); rintro e Dk ⟨rfl, hb⟩; replace Aa := bkB Aa hb; replace HB := hbS Z33 hb; (try clear hb); obtain ⟨Bw, Bx, Bz, B0, B1⟩ := bz5 Aa; obtain ⟨B2, B3, B4, B6, B7⟩ := fz5 Aa) | (go_at_call 59; (with_reducible refine (impl_areSkills.calls Ah true _ A6.out).mono ?_); rintro e w' ⟨rfl, ⟨nd, rfl⟩⟩) | (go_at_call 60; (with_reducible refine (impl_in.calls Af 100 12000 false _ A8.out).mono ?_); rintro e w' ⟨rfl, ⟨nd, rfl⟩⟩))
     go_ret
     exact ⟨Z13, Z33⟩
   ·replace c7 := Bool.eq_false_iff.mpr c7
    subst c7
    have H1 : (some false) = some r := by rw [if_neg (show ¬ (false = true) by decide)] at H; exact H
    clear H; have H := H1; clear H1; obtain rfl := Option.some.inj H
    go_enter Tryd.func18, Tryd.ntmps18
    go_wp2_with (first | ((with_reducible refine gate_dst (N := 1) rfl ?_); refine bxE 1 #[.int .i64 Ad, .string Ai, .int .i64 Ah, .int .i64 Af, .int .i64 Ae] 26 ?_; intro Al hg Dl hbox hb; have Aa := aM (hbox); have Am := gwS hg Z0; have Ac := gwS hg Z0; replace HB := hbS Z0 hb; clear hb hbox hg; obtain ⟨B8, B9, Ca, Cb, Cc⟩ := bz5 Aa; obtain ⟨Cd, Ce, Cf, Cg, Ch⟩ := fz5 Aa) | ((with_reducible refine gate_callee (f := 57) rfl ?_); refine glE (some 5) Tryd.func57 #[.int .i64 Ad] ?_; (with_reducible refine (impl_isId.calls Ad true _ A2.out).mono ?_); rintro e w' ⟨rfl, ⟨nd, rfl⟩⟩; refine ⟨_, rfl, ?_⟩) | (go_at_call 58; (with_reducible refine (impl_isWord.calls Ai true _ A4.out).mono ?_); rintro e Dm ⟨rfl, hb⟩; replace Aa := bkB Aa hb; replace HB := hbS Z33 hb; (try clear hb); obtain ⟨Ci, Cj, Ck, Cl, Cm⟩ := bz5 Aa; obtain ⟨Cn, Co, Cp, Cq, Cr⟩ := fz5 Aa) | (go_at_call 59; (with_reducible refine (impl_areSkills.calls Ah false _ A6.out).mono ?_); rintro e w' ⟨rfl, ⟨nd, rfl⟩⟩))
    go_ret
    exact ⟨Z13, Z33⟩
  ·replace c5 := Bool.eq_false_iff.mpr c5
   subst c5
   have H1 : (some false) = some r := by rw [if_neg (show ¬ (false = true) by decide)] at H; exact H
   clear H; have H := H1; clear H1; obtain rfl := Option.some.inj H
   go_enter Tryd.func18, Tryd.ntmps18
   go_wp2_with (first | ((with_reducible refine gate_dst (N := 1) rfl ?_); refine bxE 1 #[.int .i64 Ad, .string Ai, .int .i64 Ah, .int .i64 Af, .int .i64 Ae] 26 ?_; intro Al hg Dn hbox hb; have Aa := aM (hbox); have Am := gwS hg Z0; have Ac := gwS hg Z0; replace HB := hbS Z0 hb; clear hb hbox hg; obtain ⟨Cs, Ct, Cu, Cv, Cw⟩ := bz5 Aa; obtain ⟨Cx, Cy, Cz, C0, C1⟩ := fz5 Aa) | ((with_reducible refine gate_callee (f := 57) rfl ?_); refine glE (some 5) Tryd.func57 #[.int .i64 Ad] ?_; (with_reducible refine (impl_isId.calls Ad true _ A2.out).mono ?_); rintro e w' ⟨rfl, ⟨nd, rfl⟩⟩; refine ⟨_, rfl, ?_⟩) | (go_at_call 58; (with_reducible refine (impl_isWord.calls Ai false _ A4.out).mono ?_); rintro e Dp ⟨rfl, hb⟩; replace Aa := bkB Aa hb; replace HB := hbS Z33 hb; (try clear hb)))
   go_ret
   exact ⟨Z13, Z33⟩
 ·replace c3 := Bool.eq_false_iff.mpr c3
  subst c3
  have H1 : (some false) = some r := by rw [if_neg (show ¬ (false = true) by decide)] at H; exact H
  clear H; have H := H1; clear H1; obtain rfl := Option.some.inj H
  go_enter Tryd.func18, Tryd.ntmps18
  go_wp2_with (first | ((with_reducible refine gate_dst (N := 1) rfl ?_); refine bxE 1 #[.int .i64 Ad, .string Ai, .int .i64 Ah, .int .i64 Af, .int .i64 Ae] 26 ?_; intro Al hg Dq hbox hb; have Aa := aM (hbox); have Am := gwS hg Z0; have Ac := gwS hg Z0; replace HB := hbS Z0 hb; clear hb hbox hg; obtain ⟨C2, C3, C4, C5, C6⟩ := bz5 Aa; obtain ⟨C7, C8, C9, Da, Db⟩ := fz5 Aa) | ((with_reducible refine gate_callee (f := 57) rfl ?_); refine glE (some 5) Tryd.func57 #[.int .i64 Ad] ?_; (with_reducible refine (impl_isId.calls Ad false _ A2.out).mono ?_); rintro e w' ⟨rfl, ⟨nd, rfl⟩⟩; refine ⟨_, rfl, ?_⟩))
  go_ret
  exact ⟨Z13, Z33⟩
def okWv (x : S26) : Bool := rng x.f0 1 99 && (isWordB x.f1 && (rng x.f2 1 15 && (rng x.f3 100 12000 && rng x.f4 0 99)))
theorem impl_IsWeaver.total (x : S26) : impl_IsWeaver.f x.f0 x.f1 x.f2 x.f3 x.f4 = some (okWv x) := by
 unfold impl_IsWeaver.f impl_isId.f impl_isWord.f impl_areSkills.f okWv
 simp only [impl_in.eq, Option.bind_some]
 cases rng x.f0 1 99 <;> cases isWordB x.f1 <;> cases rng x.f2 1 15 <;> cases rng x.f3 100 12000 <;> cases rng x.f4 0 99 <;> rfl
set_option maxHeartbeats 4000000 in
theorem IndexFunc_wv (p : S26 → Bool) (g : Nat) (lb : Array Value) (A : Option Addr) (c : Nat) (xs : List S26) (w : World)
  (eg : ∀ args w, (callFunc g args).run Tryd.prog w = .ok (.enter g args) w) (hr : Kd.C k26 w A xs.length xs)
  (hp : ∀ (W : World) (x : S26), Below w.heap.size w W → Calls Tryd.prog g (#[.agg #[.int .i64 x.f0, .string x.f1, .int .i64 x.f2, .int .i64 x.f3, .int .i64 x.f4]] ++ lb) W fun e w' => e = .returned (.bool (p x)) ∧ Below W.heap.size W w') :
  Calls Tryd.prog 101 #[.slice A xs.length c, .func (.func g) #[] lb] w fun e w' => e = .returned (.int .i64 (findI p xs)) ∧ Below w.heap.size w w' := by
 have hu_ := Tryd.underlying26; have hlen := Aside0.mk hr.2.1; have HR := Aside0.mk hr; have HP := Aside0.mk hp; clear hr hp
 go_enter Tryd.func101, Tryd.ntmps101
 go_wp2
 go_loopg [5, 8] xs.length (fun gg _ s8 wr => ∃ x : Int, s8 = .int .i64 x ∧ Aside0 (0 ≤ x ∧ x ≤ (xs.length : Int) ∧ (xs.length : Int) - x ≤ gg) ∧ Aside0 (Below w.heap.size w wr) ∧ Aside0 (∀ j : Nat, (j : Int) < x → p (xs.getD j z26) = false))
 case atStart => exact ⟨0, rfl, ⟨by omega, by omega, by omega⟩, ⟨Below.refl _ _⟩, ⟨fun j hj => absurd hj (by omega)⟩⟩
 case round =>
  obtain ⟨x, rfl, HX, BW, HA⟩ := hrel
  by_cases hlt : x < (xs.length : Int)
  ·have c0 : decide (x < (xs.length : Int)) = true := decide_eq_true hlt
   obtain ⟨ad, e0, Aa, Ab, Ac, Ad, Ae⟩ := at_T26 (Kd.C_below HR.out BW.out) x HX.out.1 hlt; cases e0; have c1 : decide (0 ≤ x) = true := decide_eq_true HX.out.1; have p0 := eq_true HX.out.1; have p1 := eq_true hlt; have HL := Aside0.mk hlt; clear hlt; have hcall := HP.out _ (rd_T26 xs x) BW.out; have hget : Aside0 (xs.getD x.toNat z26 = (rd_T26 xs x)) := ⟨rfl⟩; cases hq : p (rd_T26 xs x) with
   | true =>
    rw [hq] at hcall; have HQ := Aside0.mk hq; have HC := Aside0.mk hcall; clear hq hcall
    go_wp2_with fail
    refine HC.out.mono ?_; rintro e w' ⟨rfl, hb'⟩; have HB := aM (below_step BW.out hb'); clear hb'
    go_wp2
    go_ret
    refine ⟨?_, HB.out⟩; rw [findI_hit p z26 xs x.toNat Z106 (fun j hj => HA.out j Z70) (by rw [hget.out]; exact HQ.out)]; rw [Int.toNat_of_nonneg HX.out.1]
    rfl
   | false =>
    rw [hq] at hcall; have HQ := Aside0.mk hq; have HC := Aside0.mk hcall; clear hq hcall
    go_wp2_with fail
    refine HC.out.mono ?_; rintro e w' ⟨rfl, hb'⟩; have HB := aM (below_step BW.out hb'); clear hb'
    go_wp2
    have hw1 : wrap64 (x + 1) = x + 1 := by have := HX.out; have := HL.out; have := hlen.out; unfold wrap64; omega
    go_roundg (xs.length - (x.toNat + 1))
    case measure => have := HX.out; have := HL.out; omega
    case rel =>
     refine ⟨x + 1, Z108, ⟨Z70, Z110, Z106⟩, HB, ⟨fun j hj => ?_⟩⟩
     by_cases e : (j : Int) < x
     ·exact HA.out j e
     ·have hj' : j = x.toNat := by have := HX.out; omega
      subst hj'; rw [hget.out]
      exact HQ.out
  ·have c0 : decide (x < (xs.length : Int)) = false := decide_eq_false hlt
   have HL := Aside0.mk hlt; clear hlt
   go_wp2
   go_ret
   refine ⟨?_, BW.out⟩; rw [findI_miss p z26 xs (fun j hj => HA.out j Z110)]
   rfl
set_option maxHeartbeats 4000000 in
theorem ContainsFunc_wv (p : S26 → Bool) (g : Nat) (lb : Array Value) (A : Option Addr) (c : Nat) (xs : List S26) (w : World)
  (eg : ∀ args w, (callFunc g args).run Tryd.prog w = .ok (.enter g args) w) (hr : Kd.C k26 w A xs.length xs)
  (hp : ∀ (W : World) (x : S26), Below w.heap.size w W → Calls Tryd.prog g (#[.agg #[.int .i64 x.f0, .string x.f1, .int .i64 x.f2, .int .i64 x.f3, .int .i64 x.f4]] ++ lb) W fun e w' => e = .returned (.bool (p x)) ∧ Below W.heap.size W w') :
  Calls Tryd.prog 99 #[.slice A xs.length c, .func (.func g) #[] lb] w fun e w' => e = .returned (.bool (xs.any p)) ∧ Below w.heap.size w w' := by
 have HC := aM (IndexFunc_wv p g lb A c xs w eg hr hp); clear hr hp eg; rw [← findI_any]
 go_enter Tryd.func99, Tryd.ntmps99
 go_wp2_with fail
 refine HC.out.mono ?_; rintro e w' ⟨rfl, hb'⟩
 go_wp2
 go_ret
 exact ⟨Z57, hb'⟩
set_option maxHeartbeats 4000000 in
theorem areAll_wv_1 (p : S26 → Bool) (g : Nat) (lb : Array Value) (b : Nat) (x : S26) (W : World)
  (eg : ∀ args w, (callFunc g args).run Tryd.prog w = .ok (.enter g args) w) (hc : W.cell? ⟨b, 0, none⟩ = some (.func (.func g) #[] lb))
  (hp : ∀ W1, Below W.heap.size W W1 → Calls Tryd.prog g (#[.agg #[.int .i64 x.f0, .string x.f1, .int .i64 x.f2, .int .i64 x.f3, .int .i64 x.f4]] ++ lb) W1 fun e w' => e = .returned (.bool (p x)) ∧ Below W1.heap.size W1 w') (hb : b < W.heap.size) :
  Calls Tryd.prog 100 #[.agg #[.int .i64 x.f0, .string x.f1, .int .i64 x.f2, .int .i64 x.f3, .int .i64 x.f4], .pointer (some ⟨b, 0, none⟩)] W fun e w' => e = .returned (.bool (!p x)) ∧ Below W.heap.size W w' := by
 have hu_ := Tryd.underlying26; have HP := Aside0.mk hp; clear hp; have hB1 : Below W.heap.size W (W.alloc (.cells #[.int .i64 x.f0, .string x.f1, .int .i64 x.f2, .int .i64 x.f3, .int .i64 x.f4] 26)) := below_alloc (Below.refl _ _) _; have Aa : (W.alloc (.cells #[.int .i64 x.f0, .string x.f1, .int .i64 x.f2, .int .i64 x.f3, .int .i64 x.f4] 26)).cell? ⟨b, 0, none⟩ = some (.func (.func g) #[] lb) := (hB1.cell (p := ⟨b, 0, none⟩) hb).trans hc; have HB := Aside0.mk hB1; clear hB1 hc
 go_enter Tryd.func100, Tryd.ntmps100
 go_wp2_with fail
 refine (HP.out _ HB.out).mono ?_; rintro e w' ⟨rfl, hb'⟩
 go_wp2
 go_ret
 exact ⟨Z57, below_step HB.out hb'⟩
set_option maxHeartbeats 4000000 in
theorem areAll_wv (p : S26 → Bool) (g : Nat) (lb : Array Value) (A : Option Addr) (c : Nat) (xs : List S26) (w : World)
  (eg : ∀ args w, (callFunc g args).run Tryd.prog w = .ok (.enter g args) w) (hr : Kd.C k26 w A xs.length xs)
  (hp : ∀ (W : World) (x : S26), Below w.heap.size w W → Calls Tryd.prog g (#[.agg #[.int .i64 x.f0, .string x.f1, .int .i64 x.f2, .int .i64 x.f3, .int .i64 x.f4]] ++ lb) W fun e w' => e = .returned (.bool (p x)) ∧ Below W.heap.size W w') :
  Calls Tryd.prog 62 #[.slice A xs.length c, .func (.func g) #[] lb] w fun e w' => e = .returned (.bool (xs.all p)) ∧ Below w.heap.size w w' := by
 have hmf : ∀ (fn : Fn) (first cap : Array Value) (w : World), (Instr.makeFunc fn first cap).run Tryd.prog w = .ok (.func fn first cap) w := fun _ _ _ _ => rfl
 have hB1 : Below w.heap.size w (w.alloc (.cells #[.func (.func g) #[] lb] 25)) := below_alloc (Below.refl _ _) _
 have Aa : (w.alloc (.cells #[.func (.func g) #[] lb] 25)).cell? ⟨w.heap.size, 0, none⟩ = some (.func (.func g) #[] lb) := by simp
 have hsz : w.heap.size < (w.alloc (.cells #[.func (.func g) #[] lb] 25)).heap.size := by simp
 have HC := aM (ContainsFunc_wv (fun x => !p x) 100 #[.pointer (some ⟨w.heap.size, 0, none⟩)] A c xs (w.alloc (.cells #[.func (.func g) #[] lb] 25)) (enters_of Tryd.func100 Z32 rfl) (Kd.C_below hr hB1)
  (fun W x hW => areAll_wv_1 p g lb w.heap.size x W eg ((hW.cell (p := ⟨w.heap.size, 0, none⟩) hsz).trans Aa) (fun W1 h1 => hp W1 x ((hB1.trans (hW.mono hB1.size)).trans (h1.mono (Nat.le_trans hB1.size hW.size)))) (Nat.lt_of_lt_of_le hsz hW.size)))
 have HB := Aside0.mk hB1; rw [← any_not]; clear hB1 Aa hsz hp hr eg
 go_enter Tryd.func62, Tryd.ntmps62
 go_wp2_with fail
 refine HC.out.mono ?_; rintro e w' ⟨rfl, hb'⟩
 go_wp2
 go_ret
 exact ⟨Z57, below_step HB.out hb'⟩
set_option maxHeartbeats 8000000 in
theorem isAscending_wv (of : S26 → Int) (g : Nat) (lb : Array Value) (A : Option Addr) (c : Nat) (xs : List S26) (w : World)
  (eg : ∀ args w, (callFunc g args).run Tryd.prog w = .ok (.enter g args) w) (hr : Kd.C k26 w A xs.length xs)
  (hp : ∀ (W : World) (x : S26), Below w.heap.size w W → Calls Tryd.prog g (#[.agg #[.int .i64 x.f0, .string x.f1, .int .i64 x.f2, .int .i64 x.f3, .int .i64 x.f4]] ++ lb) W fun e w' => e = .returned (.int .i64 (of x)) ∧ Below W.heap.size W w') :
  Calls Tryd.prog 63 #[.slice A xs.length c, .func (.func g) #[] lb] w fun e w' => e = .returned (.bool (asc of xs)) ∧ Below w.heap.size w w' := by
 have hu_ := Tryd.underlying26; have hlen := Aside0.mk hr.2.1; have HR := Aside0.mk hr; have HP := Aside0.mk hp; clear hr hp
 go_enter Tryd.func63, Tryd.ntmps63
 go_wp2
 go_loopg [5] xs.length (fun gg s5 wr => ∃ x : Int, s5 = .int .i64 x ∧ Aside0 (1 ≤ x ∧ (x ≤ (xs.length : Int) ∨ x = 1) ∧ (xs.length : Int) + 1 - x ≤ gg) ∧ Aside0 (Below w.heap.size w wr) ∧ Aside0 (∀ j : Nat, (j : Int) + 1 < x → of (xs.getD j z26) < of (xs.getD (j + 1) z26)))
 case atStart => exact ⟨1, rfl, ⟨by omega, .inr rfl, by omega⟩, ⟨Below.refl _ _⟩, ⟨fun j hj => absurd hj (by omega)⟩⟩
 case round =>
  obtain ⟨x, rfl, HX, BW, HA⟩ := hrel
  by_cases hlt : x < (xs.length : Int)
  ·have c0 : decide (x < (xs.length : Int)) = true := decide_eq_true hlt
   have HL := Aside0.mk hlt; obtain ⟨y, hy⟩ : ∃ y : Int, y = x - 1 := ⟨_, rfl⟩
   have Ac : IntKind.i64.wrap (x - 1) = y := by rw [hy]; exact IntWalk.i64_in _ (by have := HX.out; have := hlen.out; omega)
   have Aa : 0 ≤ y := by have := HX.out; omega
   have Ab : y < (xs.length : Int) := by omega
   have HY := Aside0.mk hy
   have h0 : 0 ≤ x := by omega
   clear hy; obtain ⟨ad, e0, _⟩ := at_T26 (Kd.C_below HR.out BW.out) x h0 hlt; subst e0
   have KEY : Aside0 (∀ W', Below w.heap.size w W' → Below w.heap.size w W' ∧ W'.cell? (ad.add (y.toNat * 5)) = some (.int .i64 (rd_T26 xs y).f0) ∧ W'.cell? ⟨(ad.add (y.toNat * 5)).block, (ad.add (y.toNat * 5)).off + 1, none⟩ = some (.string (rd_T26 xs y).f1) ∧ W'.cell? ⟨(ad.add (y.toNat * 5)).block, (ad.add (y.toNat * 5)).off + 2, none⟩ = some (.int .i64 (rd_T26 xs y).f2) ∧ W'.cell? ⟨(ad.add (y.toNat * 5)).block, (ad.add (y.toNat * 5)).off + 3, none⟩ = some (.int .i64 (rd_T26 xs y).f3) ∧ W'.cell? ⟨(ad.add (y.toNat * 5)).block, (ad.add (y.toNat * 5)).off + 4, none⟩ = some (.int .i64 (rd_T26 xs y).f4) ∧ W'.cell? (ad.add (x.toNat * 5)) = some (.int .i64 (rd_T26 xs x).f0) ∧ W'.cell? ⟨(ad.add (x.toNat * 5)).block, (ad.add (x.toNat * 5)).off + 1, none⟩ = some (.string (rd_T26 xs x).f1) ∧ W'.cell? ⟨(ad.add (x.toNat * 5)).block, (ad.add (x.toNat * 5)).off + 2, none⟩ = some (.int .i64 (rd_T26 xs x).f2) ∧ W'.cell? ⟨(ad.add (x.toNat * 5)).block, (ad.add (x.toNat * 5)).off + 3, none⟩ = some (.int .i64 (rd_T26 xs x).f3) ∧ W'.cell? ⟨(ad.add (x.toNat * 5)).block, (ad.add (x.toNat * 5)).off + 4, none⟩ = some (.int .i64 (rd_T26 xs x).f4)) := ⟨fun W' h => by
    obtain ⟨a1, e1, h1⟩ := at_T26 (Kd.C_below HR.out h) y Aa Ab; obtain ⟨a2, e2, h2⟩ := at_T26 (Kd.C_below HR.out h) x h0 hlt; obtain rfl := Option.some.inj e1; obtain rfl := Option.some.inj e2; obtain ⟨b0, b1, b2, b3, b4⟩ := h1; obtain ⟨d0, d1, d2, d3, d4⟩ := h2
    exact ⟨h, b0, b1, b2, b3, b4, d0, d1, d2, d3, d4⟩⟩
   have HK := KEY.out _ BW.out; obtain ⟨_, b0, b1, b2, b3, b4, d0, d1, d2, d3, d4⟩ := HK
   have hw1 : wrap64 (x + 1) = x + 1 := by have := HX.out; have := HL.out; have := hlen.out; unfold wrap64; omega
   have hg0 : Aside0 (xs.getD x.toNat z26 = (rd_T26 xs x)) := ⟨rfl⟩; have hg1 : Aside0 (xs.getD y.toNat z26 = (rd_T26 xs y)) := ⟨rfl⟩
   by_cases hc : of (rd_T26 xs x) ≤ of (rd_T26 xs y)
   ·have c1 : decide (of (rd_T26 xs x) ≤ of (rd_T26 xs y)) = true := decide_eq_true hc
    have HC := Aside0.mk hc; clear hc
    go_wp2_with fail
    go_region_held3 (fun W' => Below w.heap.size w W' ∧ W'.cell? (ad.add (y.toNat * 5)) = some (.int .i64 (rd_T26 xs y).f0) ∧ W'.cell? ⟨(ad.add (y.toNat * 5)).block, (ad.add (y.toNat * 5)).off + 1, none⟩ = some (.string (rd_T26 xs y).f1) ∧ W'.cell? ⟨(ad.add (y.toNat * 5)).block, (ad.add (y.toNat * 5)).off + 2, none⟩ = some (.int .i64 (rd_T26 xs y).f2) ∧ W'.cell? ⟨(ad.add (y.toNat * 5)).block, (ad.add (y.toNat * 5)).off + 3, none⟩ = some (.int .i64 (rd_T26 xs y).f3) ∧ W'.cell? ⟨(ad.add (y.toNat * 5)).block, (ad.add (y.toNat * 5)).off + 4, none⟩ = some (.int .i64 (rd_T26 xs y).f4) ∧ W'.cell? (ad.add (x.toNat * 5)) = some (.int .i64 (rd_T26 xs x).f0) ∧ W'.cell? ⟨(ad.add (x.toNat * 5)).block, (ad.add (x.toNat * 5)).off + 1, none⟩ = some (.string (rd_T26 xs x).f1) ∧ W'.cell? ⟨(ad.add (x.toNat * 5)).block, (ad.add (x.toNat * 5)).off + 2, none⟩ = some (.int .i64 (rd_T26 xs x).f2) ∧ W'.cell? ⟨(ad.add (x.toNat * 5)).block, (ad.add (x.toNat * 5)).off + 3, none⟩ = some (.int .i64 (rd_T26 xs x).f3) ∧ W'.cell? ⟨(ad.add (x.toNat * 5)).block, (ad.add (x.toNat * 5)).off + 4, none⟩ = some (.int .i64 (rd_T26 xs x).f4))
     ((refine KEY.out _ ?_; first | ((repeat (first | exact BW.out | assumption | exact (‹Below w.heap.size w _ ∧ _›).1 | apply below_drew1 | apply pw_below_drewN)); done) | (refine below_step ?_ hb'; (repeat (first | exact BW.out | assumption | exact (‹Below w.heap.size w _ ∧ _›).1 | apply below_drew1 | apply pw_below_drewN)); done)))
     (first | (go_at_fn g; refine Calls.mono (HP.out _ _ ?_) ?_; (repeat (first | exact BW.out | assumption | exact (‹Below w.heap.size w _ ∧ _›).1 | apply below_drew1 | apply pw_below_drewN)); rintro e w' ⟨rfl, hb'⟩))
    have HB : Aside0 (Below w.heap.size w w') := ⟨(‹Below w.heap.size w w' ∧ _›).1⟩
    go_wp2
    go_ret
    refine ⟨?_, HB.out⟩; rw [asc_false of z26 xs y.toNat (by have := HX.out; have := HY.out; have := HL.out; omega) (by rw [show y.toNat + 1 = x.toNat by have := HX.out; have := HY.out; omega, hg0.out, hg1.out]; exact HC.out)]
    rfl
   ·have c1 : decide (of (rd_T26 xs x) ≤ of (rd_T26 xs y)) = false := decide_eq_false hc
    have HC := Aside0.mk hc; clear hc
    go_wp2_with fail
    go_region_held3 (fun W' => Below w.heap.size w W' ∧ W'.cell? (ad.add (y.toNat * 5)) = some (.int .i64 (rd_T26 xs y).f0) ∧ W'.cell? ⟨(ad.add (y.toNat * 5)).block, (ad.add (y.toNat * 5)).off + 1, none⟩ = some (.string (rd_T26 xs y).f1) ∧ W'.cell? ⟨(ad.add (y.toNat * 5)).block, (ad.add (y.toNat * 5)).off + 2, none⟩ = some (.int .i64 (rd_T26 xs y).f2) ∧ W'.cell? ⟨(ad.add (y.toNat * 5)).block, (ad.add (y.toNat * 5)).off + 3, none⟩ = some (.int .i64 (rd_T26 xs y).f3) ∧ W'.cell? ⟨(ad.add (y.toNat * 5)).block, (ad.add (y.toNat * 5)).off + 4, none⟩ = some (.int .i64 (rd_T26 xs y).f4) ∧ W'.cell? (ad.add (x.toNat * 5)) = some (.int .i64 (rd_T26 xs x).f0) ∧ W'.cell? ⟨(ad.add (x.toNat * 5)).block, (ad.add (x.toNat * 5)).off + 1, none⟩ = some (.string (rd_T26 xs x).f1) ∧ W'.cell? ⟨(ad.add (x.toNat * 5)).block, (ad.add (x.toNat * 5)).off + 2, none⟩ = some (.int .i64 (rd_T26 xs x).f2) ∧ W'.cell? ⟨(ad.add (x.toNat * 5)).block, (ad.add (x.toNat * 5)).off + 3, none⟩ = some (.int .i64 (rd_T26 xs x).f3) ∧ W'.cell? ⟨(ad.add (x.toNat * 5)).block, (ad.add (x.toNat * 5)).off + 4, none⟩ = some (.int .i64 (rd_T26 xs x).f4))
     ((refine KEY.out _ ?_; first | ((repeat (first | exact BW.out | assumption | exact (‹Below w.heap.size w _ ∧ _›).1 | apply below_drew1 | apply pw_below_drewN)); done) | (refine below_step ?_ hb'; (repeat (first | exact BW.out | assumption | exact (‹Below w.heap.size w _ ∧ _›).1 | apply below_drew1 | apply pw_below_drewN)); done)))
     (first | (go_at_fn g; refine Calls.mono (HP.out _ _ ?_) ?_; (repeat (first | exact BW.out | assumption | exact (‹Below w.heap.size w _ ∧ _›).1 | apply below_drew1 | apply pw_below_drewN)); rintro e w' ⟨rfl, hb'⟩))
    have HB : Aside0 (Below w.heap.size w w') := ⟨(‹Below w.heap.size w w' ∧ _›).1⟩
    go_wp2
    go_roundg (xs.length - x.toNat)
    case measure => have := HX.out; have := HL.out; omega
    case rel =>
     refine ⟨x + 1, Z108, ⟨Z70, Z110, Z106⟩, HB, ⟨fun j hj => ?_⟩⟩
     by_cases e : (j : Int) + 1 < x
     ·exact HA.out j e
     ·have hj' : j = y.toNat := by have := HX.out; have := HY.out; omega
      subst hj'; rw [show y.toNat + 1 = x.toNat by have := HX.out; have := HY.out; omega, hg0.out, hg1.out]; have := HC.out
      omega
  ·have c0 : decide (x < (xs.length : Int)) = false := decide_eq_false hlt
   have HL := Aside0.mk hlt; clear hlt
   go_wp2
   go_ret
   refine ⟨?_, BW.out⟩; rw [asc_true of z26 xs (fun j hj => HA.out j Z110)]
   rfl
def impl_AreWeavers_1.f (a0_0 : Int) (a0_1 : ByteArray) (a0_2 : Int) (a0_3 : Int) (a0_4 : Int) : Option (Int) := some a0_0
theorem impl_AreWeavers_1.calls (Aa : Int) (Ac : ByteArray) (Ad : Int) (Ae : Int) (Af : Int) (r : Int) (w : World) (h : impl_AreWeavers_1.f Aa Ac Ad Ae Af = some r) :
  Calls Tryd.prog 64 #[.agg #[.int .i64 Aa, .string Ac, .int .i64 Ad, .int .i64 Ae, .int .i64 Af]] w fun e w' => e = .returned (.int .i64 r) ∧ Below w.heap.size w w' := by
 have hu26 := Tryd.underlying26; have HB := aM (Below.refl w.heap.size w); have H : (some Aa) = some r := h; clear h; obtain rfl := Option.some.inj H
 go_enter Tryd.func64, Tryd.ntmps64
 go_wp2_with (first | ((with_reducible refine gate_dst (N := 1) rfl ?_); refine bxE 1 #[.int .i64 Aa, .string Ac, .int .i64 Ad, .int .i64 Ae, .int .i64 Af] 26 ?_; intro Ar hg w2 hbox hb; have Ab := aM (hbox); have Au := gwS hg Z0; have Ag := gwS hg Z0; replace HB := hbS Z0 hb; clear hb hbox hg; obtain ⟨Ah, Ai, Aj, Ak, Al⟩ := bz5 Ab; obtain ⟨Am, An, Ao, Ap, Aq⟩ := fz5 Ab))
 go_ret
 exact ⟨Z13, Z86⟩
def impl_sitters.l0 : Nat → Int → Int → List (S26) → Int → Int → Option (Int)
 | 0, _, _, _, _, _ => none
 | k + 1, x1, x5, x8, x9, x10 => if x10 < x9 then (if 0 ≤ x10 then (if x10 < (x8.length : Int) then (if ((rd_T26 x8 x10).f4) = x1 then (impl_sitters.l0 k x1 (wrap64 (x5 + 1)) x8 x9 (wrap64 (x10 + 1))) else (impl_sitters.l0 k x1 x5 x8 x9 (wrap64 (x10 + 1)))) else (none)) else (none)) else (some x5)
def impl_sitters.f (k : Nat) (l0 : List (S26)) (a1 : Int) : Option (Int) := impl_sitters.l0 k a1 0 l0 (l0.length : Int) 0
theorem impl_sitters.calls (k : Nat) (A0 : Option Addr) (c0 : Nat) (l0 : List (S26)) (a1 : Int) (r : Int) (w : World) (Bk : Kd.C k26 w A0 l0.length l0) (Bl : l0.length ≤ c0) (h : impl_sitters.f k l0 a1 = some r) :
  Calls Tryd.prog 66 #[.slice A0 l0.length c0, .int .i64 a1] w fun e w' => e = .returned (.int .i64 r) ∧ Below w.heap.size w w' := by
 have hu26 := Tryd.underlying26; have Bm := Aside0.mk Bk; have Bo := Aside0.mk Bl; clear Bk Bl; have HB := aM (Below.refl w.heap.size w); have H : (impl_sitters.l0 k a1 0 l0 (l0.length : Int) 0) = some r := h; clear h; have H' := Aside0.mk H; clear H
 go_enter Tryd.func66, Tryd.ntmps66
 go_wp2
 go_loopg [5, 10] k (fun kq v5 Bn w' => ∃ (Aj : Int) (Aa : Int), v5 = .int .i64 Aj ∧ Bn = .int .i64 Aa ∧ Aside0 (impl_sitters.l0 kq a1 Aj l0 (l0.length : Int) Aa = some r) ∧ Aside0 (kq ≤ k) ∧ Aside0 (Below w.heap.size w w'))
 case atStart => exact ⟨(0), (0), Z15, Z15, H', ⟨Nat.le_refl _⟩, ⟨Z0⟩⟩
 case round =>
  clear H'; (try clear p2); obtain ⟨Aj, Aa, rfl, rfl, HA, HK1, HB⟩ := hrel; cases gk with
  | zero => exact absurd HA.out (by simp [impl_sitters.l0])
  | succ k1 =>
   have H := HA.out; clear HA
   simp only [impl_sitters.l0] at H
   by_cases c3 : Aa < (l0.length : Int)
   ·rw [if_pos c3] at H
    have c3b0 : decide (Aa < (l0.length : Int)) = true := decide_eq_true c3; clear c3
    by_cases c4 : 0 ≤ Aa
    ·rw [if_pos c4] at H
     have c4b0 : decide (0 ≤ Aa) = true := decide_eq_true c4; clear c4
     by_cases c5 : Aa < (l0.length : Int)
     ·rw [if_pos c5] at H
      have c5b0 : decide (Aa < (l0.length : Int)) = true := decide_eq_true c5; clear c5
      by_cases c6 : ((rd_T26 l0 Aa).f4) = a1
      ·rw [if_pos c6] at H
       have c6b0 : (((rd_T26 l0 Aa).f4) == a1) = true := beq_iff_eq.mpr c6; have c6b1 : (((rd_T26 l0 Aa).f4) != a1) = false := bne_eq_false_iff_eq.mpr c6; clear c6; have H' := Aside0.mk H; clear H; have Ah : 0 ≤ (Aa : Int) := of_decide_eq_true Z11; have Ai : Aa < (l0.length : Int) := of_decide_eq_true Z11; obtain ⟨ad110, e110, Ab, Ac, Ad, Ae, Af⟩ := at_T26 Bm.out Aa Ah Ai; cases e110; replace Ab := (HB.out.cell (World.block_lt_of_cell? w _ Ab)).trans Ab; replace Ac := (HB.out.cell (World.block_lt_of_cell? w _ Ac)).trans Ac; replace Ad := (HB.out.cell (World.block_lt_of_cell? w _ Ad)).trans Ad; replace Ae := (HB.out.cell (World.block_lt_of_cell? w _ Ae)).trans Ae; replace Af := (HB.out.cell (World.block_lt_of_cell? w _ Af)).trans Af; replace Ah := eq_true Ah; replace Ai := eq_true Ai
       go_wp2_with (first | ((with_reducible refine gate_dst (N := 7) rfl ?_); refine bxE 7 #[.int .i64 0, .string (⟨#[]⟩ : ByteArray), .int .i64 0, .int .i64 0, .int .i64 0] 26 ?_; intro Al hg w7 hbox hb; have Ag := aM (hbox); have Am := gwS hg Z0; have Ak := gwS hg Z0; replace HB := hbS Z0 hb; clear hb hbox hg; obtain ⟨Az, Ba, Bb, Bc, Bd⟩ := bz5 Ag; obtain ⟨Bf, Bg, Bh, Bi, Bj⟩ := fz5 Ag))
       go_roundg k1
       case measure => have := HK1.out; omega
       case rel => exact ⟨(wrap64 (Aj + 1)), (wrap64 (Aa + 1)), Z15, Z15, H', ⟨Z50⟩, ⟨Z23⟩⟩
      ·rw [if_neg c6] at H
       have c6b0 : (((rd_T26 l0 Aa).f4) == a1) = false := beq_eq_false_iff_ne.mpr c6; have c6b1 : (((rd_T26 l0 Aa).f4) != a1) = true := bne_iff_ne.mpr c6; have H' := Aside0.mk H; clear H; have Ah : 0 ≤ (Aa : Int) := of_decide_eq_true Z11; have Ai : Aa < (l0.length : Int) := of_decide_eq_true Z11; obtain ⟨ad110, e110, Ab, Ac, Ad, Ae, Af⟩ := at_T26 Bm.out Aa Ah Ai; cases e110; replace Ab := (HB.out.cell (World.block_lt_of_cell? w _ Ab)).trans Ab; replace Ac := (HB.out.cell (World.block_lt_of_cell? w _ Ac)).trans Ac; replace Ad := (HB.out.cell (World.block_lt_of_cell? w _ Ad)).trans Ad; replace Ae := (HB.out.cell (World.block_lt_of_cell? w _ Ae)).trans Ae; replace Af := (HB.out.cell (World.block_lt_of_cell? w _ Af)).trans Af; replace Ah := eq_true Ah; replace Ai := eq_true Ai
       go_wp2_with (first | ((with_reducible refine gate_dst (N := 7) rfl ?_); refine bxE 7 #[.int .i64 0, .string (⟨#[]⟩ : ByteArray), .int .i64 0, .int .i64 0, .int .i64 0] 26 ?_; intro Al hg w9 hbox hb; have Ag := aM (hbox); have Am := gwS hg Z0; have Ak := gwS hg Z0; replace HB := hbS Z0 hb; clear hb hbox hg; obtain ⟨An, Ao, Ap, Aq, Ar⟩ := bz5 Ag; obtain ⟨Au, Av, Aw, Ax, Ay⟩ := fz5 Ag))
       go_roundg k1
       case measure => have := HK1.out; omega
       case rel => exact ⟨(Aj), (wrap64 (Aa + 1)), Z15, Z15, H', ⟨Z50⟩, ⟨Z23⟩⟩
     ·rw [if_neg c5] at H
      exact absurd H (by simp)
    ·rw [if_neg c4] at H
     exact absurd H (by simp)
   ·rw [if_neg c3] at H
    have c3b0 : decide (Aa < (l0.length : Int)) = false := decide_eq_false c3; clear c3; obtain rfl := Option.some.inj H
    go_wp2
    go_ret
    exact ⟨Z13, Z0⟩
def sitN (l : List (S26)) (a : Int) : Int := ((l.filter fun x => decide (x.f4 = a)).length : Int)
theorem sitN_l0 (l : List (S26)) (a : Int) (hl : l.length ≤ 1000000) (d : Nat) : ∀ (k i : Nat) (s : Int), i + d = l.length → d < k → s = (((l.take i).filter fun x => decide (x.f4 = a)).length : Int) → impl_sitters.l0 k a s l (l.length : Int) (i : Int) = some (sitN l a) := by
 induction d with
 | zero =>
  intro k i s hi hk hs; obtain ⟨k, rfl⟩ : ∃ m, k = m + 1 := ⟨k - 1, by omega⟩; rw [impl_sitters.l0, if_neg (by omega), hs, List.take_of_length_le (by omega)]
  rfl
 | succ d ih =>
  intro k i s hi hk hs; obtain ⟨k, rfl⟩ : ∃ m, k = m + 1 := ⟨k - 1, by omega⟩
  have hlt : i < l.length := by omega
  have hle : ((l.take i).filter fun x => decide (x.f4 = a)).length ≤ (l.take i).length := List.length_filter_le _ _; have hle2 : (l.take i).length ≤ i := List.length_take_le _ _; have et : l.take (i + 1) = l.take i ++ [l[i]] := List.take_succ_eq_append_getElem hlt
  have e0 : rd_T26 l (i : Int) = l[i] := by
   show l.getD ((i : Int)).toNat z26 = l[i]
   rw [Int.toNat_natCast, List.getD_eq_getElem?_getD, List.getElem?_eq_getElem hlt]
   rfl
  have e1 : wrap64 ((i : Int) + 1) = ((i + 1 : Nat) : Int) := by unfold wrap64; omega
  have e2 : wrap64 (s + 1) = s + 1 := by unfold wrap64; omega
  rw [impl_sitters.l0, if_pos (by omega), if_pos (by omega), if_pos (by omega), e0, e1, e2]
  by_cases c : l[i].f4 = a
  ·rw [if_pos c]
   refine ih k (i + 1) (s + 1) (by omega) (by omega) ?_; rw [et, List.filter_append, List.length_append, hs]
   simp [c]
  ·rw [if_neg c]
   refine ih k (i + 1) s (by omega) (by omega) ?_; rw [et, List.filter_append, List.length_append, hs]
   simp [c]
theorem sitN_total (l : List (S26)) (a : Int) (hl : l.length ≤ 1000000) : impl_sitters.f (l.length + 1) l a = some (sitN l a) := sitN_l0 l a hl l.length (l.length + 1) 0 0 (by omega) (by omega) (by simp)
def seatOk (l : List (S26)) (x : S26) : Bool := decide (x.f4 = 0) || decide (sitN l x.f4 ≤ 3)
def idWv (x : S26) : Int := x.f0
theorem areWeavers_2 (l : List (S26)) (hl : l.length ≤ 1000000) (A0 : Option Addr) (c0 : Nat) (b : Nat) (x : S26) (W : World) (hr : Kd.C k26 W A0 l.length l) (Aa : l.length ≤ c0) (hc : W.cell? ⟨b, 0, none⟩ = some (.slice A0 l.length c0)) (hb : b < W.heap.size) :
  Calls Tryd.prog 65 #[.agg #[.int .i64 x.f0, .string x.f1, .int .i64 x.f2, .int .i64 x.f3, .int .i64 x.f4], .pointer (some ⟨b, 0, none⟩)] W fun e w' => e = .returned (.bool (seatOk l x)) ∧ Below W.heap.size W w' := by
 have hu_ := Tryd.underlying26; have hB1 : Below W.heap.size W (W.alloc (.cells #[.int .i64 x.f0, .string x.f1, .int .i64 x.f2, .int .i64 x.f3, .int .i64 x.f4] 26)) := below_alloc (Below.refl _ _) _; have Ab : (W.alloc (.cells #[.int .i64 x.f0, .string x.f1, .int .i64 x.f2, .int .i64 x.f3, .int .i64 x.f4] 26)).cell? ⟨b, 0, none⟩ = some (.slice A0 l.length c0) := (hB1.cell (p := ⟨b, 0, none⟩) hb).trans hc; have hS := impl_sitters.calls (l.length + 1) A0 c0 l x.f4 (sitN l x.f4) (W.alloc (.cells #[.int .i64 x.f0, .string x.f1, .int .i64 x.f2, .int .i64 x.f3, .int .i64 x.f4] 26)) (Kd.C_below hr hB1) Aa (sitN_total l x.f4 hl); have HS := Aside0.mk hS; have HB := Aside0.mk hB1; clear hB1 hc hr hS
 by_cases h0 : x.f4 = 0
 ·have c0 : (x.f4 == 0) = true := beq_iff_eq.2 h0
  have e0 : seatOk l x = true := by unfold seatOk; rw [decide_eq_true h0]; rfl
  rw [e0]; clear e0 h0
  go_enter Tryd.func65, Tryd.ntmps65
  go_wp2
  go_ret
  exact ⟨Z57, HB.out⟩
 ·have c0 : (x.f4 == 0) = false := beq_eq_false_iff_ne.2 h0
  have e0 : seatOk l x = decide (sitN l x.f4 ≤ 3) := by unfold seatOk; rw [decide_eq_false h0]; rfl
  rw [e0]; clear e0 h0
  go_enter Tryd.func65, Tryd.ntmps65
  go_wp2_with fail
  refine HS.out.mono ?_; rintro e w' ⟨rfl, hb'⟩
  go_wp2
  go_ret
  exact ⟨Z57, below_step HB.out hb'⟩
def impl_AreWeavers.f (l0 : List (S26)) : Option Bool := some (decide ((l0.length : Int) ≤ 8) && (l0.all okWv && (asc idWv l0 && l0.all (seatOk l0))))
theorem impl_AreWeavers.calls (A0 : Option Addr) (c0 : Nat) (l0 : List (S26)) (r : Bool) (w : World) (Ab : Kd.C k26 w A0 l0.length l0) (Ad : l0.length ≤ c0) (h : impl_AreWeavers.f l0 = some r) :
  Calls Tryd.prog 22 #[.slice A0 l0.length c0] w fun e w' => e = .returned (.bool r) ∧ Below w.heap.size w w' := by
 have Ae := Option.some.inj h; subst Ae; clear h
 have hmf : ∀ (fn : Fn) (first cap : Array Value) (w : World), (Instr.makeFunc fn first cap).run Tryd.prog w = .ok (.func fn first cap) w := fun _ _ _ _ => rfl
 have hB1 : Below w.heap.size w (w.alloc (.cells #[.slice A0 l0.length c0] 32)) := below_alloc (Below.refl _ _) _
 have hcell : (w.alloc (.cells #[.slice A0 l0.length c0] 32)).cell? ⟨w.heap.size, 0, none⟩ = some (.slice A0 l0.length c0) := by simp
 have hsz : w.heap.size < (w.alloc (.cells #[.slice A0 l0.length c0] 32)).heap.size := by simp
 have h1 : ∀ W, Below w.heap.size w W → _ := fun W hb => areAll_wv okWv 18 #[] A0 c0 l0 W (enters_of Tryd.func18 Z32 rfl) (Kd.C_below Ab hb)
  (fun W x _ => (impl_IsWeaver.calls x.f0 x.f1 x.f2 x.f3 x.f4 _ W (impl_IsWeaver.total x)).mono fun e w' ⟨he, hd⟩ => ⟨he, by first | exact hd | exact hd.below⟩)
 have h2 : ∀ W, Below w.heap.size w W → _ := fun W hb => isAscending_wv idWv 64 #[] A0 c0 l0 W (enters_of Tryd.func64 Z32 rfl) (Kd.C_below Ab hb)
  (fun W x _ => (impl_AreWeavers_1.calls x.f0 x.f1 x.f2 x.f3 x.f4 (idWv x) W rfl).mono fun e w' ⟨he, hd⟩ => ⟨he, by first | exact hd | exact hd.below⟩)
 have h3 : l0.length ≤ 8 → ∀ W, Below (w.heap.size + 1) (w.alloc (.cells #[.slice A0 l0.length c0] 32)) W → _ := fun hl W hb => areAll_wv (seatOk l0) 65 #[.pointer (some ⟨w.heap.size, 0, none⟩)] A0 c0 l0 W (enters_of Tryd.func65 Z32 rfl) (Kd.C_below (Kd.C_below Ab hB1) (hb.mono (by simp)))
  (fun W2 x hb2 => areWeavers_2 l0 (by omega) A0 c0 w.heap.size x W2 (Kd.C_below (Kd.C_below (Kd.C_below Ab hB1) (hb.mono (by simp))) hb2) Ad ((hb2.cell (p := ⟨w.heap.size, 0, none⟩) (Nat.lt_of_lt_of_le hsz Z109)).trans ((hb.cell (p := ⟨w.heap.size, 0, none⟩) (Nat.lt_succ_self _)).trans hcell)) (Nat.lt_of_lt_of_le (Nat.lt_of_lt_of_le hsz Z109) hb2.size))
 have H1 := Aside0.mk h1; have H2 := Aside0.mk h2; have H3 := Aside0.mk h3; have HB := Aside0.mk hB1; have HC := Aside0.mk hcell; have HSZ := Aside0.mk hsz; clear h1 h2 h3 hB1 hcell hsz Ab Ad
 by_cases hn : (l0.length : Int) ≤ 8
 ·have d0 : decide ((l0.length : Int) > 8) = false := decide_eq_false (by omega)
  have d1 : decide (8 < l0.length) = false := decide_eq_false (by omega); have hn8 := aM (show l0.length ≤ 8 by omega); rw [decide_eq_true hn, Bool.true_and]; clear hn; cases hq : l0.all okWv with
  | false =>
   rw [Bool.false_and]; have HQ := Aside0.mk hq; clear hq
   go_enter Tryd.func22, Tryd.ntmps22
   go_wp2_with fail
   refine (H1.out _ HB.out).mono ?_; rintro e w1 ⟨rfl, hb1⟩; have Aa := aM (below_step HB.out hb1); clear hb1; rw [HQ.out]
   go_wp2
   go_ret
   exact ⟨Z57, Aa.out⟩
  | true =>
   rw [Bool.true_and]; have HQ := Aside0.mk hq; clear hq; cases hq2 : asc idWv l0 with
   | false =>
    rw [Bool.false_and]; have HQ2 := Aside0.mk hq2; clear hq2
    go_enter Tryd.func22, Tryd.ntmps22
    go_wp2_with fail
    refine (H1.out _ HB.out).mono ?_; rintro e w1 ⟨rfl, hb1⟩; have hcl := (hb1.cell (p := ⟨w.heap.size, 0, none⟩) HSZ.out).trans HC.out; have Aa := aM (below_step HB.out hb1); clear hb1; rw [HQ.out]
    go_wp2_with fail
    refine (H2.out _ Aa.out).mono ?_; rintro e w2 ⟨rfl, hb2⟩; have Ac := aM (below_step Aa.out hb2); clear hb2; rw [HQ2.out]
    go_wp2
    go_ret
    exact ⟨Z57, Ac.out⟩
   | true =>
    rw [Bool.true_and]; have HQ2 := Aside0.mk hq2; clear hq2
    go_enter Tryd.func22, Tryd.ntmps22
    go_wp2_with fail
    refine (H1.out _ HB.out).mono ?_; rintro e w1 ⟨rfl, hb1⟩; have hcl := (hb1.cell (p := ⟨w.heap.size, 0, none⟩) HSZ.out).trans HC.out; have Aa := aM (below_step HB.out hb1); have HV2 := aM (show Below (w.heap.size + 1) (w.alloc (.cells #[.slice A0 l0.length c0] 32)) w1 from hb1.mono (by simp)); clear hb1; rw [HQ.out]
    go_wp2_with fail
    refine (H2.out _ Aa.out).mono ?_; rintro e w2 ⟨rfl, hb2⟩; have hcl2 := (hb2.cell (p := ⟨w.heap.size, 0, none⟩) (Nat.lt_of_lt_of_le HSZ.out (by have := HV2.out.size; simpa using this))).trans hcl; have Ac := aM (below_step Aa.out hb2); have HV3 := aM (show Below (w.heap.size + 1) (w.alloc (.cells #[.slice A0 l0.length c0] 32)) w2 from HV2.out.trans (hb2.mono (by have := HV2.out.size; simpa using this))); clear hb2 hcl; rw [HQ2.out]
    go_wp2_with fail
    refine (H3.out hn8.out _ HV3.out).mono ?_; rintro e w3 ⟨rfl, hb3⟩
    go_wp2
    go_ret
    exact ⟨Z57, below_step Ac.out hb3⟩
 ·have d0 : decide ((l0.length : Int) > 8) = true := decide_eq_true (by omega)
  have d1 : decide (8 < l0.length) = true := decide_eq_true (by omega); rw [decide_eq_false hn, Bool.false_and]; clear hn
  go_enter Tryd.func22, Tryd.ntmps22
  go_wp2
  go_ret
  exact ⟨Z57, HB.out⟩
def impl_Weaver_has.f (a0_0 : Int) (a0_1 : ByteArray) (a0_2 : Int) (a0_3 : Int) (a0_4 : Int) (a1 : Int) : Option (Bool) := some ((Go.bits .and .i64 a0_2 a1) == a1)
theorem impl_Weaver_has.calls (Ac : Int) (Ad : ByteArray) (Aa : Int) (Ae : Int) (Af : Int) (a1 : Int) (r : Bool) (w : World) (h : impl_Weaver_has.f Ac Ad Aa Ae Af a1 = some r) :
  Calls Tryd.prog 76 #[.agg #[.int .i64 Ac, .string Ad, .int .i64 Aa, .int .i64 Ae, .int .i64 Af], .int .i64 a1] w fun e w' => e = .returned (.bool r) ∧ Below w.heap.size w w' := by
 have hu26 := Tryd.underlying26; have HB := aM (Below.refl w.heap.size w); have H : (some ((Go.bits .and .i64 Aa a1) == a1)) = some r := h; clear h; obtain rfl := Option.some.inj H
 go_enter Tryd.func76, Tryd.ntmps76
 go_wp2_with (first | ((with_reducible refine gate_dst (N := 2) rfl ?_); refine bxE 2 #[.int .i64 Ac, .string Ad, .int .i64 Aa, .int .i64 Ae, .int .i64 Af] 26 ?_; intro Ar hg w3 hbox hb; have Ab := aM (hbox); have Au := gwS hg Z0; have Ag := gwS hg Z0; replace HB := hbS Z0 hb; clear hb hbox hg; obtain ⟨Ah, Ai, Aj, Ak, Al⟩ := bz5 Ab; obtain ⟨Am, An, Ao, Ap, Aq⟩ := fz5 Ab))
 go_ret
 exact ⟨Z13, Z86⟩
def impl_knotsADay.l0 : Nat → Int → Int → List (S26) → Int → Int → Option (Int)
 | 0, _, _, _, _, _ => none
 | k + 1, x1, x5, x8, x9, x10 => if x10 < x9 then (if 0 ≤ x10 then (if x10 < (x8.length : Int) then (if ((rd_T26 x8 x10).f4) = x1 then ((impl_Weaver_has.f ((rd_T26 x8 x10).f0) ((rd_T26 x8 x10).f1) ((rd_T26 x8 x10).f2) ((rd_T26 x8 x10).f3) ((rd_T26 x8 x10).f4) 1).bind fun t115 => (if t115 = true then (impl_knotsADay.l0 k x1 (wrap64 (x5 + ((rd_T26 x8 x10).f3))) x8 x9 (wrap64 (x10 + 1))) else (impl_knotsADay.l0 k x1 x5 x8 x9 (wrap64 (x10 + 1))))) else (impl_knotsADay.l0 k x1 x5 x8 x9 (wrap64 (x10 + 1)))) else (none)) else (none)) else (some x5)
def impl_knotsADay.f (k : Nat) (l0 : List (S26)) (a1 : Int) : Option (Int) := impl_knotsADay.l0 k a1 0 l0 (l0.length : Int) 0
theorem impl_knotsADay.calls (k : Nat) (A0 : Option Addr) (c0 : Nat) (l0 : List (S26)) (a1 : Int) (r : Int) (w : World) (B9 : Kd.C k26 w A0 l0.length l0) (Ca : l0.length ≤ c0) (h : impl_knotsADay.f k l0 a1 = some r) :
  Calls Tryd.prog 70 #[.slice A0 l0.length c0, .int .i64 a1] w fun e w' => e = .returned (.int .i64 r) ∧ Below w.heap.size w w' := by
 have hu26 := Tryd.underlying26; have B8 := Aside0.mk B9; have Cd := Aside0.mk Ca; clear B9 Ca; have HB := aM (Below.refl w.heap.size w); have H : (impl_knotsADay.l0 k a1 0 l0 (l0.length : Int) 0) = some r := h; clear h; have H' := Aside0.mk H; clear H
 go_enter Tryd.func70, Tryd.ntmps70
 go_wp2
 go_loopg [5, 10] k (fun kq v5 Cc w' => ∃ (Al : Int) (Aa : Int), v5 = .int .i64 Al ∧ Cc = .int .i64 Aa ∧ Aside0 (impl_knotsADay.l0 kq a1 Al l0 (l0.length : Int) Aa = some r) ∧ Aside0 (kq ≤ k) ∧ Aside0 (Below w.heap.size w w'))
 case atStart => exact ⟨(0), (0), Z15, Z15, H', ⟨Nat.le_refl _⟩, ⟨Z0⟩⟩
 case round =>
  clear H'; (try clear p2); obtain ⟨Al, Aa, rfl, rfl, HA, HK1, HB⟩ := hrel; cases gk with
  | zero => exact absurd HA.out (by simp [impl_knotsADay.l0])
  | succ k1 =>
   have H := HA.out; clear HA
   simp only [impl_knotsADay.l0] at H
   by_cases c3 : Aa < (l0.length : Int)
   ·rw [if_pos c3] at H
    have c3b0 : decide (Aa < (l0.length : Int)) = true := decide_eq_true c3; clear c3
    by_cases c4 : 0 ≤ Aa
    ·rw [if_pos c4] at H
     have c4b0 : decide (0 ≤ Aa) = true := decide_eq_true c4; clear c4
     by_cases c5 : Aa < (l0.length : Int)
     ·rw [if_pos c5] at H
      have c5b0 : decide (Aa < (l0.length : Int)) = true := decide_eq_true c5; clear c5
      by_cases c6 : ((rd_T26 l0 Aa).f4) = a1
      ·rw [if_pos c6] at H
       have c6b0 : (((rd_T26 l0 Aa).f4) == a1) = true := beq_iff_eq.mpr c6; have c6b1 : (((rd_T26 l0 Aa).f4) != a1) = false := bne_eq_false_iff_eq.mpr c6; clear c6; replace H := Option.bind_eq_some_iff.mp H; obtain ⟨An, Cb, H⟩ := H; replace H : (if An = true then (impl_knotsADay.l0 k1 a1 (wrap64 (Al + ((rd_T26 l0 Aa).f3))) l0 (l0.length : Int) (wrap64 (Aa + 1))) else (impl_knotsADay.l0 k1 a1 Al l0 (l0.length : Int) (wrap64 (Aa + 1)))) = some r := H; have A7 := Aside0.mk Cb; clear Cb
       by_cases c8 : An = true
       ·subst c8
        have H1 : (impl_knotsADay.l0 k1 a1 (wrap64 (Al + ((rd_T26 l0 Aa).f3))) l0 (l0.length : Int) (wrap64 (Aa + 1))) = some r := by rw [if_pos rfl] at H; exact H
        clear H; have H := H1; clear H1; have H' := Aside0.mk H; clear H; have Ai : 0 ≤ (Aa : Int) := of_decide_eq_true Z11; have Aj : Aa < (l0.length : Int) := of_decide_eq_true Z11; obtain ⟨ad113, e113, Ab, Ac, Ad, Ae, Af⟩ := at_T26 B8.out Aa Ai Aj; cases e113; replace Ab := (HB.out.cell (World.block_lt_of_cell? w _ Ab)).trans Ab; replace Ac := (HB.out.cell (World.block_lt_of_cell? w _ Ac)).trans Ac; replace Ad := (HB.out.cell (World.block_lt_of_cell? w _ Ad)).trans Ad; replace Ae := (HB.out.cell (World.block_lt_of_cell? w _ Ae)).trans Ae; replace Af := (HB.out.cell (World.block_lt_of_cell? w _ Af)).trans Af; replace Ai := eq_true Ai; replace Aj := eq_true Aj
        go_wp2_with (first | ((with_reducible refine gate_dst (N := 7) rfl ?_); refine bxE 7 #[.int .i64 0, .string (⟨#[]⟩ : ByteArray), .int .i64 0, .int .i64 0, .int .i64 0] 26 ?_; intro Ah hg w9 hbox hb; have Ag := aM (hbox); have Am := gwS hg Z0; have Ak := gwS hg Z0; replace HB := hbS Z0 hb; clear hb hbox hg; obtain ⟨Ap, Aq, Ar, Au, Av⟩ := bz5 Ag; obtain ⟨Aw, Ax, Ay, Az, Ba⟩ := fz5 Ag) | (go_at_call 76; (with_reducible refine (impl_Weaver_has.calls ((rd_T26 l0 Aa).f0) ((rd_T26 l0 Aa).f1) ((rd_T26 l0 Aa).f2) ((rd_T26 l0 Aa).f3) ((rd_T26 l0 Aa).f4) 1 true _ A7.out).mono ?_); rintro e Ao ⟨rfl, hb⟩; replace Ag := aM (blk_below (g := Ah) (o := .cells #[.int .i64 ((rd_T26 l0 Aa).f0), .string ((rd_T26 l0 Aa).f1), .int .i64 ((rd_T26 l0 Aa).f2), .int .i64 ((rd_T26 l0 Aa).f3), .int .i64 ((rd_T26 l0 Aa).f4)] 26 (0, 0)) Z25 hb); replace HB := hbS Z23 hb; (try clear hb); have Bb : Ao.cell? ⟨Ah, 0, none⟩ = some (.int .i64 ((rd_T26 l0 Aa).f0)) := (blk_cell Ag.out 0).trans rfl; have Bc : Ao.cell? ⟨Ah, 1, none⟩ = some (.string ((rd_T26 l0 Aa).f1)) := (blk_cell Ag.out 1).trans rfl; have Bd : Ao.cell? ⟨Ah, 2, none⟩ = some (.int .i64 ((rd_T26 l0 Aa).f2)) := (blk_cell Ag.out 2).trans rfl; have Bf : Ao.cell? ⟨Ah, 3, none⟩ = some (.int .i64 ((rd_T26 l0 Aa).f3)) := (blk_cell Ag.out 3).trans rfl; have Bg : Ao.cell? ⟨Ah, 4, none⟩ = some (.int .i64 ((rd_T26 l0 Aa).f4)) := (blk_cell Ag.out 4).trans rfl; obtain ⟨Bh, Bi, Bj, Bk, Bl⟩ := fz5 Ag))
        go_roundg k1
        case measure => have := HK1.out; omega
        case rel => exact ⟨(wrap64 (Al + ((rd_T26 l0 Aa).f3))), (wrap64 (Aa + 1)), Z15, Z15, H', ⟨Z50⟩, ⟨Z23⟩⟩
       ·replace c8 := Bool.eq_false_iff.mpr c8
        subst c8
        have H1 : (impl_knotsADay.l0 k1 a1 Al l0 (l0.length : Int) (wrap64 (Aa + 1))) = some r := by rw [if_neg (show ¬ (false = true) by decide)] at H; exact H
        clear H; have H := H1; clear H1; have H' := Aside0.mk H; clear H; have Ai : 0 ≤ (Aa : Int) := of_decide_eq_true Z11; have Aj : Aa < (l0.length : Int) := of_decide_eq_true Z11; obtain ⟨ad113, e113, Ab, Ac, Ad, Ae, Af⟩ := at_T26 B8.out Aa Ai Aj; cases e113; replace Ab := (HB.out.cell (World.block_lt_of_cell? w _ Ab)).trans Ab; replace Ac := (HB.out.cell (World.block_lt_of_cell? w _ Ac)).trans Ac; replace Ad := (HB.out.cell (World.block_lt_of_cell? w _ Ad)).trans Ad; replace Ae := (HB.out.cell (World.block_lt_of_cell? w _ Ae)).trans Ae; replace Af := (HB.out.cell (World.block_lt_of_cell? w _ Af)).trans Af; replace Ai := eq_true Ai; replace Aj := eq_true Aj
        go_wp2_with (first | ((with_reducible refine gate_dst (N := 7) rfl ?_); refine bxE 7 #[.int .i64 0, .string (⟨#[]⟩ : ByteArray), .int .i64 0, .int .i64 0, .int .i64 0] 26 ?_; intro Ah hg Ce hbox hb; have Ag := aM (hbox); have Am := gwS hg Z0; have Ak := gwS hg Z0; replace HB := hbS Z0 hb; clear hb hbox hg; obtain ⟨Bm, Bn, Bo, Bp, Bq⟩ := bz5 Ag; obtain ⟨Br, Bs, Bt, Bu, Bv⟩ := fz5 Ag) | (go_at_call 76; (with_reducible refine (impl_Weaver_has.calls ((rd_T26 l0 Aa).f0) ((rd_T26 l0 Aa).f1) ((rd_T26 l0 Aa).f2) ((rd_T26 l0 Aa).f3) ((rd_T26 l0 Aa).f4) 1 false _ A7.out).mono ?_); rintro e Cf ⟨rfl, hb⟩; replace Ag := aM (blk_below (g := Ah) (o := .cells #[.int .i64 ((rd_T26 l0 Aa).f0), .string ((rd_T26 l0 Aa).f1), .int .i64 ((rd_T26 l0 Aa).f2), .int .i64 ((rd_T26 l0 Aa).f3), .int .i64 ((rd_T26 l0 Aa).f4)] 26 (0, 0)) Z25 hb); replace HB := hbS Z23 hb; (try clear hb)))
        go_roundg k1
        case measure => have := HK1.out; omega
        case rel => exact ⟨(Al), (wrap64 (Aa + 1)), Z15, Z15, H', ⟨Z50⟩, ⟨Z23⟩⟩
      ·rw [if_neg c6] at H
       have c6b0 : (((rd_T26 l0 Aa).f4) == a1) = false := beq_eq_false_iff_ne.mpr c6; have c6b1 : (((rd_T26 l0 Aa).f4) != a1) = true := bne_iff_ne.mpr c6; have H' := Aside0.mk H; clear H; have Ai : 0 ≤ (Aa : Int) := of_decide_eq_true Z11; have Aj : Aa < (l0.length : Int) := of_decide_eq_true Z11; obtain ⟨ad113, e113, Ab, Ac, Ad, Ae, Af⟩ := at_T26 B8.out Aa Ai Aj; cases e113; replace Ab := (HB.out.cell (World.block_lt_of_cell? w _ Ab)).trans Ab; replace Ac := (HB.out.cell (World.block_lt_of_cell? w _ Ac)).trans Ac; replace Ad := (HB.out.cell (World.block_lt_of_cell? w _ Ad)).trans Ad; replace Ae := (HB.out.cell (World.block_lt_of_cell? w _ Ae)).trans Ae; replace Af := (HB.out.cell (World.block_lt_of_cell? w _ Af)).trans Af; replace Ai := eq_true Ai; replace Aj := eq_true Aj
       go_wp2_with (first | ((with_reducible refine gate_dst (N := 7) rfl ?_); refine bxE 7 #[.int .i64 0, .string (⟨#[]⟩ : ByteArray), .int .i64 0, .int .i64 0, .int .i64 0] 26 ?_; intro Ah hg Cg hbox hb; have Ag := aM (hbox); have Am := gwS hg Z0; have Ak := gwS hg Z0; replace HB := hbS Z0 hb; clear hb hbox hg; obtain ⟨Bw, Bx, Bz, B0, B1⟩ := bz5 Ag; obtain ⟨B2, B3, B4, B6, B7⟩ := fz5 Ag))
       go_roundg k1
       case measure => have := HK1.out; omega
       case rel => exact ⟨(Al), (wrap64 (Aa + 1)), Z15, Z15, H', ⟨Z50⟩, ⟨Z23⟩⟩
     ·rw [if_neg c5] at H
      exact absurd H (by simp)
    ·rw [if_neg c4] at H
     exact absurd H (by simp)
   ·rw [if_neg c3] at H
    have c3b0 : decide (Aa < (l0.length : Int)) = false := decide_eq_false c3; clear c3; obtain rfl := Option.some.inj H
    go_wp2
    go_ret
    exact ⟨Z13, Z0⟩
def impl_KnotsADay.f (k : Nat) (l0 : List (S26)) (a1 : Int) : Option (Int × Bool) := (impl_AreWeavers.f l0).bind fun t116 => (if t116 = true then ((impl_isId.f a1).bind fun t117 => (if t117 = true then ((impl_knotsADay.f k l0 a1).bind fun t118 => (some (t118, true))) else (some (0, false)))) else (some (0, false)))
theorem impl_KnotsADay.calls (k : Nat) (A0 : Option Addr) (c0 : Nat) (l0 : List (S26)) (a1 : Int) (r1 : Int) (r2 : Bool) (w : World) (Af : Kd.C k26 w A0 l0.length l0) (Ag : l0.length ≤ c0) (h : impl_KnotsADay.f k l0 a1 = some (r1, r2)) :
  Calls Tryd.prog 25 #[.slice A0 l0.length c0, .int .i64 a1] w fun e w' => e = .returned (.tuple #[.int .i64 r1, .bool r2]) ∧ Below w.heap.size w w' := by
 have Ad := Aside0.mk Af; have Ae := Aside0.mk Ag; clear Af Ag; have HB := aM (Below.refl w.heap.size w); have H : ((impl_AreWeavers.f l0).bind fun Ac => (if Ac = true then ((impl_isId.f a1).bind fun Ab => (if Ab = true then ((impl_knotsADay.f k l0 a1).bind fun Aa => (some (Aa, true))) else (some (0, false)))) else (some (0, false)))) = some (r1, r2) := h; clear h; replace H := Option.bind_eq_some_iff.mp H; obtain ⟨Ac, Ah, H⟩ := H; replace H : (if Ac = true then ((impl_isId.f a1).bind fun Ab => (if Ab = true then ((impl_knotsADay.f k l0 a1).bind fun Aa => (some (Aa, true))) else (some (0, false)))) else (some (0, false))) = some (r1, r2) := H; have A3 := Aside0.mk Ah; clear Ah
 by_cases c4 : Ac = true
 ·subst c4
  have H1 : ((impl_isId.f a1).bind fun Ab => (if Ab = true then ((impl_knotsADay.f k l0 a1).bind fun Aa => (some (Aa, true))) else (some (0, false)))) = some (r1, r2) := by rw [if_pos rfl] at H; exact H
  clear H; have H := H1; clear H1; replace H := Option.bind_eq_some_iff.mp H; obtain ⟨Ab, Ai, H⟩ := H; replace H : (if Ab = true then ((impl_knotsADay.f k l0 a1).bind fun Aa => (some (Aa, true))) else (some (0, false))) = some (r1, r2) := H; have A5 := Aside0.mk Ai; clear Ai
  by_cases c6 : Ab = true
  ·subst c6
   have H1 : ((impl_knotsADay.f k l0 a1).bind fun Aa => (some (Aa, true))) = some (r1, r2) := by rw [if_pos rfl] at H; exact H
   clear H; have H := H1; clear H1; replace H := Option.bind_eq_some_iff.mp H; obtain ⟨Aa, Aj, H⟩ := H; replace H : (some (Aa, true)) = some (r1, r2) := H; have A7 := Aside0.mk Aj; clear Aj
   simp only [Option.some.injEq, Prod.mk.injEq] at H
   obtain ⟨rfl, rfl⟩ := H
   go_enter Tryd.func25, Tryd.ntmps25
   go_wp2_with (first | ((with_reducible refine gate_callee (f := 22) rfl ?_); refine glE (some 7) Tryd.func22 #[.slice A0 l0.length c0] ?_; (with_reducible refine (impl_AreWeavers.calls _ _ l0 true _ ?side1 ?side2 A3.out).mono ?_); (case side1 => exact Z63); (case side2 => exact Ae.out); rintro e w8 ⟨rfl, hb⟩; refine ⟨_, rfl, ?_⟩; replace HB := hbS Z0 hb; (try clear hb)) | (go_at_call 57; (with_reducible refine (impl_isId.calls a1 true _ A5.out).mono ?_); rintro e w' ⟨rfl, ⟨nd, rfl⟩⟩) | ((with_reducible refine gate_callee (f := 70) rfl ?_); refine glE (some 16) Tryd.func70 #[.slice A0 l0.length c0, .int .i64 a1] ?_; (with_reducible refine (impl_knotsADay.calls k _ _ l0 a1 Aa _ ?side1 ?side2 A7.out).mono ?_); (case side1 => repeat (first | exact (Kd.C_below Ad.out Z0) | (with_reducible refine Kd.C_alloc ?_ _) | (with_reducible refine Kd.C_drewN ?_ _) | (with_reducible refine Kd.C_drew ?_))); (case side2 => exact Ae.out); rintro e w9 ⟨rfl, hb⟩; refine ⟨_, rfl, ?_⟩; replace HB := hbS Z0 hb; (try clear hb)))
   go_ret2
   exact ⟨Z13, Z0⟩
  ·replace c6 := Bool.eq_false_iff.mpr c6
   subst c6
   have H1 : (some (0, false)) = some (r1, r2) := by rw [if_neg (show ¬ (false = true) by decide)] at H; exact H
   clear H; have H := H1; clear H1
   simp only [Option.some.injEq, Prod.mk.injEq] at H
   obtain ⟨rfl, rfl⟩ := H
   go_enter Tryd.func25, Tryd.ntmps25
   go_wp2_with (first | ((with_reducible refine gate_callee (f := 22) rfl ?_); refine glE (some 7) Tryd.func22 #[.slice A0 l0.length c0] ?_; (with_reducible refine (impl_AreWeavers.calls _ _ l0 true _ ?side1 ?side2 A3.out).mono ?_); (case side1 => exact Z63); (case side2 => exact Ae.out); rintro e Ak ⟨rfl, hb⟩; refine ⟨_, rfl, ?_⟩; replace HB := hbS Z0 hb; (try clear hb)) | (go_at_call 57; (with_reducible refine (impl_isId.calls a1 false _ A5.out).mono ?_); rintro e w' ⟨rfl, ⟨nd, rfl⟩⟩))
   go_ret2
   exact ⟨Z13, Z0⟩
 ·replace c4 := Bool.eq_false_iff.mpr c4
  subst c4
  have H1 : (some (0, false)) = some (r1, r2) := by rw [if_neg (show ¬ (false = true) by decide)] at H; exact H
  clear H; have H := H1; clear H1
  simp only [Option.some.injEq, Prod.mk.injEq] at H
  obtain ⟨rfl, rfl⟩ := H
  go_enter Tryd.func25, Tryd.ntmps25
  go_wp2_with (first | ((with_reducible refine gate_callee (f := 22) rfl ?_); refine glE (some 7) Tryd.func22 #[.slice A0 l0.length c0] ?_; (with_reducible refine (impl_AreWeavers.calls _ _ l0 false _ ?side1 ?side2 A3.out).mono ?_); (case side1 => exact Z63); (case side2 => exact Ae.out); rintro e Al ⟨rfl, hb⟩; refine ⟨_, rfl, ?_⟩; replace HB := hbS Z0 hb; (try clear hb)))
  go_ret2
  exact ⟨Z13, Z0⟩
def spec_l1In.f (a0 : Int) (a1 : Int) (a2 : Int) : Option (Bool) := if a0 ≥ a1 then (some (decide (a0 ≤ a2))) else (some false)
theorem spec_l1In.calls (a0 : Int) (a1 : Int) (a2 : Int) (r : Bool) (w : World) (h : spec_l1In.f a0 a1 a2 = some r) :
  Calls Tryd.prog 71 #[.int .i64 a0, .int .i64 a1, .int .i64 a2] w fun e w' => e = .returned (.bool r) ∧ Drawn0 w w' := by
 have H : (if a0 ≥ a1 then (some (decide (a0 ≤ a2))) else (some false)) = some r := h; clear h
 by_cases c4 : a0 ≥ a1
 ·rw [if_pos c4] at H
  have c4b0 : decide (a1 ≤ a0) = true := decide_eq_true c4; clear c4; obtain rfl := Option.some.inj H
  go_enter Tryd.func71, Tryd.ntmps71
  go_wp2
  go_ret
  exact ⟨Z15, Z26⟩
 ·rw [if_neg c4] at H
  have c4b0 : decide (a1 ≤ a0) = false := decide_eq_false c4; clear c4; obtain rfl := Option.some.inj H
  go_enter Tryd.func71, Tryd.ntmps71
  go_wp2
  go_ret
  exact ⟨Z15, Z26⟩
theorem spec_l1In.eq (a b c : Int) : spec_l1In.f a b c = some (rng a b c) := by
 unfold spec_l1In.f rng; by_cases h : b ≤ a <;> simp [h]
def spec_l11Skills.f (a0 : Int) : Option (Bool) := (spec_l1In.f a0 1 15).bind fun t119 => (some t119)
theorem spec_l11Skills.calls (a0 : Int) (r : Bool) (w : World) (h : spec_l11Skills.f a0 = some r) :
  Calls Tryd.prog 75 #[.int .i64 a0] w fun e w' => e = .returned (.bool r) ∧ Drawn0 w w' := by
 have H : ((spec_l1In.f a0 1 15).bind fun Aa => (some Aa)) = some r := h; clear h; replace H := Option.bind_eq_some_iff.mp H; obtain ⟨Aa, Ab, H⟩ := H; replace H : (some Aa) = some r := H; have A2 := Aside0.mk Ab; clear Ab; obtain rfl := Option.some.inj H
 go_enter Tryd.func75, Tryd.ntmps75
 go_wp2_with (first | ((with_reducible refine gate_callee (f := 71) rfl ?_); refine glE (some 4) Tryd.func71 #[.int .i64 a0, .int .i64 1, .int .i64 15] ?_; (with_reducible refine (spec_l1In.calls a0 1 15 Aa _ A2.out).mono ?_); rintro e w' ⟨rfl, ⟨nd, rfl⟩⟩; refine ⟨_, rfl, ?_⟩))
 go_ret
 exact ⟨Z15, Z26⟩
def spec_l2Word.l0 : Nat → ByteArray → Int → Option (Bool)
 | 0, _, _ => none
 | k + 1, x0, x3 => if x3 < (x0.size : Int) then (if 0 ≤ x3 then (if (bt x0 x3) < 97 then (some false) else (if (bt x0 x3) > 122 then (some false) else (spec_l2Word.l0 k x0 (wrap64 (x3 + 1))))) else (none)) else ((spec_l1In.f (x0.size : Int) 1 10).bind fun t120 => (some t120))
def spec_l2Word.f (k : Nat) (a0 : ByteArray) : Option (Bool) := spec_l2Word.l0 k a0 0
theorem spec_l2Word.calls (k : Nat) (a0 : ByteArray) (r : Bool) (w : World) (h : spec_l2Word.f k a0 = some r) :
  Calls Tryd.prog 97 #[.string a0] w fun e w' => e = .returned (.bool r) ∧ Drawn0 w w' := by
 have H : (spec_l2Word.l0 k a0 0) = some r := h; clear h; have H' := Aside0.mk H; clear H
 go_enter Tryd.func97, Tryd.ntmps97
 go_wp2
 go_loopg [3] k (fun kq v3 w' => ∃ (Aa : Int), v3 = .int .i64 Aa ∧ Aside0 (spec_l2Word.l0 kq a0 Aa = some r) ∧ Aside0 (kq ≤ k) ∧ Drawn0 w w')
 case atStart => exact ⟨(0), Z15, H', ⟨Nat.le_refl _⟩, Z26⟩
 case round =>
  clear H'; obtain ⟨Aa, rfl, HA, HK1, ⟨m1, rfl⟩⟩ := hrel; cases gk with
  | zero => exact absurd HA.out (by simp [spec_l2Word.l0])
  | succ k1 =>
   have H := HA.out; clear HA
   simp only [spec_l2Word.l0] at H
   by_cases c2 : Aa < (a0.size : Int)
   ·rw [if_pos c2] at H
    have c2b0 : decide (Aa < (a0.size : Int)) = true := decide_eq_true c2; clear c2
    by_cases c3 : 0 ≤ Aa
    ·rw [if_pos c3] at H
     have c3b0 : decide (0 ≤ Aa) = true := decide_eq_true c3; clear c3
     by_cases c5 : (bt a0 Aa) < 97
     ·rw [if_pos c5] at H
      have c5b0 : decide ((bt a0 Aa) < 97) = true := decide_eq_true c5; clear c5; obtain rfl := Option.some.inj H; have p4 : 0 ≤ (Aa : Int) := of_decide_eq_true Z11; have q4 : Aa < (a0.size : Int) := of_decide_eq_true Z11; have Ac := bt_at a0 Aa; replace p4 := eq_true p4; replace q4 := eq_true q4
      go_wp2
      go_ret
      exact ⟨Z15, Z26⟩
     ·rw [if_neg c5] at H
      have c5b0 : decide ((bt a0 Aa) < 97) = false := decide_eq_false c5; clear c5
      by_cases c7 : (bt a0 Aa) > 122
      ·rw [if_pos c7] at H
       have c7b0 : decide (122 < (bt a0 Aa)) = true := decide_eq_true c7; clear c7; obtain rfl := Option.some.inj H; have p4 : 0 ≤ (Aa : Int) := of_decide_eq_true Z11; have q4 : Aa < (a0.size : Int) := of_decide_eq_true Z11; have Ac := bt_at a0 Aa; replace p4 := eq_true p4; replace q4 := eq_true q4; have p6 : 0 ≤ (Aa : Int) := of_decide_eq_true Z11; have q6 : Aa < (a0.size : Int) := of_decide_eq_true Z11; have Ae := bt_at a0 Aa; replace p6 := eq_true p6; replace q6 := eq_true q6
       go_wp2
       go_ret
       exact ⟨Z15, Z26⟩
      ·rw [if_neg c7] at H
       have c7b0 : decide (122 < (bt a0 Aa)) = false := decide_eq_false c7; clear c7; have H' := Aside0.mk H; clear H; have p4 : 0 ≤ (Aa : Int) := of_decide_eq_true Z11; have q4 : Aa < (a0.size : Int) := of_decide_eq_true Z11; have Ac := bt_at a0 Aa; replace p4 := eq_true p4; replace q4 := eq_true q4; have p6 : 0 ≤ (Aa : Int) := of_decide_eq_true Z11; have q6 : Aa < (a0.size : Int) := of_decide_eq_true Z11; have Ae := bt_at a0 Aa; replace p6 := eq_true p6; replace q6 := eq_true q6
       go_wp2
       go_roundg k1
       case measure => have := HK1.out; omega
       case rel => exact ⟨(wrap64 (Aa + 1)), Z15, H', ⟨Z50⟩, Z26⟩
    ·rw [if_neg c3] at H
     exact absurd H (by simp)
   ·rw [if_neg c2] at H
    have c2b0 : decide (Aa < (a0.size : Int)) = false := decide_eq_false c2; clear c2; replace H := Option.bind_eq_some_iff.mp H; obtain ⟨Ab, Ad, H⟩ := H; replace H : (some Ab) = some r := H; have A8 := Aside0.mk Ad; clear Ad; obtain rfl := Option.some.inj H
    go_wp2_with (first | ((with_reducible refine gate_callee (f := 71) rfl ?_); refine glE (some 22) Tryd.func71 #[.int .i64 (a0.size : Int), .int .i64 1, .int .i64 10] ?_; (with_reducible refine (spec_l1In.calls (a0.size : Int) 1 10 Ab _ A8.out).mono ?_); rintro e w' ⟨rfl, ⟨nd, rfl⟩⟩; refine ⟨_, rfl, ?_⟩))
    go_ret
    exact ⟨Z15, Z26⟩
def spec_l11One.f (k : Nat) (a0_0 : Int) (a0_1 : ByteArray) (a0_2 : Int) (a0_3 : Int) (a0_4 : Int) : Option (Bool) := (spec_l1In.f a0_0 1 99).bind fun t122 => (if t122 = true then ((spec_l2Word.f k a0_1).bind fun t123 => (if t123 = true then ((spec_l11Skills.f a0_2).bind fun t124 => (if t124 = true then ((spec_l1In.f a0_3 100 12000).bind fun t125 => (if t125 = true then ((spec_l1In.f a0_4 0 99).bind fun t126 => (some t126)) else (some false))) else (some false))) else (some false))) else (some false))
theorem spec_l11One.calls (k : Nat) (Ac : Int) (Ah : ByteArray) (Ag : Int) (Ae : Int) (Ad : Int) (r : Bool) (w : World) (h : spec_l11One.f k Ac Ah Ag Ae Ad = some r) :
  Calls Tryd.prog 56 #[.agg #[.int .i64 Ac, .string Ah, .int .i64 Ag, .int .i64 Ae, .int .i64 Ad]] w fun e w' => e = .returned (.bool r) ∧ Below w.heap.size w w' := by
 have hu26 := Tryd.underlying26; have HB := aM (Below.refl w.heap.size w); have H : ((spec_l1In.f Ac 1 99).bind fun An => (if An = true then ((spec_l2Word.f k Ah).bind fun Ak => (if Ak = true then ((spec_l11Skills.f Ag).bind fun Aj => (if Aj = true then ((spec_l1In.f Ae 100 12000).bind fun Af => (if Af = true then ((spec_l1In.f Ad 0 99).bind fun Ab => (some Ab)) else (some false))) else (some false))) else (some false))) else (some false))) = some r := h; clear h; replace H := Option.bind_eq_some_iff.mp H; obtain ⟨An, Ci, H⟩ := H; replace H : (if An = true then ((spec_l2Word.f k Ah).bind fun Ak => (if Ak = true then ((spec_l11Skills.f Ag).bind fun Aj => (if Aj = true then ((spec_l1In.f Ae 100 12000).bind fun Af => (if Af = true then ((spec_l1In.f Ad 0 99).bind fun Ab => (some Ab)) else (some false))) else (some false))) else (some false))) else (some false)) = some r := H; have A2 := Aside0.mk Ci; clear Ci
 by_cases c3 : An = true
 ·subst c3
  have H1 : ((spec_l2Word.f k Ah).bind fun Ak => (if Ak = true then ((spec_l11Skills.f Ag).bind fun Aj => (if Aj = true then ((spec_l1In.f Ae 100 12000).bind fun Af => (if Af = true then ((spec_l1In.f Ad 0 99).bind fun Ab => (some Ab)) else (some false))) else (some false))) else (some false))) = some r := by rw [if_pos rfl] at H; exact H
  clear H; have H := H1; clear H1; replace H := Option.bind_eq_some_iff.mp H; obtain ⟨Ak, Cj, H⟩ := H; replace H : (if Ak = true then ((spec_l11Skills.f Ag).bind fun Aj => (if Aj = true then ((spec_l1In.f Ae 100 12000).bind fun Af => (if Af = true then ((spec_l1In.f Ad 0 99).bind fun Ab => (some Ab)) else (some false))) else (some false))) else (some false)) = some r := H; have A4 := Aside0.mk Cj; clear Cj
  by_cases c5 : Ak = true
  ·subst c5
   have H1 : ((spec_l11Skills.f Ag).bind fun Aj => (if Aj = true then ((spec_l1In.f Ae 100 12000).bind fun Af => (if Af = true then ((spec_l1In.f Ad 0 99).bind fun Ab => (some Ab)) else (some false))) else (some false))) = some r := by rw [if_pos rfl] at H; exact H
   clear H; have H := H1; clear H1; replace H := Option.bind_eq_some_iff.mp H; obtain ⟨Aj, Ck, H⟩ := H; replace H : (if Aj = true then ((spec_l1In.f Ae 100 12000).bind fun Af => (if Af = true then ((spec_l1In.f Ad 0 99).bind fun Ab => (some Ab)) else (some false))) else (some false)) = some r := H; have A6 := Aside0.mk Ck; clear Ck
   by_cases c7 : Aj = true
   ·subst c7
    have H1 : ((spec_l1In.f Ae 100 12000).bind fun Af => (if Af = true then ((spec_l1In.f Ad 0 99).bind fun Ab => (some Ab)) else (some false))) = some r := by rw [if_pos rfl] at H; exact H
    clear H; have H := H1; clear H1; replace H := Option.bind_eq_some_iff.mp H; obtain ⟨Af, Cl, H⟩ := H; replace H : (if Af = true then ((spec_l1In.f Ad 0 99).bind fun Ab => (some Ab)) else (some false)) = some r := H; have A8 := Aside0.mk Cl; clear Cl
    by_cases c9 : Af = true
    ·subst c9
     have H1 : ((spec_l1In.f Ad 0 99).bind fun Ab => (some Ab)) = some r := by rw [if_pos rfl] at H; exact H
     clear H; have H := H1; clear H1; replace H := Option.bind_eq_some_iff.mp H; obtain ⟨Ab, Ao, H⟩ := H; replace H : (some Ab) = some r := H; have Cm := Aside0.mk Ao; clear Ao; obtain rfl := Option.some.inj H
     go_enter Tryd.func56, Tryd.ntmps56
     go_wp2_with (first | ((with_reducible refine gate_dst (N := 1) rfl ?_); refine bxE 1 #[.int .i64 Ac, .string Ah, .int .i64 Ag, .int .i64 Ae, .int .i64 Ad] 26 ?_; intro Al hg Cn hbox hb; have Aa := aM (hbox); have Am := gwS hg Z0; have Ai := gwS hg Z0; replace HB := hbS Z0 hb; clear hb hbox hg; obtain ⟨Ap, Aq, Ar, Au, Av⟩ := bz5 Aa; obtain ⟨Aw, Ax, Ay, Az, Ba⟩ := fz5 Aa) | ((with_reducible refine gate_callee (f := 71) rfl ?_); refine glE (some 5) Tryd.func71 #[.int .i64 Ac, .int .i64 1, .int .i64 99] ?_; (with_reducible refine (spec_l1In.calls Ac 1 99 true _ A2.out).mono ?_); rintro e w' ⟨rfl, ⟨nd, rfl⟩⟩; refine ⟨_, rfl, ?_⟩) | (go_at_call 97; (with_reducible refine (spec_l2Word.calls k Ah true _ A4.out).mono ?_); rintro e w' ⟨rfl, ⟨nd, rfl⟩⟩) | (go_at_call 75; (with_reducible refine (spec_l11Skills.calls Ag true _ A6.out).mono ?_); rintro e w' ⟨rfl, ⟨nd, rfl⟩⟩) | (go_at_call 71; (with_reducible refine (spec_l1In.calls Ae 100 12000 true _ A8.out).mono ?_); rintro e w' ⟨rfl, ⟨nd, rfl⟩⟩) | (go_at_call 71; (with_reducible refine (spec_l1In.calls Ad 0 99 Ab _ Cm.out).mono ?_); rintro e w' ⟨rfl, ⟨nd, rfl⟩⟩))
     go_ret
     exact ⟨Z13, Z47⟩
    ·replace c9 := Bool.eq_false_iff.mpr c9
     subst c9
     have H1 : (some false) = some r := by rw [if_neg (show ¬ (false = true) by decide)] at H; exact H
     clear H; have H := H1; clear H1; obtain rfl := Option.some.inj H
     go_enter Tryd.func56, Tryd.ntmps56
     go_wp2_with (first | ((with_reducible refine gate_dst (N := 1) rfl ?_); refine bxE 1 #[.int .i64 Ac, .string Ah, .int .i64 Ag, .int .i64 Ae, .int .i64 Ad] 26 ?_; intro Al hg Co hbox hb; have Aa := aM (hbox); have Am := gwS hg Z0; have Ai := gwS hg Z0; replace HB := hbS Z0 hb; clear hb hbox hg; obtain ⟨Bb, Bc, Bd, Bf, Bg⟩ := bz5 Aa; obtain ⟨Bh, Bi, Bj, Bk, Bl⟩ := fz5 Aa) | ((with_reducible refine gate_callee (f := 71) rfl ?_); refine glE (some 5) Tryd.func71 #[.int .i64 Ac, .int .i64 1, .int .i64 99] ?_; (with_reducible refine (spec_l1In.calls Ac 1 99 true _ A2.out).mono ?_); rintro e w' ⟨rfl, ⟨nd, rfl⟩⟩; refine ⟨_, rfl, ?_⟩) | (go_at_call 97; (with_reducible refine (spec_l2Word.calls k Ah true _ A4.out).mono ?_); rintro e w' ⟨rfl, ⟨nd, rfl⟩⟩) | (go_at_call 75; (with_reducible refine (spec_l11Skills.calls Ag true _ A6.out).mono ?_); rintro e w' ⟨rfl, ⟨nd, rfl⟩⟩) | (go_at_call 71; (with_reducible refine (spec_l1In.calls Ae 100 12000 false _ A8.out).mono ?_); rintro e w' ⟨rfl, ⟨nd, rfl⟩⟩))
     go_ret
     exact ⟨Z13, Z47⟩
   ·replace c7 := Bool.eq_false_iff.mpr c7
    subst c7
    have H1 : (some false) = some r := by rw [if_neg (show ¬ (false = true) by decide)] at H; exact H
    clear H; have H := H1; clear H1; obtain rfl := Option.some.inj H
    go_enter Tryd.func56, Tryd.ntmps56
    go_wp2_with (first | ((with_reducible refine gate_dst (N := 1) rfl ?_); refine bxE 1 #[.int .i64 Ac, .string Ah, .int .i64 Ag, .int .i64 Ae, .int .i64 Ad] 26 ?_; intro Al hg Cp hbox hb; have Aa := aM (hbox); have Am := gwS hg Z0; have Ai := gwS hg Z0; replace HB := hbS Z0 hb; clear hb hbox hg; obtain ⟨Bm, Bn, Bo, Bp, Bq⟩ := bz5 Aa; obtain ⟨Br, Bs, Bt, Bu, Bv⟩ := fz5 Aa) | ((with_reducible refine gate_callee (f := 71) rfl ?_); refine glE (some 5) Tryd.func71 #[.int .i64 Ac, .int .i64 1, .int .i64 99] ?_; (with_reducible refine (spec_l1In.calls Ac 1 99 true _ A2.out).mono ?_); rintro e w' ⟨rfl, ⟨nd, rfl⟩⟩; refine ⟨_, rfl, ?_⟩) | (go_at_call 97; (with_reducible refine (spec_l2Word.calls k Ah true _ A4.out).mono ?_); rintro e w' ⟨rfl, ⟨nd, rfl⟩⟩) | (go_at_call 75; (with_reducible refine (spec_l11Skills.calls Ag false _ A6.out).mono ?_); rintro e w' ⟨rfl, ⟨nd, rfl⟩⟩))
    go_ret
    exact ⟨Z13, Z47⟩
  ·replace c5 := Bool.eq_false_iff.mpr c5
   subst c5
   have H1 : (some false) = some r := by rw [if_neg (show ¬ (false = true) by decide)] at H; exact H
   clear H; have H := H1; clear H1; obtain rfl := Option.some.inj H
   go_enter Tryd.func56, Tryd.ntmps56
   go_wp2_with (first | ((with_reducible refine gate_dst (N := 1) rfl ?_); refine bxE 1 #[.int .i64 Ac, .string Ah, .int .i64 Ag, .int .i64 Ae, .int .i64 Ad] 26 ?_; intro Al hg Cq hbox hb; have Aa := aM (hbox); have Am := gwS hg Z0; have Ai := gwS hg Z0; replace HB := hbS Z0 hb; clear hb hbox hg; obtain ⟨Bw, Bx, Bz, B0, B1⟩ := bz5 Aa; obtain ⟨B2, B3, B4, B6, B7⟩ := fz5 Aa) | ((with_reducible refine gate_callee (f := 71) rfl ?_); refine glE (some 5) Tryd.func71 #[.int .i64 Ac, .int .i64 1, .int .i64 99] ?_; (with_reducible refine (spec_l1In.calls Ac 1 99 true _ A2.out).mono ?_); rintro e w' ⟨rfl, ⟨nd, rfl⟩⟩; refine ⟨_, rfl, ?_⟩) | (go_at_call 97; (with_reducible refine (spec_l2Word.calls k Ah false _ A4.out).mono ?_); rintro e w' ⟨rfl, ⟨nd, rfl⟩⟩))
   go_ret
   exact ⟨Z13, Z47⟩
 ·replace c3 := Bool.eq_false_iff.mpr c3
  subst c3
  have H1 : (some false) = some r := by rw [if_neg (show ¬ (false = true) by decide)] at H; exact H
  clear H; have H := H1; clear H1; obtain rfl := Option.some.inj H
  go_enter Tryd.func56, Tryd.ntmps56
  go_wp2_with (first | ((with_reducible refine gate_dst (N := 1) rfl ?_); refine bxE 1 #[.int .i64 Ac, .string Ah, .int .i64 Ag, .int .i64 Ae, .int .i64 Ad] 26 ?_; intro Al hg Cr hbox hb; have Aa := aM (hbox); have Am := gwS hg Z0; have Ai := gwS hg Z0; replace HB := hbS Z0 hb; clear hb hbox hg; obtain ⟨B8, B9, Ca, Cb, Cc⟩ := bz5 Aa; obtain ⟨Cd, Ce, Cf, Cg, Ch⟩ := fz5 Aa) | ((with_reducible refine gate_callee (f := 71) rfl ?_); refine glE (some 5) Tryd.func71 #[.int .i64 Ac, .int .i64 1, .int .i64 99] ?_; (with_reducible refine (spec_l1In.calls Ac 1 99 false _ A2.out).mono ?_); rintro e w' ⟨rfl, ⟨nd, rfl⟩⟩; refine ⟨_, rfl, ?_⟩))
  go_ret
  exact ⟨Z13, Z47⟩
def spec_l11Seats.l0 : Nat → List (S26) → Int → Int → Int → Option (Int)
 | 0, _, _, _, _ => none
 | k + 1, x0, x1, x5, x6 => if x6 < (x0.length : Int) then (if 0 ≤ x6 then (if ((rd_T26 x0 x6).f4) = x1 then (spec_l11Seats.l0 k x0 x1 (wrap64 (x5 + 1)) (wrap64 (x6 + 1))) else (spec_l11Seats.l0 k x0 x1 x5 (wrap64 (x6 + 1)))) else (none)) else (some x5)
def spec_l11Seats.f (k : Nat) (l0 : List (S26)) (a1 : Int) : Option (Int) := spec_l11Seats.l0 k l0 a1 0 0
theorem spec_l11Seats.calls (k : Nat) (A0 : Option Addr) (c0 : Nat) (l0 : List (S26)) (a1 : Int) (r : Int) (w : World) (Aj : Kd.C k26 w A0 l0.length l0) (Ak : l0.length ≤ c0) (h : spec_l11Seats.f k l0 a1 = some r) :
  Calls Tryd.prog 73 #[.slice A0 l0.length c0, .int .i64 a1] w fun e w' => e = .returned (.int .i64 r) ∧ Drawn0 w w' := by
 have Al := Aside0.mk Aj; have Am := Aside0.mk Ak; clear Aj Ak; have H : (spec_l11Seats.l0 k l0 a1 0 0) = some r := h; clear h; have H' := Aside0.mk H; clear H
 go_enter Tryd.func73, Tryd.ntmps73
 go_wp2
 go_loopg [5, 6] k (fun kq v5 v6 w' => ∃ (Ad : Int) (Aa : Int), v5 = .int .i64 Ad ∧ v6 = .int .i64 Aa ∧ Aside0 (spec_l11Seats.l0 kq l0 a1 Ad Aa = some r) ∧ Aside0 (kq ≤ k) ∧ Drawn0 w w')
 case atStart => exact ⟨(0), (0), Z15, Z15, H', ⟨Nat.le_refl _⟩, Z26⟩
 case round =>
  clear H'; (try clear p2); obtain ⟨Ad, Aa, rfl, rfl, HA, HK1, ⟨m1, rfl⟩⟩ := hrel; cases gk with
  | zero => exact absurd HA.out (by simp [spec_l11Seats.l0])
  | succ k1 =>
   have H := HA.out; clear HA
   simp only [spec_l11Seats.l0] at H
   by_cases c3 : Aa < (l0.length : Int)
   ·rw [if_pos c3] at H
    have c3b0 : decide (Aa < (l0.length : Int)) = true := decide_eq_true c3; clear c3
    by_cases c4 : 0 ≤ Aa
    ·rw [if_pos c4] at H
     have c4b0 : decide (0 ≤ Aa) = true := decide_eq_true c4; clear c4
     by_cases c5 : ((rd_T26 l0 Aa).f4) = a1
     ·rw [if_pos c5] at H
      have c5b0 : (((rd_T26 l0 Aa).f4) == a1) = true := beq_iff_eq.mpr c5; have c5b1 : (((rd_T26 l0 Aa).f4) != a1) = false := bne_eq_false_iff_eq.mpr c5; clear c5; have H' := Aside0.mk H; clear H; have Ab : 0 ≤ (Aa : Int) := of_decide_eq_true Z11; have Ac : Aa < (l0.length : Int) := of_decide_eq_true Z11; obtain ⟨ad127, e127, Ae, Af, Ag, Ah, Ai⟩ := at_T26 Al.out Aa Ab Ac; cases e127; replace Ab := eq_true Ab; replace Ac := eq_true Ac
      go_wp2
      go_roundg k1
      case measure => have := HK1.out; omega
      case rel => exact ⟨(wrap64 (Ad + 1)), (wrap64 (Aa + 1)), Z15, Z15, H', ⟨Z50⟩, Z26⟩
     ·rw [if_neg c5] at H
      have c5b0 : (((rd_T26 l0 Aa).f4) == a1) = false := beq_eq_false_iff_ne.mpr c5; have c5b1 : (((rd_T26 l0 Aa).f4) != a1) = true := bne_iff_ne.mpr c5; have H' := Aside0.mk H; clear H; have Ab : 0 ≤ (Aa : Int) := of_decide_eq_true Z11; have Ac : Aa < (l0.length : Int) := of_decide_eq_true Z11; obtain ⟨ad127, e127, Ae, Af, Ag, Ah, Ai⟩ := at_T26 Al.out Aa Ab Ac; cases e127; replace Ab := eq_true Ab; replace Ac := eq_true Ac
      go_wp2
      go_roundg k1
      case measure => have := HK1.out; omega
      case rel => exact ⟨(Ad), (wrap64 (Aa + 1)), Z15, Z15, H', ⟨Z50⟩, Z26⟩
    ·rw [if_neg c4] at H
     exact absurd H (by simp)
   ·rw [if_neg c3] at H
    have c3b0 : decide (Aa < (l0.length : Int)) = false := decide_eq_false c3; clear c3; obtain rfl := Option.some.inj H
    go_wp2
    go_ret
    exact ⟨Z15, Z26⟩
end Go.Proofs.YthalifhbjioaeaaDoor.H
