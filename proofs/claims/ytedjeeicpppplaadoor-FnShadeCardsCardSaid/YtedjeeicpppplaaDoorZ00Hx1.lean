-- by wip/pack.py of this repo
import Derived.Test.YtedjeeicpppplaaDoorZ00Hx0
import Derived.Test.YtedjeeicpppplaaDoorZ00WApart
import Derived.Test.YtedjeeicpppplaaDoorZ00WKept
import Derived.Test.YtedjeeicpppplaaDoorZ00WLast
import Derived.Test.YtedjeeicpppplaaDoorZ00WMore
import Derived.Test.YtedjeeicpppplaaDoorZ00WN
import Derived.Test.YtedjeeicpppplaaDoorZ00WWords
import Derived.Test.YtedjeeicpppplaaDoorZ00Short
namespace Go.Proofs.YtedjeeicpppplaaDoor.H
open Go.RowKit Go.Proofs.YtedjeeicpppplaaDoorW.PrintWords Go.Proofs.YtedjeeicpppplaaDoorW.PrintLast Go.Proofs.YtedjeeicpppplaaDoorW.PrintMore
attribute [local go_sem] max2_int min2_int max_two min_two max_three min_three max_four min_four
set_option maxHeartbeats 8000000
set_option maxRecDepth 100000
set_option linter.unusedVariables false
set_option linter.unusedSimpArgs false
def laws_rBig.f (l0 : List Int) : Option (Bool) := some (decide ((l0.length : Int) > 65536))
theorem laws_rBig.calls (A0 : Option Addr) (c0 : Nat) (l0 : List Int) (r : Bool) (w : World) (Aa : Kd.C (Kd.int .u8) w A0 l0.length l0) (Ab : l0.length ≤ c0) (h : laws_rBig.f l0 = some r) :
  Calls Tryd.prog 4 #[.slice A0 l0.length c0] w fun e w' => e = .returned (.bool r) ∧ Drawn0 w w' := by
 have Ac := Aside0.mk Aa; have Ad := Aside0.mk Ab; clear Aa Ab; have H : (some (decide ((l0.length : Int) > 65536))) = some r := h; clear h; obtain rfl := Option.some.inj H
 go_enter Tryd.func4, Tryd.ntmps4
 go_wp2
 go_ret
 exact ⟨Z37, Z61⟩
def IsS44 (w0 W : World) (g : Nat) (f0 : List Int) (f1 : Int) (f2 : Int) : Prop := ∃ A0 c0, W.heap[g]? = some (.cells #[.slice A0 f0.length c0, .int .i64 f1, .int .u64 f2] 44 (0, 0)) ∧ w0.heap.size ≤ g ∧ Kd.C (Kd.int .u8) w0 A0 f0.length f0
theorem IsS44.grown {w0 W : World} {g : Nat} {f0 : List Int} {f1 : Int} {f2 : Int} {W1 : World} {row : Option Nat} (h : IsS44 w0 W g f0 f1 f2) (hw : W.grownBy W1 row) (hne : some g ≠ row) : IsS44 w0 W1 g f0 f1 f2 := by
 obtain ⟨A0, c0, hb, hg, Aa⟩ := h
 exact ⟨A0, c0, blk_grown hb hw hne, hg, Aa⟩
theorem IsS44.kept {w0 W : World} {g : Nat} {f0 : List Int} {f1 : Int} {f2 : Int} {W1 : World} {S : Nat → Prop} (h : IsS44 w0 W g f0 f1 f2) (hk : Kept W W1 S) (hne : ¬ S g) : IsS44 w0 W1 g f0 f1 f2 := by
 obtain ⟨A0, c0, hb, hg, Aa⟩ := h
 exact ⟨A0, c0, blk_kept hb hk hne, hg, Aa⟩
theorem IsS44.below {w0 W : World} {g : Nat} {f0 : List Int} {f1 : Int} {f2 : Int} {W1 : World} (h : IsS44 w0 W g f0 f1 f2) (hw : Below W.heap.size W W1) : IsS44 w0 W1 g f0 f1 f2 := h.grown (grown_of_below hw none) (by simp)
theorem IsS44.alloc {w0 W : World} {g : Nat} {f0 : List Int} {f1 : Int} {f2 : Int} (h : IsS44 w0 W g f0 f1 f2) (o : Obj) : IsS44 w0 (W.alloc o) g f0 f1 f2 := h.below (below_alloc (Below.refl _ _) o)
theorem IsS44.drewN {w0 W : World} {g : Nat} {f0 : List Int} {f1 : Int} {f2 : Int} (h : IsS44 w0 W g f0 f1 f2) (m : Nat) : IsS44 w0 (W.drewN m) g f0 f1 f2 := h
theorem IsS44.drew {w0 W : World} {g : Nat} {f0 : List Int} {f1 : Int} {f2 : Int} (h : IsS44 w0 W g f0 f1 f2) : IsS44 w0 W.drew g f0 f1 f2 := h
theorem IsS44.at_ {w0 W : World} {g : Nat} {f0 : List Int} {f1 : Int} {f2 : Int} {w' : World} {m : Nat} (hq : W.drewN m = w') (h : IsS44 w0 W g f0 f1 f2) : IsS44 w0 w' g f0 f1 f2 := by subst hq; exact IsS44.drewN h m
theorem IsS44.apart {w0 W : World} {g : Nat} {f0 : List Int} {f1 : Int} {f2 : Int} {α : Type} {d : Kd α} {e : Nat} {base : Nat} {ok : Nat → Prop} {v : Value} {xs : List α} (h : IsS44 w0 W g f0 f1 f2) (ho : d.R e W base ok v xs) (ht : ∀ q, q ∈ e :: d.E → q ≠ 44) : d.R e W base (fun k => ok k ∧ k ≠ g) v xs := by
 obtain ⟨A0, c0, hb, hg, Aa⟩ := h
 exact Kd.R_types ho hb ht
theorem IsS44.own_ne {w0 W : World} {g : Nat} {f0 : List Int} {f1 : Int} {f2 : Int} {α : Type} {d : Kd α} {e : Nat} {base : Nat} {ok : Nat → Prop} {v : Value} {xs : List α} (h : IsS44 w0 W g f0 f1 f2) (ho : d.R e W base ok v xs) (ht : e ≠ 44) : some g ≠ v.ownBlock := by
 obtain ⟨A0, c0, hb, hg, Aa⟩ := h
 exact Kd.R_ne ho hb ht
theorem IsS44.lt {w0 W : World} {g : Nat} {f0 : List Int} {f1 : Int} {f2 : Int} (h : IsS44 w0 W g f0 f1 f2) : g < W.heap.size := by
 obtain ⟨A0, c0, hb, hg, Aa⟩ := h
 exact blk_lt hb
theorem IsS44.ge {w0 W : World} {g : Nat} {f0 : List Int} {f1 : Int} {f2 : Int} (h : IsS44 w0 W g f0 f1 f2) : w0.heap.size ≤ g := by
 obtain ⟨A0, c0, hb, hg, Aa⟩ := h
 exact hg
theorem IsS44.far {w0 W : World} {g : Nat} {f0 : List Int} {f1 : Int} {f2 : Int} {p : Addr} (h : IsS44 w0 W g f0 f1 f2) (hne : g ≠ p.block) (u : Value) : IsS44 w0 (W.setCell p u) g f0 f1 f2 := by
 obtain ⟨A0, c0, hb, hg, Aa⟩ := h
 exact ⟨A0, c0, blk_far hb hne u, hg, Aa⟩
theorem cellS44_0 {W : World} {g : Nat} {A0 : Option Addr} {c0 : Nat} {f0 : List Int} {f1 : Int} {f2 : Int} (h : W.heap[g]? = some (.cells #[.slice A0 f0.length c0, .int .i64 f1, .int .u64 f2] 44 (0, 0))) : W.cell? ⟨g, 0, none⟩ = some (.slice A0 f0.length c0) := (blk_cell h 0).trans rfl
theorem cellS44_1 {W : World} {g : Nat} {A0 : Option Addr} {c0 : Nat} {f0 : List Int} {f1 : Int} {f2 : Int} (h : W.heap[g]? = some (.cells #[.slice A0 f0.length c0, .int .i64 f1, .int .u64 f2] 44 (0, 0))) : W.cell? ⟨g, 1, none⟩ = some (.int .i64 f1) := (blk_cell h 1).trans rfl
theorem IsS44.set_1 {w0 W : World} {g : Nat} {f0 : List Int} {f1 : Int} {f2 : Int} (h : IsS44 w0 W g f0 f1 f2) (x : Int) : IsS44 w0 (W.setCell ⟨g, 1, none⟩ (.int .i64 x)) g f0 x f2 := by
 obtain ⟨A0, c0, hb, hg, Aa⟩ := h
 exact ⟨A0, c0, by simpa using blk_set hb 1 (.int .i64 x), hg, Aa⟩
theorem cellS44_2 {W : World} {g : Nat} {A0 : Option Addr} {c0 : Nat} {f0 : List Int} {f1 : Int} {f2 : Int} (h : W.heap[g]? = some (.cells #[.slice A0 f0.length c0, .int .i64 f1, .int .u64 f2] 44 (0, 0))) : W.cell? ⟨g, 2, none⟩ = some (.int .u64 f2) := (blk_cell h 2).trans rfl
theorem IsS44.set_2 {w0 W : World} {g : Nat} {f0 : List Int} {f1 : Int} {f2 : Int} (h : IsS44 w0 W g f0 f1 f2) (x : Int) : IsS44 w0 (W.setCell ⟨g, 2, none⟩ (.int .u64 x)) g f0 f1 x := by
 obtain ⟨A0, c0, hb, hg, Aa⟩ := h
 exact ⟨A0, c0, by simpa using blk_set hb 2 (.int .u64 x), hg, Aa⟩
def spec_l1Cur_next.f (s0_0 : List Int) (s0_1 : Int) (s0_2 : Int) : Option (Int × Int × Int) := if s0_1 < (s0_0.length : Int) then (if 0 ≤ s0_1 then (if (wrap64 (s0_1 + 1)) ≤ (s0_0.length : Int) then (some (wrap64 (rd s0_0 s0_1), wrap64 (s0_1 + 1), IntKind.u64.wrap ((IntKind.u64.wrap ((IntKind.u64.wrap (s0_2 * 6364136223846793005)) + (IntKind.u64.wrap (wrap64 (rd s0_0 s0_1))))) + 102323))) else (some (wrap64 (Go.bits .and .u64 ((IntKind.u64.wrap ((IntKind.u64.wrap ((IntKind.u64.wrap (s0_2 * 6364136223846793005)) + (IntKind.u64.wrap (wrap64 (rd s0_0 s0_1))))) + 102323)) / 1099511627776) 255), wrap64 (s0_1 + 1), IntKind.u64.wrap ((IntKind.u64.wrap ((IntKind.u64.wrap (s0_2 * 6364136223846793005)) + (IntKind.u64.wrap (wrap64 (rd s0_0 s0_1))))) + 102323)))) else (none)) else (if (wrap64 (s0_1 + 1)) ≤ (s0_0.length : Int) then (some (0, wrap64 (s0_1 + 1), IntKind.u64.wrap ((IntKind.u64.wrap ((IntKind.u64.wrap (s0_2 * 6364136223846793005)))) + 102323))) else (some (wrap64 (Go.bits .and .u64 ((IntKind.u64.wrap ((IntKind.u64.wrap ((IntKind.u64.wrap (s0_2 * 6364136223846793005)))) + 102323)) / 1099511627776) 255), wrap64 (s0_1 + 1), IntKind.u64.wrap ((IntKind.u64.wrap ((IntKind.u64.wrap (s0_2 * 6364136223846793005)))) + 102323))))
theorem spec_l1Cur_next.calls (g : Nat) (Ab : List Int) (Aa : Int) (Ad : Int) (r1 : Int) (r2 : Int) (r3 : Int) (w0 w : World) (hI : IsS44 w0 w g Ab Aa Ad) (hB : Below w0.heap.size w0 w) (h : spec_l1Cur_next.f Ab Aa Ad = some (r1, r2, r3)) :
  Calls Tryd.prog 48 #[.pointer (some ⟨g, 0, none⟩)] w fun e w' => e = .returned (.int .i64 r1) ∧ IsS44 w0 w' g Ab r2 r3 ∧ Below w0.heap.size w0 w' ∧ KeepBut w w' g none := by
 have HI0 := Aside0.mk hI; have HK := aM (KeepBut.refl w g none); have HL := Aside0.mk hB.size; clear hI; have Bc := Aside0.mk hB.size; have HB := Aside0.mk hB; clear hB; have H : (if Aa < (Ab.length : Int) then (if 0 ≤ Aa then (if (wrap64 (Aa + 1)) ≤ (Ab.length : Int) then (some (wrap64 (rd Ab Aa), wrap64 (Aa + 1), IntKind.u64.wrap ((IntKind.u64.wrap ((IntKind.u64.wrap (Ad * 6364136223846793005)) + (IntKind.u64.wrap (wrap64 (rd Ab Aa))))) + 102323))) else (some (wrap64 (Go.bits .and .u64 ((IntKind.u64.wrap ((IntKind.u64.wrap ((IntKind.u64.wrap (Ad * 6364136223846793005)) + (IntKind.u64.wrap (wrap64 (rd Ab Aa))))) + 102323)) / 1099511627776) 255), wrap64 (Aa + 1), IntKind.u64.wrap ((IntKind.u64.wrap ((IntKind.u64.wrap (Ad * 6364136223846793005)) + (IntKind.u64.wrap (wrap64 (rd Ab Aa))))) + 102323)))) else (none)) else (if (wrap64 (Aa + 1)) ≤ (Ab.length : Int) then (some (0, wrap64 (Aa + 1), IntKind.u64.wrap ((IntKind.u64.wrap ((IntKind.u64.wrap (Ad * 6364136223846793005)))) + 102323))) else (some (wrap64 (Go.bits .and .u64 ((IntKind.u64.wrap ((IntKind.u64.wrap ((IntKind.u64.wrap (Ad * 6364136223846793005)))) + 102323)) / 1099511627776) 255), wrap64 (Aa + 1), IntKind.u64.wrap ((IntKind.u64.wrap ((IntKind.u64.wrap (Ad * 6364136223846793005)))) + 102323))))) = some (r1, r2, r3) := h; clear h
 by_cases c2 : Aa < (Ab.length : Int)
 ·rw [if_pos c2] at H
  have c2b0 : decide (Aa < (Ab.length : Int)) = true := decide_eq_true c2; clear c2
  by_cases c3 : 0 ≤ Aa
  ·rw [if_pos c3] at H
   have c3b0 : decide (0 ≤ Aa) = true := decide_eq_true c3; clear c3
   by_cases c4 : (wrap64 (Aa + 1)) ≤ (Ab.length : Int)
   ·rw [if_pos c4] at H
    have c4b0 : decide ((wrap64 (Aa + 1)) ≤ (Ab.length : Int)) = true := decide_eq_true c4; clear c4
    simp only [Option.some.injEq, Prod.mk.injEq] at H
    obtain ⟨rfl, rfl, rfl⟩ := H; obtain ⟨ASz5_0, cSz5_0, HGz5, hgz5, HSz5_0⟩ := HI0.out; have Ag := cellS44_0 HGz5; have Ah := cellS44_1 HGz5; have Ai := cellS44_2 HGz5; have Aj := blk_frozen HGz5 1; have Ak := blk_frozen HGz5 2; clear HGz5 hgz5; have Ae : 0 ≤ (Aa : Int) := of_decide_eq_true Z25; have Af : Aa < (Ab.length : Int) := of_decide_eq_true Z25; obtain ⟨ad101, e101, Ac⟩ := Kd.at_int HSz5_0 Aa Ae Af; cases e101; replace Ac := pw_cell_below HB.out Ac; replace Ae := eq_true Ae; replace Af := eq_true Af
    go_enter Tryd.func48, Tryd.ntmps48
    go_wp2
    repeat (go_quiet (fail); try go_wp2)
    go_ret
    exact ⟨Z39, Z3, Z10, Z6⟩
   ·rw [if_neg c4] at H
    have c4b0 : decide ((wrap64 (Aa + 1)) ≤ (Ab.length : Int)) = false := decide_eq_false c4; clear c4
    simp only [Option.some.injEq, Prod.mk.injEq] at H
    obtain ⟨rfl, rfl, rfl⟩ := H; obtain ⟨ASz6_0, cSz6_0, HGz6, hgz6, HSz6_0⟩ := HI0.out; have Al := cellS44_0 HGz6; have Am := cellS44_1 HGz6; have An := cellS44_2 HGz6; have Ao := blk_frozen HGz6 1; have Ap := blk_frozen HGz6 2; clear HGz6 hgz6; have Ae : 0 ≤ (Aa : Int) := of_decide_eq_true Z25; have Af : Aa < (Ab.length : Int) := of_decide_eq_true Z25; obtain ⟨ad101, e101, Ac⟩ := Kd.at_int HSz6_0 Aa Ae Af; cases e101; replace Ac := pw_cell_below HB.out Ac; replace Ae := eq_true Ae; replace Af := eq_true Af
    go_enter Tryd.func48, Tryd.ntmps48
    go_wp2
    repeat (go_quiet (fail); try go_wp2)
    go_ret
    exact ⟨Z39, Z3, Z10, Z6⟩
  ·rw [if_neg c3] at H
   exact absurd H (by simp)
 ·rw [if_neg c2] at H
  have c2b0 : decide (Aa < (Ab.length : Int)) = false := decide_eq_false c2; clear c2
  by_cases c7 : (wrap64 (Aa + 1)) ≤ (Ab.length : Int)
  ·rw [if_pos c7] at H
   have c7b0 : decide ((wrap64 (Aa + 1)) ≤ (Ab.length : Int)) = true := decide_eq_true c7; clear c7
   simp only [Option.some.injEq, Prod.mk.injEq] at H
   obtain ⟨rfl, rfl, rfl⟩ := H; obtain ⟨ASz8_0, cSz8_0, HGz8, hgz8, HSz8_0⟩ := HI0.out; have Aq := cellS44_0 HGz8; have Ar := cellS44_1 HGz8; have Au := cellS44_2 HGz8; have Av := blk_frozen HGz8 1; have Aw := blk_frozen HGz8 2; clear HGz8 hgz8
   go_enter Tryd.func48, Tryd.ntmps48
   go_wp2
   repeat (go_quiet (fail); try go_wp2)
   go_ret
   exact ⟨Z39, Z3, Z10, Z6⟩
  ·rw [if_neg c7] at H
   have c7b0 : decide ((wrap64 (Aa + 1)) ≤ (Ab.length : Int)) = false := decide_eq_false c7; clear c7
   simp only [Option.some.injEq, Prod.mk.injEq] at H
   obtain ⟨rfl, rfl, rfl⟩ := H; obtain ⟨ASz9_0, cSz9_0, HGz9, hgz9, HSz9_0⟩ := HI0.out; have Ax := cellS44_0 HGz9; have Ay := cellS44_1 HGz9; have Az := cellS44_2 HGz9; have Ba := blk_frozen HGz9 1; have Bb := blk_frozen HGz9 2; clear HGz9 hgz9
   go_enter Tryd.func48, Tryd.ntmps48
   go_wp2
   repeat (go_quiet (fail); try go_wp2)
   go_ret
   exact ⟨Z39, Z3, Z10, Z6⟩
def spec_l1Cur_pick.f (s0_0 : List Int) (s0_1 : Int) (s0_2 : Int) (a1 : Int) : Option (Int × Int × Int) := if a1 ≤ 1 then (some (0, s0_1, s0_2)) else ((spec_l1Cur_next.f s0_0 s0_1 s0_2).bind fun bt102 => (if a1 > 200 then ((spec_l1Cur_next.f s0_0 bt102.2.1 bt102.2.2).bind fun bt105 => (if a1 = 0 then (none) else (some (Int.tmod (wrap64 ((wrap64 (bt102.1 * 256)) + bt105.1)) a1, bt105.2.1, bt105.2.2)))) else (if a1 = 0 then (none) else (some (Int.tmod bt102.1 a1, bt102.2.1, bt102.2.2)))))
theorem spec_l1Cur_pick.calls (g : Nat) (Ac : List Int) (Ad : Int) (Ae : Int) (a1 : Int) (r1 : Int) (r2 : Int) (r3 : Int) (w0 w : World) (hI : IsS44 w0 w g Ac Ad Ae) (hB : Below w0.heap.size w0 w) (h : spec_l1Cur_pick.f Ac Ad Ae a1 = some (r1, r2, r3)) :
  Calls Tryd.prog 21 #[.pointer (some ⟨g, 0, none⟩), .int .i64 a1] w fun e w' => e = .returned (.int .i64 r1) ∧ IsS44 w0 w' g Ac r2 r3 ∧ Below w0.heap.size w0 w' ∧ KeepBut w w' g none := by
 have HI0 := Aside0.mk hI; have HK := aM (KeepBut.refl w g none); have HL := Aside0.mk hB.size; clear hI; have Ao := Aside0.mk hB.size; have HB := Aside0.mk hB; clear hB; have H : (if a1 ≤ 1 then (some (0, Ad, Ae)) else ((spec_l1Cur_next.f Ac Ad Ae).bind fun Ab => (if a1 > 200 then ((spec_l1Cur_next.f Ac Ab.2.1 Ab.2.2).bind fun Aa => (if a1 = 0 then (none) else (some (Int.tmod (wrap64 ((wrap64 (Ab.1 * 256)) + Aa.1)) a1, Aa.2.1, Aa.2.2)))) else (if a1 = 0 then (none) else (some (Int.tmod Ab.1 a1, Ab.2.1, Ab.2.2)))))) = some (r1, r2, r3) := h; clear h
 by_cases c3 : a1 ≤ 1
 ·rw [if_pos c3] at H
  have c3b0 : decide (a1 ≤ 1) = true := decide_eq_true c3; clear c3
  simp only [Option.some.injEq, Prod.mk.injEq] at H
  obtain ⟨rfl, rfl, rfl⟩ := H
  go_enter Tryd.func21, Tryd.ntmps21
  go_wp2
  go_ret
  exact ⟨Z39, Z3, Z10, Z6⟩
 ·rw [if_neg c3] at H
  have c3b0 : decide (a1 ≤ 1) = false := decide_eq_false c3; clear c3; replace H := Option.bind_eq_some_iff.mp H; obtain ⟨⟨Af, Ag, Ah⟩, Am, H⟩ := H; replace H : (if a1 > 200 then ((spec_l1Cur_next.f Ac Ag Ah).bind fun Aa => (if a1 = 0 then (none) else (some (Int.tmod (wrap64 ((wrap64 (Af * 256)) + Aa.1)) a1, Aa.2.1, Aa.2.2)))) else (if a1 = 0 then (none) else (some (Int.tmod Af a1, Ag, Ah)))) = some (r1, r2, r3) := H; have A4 := Aside0.mk Am; clear Am
  by_cases c5 : a1 > 200
  ·rw [if_pos c5] at H
   have c5b0 : decide (200 < a1) = true := decide_eq_true c5; clear c5; replace H := Option.bind_eq_some_iff.mp H; obtain ⟨⟨Ai, Aj, Ak⟩, An, H⟩ := H; replace H : (if a1 = 0 then (none) else (some (Int.tmod (wrap64 ((wrap64 (Af * 256)) + Ai)) a1, Aj, Ak))) = some (r1, r2, r3) := H; have A6 := Aside0.mk An; clear An
   by_cases c7 : a1 = 0
   ·rw [if_pos c7] at H
    exact absurd H (by simp)
   ·rw [if_neg c7] at H
    have c7b0 : (a1 == 0) = false := beq_eq_false_iff_ne.mpr c7; have c7b1 : (a1 != 0) = true := bne_iff_ne.mpr c7
    simp only [Option.some.injEq, Prod.mk.injEq] at H
    obtain ⟨rfl, rfl, rfl⟩ := H
    go_enter Tryd.func21, Tryd.ntmps21
    go_wp2_with (first | ((with_reducible refine gate_callee (f := 48) rfl ?_); refine glE (some 9) Tryd.func48 #[.pointer (some ⟨g, 0, none⟩)] ?_; (with_reducible refine (spec_l1Cur_next.calls g Ac Ad Ae Af Ag Ah w0 _ ?side1 ?side2 A4.out).mono ?_); (case side1 => exact Z3); (case side2 => exact Z10); rintro e w8 ⟨rfl, hi, hb, hk⟩; refine ⟨_, rfl, ?_⟩; replace HK := aM (KeepBut.trans Z6 hk (.inl rfl)); replace HB := aM (hb); replace HI0 := aM (hi); (try clear hb); (try clear hk); (try clear hi)) | ((with_reducible refine gate_callee (f := 48) rfl ?_); refine glE (some 15) Tryd.func48 #[.pointer (some ⟨g, 0, none⟩)] ?_; (with_reducible refine (spec_l1Cur_next.calls g Ac Ag Ah Ai Aj Ak w0 _ ?side1 ?side2 A6.out).mono ?_); (case side1 => exact Z3); (case side2 => exact Z10); rintro e w9 ⟨rfl, hi, hb, hk⟩; refine ⟨_, rfl, ?_⟩; replace HK := aM (KeepBut.trans Z6 hk (.inl rfl)); replace HB := aM (hb); replace HI0 := aM (hi); (try clear hb); (try clear hk); (try clear hi)))
    go_ret
    exact ⟨Z39, Z3, Z10, Z6⟩
  ·rw [if_neg c5] at H
   have c5b0 : decide (200 < a1) = false := decide_eq_false c5; clear c5
   by_cases Al : a1 = 0
   ·rw [if_pos Al] at H
    exact absurd H (by simp)
   ·rw [if_neg Al] at H
    have c10b0 : (a1 == 0) = false := beq_eq_false_iff_ne.mpr Al; have c10b1 : (a1 != 0) = true := bne_iff_ne.mpr Al
    simp only [Option.some.injEq, Prod.mk.injEq] at H
    obtain ⟨rfl, rfl, rfl⟩ := H
    go_enter Tryd.func21, Tryd.ntmps21
    go_wp2_with (first | ((with_reducible refine gate_callee (f := 48) rfl ?_); refine glE (some 9) Tryd.func48 #[.pointer (some ⟨g, 0, none⟩)] ?_; (with_reducible refine (spec_l1Cur_next.calls g Ac Ad Ae Af Ag Ah w0 _ ?side1 ?side2 A4.out).mono ?_); (case side1 => exact Z3); (case side2 => exact Z10); rintro e Ap ⟨rfl, hi, hb, hk⟩; refine ⟨_, rfl, ?_⟩; replace HK := aM (KeepBut.trans Z6 hk (.inl rfl)); replace HB := aM (hb); replace HI0 := aM (hi); (try clear hb); (try clear hk); (try clear hi)))
    go_ret
    exact ⟨Z39, Z3, Z10, Z6⟩
def spec_l1In.f (a0 : Int) (a1 : Int) (a2 : Int) : Option (Bool) := if a0 ≥ a1 then (some (decide (a0 ≤ a2))) else (some false)
theorem spec_l1In.calls (a0 : Int) (a1 : Int) (a2 : Int) (r : Bool) (w : World) (h : spec_l1In.f a0 a1 a2 = some r) :
  Calls Tryd.prog 38 #[.int .i64 a0, .int .i64 a1, .int .i64 a2] w fun e w' => e = .returned (.bool r) ∧ Drawn0 w w' := by
 have H : (if a0 ≥ a1 then (some (decide (a0 ≤ a2))) else (some false)) = some r := h; clear h
 by_cases c4 : a0 ≥ a1
 ·rw [if_pos c4] at H
  have c4b0 : decide (a1 ≤ a0) = true := decide_eq_true c4; clear c4; obtain rfl := Option.some.inj H
  go_enter Tryd.func38, Tryd.ntmps38
  go_wp2
  go_ret
  exact ⟨Z37, Z61⟩
 ·rw [if_neg c4] at H
  have c4b0 : decide (a1 ≤ a0) = false := decide_eq_false c4; clear c4; obtain rfl := Option.some.inj H
  go_enter Tryd.func38, Tryd.ntmps38
  go_wp2
  go_ret
  exact ⟨Z37, Z61⟩
theorem spec_l1In.eq (a b c : Int) : spec_l1In.f a b c = some (rng a b c) := by
 unfold spec_l1In.f rng; by_cases h : b ≤ a <;> simp [h]
def spec_l3Step.f (a0 : Int) : Option (Bool) := (spec_l1In.f a0 0 23).bind fun t108 => (some t108)
theorem spec_l3Step.calls (a0 : Int) (r : Bool) (w : World) (h : spec_l3Step.f a0 = some r) :
  Calls Tryd.prog 30 #[.int .i64 a0] w fun e w' => e = .returned (.bool r) ∧ Drawn0 w w' := by
 have H : ((spec_l1In.f a0 0 23).bind fun Aa => (some Aa)) = some r := h; clear h; replace H := Option.bind_eq_some_iff.mp H; obtain ⟨Aa, Ab, H⟩ := H; replace H : (some Aa) = some r := H; have A2 := Aside0.mk Ab; clear Ab; obtain rfl := Option.some.inj H
 go_enter Tryd.func30, Tryd.ntmps30
 go_wp2_with (first | ((with_reducible refine gate_callee (f := 38) rfl ?_); refine glE (some 4) Tryd.func38 #[.int .i64 a0, .int .i64 0, .int .i64 23] ?_; (with_reducible refine (spec_l1In.calls a0 0 23 Aa _ A2.out).mono ?_); rintro e w' ⟨rfl, ⟨nd, rfl⟩⟩; refine ⟨_, rfl, ?_⟩))
 go_ret
 exact ⟨Z37, Z61⟩
def spec_l3Depth.f (a0 : Int) : Option (Bool) := (spec_l1In.f a0 0 9).bind fun t109 => (some t109)
theorem spec_l3Depth.calls (a0 : Int) (r : Bool) (w : World) (h : spec_l3Depth.f a0 = some r) :
  Calls Tryd.prog 31 #[.int .i64 a0] w fun e w' => e = .returned (.bool r) ∧ Drawn0 w w' := by
 have H : ((spec_l1In.f a0 0 9).bind fun Aa => (some Aa)) = some r := h; clear h; replace H := Option.bind_eq_some_iff.mp H; obtain ⟨Aa, Ab, H⟩ := H; replace H : (some Aa) = some r := H; have A2 := Aside0.mk Ab; clear Ab; obtain rfl := Option.some.inj H
 go_enter Tryd.func31, Tryd.ntmps31
 go_wp2_with (first | ((with_reducible refine gate_callee (f := 38) rfl ?_); refine glE (some 4) Tryd.func38 #[.int .i64 a0, .int .i64 0, .int .i64 9] ?_; (with_reducible refine (spec_l1In.calls a0 0 9 Aa _ A2.out).mono ?_); rintro e w' ⟨rfl, ⟨nd, rfl⟩⟩; refine ⟨_, rfl, ?_⟩))
 go_ret
 exact ⟨Z37, Z61⟩
def spec_l2Word.l0 : Nat → ByteArray → Int → Option (Bool)
 | 0, _, _ => none
 | k + 1, x0, x3 => if x3 < (x0.size : Int) then (if 0 ≤ x3 then (if (bt x0 x3) < 97 then (some false) else (if (bt x0 x3) > 122 then (some false) else (spec_l2Word.l0 k x0 (wrap64 (x3 + 1))))) else (none)) else ((spec_l1In.f (x0.size : Int) 1 10).bind fun t110 => (some t110))
def spec_l2Word.f (k : Nat) (a0 : ByteArray) : Option (Bool) := spec_l2Word.l0 k a0 0
theorem spec_l2Word.calls (k : Nat) (a0 : ByteArray) (r : Bool) (w : World) (h : spec_l2Word.f k a0 = some r) :
  Calls Tryd.prog 61 #[.string a0] w fun e w' => e = .returned (.bool r) ∧ Drawn0 w w' := by
 have H : (spec_l2Word.l0 k a0 0) = some r := h; clear h; have H' := Aside0.mk H; clear H
 go_enter Tryd.func61, Tryd.ntmps61
 go_wp2
 go_loopg [3] k (fun kq v3 w' => ∃ (Aa : Int), v3 = .int .i64 Aa ∧ Aside0 (spec_l2Word.l0 kq a0 Aa = some r) ∧ Aside0 (kq ≤ k) ∧ Drawn0 w w')
 case atStart => exact ⟨(0), Z37, H', ⟨Nat.le_refl _⟩, Z61⟩
 case round =>
  clear H'; obtain ⟨Aa, rfl, HA, HK1, ⟨m1, rfl⟩⟩ := hrel; cases gk with
  | zero => exact absurd HA.out (by simp [spec_l2Word.l0])
  | succ k1 =>
   have H := HA.out; clear HA
   simp only [spec_l2Word.l0] at H
   by_cases c2 : Aa < (a0.size : Int)
   ·rw [if_pos c2] at H
    have c2b0 : decide (Aa < (a0.size : Int)) = true := decide_eq_true c2; clear c2
    by_cases c3 : 0 ≤ Aa
    ·rw [if_pos c3] at H
     have c3b0 : decide (0 ≤ Aa) = true := decide_eq_true c3; clear c3
     by_cases c5 : (bt a0 Aa) < 97
     ·rw [if_pos c5] at H
      have c5b0 : decide ((bt a0 Aa) < 97) = true := decide_eq_true c5; clear c5; obtain rfl := Option.some.inj H; have p4 : 0 ≤ (Aa : Int) := of_decide_eq_true Z25; have q4 : Aa < (a0.size : Int) := of_decide_eq_true Z25; have Ac := bt_at a0 Aa; replace p4 := eq_true p4; replace q4 := eq_true q4
      go_wp2
      go_ret
      exact ⟨Z37, Z61⟩
     ·rw [if_neg c5] at H
      have c5b0 : decide ((bt a0 Aa) < 97) = false := decide_eq_false c5; clear c5
      by_cases c7 : (bt a0 Aa) > 122
      ·rw [if_pos c7] at H
       have c7b0 : decide (122 < (bt a0 Aa)) = true := decide_eq_true c7; clear c7; obtain rfl := Option.some.inj H; have p4 : 0 ≤ (Aa : Int) := of_decide_eq_true Z25; have q4 : Aa < (a0.size : Int) := of_decide_eq_true Z25; have Ac := bt_at a0 Aa; replace p4 := eq_true p4; replace q4 := eq_true q4; have p6 : 0 ≤ (Aa : Int) := of_decide_eq_true Z25; have q6 : Aa < (a0.size : Int) := of_decide_eq_true Z25; have Ae := bt_at a0 Aa; replace p6 := eq_true p6; replace q6 := eq_true q6
       go_wp2
       go_ret
       exact ⟨Z37, Z61⟩
      ·rw [if_neg c7] at H
       have c7b0 : decide (122 < (bt a0 Aa)) = false := decide_eq_false c7; clear c7; have H' := Aside0.mk H; clear H; have p4 : 0 ≤ (Aa : Int) := of_decide_eq_true Z25; have q4 : Aa < (a0.size : Int) := of_decide_eq_true Z25; have Ac := bt_at a0 Aa; replace p4 := eq_true p4; replace q4 := eq_true q4; have p6 : 0 ≤ (Aa : Int) := of_decide_eq_true Z25; have q6 : Aa < (a0.size : Int) := of_decide_eq_true Z25; have Ae := bt_at a0 Aa; replace p6 := eq_true p6; replace q6 := eq_true q6
       go_wp2
       go_roundg k1
       case measure => have := HK1.out; omega
       case rel => exact ⟨(wrap64 (Aa + 1)), Z37, H', ⟨Z143⟩, Z61⟩
    ·rw [if_neg c3] at H
     exact absurd H (by simp)
   ·rw [if_neg c2] at H
    have c2b0 : decide (Aa < (a0.size : Int)) = false := decide_eq_false c2; clear c2; replace H := Option.bind_eq_some_iff.mp H; obtain ⟨Ab, Ad, H⟩ := H; replace H : (some Ab) = some r := H; have A8 := Aside0.mk Ad; clear Ad; obtain rfl := Option.some.inj H
    go_wp2_with (first | ((with_reducible refine gate_callee (f := 38) rfl ?_); refine glE (some 22) Tryd.func38 #[.int .i64 (a0.size : Int), .int .i64 1, .int .i64 10] ?_; (with_reducible refine (spec_l1In.calls (a0.size : Int) 1 10 Ab _ A8.out).mono ?_); rintro e w' ⟨rfl, ⟨nd, rfl⟩⟩; refine ⟨_, rfl, ?_⟩))
    go_ret
    exact ⟨Z37, Z61⟩
def spec_l3One.f (k : Nat) (a0_0 : Int) (a0_1 : ByteArray) (a0_2 : Int) (a0_3 : Int) (a0_4 : Int) : Option (Bool) := (spec_l1In.f a0_0 1 99).bind fun t112 => (if t112 = true then ((spec_l2Word.f k a0_1).bind fun t113 => (if t113 = true then ((spec_l3Step.f a0_2).bind fun t114 => (if t114 = true then ((spec_l3Depth.f a0_3).bind fun t115 => (if t115 = true then ((spec_l1In.f a0_4 1 8).bind fun t116 => (some t116)) else (some false))) else (some false))) else (some false))) else (some false))
theorem spec_l3One.calls (k : Nat) (Ac : Int) (Ah : ByteArray) (Ag : Int) (Ae : Int) (Ad : Int) (r : Bool) (w : World) (h : spec_l3One.f k Ac Ah Ag Ae Ad = some r) :
  Calls Tryd.prog 46 #[.agg #[.int .i64 Ac, .string Ah, .int .i64 Ag, .int .i64 Ae, .int .i64 Ad]] w fun e w' => e = .returned (.bool r) ∧ Below w.heap.size w w' := by
 have hu30 := Tryd.underlying30; have HB := aM (Below.refl w.heap.size w); have H : ((spec_l1In.f Ac 1 99).bind fun An => (if An = true then ((spec_l2Word.f k Ah).bind fun Ak => (if Ak = true then ((spec_l3Step.f Ag).bind fun Aj => (if Aj = true then ((spec_l3Depth.f Ae).bind fun Af => (if Af = true then ((spec_l1In.f Ad 1 8).bind fun Ab => (some Ab)) else (some false))) else (some false))) else (some false))) else (some false))) = some r := h; clear h; replace H := Option.bind_eq_some_iff.mp H; obtain ⟨An, Cl, H⟩ := H; replace H : (if An = true then ((spec_l2Word.f k Ah).bind fun Ak => (if Ak = true then ((spec_l3Step.f Ag).bind fun Aj => (if Aj = true then ((spec_l3Depth.f Ae).bind fun Af => (if Af = true then ((spec_l1In.f Ad 1 8).bind fun Ab => (some Ab)) else (some false))) else (some false))) else (some false))) else (some false)) = some r := H; have A2 := Aside0.mk Cl; clear Cl
 by_cases c3 : An = true
 ·subst c3
  have H1 : ((spec_l2Word.f k Ah).bind fun Ak => (if Ak = true then ((spec_l3Step.f Ag).bind fun Aj => (if Aj = true then ((spec_l3Depth.f Ae).bind fun Af => (if Af = true then ((spec_l1In.f Ad 1 8).bind fun Ab => (some Ab)) else (some false))) else (some false))) else (some false))) = some r := by rw [if_pos rfl] at H; exact H
  clear H; have H := H1; clear H1; replace H := Option.bind_eq_some_iff.mp H; obtain ⟨Ak, Cm, H⟩ := H; replace H : (if Ak = true then ((spec_l3Step.f Ag).bind fun Aj => (if Aj = true then ((spec_l3Depth.f Ae).bind fun Af => (if Af = true then ((spec_l1In.f Ad 1 8).bind fun Ab => (some Ab)) else (some false))) else (some false))) else (some false)) = some r := H; have A4 := Aside0.mk Cm; clear Cm
  by_cases c5 : Ak = true
  ·subst c5
   have H1 : ((spec_l3Step.f Ag).bind fun Aj => (if Aj = true then ((spec_l3Depth.f Ae).bind fun Af => (if Af = true then ((spec_l1In.f Ad 1 8).bind fun Ab => (some Ab)) else (some false))) else (some false))) = some r := by rw [if_pos rfl] at H; exact H
   clear H; have H := H1; clear H1; replace H := Option.bind_eq_some_iff.mp H; obtain ⟨Aj, Cn, H⟩ := H; replace H : (if Aj = true then ((spec_l3Depth.f Ae).bind fun Af => (if Af = true then ((spec_l1In.f Ad 1 8).bind fun Ab => (some Ab)) else (some false))) else (some false)) = some r := H; have A6 := Aside0.mk Cn; clear Cn
   by_cases c7 : Aj = true
   ·subst c7
    have H1 : ((spec_l3Depth.f Ae).bind fun Af => (if Af = true then ((spec_l1In.f Ad 1 8).bind fun Ab => (some Ab)) else (some false))) = some r := by rw [if_pos rfl] at H; exact H
    clear H; have H := H1; clear H1; replace H := Option.bind_eq_some_iff.mp H; obtain ⟨Af, Co, H⟩ := H; replace H : (if Af = true then ((spec_l1In.f Ad 1 8).bind fun Ab => (some Ab)) else (some false)) = some r := H; have A8 := Aside0.mk Co; clear Co
    by_cases c9 : Af = true
    ·subst c9
     have H1 : ((spec_l1In.f Ad 1 8).bind fun Ab => (some Ab)) = some r := by rw [if_pos rfl] at H; exact H
     clear H; have H := H1; clear H1; replace H := Option.bind_eq_some_iff.mp H; obtain ⟨Ab, Ao, H⟩ := H; replace H : (some Ab) = some r := H; have Cp := Aside0.mk Ao; clear Ao; obtain rfl := Option.some.inj H
     go_enter Tryd.func46, Tryd.ntmps46
     go_wp2_with (first | ((with_reducible refine gate_dst (N := 1) rfl ?_); refine bxE 1 #[.int .i64 Ac, .string Ah, .int .i64 Ag, .int .i64 Ae, .int .i64 Ad] 30 ?_; intro Al hg Cq hbox hb; have Aa := aM (hbox); have Am := gwS hg Z1; have Ai := gwS hg Z1; replace HB := hbS Z1 hb; clear hb hbox hg; obtain ⟨Ap, Aq, Ar, Au, Av⟩ := bz5 Aa; obtain ⟨Aw, Ax, Ay, Az, Ba⟩ := fz5 Aa) | ((with_reducible refine gate_callee (f := 38) rfl ?_); refine glE (some 5) Tryd.func38 #[.int .i64 Ac, .int .i64 1, .int .i64 99] ?_; (with_reducible refine (spec_l1In.calls Ac 1 99 true _ A2.out).mono ?_); rintro e w' ⟨rfl, ⟨nd, rfl⟩⟩; refine ⟨_, rfl, ?_⟩) | (go_at_call 61; (with_reducible refine (spec_l2Word.calls k Ah true _ A4.out).mono ?_); rintro e w' ⟨rfl, ⟨nd, rfl⟩⟩) | (go_at_call 30; (with_reducible refine (spec_l3Step.calls Ag true _ A6.out).mono ?_); rintro e w' ⟨rfl, ⟨nd, rfl⟩⟩) | (go_at_call 31; (with_reducible refine (spec_l3Depth.calls Ae true _ A8.out).mono ?_); rintro e w' ⟨rfl, ⟨nd, rfl⟩⟩) | (go_at_call 38; (with_reducible refine (spec_l1In.calls Ad 1 8 Ab _ Cp.out).mono ?_); rintro e w' ⟨rfl, ⟨nd, rfl⟩⟩))
     go_ret
     exact ⟨Z39, Z79⟩
    ·replace c9 := Bool.eq_false_iff.mpr c9
     subst c9
     have H1 : (some false) = some r := by rw [if_neg (show ¬ (false = true) by decide)] at H; exact H
     clear H; have H := H1; clear H1; obtain rfl := Option.some.inj H
     go_enter Tryd.func46, Tryd.ntmps46
     go_wp2_with (first | ((with_reducible refine gate_dst (N := 1) rfl ?_); refine bxE 1 #[.int .i64 Ac, .string Ah, .int .i64 Ag, .int .i64 Ae, .int .i64 Ad] 30 ?_; intro Al hg Cr hbox hb; have Aa := aM (hbox); have Am := gwS hg Z1; have Ai := gwS hg Z1; replace HB := hbS Z1 hb; clear hb hbox hg; obtain ⟨Bb, Bc, Bd, Bf, Bg⟩ := bz5 Aa; obtain ⟨Bh, Bi, Bj, Bk, Bl⟩ := fz5 Aa) | ((with_reducible refine gate_callee (f := 38) rfl ?_); refine glE (some 5) Tryd.func38 #[.int .i64 Ac, .int .i64 1, .int .i64 99] ?_; (with_reducible refine (spec_l1In.calls Ac 1 99 true _ A2.out).mono ?_); rintro e w' ⟨rfl, ⟨nd, rfl⟩⟩; refine ⟨_, rfl, ?_⟩) | (go_at_call 61; (with_reducible refine (spec_l2Word.calls k Ah true _ A4.out).mono ?_); rintro e w' ⟨rfl, ⟨nd, rfl⟩⟩) | (go_at_call 30; (with_reducible refine (spec_l3Step.calls Ag true _ A6.out).mono ?_); rintro e w' ⟨rfl, ⟨nd, rfl⟩⟩) | (go_at_call 31; (with_reducible refine (spec_l3Depth.calls Ae false _ A8.out).mono ?_); rintro e w' ⟨rfl, ⟨nd, rfl⟩⟩))
     go_ret
     exact ⟨Z39, Z79⟩
   ·replace c7 := Bool.eq_false_iff.mpr c7
    subst c7
    have H1 : (some false) = some r := by rw [if_neg (show ¬ (false = true) by decide)] at H; exact H
    clear H; have H := H1; clear H1; obtain rfl := Option.some.inj H
    go_enter Tryd.func46, Tryd.ntmps46
    go_wp2_with (first | ((with_reducible refine gate_dst (N := 1) rfl ?_); refine bxE 1 #[.int .i64 Ac, .string Ah, .int .i64 Ag, .int .i64 Ae, .int .i64 Ad] 30 ?_; intro Al hg Cs hbox hb; have Aa := aM (hbox); have Am := gwS hg Z1; have Ai := gwS hg Z1; replace HB := hbS Z1 hb; clear hb hbox hg; obtain ⟨Bm, Bn, Bo, Bp, Bq⟩ := bz5 Aa; obtain ⟨Br, Bs, Bt, Bu, Bv⟩ := fz5 Aa) | ((with_reducible refine gate_callee (f := 38) rfl ?_); refine glE (some 5) Tryd.func38 #[.int .i64 Ac, .int .i64 1, .int .i64 99] ?_; (with_reducible refine (spec_l1In.calls Ac 1 99 true _ A2.out).mono ?_); rintro e w' ⟨rfl, ⟨nd, rfl⟩⟩; refine ⟨_, rfl, ?_⟩) | (go_at_call 61; (with_reducible refine (spec_l2Word.calls k Ah true _ A4.out).mono ?_); rintro e w' ⟨rfl, ⟨nd, rfl⟩⟩) | (go_at_call 30; (with_reducible refine (spec_l3Step.calls Ag false _ A6.out).mono ?_); rintro e w' ⟨rfl, ⟨nd, rfl⟩⟩))
    go_ret
    exact ⟨Z39, Z79⟩
  ·replace c5 := Bool.eq_false_iff.mpr c5
   subst c5
   have H1 : (some false) = some r := by rw [if_neg (show ¬ (false = true) by decide)] at H; exact H
   clear H; have H := H1; clear H1; obtain rfl := Option.some.inj H
   go_enter Tryd.func46, Tryd.ntmps46
   go_wp2_with (first | ((with_reducible refine gate_dst (N := 1) rfl ?_); refine bxE 1 #[.int .i64 Ac, .string Ah, .int .i64 Ag, .int .i64 Ae, .int .i64 Ad] 30 ?_; intro Al hg Ct hbox hb; have Aa := aM (hbox); have Am := gwS hg Z1; have Ai := gwS hg Z1; replace HB := hbS Z1 hb; clear hb hbox hg; obtain ⟨Bw, Bx, Bz, B0, B2⟩ := bz5 Aa; obtain ⟨B3, B5, B6, B8, Ca⟩ := fz5 Aa) | ((with_reducible refine gate_callee (f := 38) rfl ?_); refine glE (some 5) Tryd.func38 #[.int .i64 Ac, .int .i64 1, .int .i64 99] ?_; (with_reducible refine (spec_l1In.calls Ac 1 99 true _ A2.out).mono ?_); rintro e w' ⟨rfl, ⟨nd, rfl⟩⟩; refine ⟨_, rfl, ?_⟩) | (go_at_call 61; (with_reducible refine (spec_l2Word.calls k Ah false _ A4.out).mono ?_); rintro e w' ⟨rfl, ⟨nd, rfl⟩⟩))
   go_ret
   exact ⟨Z39, Z79⟩
 ·replace c3 := Bool.eq_false_iff.mpr c3
  subst c3
  have H1 : (some false) = some r := by rw [if_neg (show ¬ (false = true) by decide)] at H; exact H
  clear H; have H := H1; clear H1; obtain rfl := Option.some.inj H
  go_enter Tryd.func46, Tryd.ntmps46
  go_wp2_with (first | ((with_reducible refine gate_dst (N := 1) rfl ?_); refine bxE 1 #[.int .i64 Ac, .string Ah, .int .i64 Ag, .int .i64 Ae, .int .i64 Ad] 30 ?_; intro Al hg Cu hbox hb; have Aa := aM (hbox); have Am := gwS hg Z1; have Ai := gwS hg Z1; replace HB := hbS Z1 hb; clear hb hbox hg; obtain ⟨Cb, Cc, Cd, Ce, Cf⟩ := bz5 Aa; obtain ⟨Cg, Ch, Ci, Cj, Ck⟩ := fz5 Aa) | ((with_reducible refine gate_callee (f := 38) rfl ?_); refine glE (some 5) Tryd.func38 #[.int .i64 Ac, .int .i64 1, .int .i64 99] ?_; (with_reducible refine (spec_l1In.calls Ac 1 99 false _ A2.out).mono ?_); rintro e w' ⟨rfl, ⟨nd, rfl⟩⟩; refine ⟨_, rfl, ?_⟩))
  go_ret
  exact ⟨Z39, Z79⟩
end Go.Proofs.YtedjeeicpppplaaDoor.H
