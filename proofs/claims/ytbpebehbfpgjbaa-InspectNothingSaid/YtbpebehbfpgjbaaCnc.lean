/- Texts of the proof, joined: what they prove stands at each theorem. -/
import Derived.Test.YtbpebehbfpgjbaaCla
import Derived.Test.YtbpebehbfpgjbaaClb
import Derived.Test.YtbpebehbfpgjbaaClc
import Derived.Test.YtbpebehbfpgjbaaCld
import Derived.Test.YtbpebehbfpgjbaaCle
import Derived.Test.YtbpebehbfpgjbaaClf
import Derived.Test.YtbpebehbfpgjbaaClg
import Derived.Test.YtbpebehbfpgjbaaCnb
section
namespace Go.Proofs.Ytbpebehbfpgjbaa.P
open Go.RowKit Go.Proofs.YtbpebehbfpgjbaaW.PrintWords Go.Proofs.YtbpebehbfpgjbaaW.PrintLast Go.Proofs.YtbpebehbfpgjbaaW.PrintMore
attribute [local go_sem] max2_int min2_int max_two min_two max_three min_three max_four min_four
set_option linter.unusedVariables false
set_option linter.unusedSimpArgs false
def culletlaw07_picked.f (a0 : Int) (a1 : Int) (a2 : Int) : Option (Int) := if (wrap64 ((wrap64 (a2 - a1)) + 1)) = 0 then (none) else (some (wrap64 (a1 + (Int.tmod (wrap64 ((Int.tmod a0 (wrap64 ((wrap64 (a2 - a1)) + 1))) + (wrap64 ((wrap64 (a2 - a1)) + 1)))) (wrap64 ((wrap64 (a2 - a1)) + 1))))))
set_option maxHeartbeats 8000000 in
set_option maxRecDepth 100000 in
theorem culletlaw07_picked.calls (a0 : Int) (a1 : Int) (a2 : Int) (r : Int) (w : World) (h : culletlaw07_picked.f a0 a1 a2 = some r) :
  Calls Try.prog 20 #[.int .i64 a0, .int .i64 a1, .int .i64 a2] w fun e w' => e = .returned (.int .i64 r) ∧ Drawn0 w w' := by
 have H : (if (wrap64 ((wrap64 (a2 - a1)) + 1)) = 0 then (none) else (some (wrap64 (a1 + (Int.tmod (wrap64 ((Int.tmod a0 (wrap64 ((wrap64 (a2 - a1)) + 1))) + (wrap64 ((wrap64 (a2 - a1)) + 1)))) (wrap64 ((wrap64 (a2 - a1)) + 1))))))) = some r := h
 clear h
 by_cases c4 : (wrap64 ((wrap64 (a2 - a1)) + 1)) = 0
 ·rw [if_pos c4] at H
  exact absurd H zr38
 ·rw [if_neg c4] at H
  have c4b0 : ((wrap64 ((wrap64 (a2 - a1)) + 1)) == 0) = false := beq_eq_false_iff_ne.mpr c4
  have c4b1 : ((wrap64 ((wrap64 (a2 - a1)) + 1)) != 0) = true := bne_iff_ne.mpr c4
  obtain rfl := Option.some.inj H
  go_enter Try.func20, Try.ntmps20
  go_wp2
  go_ret
  exact ⟨zr9, zr17⟩
def culletlaw07_claims.l0 : Nat → Int → Int → Int → Int → List (S58) → List (S56) → Option (Bool)
 | 0, _, _, _, _, _, _ => none
 | k + 1, x1, x2, x7, x429000, x429001, x429002 => if 0 ≤ x1 then (if x1 < (x429002.length : Int) then (if x7 < (((rd_T56 x429002 x1).f1).length : Int) then (if 0 ≤ x7 then (if ((rd_T68 ((rd_T56 x429002 x1).f1) x7).f0) = x2 then (some true) else (culletlaw07_claims.l0 k x1 x2 (wrap64 (x7 + 1)) x429000 x429001 x429002)) else (none)) else (some false)) else (none)) else (none)
def culletlaw07_claims.f (k : Nat) (a0_0 : Int) (l0_1 : List (S58)) (l0_2 : List (S56)) (a1 : Int) (a2 : Int) : Option (Bool) := culletlaw07_claims.l0 k a1 a2 0 a0_0 l0_1 l0_2
set_option maxHeartbeats 8000000 in
set_option maxRecDepth 100000 in
theorem culletlaw07_claims.calls (k : Nat) (a0_0 : Int) (A0_1 : Option Addr) (c0_1 : Nat) (l0_1 : List (S58)) (A0_2 : Option Addr) (c0_2 : Nat) (l0_2 : List (S56)) (a1 : Int) (a2 : Int) (r : Bool) (w : World) (hr0_1 : Kd.C k58 w A0_1 l0_1.length l0_1) (hc0_1 : l0_1.length ≤ c0_1) (hr0_2 : Kd.C k56 w A0_2 l0_2.length l0_2) (hc0_2 : l0_2.length ≤ c0_2) (h : culletlaw07_claims.f k a0_0 l0_1 l0_2 a1 a2 = some r) :
  Calls Try.prog 56 #[.agg #[.int .i64 a0_0, .slice A0_1 l0_1.length c0_1, .slice A0_2 l0_2.length c0_2], .int .i64 a1, .int .i64 a2] w fun e w' => e = .returned (.bool r) ∧ Below w.heap.size w w' := by
 have hu25 := Try.underlying25
 have HR0_1 := Aside0.mk hr0_1
 have HC0_1 := Aside0.mk hc0_1
 clear hr0_1 hc0_1
 have HR0_2 := Aside0.mk hr0_2
 have HC0_2 := Aside0.mk hc0_2
 clear hr0_2 hc0_2
 have HB := Aside0.mk (Below.refl w.heap.size w)
 have H : (culletlaw07_claims.l0 k a1 a2 0 a0_0 l0_1 l0_2) = some r := h
 clear h
 have H' := Aside0.mk H
 clear H
 go_enter Try.func56, Try.ntmps56
 go_wp2_with (first | ((with_reducible refine gate_dst (N := 3) rfl ?_); refine box_event ?hg (N := 3) ?hd (cs := #[.int .i64 a0_0, .slice A0_1 l0_1.length c0_1, .slice A0_2 l0_2.length c0_2]) (t := 25) ?hr ?_; (case hd => rfl); (case hg => rfl); (case hr => exact zr15); intro gb428 hg w4 hbox hb; have n_ := as4 (below_step zr4 hb) (hbox) ((zr24 : w.heap.size ≤ gb428)) ((zr24 : w.heap.size ≤ gb428)); clear HB hb hbox hg; obtain ⟨HB, BK428, GW428, GE428⟩ := n_))
 go_loopg [7] k (fun kq v7 w' => ∃ (x7_1 : Int), v7 = .int .i64 x7_1 ∧ Aside0 (culletlaw07_claims.l0 kq a1 a2 x7_1 a0_0 l0_1 l0_2 = some r) ∧ Aside0 (kq ≤ k) ∧ Aside0 (w'.heap[gb428]? = some (.cells #[.int .i64 a0_0, (.slice A0_1 l0_1.length c0_1), (.slice A0_2 l0_2.length c0_2)] 25 (0, 0))) ∧ Aside0 (Below w.heap.size w w'))
 case atStart => exact ⟨(0), zr9, H', ⟨Nat.le_refl _⟩, ⟨(zr0 BK428.out)⟩, ⟨zr20⟩⟩
 case round =>
  clear H'
  try clear p2
  obtain ⟨x7_1, rfl, HA, HK1, BK428, HB⟩ := hrel
  cases gk with
  | zero => exact absurd HA.out (by simp [culletlaw07_claims.l0])
  | succ k1 =>
   have H := HA.out
   clear HA
   simp only [culletlaw07_claims.l0] at H
   by_cases c5 : 0 ≤ a1
   ·rw [if_pos c5] at H
    have c5b0 : decide (0 ≤ a1) = true := decide_eq_true c5
    clear c5
    by_cases c6 : a1 < (l0_2.length : Int)
    ·rw [if_pos c6] at H
     have c6b0 : decide (a1 < (l0_2.length : Int)) = true := decide_eq_true c6
     clear c6
     by_cases c7 : x7_1 < (((rd_T56 l0_2 a1).f1).length : Int)
     ·rw [if_pos c7] at H
      have c7b0 : decide (x7_1 < (((rd_T56 l0_2 a1).f1).length : Int)) = true := decide_eq_true c7
      clear c7
      by_cases c8 : 0 ≤ x7_1
      ·rw [if_pos c8] at H
       have c8b0 : decide (0 ≤ x7_1) = true := decide_eq_true c8
       clear c8
       by_cases c9 : ((rd_T68 ((rd_T56 l0_2 a1).f1) x7_1).f0) = a2
       ·rw [if_pos c9] at H
        have c9b0 : (((rd_T68 ((rd_T56 l0_2 a1).f1) x7_1).f0) == a2) = true := beq_iff_eq.mpr c9
        have c9b1 : (((rd_T68 ((rd_T56 l0_2 a1).f1) x7_1).f0) != a2) = false := bne_eq_false_iff_eq.mpr c9
        clear c9
        obtain rfl := Option.some.inj H
        obtain ⟨hcz10_0, hcz10_1, hcz10_2, hfz10_0, hfz10_1, hfz10_2⟩ := bcs3 BK428.out
        have p429 : 0 ≤ (a1 : Int) := of_decide_eq_true zr2
        have q429 : a1 < (l0_2.length : Int) := of_decide_eq_true zr2
        obtain ⟨ad429, A429_1, c429_1, e429, hx429_0, hx429_1, hl429_1, hi429_1⟩ := at_T56 HR0_2.out a1 p429 q429
        cases e429
        replace hx429_0 := hcx HB.out hx429_0
        replace hx429_1 := hcx HB.out hx429_1
        have HR429_1 := Aside0.mk hi429_1
        have HC429_1 := Aside0.mk hl429_1
        clear hi429_1 hl429_1
        replace p429 := eq_true p429
        replace q429 := eq_true q429
        have p430 : 0 ≤ (a1 : Int) := of_decide_eq_true zr2
        have q430 : a1 < (l0_2.length : Int) := of_decide_eq_true zr2
        obtain ⟨ad430, A430_1, c430_1, e430, hx430_0, hx430_1, hl430_1, hi430_1⟩ := at_T56 HR0_2.out a1 p430 q430
        obtain rfl : ad429 = ad430 := (by injection e430)
        replace hx430_0 := hcx HB.out hx430_0
        replace hx430_1 := hcx HB.out hx430_1
        have HR430_1 := Aside0.mk hi430_1
        have HC430_1 := Aside0.mk hl430_1
        clear hi430_1 hl430_1
        replace p430 := eq_true p430
        replace q430 := eq_true q430
        have ea_ := Option.some.inj (hx429_1.symm.trans hx430_1)
        injection ea_ with ea_ en_ ec_
        subst ea_
        subst ec_
        clear en_
        have p431 : 0 ≤ (x7_1 : Int) := of_decide_eq_true zr2
        have q431 : x7_1 < (((rd_T56 l0_2 a1).f1).length : Int) := of_decide_eq_true zr2
        obtain ⟨ad431, e431, hx431_0, hx431_1, hx431_2⟩ := at_T68 HR430_1.out x7_1 p431 q431
        cases e431
        replace hx431_0 := hcx HB.out hx431_0
        replace hx431_1 := hcx HB.out hx431_1
        replace hx431_2 := hcx HB.out hx431_2
        replace p431 := eq_true p431
        replace q431 := eq_true q431
        go_wp2
        go_ret
        exact ⟨zr10, zr20⟩
       ·rw [if_neg c9] at H
        have c9b0 : (((rd_T68 ((rd_T56 l0_2 a1).f1) x7_1).f0) == a2) = false := beq_eq_false_iff_ne.mpr c9
        have c9b1 : (((rd_T68 ((rd_T56 l0_2 a1).f1) x7_1).f0) != a2) = true := bne_iff_ne.mpr c9
        have H' := Aside0.mk H
        clear H
        obtain ⟨hcz11_0, hcz11_1, hcz11_2, hfz11_0, hfz11_1, hfz11_2⟩ := bcs3 BK428.out
        have p429 : 0 ≤ (a1 : Int) := of_decide_eq_true zr2
        have q429 : a1 < (l0_2.length : Int) := of_decide_eq_true zr2
        obtain ⟨ad429, A429_1, c429_1, e429, hx429_0, hx429_1, hl429_1, hi429_1⟩ := at_T56 HR0_2.out a1 p429 q429
        cases e429
        replace hx429_0 := hcx HB.out hx429_0
        replace hx429_1 := hcx HB.out hx429_1
        have HR429_1 := Aside0.mk hi429_1
        have HC429_1 := Aside0.mk hl429_1
        clear hi429_1 hl429_1
        replace p429 := eq_true p429
        replace q429 := eq_true q429
        have p430 : 0 ≤ (a1 : Int) := of_decide_eq_true zr2
        have q430 : a1 < (l0_2.length : Int) := of_decide_eq_true zr2
        obtain ⟨ad430, A430_1, c430_1, e430, hx430_0, hx430_1, hl430_1, hi430_1⟩ := at_T56 HR0_2.out a1 p430 q430
        obtain rfl : ad429 = ad430 := (by injection e430)
        replace hx430_0 := hcx HB.out hx430_0
        replace hx430_1 := hcx HB.out hx430_1
        have HR430_1 := Aside0.mk hi430_1
        have HC430_1 := Aside0.mk hl430_1
        clear hi430_1 hl430_1
        replace p430 := eq_true p430
        replace q430 := eq_true q430
        have ea_ := Option.some.inj (hx429_1.symm.trans hx430_1)
        injection ea_ with ea_ en_ ec_
        subst ea_
        subst ec_
        clear en_
        have p431 : 0 ≤ (x7_1 : Int) := of_decide_eq_true zr2
        have q431 : x7_1 < (((rd_T56 l0_2 a1).f1).length : Int) := of_decide_eq_true zr2
        obtain ⟨ad431, e431, hx431_0, hx431_1, hx431_2⟩ := at_T68 HR430_1.out x7_1 p431 q431
        cases e431
        replace hx431_0 := hcx HB.out hx431_0
        replace hx431_1 := hcx HB.out hx431_1
        replace hx431_2 := hcx HB.out hx431_2
        replace p431 := eq_true p431
        replace q431 := eq_true q431
        go_wp2
        go_roundg k1
        case measure => have := HK1.out; omega
        case rel => exact ⟨(wrap64 (x7_1 + 1)), zr9, H', ⟨by have := HK1.out; omega⟩, ⟨(zr0 BK428.out)⟩, ⟨zr20⟩⟩
      ·rw [if_neg c8] at H
       exact absurd H zr38
     ·rw [if_neg c7] at H
      have c7b0 : decide (x7_1 < (((rd_T56 l0_2 a1).f1).length : Int)) = false := decide_eq_false c7
      clear c7
      obtain rfl := Option.some.inj H
      obtain ⟨hcz12_0, hcz12_1, hcz12_2, hfz12_0, hfz12_1, hfz12_2⟩ := bcs3 BK428.out
      have p429 : 0 ≤ (a1 : Int) := of_decide_eq_true zr2
      have q429 : a1 < (l0_2.length : Int) := of_decide_eq_true zr2
      obtain ⟨ad429, A429_1, c429_1, e429, hx429_0, hx429_1, hl429_1, hi429_1⟩ := at_T56 HR0_2.out a1 p429 q429
      cases e429
      replace hx429_0 := hcx HB.out hx429_0
      replace hx429_1 := hcx HB.out hx429_1
      have HR429_1 := Aside0.mk hi429_1
      have HC429_1 := Aside0.mk hl429_1
      clear hi429_1 hl429_1
      replace p429 := eq_true p429
      replace q429 := eq_true q429
      go_wp2
      go_ret
      exact ⟨zr10, zr20⟩
    ·rw [if_neg c6] at H
     exact absurd H zr38
   ·rw [if_neg c5] at H
    exact absurd H zr38
mutual
def culletlaw07_history.l0 : Nat → List (S53) → List (S45) → List Bool → Int → Int → Int → List (S58) → List (S56) → Option ((List (S45)))
 | 0, _, _, _, _, _, _, _, _ => none
 | k + 1, x1, x5, x6, x7, x8, x433000, x433001, x433002 => if x8 < (x1.length : Int) then (if 0 ≤ x8 then ((culletlaw07_picked.f ((rd_T53 x1 x8).f0) 0 60).bind fun t438 => ((culletlaw07_picked.f ((rd_T53 x1 x8).f3) 0 (wrap64 ((x433002.length : Int) - 1))).bind fun t439 => (if (rd_T53 x1 x8).f4 = true then (culletlaw07_history.l1 k x1 x5 x6 (wrap64 (x7 + t438)) x8 t439 0 x433000 x433001 x433002 ((rd_T53 x1 x8).f0) ((rd_T53 x1 x8).f1) ((rd_T53 x1 x8).f2) ((rd_T53 x1 x8).f3) ((rd_T53 x1 x8).f4) ((rd_T53 x1 x8).f5)) else (culletlaw07_history.l2 k x1 x5 x6 (wrap64 (x7 + t438)) x8 t439 false 0 x433000 x433001 x433002 ((rd_T53 x1 x8).f0) ((rd_T53 x1 x8).f1) ((rd_T53 x1 x8).f2) ((rd_T53 x1 x8).f3) ((rd_T53 x1 x8).f4) ((rd_T53 x1 x8).f5))))) else (none)) else (some x5)
def culletlaw07_history.l1 : Nat → List (S53) → List (S45) → List Bool → Int → Int → Int → Int → Int → List (S58) → List (S56) → Int → Int → Int → Int → Bool → Bool → Option ((List (S45)))
 | 0, _, _, _, _, _, _, _, _, _, _, _, _, _, _, _, _ => none
 | k + 1, x1, x5, x6, x7, x8, x10, x11, x433000, x433001, x433002, x438000, x438001, x438002, x438003, x438004, x438005 => if 0 ≤ x10 then (if x10 < (x433002.length : Int) then (if x11 < (((rd_T56 x433002 x10).f1).length : Int) then (if 0 ≤ x11 then (if x10 < (x6.length : Int) then (if x5.length < 2513169434916 then (culletlaw07_history.l1 k x1 (x5 ++ [(⟨x7, 2, 0, 0, x10, (rd_T68 ((rd_T56 x433002 x10).f1) x11).f0, !(rdOf false x6 x10)⟩ : S45)]) x6 x7 x8 x10 (wrap64 (x11 + 1)) x433000 x433001 x433002 x438000 x438001 x438002 x438003 x438004 x438005) else (none)) else (none)) else (none)) else (if x10 < (x6.length : Int) then ((some (x6.set (x10 : Int).toNat false : List Bool)).bind fun y447 => (if x438005 = true then (culletlaw07_history.l0 k x1 x5 (y447.set (x10 : Int).toNat true) x7 (wrap64 (x8 + 1)) x433000 x433001 x433002) else (culletlaw07_history.l0 k x1 x5 y447 x7 (wrap64 (x8 + 1)) x433000 x433001 x433002))) else (none))) else (none)) else (none)
def culletlaw07_history.l2 : Nat → List (S53) → List (S45) → List Bool → Int → Int → Int → Bool → Int → Int → List (S58) → List (S56) → Int → Int → Int → Int → Bool → Bool → Option ((List (S45)))
 | 0, _, _, _, _, _, _, _, _, _, _, _, _, _, _, _, _, _ => none
 | k + 1, x1, x5, x6, x7, x8, x10, x12, x13, x433000, x433001, x433002, x438000, x438001, x438002, x438003, x438004, x438005 => if x13 < (x433002.length : Int) then (if x12 = true then (culletlaw07_history.l2 k x1 x5 x6 x7 x8 x10 true (wrap64 (x13 + 1)) x433000 x433001 x433002 x438000 x438001 x438002 x438003 x438004 x438005) else (if 0 ≤ x13 then (if x13 < (x6.length : Int) then (if rdOf false x6 x13 = true then (culletlaw07_history.l2 k x1 x5 x6 x7 x8 x10 false (wrap64 (x13 + 1)) x433000 x433001 x433002 x438000 x438001 x438002 x438003 x438004 x438005) else ((culletlaw07_claims.f k x433000 x433001 x433002 x13 x438002).bind fun t450 => (culletlaw07_history.l2 k x1 x5 x6 x7 x8 x10 t450 (wrap64 (x13 + 1)) x433000 x433001 x433002 x438000 x438001 x438002 x438003 x438004 x438005))) else (none)) else (none))) else ((culletlaw07_picked.f x438001 0 5).bind fun t451 => (if x5.length < 2513169434916 then ((some (x5 ++ [(⟨x7, 1, t451, 0, 0, 0, x12⟩ : S45)] : List (S45))).bind fun y452 => (if x438005 = true then (if 0 ≤ x10 then (if x10 < (x6.length : Int) then (culletlaw07_history.l0 k x1 y452 (x6.set (x10 : Int).toNat true) x7 (wrap64 (x8 + 1)) x433000 x433001 x433002) else (none)) else (none)) else (culletlaw07_history.l0 k x1 y452 x6 x7 (wrap64 (x8 + 1)) x433000 x433001 x433002))) else (none)))
end
def culletlaw07_history.f (k : Nat) (a0_0 : Int) (l0_1 : List (S58)) (l0_2 : List (S56)) (l1 : List (S53)) : Option ((List (S45))) := if 0 ≤ (l0_2.length : Int) then (if ((l0_2.length : Int) : Int).toNat ≤ 281474976710656 then (culletlaw07_history.l0 k l1 ([] : List (S45)) (List.replicate ((l0_2.length : Int) : Int).toNat false) 0 0 a0_0 l0_1 l0_2) else (none)) else (none)
def culletlaw07_history.T14 : Bool × List (List Nat × List Nat) := (true, [([], []), ([], []), ([], []), ([], []), ([3], [3]), ([], []), ([4, 5], [4, 5]), ([6], [6]), ([7], [7]), ([], []), ([8, 9], [8, 9]), ([10], [10]), ([11], [11]), ([], []), ([], []), ([13, 14], [13, 14]), ([15], [15]), ([16], [16]), ([1, 2, 12, 17], [1, 2, 12, 17]), ([18], [18]), ([0, 19], [0, 19]), ([20, 20, 0, 1, 2, 3, 4, 5, 6, 7, 8, 9, 10, 11, 12, 13, 14, 15, 16, 17, 18, 19, 20], [0, 20])])
def culletlaw07_history.B14 : List Nat := [0, 0, 0, 0, 8, 0, 56, 120, 248, 0, 1016, 2040, 4088, 0, 0, 24576, 57344, 122880, 262142, 524286, 1048575, 2097151]
theorem culletlaw07_history.tab14 : rtab .any (opsOf Try.f23 14) = culletlaw07_history.T14 := by kernel_rfl
theorem culletlaw07_history.bits14 : waitsOk culletlaw07_history.T14.2 culletlaw07_history.B14 = true := by kernel_rfl
set_option maxHeartbeats 8000000 in
set_option maxRecDepth 100000 in
theorem culletlaw07_history.calls (k : Nat) (a0_0 : Int) (A0_1 : Option Addr) (c0_1 : Nat) (l0_1 : List (S58)) (A0_2 : Option Addr) (c0_2 : Nat) (l0_2 : List (S56)) (A1 : Option Addr) (c1 : Nat) (l1 : List (S53)) (r : List (S45)) (w : World) (hr0_1 : Kd.C k58 w A0_1 l0_1.length l0_1) (hc0_1 : l0_1.length ≤ c0_1) (hr0_2 : Kd.C k56 w A0_2 l0_2.length l0_2) (hc0_2 : l0_2.length ≤ c0_2) (hr1 : Kd.C k53 w A1 l1.length l1) (hc1 : l1.length ≤ c1) (h : culletlaw07_history.f k a0_0 l0_1 l0_2 l1 = some r) :
  Calls Try.prog 23 #[.agg #[.int .i64 a0_0, .slice A0_1 l0_1.length c0_1, .slice A0_2 l0_2.length c0_2], .slice A1 l1.length c1] w fun e w' => ∃ v0_ : Value, e = .returned (v0_) ∧ Kd.R k45 45 w' w.heap.size (fun _ => True) v0_ r ∧ Below w.heap.size w w' := by
 have hu25 := Try.underlying25
 have hu53 := Try.underlying53
 have hu45 := Try.underlying45
 have HR0_1 := Aside0.mk hr0_1
 have HC0_1 := Aside0.mk hc0_1
 clear hr0_1 hc0_1
 have HR0_2 := Aside0.mk hr0_2
 have HC0_2 := Aside0.mk hc0_2
 clear hr0_2 hc0_2
 have HR1 := Aside0.mk hr1
 have HC1 := Aside0.mk hc1
 clear hr1 hc1
 have HB := Aside0.mk (Below.refl w.heap.size w)
 have H : (if 0 ≤ (l0_2.length : Int) then (if ((l0_2.length : Int) : Int).toNat ≤ 281474976710656 then (culletlaw07_history.l0 k l1 ([] : List (S45)) (List.replicate ((l0_2.length : Int) : Int).toNat false) 0 0 a0_0 l0_1 l0_2) else (none)) else (none)) = some r := h
 clear h
 by_cases c3 : 0 ≤ (l0_2.length : Int)
 ·rw [if_pos c3] at H
  have c3b0 := eq_true c3
  have c3b1 : decide (0 ≤ (l0_2.length : Int)) = true := decide_eq_true c3
  clear c3
  by_cases c4 : ((l0_2.length : Int) : Int).toNat ≤ 281474976710656
  ·rw [if_pos c4] at H
   have c4b0 := eq_true c4
   have c4b1 : decide (((l0_2.length : Int) : Int).toNat ≤ 281474976710656) = true := decide_eq_true c4
   clear c4
   obtain ⟨y433, hy433⟩ : ∃ y_ : List Bool, y_ = (List.replicate ((l0_2.length : Int) : Int).toNat false) := ⟨_, rfl⟩
   replace H : (culletlaw07_history.l0 k l1 ([] : List (S45)) y433 0 0 a0_0 l0_1 l0_2) = some r := by first | (rw [hy433]; with_reducible exact H) | (have H2_ := (Option.bind_some _ _).symm.trans H; rw [hy433]; with_reducible exact H2_) | (have H2_ := (Option.bind_some _ _).symm.trans H; with_reducible exact H2_) | with_reducible exact H | (rw [hy433]; exact H) | exact H
   have Ny433 := Aside0.mk hy433
   clear hy433
   have H' := Aside0.mk H
   clear H
   go_enter Try.func23, Try.ntmps23
   go_wp2_with (first | ((with_reducible refine gate_dst (N := 2) rfl ?_); refine box_event ?hg (N := 2) ?hd (cs := #[.int .i64 a0_0, .slice A0_1 l0_1.length c0_1, .slice A0_2 l0_2.length c0_2]) (t := 25) ?hr ?_; (case hd => rfl); (case hg => rfl); (case hr => exact zr15); intro gb432 hg w5 hbox hb; have n_ := as4 (below_step zr4 hb) (hbox) ((zr24 : w.heap.size ≤ gb432)) ((zr24 : w.heap.size ≤ gb432)); clear HB hb hbox hg; obtain ⟨HB, BK432, GW432, GE432⟩ := n_; obtain ⟨hcz6_0, hcz6_1, hcz6_2, hfz6_0, hfz6_1, hfz6_2⟩ := bcs3 BK432.out) | ((with_reducible refine gate_dst (N := 17) rfl ?_); refine Kd.R_make Kd.bool _ 4 rfl (N := 17) rfl 104 _ _ rfl (l0_2.length : Int) rfl rfl Try.underlying104 (.bool false) 1 info4 rfl zr27 zr13 false (ok := fun _ => True) (okp := fun _ => True) rfl (fun _ hk => hk) trivial (of_decide_eq_true zr2) (Nat.le_trans (Nat.mul_le_mul_right _ (of_decide_eq_true zr2 : (l0_2.length : Int).toNat ≤ 281474976710656)) zr13) (Below.refl _ _) (Nat.le_refl _) ?_; intro v434 w7 ho8 hb hg_ hnew_; clear hg_ hnew_; (first | rw [← Ny433.out] at ho8 | (simp only [Int.reduceToNat] at ho8; rw [← Ny433.out] at ho8)); have n_ := as3 (Kd.R_lower ho8 (below_size zr14)) (blk_below (zr0 BK432.out) hb) (below_step zr14 hb); clear BK432 HB; obtain ⟨HO435, BK432, HB⟩ := n_; clear hb ho8))
   go_loopg [5, 7, 8] k (fun kq v5 v7 v8 w' => ∃ (x5_1 : List (S45)) (x6_1 : List Bool) (x7_1 : Int) (x8_1 : Int), v7 = .int .i64 x7_1 ∧ v8 = .int .i64 x8_1 ∧ Aside0 (culletlaw07_history.l0 kq l1 x5_1 x6_1 x7_1 x8_1 a0_0 l0_1 l0_2 = some r) ∧ Aside0 (kq ≤ k) ∧ Aside0 (Kd.R k45 45 w' w.heap.size (fun _ => True) v5 x5_1) ∧ Aside0 (Kd.R Kd.bool 4 w' w.heap.size (fun _ => True) v434 x6_1) ∧ Aside0 (w'.heap[gb432]? = some (.cells #[.int .i64 a0_0, (.slice A0_1 l0_1.length c0_1), (.slice A0_2 l0_2.length c0_2)] 25 (0, 0))) ∧ Aside0 (Below w.heap.size w w'))
   case atStart => exact ⟨(([] : List (S45))), (y433), (0), (0), zr9, zr9, H', ⟨Nat.le_refl _⟩, ⟨by first | exact Kd.R_nil _ _ _ _ _ | exact Kd.N_nil _ _ _ _ _ | exact Kd.V_nil _ _ _ _ _ | exact Kd.Q_nil _ _ _ _ _ | exact Kd.S_nil _ _ _ _ _⟩, ⟨(zr1 HO435.out)⟩, ⟨(zr0 BK432.out)⟩, ⟨zr14⟩⟩
   case round =>
    clear H'
    try clear c1
    try clear c2
    try clear p2
    try clear c3
    try clear c3b0
    try clear c3b1
    try clear c4
    try clear c4b0
    try clear c4b1
    try clear hcz6_0 hcz6_1 hcz6_2 hfz6_0 hfz6_1 hfz6_2
    obtain ⟨x5_1, x6_1, x7_1, x8_1, rfl, rfl, HA, HK1, HO_5, HO_6, BK432, HB⟩ := hrel
    cases gk with
    | zero => exact absurd HA.out (by simp [culletlaw07_history.l0])
    | succ k1 =>
     have H := HA.out
     clear HA
     simp only [culletlaw07_history.l0] at H
     by_cases c9 : x8_1 < (l1.length : Int)
     ·rw [if_pos c9] at H
      have c9b0 : decide (x8_1 < (l1.length : Int)) = true := decide_eq_true c9
      clear c9
      by_cases c10 : 0 ≤ x8_1
      ·rw [if_pos c10] at H
       have c10b0 : decide (0 ≤ x8_1) = true := decide_eq_true c10
       clear c10
       replace H := Option.bind_eq_some_iff.mp H
       obtain ⟨t438, A110, H⟩ := H
       replace H : ((culletlaw07_picked.f ((rd_T53 l1 x8_1).f3) 0 (wrap64 ((l0_2.length : Int) - 1))).bind fun t439 => (if (rd_T53 l1 x8_1).f4 = true then (culletlaw07_history.l1 k1 l1 x5_1 x6_1 (wrap64 (x7_1 + t438)) x8_1 t439 0 a0_0 l0_1 l0_2 ((rd_T53 l1 x8_1).f0) ((rd_T53 l1 x8_1).f1) ((rd_T53 l1 x8_1).f2) ((rd_T53 l1 x8_1).f3) ((rd_T53 l1 x8_1).f4) ((rd_T53 l1 x8_1).f5)) else (culletlaw07_history.l2 k1 l1 x5_1 x6_1 (wrap64 (x7_1 + t438)) x8_1 t439 false 0 a0_0 l0_1 l0_2 ((rd_T53 l1 x8_1).f0) ((rd_T53 l1 x8_1).f1) ((rd_T53 l1 x8_1).f2) ((rd_T53 l1 x8_1).f3) ((rd_T53 l1 x8_1).f4) ((rd_T53 l1 x8_1).f5)))) = some r := H
       have A11 := Aside0.mk A110
       clear A110
       replace H := Option.bind_eq_some_iff.mp H
       obtain ⟨t439, A120, H⟩ := H
       replace H : (if (rd_T53 l1 x8_1).f4 = true then (culletlaw07_history.l1 k1 l1 x5_1 x6_1 (wrap64 (x7_1 + t438)) x8_1 t439 0 a0_0 l0_1 l0_2 ((rd_T53 l1 x8_1).f0) ((rd_T53 l1 x8_1).f1) ((rd_T53 l1 x8_1).f2) ((rd_T53 l1 x8_1).f3) ((rd_T53 l1 x8_1).f4) ((rd_T53 l1 x8_1).f5)) else (culletlaw07_history.l2 k1 l1 x5_1 x6_1 (wrap64 (x7_1 + t438)) x8_1 t439 false 0 a0_0 l0_1 l0_2 ((rd_T53 l1 x8_1).f0) ((rd_T53 l1 x8_1).f1) ((rd_T53 l1 x8_1).f2) ((rd_T53 l1 x8_1).f3) ((rd_T53 l1 x8_1).f4) ((rd_T53 l1 x8_1).f5))) = some r := H
       have A12 := Aside0.mk A120
       clear A120
       obtain ⟨bq13, hbq13⟩ : ∃ b_ : Bool, b_ = ((rd_T53 l1 x8_1).f4) := ⟨_, rfl⟩
       replace H : (if bq13 = true then (culletlaw07_history.l1 k1 l1 x5_1 x6_1 (wrap64 (x7_1 + t438)) x8_1 t439 0 a0_0 l0_1 l0_2 ((rd_T53 l1 x8_1).f0) ((rd_T53 l1 x8_1).f1) ((rd_T53 l1 x8_1).f2) ((rd_T53 l1 x8_1).f3) bq13 ((rd_T53 l1 x8_1).f5)) else (culletlaw07_history.l2 k1 l1 x5_1 x6_1 (wrap64 (x7_1 + t438)) x8_1 t439 false 0 a0_0 l0_1 l0_2 ((rd_T53 l1 x8_1).f0) ((rd_T53 l1 x8_1).f1) ((rd_T53 l1 x8_1).f2) ((rd_T53 l1 x8_1).f3) bq13 ((rd_T53 l1 x8_1).f5))) = some r := by rw [← hbq13] at H; exact H
       have Nbq13 := Aside0.mk hbq13
       clear hbq13
       by_cases c14 : bq13 = true
       ·subst c14
        have H1 : (culletlaw07_history.l1 k1 l1 x5_1 x6_1 (wrap64 (x7_1 + t438)) x8_1 t439 0 a0_0 l0_1 l0_2 ((rd_T53 l1 x8_1).f0) ((rd_T53 l1 x8_1).f1) ((rd_T53 l1 x8_1).f2) ((rd_T53 l1 x8_1).f3) true ((rd_T53 l1 x8_1).f5)) = some r := by rw [if_pos rfl] at H; exact H
        clear H
        have H := H1
        clear H1
        have H' := Aside0.mk H
        clear H
        have p436 : 0 ≤ (x8_1 : Int) := of_decide_eq_true zr2
        have q436 : x8_1 < (l1.length : Int) := of_decide_eq_true zr2
        obtain ⟨ad436, e436, hx436_0, hx436_1, hx436_2, hx436_3, hx436_4, hx436_5⟩ := at_T53 HR1.out x8_1 p436 q436
        (try rw [← Nbq13.out] at hx436_4)
        (try rw [← Nbq13.out] at hx436_5)
        cases e436
        replace hx436_0 := hcx HB.out hx436_0
        replace hx436_1 := hcx HB.out hx436_1
        replace hx436_2 := hcx HB.out hx436_2
        replace hx436_3 := hcx HB.out hx436_3
        replace hx436_4 := hcx HB.out hx436_4
        replace hx436_5 := hcx HB.out hx436_5
        replace p436 := eq_true p436
        replace q436 := eq_true q436
        go_wp2_with (first | ((with_reducible refine gate_dst (N := 9) rfl ?_); refine box_event ?hg (N := 9) ?hd (cs := #[.int .i64 0, .int .i64 0, .int .i64 0, .int .i64 0, .bool false, .bool false]) (t := 53) ?hr ?_; (case hd => rfl); (case hg => rfl); (case hr => exact zr15); intro gb437 hg w15 hbox hb; have n_ := as9 (Kd.R_below (zr1 HO_5.out) hb) (Kd.R_below (zr1 HO_6.out) hb) (blk_below (zr0 BK432.out) hb) (below_step zr14 hb) (hbox) ((by rw [hg]; exact (below_size zr14) : w.heap.size ≤ gb437)) ((by rw [hg]; exact (below_size zr14) : w.heap.size ≤ gb437)) ((by rw [hg]; exact Nat.ne_of_lt (blk_lt (zr0 BK432.out)) : gb432 ≠ gb437)) ((by rw [hg]; exact Nat.ne_of_gt (blk_lt (zr0 BK432.out)) : gb437 ≠ gb432)); clear HO_5 HO_6 BK432 HB hb hbox hg; obtain ⟨HO_5, HO_6, BK432, HB, BK437, GW437, GE437, NB432_437, NB437_432⟩ := n_; have hnb16 := NB437_432.out; have hnc16 := NB432_437.out; obtain ⟨hcz17_0, hcz17_1, hcz17_2, hcz17_3, hcz17_4, hcz17_5, hfz17_0, hfz17_1, hfz17_2, hfz17_3, hfz17_4, hfz17_5⟩ := bcs6 BK437.out) | ((with_reducible refine gate_callee (f := 20) rfl ?_); refine goesL_ (some 31) rfl rfl Try.func20 zr16 rfl #[.int .i64 ((rd_T53 l1 x8_1).f0), .int .i64 0, .int .i64 60] rfl zr6 ?_; (with_reducible refine (culletlaw07_picked.calls ((rd_T53 l1 x8_1).f0) 0 60 t438 _ A11.out).mono ?_); rintro e w' ⟨rfl, ⟨nd, rfl⟩⟩; refine ⟨_, rfl, ?_⟩; obtain ⟨hcz18_0, hcz18_1, hcz18_2, hfz18_0, hfz18_1, hfz18_2⟩ := bcs3 BK432.out) | ((with_reducible refine gate_callee (f := 20) rfl ?_); refine goesL_ (some 39) rfl rfl Try.func20 zr16 rfl #[.int .i64 ((rd_T53 l1 x8_1).f3), .int .i64 0, .int .i64 (wrap64 ((l0_2.length : Int) - 1))] rfl zr6 ?_; (with_reducible refine (culletlaw07_picked.calls ((rd_T53 l1 x8_1).f3) 0 (wrap64 ((l0_2.length : Int) - 1)) t439 _ A12.out).mono ?_); rintro e w' ⟨rfl, ⟨nd, rfl⟩⟩; refine ⟨_, rfl, ?_⟩))
        go_loopg [5, 11] k1 (fun kq v5 v11 w' => ∃ (x5_2 : List (S45)) (x11_2 : Int), v11 = .int .i64 x11_2 ∧ Aside0 (culletlaw07_history.l1 kq l1 x5_2 x6_1 (wrap64 (x7_1 + t438)) x8_1 t439 x11_2 a0_0 l0_1 l0_2 ((rd_T53 l1 x8_1).f0) ((rd_T53 l1 x8_1).f1) ((rd_T53 l1 x8_1).f2) ((rd_T53 l1 x8_1).f3) true ((rd_T53 l1 x8_1).f5) = some r) ∧ Aside0 (kq ≤ k1) ∧ Aside0 (Kd.R k45 45 w' w.heap.size (fun _ => True) v5 x5_2) ∧ Aside0 (Kd.R Kd.bool 4 w' w.heap.size (fun _ => True) v434 x6_1) ∧ Aside0 (w'.heap[gb432]? = some (.cells #[.int .i64 a0_0, (.slice A0_1 l0_1.length c0_1), (.slice A0_2 l0_2.length c0_2)] 25 (0, 0))) ∧ Aside0 (w'.heap[gb437]? = some (.cells #[.int .i64 ((rd_T53 l1 x8_1).f0), .int .i64 ((rd_T53 l1 x8_1).f1), .int .i64 ((rd_T53 l1 x8_1).f2), .int .i64 ((rd_T53 l1 x8_1).f3), .bool true, .bool ((rd_T53 l1 x8_1).f5)] 53 (0, 0))) ∧ Aside0 (Below w.heap.size w w'))
        case atStart => exact ⟨(x5_1), (0), zr9, H', ⟨Nat.le_refl _⟩, ⟨by (with_reducible repeat (first | apply Kd.R_alloc | apply Kd.R_drewN | apply Kd.R_drew)); exact Kd.R_mono (Kd.R_far (p := ⟨gb437, 5, none⟩) (Kd.R_far (p := ⟨gb437, 4, none⟩) (Kd.R_far (p := ⟨gb437, 3, none⟩) (Kd.R_far (p := ⟨gb437, 2, none⟩) (Kd.R_far (p := ⟨gb437, 1, none⟩) (Kd.R_far (p := ⟨gb437, 0, none⟩) (Kd.R_types HO_5.out BK437.out zr27) (fun _ hk => hk.2) (.int .i64 ((rd_T53 l1 x8_1).f0))) (fun _ hk => hk.2) (.int .i64 ((rd_T53 l1 x8_1).f1))) (fun _ hk => hk.2) (.int .i64 ((rd_T53 l1 x8_1).f2))) (fun _ hk => hk.2) (.int .i64 ((rd_T53 l1 x8_1).f3))) (fun _ hk => hk.2) (.bool true)) (fun _ hk => hk.2) (.bool ((rd_T53 l1 x8_1).f5))) (fun _ hk => trivial)⟩, ⟨by (with_reducible repeat (first | apply Kd.R_alloc | apply Kd.R_drewN | apply Kd.R_drew)); exact Kd.R_mono (Kd.R_far (p := ⟨gb437, 5, none⟩) (Kd.R_far (p := ⟨gb437, 4, none⟩) (Kd.R_far (p := ⟨gb437, 3, none⟩) (Kd.R_far (p := ⟨gb437, 2, none⟩) (Kd.R_far (p := ⟨gb437, 1, none⟩) (Kd.R_far (p := ⟨gb437, 0, none⟩) (Kd.R_types HO_6.out BK437.out zr27) (fun _ hk => hk.2) (.int .i64 ((rd_T53 l1 x8_1).f0))) (fun _ hk => hk.2) (.int .i64 ((rd_T53 l1 x8_1).f1))) (fun _ hk => hk.2) (.int .i64 ((rd_T53 l1 x8_1).f2))) (fun _ hk => hk.2) (.int .i64 ((rd_T53 l1 x8_1).f3))) (fun _ hk => hk.2) (.bool true)) (fun _ hk => hk.2) (.bool ((rd_T53 l1 x8_1).f5))) (fun _ hk => trivial)⟩, ⟨(bch1 NB432_437.out BK432.out)⟩, ⟨(bch0p BK437.out)⟩, ⟨zr5⟩⟩
        case round =>
         clear H'
         try clear c1
         try clear q1
         try clear c2
         try clear p2 p2
         try clear c3
         try clear c3b0
         try clear c3b1
         try clear c4
         try clear c4b0
         try clear c4b1
         try clear p4
         try clear q4
         try clear hx4
         try clear p6
         try clear c9
         try clear c9b0
         try clear c10
         try clear c10b0
         try clear q13
         try clear c14
         try clear c16
         try clear hcz17_0 hcz17_1 hcz17_2 hcz17_3 hcz17_4 hcz17_5 hfz17_0 hfz17_1 hfz17_2 hfz17_3 hfz17_4 hfz17_5
         try clear hcz18_0 hcz18_1 hcz18_2 hfz18_0 hfz18_1 hfz18_2
         try clear hcz6_0 hcz6_1 hcz6_2 hfz6_0 hfz6_1 hfz6_2
         try clear hx436_0
         try clear hx436_1
         try clear hx436_2
         try clear hx436_3
         try clear hx436_4
         try clear hx436_5
         try clear p436
         try clear q436
         obtain ⟨x5_2, x11_2, rfl, HA, HK2, HO_5, HO_6, BK432, BK437, HB⟩ := hrel
         cases gk with
         | zero => exact absurd HA.out (by simp [culletlaw07_history.l1])
         | succ k2 =>
          have H := HA.out
          clear HA
          simp only [culletlaw07_history.l1] at H
          by_cases c19 : 0 ≤ t439
          ·rw [if_pos c19] at H
           have c19b0 : decide (0 ≤ t439) = true := decide_eq_true c19
           clear c19
           by_cases c20 : t439 < (l0_2.length : Int)
           ·rw [if_pos c20] at H
            have c20b0 : decide (t439 < (l0_2.length : Int)) = true := decide_eq_true c20
            clear c20
            by_cases c21 : x11_2 < (((rd_T56 l0_2 t439).f1).length : Int)
            ·rw [if_pos c21] at H
             have c21b0 : decide (x11_2 < (((rd_T56 l0_2 t439).f1).length : Int)) = true := decide_eq_true c21
             clear c21
             by_cases c22 : 0 ≤ x11_2
             ·rw [if_pos c22] at H
              have c22b0 : decide (0 ≤ x11_2) = true := decide_eq_true c22
              clear c22
              by_cases c23 : t439 < (x6_1.length : Int)
              ·rw [if_pos c23] at H
               have c23b0 : decide (t439 < (x6_1.length : Int)) = true := decide_eq_true c23
               clear c23
               by_cases c24 : x5_2.length < 2513169434916
               ·rw [if_pos c24] at H
                have LMc24 := Aside0.mk c24
                clear c24
                obtain ⟨y444, hy444⟩ : ∃ y_ : List (S45), y_ = (x5_2 ++ [(⟨(wrap64 (x7_1 + t438)), 2, 0, 0, t439, (rd_T68 ((rd_T56 l0_2 t439).f1) x11_2).f0, !(rdOf false x6_1 t439)⟩ : S45)]) := ⟨_, rfl⟩
                replace H : (culletlaw07_history.l1 k2 l1 y444 x6_1 (wrap64 (x7_1 + t438)) x8_1 t439 (wrap64 (x11_2 + 1)) a0_0 l0_1 l0_2 ((rd_T53 l1 x8_1).f0) ((rd_T53 l1 x8_1).f1) ((rd_T53 l1 x8_1).f2) ((rd_T53 l1 x8_1).f3) true ((rd_T53 l1 x8_1).f5)) = some r := by first | (rw [hy444]; with_reducible exact H) | (have H2_ := (Option.bind_some _ _).symm.trans H; rw [hy444]; with_reducible exact H2_) | (have H2_ := (Option.bind_some _ _).symm.trans H; with_reducible exact H2_) | with_reducible exact H | (rw [hy444]; exact H) | exact H
                have Ny444 := Aside0.mk hy444
                clear hy444
                have H' := Aside0.mk H
                clear H
                have hnb25 := NB432_437.out
                have hnc25 := NB437_432.out
                obtain ⟨hcz26_0, hcz26_1, hcz26_2, hfz26_0, hfz26_1, hfz26_2⟩ := bcs3 BK432.out
                have p440 : 0 ≤ (t439 : Int) := of_decide_eq_true zr2
                have q440 : t439 < (l0_2.length : Int) := of_decide_eq_true zr2
                obtain ⟨ad440, A440_1, c440_1, e440, hx440_0, hx440_1, hl440_1, hi440_1⟩ := at_T56 HR0_2.out t439 p440 q440
                cases e440
                replace hx440_0 := hcx HB.out hx440_0
                replace hx440_1 := hcx HB.out hx440_1
                have HR440_1 := Aside0.mk hi440_1
                have HC440_1 := Aside0.mk hl440_1
                clear hi440_1 hl440_1
                replace p440 := eq_true p440
                replace q440 := eq_true q440
                try go_wp2
                have n0_ := Aside0.mk (Kd.R_drew HO_5.out)
                have n1_ := Aside0.mk (Kd.R_drew HO_6.out)
                have n2_ := Aside0.mk (blk_drew BK432.out)
                have n3_ := Aside0.mk (blk_drew BK437.out)
                have n4_ := Aside0.mk (below_drew1 HB.out)
                clear HO_5
                clear HO_6
                clear BK432
                clear BK437
                clear HB
                have HO_5 := n0_
                have HO_6 := n1_
                have BK432 := n2_
                have BK437 := n3_
                have HB := n4_
                clear n0_ n1_ n2_ n3_ n4_
                have p441 : 0 ≤ (t439 : Int) := of_decide_eq_true zr2
                have q441 : t439 < (l0_2.length : Int) := of_decide_eq_true zr2
                obtain ⟨ad441, A441_1, c441_1, e441, hx441_0, hx441_1, hl441_1, hi441_1⟩ := at_T56 HR0_2.out t439 p441 q441
                have hw441_1 := hx441_1
                have hw441_0 := hx441_0
                obtain rfl : ad440 = ad441 := (by injection e441)
                replace hx441_0 := hcx HB.out hx441_0
                replace hx441_1 := hcx HB.out hx441_1
                have HR441_1 := Aside0.mk hi441_1
                have HC441_1 := Aside0.mk hl441_1
                clear hi441_1 hl441_1
                replace p441 := eq_true p441
                replace q441 := eq_true q441
                have p442 : 0 ≤ (x11_2 : Int) := of_decide_eq_true zr2
                have q442 : x11_2 < (((rd_T56 l0_2 t439).f1).length : Int) := of_decide_eq_true zr2
                obtain ⟨ad442, e442, hx442_0, hx442_1, hx442_2⟩ := at_T68 HR441_1.out x11_2 p442 q442
                have hw442_2 := hx442_2
                have hw442_1 := hx442_1
                have hw442_0 := hx442_0
                cases e442
                replace hx442_0 := hcx HB.out hx442_0
                replace hx442_1 := hcx HB.out hx442_1
                replace hx442_2 := hcx HB.out hx442_2
                replace p442 := eq_true p442
                replace q442 := eq_true q442
                obtain ⟨Ao28, co28, eo28⟩ := Kd.R_slice HO_6.out
                (first | subst eo28 | (injection eo28 with f1_ f2_ f3_; have f4_ := f1_.symm; have f5_ := f3_.symm; clear f1_ f2_ f3_; subst f4_; subst f5_))
                have p443 : 0 ≤ (t439 : Int) := of_decide_eq_true zr2
                have q443 : t439 < (x6_1.length : Int) := of_decide_eq_true zr2
                obtain ⟨ad443, e443, hx443_0⟩ := Kd.at_bool (Kd.R_reads' HO_6.out).2.2 t439 p443 q443
                (try rw [← Nbq13.out] at hx443_0)
                cases e443
                replace p443 := eq_true p443
                replace q443 := eq_true q443
                refine start_ (n := 22) (S := fun w' => w'.cell? ⟨gb432, 0, none⟩ = some (.int .i64 a0_0) ∧ w'.cell? ⟨gb432, 1, none⟩ = some (.slice A0_1 l0_1.length c0_1) ∧ w'.cell? ⟨gb432, 2, none⟩ = some (.slice (some ad440) l0_2.length c0_2) ∧ w'.cell? (ad440.add ((t439).toNat * 2)) = some (.string ((rd_T56 l0_2 t439).f0)) ∧ w'.cell? ⟨(ad440.add ((t439).toNat * 2)).block, (ad440.add ((t439).toNat * 2)).off + 1, none⟩ = some (.slice (some ad442) ((rd_T56 l0_2 t439).f1).length c441_1) ∧ w'.cell? (ad442.add ((x11_2).toNat * 3)) = some (.int .i64 ((rd_T68 ((rd_T56 l0_2 t439).f1) x11_2).f0)) ∧ w'.cell? ⟨(ad442.add ((x11_2).toNat * 3)).block, (ad442.add ((x11_2).toNat * 3)).off + 1, none⟩ = some (.int .i64 ((rd_T68 ((rd_T56 l0_2 t439).f1) x11_2).f1)) ∧ w'.cell? ⟨(ad442.add ((x11_2).toNat * 3)).block, (ad442.add ((x11_2).toNat * 3)).off + 2, none⟩ = some (.int .i64 ((rd_T68 ((rd_T56 l0_2 t439).f1) x11_2).f2)) ∧ w'.cell? (ad443.add (t439).toNat) = some (.bool (rdOf false x6_1 t439))) (ds := [19, 20]) #[false, false, false, false, false, false, false, false, false, false, false, false, false, false, false, false, false, false, false, false, false, false] zr16 rfl rfl ⟨(blk_cell BK432.out 0).trans rfl, (blk_cell BK432.out 1).trans rfl, (blk_cell BK432.out 2).trans rfl, ((HB.out.cell (World.block_lt_of_cell? w _ hw441_0)).trans hw441_0), ((HB.out.cell (World.block_lt_of_cell? w _ hw441_1)).trans hw441_1), ((HB.out.cell (World.block_lt_of_cell? w _ hw442_0)).trans hw442_0), ((HB.out.cell (World.block_lt_of_cell? w _ hw442_1)).trans hw442_1), ((HB.out.cell (World.block_lt_of_cell? w _ hw442_2)).trans hw442_2), hx443_0⟩ (fun hHeld => ?_); refine with_tabW culletlaw07_history.tab14 culletlaw07_history.bits14 (fun HT_ HW_ => ?_)
                generalize wr.drew = w27 at HO_5 HO_6 BK432 BK437 HB HR441_1 hx441_0 hx441_1 hx442_0 hx442_1 hx442_2 hx443_0 hHeld ⊢
                refine pure_ (i := 0) (N := some 53) (v := ?_) (a' := ?_) #[true, false, false, false, false, false, false, false, false, false, false, false, false, false, false, false, false, false, false, false, false, false] rfl rfl (any_of HT_.out zr16) (fun _ _ _ h => h) (Or.inl ⟨zr32, ?_⟩) ?_ ?_
                rotate_left
                exact zpw
                rotate_left
                exact zpa
                refine pure_ (i := 1) (N := some 54) (v := ?_) (a' := ?_) #[true, true, false, false, false, false, false, false, false, false, false, false, false, false, false, false, false, false, false, false, false, false] rfl rfl (any_of HT_.out zr16) (fun _ _ _ h => h) (Or.inl ⟨zr32, ?_⟩) ?_ ?_
                rotate_left
                exact zpw
                rotate_left
                exact zpa
                refine pure_ (i := 2) (N := some 55) (v := ?_) (a' := ?_) #[true, true, true, false, false, false, false, false, false, false, false, false, false, false, false, false, false, false, false, false, false, false] rfl rfl (any_of HT_.out zr16) (fun _ _ _ h => h) (Or.inl ⟨zr32, ?_⟩) ?_ ?_
                rotate_left
                exact zpw
                rotate_left
                exact zpa
                refine pure_ (i := 3) (N := some 56) (v := ?_) (a' := ?_) #[true, true, true, true, false, false, false, false, false, false, false, false, false, false, false, false, false, false, false, false, false, false] rfl rfl (any_of HT_.out zr16) (fun _ _ _ h => h) (Or.inl ⟨zr32, ?_⟩) ?_ ?_
                rotate_left
                exact zpw
                rotate_left
                exact zpa
                refine pure_ (i := 5) (N := some 58) (v := ?_) (a' := ?_) #[true, true, true, true, false, true, false, false, false, false, false, false, false, false, false, false, false, false, false, false, false, false] rfl rfl (any_of HT_.out zr16) (fun _ _ _ h => h) (Or.inl ⟨zr32, ?_⟩) ?_ ?_
                rotate_left
                exact zpw
                rotate_left
                exact zpa
                refine pure_ (i := 9) (N := some 62) (v := ?_) (a' := ?_) #[true, true, true, true, false, true, false, false, false, true, false, false, false, false, false, false, false, false, false, false, false, false] rfl rfl (any_of HT_.out zr16) (fun _ _ _ h => h) (Or.inl ⟨zr32, ?_⟩) ?_ ?_
                rotate_left
                exact zpw
                rotate_left
                exact zpa
                refine pure_ (i := 13) (N := some 66) (v := ?_) (a' := ?_) #[true, true, true, true, false, true, false, false, false, true, false, false, false, true, false, false, false, false, false, false, false, false] rfl rfl (any_of HT_.out zr16) (fun _ _ _ h => h) (Or.inl ⟨zr32, ?_⟩) ?_ ?_
                rotate_left
                exact zpw
                rotate_left
                exact zpa
                refine pure_ (i := 14) (N := some 67) (v := ?_) (a' := ?_) #[true, true, true, true, false, true, false, false, false, true, false, false, false, true, true, false, false, false, false, false, false, false] rfl rfl (any_of HT_.out zr16) (fun _ _ _ h => h) (Or.inl ⟨zr32, ?_⟩) ?_ ?_
                rotate_left
                exact zpw
                rotate_left
                exact zpa
                refine pure_ (i := 15) (N := some 68) (v := ?_) (a' := ?_) #[true, true, true, true, false, true, false, false, false, true, false, false, false, true, true, true, false, false, false, false, false, false] rfl rfl (any_of HT_.out zr16) (fun _ _ _ h => h) (Or.inl ⟨zr32, ?_⟩) ?_ ?_
                rotate_left
                exact zpw
                rotate_left
                exact zpa
                refine take_ (i := 4) (N := some 57) (v := ?_) (a' := ?_) #[true, true, true, true, true, true, false, false, false, true, false, false, false, true, true, true, false, false, false, false, false, false] rfl rfl (take_ofW HT_.out HW_.out zr16) (fun _ _ _ h => h) (Or.inl ⟨zr32, ?_⟩) hHeld ?_ ?_
                rotate_left
                ·rintro w' ⟨s0, s1, s2, s3, s4, s5, s6, s7, s8⟩
                 go_simp
                 with_reducible rfl
                rotate_left
                exact zpa
                refine pure_ (i := 6) (N := some 59) (v := ?_) (a' := ?_) #[true, true, true, true, true, true, true, false, false, true, false, false, false, true, true, true, false, false, false, false, false, false] rfl rfl (any_of HT_.out zr16) (fun _ _ _ h => h) (Or.inl ⟨zr32, ?_⟩) ?_ ?_
                rotate_left
                exact zpw
                rotate_left
                exact zpa
                refine pure_ (i := 7) (N := some 60) (v := ?_) (a' := ?_) #[true, true, true, true, true, true, true, true, false, true, false, false, false, true, true, true, false, false, false, false, false, false] rfl rfl (any_of HT_.out zr16) (fun _ _ _ h => h) (Or.inl ⟨zr32, ?_⟩) ?_ ?_
                rotate_left
                exact zpw
                rotate_left
                exact zpa
                refine take_ (i := 8) (N := some 61) (v := ?_) (a' := ?_) #[true, true, true, true, true, true, true, true, true, true, false, false, false, true, true, true, false, false, false, false, false, false] rfl rfl (take_ofW HT_.out HW_.out zr16) (fun _ _ _ h => h) (Or.inl ⟨zr32, ?_⟩) hHeld ?_ ?_
                rotate_left
                ·rintro w' ⟨s0, s1, s2, s3, s4, s5, s6, s7, s8⟩
                 go_simp
                 with_reducible rfl
                rotate_left
                exact zpa
                refine pure_ (i := 10) (N := some 63) (v := ?_) (a' := ?_) #[true, true, true, true, true, true, true, true, true, true, true, false, false, true, true, true, false, false, false, false, false, false] rfl rfl (any_of HT_.out zr16) (fun _ _ _ h => h) (Or.inl ⟨zr32, ?_⟩) ?_ ?_
                rotate_left
                exact zpw
                rotate_left
                exact zpa
                refine pure_ (i := 11) (N := some 64) (v := ?_) (a' := ?_) #[true, true, true, true, true, true, true, true, true, true, true, true, false, true, true, true, false, false, false, false, false, false] rfl rfl (any_of HT_.out zr16) (fun _ _ _ h => h) (Or.inl ⟨zr32, ?_⟩) ?_ ?_
                rotate_left
                exact zpw
                rotate_left
                exact zpa
                refine take_ (i := 12) (N := some 65) (v := ?_) (a' := ?_) #[true, true, true, true, true, true, true, true, true, true, true, true, true, true, true, true, false, false, false, false, false, false] rfl rfl (take_ofW HT_.out HW_.out zr16) (fun _ _ _ h => h) (Or.inl ⟨zr32, ?_⟩) hHeld ?_ ?_
                rotate_left
                ·rintro w' ⟨s0, s1, s2, s3, s4, s5, s6, s7, s8⟩
                 go_simp
                 with_reducible rfl
                rotate_left
                exact zpa
                refine take_ (i := 16) (N := some 69) (v := ?_) (a' := ?_) #[true, true, true, true, true, true, true, true, true, true, true, true, true, true, true, true, true, false, false, false, false, false] rfl rfl (take_ofW HT_.out HW_.out zr16) (fun _ _ _ h => h) (Or.inl ⟨zr32, ?_⟩) hHeld ?_ ?_
                rotate_left
                ·rintro w' ⟨s0, s1, s2, s3, s4, s5, s6, s7, s8⟩
                 go_simp
                 with_reducible rfl
                rotate_left
                exact zpa
                refine pure_ (i := 17) (N := some 70) (v := ?_) (a' := ?_) #[true, true, true, true, true, true, true, true, true, true, true, true, true, true, true, true, true, true, false, false, false, false] rfl rfl (any_of HT_.out zr16) (fun _ _ _ h => h) (Or.inl ⟨zr32, ?_⟩) ?_ ?_
                rotate_left
                exact zpw
                rotate_left
                exact zpa
                refine pure_ (i := 18) (N := some 71) (v := ?_) (a' := ?_) #[true, true, true, true, true, true, true, true, true, true, true, true, true, true, true, true, true, true, true, false, false, false] rfl rfl (any_of HT_.out zr16) (fun _ _ _ h => h) (Or.inl ⟨zr32, ?_⟩) ?_ ?_
                rotate_left
                exact zpw
                rotate_left
                exact zpa
                refine last_ (i := 19) (N := some 72) #[true, true, true, true, true, true, true, true, true, true, true, true, true, true, true, true, true, true, true, true, false, false] rfl rfl (one_of HT_.out zr16) zr27 (fun K hK => ?_)
                refine value_ (w1 := ?_) (v := ?_) zr32 rfl ?_ ?_
                rotate_left 2
                ·go_simp
                 constructor
                 ·rfl
                 ·rfl
                refine hK.out _ _ ?_
                clear hK K
                refine norm_ (a' := ?_) ?_ ?_
                rotate_left
                ·show Act.put _ (some 72) _ = _
                 simp only [Act.put, List.setIfInBounds_toArray, List.set_cons_zero, List.set_cons_succ, i64_w, i32_w]
                 rfl
                refine last_ (i := 20) (N := some 73) #[true, true, true, true, true, true, true, true, true, true, true, true, true, true, true, true, true, true, true, true, true, false] rfl rfl (one_of HT_.out zr16) zr27 (fun K hK => ?_)
                refine Kd.R_append_step k45 (w0 := w) w.heap.size zr32 (.tmp 53) (.tmp 72) 26 45 (.agg #[(.int .i64 0), (.int .u8 0), (.int .i64 0), (.int .i64 0), (.int .i64 0), (.int .i64 0), (.bool false)]) 56 rfl Try.underlying26 info45 rfl zr27 zr13 u5 x5_2 (⟨(wrap64 (x7_1 + t438)), 2, 0, 0, t439, (rd_T68 ((rd_T56 l0_2 t439).f1) x11_2).f0, !(rdOf false x6_1 t439)⟩ : S45) [.int .i64 (wrap64 (x7_1 + t438)), .int .u8 2, .int .i64 0, .int .i64 0, .int .i64 t439, .int .i64 ((rd_T68 ((rd_T56 l0_2 t439).f1) x11_2).f0), .bool (!(rdOf false x6_1 t439))] (fun _ => True) (fun _ => False) rfl rfl ?aP (fun _ hk => hk.elim) ?aF ?aO ?aB ?aS ?aL ?_
                (case aP => exact k45_mkM _ _ _ (⟨(wrap64 (x7_1 + t438)), 2, 0, 0, t439, (rd_T68 ((rd_T56 l0_2 t439).f1) x11_2).f0, !(rdOf false x6_1 t439)⟩ : S45))
                (case aB => exact zr5)
                (case aF => exact (fun _ _ => trivial))
                (case aO => exact (zr1 HO_5.out))
                (case aS => exact (below_size zr5))
                (case aL => have := LMc24.out; omega)
                intro v445 w29 ho hb hg hat
                rw [← Ny444.out] at ho
                have n0_ := Aside0.mk (Kd.R_over' (zr1 HO_6.out) (Kd.R_typed (zr1 HO_5.out)) zr27 hg)
                have n1_ := Aside0.mk (blk_grown (zr0 BK432.out) hg (Kd.R_ne HO_5.out BK432.out zr27))
                have n2_ := Aside0.mk (blk_grown (zr0 BK437.out) hg (Kd.R_ne HO_5.out BK437.out zr27))
                have n3_ := Aside0.mk (hb)
                have n4_ := Aside0.mk (ho)
                clear HO_6
                clear BK432
                clear BK437
                clear HB
                clear HO_5
                have HO_6 := n0_
                have BK432 := n1_
                have BK437 := n2_
                have HB := n3_
                have HO446 := n4_
                clear n0_ n1_ n2_ n3_ n4_
                clear ho hb hg hat
                refine hK.out _ _ ?_
                clear hK K
                refine norm_ (a' := ?_) ?_ ?_
                rotate_left
                ·show Act.put _ (some 73) _ = _
                 simp only [Act.put, List.setIfInBounds_toArray, List.set_cons_zero, List.set_cons_succ, i64_w, i32_w]
                 rfl
                refine pure_ (i := 21) (N := some 5) (v := ?_) (a' := ?_) #[true, true, true, true, true, true, true, true, true, true, true, true, true, true, true, true, true, true, true, true, true, true] rfl rfl (any_of HT_.out zr16) (fun _ _ _ h => h) (Or.inl ⟨zr32, ?_⟩) ?_ ?_
                rotate_left
                exact zpw
                rotate_left
                exact zpa
                refine done_ (done_of HT_.out zr16) ?_
                try go_wp2
                go_roundg k2
                case measure => have := HK1.out; have := HK2.out; omega
                case rel => exact ⟨(y444), (wrap64 (x11_2 + 1)), zr9, H', ⟨zr30⟩, ⟨(zr1 HO446.out)⟩, ⟨(zr1 HO_6.out)⟩, ⟨(zr0 BK432.out)⟩, ⟨(zr0 BK437.out)⟩, ⟨zr5⟩⟩
               ·rw [if_neg c24] at H
                exact absurd H zr38
              ·rw [if_neg c23] at H
               exact absurd H zr38
             ·rw [if_neg c22] at H
              exact absurd H zr38
            ·rw [if_neg c21] at H
             have c21b0 : decide (x11_2 < (((rd_T56 l0_2 t439).f1).length : Int)) = false := decide_eq_false c21
             clear c21
             by_cases c30 : t439 < (x6_1.length : Int)
             ·rw [if_pos c30] at H
              have c30b0 : decide (t439 < (x6_1.length : Int)) = true := decide_eq_true c30
              clear c30
              obtain ⟨y447, hy447⟩ : ∃ y_ : List Bool, y_ = (x6_1.set (t439 : Int).toNat false) := ⟨_, rfl⟩
              replace H : (if ((rd_T53 l1 x8_1).f5) = true then (culletlaw07_history.l0 k2 l1 x5_2 (y447.set (t439 : Int).toNat true) (wrap64 (x7_1 + t438)) (wrap64 (x8_1 + 1)) a0_0 l0_1 l0_2) else (culletlaw07_history.l0 k2 l1 x5_2 y447 (wrap64 (x7_1 + t438)) (wrap64 (x8_1 + 1)) a0_0 l0_1 l0_2)) = some r := by first | (rw [hy447]; with_reducible exact H) | (have H2_ := (Option.bind_some _ _).symm.trans H; rw [hy447]; with_reducible exact H2_) | (have H2_ := (Option.bind_some _ _).symm.trans H; with_reducible exact H2_) | with_reducible exact H | (rw [hy447]; exact H) | exact H
              have Ny447 := Aside0.mk hy447
              clear hy447
              by_cases c32 : ((rd_T53 l1 x8_1).f5) = true
              ·rw [if_pos c32] at H
               have c32b0 : ((rd_T53 l1 x8_1).f5) = true := c32
               clear c32
               obtain ⟨y448, hy448⟩ : ∃ y_ : List Bool, y_ = (y447.set (t439 : Int).toNat true) := ⟨_, rfl⟩
               replace H : (culletlaw07_history.l0 k2 l1 x5_2 y448 (wrap64 (x7_1 + t438)) (wrap64 (x8_1 + 1)) a0_0 l0_1 l0_2) = some r := by first | (rw [hy448]; with_reducible exact H) | (have H2_ := (Option.bind_some _ _).symm.trans H; rw [hy448]; with_reducible exact H2_) | (have H2_ := (Option.bind_some _ _).symm.trans H; with_reducible exact H2_) | with_reducible exact H | (rw [hy448]; exact H) | exact H
               have Ny448 := Aside0.mk hy448
               clear hy448
               have H' := Aside0.mk H
               clear H
               have hnb34 := NB432_437.out
               have hnc34 := NB437_432.out
               obtain ⟨hcz35_0, hcz35_1, hcz35_2, hfz35_0, hfz35_1, hfz35_2⟩ := bcs3 BK432.out
               have p440 : 0 ≤ (t439 : Int) := of_decide_eq_true zr2
               have q440 : t439 < (l0_2.length : Int) := of_decide_eq_true zr2
               obtain ⟨ad440, A440_1, c440_1, e440, hx440_0, hx440_1, hl440_1, hi440_1⟩ := at_T56 HR0_2.out t439 p440 q440
               cases e440
               replace hx440_0 := hcx HB.out hx440_0
               replace hx440_1 := hcx HB.out hx440_1
               have HR440_1 := Aside0.mk hi440_1
               have HC440_1 := Aside0.mk hl440_1
               clear hi440_1 hl440_1
               replace p440 := eq_true p440
               replace q440 := eq_true q440
               have p31 : 0 ≤ (t439 : Int) := of_decide_eq_true zr2
               have q31 : (t439 : Int) < ((x6_1.length : Int) : Int) := of_decide_eq_true zr2
               obtain ⟨go31, co31, eo31, gb31, gl31, cl31, HG31⟩ := Kd.R_form HO_6.out zr13
               (first | cases eo31 | (injection eo31 with ea_ en_ ec_; (first | subst ea_ | (injection ea_ with ea_; subst ea_)); subst ec_; clear en_))
               have GB31 := Aside0.mk gb31
               have GG31 := Aside0.mk HG31
               clear gb31 gl31 HG31
               obtain ⟨hx31_0, hf31_0⟩ := Kd.R_celln false HO_6.out (t439 : Int) p31 q31
               replace p31 := eq_true p31
               replace q31 := eq_true q31
               have HP36 := Kd.R_putg HO_6.out (t439 : Int) false
               go_wp2_with (first | ((with_reducible refine gate_store (t := 4) (p := 76) rfl ?_); refine store_event (t := 4) (p := 76) (v := ?vo_w37) (w1 := (wr.setCell ⟨go31, (t439 : Int).toNat, none⟩ (.bool false))) ?hg ?ho ?hn ?hr ?_; (case ho => rfl); (case hg => rfl); (case hn => rfl); (case hr => exact zr15); intro w37 hw; have hg : wr.grownBy w37 (some go31) := (by rw [hw]; exact HP36.2); have hp_ : Kd.R Kd.bool 4 w37 w.heap.size (fun _ => True) (.slice (some ⟨go31, 0, none⟩) x6_1.length co31) y447 := (by rw [hw, Ny447.out]; exact HP36.1); clear HP36; have n_ := as5 (Kd.R_over' (v := (.slice (some ⟨go31, 0, none⟩) x6_1.length co31)) (zr1 HO_5.out) (Kd.R_typed HO_6.out) zr27 hg) (hp_) (blk_grown (zr0 BK432.out) hg (Kd.R_ne HO_6.out BK432.out zr27)) (blk_grown (zr0 BK437.out) hg (Kd.R_ne HO_6.out BK437.out zr27)) ((by rw [hw]; exact below_set (HB.out) GB31.out : Below w.heap.size w w37)); clear HO_5 HO_6 BK432 BK437 HB; obtain ⟨HO_5, HO_6, BK432, BK437, HB⟩ := n_; clear hg hw hp_; obtain ⟨hcz38_0, hcz38_1, hcz38_2, hcz38_3, hcz38_4, hcz38_5, hfz38_0, hfz38_1, hfz38_2, hfz38_3, hfz38_4, hfz38_5⟩ := bcs6 BK437.out; have p33 : 0 ≤ (t439 : Int) := of_decide_eq_true zr2; have q33 : (t439 : Int) < ((x6_1.length : Int) : Int) := of_decide_eq_true zr2; obtain ⟨hx33_0, hf33_0⟩ := Kd.R_celln false HO_6.out (t439 : Int) p33 q33; replace p33 := eq_true p33; replace q33 := eq_true q33; obtain ⟨hy39_, hz39_⟩ := Kd.R_celln false HO_6.out (t439 : Int) (of_decide_eq_true zr2) (of_decide_eq_true zr2); have HP39 := Kd.R_putg HO_6.out (t439 : Int) true) | ((with_reducible refine gate_store (t := 4) (p := 112) rfl ?_); refine store_event (t := 4) (p := 112) (v := ?vo_w40) (w1 := (w37.setCell ⟨go31, (t439 : Int).toNat, none⟩ (.bool true))) ?hg ?ho ?hn ?hr ?_; (case ho => rfl); (case hg => rfl); (case hn => rfl); (case hr => exact zr15); intro w40 hw; have hg : w37.grownBy w40 (some go31) := (by rw [hw]; exact HP39.2); have hp_ : Kd.R Kd.bool 4 w40 w.heap.size (fun _ => True) (.slice (some ⟨go31, 0, none⟩) x6_1.length co31) y448 := (by rw [hw, Ny448.out]; exact HP39.1); clear HP39; have n_ := as5 (Kd.R_over' (v := (.slice (some ⟨go31, 0, none⟩) x6_1.length co31)) (zr1 HO_5.out) (Kd.R_typed HO_6.out) zr27 hg) (hp_) (blk_grown (zr0 BK432.out) hg (Kd.R_ne HO_6.out BK432.out zr27)) (blk_grown (zr0 BK437.out) hg (Kd.R_ne HO_6.out BK437.out zr27)) ((by rw [hw]; exact below_set (HB.out) GB31.out : Below w.heap.size w w40)); clear HO_5 HO_6 BK432 BK437 HB; obtain ⟨HO_5, HO_6, BK432, BK437, HB⟩ := n_; clear hg hw hp_))
               go_roundg k2
               case measure => have := HK1.out; have := HK2.out; omega
               case rel => exact ⟨(x5_2), (y448), ((wrap64 (x7_1 + t438))), (wrap64 (x8_1 + 1)), zr9, zr9, H', ⟨zr30⟩, ⟨(zr1 HO_5.out)⟩, ⟨(zr1 HO_6.out)⟩, ⟨(zr0 BK432.out)⟩, ⟨zr5⟩⟩
              ·rw [if_neg c32] at H
               have c32b0 : ((rd_T53 l1 x8_1).f5) = false := by simpa using c32
               clear c32
               have H' := Aside0.mk H
               clear H
               have hnb41 := NB432_437.out
               have hnc41 := NB437_432.out
               obtain ⟨hcz42_0, hcz42_1, hcz42_2, hfz42_0, hfz42_1, hfz42_2⟩ := bcs3 BK432.out
               have p440 : 0 ≤ (t439 : Int) := of_decide_eq_true zr2
               have q440 : t439 < (l0_2.length : Int) := of_decide_eq_true zr2
               obtain ⟨ad440, A440_1, c440_1, e440, hx440_0, hx440_1, hl440_1, hi440_1⟩ := at_T56 HR0_2.out t439 p440 q440
               cases e440
               replace hx440_0 := hcx HB.out hx440_0
               replace hx440_1 := hcx HB.out hx440_1
               have HR440_1 := Aside0.mk hi440_1
               have HC440_1 := Aside0.mk hl440_1
               clear hi440_1 hl440_1
               replace p440 := eq_true p440
               replace q440 := eq_true q440
               have p31 : 0 ≤ (t439 : Int) := of_decide_eq_true zr2
               have q31 : (t439 : Int) < ((x6_1.length : Int) : Int) := of_decide_eq_true zr2
               obtain ⟨go31, co31, eo31, gb31, gl31, cl31, HG31⟩ := Kd.R_form HO_6.out zr13
               (first | cases eo31 | (injection eo31 with ea_ en_ ec_; (first | subst ea_ | (injection ea_ with ea_; subst ea_)); subst ec_; clear en_))
               have GB31 := Aside0.mk gb31
               have GG31 := Aside0.mk HG31
               clear gb31 gl31 HG31
               obtain ⟨hx31_0, hf31_0⟩ := Kd.R_celln false HO_6.out (t439 : Int) p31 q31
               replace p31 := eq_true p31
               replace q31 := eq_true q31
               have HP43 := Kd.R_putg HO_6.out (t439 : Int) false
               go_wp2_with (first | ((with_reducible refine gate_store (t := 4) (p := 76) rfl ?_); refine store_event (t := 4) (p := 76) (v := ?vo_w44) (w1 := (wr.setCell ⟨go31, (t439 : Int).toNat, none⟩ (.bool false))) ?hg ?ho ?hn ?hr ?_; (case ho => rfl); (case hg => rfl); (case hn => rfl); (case hr => exact zr15); intro w44 hw; have hg : wr.grownBy w44 (some go31) := (by rw [hw]; exact HP43.2); have hp_ : Kd.R Kd.bool 4 w44 w.heap.size (fun _ => True) (.slice (some ⟨go31, 0, none⟩) x6_1.length co31) y447 := (by rw [hw, Ny447.out]; exact HP43.1); clear HP43; have n_ := as5 (Kd.R_over' (v := (.slice (some ⟨go31, 0, none⟩) x6_1.length co31)) (zr1 HO_5.out) (Kd.R_typed HO_6.out) zr27 hg) (hp_) (blk_grown (zr0 BK432.out) hg (Kd.R_ne HO_6.out BK432.out zr27)) (blk_grown (zr0 BK437.out) hg (Kd.R_ne HO_6.out BK437.out zr27)) ((by rw [hw]; exact below_set (HB.out) GB31.out : Below w.heap.size w w44)); clear HO_5 HO_6 BK432 BK437 HB; obtain ⟨HO_5, HO_6, BK432, BK437, HB⟩ := n_; clear hg hw hp_; obtain ⟨hcz45_0, hcz45_1, hcz45_2, hcz45_3, hcz45_4, hcz45_5, hfz45_0, hfz45_1, hfz45_2, hfz45_3, hfz45_4, hfz45_5⟩ := bcs6 BK437.out))
               go_roundg k2
               case measure => have := HK1.out; have := HK2.out; omega
               case rel => exact ⟨(x5_2), (y447), ((wrap64 (x7_1 + t438))), (wrap64 (x8_1 + 1)), zr9, zr9, H', ⟨zr30⟩, ⟨(zr1 HO_5.out)⟩, ⟨(zr1 HO_6.out)⟩, ⟨(zr0 BK432.out)⟩, ⟨zr5⟩⟩
             ·rw [if_neg c30] at H
              exact absurd H zr38
           ·rw [if_neg c20] at H
            exact absurd H zr38
          ·rw [if_neg c19] at H
           exact absurd H zr38
       ·replace c14 := Bool.eq_false_iff.mpr c14
        subst c14
        have H1 : (culletlaw07_history.l2 k1 l1 x5_1 x6_1 (wrap64 (x7_1 + t438)) x8_1 t439 false 0 a0_0 l0_1 l0_2 ((rd_T53 l1 x8_1).f0) ((rd_T53 l1 x8_1).f1) ((rd_T53 l1 x8_1).f2) ((rd_T53 l1 x8_1).f3) false ((rd_T53 l1 x8_1).f5)) = some r := by rw [if_neg (show ¬ (false = true) by decide)] at H; exact H
        clear H
        have H := H1
        clear H1
        have H' := Aside0.mk H
        clear H
        have p436 : 0 ≤ (x8_1 : Int) := of_decide_eq_true zr2
        have q436 : x8_1 < (l1.length : Int) := of_decide_eq_true zr2
        obtain ⟨ad436, e436, hx436_0, hx436_1, hx436_2, hx436_3, hx436_4, hx436_5⟩ := at_T53 HR1.out x8_1 p436 q436
        (try rw [← Nbq13.out] at hx436_4)
        (try rw [← Nbq13.out] at hx436_5)
        cases e436
        replace hx436_0 := hcx HB.out hx436_0
        replace hx436_1 := hcx HB.out hx436_1
        replace hx436_2 := hcx HB.out hx436_2
        replace hx436_3 := hcx HB.out hx436_3
        replace hx436_4 := hcx HB.out hx436_4
        replace hx436_5 := hcx HB.out hx436_5
        replace p436 := eq_true p436
        replace q436 := eq_true q436
        go_wp2_with (first | ((with_reducible refine gate_dst (N := 9) rfl ?_); refine box_event ?hg (N := 9) ?hd (cs := #[.int .i64 0, .int .i64 0, .int .i64 0, .int .i64 0, .bool false, .bool false]) (t := 53) ?hr ?_; (case hd => rfl); (case hg => rfl); (case hr => exact zr15); intro gb437 hg w46 hbox hb; have n_ := as9 (Kd.R_below (zr1 HO_5.out) hb) (Kd.R_below (zr1 HO_6.out) hb) (blk_below (zr0 BK432.out) hb) (below_step zr14 hb) (hbox) ((by rw [hg]; exact (below_size zr14) : w.heap.size ≤ gb437)) ((by rw [hg]; exact (below_size zr14) : w.heap.size ≤ gb437)) ((by rw [hg]; exact Nat.ne_of_lt (blk_lt (zr0 BK432.out)) : gb432 ≠ gb437)) ((by rw [hg]; exact Nat.ne_of_gt (blk_lt (zr0 BK432.out)) : gb437 ≠ gb432)); clear HO_5 HO_6 BK432 HB hb hbox hg; obtain ⟨HO_5, HO_6, BK432, HB, BK437, GW437, GE437, NB432_437, NB437_432⟩ := n_; have hnb47 := NB437_432.out; have hnc47 := NB432_437.out; obtain ⟨hcz48_0, hcz48_1, hcz48_2, hcz48_3, hcz48_4, hcz48_5, hfz48_0, hfz48_1, hfz48_2, hfz48_3, hfz48_4, hfz48_5⟩ := bcs6 BK437.out) | ((with_reducible refine gate_callee (f := 20) rfl ?_); refine goesL_ (some 31) rfl rfl Try.func20 zr16 rfl #[.int .i64 ((rd_T53 l1 x8_1).f0), .int .i64 0, .int .i64 60] rfl zr6 ?_; (with_reducible refine (culletlaw07_picked.calls ((rd_T53 l1 x8_1).f0) 0 60 t438 _ A11.out).mono ?_); rintro e w' ⟨rfl, ⟨nd, rfl⟩⟩; refine ⟨_, rfl, ?_⟩; obtain ⟨hcz49_0, hcz49_1, hcz49_2, hfz49_0, hfz49_1, hfz49_2⟩ := bcs3 BK432.out) | ((with_reducible refine gate_callee (f := 20) rfl ?_); refine goesL_ (some 39) rfl rfl Try.func20 zr16 rfl #[.int .i64 ((rd_T53 l1 x8_1).f3), .int .i64 0, .int .i64 (wrap64 ((l0_2.length : Int) - 1))] rfl zr6 ?_; (with_reducible refine (culletlaw07_picked.calls ((rd_T53 l1 x8_1).f3) 0 (wrap64 ((l0_2.length : Int) - 1)) t439 _ A12.out).mono ?_); rintro e w' ⟨rfl, ⟨nd, rfl⟩⟩; refine ⟨_, rfl, ?_⟩))
        go_loopg [12, 13] k1 (fun kq v12 v13 w' => ∃ (x12_2 : Bool) (x13_2 : Int), v12 = .bool x12_2 ∧ v13 = .int .i64 x13_2 ∧ Aside0 (culletlaw07_history.l2 kq l1 x5_1 x6_1 (wrap64 (x7_1 + t438)) x8_1 t439 x12_2 x13_2 a0_0 l0_1 l0_2 ((rd_T53 l1 x8_1).f0) ((rd_T53 l1 x8_1).f1) ((rd_T53 l1 x8_1).f2) ((rd_T53 l1 x8_1).f3) false ((rd_T53 l1 x8_1).f5) = some r) ∧ Aside0 (kq ≤ k1) ∧ Aside0 (Kd.R k45 45 w' w.heap.size (fun _ => True) u5 x5_1) ∧ Aside0 (Kd.R Kd.bool 4 w' w.heap.size (fun _ => True) v434 x6_1) ∧ Aside0 (w'.heap[gb432]? = some (.cells #[.int .i64 a0_0, (.slice A0_1 l0_1.length c0_1), (.slice A0_2 l0_2.length c0_2)] 25 (0, 0))) ∧ Aside0 (w'.heap[gb437]? = some (.cells #[.int .i64 ((rd_T53 l1 x8_1).f0), .int .i64 ((rd_T53 l1 x8_1).f1), .int .i64 ((rd_T53 l1 x8_1).f2), .int .i64 ((rd_T53 l1 x8_1).f3), .bool false, .bool ((rd_T53 l1 x8_1).f5)] 53 (0, 0))) ∧ Aside0 (Below w.heap.size w w'))
        case atStart => exact ⟨(false), (0), zr9, zr9, H', ⟨Nat.le_refl _⟩, ⟨by (with_reducible repeat (first | apply Kd.R_alloc | apply Kd.R_drewN | apply Kd.R_drew)); exact Kd.R_mono (Kd.R_far (p := ⟨gb437, 5, none⟩) (Kd.R_far (p := ⟨gb437, 4, none⟩) (Kd.R_far (p := ⟨gb437, 3, none⟩) (Kd.R_far (p := ⟨gb437, 2, none⟩) (Kd.R_far (p := ⟨gb437, 1, none⟩) (Kd.R_far (p := ⟨gb437, 0, none⟩) (Kd.R_types HO_5.out BK437.out zr27) (fun _ hk => hk.2) (.int .i64 ((rd_T53 l1 x8_1).f0))) (fun _ hk => hk.2) (.int .i64 ((rd_T53 l1 x8_1).f1))) (fun _ hk => hk.2) (.int .i64 ((rd_T53 l1 x8_1).f2))) (fun _ hk => hk.2) (.int .i64 ((rd_T53 l1 x8_1).f3))) (fun _ hk => hk.2) (.bool false)) (fun _ hk => hk.2) (.bool ((rd_T53 l1 x8_1).f5))) (fun _ hk => trivial)⟩, ⟨by (with_reducible repeat (first | apply Kd.R_alloc | apply Kd.R_drewN | apply Kd.R_drew)); exact Kd.R_mono (Kd.R_far (p := ⟨gb437, 5, none⟩) (Kd.R_far (p := ⟨gb437, 4, none⟩) (Kd.R_far (p := ⟨gb437, 3, none⟩) (Kd.R_far (p := ⟨gb437, 2, none⟩) (Kd.R_far (p := ⟨gb437, 1, none⟩) (Kd.R_far (p := ⟨gb437, 0, none⟩) (Kd.R_types HO_6.out BK437.out zr27) (fun _ hk => hk.2) (.int .i64 ((rd_T53 l1 x8_1).f0))) (fun _ hk => hk.2) (.int .i64 ((rd_T53 l1 x8_1).f1))) (fun _ hk => hk.2) (.int .i64 ((rd_T53 l1 x8_1).f2))) (fun _ hk => hk.2) (.int .i64 ((rd_T53 l1 x8_1).f3))) (fun _ hk => hk.2) (.bool false)) (fun _ hk => hk.2) (.bool ((rd_T53 l1 x8_1).f5))) (fun _ hk => trivial)⟩, ⟨(bch1 NB432_437.out BK432.out)⟩, ⟨(bch0p BK437.out)⟩, ⟨zr5⟩⟩
        case round =>
         clear H'
         try clear c1
         try clear q1 q1
         try clear c2
         try clear p2 p2
         try clear c3
         try clear c3b0
         try clear c3b1
         try clear p3
         try clear q3
         try clear hx3
         try clear hf3
         try clear c4
         try clear c4b0
         try clear c4b1
         try clear p4 p4
         try clear q4 q4
         try clear hx4
         try clear p6 p6
         try clear c9
         try clear c9b0
         try clear c10
         try clear c10b0
         try clear q13 q13
         try clear c14
         try clear c16
         try clear c19
         try clear c19b0
         try clear c20
         try clear c20b0
         try clear c21
         try clear c21b0
         try clear c22
         try clear c22b0
         try clear c23
         try clear c23b0
         try clear c24
         try clear c25
         try clear c30
         try clear c30b0
         try clear p31 p31
         try clear q31 q31
         try clear hx31
         try clear hf31
         try clear c32
         try clear c32b0
         try clear p33 p33
         try clear q33 q33
         try clear hx33
         try clear hf33
         try clear c34
         try clear c41
         try clear p43
         try clear q43
         try clear hx43
         try clear c44
         try clear p44
         try clear q44
         try clear hx44
         try clear c47
         try clear hcz17_0 hcz17_1 hcz17_2 hcz17_3 hcz17_4 hcz17_5 hfz17_0 hfz17_1 hfz17_2 hfz17_3 hfz17_4 hfz17_5
         try clear hcz18_0 hcz18_1 hcz18_2 hfz18_0 hfz18_1 hfz18_2
         try clear hcz26_0 hcz26_1 hcz26_2 hfz26_0 hfz26_1 hfz26_2
         try clear hcz35_0 hcz35_1 hcz35_2 hfz35_0 hfz35_1 hfz35_2
         try clear hcz38_0 hcz38_1 hcz38_2 hcz38_3 hcz38_4 hcz38_5 hfz38_0 hfz38_1 hfz38_2 hfz38_3 hfz38_4 hfz38_5
         try clear hcz42_0 hcz42_1 hcz42_2 hfz42_0 hfz42_1 hfz42_2
         try clear hcz45_0 hcz45_1 hcz45_2 hcz45_3 hcz45_4 hcz45_5 hfz45_0 hfz45_1 hfz45_2 hfz45_3 hfz45_4 hfz45_5
         try clear hcz48_0 hcz48_1 hcz48_2 hcz48_3 hcz48_4 hcz48_5 hfz48_0 hfz48_1 hfz48_2 hfz48_3 hfz48_4 hfz48_5
         try clear hcz49_0 hcz49_1 hcz49_2 hfz49_0 hfz49_1 hfz49_2
         try clear hcz6_0 hcz6_1 hcz6_2 hfz6_0 hfz6_1 hfz6_2
         try clear hx31_0
         try clear hx33_0
         try clear hx436_0
         try clear hx436_1
         try clear hx436_2
         try clear hx436_3
         try clear hx436_4
         try clear hx436_5
         try clear hx440_0
         try clear hx440_1
         try clear hx441_0
         try clear hx441_1
         try clear hx442_0
         try clear hx442_1
         try clear hx442_2
         try clear hx443_0
         try clear p436
         try clear p440
         try clear p441
         try clear p442
         try clear p443
         try clear q436
         try clear q440
         try clear q441
         try clear q442
         try clear q443
         obtain ⟨x12_2, x13_2, rfl, rfl, HA, HK2, HO_5, HO_6, BK432, BK437, HB⟩ := hrel
         cases gk with
         | zero => exact absurd HA.out (by simp [culletlaw07_history.l2])
         | succ k2 =>
          have H := HA.out
          clear HA
          simp only [culletlaw07_history.l2] at H
          by_cases c50 : x13_2 < (l0_2.length : Int)
          ·rw [if_pos c50] at H
           have c50b0 : decide (x13_2 < (l0_2.length : Int)) = true := decide_eq_true c50
           clear c50
           by_cases c51 : x12_2 = true
           ·subst c51
            have H1 : (culletlaw07_history.l2 k2 l1 x5_1 x6_1 (wrap64 (x7_1 + t438)) x8_1 t439 true (wrap64 (x13_2 + 1)) a0_0 l0_1 l0_2 ((rd_T53 l1 x8_1).f0) ((rd_T53 l1 x8_1).f1) ((rd_T53 l1 x8_1).f2) ((rd_T53 l1 x8_1).f3) false ((rd_T53 l1 x8_1).f5)) = some r := by rw [if_pos rfl] at H; exact H
            clear H
            have H := H1
            clear H1
            have H' := Aside0.mk H
            clear H
            have hnb52 := NB432_437.out
            have hnc52 := NB437_432.out
            obtain ⟨hcz53_0, hcz53_1, hcz53_2, hfz53_0, hfz53_1, hfz53_2⟩ := bcs3 BK432.out
            go_wp2
            go_roundg k2
            case measure => have := HK1.out; have := HK2.out; omega
            case rel => exact ⟨(true), (wrap64 (x13_2 + 1)), zr9, zr9, H', ⟨zr30⟩, ⟨(zr1 HO_5.out)⟩, ⟨(zr1 HO_6.out)⟩, ⟨(zr0 BK432.out)⟩, ⟨(zr0 BK437.out)⟩, ⟨zr5⟩⟩
           ·replace c51 := Bool.eq_false_iff.mpr c51
            subst c51
            have H1 : (if 0 ≤ x13_2 then (if x13_2 < (x6_1.length : Int) then (if rdOf false x6_1 x13_2 = true then (culletlaw07_history.l2 k2 l1 x5_1 x6_1 (wrap64 (x7_1 + t438)) x8_1 t439 false (wrap64 (x13_2 + 1)) a0_0 l0_1 l0_2 ((rd_T53 l1 x8_1).f0) ((rd_T53 l1 x8_1).f1) ((rd_T53 l1 x8_1).f2) ((rd_T53 l1 x8_1).f3) false ((rd_T53 l1 x8_1).f5)) else ((culletlaw07_claims.f k2 a0_0 l0_1 l0_2 x13_2 ((rd_T53 l1 x8_1).f2)).bind fun t450 => (culletlaw07_history.l2 k2 l1 x5_1 x6_1 (wrap64 (x7_1 + t438)) x8_1 t439 t450 (wrap64 (x13_2 + 1)) a0_0 l0_1 l0_2 ((rd_T53 l1 x8_1).f0) ((rd_T53 l1 x8_1).f1) ((rd_T53 l1 x8_1).f2) ((rd_T53 l1 x8_1).f3) false ((rd_T53 l1 x8_1).f5)))) else (none)) else (none)) = some r := by rw [if_neg (show ¬ (false = true) by decide)] at H; exact H
            clear H
            have H := H1
            clear H1
            by_cases c54 : 0 ≤ x13_2
            ·rw [if_pos c54] at H
             have c54b0 : decide (0 ≤ x13_2) = true := decide_eq_true c54
             clear c54
             by_cases c55 : x13_2 < (x6_1.length : Int)
             ·rw [if_pos c55] at H
              have c55b0 : decide (x13_2 < (x6_1.length : Int)) = true := decide_eq_true c55
              clear c55
              obtain ⟨bq56, hbq56⟩ : ∃ b_ : Bool, b_ = (rdOf false x6_1 x13_2) := ⟨_, rfl⟩
              replace H : (if bq56 = true then (culletlaw07_history.l2 k2 l1 x5_1 x6_1 (wrap64 (x7_1 + t438)) x8_1 t439 false (wrap64 (x13_2 + 1)) a0_0 l0_1 l0_2 ((rd_T53 l1 x8_1).f0) ((rd_T53 l1 x8_1).f1) ((rd_T53 l1 x8_1).f2) ((rd_T53 l1 x8_1).f3) false ((rd_T53 l1 x8_1).f5)) else ((culletlaw07_claims.f k2 a0_0 l0_1 l0_2 x13_2 ((rd_T53 l1 x8_1).f2)).bind fun t450 => (culletlaw07_history.l2 k2 l1 x5_1 x6_1 (wrap64 (x7_1 + t438)) x8_1 t439 t450 (wrap64 (x13_2 + 1)) a0_0 l0_1 l0_2 ((rd_T53 l1 x8_1).f0) ((rd_T53 l1 x8_1).f1) ((rd_T53 l1 x8_1).f2) ((rd_T53 l1 x8_1).f3) false ((rd_T53 l1 x8_1).f5)))) = some r := by rw [← hbq56] at H; exact H
              have Nbq56 := Aside0.mk hbq56
              clear hbq56
              by_cases c57 : bq56 = true
              ·subst c57
               have H1 : (culletlaw07_history.l2 k2 l1 x5_1 x6_1 (wrap64 (x7_1 + t438)) x8_1 t439 false (wrap64 (x13_2 + 1)) a0_0 l0_1 l0_2 ((rd_T53 l1 x8_1).f0) ((rd_T53 l1 x8_1).f1) ((rd_T53 l1 x8_1).f2) ((rd_T53 l1 x8_1).f3) false ((rd_T53 l1 x8_1).f5)) = some r := by rw [if_pos rfl] at H; exact H
               clear H
               have H := H1
               clear H1
               have H' := Aside0.mk H
               clear H
               have hnb58 := NB432_437.out
               have hnc58 := NB437_432.out
               obtain ⟨hcz59_0, hcz59_1, hcz59_2, hfz59_0, hfz59_1, hfz59_2⟩ := bcs3 BK432.out
               obtain ⟨Ao60, co60, eo60⟩ := Kd.R_slice HO_6.out
               subst eo60
               have p449 : 0 ≤ (x13_2 : Int) := of_decide_eq_true zr2
               have q449 : x13_2 < (x6_1.length : Int) := of_decide_eq_true zr2
               obtain ⟨ad449, e449, hx449_0⟩ := Kd.at_bool (Kd.R_reads' HO_6.out).2.2 x13_2 p449 q449
               (try rw [← Nbq13.out] at hx449_0)
               (try rw [← Nbq56.out] at hx449_0)
               cases e449
               replace p449 := eq_true p449
               replace q449 := eq_true q449
               go_wp2
               go_roundg k2
               case measure => have := HK1.out; have := HK2.out; omega
               case rel => exact ⟨(false), (wrap64 (x13_2 + 1)), zr9, zr9, H', ⟨zr30⟩, ⟨(zr1 HO_5.out)⟩, ⟨(zr1 HO_6.out)⟩, ⟨(zr0 BK432.out)⟩, ⟨(zr0 BK437.out)⟩, ⟨zr5⟩⟩
              ·replace c57 := Bool.eq_false_iff.mpr c57
               subst c57
               have H1 : ((culletlaw07_claims.f k2 a0_0 l0_1 l0_2 x13_2 ((rd_T53 l1 x8_1).f2)).bind fun t450 => (culletlaw07_history.l2 k2 l1 x5_1 x6_1 (wrap64 (x7_1 + t438)) x8_1 t439 t450 (wrap64 (x13_2 + 1)) a0_0 l0_1 l0_2 ((rd_T53 l1 x8_1).f0) ((rd_T53 l1 x8_1).f1) ((rd_T53 l1 x8_1).f2) ((rd_T53 l1 x8_1).f3) false ((rd_T53 l1 x8_1).f5))) = some r := by rw [if_neg (show ¬ (false = true) by decide)] at H; exact H
               clear H
               have H := H1
               clear H1
               replace H := Option.bind_eq_some_iff.mp H
               obtain ⟨t450, A610, H⟩ := H
               replace H : (culletlaw07_history.l2 k2 l1 x5_1 x6_1 (wrap64 (x7_1 + t438)) x8_1 t439 t450 (wrap64 (x13_2 + 1)) a0_0 l0_1 l0_2 ((rd_T53 l1 x8_1).f0) ((rd_T53 l1 x8_1).f1) ((rd_T53 l1 x8_1).f2) ((rd_T53 l1 x8_1).f3) false ((rd_T53 l1 x8_1).f5)) = some r := H
               have A61 := Aside0.mk A610
               clear A610
               have H' := Aside0.mk H
               clear H
               have hnb62 := NB432_437.out
               have hnc62 := NB437_432.out
               obtain ⟨hcz63_0, hcz63_1, hcz63_2, hfz63_0, hfz63_1, hfz63_2⟩ := bcs3 BK432.out
               obtain ⟨Ao64, co64, eo64⟩ := Kd.R_slice HO_6.out
               subst eo64
               have p449 : 0 ≤ (x13_2 : Int) := of_decide_eq_true zr2
               have q449 : x13_2 < (x6_1.length : Int) := of_decide_eq_true zr2
               obtain ⟨ad449, e449, hx449_0⟩ := Kd.at_bool (Kd.R_reads' HO_6.out).2.2 x13_2 p449 q449
               (try rw [← Nbq13.out] at hx449_0)
               (try rw [← Nbq56.out] at hx449_0)
               cases e449
               replace p449 := eq_true p449
               replace q449 := eq_true q449
               obtain ⟨hcz65_0, hcz65_1, hcz65_2, hcz65_3, hcz65_4, hcz65_5, hfz65_0, hfz65_1, hfz65_2, hfz65_3, hfz65_4, hfz65_5⟩ := bcs6 BK437.out
               go_wp2_with (first | (go_at_call 56; (with_reducible refine (culletlaw07_claims.calls k2 a0_0 _ _ l0_1 _ _ l0_2 x13_2 ((rd_T53 l1 x8_1).f2) t450 _ ?side1 ?side2 ?side3 ?side4 A61.out).mono ?_); (case side1 => exact zr18); (case side2 => exact HC0_1.out); (case side3 => exact zr19); (case side4 => exact HC0_2.out); rintro e w66 ⟨rfl, hb⟩; have n_ := as5 (Kd.R_below (zr1 HO_5.out) hb) (Kd.R_below (zr1 HO_6.out) hb) (blk_below (zr0 BK432.out) hb) (blk_below (zr0 BK437.out) hb) (below_step zr5 hb); clear HO_5 HO_6 BK432 BK437 HB; obtain ⟨HO_5, HO_6, BK432, BK437, HB⟩ := n_; (try clear hb); (try clear hb2); (try clear hk); (try clear hi)))
               go_roundg k2
               case measure => have := HK1.out; have := HK2.out; omega
               case rel => exact ⟨(t450), (wrap64 (x13_2 + 1)), zr9, zr9, H', ⟨zr30⟩, ⟨(zr1 HO_5.out)⟩, ⟨(zr1 HO_6.out)⟩, ⟨(zr0 BK432.out)⟩, ⟨(zr0 BK437.out)⟩, ⟨zr5⟩⟩
             ·rw [if_neg c55] at H
              exact absurd H zr38
            ·rw [if_neg c54] at H
             exact absurd H zr38
          ·rw [if_neg c50] at H
           have c50b0 : decide (x13_2 < (l0_2.length : Int)) = false := decide_eq_false c50
           clear c50
           replace H := Option.bind_eq_some_iff.mp H
           obtain ⟨t451, A670, H⟩ := H
           replace H : (if x5_1.length < 2513169434916 then ((some (x5_1 ++ [(⟨(wrap64 (x7_1 + t438)), 1, t451, 0, 0, 0, x12_2⟩ : S45)] : List (S45))).bind fun y452 => (if ((rd_T53 l1 x8_1).f5) = true then (if 0 ≤ t439 then (if t439 < (x6_1.length : Int) then (culletlaw07_history.l0 k2 l1 y452 (x6_1.set (t439 : Int).toNat true) (wrap64 (x7_1 + t438)) (wrap64 (x8_1 + 1)) a0_0 l0_1 l0_2) else (none)) else (none)) else (culletlaw07_history.l0 k2 l1 y452 x6_1 (wrap64 (x7_1 + t438)) (wrap64 (x8_1 + 1)) a0_0 l0_1 l0_2))) else (none)) = some r := H
           have A67 := Aside0.mk A670
           clear A670
           by_cases c68 : x5_1.length < 2513169434916
           ·rw [if_pos c68] at H
            have LMc68 := Aside0.mk c68
            clear c68
            obtain ⟨y452, hy452⟩ : ∃ y_ : List (S45), y_ = (x5_1 ++ [(⟨(wrap64 (x7_1 + t438)), 1, t451, 0, 0, 0, x12_2⟩ : S45)]) := ⟨_, rfl⟩
            replace H : (if ((rd_T53 l1 x8_1).f5) = true then (if 0 ≤ t439 then (if t439 < (x6_1.length : Int) then (culletlaw07_history.l0 k2 l1 y452 (x6_1.set (t439 : Int).toNat true) (wrap64 (x7_1 + t438)) (wrap64 (x8_1 + 1)) a0_0 l0_1 l0_2) else (none)) else (none)) else (culletlaw07_history.l0 k2 l1 y452 x6_1 (wrap64 (x7_1 + t438)) (wrap64 (x8_1 + 1)) a0_0 l0_1 l0_2)) = some r := by first | (rw [hy452]; with_reducible exact H) | (have H2_ := (Option.bind_some _ _).symm.trans H; rw [hy452]; with_reducible exact H2_) | (have H2_ := (Option.bind_some _ _).symm.trans H; with_reducible exact H2_) | with_reducible exact H | (rw [hy452]; exact H) | exact H
            have Ny452 := Aside0.mk hy452
            clear hy452
            by_cases c69 : ((rd_T53 l1 x8_1).f5) = true
            ·rw [if_pos c69] at H
             have c69b0 : ((rd_T53 l1 x8_1).f5) = true := c69
             clear c69
             by_cases c70 : 0 ≤ t439
             ·rw [if_pos c70] at H
              have c70b0 : decide (0 ≤ t439) = true := decide_eq_true c70
              clear c70
              by_cases c71 : t439 < (x6_1.length : Int)
              ·rw [if_pos c71] at H
               have c71b0 : decide (t439 < (x6_1.length : Int)) = true := decide_eq_true c71
               clear c71
               obtain ⟨y455, hy455⟩ : ∃ y_ : List Bool, y_ = (x6_1.set (t439 : Int).toNat true) := ⟨_, rfl⟩
               replace H : (culletlaw07_history.l0 k2 l1 y452 y455 (wrap64 (x7_1 + t438)) (wrap64 (x8_1 + 1)) a0_0 l0_1 l0_2) = some r := by first | (rw [hy455]; with_reducible exact H) | (have H2_ := (Option.bind_some _ _).symm.trans H; rw [hy455]; with_reducible exact H2_) | (have H2_ := (Option.bind_some _ _).symm.trans H; with_reducible exact H2_) | with_reducible exact H | (rw [hy455]; exact H) | exact H
               have Ny455 := Aside0.mk hy455
               clear hy455
               have H' := Aside0.mk H
               clear H
               have hnb73 := NB432_437.out
               have hnc73 := NB437_432.out
               obtain ⟨hcz74_0, hcz74_1, hcz74_2, hfz74_0, hfz74_1, hfz74_2⟩ := bcs3 BK432.out
               obtain ⟨hcz75_0, hcz75_1, hcz75_2, hcz75_3, hcz75_4, hcz75_5, hfz75_0, hfz75_1, hfz75_2, hfz75_3, hfz75_4, hfz75_5⟩ := bcs6 BK437.out
               go_wp2_with (first | ((with_reducible refine gate_callee (f := 20) rfl ?_); refine goesL_ (some 103) rfl rfl Try.func20 zr16 rfl #[.int .i64 ((rd_T53 l1 x8_1).f1), .int .i64 0, .int .i64 5] rfl zr6 ?_; (with_reducible refine (culletlaw07_picked.calls ((rd_T53 l1 x8_1).f1) 0 5 t451 _ A67.out).mono ?_); rintro e w' ⟨rfl, ⟨nd, rfl⟩⟩; refine ⟨_, rfl, ?_⟩; (try (rw [drewN_self wr]; generalize hq_ : World.drewN wr _ = wr; have n_ := as5 ((by rw [← hq_]; exact (zr1 HO_5.out)) : Kd.R k45 45 wr w.heap.size (fun _ => True) u5 x5_1) ((by rw [← hq_]; exact (zr1 HO_6.out)) : Kd.R Kd.bool 4 wr w.heap.size (fun _ => True) v434 x6_1) ((by rw [← hq_]; exact (zr0 BK432.out)) : wr.heap[gb432]? = some (.cells #[.int .i64 a0_0, .slice A0_1 l0_1.length c0_1, .slice A0_2 l0_2.length c0_2] 25 (0, 0))) ((by rw [← hq_]; exact (zr0 BK437.out)) : wr.heap[gb437]? = some (.cells #[.int .i64 ((rd_T53 l1 x8_1).f0), .int .i64 ((rd_T53 l1 x8_1).f1), .int .i64 ((rd_T53 l1 x8_1).f2), .int .i64 ((rd_T53 l1 x8_1).f3), .bool false, .bool ((rd_T53 l1 x8_1).f5)] 53 (0, 0))) ((by rw [← hq_]; exact zr5) : Below w.heap.size w wr); clear HO_5 HO_6 BK432 BK437 HB hq_; obtain ⟨HO_5, HO_6, BK432, BK437, HB⟩ := n_))) | ((with_reducible refine gate_builtin (b := .append) (xs := #[.tmp 99, .tmp 106]) rfl ?_); at_builtin; refine Kd.R_append k45 (w0 := w) w.heap.size rfl (.tmp 99) (.tmp 106) 26 45 (.agg #[(.int .i64 0), (.int .u8 0), (.int .i64 0), (.int .i64 0), (.int .i64 0), (.int .i64 0), (.bool false)]) 56 rfl Try.underlying26 info45 rfl zr27 zr13 u5 x5_1 (⟨(wrap64 (x7_1 + t438)), 1, t451, 0, 0, 0, x12_2⟩ : S45) [.int .i64 (wrap64 (x7_1 + t438)), .int .u8 1, .int .i64 t451, .int .i64 0, .int .i64 0, .int .i64 0, .bool x12_2] (fun _ => True) (fun _ => False) rfl rfl ?aP (fun _ hk => hk.elim) ?aF ?aO ?aB ?aS ?aL ?_; (case aP => exact k45_mkM _ _ _ (⟨(wrap64 (x7_1 + t438)), 1, t451, 0, 0, 0, x12_2⟩ : S45)); (case aB => exact zr5); (case aF => exact (fun _ _ => trivial)); (case aO => exact (zr1 HO_5.out)); (case aS => exact (below_size zr5)); (case aL => have := LMc68.out; omega); intro v453 w76 ho hb hg hat; rw [← Ny452.out] at ho; have n_ := as5 (Kd.R_over' (zr1 HO_6.out) (Kd.R_typed (zr1 HO_5.out)) zr27 hg) (blk_grown (zr0 BK432.out) hg (Kd.R_ne HO_5.out BK432.out zr27)) (blk_grown (zr0 BK437.out) hg (Kd.R_ne HO_5.out BK437.out zr27)) (hb) (ho); clear HO_6 BK432 BK437 HB HO_5; obtain ⟨HO_6, BK432, BK437, HB, HO454⟩ := n_; clear ho hb hg hat; obtain ⟨hcz77_0, hcz77_1, hcz77_2, hcz77_3, hcz77_4, hcz77_5, hfz77_0, hfz77_1, hfz77_2, hfz77_3, hfz77_4, hfz77_5⟩ := bcs6 BK437.out; have p72 : 0 ≤ (t439 : Int) := of_decide_eq_true zr2; have q72 : (t439 : Int) < ((x6_1.length : Int) : Int) := of_decide_eq_true zr2; obtain ⟨go72, co72, eo72, gb72, gl72, cl72, HG72⟩ := Kd.R_form HO_6.out zr13; (first | cases eo72 | (injection eo72 with ea_ en_ ec_; (first | subst ea_ | (injection ea_ with ea_; subst ea_)); subst ec_; clear en_)); have GB72 := Aside0.mk gb72; have GG72 := Aside0.mk HG72; clear gb72 gl72 HG72; obtain ⟨hx72_0, hf72_0⟩ := Kd.R_celln false HO_6.out (t439 : Int) p72 q72; replace p72 := eq_true p72; replace q72 := eq_true q72; obtain ⟨hy78_, hz78_⟩ := Kd.R_celln false HO_6.out (t439 : Int) (of_decide_eq_true zr2) (of_decide_eq_true zr2); have HP78 := Kd.R_putg HO_6.out (t439 : Int) true) | ((with_reducible refine gate_store (t := 4) (p := 112) rfl ?_); refine store_event (t := 4) (p := 112) (v := ?vo_w79) (w1 := (w76.setCell ⟨go72, (t439 : Int).toNat, none⟩ (.bool true))) ?hg ?ho ?hn ?hr ?_; (case ho => rfl); (case hg => rfl); (case hn => rfl); (case hr => exact zr15); intro w79 hw; have hg : w76.grownBy w79 (some go72) := (by rw [hw]; exact HP78.2); have hp_ : Kd.R Kd.bool 4 w79 w.heap.size (fun _ => True) (.slice (some ⟨go72, 0, none⟩) x6_1.length co72) y455 := (by rw [hw, Ny455.out]; exact HP78.1); clear HP78; have n_ := as5 (hp_) (blk_grown (zr0 BK432.out) hg (Kd.R_ne HO_6.out BK432.out zr27)) (blk_grown (zr0 BK437.out) hg (Kd.R_ne HO_6.out BK437.out zr27)) (Kd.R_over' (v := (.slice (some ⟨go72, 0, none⟩) x6_1.length co72)) (zr1 HO454.out) (Kd.R_typed HO_6.out) zr27 hg) ((by rw [hw]; exact below_set (HB.out) GB72.out : Below w.heap.size w w79)); clear HO_6 BK432 BK437 HO454 HB; obtain ⟨HO_6, BK432, BK437, HO454, HB⟩ := n_; clear hg hw hp_))
               go_roundg k2
               case measure => have := HK1.out; have := HK2.out; omega
               case rel => exact ⟨(y452), (y455), ((wrap64 (x7_1 + t438))), (wrap64 (x8_1 + 1)), zr9, zr9, H', ⟨zr30⟩, ⟨(zr1 HO454.out)⟩, ⟨(zr1 HO_6.out)⟩, ⟨(zr0 BK432.out)⟩, ⟨zr5⟩⟩
              ·rw [if_neg c71] at H
               exact absurd H zr38
             ·rw [if_neg c70] at H
              exact absurd H zr38
            ·rw [if_neg c69] at H
             have c69b0 : ((rd_T53 l1 x8_1).f5) = false := by simpa using c69
             clear c69
             have H' := Aside0.mk H
             clear H
             have hnb80 := NB432_437.out
             have hnc80 := NB437_432.out
             obtain ⟨hcz81_0, hcz81_1, hcz81_2, hfz81_0, hfz81_1, hfz81_2⟩ := bcs3 BK432.out
             obtain ⟨hcz82_0, hcz82_1, hcz82_2, hcz82_3, hcz82_4, hcz82_5, hfz82_0, hfz82_1, hfz82_2, hfz82_3, hfz82_4, hfz82_5⟩ := bcs6 BK437.out
             go_wp2_with (first | ((with_reducible refine gate_callee (f := 20) rfl ?_); refine goesL_ (some 103) rfl rfl Try.func20 zr16 rfl #[.int .i64 ((rd_T53 l1 x8_1).f1), .int .i64 0, .int .i64 5] rfl zr6 ?_; (with_reducible refine (culletlaw07_picked.calls ((rd_T53 l1 x8_1).f1) 0 5 t451 _ A67.out).mono ?_); rintro e w' ⟨rfl, ⟨nd, rfl⟩⟩; refine ⟨_, rfl, ?_⟩) | ((with_reducible refine gate_builtin (b := .append) (xs := #[.tmp 99, .tmp 106]) rfl ?_); at_builtin; refine Kd.R_append k45 (w0 := w) w.heap.size rfl (.tmp 99) (.tmp 106) 26 45 (.agg #[(.int .i64 0), (.int .u8 0), (.int .i64 0), (.int .i64 0), (.int .i64 0), (.int .i64 0), (.bool false)]) 56 rfl Try.underlying26 info45 rfl zr27 zr13 u5 x5_1 (⟨(wrap64 (x7_1 + t438)), 1, t451, 0, 0, 0, x12_2⟩ : S45) [.int .i64 (wrap64 (x7_1 + t438)), .int .u8 1, .int .i64 t451, .int .i64 0, .int .i64 0, .int .i64 0, .bool x12_2] (fun _ => True) (fun _ => False) rfl rfl ?aP (fun _ hk => hk.elim) ?aF ?aO ?aB ?aS ?aL ?_; (case aP => exact k45_mkM _ _ _ (⟨(wrap64 (x7_1 + t438)), 1, t451, 0, 0, 0, x12_2⟩ : S45)); (case aB => exact zr5); (case aF => exact (fun _ _ => trivial)); (case aO => exact (zr1 HO_5.out)); (case aS => exact (below_size zr5)); (case aL => have := LMc68.out; omega); intro v453 w83 ho hb hg hat; rw [← Ny452.out] at ho; have n_ := as5 (Kd.R_over' (zr1 HO_6.out) (Kd.R_typed (zr1 HO_5.out)) zr27 hg) (blk_grown (zr0 BK432.out) hg (Kd.R_ne HO_5.out BK432.out zr27)) (blk_grown (zr0 BK437.out) hg (Kd.R_ne HO_5.out BK437.out zr27)) (hb) (ho); clear HO_6 BK432 BK437 HB HO_5; obtain ⟨HO_6, BK432, BK437, HB, HO454⟩ := n_; clear ho hb hg hat; obtain ⟨hcz84_0, hcz84_1, hcz84_2, hcz84_3, hcz84_4, hcz84_5, hfz84_0, hfz84_1, hfz84_2, hfz84_3, hfz84_4, hfz84_5⟩ := bcs6 BK437.out))
             go_roundg k2
             case measure => have := HK1.out; have := HK2.out; omega
             case rel => exact ⟨(y452), (x6_1), ((wrap64 (x7_1 + t438))), (wrap64 (x8_1 + 1)), zr9, zr9, H', ⟨zr30⟩, ⟨(zr1 HO454.out)⟩, ⟨(zr1 HO_6.out)⟩, ⟨(zr0 BK432.out)⟩, ⟨zr5⟩⟩
           ·rw [if_neg c68] at H
            exact absurd H zr38
      ·rw [if_neg c10] at H
       exact absurd H zr38
     ·rw [if_neg c9] at H
      have c9b0 : decide (x8_1 < (l1.length : Int)) = false := decide_eq_false c9
      clear c9
      obtain rfl := Option.some.inj H
      go_wp2
      go_ret
      exact ⟨_, zr10, (zr1 HO_5.out), zr14⟩
  ·rw [if_neg c4] at H
   exact absurd H zr38
 ·rw [if_neg c3] at H
  exact absurd H zr38
mutual
def culletref04_Name.j0 : Nat → ByteArray → Bool → Option (Bool)
 | 0, _, _ => none
 | k + 1, x0, x22 => if x22 = true then (some false) else (culletref04_Name.l0 k x0 0)
def culletref04_Name.l0 : Nat → ByteArray → Int → Option (Bool)
 | 0, _, _ => none
 | k + 1, x0, x3 => if x3 < (x0.size : Int) then (if 0 ≤ x3 then (if (bt x0 x3) < 97 then (if (bt x0 x3) < 48 then (if (bt x0 x3) = 45 then (culletref04_Name.l0 k x0 (wrap64 (x3 + 1))) else (some false)) else (if (bt x0 x3) > 57 then (if (bt x0 x3) = 45 then (culletref04_Name.l0 k x0 (wrap64 (x3 + 1))) else (some false)) else (culletref04_Name.l0 k x0 (wrap64 (x3 + 1))))) else (if (bt x0 x3) > 122 then (if (bt x0 x3) < 48 then (if (bt x0 x3) = 45 then (culletref04_Name.l0 k x0 (wrap64 (x3 + 1))) else (some false)) else (if (bt x0 x3) > 57 then (if (bt x0 x3) = 45 then (culletref04_Name.l0 k x0 (wrap64 (x3 + 1))) else (some false)) else (culletref04_Name.l0 k x0 (wrap64 (x3 + 1))))) else (culletref04_Name.l0 k x0 (wrap64 (x3 + 1))))) else (none)) else (some true)
end
def culletref04_Name.f (k : Nat) (a0 : ByteArray) : Option (Bool) := if (a0.size : Int) = 0 then (culletref04_Name.j0 k a0 true) else (if (a0.size : Int) > 16 then (culletref04_Name.j0 k a0 true) else (if 0 < (a0.size : Int) then (if (bt a0 0) < 97 then (culletref04_Name.j0 k a0 true) else (culletref04_Name.j0 k a0 (decide ((bt a0 0) > 122)))) else (none)))
set_option maxHeartbeats 8000000 in
set_option maxRecDepth 100000 in
theorem culletref04_Name.calls (k : Nat) (a0 : ByteArray) (r : Bool) (w : World) (h : culletref04_Name.f k a0 = some r) :
  Calls Try.prog 52 #[.string a0] w fun e w' => e = .returned (.bool r) ∧ Drawn0 w w' := by
 have H : (if (a0.size : Int) = 0 then (culletref04_Name.j0 k a0 true) else (if (a0.size : Int) > 16 then (culletref04_Name.j0 k a0 true) else (if 0 < (a0.size : Int) then (if (bt a0 0) < 97 then (culletref04_Name.j0 k a0 true) else (culletref04_Name.j0 k a0 (decide ((bt a0 0) > 122)))) else (none)))) = some r := h
 clear h
 have HC2 := Aside0.mk H
 clear H
 go_enter Try.func52, Try.ntmps52
 go_upto_region 1 with (fail)
 go_cut [22] (fun v22 wc => ∃ (kq : Nat) (x22_1 : Bool), v22 = .bool x22_1 ∧ Aside0 (culletref04_Name.j0 kq a0 x22_1 = some r) ∧ Aside0 (kq ≤ k) ∧ Drawn0 w wc)
 case first =>
  have H := HC2.out
  clear HC2
  by_cases c3 : (a0.size : Int) = 0
  ·rw [if_pos c3] at H
   have c3b0 : ((a0.size : Int) == 0) = true := beq_iff_eq.mpr c3
   have c3b1 : ((a0.size : Int) != 0) = false := bne_eq_false_iff_eq.mpr c3
   clear c3
   (first | rw [c3b0] | (simp only [i64_w, i32_w]; rw [c3b0]) | skip)
   have H' := Aside0.mk H
   clear H
   go_wp2
   go_meet
   case rel => exact ⟨_, (true), zr9, H', ⟨zr36⟩, zr17⟩
  ·rw [if_neg c3] at H
   have c3b0 : ((a0.size : Int) == 0) = false := beq_eq_false_iff_ne.mpr c3
   have c3b1 : ((a0.size : Int) != 0) = true := bne_iff_ne.mpr c3
   (first | rw [c3b0] | (simp only [i64_w, i32_w]; rw [c3b0]) | skip)
   by_cases c4 : (a0.size : Int) > 16
   ·rw [if_pos c4] at H
    have c4b0 : decide (16 < (a0.size : Int)) = true := decide_eq_true c4
    have c4b1 : decide (16 < a0.size) = true := decide_eq_true zr13
    clear c4
    have H' := Aside0.mk H
    clear H
    go_wp2
    go_meet
    case rel => exact ⟨_, (true), zr9, H', ⟨zr36⟩, zr17⟩
   ·rw [if_neg c4] at H
    have c4b0 : decide (16 < (a0.size : Int)) = false := decide_eq_false c4
    have c4b1 : decide (16 < a0.size) = false := decide_eq_false zr13
    clear c4
    by_cases c5 : 0 < (a0.size : Int)
    ·rw [if_pos c5] at H
     have c5b0 : decide (0 < (a0.size : Int)) = true := decide_eq_true c5
     have c5b1 : decide (0 < a0.size) = true := decide_eq_true zr13
     clear c5
     by_cases c7 : (bt a0 0) < 97
     ·rw [if_pos c7] at H
      have c7b0 : decide ((bt a0 0) < 97) = true := decide_eq_true c7
      clear c7
      have H' := Aside0.mk H
      clear H
      have p6 : 0 ≤ (0 : Int) := zr13
      have q6 : 0 < a0.size := (by have : (0 : Int) < (a0.size : Int) := of_decide_eq_true zr2; omega)
      have hx6 : ∀ h : 0 < a0.size, ((a0[0]'h).toNat : Int) = bt a0 0 := bt_at a0 0
      clear p6
      have qi6 : (0 < (a0.size : Int)) = True := eq_true (of_decide_eq_true zr2)
      replace q6 := eq_true q6
      go_wp2
      go_meet
      case rel => exact ⟨_, (true), zr9, H', ⟨zr36⟩, zr17⟩
     ·rw [if_neg c7] at H
      have c7b0 : decide ((bt a0 0) < 97) = false := decide_eq_false c7
      clear c7
      have H' := Aside0.mk H
      clear H
      have p6 : 0 ≤ (0 : Int) := zr13
      have q6 : 0 < a0.size := (by have : (0 : Int) < (a0.size : Int) := of_decide_eq_true zr2; omega)
      have hx6 : ∀ h : 0 < a0.size, ((a0[0]'h).toNat : Int) = bt a0 0 := bt_at a0 0
      clear p6
      have qi6 : (0 < (a0.size : Int)) = True := eq_true (of_decide_eq_true zr2)
      replace q6 := eq_true q6
      have p8 : 0 ≤ (0 : Int) := zr13
      have q8 : 0 < a0.size := (by have : (0 : Int) < (a0.size : Int) := of_decide_eq_true zr2; omega)
      have hx8 : ∀ h : 0 < a0.size, ((a0[0]'h).toNat : Int) = bt a0 0 := bt_at a0 0
      clear p8
      have qi8 : (0 < (a0.size : Int)) = True := eq_true (of_decide_eq_true zr2)
      replace q8 := eq_true q8
      go_wp2
      go_meet
      case rel => exact ⟨_, (decide ((bt a0 0) > 122)), zr9, H', ⟨zr36⟩, zr17⟩
    ·rw [if_neg c5] at H
     exact absurd H zr38
 case rest =>
  clear HC2
  try clear p2
  try clear c3
  try clear c3b0
  try clear c3b1
  try clear c4
  try clear c4b0
  try clear c4b1
  try clear c5
  try clear c5b0
  try clear c5b1
  try clear p6 p6
  try clear q6 q6
  try clear hx6
  try clear qi6
  try clear c7
  try clear c7b0
  try clear p8 p8
  try clear q8 q8
  try clear hx8
  try clear qi8
  obtain ⟨kq, x22_1, rfl, HA, HJ1, ⟨mc1, rfl⟩⟩ := hcut
  cases kq with
  | zero => exact absurd HA.out (by simp [culletref04_Name.j0])
  | succ kj1 =>
   have H := HA.out
   clear HA
   simp only [culletref04_Name.j0] at H
   by_cases c9 : x22_1 = true
   ·subst c9
    have H1 : (some false) = some r := by rw [if_pos rfl] at H; exact H
    clear H
    have H := H1
    clear H1
    obtain rfl := Option.some.inj H
    go_wp2
    go_ret
    exact ⟨zr9, zr17⟩
   ·replace c9 := Bool.eq_false_iff.mpr c9
    subst c9
    have H1 : (culletref04_Name.l0 kj1 a0 0) = some r := by rw [if_neg (show ¬ (false = true) by decide)] at H; exact H
    clear H
    have H := H1
    clear H1
    have H' := Aside0.mk H
    clear H
    go_wp2
    go_loopg [3] kj1 (fun kq v3 w' => ∃ (x3_2 : Int), v3 = .int .i64 x3_2 ∧ Aside0 (culletref04_Name.l0 kq a0 x3_2 = some r) ∧ Aside0 (kq ≤ kj1) ∧ Drawn0 w w')
    case atStart => exact ⟨(0), zr9, H', ⟨Nat.le_refl _⟩, zr17⟩
    case round =>
     clear H'
     try clear c1
     try clear p2 p2
     try clear c3
     try clear c3b0
     try clear c3b1
     try clear c4
     try clear c4b0
     try clear c4b1
     try clear c5
     try clear c5b0
     try clear c5b1
     try clear p6 p6
     try clear q6 q6
     try clear hx6
     try clear qi6
     try clear c7
     try clear c7b0
     try clear p8 p8
     try clear q8 q8
     try clear hx8
     try clear qi8
     try clear c9
     obtain ⟨x3_2, rfl, HA, HK2, ⟨m2, rfl⟩⟩ := hrel
     cases gk with
     | zero => exact absurd HA.out (by simp [culletref04_Name.l0])
     | succ k2 =>
      have H := HA.out
      clear HA
      simp only [culletref04_Name.l0] at H
      by_cases c10 : x3_2 < (a0.size : Int)
      ·rw [if_pos c10] at H
       have c10b0 : decide (x3_2 < (a0.size : Int)) = true := decide_eq_true c10
       clear c10
       by_cases c11 : 0 ≤ x3_2
       ·rw [if_pos c11] at H
        have c11b0 : decide (0 ≤ x3_2) = true := decide_eq_true c11
        clear c11
        by_cases c13 : (bt a0 x3_2) < 97
        ·rw [if_pos c13] at H
         have c13b0 : decide ((bt a0 x3_2) < 97) = true := decide_eq_true c13
         clear c13
         by_cases c14 : (bt a0 x3_2) < 48
         ·rw [if_pos c14] at H
          have c14b0 : decide ((bt a0 x3_2) < 48) = true := decide_eq_true c14
          clear c14
          by_cases c15 : (bt a0 x3_2) = 45
          ·rw [if_pos c15] at H
           have c15b0 : ((bt a0 x3_2) == 45) = true := beq_iff_eq.mpr c15
           have c15b1 : ((bt a0 x3_2) != 45) = false := bne_eq_false_iff_eq.mpr c15
           clear c15
           have H' := Aside0.mk H
           clear H
           have p12 : 0 ≤ (x3_2 : Int) := of_decide_eq_true zr2
           have q12 : x3_2 < (a0.size : Int) := of_decide_eq_true zr2
           have hx12 := bt_at a0 x3_2
           replace p12 := eq_true p12
           replace q12 := eq_true q12
           go_wp2
           go_roundg k2
           case measure => have := HJ1.out; have := HK2.out; omega
           case rel => exact ⟨(wrap64 (x3_2 + 1)), zr9, H', ⟨zr31⟩, zr17⟩
          ·rw [if_neg c15] at H
           have c15b0 : ((bt a0 x3_2) == 45) = false := beq_eq_false_iff_ne.mpr c15
           have c15b1 : ((bt a0 x3_2) != 45) = true := bne_iff_ne.mpr c15
           obtain rfl := Option.some.inj H
           have p12 : 0 ≤ (x3_2 : Int) := of_decide_eq_true zr2
           have q12 : x3_2 < (a0.size : Int) := of_decide_eq_true zr2
           have hx12 := bt_at a0 x3_2
           replace p12 := eq_true p12
           replace q12 := eq_true q12
           go_wp2
           go_ret
           exact ⟨zr9, zr17⟩
         ·rw [if_neg c14] at H
          have c14b0 : decide ((bt a0 x3_2) < 48) = false := decide_eq_false c14
          clear c14
          by_cases c16 : (bt a0 x3_2) > 57
          ·rw [if_pos c16] at H
           have c16b0 : decide (57 < (bt a0 x3_2)) = true := decide_eq_true c16
           clear c16
           by_cases c17 : (bt a0 x3_2) = 45
           ·rw [if_pos c17] at H
            have c17b0 : ((bt a0 x3_2) == 45) = true := beq_iff_eq.mpr c17
            have c17b1 : ((bt a0 x3_2) != 45) = false := bne_eq_false_iff_eq.mpr c17
            clear c17
            have H' := Aside0.mk H
            clear H
            have p12 : 0 ≤ (x3_2 : Int) := of_decide_eq_true zr2
            have q12 : x3_2 < (a0.size : Int) := of_decide_eq_true zr2
            have hx12 := bt_at a0 x3_2
            replace p12 := eq_true p12
            replace q12 := eq_true q12
            go_wp2
            go_roundg k2
            case measure => have := HJ1.out; have := HK2.out; omega
            case rel => exact ⟨(wrap64 (x3_2 + 1)), zr9, H', ⟨zr31⟩, zr17⟩
           ·rw [if_neg c17] at H
            have c17b0 : ((bt a0 x3_2) == 45) = false := beq_eq_false_iff_ne.mpr c17
            have c17b1 : ((bt a0 x3_2) != 45) = true := bne_iff_ne.mpr c17
            obtain rfl := Option.some.inj H
            have p12 : 0 ≤ (x3_2 : Int) := of_decide_eq_true zr2
            have q12 : x3_2 < (a0.size : Int) := of_decide_eq_true zr2
            have hx12 := bt_at a0 x3_2
            replace p12 := eq_true p12
            replace q12 := eq_true q12
            go_wp2
            go_ret
            exact ⟨zr9, zr17⟩
          ·rw [if_neg c16] at H
           have c16b0 : decide (57 < (bt a0 x3_2)) = false := decide_eq_false c16
           clear c16
           have H' := Aside0.mk H
           clear H
           have p12 : 0 ≤ (x3_2 : Int) := of_decide_eq_true zr2
           have q12 : x3_2 < (a0.size : Int) := of_decide_eq_true zr2
           have hx12 := bt_at a0 x3_2
           replace p12 := eq_true p12
           replace q12 := eq_true q12
           go_wp2
           go_roundg k2
           case measure => have := HJ1.out; have := HK2.out; omega
           case rel => exact ⟨(wrap64 (x3_2 + 1)), zr9, H', ⟨zr31⟩, zr17⟩
        ·rw [if_neg c13] at H
         have c13b0 : decide ((bt a0 x3_2) < 97) = false := decide_eq_false c13
         clear c13
         by_cases c18 : (bt a0 x3_2) > 122
         ·rw [if_pos c18] at H
          have c18b0 : decide (122 < (bt a0 x3_2)) = true := decide_eq_true c18
          clear c18
          by_cases c19 : (bt a0 x3_2) < 48
          ·rw [if_pos c19] at H
           have c19b0 : decide ((bt a0 x3_2) < 48) = true := decide_eq_true c19
           clear c19
           by_cases c20 : (bt a0 x3_2) = 45
           ·rw [if_pos c20] at H
            have c20b0 : ((bt a0 x3_2) == 45) = true := beq_iff_eq.mpr c20
            have c20b1 : ((bt a0 x3_2) != 45) = false := bne_eq_false_iff_eq.mpr c20
            clear c20
            have H' := Aside0.mk H
            clear H
            have p12 : 0 ≤ (x3_2 : Int) := of_decide_eq_true zr2
            have q12 : x3_2 < (a0.size : Int) := of_decide_eq_true zr2
            have hx12 := bt_at a0 x3_2
            replace p12 := eq_true p12
            replace q12 := eq_true q12
            go_wp2
            go_roundg k2
            case measure => have := HJ1.out; have := HK2.out; omega
            case rel => exact ⟨(wrap64 (x3_2 + 1)), zr9, H', ⟨zr31⟩, zr17⟩
           ·rw [if_neg c20] at H
            have c20b0 : ((bt a0 x3_2) == 45) = false := beq_eq_false_iff_ne.mpr c20
            have c20b1 : ((bt a0 x3_2) != 45) = true := bne_iff_ne.mpr c20
            obtain rfl := Option.some.inj H
            have p12 : 0 ≤ (x3_2 : Int) := of_decide_eq_true zr2
            have q12 : x3_2 < (a0.size : Int) := of_decide_eq_true zr2
            have hx12 := bt_at a0 x3_2
            replace p12 := eq_true p12
            replace q12 := eq_true q12
            go_wp2
            go_ret
            exact ⟨zr9, zr17⟩
          ·rw [if_neg c19] at H
           have c19b0 : decide ((bt a0 x3_2) < 48) = false := decide_eq_false c19
           clear c19
           by_cases c21 : (bt a0 x3_2) > 57
           ·rw [if_pos c21] at H
            have c21b0 : decide (57 < (bt a0 x3_2)) = true := decide_eq_true c21
            clear c21
            by_cases c22 : (bt a0 x3_2) = 45
            ·rw [if_pos c22] at H
             have c22b0 : ((bt a0 x3_2) == 45) = true := beq_iff_eq.mpr c22
             have c22b1 : ((bt a0 x3_2) != 45) = false := bne_eq_false_iff_eq.mpr c22
             clear c22
             have H' := Aside0.mk H
             clear H
             have p12 : 0 ≤ (x3_2 : Int) := of_decide_eq_true zr2
             have q12 : x3_2 < (a0.size : Int) := of_decide_eq_true zr2
             have hx12 := bt_at a0 x3_2
             replace p12 := eq_true p12
             replace q12 := eq_true q12
             go_wp2
             go_roundg k2
             case measure => have := HJ1.out; have := HK2.out; omega
             case rel => exact ⟨(wrap64 (x3_2 + 1)), zr9, H', ⟨zr31⟩, zr17⟩
            ·rw [if_neg c22] at H
             have c22b0 : ((bt a0 x3_2) == 45) = false := beq_eq_false_iff_ne.mpr c22
             have c22b1 : ((bt a0 x3_2) != 45) = true := bne_iff_ne.mpr c22
             obtain rfl := Option.some.inj H
             have p12 : 0 ≤ (x3_2 : Int) := of_decide_eq_true zr2
             have q12 : x3_2 < (a0.size : Int) := of_decide_eq_true zr2
             have hx12 := bt_at a0 x3_2
             replace p12 := eq_true p12
             replace q12 := eq_true q12
             go_wp2
             go_ret
             exact ⟨zr9, zr17⟩
           ·rw [if_neg c21] at H
            have c21b0 : decide (57 < (bt a0 x3_2)) = false := decide_eq_false c21
            clear c21
            have H' := Aside0.mk H
            clear H
            have p12 : 0 ≤ (x3_2 : Int) := of_decide_eq_true zr2
            have q12 : x3_2 < (a0.size : Int) := of_decide_eq_true zr2
            have hx12 := bt_at a0 x3_2
            replace p12 := eq_true p12
            replace q12 := eq_true q12
            go_wp2
            go_roundg k2
            case measure => have := HJ1.out; have := HK2.out; omega
            case rel => exact ⟨(wrap64 (x3_2 + 1)), zr9, H', ⟨zr31⟩, zr17⟩
         ·rw [if_neg c18] at H
          have c18b0 : decide (122 < (bt a0 x3_2)) = false := decide_eq_false c18
          clear c18
          have H' := Aside0.mk H
          clear H
          have p12 : 0 ≤ (x3_2 : Int) := of_decide_eq_true zr2
          have q12 : x3_2 < (a0.size : Int) := of_decide_eq_true zr2
          have hx12 := bt_at a0 x3_2
          replace p12 := eq_true p12
          replace q12 := eq_true q12
          go_wp2
          go_roundg k2
          case measure => have := HJ1.out; have := HK2.out; omega
          case rel => exact ⟨(wrap64 (x3_2 + 1)), zr9, H', ⟨zr31⟩, zr17⟩
       ·rw [if_neg c11] at H
        exact absurd H zr38
      ·rw [if_neg c10] at H
       have c10b0 : decide (x3_2 < (a0.size : Int)) = false := decide_eq_false c10
       clear c10
       obtain rfl := Option.some.inj H
       go_wp2
       go_ret
       exact ⟨zr9, zr17⟩
def culletref07_flaw.l0 : Nat → ByteArray → Int → Int → List (S58) → List (S56) → Option (Int)
 | 0, _, _, _, _, _ => none
 | k + 1, x1, x5, x106000, x106001, x106002 => if x5 < (x106001.length : Int) then (if 0 ≤ x5 then (if ((rd_T58 x106001 x5).f0).toList = x1.toList then (some x5) else (culletref07_flaw.l0 k x1 (wrap64 (x5 + 1)) x106000 x106001 x106002)) else (none)) else (some (-1))
def culletref07_flaw.f (k : Nat) (a0_0 : Int) (l0_1 : List (S58)) (l0_2 : List (S56)) (a1 : ByteArray) : Option (Int) := culletref07_flaw.l0 k a1 0 a0_0 l0_1 l0_2
set_option maxHeartbeats 8000000 in
set_option maxRecDepth 100000 in
theorem culletref07_flaw.calls (k : Nat) (a0_0 : Int) (A0_1 : Option Addr) (c0_1 : Nat) (l0_1 : List (S58)) (A0_2 : Option Addr) (c0_2 : Nat) (l0_2 : List (S56)) (a1 : ByteArray) (r : Int) (w : World) (hr0_1 : Kd.C k58 w A0_1 l0_1.length l0_1) (hc0_1 : l0_1.length ≤ c0_1) (hr0_2 : Kd.C k56 w A0_2 l0_2.length l0_2) (hc0_2 : l0_2.length ≤ c0_2) (h : culletref07_flaw.f k a0_0 l0_1 l0_2 a1 = some r) :
  Calls Try.prog 53 #[.agg #[.int .i64 a0_0, .slice A0_1 l0_1.length c0_1, .slice A0_2 l0_2.length c0_2], .string a1] w fun e w' => e = .returned (.int .i64 r) ∧ Below w.heap.size w w' := by
 have hu25 := Try.underlying25
 have HR0_1 := Aside0.mk hr0_1
 have HC0_1 := Aside0.mk hc0_1
 clear hr0_1 hc0_1
 have HR0_2 := Aside0.mk hr0_2
 have HC0_2 := Aside0.mk hc0_2
 clear hr0_2 hc0_2
 have HB := Aside0.mk (Below.refl w.heap.size w)
 have H : (culletref07_flaw.l0 k a1 0 a0_0 l0_1 l0_2) = some r := h
 clear h
 have H' := Aside0.mk H
 clear H
 go_enter Try.func53, Try.ntmps53
 go_wp2_with (first | ((with_reducible refine gate_dst (N := 2) rfl ?_); refine box_event ?hg (N := 2) ?hd (cs := #[.int .i64 a0_0, .slice A0_1 l0_1.length c0_1, .slice A0_2 l0_2.length c0_2]) (t := 25) ?hr ?_; (case hd => rfl); (case hg => rfl); (case hr => exact zr15); intro gb105 hg w3 hbox hb; have n_ := as4 (below_step zr4 hb) (hbox) ((zr24 : w.heap.size ≤ gb105)) ((zr24 : w.heap.size ≤ gb105)); clear HB hb hbox hg; obtain ⟨HB, BK105, GW105, GE105⟩ := n_))
 go_loopg [5] k (fun kq v5 w' => ∃ (x5_1 : Int), v5 = .int .i64 x5_1 ∧ Aside0 (culletref07_flaw.l0 kq a1 x5_1 a0_0 l0_1 l0_2 = some r) ∧ Aside0 (kq ≤ k) ∧ Aside0 (w'.heap[gb105]? = some (.cells #[.int .i64 a0_0, (.slice A0_1 l0_1.length c0_1), (.slice A0_2 l0_2.length c0_2)] 25 (0, 0))) ∧ Aside0 (Below w.heap.size w w'))
 case atStart => exact ⟨(0), zr9, H', ⟨Nat.le_refl _⟩, ⟨(zr0 BK105.out)⟩, ⟨zr21⟩⟩
 case round =>
  clear H'
  try clear p2
  obtain ⟨x5_1, rfl, HA, HK1, BK105, HB⟩ := hrel
  cases gk with
  | zero => exact absurd HA.out (by simp [culletref07_flaw.l0])
  | succ k1 =>
   have H := HA.out
   clear HA
   simp only [culletref07_flaw.l0] at H
   by_cases c4 : x5_1 < (l0_1.length : Int)
   ·rw [if_pos c4] at H
    have c4b0 : decide (x5_1 < (l0_1.length : Int)) = true := decide_eq_true c4
    clear c4
    by_cases c5 : 0 ≤ x5_1
    ·rw [if_pos c5] at H
     have c5b0 : decide (0 ≤ x5_1) = true := decide_eq_true c5
     clear c5
     by_cases c6 : ((rd_T58 l0_1 x5_1).f0).toList = a1.toList
     ·rw [if_pos c6] at H
      have c6b0 : (((rd_T58 l0_1 x5_1).f0).toList == a1.toList) = true := beq_iff_eq.mpr c6
      have c6b1 : (((rd_T58 l0_1 x5_1).f0).toList != a1.toList) = false := bne_eq_false_iff_eq.mpr c6
      clear c6
      obtain rfl := Option.some.inj H
      obtain ⟨hcz7_0, hcz7_1, hcz7_2, hfz7_0, hfz7_1, hfz7_2⟩ := bcs3 BK105.out
      have p106 : 0 ≤ (x5_1 : Int) := of_decide_eq_true zr2
      have q106 : x5_1 < (l0_1.length : Int) := of_decide_eq_true zr2
      obtain ⟨ad106, e106, hx106_0, hx106_1⟩ := at_T58 HR0_1.out x5_1 p106 q106
      cases e106
      replace hx106_0 := hcx HB.out hx106_0
      replace hx106_1 := hcx HB.out hx106_1
      replace p106 := eq_true p106
      replace q106 := eq_true q106
      go_wp2
      go_ret
      exact ⟨zr10, zr21⟩
     ·rw [if_neg c6] at H
      have c6b0 : (((rd_T58 l0_1 x5_1).f0).toList == a1.toList) = false := beq_eq_false_iff_ne.mpr c6
      have c6b1 : (((rd_T58 l0_1 x5_1).f0).toList != a1.toList) = true := bne_iff_ne.mpr c6
      have H' := Aside0.mk H
      clear H
      obtain ⟨hcz8_0, hcz8_1, hcz8_2, hfz8_0, hfz8_1, hfz8_2⟩ := bcs3 BK105.out
      have p106 : 0 ≤ (x5_1 : Int) := of_decide_eq_true zr2
      have q106 : x5_1 < (l0_1.length : Int) := of_decide_eq_true zr2
      obtain ⟨ad106, e106, hx106_0, hx106_1⟩ := at_T58 HR0_1.out x5_1 p106 q106
      cases e106
      replace hx106_0 := hcx HB.out hx106_0
      replace hx106_1 := hcx HB.out hx106_1
      replace p106 := eq_true p106
      replace q106 := eq_true q106
      go_wp2
      go_roundg k1
      case measure => have := HK1.out; omega
      case rel => exact ⟨(wrap64 (x5_1 + 1)), zr9, H', ⟨by have := HK1.out; omega⟩, ⟨(zr0 BK105.out)⟩, ⟨zr21⟩⟩
    ·rw [if_neg c5] at H
     exact absurd H zr38
   ·rw [if_neg c4] at H
    have c4b0 : decide (x5_1 < (l0_1.length : Int)) = false := decide_eq_false c4
    clear c4
    obtain rfl := Option.some.inj H
    obtain ⟨hcz9_0, hcz9_1, hcz9_2, hfz9_0, hfz9_1, hfz9_2⟩ := bcs3 BK105.out
    go_wp2
    go_ret
    exact ⟨zr10, zr21⟩
def culletref07_stand.l0 : Nat → ByteArray → Int → Int → List (S58) → List (S56) → Option (Int)
 | 0, _, _, _, _, _ => none
 | k + 1, x1, x5, x108000, x108001, x108002 => if x5 < (x108002.length : Int) then (if 0 ≤ x5 then (if ((rd_T56 x108002 x5).f0).toList = x1.toList then (some x5) else (culletref07_stand.l0 k x1 (wrap64 (x5 + 1)) x108000 x108001 x108002)) else (none)) else (some (-1))
def culletref07_stand.f (k : Nat) (a0_0 : Int) (l0_1 : List (S58)) (l0_2 : List (S56)) (a1 : ByteArray) : Option (Int) := culletref07_stand.l0 k a1 0 a0_0 l0_1 l0_2
set_option maxHeartbeats 8000000 in
set_option maxRecDepth 100000 in
theorem culletref07_stand.calls (k : Nat) (a0_0 : Int) (A0_1 : Option Addr) (c0_1 : Nat) (l0_1 : List (S58)) (A0_2 : Option Addr) (c0_2 : Nat) (l0_2 : List (S56)) (a1 : ByteArray) (r : Int) (w : World) (hr0_1 : Kd.C k58 w A0_1 l0_1.length l0_1) (hc0_1 : l0_1.length ≤ c0_1) (hr0_2 : Kd.C k56 w A0_2 l0_2.length l0_2) (hc0_2 : l0_2.length ≤ c0_2) (h : culletref07_stand.f k a0_0 l0_1 l0_2 a1 = some r) :
  Calls Try.prog 54 #[.agg #[.int .i64 a0_0, .slice A0_1 l0_1.length c0_1, .slice A0_2 l0_2.length c0_2], .string a1] w fun e w' => e = .returned (.int .i64 r) ∧ Below w.heap.size w w' := by
 have hu25 := Try.underlying25
 have HR0_1 := Aside0.mk hr0_1
 have HC0_1 := Aside0.mk hc0_1
 clear hr0_1 hc0_1
 have HR0_2 := Aside0.mk hr0_2
 have HC0_2 := Aside0.mk hc0_2
 clear hr0_2 hc0_2
 have HB := Aside0.mk (Below.refl w.heap.size w)
 have H : (culletref07_stand.l0 k a1 0 a0_0 l0_1 l0_2) = some r := h
 clear h
 have H' := Aside0.mk H
 clear H
 go_enter Try.func54, Try.ntmps54
 go_wp2_with (first | ((with_reducible refine gate_dst (N := 2) rfl ?_); refine box_event ?hg (N := 2) ?hd (cs := #[.int .i64 a0_0, .slice A0_1 l0_1.length c0_1, .slice A0_2 l0_2.length c0_2]) (t := 25) ?hr ?_; (case hd => rfl); (case hg => rfl); (case hr => exact zr15); intro gb107 hg w3 hbox hb; have n_ := as4 (below_step zr4 hb) (hbox) ((zr24 : w.heap.size ≤ gb107)) ((zr24 : w.heap.size ≤ gb107)); clear HB hb hbox hg; obtain ⟨HB, BK107, GW107, GE107⟩ := n_))
 go_loopg [5] k (fun kq v5 w' => ∃ (x5_1 : Int), v5 = .int .i64 x5_1 ∧ Aside0 (culletref07_stand.l0 kq a1 x5_1 a0_0 l0_1 l0_2 = some r) ∧ Aside0 (kq ≤ k) ∧ Aside0 (w'.heap[gb107]? = some (.cells #[.int .i64 a0_0, (.slice A0_1 l0_1.length c0_1), (.slice A0_2 l0_2.length c0_2)] 25 (0, 0))) ∧ Aside0 (Below w.heap.size w w'))
 case atStart => exact ⟨(0), zr9, H', ⟨Nat.le_refl _⟩, ⟨(zr0 BK107.out)⟩, ⟨zr22⟩⟩
 case round =>
  clear H'
  try clear p2
  obtain ⟨x5_1, rfl, HA, HK1, BK107, HB⟩ := hrel
  cases gk with
  | zero => exact absurd HA.out (by simp [culletref07_stand.l0])
  | succ k1 =>
   have H := HA.out
   clear HA
   simp only [culletref07_stand.l0] at H
   by_cases c4 : x5_1 < (l0_2.length : Int)
   ·rw [if_pos c4] at H
    have c4b0 : decide (x5_1 < (l0_2.length : Int)) = true := decide_eq_true c4
    clear c4
    by_cases c5 : 0 ≤ x5_1
    ·rw [if_pos c5] at H
     have c5b0 : decide (0 ≤ x5_1) = true := decide_eq_true c5
     clear c5
     by_cases c6 : ((rd_T56 l0_2 x5_1).f0).toList = a1.toList
     ·rw [if_pos c6] at H
      have c6b0 : (((rd_T56 l0_2 x5_1).f0).toList == a1.toList) = true := beq_iff_eq.mpr c6
      have c6b1 : (((rd_T56 l0_2 x5_1).f0).toList != a1.toList) = false := bne_eq_false_iff_eq.mpr c6
      clear c6
      obtain rfl := Option.some.inj H
      obtain ⟨hcz7_0, hcz7_1, hcz7_2, hfz7_0, hfz7_1, hfz7_2⟩ := bcs3 BK107.out
      have p108 : 0 ≤ (x5_1 : Int) := of_decide_eq_true zr2
      have q108 : x5_1 < (l0_2.length : Int) := of_decide_eq_true zr2
      obtain ⟨ad108, A108_1, c108_1, e108, hx108_0, hx108_1, hl108_1, hi108_1⟩ := at_T56 HR0_2.out x5_1 p108 q108
      cases e108
      replace hx108_0 := hcx HB.out hx108_0
      replace hx108_1 := hcx HB.out hx108_1
      have HR108_1 := Aside0.mk hi108_1
      have HC108_1 := Aside0.mk hl108_1
      clear hi108_1 hl108_1
      replace p108 := eq_true p108
      replace q108 := eq_true q108
      go_wp2
      go_ret
      exact ⟨zr10, zr22⟩
     ·rw [if_neg c6] at H
      have c6b0 : (((rd_T56 l0_2 x5_1).f0).toList == a1.toList) = false := beq_eq_false_iff_ne.mpr c6
      have c6b1 : (((rd_T56 l0_2 x5_1).f0).toList != a1.toList) = true := bne_iff_ne.mpr c6
      have H' := Aside0.mk H
      clear H
      obtain ⟨hcz8_0, hcz8_1, hcz8_2, hfz8_0, hfz8_1, hfz8_2⟩ := bcs3 BK107.out
      have p108 : 0 ≤ (x5_1 : Int) := of_decide_eq_true zr2
      have q108 : x5_1 < (l0_2.length : Int) := of_decide_eq_true zr2
      obtain ⟨ad108, A108_1, c108_1, e108, hx108_0, hx108_1, hl108_1, hi108_1⟩ := at_T56 HR0_2.out x5_1 p108 q108
      cases e108
      replace hx108_0 := hcx HB.out hx108_0
      replace hx108_1 := hcx HB.out hx108_1
      have HR108_1 := Aside0.mk hi108_1
      have HC108_1 := Aside0.mk hl108_1
      clear hi108_1 hl108_1
      replace p108 := eq_true p108
      replace q108 := eq_true q108
      go_wp2
      go_roundg k1
      case measure => have := HK1.out; omega
      case rel => exact ⟨(wrap64 (x5_1 + 1)), zr9, H', ⟨by have := HK1.out; omega⟩, ⟨(zr0 BK107.out)⟩, ⟨zr22⟩⟩
    ·rw [if_neg c5] at H
     exact absurd H zr38
   ·rw [if_neg c4] at H
    have c4b0 : decide (x5_1 < (l0_2.length : Int)) = false := decide_eq_false c4
    clear c4
    obtain rfl := Option.some.inj H
    obtain ⟨hcz9_0, hcz9_1, hcz9_2, hfz9_0, hfz9_1, hfz9_2⟩ := bcs3 BK107.out
    go_wp2
    go_ret
    exact ⟨zr10, zr22⟩
end Go.Proofs.Ytbpebehbfpgjbaa.P
end
