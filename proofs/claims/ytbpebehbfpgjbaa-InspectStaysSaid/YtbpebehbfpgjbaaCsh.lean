/- Texts of the proof, joined: what they prove stands at each theorem. -/
import Derived.Test.YtbpebehbfpgjbaaCsb
import Derived.Test.YtbpebehbfpgjbaaCsc
import Derived.Test.YtbpebehbfpgjbaaCse
import Derived.Test.YtbpebehbfpgjbaaCsf
import Derived.Test.YtbpebehbfpgjbaaCsg
section
namespace Go.Proofs.Ytbpebehbfpgjbaa.P
open Go.RowKit Go.Proofs.YtbpebehbfpgjbaaW.PrintWords Go.Proofs.YtbpebehbfpgjbaaW.PrintLast Go.Proofs.YtbpebehbfpgjbaaW.PrintMore
attribute [local go_sem] max2_int min2_int max_two min_two max_three min_three max_four min_four
set_option linter.unusedVariables false
set_option linter.unusedSimpArgs false
mutual
def culletlaw07_many.j0 : Nat → Bool → Int → List (S58) → List (S56) → Option (Bool)
 | 0, _, _, _, _ => none
 | k + 1, x32, x102000, x102001, x102002 => if x32 = true then (some true) else (culletlaw07_many.l0 k 0 0 x102000 x102001 x102002)
def culletlaw07_many.l0 : Nat → Int → Int → Int → List (S58) → List (S56) → Option (Bool)
 | 0, _, _, _, _, _ => none
 | k + 1, x5, x6, x102000, x102001, x102002 => if x6 < (x102001.length : Int) then (if 0 ≤ x6 then (culletlaw07_many.l0 k (wrap64 (x5 + (((rd_T58 x102001 x6).f0).size : Int))) (wrap64 (x6 + 1)) x102000 x102001 x102002) else (none)) else (culletlaw07_many.l1 k x5 0 x102000 x102001 x102002)
def culletlaw07_many.l1 : Nat → Int → Int → Int → List (S58) → List (S56) → Option (Bool)
 | 0, _, _, _, _, _ => none
 | k + 1, x5, x7, x102000, x102001, x102002 => if x7 < (x102002.length : Int) then (if 0 ≤ x7 then (culletlaw07_many.l1 k (wrap64 ((wrap64 (x5 + (((rd_T56 x102002 x7).f0).size : Int))) + (((rd_T56 x102002 x7).f1).length : Int))) (wrap64 (x7 + 1)) x102000 x102001 x102002) else (none)) else (some (decide (x5 > 600)))
end
def culletlaw07_many.f (k : Nat) (a0_0 : Int) (l0_1 : List (S58)) (l0_2 : List (S56)) (l1 : List (S45)) : Option (Bool) := if (l0_1.length : Int) > 20 then (culletlaw07_many.j0 k true a0_0 l0_1 l0_2) else (if (l0_2.length : Int) > 20 then (culletlaw07_many.j0 k true a0_0 l0_1 l0_2) else (if (l1.length : Int) > 40 then (if (l1.length : Int) ≤ 512 then (culletlaw07_many.j0 k true a0_0 l0_1 l0_2) else (culletlaw07_many.j0 k (decide ((l1.length : Int) > 600)) a0_0 l0_1 l0_2)) else (culletlaw07_many.j0 k (decide ((l1.length : Int) > 600)) a0_0 l0_1 l0_2)))
set_option maxHeartbeats 8000000 in
set_option maxRecDepth 100000 in
theorem culletlaw07_many.calls (k : Nat) (a0_0 : Int) (A0_1 : Option Addr) (c0_1 : Nat) (l0_1 : List (S58)) (A0_2 : Option Addr) (c0_2 : Nat) (l0_2 : List (S56)) (A1 : Option Addr) (c1 : Nat) (l1 : List (S45)) (r : Bool) (w : World) (hr0_1 : Kd.C k58 w A0_1 l0_1.length l0_1) (hc0_1 : l0_1.length ≤ c0_1) (hr0_2 : Kd.C k56 w A0_2 l0_2.length l0_2) (hc0_2 : l0_2.length ≤ c0_2) (hr1 : Kd.C k45 w A1 l1.length l1) (hc1 : l1.length ≤ c1) (h : culletlaw07_many.f k a0_0 l0_1 l0_2 l1 = some r) :
  Calls Try.prog 10 #[.agg #[.int .i64 a0_0, .slice A0_1 l0_1.length c0_1, .slice A0_2 l0_2.length c0_2], .slice A1 l1.length c1] w fun e w' => e = .returned (.bool r) ∧ Below w.heap.size w w' := by
 have hu25 := Try.underlying25
 have HR0_1 := Aside0.mk hr0_1
 have HC0_1 := Aside0.mk hc0_1
 clear hr0_1 hc0_1
 have HR0_2 := Aside0.mk hr0_2
 have HC0_2 := Aside0.mk hc0_2
 clear hr0_2 hc0_2
 have HR1 := Aside0.mk hr1
 have HC1 := Aside0.mk hc1
 clear hr1 hc1
 have HB := Aside0.mk (Below.refl w.heap.size w)
 have H : (if (l0_1.length : Int) > 20 then (culletlaw07_many.j0 k true a0_0 l0_1 l0_2) else (if (l0_2.length : Int) > 20 then (culletlaw07_many.j0 k true a0_0 l0_1 l0_2) else (if (l1.length : Int) > 40 then (if (l1.length : Int) ≤ 512 then (culletlaw07_many.j0 k true a0_0 l0_1 l0_2) else (culletlaw07_many.j0 k (decide ((l1.length : Int) > 600)) a0_0 l0_1 l0_2)) else (culletlaw07_many.j0 k (decide ((l1.length : Int) > 600)) a0_0 l0_1 l0_2)))) = some r := h
 clear h
 have HC3 := Aside0.mk H
 clear H
 go_enter Try.func10, Try.ntmps10
 go_upto_region 1 with (first | ((with_reducible refine gate_dst (N := 2) rfl ?_); (try (refine gate_guard zq56 ?_; dsimp only)); refine box_event ?hg (N := 2) ?hd (cs := #[.int .i64 a0_0, .slice A0_1 l0_1.length c0_1, .slice A0_2 l0_2.length c0_2]) (t := 25) ?hr ?_; (case hd => rfl); (case hg => rfl); (case hr => exact zq14); intro gb101 hg w4 hbox hb; have n_ := as4 (below_step zq3 hb) (hbox) ((zq24 : w.heap.size ≤ gb101)) ((zq24 : w.heap.size ≤ gb101)); clear HB hb hbox hg; obtain ⟨HB, BK101, GW101, GE101⟩ := n_))
 repeat (go_quiet (first | ((with_reducible refine gate_dst (N := 2) rfl ?_); (try (refine gate_guard zq56 ?_; dsimp only)); refine box_event ?hg (N := 2) ?hd (cs := #[.int .i64 a0_0, .slice A0_1 l0_1.length c0_1, .slice A0_2 l0_2.length c0_2]) (t := 25) ?hr ?_; (case hd => rfl); (case hg => rfl); (case hr => exact zq14); intro gb101 hg w4 hbox hb; have n_ := as4 (below_step zq3 hb) (hbox) ((zq24 : w.heap.size ≤ gb101)) ((zq24 : w.heap.size ≤ gb101)); clear HB hb hbox hg; obtain ⟨HB, BK101, GW101, GE101⟩ := n_)); go_upto_region 1 with (first | ((with_reducible refine gate_dst (N := 2) rfl ?_); (try (refine gate_guard zq56 ?_; dsimp only)); refine box_event ?hg (N := 2) ?hd (cs := #[.int .i64 a0_0, .slice A0_1 l0_1.length c0_1, .slice A0_2 l0_2.length c0_2]) (t := 25) ?hr ?_; (case hd => rfl); (case hg => rfl); (case hr => exact zq14); intro gb101 hg w4 hbox hb; have n_ := as4 (below_step zq3 hb) (hbox) ((zq24 : w.heap.size ≤ gb101)) ((zq24 : w.heap.size ≤ gb101)); clear HB hb hbox hg; obtain ⟨HB, BK101, GW101, GE101⟩ := n_)))
 (try simp only [Act.put, List.setIfInBounds_toArray, List.set_cons_zero, List.set_cons_succ])
 go_cut [32] (fun v32 wc => ∃ (kq : Nat) (x32_2 : Bool), v32 = .bool x32_2 ∧ Aside0 (culletlaw07_many.j0 kq x32_2 a0_0 l0_1 l0_2 = some r) ∧ Aside0 (kq ≤ k) ∧ Aside0 (wc.heap[gb101]? = some (.cells #[.int .i64 a0_0, (.slice A0_1 l0_1.length c0_1), (.slice A0_2 l0_2.length c0_2)] 25 (0, 0))) ∧ Aside0 (Below w.heap.size w wc))
 case first =>
  have H := HC3.out
  clear HC3
  by_cases c5 : (l0_1.length : Int) > 20
  ·rw [if_pos c5] at H
   have c5b0 : decide (20 < (l0_1.length : Int)) = true := decide_eq_true c5
   have c5b1 : decide (20 < l0_1.length) = true := decide_eq_true zq16
   clear c5
   (first | rw [c5b0] | (simp only [i64_w, i32_w]; rw [c5b0]) | skip)
   have H' := Aside0.mk H
   clear H
   obtain ⟨hcz6_0, hcz6_1, hcz6_2, hfz6_0, hfz6_1, hfz6_2⟩ := bcs3 BK101.out
   go_wp2
   repeat (go_quiet (fail); try go_wp2)
   go_meet
   case rel => exact ⟨_, (true), zq11, H', ⟨zq50⟩, ⟨(zq0 BK101.out)⟩, ⟨zq13⟩⟩
  ·rw [if_neg c5] at H
   have c5b0 : decide (20 < (l0_1.length : Int)) = false := decide_eq_false c5
   have c5b1 : decide (20 < l0_1.length) = false := decide_eq_false zq16
   clear c5
   (first | rw [c5b0] | (simp only [i64_w, i32_w]; rw [c5b0]) | skip)
   by_cases c7 : (l0_2.length : Int) > 20
   ·rw [if_pos c7] at H
    have c7b0 : decide (20 < (l0_2.length : Int)) = true := decide_eq_true c7
    have c7b1 : decide (20 < l0_2.length) = true := decide_eq_true zq16
    clear c7
    have H' := Aside0.mk H
    clear H
    obtain ⟨hcz8_0, hcz8_1, hcz8_2, hfz8_0, hfz8_1, hfz8_2⟩ := bcs3 BK101.out
    go_wp2
    repeat (go_quiet (fail); try go_wp2)
    go_meet
    case rel => exact ⟨_, (true), zq11, H', ⟨zq50⟩, ⟨(zq0 BK101.out)⟩, ⟨zq13⟩⟩
   ·rw [if_neg c7] at H
    have c7b0 : decide (20 < (l0_2.length : Int)) = false := decide_eq_false c7
    have c7b1 : decide (20 < l0_2.length) = false := decide_eq_false zq16
    clear c7
    by_cases c9 : (l1.length : Int) > 40
    ·rw [if_pos c9] at H
     have c9b0 : decide (40 < (l1.length : Int)) = true := decide_eq_true c9
     have c9b1 : decide (40 < l1.length) = true := decide_eq_true zq16
     clear c9
     by_cases c10 : (l1.length : Int) ≤ 512
     ·rw [if_pos c10] at H
      have c10b0 : decide ((l1.length : Int) ≤ 512) = true := decide_eq_true c10
      have c10b1 : decide (l1.length ≤ 512) = true := decide_eq_true zq16
      clear c10
      have H' := Aside0.mk H
      clear H
      obtain ⟨hcz11_0, hcz11_1, hcz11_2, hfz11_0, hfz11_1, hfz11_2⟩ := bcs3 BK101.out
      go_wp2
      repeat (go_quiet (fail); try go_wp2)
      go_meet
      case rel => exact ⟨_, (true), zq11, H', ⟨zq50⟩, ⟨(zq0 BK101.out)⟩, ⟨zq13⟩⟩
     ·rw [if_neg c10] at H
      have c10b0 : decide ((l1.length : Int) ≤ 512) = false := decide_eq_false c10
      have c10b1 : decide (l1.length ≤ 512) = false := decide_eq_false zq16
      clear c10
      have H' := Aside0.mk H
      clear H
      obtain ⟨hcz12_0, hcz12_1, hcz12_2, hfz12_0, hfz12_1, hfz12_2⟩ := bcs3 BK101.out
      go_wp2
      repeat (go_quiet (fail); try go_wp2)
      go_meet
      case rel => exact ⟨_, (decide ((l1.length : Int) > 600)), zq11, H', ⟨zq50⟩, ⟨(zq0 BK101.out)⟩, ⟨zq13⟩⟩
    ·rw [if_neg c9] at H
     have c9b0 : decide (40 < (l1.length : Int)) = false := decide_eq_false c9
     have c9b1 : decide (40 < l1.length) = false := decide_eq_false zq16
     clear c9
     have H' := Aside0.mk H
     clear H
     obtain ⟨hcz13_0, hcz13_1, hcz13_2, hfz13_0, hfz13_1, hfz13_2⟩ := bcs3 BK101.out
     go_wp2
     repeat (go_quiet (fail); try go_wp2)
     go_meet
     case rel => exact ⟨_, (decide ((l1.length : Int) > 600)), zq11, H', ⟨zq50⟩, ⟨(zq0 BK101.out)⟩, ⟨zq13⟩⟩
 case rest =>
  clear HC3
  try clear c1
  try clear p2
  try clear c5
  try clear c5b0
  try clear c5b1
  try clear c7
  try clear c7b0
  try clear c7b1
  try clear c9
  try clear c9b0
  try clear c9b1
  try clear c10
  try clear c10b0
  try clear c10b1
  try clear hcz11_0 hcz11_1 hcz11_2 hfz11_0 hfz11_1 hfz11_2
  try clear hcz12_0 hcz12_1 hcz12_2 hfz12_0 hfz12_1 hfz12_2
  try clear hcz13_0 hcz13_1 hcz13_2 hfz13_0 hfz13_1 hfz13_2
  try clear hcz6_0 hcz6_1 hcz6_2 hfz6_0 hfz6_1 hfz6_2
  try clear hcz8_0 hcz8_1 hcz8_2 hfz8_0 hfz8_1 hfz8_2
  obtain ⟨kq, x32_2, rfl, HA, HJ2, BK101, HB⟩ := hcut
  cases kq with
  | zero => exact absurd HA.out (by simp [culletlaw07_many.j0])
  | succ kj2 =>
   have H := HA.out
   clear HA
   simp only [culletlaw07_many.j0] at H
   by_cases c14 : x32_2 = true
   ·subst c14
    have H1 : (some true) = some r := by rw [if_pos rfl] at H; exact H
    clear H
    have H := H1
    clear H1
    obtain rfl := Option.some.inj H
    go_wp2
    repeat (go_quiet (fail); try go_wp2)
    go_ret
    exact ⟨zq10, zq13⟩
   ·replace c14 := Bool.eq_false_iff.mpr c14
    subst c14
    have H1 : (culletlaw07_many.l0 kj2 0 0 a0_0 l0_1 l0_2) = some r := by rw [if_neg (show ¬ (false = true) by decide)] at H; exact H
    clear H
    have H := H1
    clear H1
    have H' := Aside0.mk H
    clear H
    go_wp2
    repeat (go_quiet (fail); try go_wp2)
    go_loopg [5, 6] kj2 (fun kq v5 v6 w' => ∃ (x5_2 : Int) (x6_2 : Int), v5 = .int .i64 x5_2 ∧ v6 = .int .i64 x6_2 ∧ Aside0 (culletlaw07_many.l0 kq x5_2 x6_2 a0_0 l0_1 l0_2 = some r) ∧ Aside0 (kq ≤ kj2) ∧ Aside0 (w'.heap[gb101]? = some (.cells #[.int .i64 a0_0, (.slice A0_1 l0_1.length c0_1), (.slice A0_2 l0_2.length c0_2)] 25 (0, 0))) ∧ Aside0 (Below w.heap.size w w'))
    case atStart => exact ⟨(0), (0), zq11, zq11, H', ⟨Nat.le_refl _⟩, ⟨(zq0 BK101.out)⟩, ⟨zq13⟩⟩
    case round =>
     clear H'
     try clear c1
     try clear p2 p2
     try clear c5
     try clear c5b0
     try clear c5b1
     try clear c7
     try clear c7b0
     try clear c7b1
     try clear c9
     try clear c9b0
     try clear c9b1
     try clear c10
     try clear c10b0
     try clear c10b1
     try clear c14
     try clear hcz11_0 hcz11_1 hcz11_2 hfz11_0 hfz11_1 hfz11_2
     try clear hcz12_0 hcz12_1 hcz12_2 hfz12_0 hfz12_1 hfz12_2
     try clear hcz13_0 hcz13_1 hcz13_2 hfz13_0 hfz13_1 hfz13_2
     try clear hcz6_0 hcz6_1 hcz6_2 hfz6_0 hfz6_1 hfz6_2
     try clear hcz8_0 hcz8_1 hcz8_2 hfz8_0 hfz8_1 hfz8_2
     obtain ⟨x5_2, x6_2, rfl, rfl, HA, HK2, BK101, HB⟩ := hrel
     cases gk with
     | zero => exact absurd HA.out (by simp [culletlaw07_many.l0])
     | succ k2 =>
      have H := HA.out
      clear HA
      simp only [culletlaw07_many.l0] at H
      by_cases c15 : x6_2 < (l0_1.length : Int)
      ·rw [if_pos c15] at H
       have c15b0 : decide (x6_2 < (l0_1.length : Int)) = true := decide_eq_true c15
       clear c15
       by_cases c16 : 0 ≤ x6_2
       ·rw [if_pos c16] at H
        have c16b0 : decide (0 ≤ x6_2) = true := decide_eq_true c16
        clear c16
        have H' := Aside0.mk H
        clear H
        obtain ⟨hcz17_0, hcz17_1, hcz17_2, hfz17_0, hfz17_1, hfz17_2⟩ := bcs3 BK101.out
        have p102 : 0 ≤ (x6_2 : Int) := of_decide_eq_true zq7
        have q102 : x6_2 < (l0_1.length : Int) := of_decide_eq_true zq7
        obtain ⟨ad102, e102, hx102_0, hx102_1⟩ := at_T58 HR0_1.out x6_2 p102 q102
        cases e102
        replace hx102_0 := hcx HB.out hx102_0
        replace hx102_1 := hcx HB.out hx102_1
        replace p102 := eq_true p102
        replace q102 := eq_true q102
        go_wp2
        repeat (go_quiet (fail); try go_wp2)
        go_roundg k2
        case measure => have := HJ2.out; have := HK2.out; omega
        case rel => exact ⟨(wrap64 (x5_2 + (((rd_T58 l0_1 x6_2).f0).size : Int))), (wrap64 (x6_2 + 1)), zq11, zq11, H', ⟨by have := HJ2.out; have := HK2.out; omega⟩, ⟨(zq0 BK101.out)⟩, ⟨zq13⟩⟩
       ·rw [if_neg c16] at H
        exact absurd H zq51
      ·rw [if_neg c15] at H
       have c15b0 : decide (x6_2 < (l0_1.length : Int)) = false := decide_eq_false c15
       clear c15
       have H' := Aside0.mk H
       clear H
       obtain ⟨hcz18_0, hcz18_1, hcz18_2, hfz18_0, hfz18_1, hfz18_2⟩ := bcs3 BK101.out
       go_wp2
       repeat (go_quiet (fail); try go_wp2)
       go_loopg [5, 7] k2 (fun kq v5 v7 w' => ∃ (x5_3 : Int) (x7_3 : Int), v5 = .int .i64 x5_3 ∧ v7 = .int .i64 x7_3 ∧ Aside0 (culletlaw07_many.l1 kq x5_3 x7_3 a0_0 l0_1 l0_2 = some r) ∧ Aside0 (kq ≤ k2) ∧ Aside0 (w'.heap[gb101]? = some (.cells #[.int .i64 a0_0, (.slice A0_1 l0_1.length c0_1), (.slice A0_2 l0_2.length c0_2)] 25 (0, 0))) ∧ Aside0 (Below w.heap.size w w'))
       case atStart => exact ⟨(x5_2), (0), zq11, zq11, H', ⟨Nat.le_refl _⟩, ⟨(zq0 BK101.out)⟩, ⟨zq13⟩⟩
       case round =>
        clear H'
        try clear c1
        try clear p1
        try clear q1
        try clear hx1
        try clear p2 p2
        try clear c5
        try clear c5b0
        try clear c5b1
        try clear p6
        try clear c7
        try clear c7b0
        try clear c7b1
        try clear c9
        try clear c9b0
        try clear c9b1
        try clear c10
        try clear c10b0
        try clear c10b1
        try clear p10
        try clear q10
        try clear hx10
        try clear c14
        try clear c15
        try clear c15b0
        try clear c16
        try clear c16b0
        try clear hcz11_0 hcz11_1 hcz11_2 hfz11_0 hfz11_1 hfz11_2
        try clear hcz12_0 hcz12_1 hcz12_2 hfz12_0 hfz12_1 hfz12_2
        try clear hcz13_0 hcz13_1 hcz13_2 hfz13_0 hfz13_1 hfz13_2
        try clear hcz17_0 hcz17_1 hcz17_2 hfz17_0 hfz17_1 hfz17_2
        try clear hcz18_0 hcz18_1 hcz18_2 hfz18_0 hfz18_1 hfz18_2
        try clear hcz6_0 hcz6_1 hcz6_2 hfz6_0 hfz6_1 hfz6_2
        try clear hcz8_0 hcz8_1 hcz8_2 hfz8_0 hfz8_1 hfz8_2
        try clear hx102_0
        try clear hx102_1
        try clear p102
        try clear q102
        obtain ⟨x5_3, x7_3, rfl, rfl, HA, HK3, BK101, HB⟩ := hrel
        cases gk with
        | zero => exact absurd HA.out (by simp [culletlaw07_many.l1])
        | succ k3 =>
         have H := HA.out
         clear HA
         simp only [culletlaw07_many.l1] at H
         by_cases c19 : x7_3 < (l0_2.length : Int)
         ·rw [if_pos c19] at H
          have c19b0 : decide (x7_3 < (l0_2.length : Int)) = true := decide_eq_true c19
          clear c19
          by_cases c20 : 0 ≤ x7_3
          ·rw [if_pos c20] at H
           have c20b0 : decide (0 ≤ x7_3) = true := decide_eq_true c20
           clear c20
           have H' := Aside0.mk H
           clear H
           obtain ⟨hcz21_0, hcz21_1, hcz21_2, hfz21_0, hfz21_1, hfz21_2⟩ := bcs3 BK101.out
           have p103 : 0 ≤ (x7_3 : Int) := of_decide_eq_true zq7
           have q103 : x7_3 < (l0_2.length : Int) := of_decide_eq_true zq7
           obtain ⟨ad103, A103_1, c103_1, e103, hx103_0, hx103_1, hl103_1, hi103_1⟩ := at_T56 HR0_2.out x7_3 p103 q103
           cases e103
           replace hx103_0 := hcx HB.out hx103_0
           replace hx103_1 := hcx HB.out hx103_1
           have HR103_1 := Aside0.mk hi103_1
           have HC103_1 := Aside0.mk hl103_1
           clear hi103_1 hl103_1
           replace p103 := eq_true p103
           replace q103 := eq_true q103
           have p104 : 0 ≤ (x7_3 : Int) := of_decide_eq_true zq7
           have q104 : x7_3 < (l0_2.length : Int) := of_decide_eq_true zq7
           obtain ⟨ad104, A104_1, c104_1, e104, hx104_0, hx104_1, hl104_1, hi104_1⟩ := at_T56 HR0_2.out x7_3 p104 q104
           obtain rfl : ad103 = ad104 := (by injection e104)
           replace hx104_0 := hcx HB.out hx104_0
           replace hx104_1 := hcx HB.out hx104_1
           have HR104_1 := Aside0.mk hi104_1
           have HC104_1 := Aside0.mk hl104_1
           clear hi104_1 hl104_1
           replace p104 := eq_true p104
           replace q104 := eq_true q104
           have ea_ := Option.some.inj (hx103_1.symm.trans hx104_1)
           injection ea_ with ea_ en_ ec_
           subst ea_
           subst ec_
           clear en_
           go_wp2
           repeat (go_quiet (fail); try go_wp2)
           go_roundg k3
           case measure => have := HJ2.out; have := HK2.out; have := HK3.out; omega
           case rel => exact ⟨(wrap64 ((wrap64 (x5_3 + (((rd_T56 l0_2 x7_3).f0).size : Int))) + (((rd_T56 l0_2 x7_3).f1).length : Int))), (wrap64 (x7_3 + 1)), zq11, zq11, H', ⟨by have := HJ2.out; have := HK2.out; have := HK3.out; omega⟩, ⟨(zq0 BK101.out)⟩, ⟨zq13⟩⟩
          ·rw [if_neg c20] at H
           exact absurd H zq51
         ·rw [if_neg c19] at H
          have c19b0 : decide (x7_3 < (l0_2.length : Int)) = false := decide_eq_false c19
          clear c19
          obtain rfl := Option.some.inj H
          obtain ⟨hcz22_0, hcz22_1, hcz22_2, hfz22_0, hfz22_1, hfz22_2⟩ := bcs3 BK101.out
          go_wp2
          repeat (go_quiet (fail); try go_wp2)
          go_ret
          exact ⟨zq10, zq13⟩
end Go.Proofs.Ytbpebehbfpgjbaa.P
end
section
namespace Go.Proofs.Ytbpebehbfpgjbaa.P
open Go.RowKit Go.Proofs.YtbpebehbfpgjbaaW.PrintWords Go.Proofs.YtbpebehbfpgjbaaW.PrintLast Go.Proofs.YtbpebehbfpgjbaaW.PrintMore
set_option linter.unusedVariables false
set_option linter.unusedSimpArgs false
open GM
theorem R_keep3' {α : Type} {d : Kd α} {e base : Nat} {Q : Nat → Prop} {W w1 : World} {v v1 u : Value} {xs : List α} (h : d.R e W base (fun k => Q k ∧ some k ≠ v.ownBlock) u xs) (hg : W.grownBy w1 v.ownBlock) (hat : v1.ownBlock = v.ownBlock ∨ ∃ b, v1.ownBlock = some b ∧ W.heap.size ≤ b) : d.R e w1 base (fun k => Q k ∧ some k ≠ v1.ownBlock) u xs :=
 Kd.R_mono (R_keep3 (Kd.R_mono h (fun k hk => And.intro hk.2 hk.1)) hg hat) (fun k hk => ⟨hk.2, hk.1⟩)
theorem lotsP_range {every : Int} {fl : List S58} {st : List S56} {l : List S45} (h : Valid every fl st l) : ∀ i n, n ∈ lotsP l i → 0 ≤ n ∧ n ≤ 1000000
 | 0, n, hn => by simp [lotsP] at hn
 | i + 1, n, hn => by
  unfold lotsP at hn
  split at hn
  ·rename_i hk
   rcases (mem_putS _ _ _).1 hn with rfl | hn
   ·refine h.lot i ?_
    unfold keptB at hk
    simp only [Bool.and_eq_true, beq_iff_eq] at hk
    exact hk.1
   ·exact lotsP_range h i n hn
  ·exact lotsP_range h i n hn
theorem take_filter (p : Int → Bool) (l : List Int) (i : Nat) (h : i < l.length) : (l.take (i + 1)).filter p = if p (rd l i) = true then (l.take i).filter p ++ [rd l i] else (l.take i).filter p := by
 have hr : rd l (i : Int) = l[i] := by simp [rd, h]
 rw [List.take_succ_eq_append_getElem h, List.filter_append, hr]
 by_cases hp : p l[i] = true <;> simp [hp]
set_option maxHeartbeats 8000000 in
set_option maxRecDepth 100000 in
theorem inspect_Lots.calls (a0_0 : Int) (A0_1 : Option Addr) (c0_1 : Nat) (l0_1 : List S58) (A0_2 : Option Addr) (c0_2 : Nat) (l0_2 : List S56) (A1 : Option Addr) (c1 : Nat) (l1 : List S45) (r1 r2 r3 : List Int) (r4 : Int) (w : World)
  (hr0_1 : Kd.C k58 w A0_1 l0_1.length l0_1) (hc0_1 : l0_1.length ≤ c0_1) (hr0_2 : Kd.C k56 w A0_2 l0_2.length l0_2) (hc0_2 : l0_2.length ≤ c0_2) (hr1 : Kd.C k45 w A1 l1.length l1) (hc1 : l1.length ≤ c1) (h : inspect_Lots.f a0_0 l0_1 l0_2 l1 = some (r1, r2, r3, r4)) :
  Calls Try.prog 17 #[.agg #[.int .i64 a0_0, .slice A0_1 l0_1.length c0_1, .slice A0_2 l0_2.length c0_2], .slice A1 l1.length c1] w fun e w' =>
   ∃ v0_ v1_ v2_ : Value, e = .returned (.tuple #[v0_, v1_, v2_, .int .i64 r4]) ∧ Kd.R (Kd.int .i64) 3 w' w.heap.size (fun k_ => some k_ ≠ (v1_ : Value).ownBlock ∧ some k_ ≠ (v2_ : Value).ownBlock) v0_ r1 ∧ Kd.R (Kd.int .i64) 3 w' w.heap.size (fun k_ => some k_ ≠ (v0_ : Value).ownBlock ∧ some k_ ≠ (v2_ : Value).ownBlock) v1_ r2 ∧ Kd.R (Kd.int .i64) 3 w' w.heap.size (fun k_ => some k_ ≠ (v0_ : Value).ownBlock ∧ some k_ ≠ (v1_ : Value).ownBlock) v2_ r3 ∧ Below w.heap.size w w' := by
 have hj : lotsF a0_0 l0_1 l0_2 l1 = (r1, r2, r3, r4) := Option.some.inj h
 clear h
 have hb1 := (Below.refl w.heap.size w).alloc (Nat.le_refl _) (.cells #[.int .i64 a0_0, .slice A0_1 l0_1.length c0_1, .slice A0_2 l0_2.length c0_2] 25)
 have hlog := checklog_plain a0_0 A0_1 c0_1 l0_1 A0_2 c0_2 l0_2 A1 c1 l1 w hr0_1 hc0_1 hr0_2 hc0_2 hr1 hc1 _ hb1
 have HB1 := Aside0.mk hb1
 have HC1 := Aside0.mk (blk_new w (.cells #[.int .i64 a0_0, .slice A0_1 l0_1.length c0_1, .slice A0_2 l0_2.length c0_2] 25))
 clear hb1
 unfold lotsF at hj
 by_cases h0 : logS a0_0 l0_1 l0_2 l1 = 0
 ·rw [if_neg (fun hh => hh h0)] at hj
  obtain ⟨e1, e2, e3, rfl⟩ : (lotsP l1 l1.length).filter (fun m => lotState a0_0 l0_1 l0_2 l1 m == 2) = r1 ∧ (lotsP l1 l1.length).filter (fun m => lotState a0_0 l0_1 l0_2 l1 m == 3) = r2 ∧ (lotsP l1 l1.length).filter (fun m => !(lotState a0_0 l0_1 l0_2 l1 m == 2) && !(lotState a0_0 l0_1 l0_2 l1 m == 3)) = r3 ∧ 0 = r4 := by simpa only [Prod.mk.injEq] using hj
  have HE := Aside0.mk (And.intro e1 (And.intro e2 e3))
  have hv := logS_valid h0
  have hlots := fun (W : World) (hW : Below w.heap.size w W) => inspect_lots.calls a0_0 A0_1 c0_1 l0_1 A0_2 c0_2 l0_2 A1 c1 l1 W (Kd.C_below hr0_1 hW) hc0_1 (Kd.C_below hr0_2 hW) hc0_2 (Kd.C_below hr1 hW) hv
  rw [h0] at hlog
  have HNL := Aside0.mk (show (lotsP l1 l1.length).length ≤ 512 from Nat.le_trans (lotsP_len l1 _) hv.len)
  have HLEN := Aside0.mk hv.len
  have HV := Aside0.mk hv
  clear hr0_1 hr0_2 hr1 hv h0 hj e1 e2 e3
  go_enter Try.func17, Try.ntmps17
  go_wp2_with (first
   | (go_at_call 19; (with_reducible refine hlog.mono ?_); rintro e w1 ⟨rfl, hb⟩; have HB2 := Aside0.mk (below_step HB1.out hb); have HC2 := Aside0.mk (blk_below HC1.out hb); have hc00 : w1.cell? ⟨w.heap.size, 0, none⟩ = some (.int .i64 a0_0) := (blk_cell HC2.out 0).trans rfl; have hc01 : w1.cell? ⟨w.heap.size, 1, none⟩ = some (.slice A0_1 l0_1.length c0_1) := (blk_cell HC2.out 1).trans rfl; have hc02 : w1.cell? ⟨w.heap.size, 2, none⟩ = some (.slice A0_2 l0_2.length c0_2) := (blk_cell HC2.out 2).trans rfl; clear hb)
   | (go_at_call 43; (with_reducible refine (hlots _ HB2.out).mono ?_); rintro e w3 ⟨mv, base, rfl, hm, hb⟩; obtain ⟨mr, hmr⟩ : ∃ r, mv = .map r := hm.elim (fun h => ⟨none, h.1⟩) (fun ⟨b, h, _⟩ => ⟨some b, h⟩); subst hmr; have HB3 := Aside0.mk ((below_step HB2.out hb).alloc (below_step HB2.out hb).size (.cells #[.map mr] 90)); have HSH := Aside0.mk (blk_new w3 (.cells #[.map mr] 90)); have HM := Aside0.mk (show Value.map mr = .map none ∧ shelfP a0_0 l0_1 l0_2 l1 l1.length = (fun _ => []) ∨ ∃ b, Value.map mr = .map (some b) ∧ Groups Try.prog 3 46 .u8 (w3.alloc (.cells #[.map mr] 90)) base b (shelfP a0_0 l0_1 l0_2 l1 l1.length) from hm.imp id (fun ⟨b, h1, h2⟩ => ⟨b, h1, h2.below ((Below.refl _ w3).alloc (Nat.le_refl _) _)⟩)); clear hb hm)
   | (go_at_call 44; (with_reducible refine (inspect_numbers.calls w3.heap.size (.map mr) base _ (lotsP l1 l1.length) _ HSH.out HM.out HNL.out (fun key hk => (shelfP_key a0_0 l0_1 l0_2 l1 key _).1 hk)).mono ?_); rintro e wn ⟨vn, zn, rfl, ho, hzl, hzs, hzm, hb⟩; have HZ := Aside0.mk (sorted_ext hzs (lotsP_sorted l1 l1.length) (fun x => (hzm x).trans ((shelfP_key a0_0 l0_1 l0_2 l1 (.int .i64 x) _).trans ⟨fun ⟨m, h1, h2⟩ => by cases h2; exact h1, fun h1 => ⟨x, h1, rfl⟩⟩))); have HO0 := Aside0.mk ho; have HBN := Aside0.mk (below_step HB3.out hb); have HSN := Aside0.mk (blk_below HSH.out hb); have HMN := Aside0.mk (show Value.map mr = .map none ∧ shelfP a0_0 l0_1 l0_2 l1 l1.length = (fun _ => []) ∨ ∃ b, Value.map mr = .map (some b) ∧ Groups Try.prog 3 46 .u8 wn base b (shelfP a0_0 l0_1 l0_2 l1 l1.length) from HM.out.imp id (fun ⟨b, h1, h2⟩ => ⟨b, h1, h2.below hb⟩)); clear ho hzl hzs hzm hb; obtain ⟨An, cn, he, _, hCn⟩ := Kd.R_reads (Kd.R_of_own (h1 := fun _ => rfl) (ok := fun _ => True) HO0.out (fun _ _ => trivial)); subst he; have HCN := Aside0.mk (show Kd.C (Kd.int .i64) wn An zn.length zn from hCn); clear hCn))
  have hz := HZ.out
  subst hz
  clear HZ hc00 hc01 hc02
  go_loopg [4, 5, 6, 23] (lotsP l1 l1.length).length (fun gg s4 s5 s6 s23 wr => ∃ (i : Nat) (v4 v5 v6 : Value), s23 = .int .i64 (i : Int) ∧ v4 = s4 ∧ v5 = s5 ∧ v6 = s6 ∧ Aside0 (i ≤ (lotsP l1 l1.length).length ∧ (lotsP l1 l1.length).length - i ≤ gg) ∧ Aside0 (Below wn.heap.size wn wr) ∧ Aside0 (Kd.R (Kd.int .i64) 3 wr wn.heap.size (fun k_ => some k_ ≠ (v5 : Value).ownBlock ∧ some k_ ≠ (v6 : Value).ownBlock) v4 (((lotsP l1 l1.length).take i).filter (fun m => lotState a0_0 l0_1 l0_2 l1 m == 2))) ∧ Aside0 (Kd.R (Kd.int .i64) 3 wr wn.heap.size (fun k_ => some k_ ≠ (v4 : Value).ownBlock ∧ some k_ ≠ (v6 : Value).ownBlock) v5 (((lotsP l1 l1.length).take i).filter (fun m => lotState a0_0 l0_1 l0_2 l1 m == 3))) ∧ Aside0 (Kd.R (Kd.int .i64) 3 wr wn.heap.size (fun k_ => some k_ ≠ (v4 : Value).ownBlock ∧ some k_ ≠ (v5 : Value).ownBlock) v6 (((lotsP l1 l1.length).take i).filter (fun m => !(lotState a0_0 l0_1 l0_2 l1 m == 2) && !(lotState a0_0 l0_1 l0_2 l1 m == 3)))))
  case atStart => exact ⟨0, _, _, _, rfl, rfl, rfl, rfl, ⟨zq16, zq16⟩, ⟨Below.refl _ _⟩, ⟨Kd.R_nil _ _ _ _ _⟩, ⟨Kd.R_nil _ _ _ _ _⟩, ⟨Kd.R_nil _ _ _ _ _⟩⟩
  case round =>
   obtain ⟨i, v4, v5, v6, rfl, rfl, rfl, rfl, hi, HB, H4, H5, H6⟩ := hrel
   by_cases hlt : i < (lotsP l1 l1.length).length
   ·have hlt' : (i : Int) < ((lotsP l1 l1.length).length : Int) := by omega
    have hb0 : decide (i < (lotsP l1 l1.length).length) = true := decide_eq_true hlt
    have hq0 : 0 ≤ (i : Int) := by omega
    have hq1 : (i : Int) ≤ 511 := by have := HNL.out; omega
    obtain ⟨ad, cs, rfl, _, hK, hc0⟩ := Kd.C_get (Kd.C_below HCN.out HB.out) (0 : Int) (i : Int) hq0 hlt'
    obtain rfl : cs = [.int .i64 ((lotsP l1 l1.length).getD (i : Int).toNat 0)] := hK
    have hx := hc0 0 _ rfl
    have hgd : (lotsP l1 l1.length).getD (i : Int).toNat 0 = rd (lotsP l1 l1.length) (i : Int) := rfl
    rw [hgd] at hx
    simp only [show (Kd.int .i64).sz = 1 from rfl, Nat.mul_one, Nat.add_zero, Int.toNat_natCast] at hx
    clear hc0 hgd
    have t2 := take_filter (fun m => lotState a0_0 l0_1 l0_2 l1 m == 2) (lotsP l1 l1.length) i hlt
    have t3 := take_filter (fun m => lotState a0_0 l0_1 l0_2 l1 m == 3) (lotsP l1 l1.length) i hlt
    have t6 := take_filter (fun m => !(lotState a0_0 l0_1 l0_2 l1 m == 2) && !(lotState a0_0 l0_1 l0_2 l1 m == 3)) (lotsP l1 l1.length) i hlt
    have hmem : rd (lotsP l1 l1.length) (i : Int) ∈ (lotsP l1 l1.length) := by simp [rd, hlt]
    generalize rd (lotsP l1 l1.length) (i : Int) = n at hx t2 t3 t6 hmem
    have hne := (shelfP_key a0_0 l0_1 l0_2 l1 (.int .i64 n) l1.length).2 ⟨n, hmem, rfl⟩
    have hrg := lotsP_range HV.out l1.length n hmem
    rcases HMN.out with ⟨_, hf⟩ | ⟨b, hbm, hG⟩
    ·rw [hf] at hne
     exact absurd rfl hne
    ·cases hbm
     obtain ⟨v0, hlook, hown⟩ := hG.lookup keyed3 Try.underlying88 zero74 (key3 n (small_wf n zq16 zq16))
     have hl0 := hlook wr (HB.out.block b hG.lt)
     obtain ⟨A0, c0, he, _, hC0⟩ := Kd.R_reads (Kd.R_of_own (h1 := fun _ => rfl) (ok := fun _ => True) hown (fun _ _ => trivial))
     subst he
     have hst := inspect_state.calls A0 c0 (shelfP a0_0 l0_1 l0_2 l1 l1.length (.int .i64 n)) wr (Kd.C_below hC0 HB.out) (Nat.le_trans (shelfP_len a0_0 l0_1 l0_2 l1 _ _) HLEN.out)
     have hls : stateS (shelfP a0_0 l0_1 l0_2 l1 l1.length (.int .i64 n)) = lotState a0_0 l0_1 l0_2 l1 n := rfl
     rw [hls] at hst
     have hsc := (blk_cell (blk_below HSN.out HB.out) 0).trans (rfl : _ = some (Value.map (some b)))
     have HLT := Aside0.mk (show i < 512 by have := HNL.out; omega)
     have L4 := Aside0.mk (show ((lotsP l1 l1.length).take i |>.filter (fun m => lotState a0_0 l0_1 l0_2 l1 m == 2)).length ≤ 512 from Nat.le_trans (List.length_filter_le _ _) (by rw [List.length_take]; have := HNL.out; omega))
     have L5 := Aside0.mk (show ((lotsP l1 l1.length).take i |>.filter (fun m => lotState a0_0 l0_1 l0_2 l1 m == 3)).length ≤ 512 from Nat.le_trans (List.length_filter_le _ _) (by rw [List.length_take]; have := HNL.out; omega))
     have L6 := Aside0.mk (show ((lotsP l1 l1.length).take i |>.filter (fun m => !(lotState a0_0 l0_1 l0_2 l1 m == 2) && !(lotState a0_0 l0_1 l0_2 l1 m == 3))).length ≤ 512 from Nat.le_trans (List.length_filter_le _ _) (by rw [List.length_take]; have := HNL.out; omega))
     generalize lotState a0_0 l0_1 l0_2 l1 n = t at hst t2 t3 t6
     have T2 := Aside0.mk t2
     have T3 := Aside0.mk t3
     have T6 := Aside0.mk t6
     clear t2 t3 t6 hlook hown hC0 hne hrg hmem hls hG
     by_cases h2 : t = 2
     ·subst h2
      go_wp2_with (first | (go_at_call 45; (with_reducible refine hst.mono ?_); rintro e ws ⟨rfl, hws⟩; replace hws := hws.symm; subst hws) | ((with_reducible refine gate_dst (N := 41) rfl ?_); go_must (refine Kd.R_append (Kd.int .i64) (w0 := wn) (W := wr) wn.heap.size rfl (.tmp 38) (.tmp 40) 29 3 (.int .i64 0) 8 rfl Try.underlying29 info3 rfl zq49 zq16 v4 (((lotsP l1 l1.length).take i).filter (fun m => lotState a0_0 l0_1 l0_2 l1 m == 2)) n [.int .i64 n] (fun k_ => some k_ ≠ (v5 : Value).ownBlock ∧ some k_ ≠ (v6 : Value).ownBlock) (fun _ => False) rfl rfl rfl (fun _ hk => hk.elim) ?aF H4.out HB.out HB.out.size ?aL ?_); (case aL => have := L4.out; omega); (case aF => exact fun k hk => ⟨fun e => by obtain ⟨_, ho⟩ := Kd.R_own H5.out; have := own_lt ho k e.symm; omega, fun e => by obtain ⟨_, ho⟩ := Kd.R_own H6.out; have := own_lt ho k e.symm; omega⟩); intro v1 wc ho hb hg hat; have HX := Aside0.mk ho; have HBc := Aside0.mk hb; have HY := Aside0.mk (R_keep3 H5.out hg hat); have HZ := Aside0.mk (R_keep3 H6.out hg hat); clear ho hb hg hat))
      go_roundg ((lotsP l1 l1.length).length - (i + 1))
      case measure => have := hi.out; omega
      case rel => exact ⟨i + 1, v1, v5, v6, zq70, rfl, rfl, rfl, ⟨zq16⟩, HBc, ⟨by rw [T2.out]; exact HX.out⟩, ⟨by rw [T3.out]; exact HY.out⟩, ⟨by rw [T6.out]; exact HZ.out⟩⟩
     ·by_cases h3 : t = 3
      ·subst h3
       clear h2
       go_wp2_with (first | (go_at_call 45; (with_reducible refine hst.mono ?_); rintro e ws ⟨rfl, hws⟩; replace hws := hws.symm; subst hws) | ((with_reducible refine gate_dst (N := 47) rfl ?_); go_must (refine Kd.R_append (Kd.int .i64) (w0 := wn) (W := wr) wn.heap.size rfl (.tmp 44) (.tmp 46) 29 3 (.int .i64 0) 8 rfl Try.underlying29 info3 rfl zq49 zq16 v5 (((lotsP l1 l1.length).take i).filter (fun m => lotState a0_0 l0_1 l0_2 l1 m == 3)) n [.int .i64 n] (fun k_ => some k_ ≠ (v4 : Value).ownBlock ∧ some k_ ≠ (v6 : Value).ownBlock) (fun _ => False) rfl rfl rfl (fun _ hk => hk.elim) ?aF H5.out HB.out HB.out.size ?aL ?_); (case aL => have := L5.out; omega); (case aF => exact fun k hk => ⟨fun e => by obtain ⟨_, ho⟩ := Kd.R_own H4.out; have := own_lt ho k e.symm; omega, fun e => by obtain ⟨_, ho⟩ := Kd.R_own H6.out; have := own_lt ho k e.symm; omega⟩); intro v1 wc ho hb hg hat; have HX := Aside0.mk ho; have HBc := Aside0.mk hb; have HY := Aside0.mk (R_keep3 H4.out hg hat); have HZ := Aside0.mk (R_keep3' H6.out hg hat); clear ho hb hg hat))
       go_roundg ((lotsP l1 l1.length).length - (i + 1))
       case measure => have := hi.out; omega
       case rel => exact ⟨i + 1, v4, v1, v6, zq70, rfl, rfl, rfl, ⟨zq16⟩, HBc, ⟨by rw [T2.out]; exact HY.out⟩, ⟨by rw [T3.out]; exact HX.out⟩, ⟨by rw [T6.out]; exact HZ.out⟩⟩
      ·have hb2 : (t == 2) = false := by simpa using h2
       have hb3 : (t == 3) = false := by simpa using h3
       rw [hb2, hb3] at T6
       rw [hb2] at T2
       rw [hb3] at T3
       clear h2 h3
       go_wp2_with (first | (go_at_call 45; (with_reducible refine hst.mono ?_); rintro e ws ⟨rfl, hws⟩; replace hws := hws.symm; subst hws) | ((with_reducible refine gate_dst (N := 35) rfl ?_); go_must (refine Kd.R_append (Kd.int .i64) (w0 := wn) (W := wr) wn.heap.size rfl (.tmp 32) (.tmp 34) 29 3 (.int .i64 0) 8 rfl Try.underlying29 info3 rfl zq49 zq16 v6 (((lotsP l1 l1.length).take i).filter (fun m => !(lotState a0_0 l0_1 l0_2 l1 m == 2) && !(lotState a0_0 l0_1 l0_2 l1 m == 3))) n [.int .i64 n] (fun k_ => some k_ ≠ (v4 : Value).ownBlock ∧ some k_ ≠ (v5 : Value).ownBlock) (fun _ => False) rfl rfl rfl (fun _ hk => hk.elim) ?aF H6.out HB.out HB.out.size ?aL ?_); (case aL => have := L6.out; omega); (case aF => exact fun k hk => ⟨fun e => by obtain ⟨_, ho⟩ := Kd.R_own H4.out; have := own_lt ho k e.symm; omega, fun e => by obtain ⟨_, ho⟩ := Kd.R_own H5.out; have := own_lt ho k e.symm; omega⟩); intro v1 wc ho hb hg hat; have HX := Aside0.mk ho; have HBc := Aside0.mk hb; have HY := Aside0.mk (R_keep3' H4.out hg hat); have HZ := Aside0.mk (R_keep3' H5.out hg hat); clear ho hb hg hat))
       go_roundg ((lotsP l1 l1.length).length - (i + 1))
       case measure => have := hi.out; omega
       case rel => exact ⟨i + 1, v4, v5, v1, zq70, rfl, rfl, rfl, ⟨zq16⟩, HBc, ⟨by rw [T2.out]; exact HY.out⟩, ⟨by rw [T3.out]; exact HZ.out⟩, ⟨by rw [T6.out]; exact HX.out⟩⟩
   ·have hlen : i = (lotsP l1 l1.length).length := by have := hi.out; omega
    have hb0 : decide (i < (lotsP l1 l1.length).length) = false := decide_eq_false hlt
    have HLN := Aside0.mk hlen
    clear hlen
    go_wp2
    refine bodyPost_ret (results_list (rs := [.tmp 4, .tmp 5, .tmp 6, .tmp 7]) rfl zq51 (.tmp (.tmp (.tmp (.tmp .nil))))) rfl ?_
    have hsz : w.heap.size ≤ wn.heap.size := HBN.out.size
    have q4 := H4.out
    have q5 := H5.out
    have q6 := H6.out
    rw [HLN.out, List.take_length] at q4 q5 q6
    rw [HE.out.1] at q4
    rw [HE.out.2.1] at q5
    rw [HE.out.2.2] at q6
    exact ⟨_, _, _, rfl, Kd.R_lower q4 hsz, Kd.R_lower q5 hsz, Kd.R_lower q6 hsz, HBN.out.trans (HB.out.mono hsz)⟩
 ·rw [if_pos h0] at hj
  obtain ⟨rfl, rfl, rfl, h3⟩ : [] = r1 ∧ [] = r2 ∧ [] = r3 ∧ logS a0_0 l0_1 l0_2 l1 = r4 := by simpa using hj
  rw [h3] at hlog h0
  have hb0 : (r4 == 0) = false := by simpa using h0
  clear hj h3 h0
  go_enter Try.func17, Try.ntmps17
  go_wp2_with (go_at_call 19; (with_reducible refine hlog.mono ?_); rintro e w1 ⟨rfl, hb⟩; have HB2 := Aside0.mk (below_step HB1.out hb); clear hb)
  refine bodyPost_ret (results_list (rs := [.tmp 4, .tmp 5, .tmp 6, .tmp 7]) rfl zq51 (.tmp (.tmp (.tmp (.tmp .nil))))) rfl ?_
  exact ⟨_, _, _, rfl, Kd.R_nil _ _ _ _ _, Kd.R_nil _ _ _ _ _, Kd.R_nil _ _ _ _ _, HB2.out⟩
end Go.Proofs.Ytbpebehbfpgjbaa.P
end
section
namespace Go.Proofs.Ytbpebehbfpgjbaa.P
open Go.RowKit Go.Proofs.YtbpebehbfpgjbaaW.PrintWords Go.Proofs.YtbpebehbfpgjbaaW.PrintLast Go.Proofs.YtbpebehbfpgjbaaW.PrintMore
attribute [local go_sem] max2_int min2_int max_two min_two max_three min_three max_four min_four
set_option linter.unusedVariables false
set_option linter.unusedSimpArgs false
def culletlaw07_eye.f  : Option (Int × (List (S58)) × (List (S56))) := some (100, (([(⟨(⟨#[99, 114, 97, 99, 107]⟩ : ByteArray), 1⟩ : S58)] : List (S58))), (([(⟨(⟨#[101, 121, 101]⟩ : ByteArray), (([(⟨0, 1, 50⟩ : S68)] : List (S68)))⟩ : S56)] : List (S56))))
set_option maxHeartbeats 8000000 in
set_option maxRecDepth 100000 in
theorem culletlaw07_eye.calls  (r1 : Int) (r2 : List (S58)) (r3 : List (S56)) (w : World) (h : culletlaw07_eye.f  = some (r1, r2, r3)) :
  Calls Try.prog 30 #[] w fun e w' => ∃ v1_ v2_ : Value, e = .returned (.agg #[.int .i64 r1, v1_, v2_]) ∧ Kd.R k58 58 w' w.heap.size (fun k_ => (w.heap.size ≤ k_)) v1_ r2 ∧ Kd.N k56 56 w' w.heap.size (fun k_ => (w.heap.size ≤ k_) ∧ some k_ ≠ (v1_ : Value).ownBlock) v2_ r3 ∧ Below w.heap.size w w' := by
 have hu25 := Try.underlying25
 have hu58 := Try.underlying58
 have hu68 := Try.underlying68
 have hu56 := Try.underlying56
 have HB := Aside0.mk (Below.refl w.heap.size w)
 have H : (some (100, (([(⟨(⟨#[99, 114, 97, 99, 107]⟩ : ByteArray), 1⟩ : S58)] : List (S58))), (([(⟨(⟨#[101, 121, 101]⟩ : ByteArray), (([(⟨0, 1, 50⟩ : S68)] : List (S68)))⟩ : S56)] : List (S56))))) = some (r1, r2, r3) := h
 clear h
 obtain ⟨y102, hy102⟩ : ∃ y_ : List (S58), y_ = (([(⟨(⟨#[99, 114, 97, 99, 107]⟩ : ByteArray), 1⟩ : S58)] : List (S58))) := ⟨_, rfl⟩
 replace H : (some (100, y102, (([(⟨(⟨#[101, 121, 101]⟩ : ByteArray), (([(⟨0, 1, 50⟩ : S68)] : List (S68)))⟩ : S56)] : List (S56))))) = some (r1, r2, r3) := by first | (rw [hy102]; with_reducible exact H) | (have H2_ := (Option.bind_some _ _).symm.trans H; rw [hy102]; with_reducible exact H2_) | (have H2_ := (Option.bind_some _ _).symm.trans H; with_reducible exact H2_) | with_reducible exact H | (rw [hy102]; exact H) | exact H
 have Ny102 := Aside0.mk hy102
 clear hy102
 obtain ⟨y105, hy105⟩ : ∃ y_ : List (S68), y_ = (([(⟨0, 1, 50⟩ : S68)] : List (S68))) := ⟨_, rfl⟩
 replace H : (some (100, y102, (([(⟨(⟨#[101, 121, 101]⟩ : ByteArray), y105⟩ : S56)] : List (S56))))) = some (r1, r2, r3) := by first | (rw [hy105]; with_reducible exact H) | (have H2_ := (Option.bind_some _ _).symm.trans H; rw [hy105]; with_reducible exact H2_) | (have H2_ := (Option.bind_some _ _).symm.trans H; with_reducible exact H2_) | with_reducible exact H | (rw [hy105]; exact H) | exact H
 have Ny105 := Aside0.mk hy105
 clear hy105
 obtain ⟨y108, hy108⟩ : ∃ y_ : List (S56), y_ = (([(⟨(⟨#[101, 121, 101]⟩ : ByteArray), y105⟩ : S56)] : List (S56))) := ⟨_, rfl⟩
 replace H : (some (100, y102, y108)) = some (r1, r2, r3) := by first | (rw [hy108]; with_reducible exact H) | (have H2_ := (Option.bind_some _ _).symm.trans H; rw [hy108]; with_reducible exact H2_) | (have H2_ := (Option.bind_some _ _).symm.trans H; with_reducible exact H2_) | with_reducible exact H | (rw [hy108]; exact H) | exact H
 have Ny108 := Aside0.mk hy108
 clear hy108
 simp only [Option.some.injEq, Prod.mk.injEq] at H
 obtain ⟨rfl, rfl, rfl⟩ := H
 go_enter Try.func30, Try.ntmps30
 go_wp2_with (first | ((with_reducible refine gate_dst (N := 0) rfl ?_); refine box_event ?hg (N := 0) ?hd (cs := #[.int .i64 0, .slice none 0 0, .slice none 0 0]) (t := 25) ?hr ?_; (case hd => rfl); (case hg => rfl); (case hr => exact zq14); intro gb101 hg w1 hbox hb; have n_ := as4 (below_step zq3 hb) (hbox) ((zq24 : w.heap.size ≤ gb101)) ((zq24 : w.heap.size ≤ gb101)); clear HB hb hbox hg; obtain ⟨HB, BK101, GW101, GE101⟩ := n_) | ((with_reducible refine gate_dst (N := 2) rfl ?_); refine Kd.R_lit k58 _ 58 ?hg (N := 2) ?hd (xs := ([(⟨(⟨#[99, 114, 97, 99, 107]⟩ : ByteArray), 1⟩ : S58)] : List (S58))) (inner := [.string (⟨#[99, 114, 97, 99, 107]⟩ : ByteArray), .int .i64 1]) (ok := fun _ => True) (okp := fun _ => True) ?hr ?hp (fun _ hk => hk) trivial (Below.refl _ _) (Nat.le_refl _) zq51 ?_; (case hd => rfl); (case hg => rfl); (case hr => exact zq14); (case hp => exact (Reps.c2 (show Kd.M k58 _ _ _ (⟨(⟨#[99, 114, 97, 99, 107]⟩ : ByteArray), 1⟩ : S58) [.string (⟨#[99, 114, 97, 99, 107]⟩ : ByteArray), .int .i64 1] from (k58_mkM _ _ _ (⟨(⟨#[99, 114, 97, 99, 107]⟩ : ByteArray), 1⟩ : S58) )) (Reps.none _ _))); intro v103 w2 ho3 hb hg_ hnew_; clear hg_ hnew_; (first | rw [← Ny102.out] at ho3 | (simp only [Int.reduceToNat] at ho3; rw [← Ny102.out] at ho3)); have n_ := as3 (Kd.R_lower (Kd.R_newM (M := fun k_ => (w.heap.size ≤ k_)) ho3 (below_size zq13) (fun k_ h_ => h_)) (below_size zq13)) (blk_below (zq0 BK101.out) hb) (below_step zq13 hb); clear BK101 HB; obtain ⟨HO104, BK101, HB⟩ := n_; clear hb ho3) | ((with_reducible refine gate_dst (N := 4) rfl ?_); refine Kd.R_lit k68 _ 68 ?hg (N := 4) ?hd (xs := ([(⟨0, 1, 50⟩ : S68)] : List (S68))) (inner := [.int .i64 0, .int .i64 1, .int .i64 50]) (ok := fun _ => True) (okp := fun _ => True) ?hr ?hp (fun _ hk => hk) trivial (Below.refl _ _) (Nat.le_refl _) zq51 ?_; (case hd => rfl); (case hg => rfl); (case hr => exact zq14); (case hp => exact (Reps.c3 (show Kd.M k68 _ _ _ (⟨0, 1, 50⟩ : S68) [.int .i64 0, .int .i64 1, .int .i64 50] from (k68_mkM _ _ _ (⟨0, 1, 50⟩ : S68) )) (Reps.none _ _))); intro v106 w4 ho5 hb hg_ hnew_; clear hg_ hnew_; (first | rw [← Ny105.out] at ho5 | (simp only [Int.reduceToNat] at ho5; rw [← Ny105.out] at ho5)); have n_ := as4 (Kd.R_below (zq1 HO104.out) hb) (Kd.R_lower (Kd.R_newM (M := fun k_ => (w.heap.size ≤ k_)) ho5 (below_size zq13) (fun k_ h_ => h_)) (below_size zq13)) (blk_below (zq0 BK101.out) hb) (below_step zq13 hb); clear HO104 BK101 HB; obtain ⟨HO104, HO107, BK101, HB⟩ := n_; clear hb ho5; obtain ⟨Ao6, co6, eo6⟩ := Kd.R_slice HO107.out; subst eo6) | ((with_reducible refine gate_dst (N := 6) rfl ?_); refine Kd.N_lit k56 _ 56 ?hg (N' := 6) ?hd (xs := ([(⟨(⟨#[101, 121, 101]⟩ : ByteArray), y105⟩ : S56)] : List (S56))) (inner := [.string (⟨#[101, 121, 101]⟩ : ByteArray), .slice Ao6 y105.length co6]) (ok := (fun k_ => (w.heap.size ≤ k_) ∧ some k_ ≠ (v103 : Value).ownBlock ∧ k_ ≠ gb101)) (okp := (fun k_ => (w.heap.size ≤ k_) ∧ some k_ ≠ (v103 : Value).ownBlock ∧ k_ ≠ gb101)) ?hr ?hp (fun _ hk => hk) ((show ∀ k_, w4.heap.size ≤ k_ → (fun k_ => (w.heap.size ≤ k_) ∧ some k_ ≠ (v103 : Value).ownBlock ∧ k_ ≠ gb101) k_ from fun k_ hk => ⟨(Nat.le_trans (below_size zq13) hk), Kd.fresh' (Kd.R_lt (zq1 HO104.out)) k_ hk, Kd.freshB (zq0 BK101.out) k_ hk⟩) _ (Nat.le_refl _)) (Below.refl _ _) (Nat.le_refl _) zq51 ?_; (case hd => rfl); (case hg => rfl); (case hr => exact zq14); (case hp => exact (Reps.c2 (show Kd.FK k56 _ _ (⟨(⟨#[101, 121, 101]⟩ : ByteArray), y105⟩ : S56) [.string (⟨#[101, 121, 101]⟩ : ByteArray), .slice Ao6 y105.length co6] from (k56_mkF _ _ (⟨(⟨#[101, 121, 101]⟩ : ByteArray), y105⟩ : S56) (Kd.R_reads' (Kd.R_mono (ok' := (fun k_ => (w.heap.size ≤ k_) ∧ some k_ ≠ (v103 : Value).ownBlock ∧ k_ ≠ gb101)) (Kd.R_types (Kd.R_apart' (HO107.out) (Kd.R_typed HO104.out) zq49) BK101.out zq49) (fun k_ hk => ⟨hk.1.1.1, ⟨hk.1.2, hk.2⟩⟩))).2.1 (Kd.R_F (Kd.R_mono (ok' := (fun k_ => (w.heap.size ≤ k_) ∧ some k_ ≠ (v103 : Value).ownBlock ∧ k_ ≠ gb101)) (Kd.R_types (Kd.R_apart' (HO107.out) (Kd.R_typed HO104.out) zq49) BK101.out zq49) (fun k_ hk => ⟨hk.1.1.1, ⟨hk.1.2, hk.2⟩⟩))))) (Reps.none _ _))); intro v109 w7 ho8 hb hg_ hnew_; clear hg_ hnew_; (first | rw [← Ny108.out] at ho8 | (simp only [Int.reduceToNat] at ho8; rw [← Ny108.out] at ho8)); have n_ := as4 (Kd.R_below (zq1 HO104.out) hb) (Kd.N_lower ho8 (below_size zq13)) (blk_below (zq0 BK101.out) hb) (below_step zq13 hb); clear HO104 BK101 HB HO107; obtain ⟨HO104, HO110, BK101, HB⟩ := n_; clear hb ho8; obtain ⟨Ao9, co9, eo9⟩ := Kd.N_slice HO110.out; subst eo9; obtain ⟨Ao10, co10, eo10⟩ := Kd.R_slice HO104.out; subst eo10; obtain ⟨hcz11_0, hcz11_1, hcz11_2, hfz11_0, hfz11_1, hfz11_2⟩ := bcs3 BK101.out))
 refine bodyPost_ret (results_cell_row rfl _ _ gb101 25 #[.int .i64 100, .slice Ao10 y102.length co10, .slice Ao9 y108.length co9] (0, 0) _ rfl (bch0p BK101.out) Try.underlying25 rfl zq23) rfl ?_
 exact ⟨_, _, zq10, by (with_reducible repeat (first | apply Kd.R_alloc | apply Kd.R_drewN | apply Kd.R_drew)); exact Kd.R_mono (Kd.R_far (p := ⟨gb101, 2, none⟩) (Kd.R_far (p := ⟨gb101, 1, none⟩) (Kd.R_far (p := ⟨gb101, 0, none⟩) (Kd.R_types HO104.out BK101.out zq49) (fun _ hk => hk.2) (.int .i64 100)) (fun _ hk => hk.2) (.slice Ao10 y102.length co10)) (fun _ hk => hk.2) (.slice Ao9 y108.length co9)) (fun _ hk => hk.1.1), by (with_reducible repeat (first | apply Kd.N_alloc | apply Kd.N_drewN | apply Kd.N_drew)); exact Kd.N_mono (Kd.N_far (p := ⟨gb101, 2, none⟩) (Kd.N_far (p := ⟨gb101, 1, none⟩) (Kd.N_far (p := ⟨gb101, 0, none⟩) (Kd.N_mono HO110.out (fun k_ hk => (⟨hk, hk.2.2⟩ : _ ∧ k_ ≠ gb101))) (fun _ hk => hk.2) (.int .i64 100)) (fun _ hk => hk.2) (.slice Ao10 y102.length co10)) (fun _ hk => hk.2) (.slice Ao9 y108.length co9)) (fun _ hk => ⟨hk.1.1, hk.1.2.1⟩), zq13⟩
def culletlaw07_day.f  : Option ((List (S45))) := some (([(⟨10, 2, 0, 0, 0, 0, true⟩ : S45), (⟨20, 1, 7, 0, 0, 0, false⟩ : S45), (⟨60, 2, 0, 0, 0, 0, true⟩ : S45), (⟨70, 1, 8, 0, 0, 0, false⟩ : S45), (⟨90, 2, 0, 0, 0, 0, false⟩ : S45), (⟨95, 1, 9, 0, 0, 0, false⟩ : S45)] : List (S45)))
set_option maxHeartbeats 8000000 in
set_option maxRecDepth 100000 in
theorem culletlaw07_day.calls  (r : List (S45)) (w : World) (h : culletlaw07_day.f  = some r) :
  Calls Try.prog 31 #[] w fun e w' => ∃ v0_ : Value, e = .returned (v0_) ∧ Kd.R k45 45 w' w.heap.size (fun _ => True) v0_ r ∧ Below w.heap.size w w' := by
 have hu45 := Try.underlying45
 have HB := Aside0.mk (Below.refl w.heap.size w)
 have H : (some (([(⟨10, 2, 0, 0, 0, 0, true⟩ : S45), (⟨20, 1, 7, 0, 0, 0, false⟩ : S45), (⟨60, 2, 0, 0, 0, 0, true⟩ : S45), (⟨70, 1, 8, 0, 0, 0, false⟩ : S45), (⟨90, 2, 0, 0, 0, 0, false⟩ : S45), (⟨95, 1, 9, 0, 0, 0, false⟩ : S45)] : List (S45)))) = some r := h
 clear h
 obtain ⟨y111, hy111⟩ : ∃ y_ : List (S45), y_ = (([(⟨10, 2, 0, 0, 0, 0, true⟩ : S45), (⟨20, 1, 7, 0, 0, 0, false⟩ : S45), (⟨60, 2, 0, 0, 0, 0, true⟩ : S45), (⟨70, 1, 8, 0, 0, 0, false⟩ : S45), (⟨90, 2, 0, 0, 0, 0, false⟩ : S45), (⟨95, 1, 9, 0, 0, 0, false⟩ : S45)] : List (S45))) := ⟨_, rfl⟩
 replace H : (some y111) = some r := by first | (rw [hy111]; with_reducible exact H) | (have H2_ := (Option.bind_some _ _).symm.trans H; rw [hy111]; with_reducible exact H2_) | (have H2_ := (Option.bind_some _ _).symm.trans H; with_reducible exact H2_) | with_reducible exact H | (rw [hy111]; exact H) | exact H
 have Ny111 := Aside0.mk hy111
 clear hy111
 obtain rfl := Option.some.inj H
 go_enter Try.func31, Try.ntmps31
 go_wp2_with (first | ((with_reducible refine gate_dst (N := 7) rfl ?_); refine Kd.R_lit k45 _ 45 ?hg (N := 7) ?hd (xs := ([(⟨10, 2, 0, 0, 0, 0, true⟩ : S45), (⟨20, 1, 7, 0, 0, 0, false⟩ : S45), (⟨60, 2, 0, 0, 0, 0, true⟩ : S45), (⟨70, 1, 8, 0, 0, 0, false⟩ : S45), (⟨90, 2, 0, 0, 0, 0, false⟩ : S45), (⟨95, 1, 9, 0, 0, 0, false⟩ : S45)] : List (S45))) (inner := [.int .i64 10, .int .u8 2, .int .i64 0, .int .i64 0, .int .i64 0, .int .i64 0, .bool true, .int .i64 20, .int .u8 1, .int .i64 7, .int .i64 0, .int .i64 0, .int .i64 0, .bool false, .int .i64 60, .int .u8 2, .int .i64 0, .int .i64 0, .int .i64 0, .int .i64 0, .bool true, .int .i64 70, .int .u8 1, .int .i64 8, .int .i64 0, .int .i64 0, .int .i64 0, .bool false, .int .i64 90, .int .u8 2, .int .i64 0, .int .i64 0, .int .i64 0, .int .i64 0, .bool false, .int .i64 95, .int .u8 1, .int .i64 9, .int .i64 0, .int .i64 0, .int .i64 0, .bool false]) (ok := fun _ => True) (okp := fun _ => True) ?hr ?hp (fun _ hk => hk) trivial (Below.refl _ _) (Nat.le_refl _) zq51 ?_; (case hd => rfl); (case hg => rfl); (case hr => exact zq14); (case hp => exact (Reps.c7 (show Kd.M k45 _ _ _ (⟨10, 2, 0, 0, 0, 0, true⟩ : S45) [.int .i64 10, .int .u8 2, .int .i64 0, .int .i64 0, .int .i64 0, .int .i64 0, .bool true] from (k45_mkM _ _ _ (⟨10, 2, 0, 0, 0, 0, true⟩ : S45) )) (Reps.c7 (show Kd.M k45 _ _ _ (⟨20, 1, 7, 0, 0, 0, false⟩ : S45) [.int .i64 20, .int .u8 1, .int .i64 7, .int .i64 0, .int .i64 0, .int .i64 0, .bool false] from (k45_mkM _ _ _ (⟨20, 1, 7, 0, 0, 0, false⟩ : S45) )) (Reps.c7 (show Kd.M k45 _ _ _ (⟨60, 2, 0, 0, 0, 0, true⟩ : S45) [.int .i64 60, .int .u8 2, .int .i64 0, .int .i64 0, .int .i64 0, .int .i64 0, .bool true] from (k45_mkM _ _ _ (⟨60, 2, 0, 0, 0, 0, true⟩ : S45) )) (Reps.c7 (show Kd.M k45 _ _ _ (⟨70, 1, 8, 0, 0, 0, false⟩ : S45) [.int .i64 70, .int .u8 1, .int .i64 8, .int .i64 0, .int .i64 0, .int .i64 0, .bool false] from (k45_mkM _ _ _ (⟨70, 1, 8, 0, 0, 0, false⟩ : S45) )) (Reps.c7 (show Kd.M k45 _ _ _ (⟨90, 2, 0, 0, 0, 0, false⟩ : S45) [.int .i64 90, .int .u8 2, .int .i64 0, .int .i64 0, .int .i64 0, .int .i64 0, .bool false] from (k45_mkM _ _ _ (⟨90, 2, 0, 0, 0, 0, false⟩ : S45) )) (Reps.c7 (show Kd.M k45 _ _ _ (⟨95, 1, 9, 0, 0, 0, false⟩ : S45) [.int .i64 95, .int .u8 1, .int .i64 9, .int .i64 0, .int .i64 0, .int .i64 0, .bool false] from (k45_mkM _ _ _ (⟨95, 1, 9, 0, 0, 0, false⟩ : S45) )) (Reps.none _ _)))))))); intro v112 w1 ho2 hb hg_ hnew_; clear hg_ hnew_; (first | rw [← Ny111.out] at ho2 | (simp only [Int.reduceToNat] at ho2; rw [← Ny111.out] at ho2)); have n_ := as2 (Kd.R_lower ho2 (below_size zq3)) (below_step zq3 hb); clear HB; obtain ⟨HO113, HB⟩ := n_; clear hb ho2))
 go_ret
 exact ⟨_, zq10, (zq1 HO113.out), zq3⟩
end Go.Proofs.Ytbpebehbfpgjbaa.P
end
section
namespace Go.Proofs.Ytbpebehbfpgjbaa.P
open Go.RowKit Go.Proofs.YtbpebehbfpgjbaaW.PrintWords Go.Proofs.YtbpebehbfpgjbaaW.PrintLast Go.Proofs.YtbpebehbfpgjbaaW.PrintMore
set_option linter.unusedVariables false
set_option linter.unusedSimpArgs false
def eyeF : List S58 := [⟨⟨#[99, 114, 97, 99, 107]⟩, 1⟩]
def eyeS : List S56 := [⟨⟨#[101, 121, 101]⟩, [⟨0, 1, 50⟩]⟩]
def dayL : List S45 := [⟨10, 2, 0, 0, 0, 0, true⟩, ⟨20, 1, 7, 0, 0, 0, false⟩, ⟨60, 2, 0, 0, 0, 0, true⟩, ⟨70, 1, 8, 0, 0, 0, false⟩, ⟨90, 2, 0, 0, 0, 0, false⟩, ⟨95, 1, 9, 0, 0, 0, false⟩]
theorem eye_plain (w : World) : Calls Try.prog 30 #[] w fun e w' => ∃ A1 c1 A2 c2, e = .returned (.agg #[.int .i64 100, .slice A1 1 c1, .slice A2 1 c2]) ∧ 1 ≤ c1 ∧ 1 ≤ c2 ∧ Kd.C k58 w' A1 1 eyeF ∧ Kd.C k56 w' A2 1 eyeS ∧ Below w.heap.size w w' :=
 (culletlaw07_eye.calls 100 eyeF eyeS w rfl).mono (by
  rintro e w' ⟨v1, v2, rfl, h1, h2, hb⟩
  obtain ⟨A1, c1, rfl, k1, r1⟩ := Kd.R_reads h1
  obtain ⟨A2, c2, rfl, k2, r2⟩ := Kd.N_reads h2
  exact ⟨A1, c1, A2, c2, rfl, k1, k2, r1, r2, hb⟩)
theorem day_plain (w : World) : Calls Try.prog 31 #[] w fun e w' => ∃ A3 c3, e = .returned (.slice A3 6 c3) ∧ 6 ≤ c3 ∧ Kd.C k45 w' A3 6 dayL ∧ Below w.heap.size w w' :=
 (culletlaw07_day.calls dayL w rfl).mono (by
  rintro e w' ⟨v1, rfl, h1, hb⟩
  obtain ⟨A1, c1, rfl, k1, r1⟩ := Kd.R_reads h1
  exact ⟨A1, c1, rfl, k1, r1, hb⟩)
section
variable (A1 : Option Addr) (c1 : Nat) (A2 : Option Addr) (c2 : Nat) (A3 : Option Addr) (c3 : Nat) (w : World) (k1 : 1 ≤ c1) (k2 : 1 ≤ c2) (k3 : 6 ≤ c3) (h1 : Kd.C k58 w A1 1 eyeF) (h2 : Kd.C k56 w A2 1 eyeS) (h3 : Kd.C k45 w A3 6 dayL)
include k1 k2 k3 h1 h2 h3
theorem look1 : Calls Try.prog 21 #[.agg #[.int .i64 100, .slice A1 1 c1, .slice A2 1 c2], .slice A3 6 c3, .int .i64 1] w fun e w' => e = .returned (.tuple #[.int .u8 2, .int .i64 (-1), .int .i64 0]) ∧ Below w.heap.size w w' :=
 inspect_Judge.calls 100 A1 c1 eyeF A2 c2 eyeS A3 c3 dayL 1 2 (-1) 0 w h1 k1 h2 k2 h3 k3 zq23
theorem look3 : Calls Try.prog 21 #[.agg #[.int .i64 100, .slice A1 1 c1, .slice A2 1 c2], .slice A3 6 c3, .int .i64 3] w fun e w' => e = .returned (.tuple #[.int .u8 3, .int .i64 0, .int .i64 0]) ∧ Below w.heap.size w w' :=
 inspect_Judge.calls 100 A1 c1 eyeF A2 c2 eyeS A3 c3 dayL 3 3 0 0 w h1 k1 h2 k2 h3 k3 zq23
theorem look5 : Calls Try.prog 21 #[.agg #[.int .i64 100, .slice A1 1 c1, .slice A2 1 c2], .slice A3 6 c3, .int .i64 5] w fun e w' => e = .returned (.tuple #[.int .u8 3, .int .i64 0, .int .i64 0]) ∧ Below w.heap.size w w' :=
 inspect_Judge.calls 100 A1 c1 eyeF A2 c2 eyeS A3 c3 dayL 5 3 0 0 w h1 k1 h2 k2 h3 k3 zq23
theorem lookB : Calls Try.prog 12 #[.agg #[.int .i64 100, .slice A1 1 c1, .slice A2 1 c2], .slice A3 6 c3] w fun e w' => ∃ A c, e = .returned (.tuple #[.slice A 2 c, .int .i64 0]) ∧ Kd.C (Kd.int .i64) w' A 2 [3, 5] ∧ Below w.heap.size w w' :=
 (inspect_Blocked.calls 100 A1 c1 eyeF A2 c2 eyeS A3 c3 dayL [3, 5] 0 w h1 k1 h2 k2 h3 k3 zq23).mono (by
  rintro e w' ⟨v, rfl, h, hb⟩
  obtain ⟨A, c, rfl, _, r⟩ := Kd.R_reads h
  exact ⟨A, c, rfl, r, hb⟩)
theorem lookM : Calls Try.prog 15 #[.agg #[.int .i64 100, .slice A1 1 c1, .slice A2 1 c2], .slice A3 6 c3, .int .i64 0] w fun e w' => e = .returned (.tuple #[.agg #[.int .i64 1, .int .i64 50], .int .i64 1, .int .i64 0]) ∧ Below w.heap.size w w' :=
 inspect_Missed.calls 100 A1 c1 eyeF A2 c2 eyeS A3 c3 dayL 0 1 50 1 0 w h1 k1 h2 k2 h3 k3 zq23
theorem lookL : Calls Try.prog 17 #[.agg #[.int .i64 100, .slice A1 1 c1, .slice A2 1 c2], .slice A3 6 c3] w fun e w' => ∃ A c A' c' A'' c'', e = .returned (.tuple #[.slice A 1 c, .slice A' 2 c', .slice A'' 0 c'', .int .i64 0]) ∧ Kd.C (Kd.int .i64) w' A 1 [7] ∧ Kd.C (Kd.int .i64) w' A' 2 [8, 9] ∧ Below w.heap.size w w' :=
 (inspect_Lots.calls 100 A1 c1 eyeF A2 c2 eyeS A3 c3 dayL [7] [8, 9] [] 0 w h1 k1 h2 k2 h3 k3 zq23).mono (by
  rintro e w' ⟨v, v', v'', rfl, h, h', h'', hb⟩
  obtain ⟨A, c, rfl, _, r⟩ := Kd.R_reads h
  obtain ⟨A', c', rfl, _, r'⟩ := Kd.R_reads h'
  obtain ⟨A'', c'', rfl, _, r''⟩ := Kd.R_reads h''
  exact ⟨A, c, A', c', A'', c'', rfl, r, r', hb⟩)
end
theorem C_at0 {w : World} {A : Option Addr} {n : Nat} {xs : List Int} (h : Kd.C (Kd.int .i64) w A n xs) (i : Nat) (hi : i < n) : ∃ ad, A = some ad ∧ w.cell? (ad.add i) = some (.int .i64 (xs.getD i 0)) := by
 obtain ⟨ad, cs, rfl, _, hK, hc0⟩ := Kd.C_get h (0 : Int) (i : Int) zq16 zq16
 obtain rfl : cs = [.int .i64 (xs.getD (i : Int).toNat 0)] := hK
 have hx := hc0 0 _ rfl
 simp only [show (Kd.int .i64).sz = 1 from rfl, Nat.mul_one, Nat.add_zero, Int.toNat_natCast] at hx
 exact ⟨ad, rfl, hx⟩
theorem C_atz {w : World} {A : Option Addr} {n : Nat} {xs : List Int} (h : Kd.C (Kd.int .i64) w A n xs) (hi : 0 < n) : ∃ ad, A = some ad ∧ w.cell? ad = some (.int .i64 (xs.getD 0 0)) := by
 obtain ⟨ad, e, hx⟩ := C_at0 h 0 hi
 exact ⟨ad, e, hx⟩
theorem C_at1 {w : World} {A : Option Addr} {n : Nat} {xs : List Int} (h : Kd.C (Kd.int .i64) w A n xs) (hi : 1 < n) : ∃ ad, A = some ad ∧ w.cell? ⟨ad.block, ad.off + 1, none⟩ = some (.int .i64 (xs.getD 1 0)) := by
 obtain ⟨ad, e, hx⟩ := C_at0 h 1 hi
 refine ⟨ad, e, ?_⟩
 have hf := add_field ad 0 1 zq16
 rw [show (0 + 1 : Nat) = 1 from rfl] at hf
 rw [hf] at hx
 exact hx
def culletlaw07_looks.f : Option Bool := some true
set_option maxHeartbeats 16000000 in
set_option maxRecDepth 100000 in
theorem culletlaw07_looks.calls (r : Bool) (w : World) (h : culletlaw07_looks.f = some r) : Calls Try.prog 11 #[] w fun e w' => e = .returned (.bool r) ∧ Below w.heap.size w w' := by
 obtain rfl : true = r := Option.some.inj h
 clear h
 have HB := Aside0.mk (Below.refl w.heap.size w)
 go_enter Try.func11, Try.ntmps11
 go_wp2_with (first
  | (go_at_call 30; (with_reducible refine (eye_plain _).mono ?_); rintro e w1 ⟨A1, c1, A2, c2, rfl, k1, k2, q1, q2, hb⟩; have K1 := Aside0.mk k1; have K2 := Aside0.mk k2; have Q1 := Aside0.mk q1; have Q2 := Aside0.mk q2; have HB := Aside0.mk (below_step HB.out hb); (try have HL := Aside0.mk (Kd.C_below HL.out hb)); (try have HR := Aside0.mk (blk_below HR.out hb)); clear k1 k2 q1 q2 hb)
  | (go_at_call 31; (with_reducible refine (day_plain _).mono ?_); rintro e w2 ⟨A3, c3, rfl, k3, q3, hb⟩; have K3 := Aside0.mk k3; have Q1 := Aside0.mk (Kd.C_below Q1.out hb); have Q2 := Aside0.mk (Kd.C_below Q2.out hb); have Q3 := Aside0.mk q3; have HB := Aside0.mk (below_step HB.out hb); (try have HL := Aside0.mk (Kd.C_below HL.out hb)); (try have HR := Aside0.mk (blk_below HR.out hb)); clear k3 q3 hb)
  | (go_at_call 21; (with_reducible refine (look1 A1 c1 A2 c2 A3 c3 _ K1.out K2.out K3.out Q1.out Q2.out Q3.out).mono ?_); rintro e w3 ⟨rfl, hb⟩; have HB := Aside0.mk (below_step HB.out hb); (try have HL := Aside0.mk (Kd.C_below HL.out hb)); (try have HR := Aside0.mk (blk_below HR.out hb)); clear hb)
  | (go_at_call 21; (with_reducible refine (look3 A1 c1 A2 c2 A3 c3 _ K1.out K2.out K3.out Q1.out Q2.out Q3.out).mono ?_); rintro e w3 ⟨rfl, hb⟩; have HB := Aside0.mk (below_step HB.out hb); (try have HL := Aside0.mk (Kd.C_below HL.out hb)); (try have HR := Aside0.mk (blk_below HR.out hb)); clear hb)
  | (go_at_call 21; (with_reducible refine (look5 A1 c1 A2 c2 A3 c3 _ K1.out K2.out K3.out Q1.out Q2.out Q3.out).mono ?_); rintro e w3 ⟨rfl, hb⟩; have HB := Aside0.mk (below_step HB.out hb); (try have HL := Aside0.mk (Kd.C_below HL.out hb)); (try have HR := Aside0.mk (blk_below HR.out hb)); clear hb)
  | (go_at_call 12; (with_reducible refine (lookB A1 c1 A2 c2 A3 c3 _ K1.out K2.out K3.out Q1.out Q2.out Q3.out).mono ?_); rintro e w3 ⟨AB, cB, rfl, qB, hb⟩; have HL := Aside0.mk qB; have HB := Aside0.mk (below_step HB.out hb); clear qB hb)
  | (go_at_call 15; (with_reducible refine (lookM A1 c1 A2 c2 A3 c3 _ K1.out K2.out K3.out Q1.out Q2.out Q3.out).mono ?_); rintro e wM ⟨rfl, hb⟩; have HL := Aside0.mk (Kd.C_below (Kd.C_below HL.out hb) ((Below.refl _ wM).alloc (Nat.le_refl _) (.cells #[.int .i64 1, .int .i64 50] 35))); have HB := Aside0.mk ((below_step HB.out hb).alloc (below_step HB.out hb).size (.cells #[.int .i64 1, .int .i64 50] 35)); have HR := Aside0.mk (blk_new wM (.cells #[.int .i64 1, .int .i64 50] 35)); clear hb)
  | (go_at_call 17; (with_reducible refine (lookL A1 c1 A2 c2 A3 c3 _ K1.out K2.out K3.out Q1.out Q2.out Q3.out).mono ?_); rintro e wL ⟨AP, cP, AQ, cQ, AO, cO, rfl, qP, qQ, hb⟩; have HL := Aside0.mk (Kd.C_below HL.out hb); have HR := Aside0.mk (blk_below HR.out hb); have HB := Aside0.mk (below_step HB.out hb); obtain ⟨adB, rfl, x0⟩ := C_atz HL.out zq49; obtain ⟨adB', eB, x1⟩ := C_at1 HL.out zq49; cases eB; obtain ⟨adP, rfl, x2⟩ := C_atz qP zq49; obtain ⟨adQ, rfl, x3⟩ := C_atz qQ zq49; obtain ⟨adQ', eQ, x4⟩ := C_at1 qQ zq49; cases eQ; have x5 := (blk_cell HR.out 0).trans (rfl : _ = some (Value.int .i64 1)); have x6 := (blk_cell HR.out 1).trans (rfl : _ = some (Value.int .i64 50)); simp only [List.getD_cons_zero, List.getD_cons_succ] at x0 x1 x2 x3 x4; clear qP qQ hb))
 all_goals (go_ret; exact ⟨rfl, HB.out⟩)
theorem many_l1 (a0 : Int) (fl : List S58) (st : List S56) (h : st.length ≤ 20) : ∀ r i k (n : Int), i + r = st.length → r < k → ∃ b, culletlaw07_many.l1 k n (i : Int) a0 fl st = some b
 | 0, i, k, n, hi, hk => by
  obtain ⟨k, rfl⟩ : ∃ m, k = m + 1 := ⟨k - 1, zq16⟩
  rw [culletlaw07_many.l1, if_neg zq16]
  exact ⟨_, rfl⟩
 | r + 1, i, k, n, hi, hk => by
  obtain ⟨k, rfl⟩ : ∃ m, k = m + 1 := ⟨k - 1, zq16⟩
  rw [culletlaw07_many.l1, if_pos zq16, if_pos zq16, wsucc i zq16]
  exact many_l1 a0 fl st h r (i + 1) k _ zq16 zq16
theorem many_l0 (a0 : Int) (fl : List S58) (st : List S56) (hf : fl.length ≤ 20) (h : st.length ≤ 20) : ∀ r i k (n : Int), i + r = fl.length → r + 22 < k → ∃ b, culletlaw07_many.l0 k n (i : Int) a0 fl st = some b
 | 0, i, k, n, hi, hk => by
  obtain ⟨k, rfl⟩ : ∃ m, k = m + 1 := ⟨k - 1, zq16⟩
  rw [culletlaw07_many.l0, if_neg zq16]
  exact many_l1 a0 fl st h st.length 0 k n zq16 zq16
 | r + 1, i, k, n, hi, hk => by
  obtain ⟨k, rfl⟩ : ∃ m, k = m + 1 := ⟨k - 1, zq16⟩
  rw [culletlaw07_many.l0, if_pos zq16, if_pos zq16, wsucc i zq16]
  exact many_l0 a0 fl st hf h r (i + 1) k _ zq16 zq16
theorem many_some (a0 : Int) (fl : List S58) (st : List S56) (l : List S45) (k : Nat) (hk : 60 ≤ k) : ∃ b, culletlaw07_many.f k a0 fl st l = some b ∧ (b = false → fl.length ≤ 20 ∧ st.length ≤ 20 ∧ l.length ≤ 600) := by
 obtain ⟨k, rfl⟩ : ∃ m, k = m + 1 := ⟨k - 1, zq16⟩
 have ht : culletlaw07_many.j0 (k + 1) true a0 fl st = some true := by rw [culletlaw07_many.j0, if_pos rfl]
 unfold culletlaw07_many.f
 by_cases h1 : (fl.length : Int) > 20
 ·rw [if_pos h1, ht]
  exact ⟨true, rfl, fun h => by cases h⟩
 ·rw [if_neg h1]
  by_cases h2 : (st.length : Int) > 20
  ·rw [if_pos h2, ht]
   exact ⟨true, rfl, fun h => by cases h⟩
  ·rw [if_neg h2]
   have hf : ∃ b, culletlaw07_many.j0 (k + 1) false a0 fl st = some b := by
    rw [culletlaw07_many.j0, if_neg zq49]
    exact many_l0 a0 fl st zq16 zq16 fl.length 0 k 0 zq16 zq16
   have hlast : ∃ b, culletlaw07_many.j0 (k + 1) (decide ((l.length : Int) > 600)) a0 fl st = some b ∧ (b = false → fl.length ≤ 20 ∧ st.length ≤ 20 ∧ l.length ≤ 600) := by
    by_cases h3 : (l.length : Int) > 600
    ·rw [decide_eq_true h3, ht]
     exact ⟨true, rfl, fun h => by cases h⟩
    ·rw [decide_eq_false h3]
     obtain ⟨b, hb⟩ := hf
     exact ⟨b, hb, fun _ => by omega⟩
   by_cases h4 : (l.length : Int) > 40
   ·rw [if_pos h4]
    by_cases h5 : (l.length : Int) ≤ 512
    ·rw [if_pos h5, ht]
     exact ⟨true, rfl, fun h => by cases h⟩
    ·rw [if_neg h5]
     exact hlast
   ·rw [if_neg h4]
    exact hlast
theorem picked_some (n : Int) (len : Nat) (h0 : 0 < len) (h1 : len ≤ 1000) : ∃ p : Nat, p < len ∧ culletlaw07_picked.f n 0 (wrap64 ((len : Int) - 1)) = some (p : Int) := by
 have e1 : wrap64 ((len : Int) - 1) = (len : Int) - 1 := by unfold wrap64; omega
 have e2 : wrap64 (wrap64 ((len : Int) - 1 - 0) + 1) = (len : Int) := by unfold wrap64; omega
 unfold culletlaw07_picked.f
 rw [e1, e2, if_neg zq16]
 have m1 := Int.lt_tmod_of_pos n (show (0 : Int) < (len : Int) by omega)
 have m2 := Int.tmod_lt_of_pos n (show (0 : Int) < (len : Int) by omega)
 generalize Int.tmod n (len : Int) = m at *
 have e3 : wrap64 (m + (len : Int)) = m + len := by unfold wrap64; omega
 rw [e3, Int.tmod_eq_emod_of_nonneg zq16]
 have q1 := Int.emod_nonneg (m + (len : Int)) (show (len : Int) ≠ 0 by omega)
 have q2 := Int.emod_lt_of_pos (m + (len : Int)) (show (0 : Int) < len by omega)
 generalize (m + (len : Int)) % (len : Int) = q at *
 refine ⟨q.toNat, zq16, ?_⟩
 rw [show wrap64 (0 + q) = q from by unfold wrap64; omega, show ((q.toNat : Nat) : Int) = q from by omega]
structure Flip (l o : List S45) (n : Nat) : Prop where
 len : o.length = l.length
 f0 : ∀ i : Nat, (o.getD i z45).f0 = (l.getD i z45).f0
 f1 : ∀ i : Nat, (o.getD i z45).f1 = (l.getD i z45).f1
 f2 : ∀ i : Nat, (o.getD i z45).f2 = (l.getD i z45).f2
 f3 : ∀ i : Nat, (o.getD i z45).f3 = (l.getD i z45).f3
 f4 : ∀ i : Nat, (o.getD i z45).f4 = (l.getD i z45).f4
 f5 : ∀ i : Nat, (o.getD i z45).f5 = (l.getD i z45).f5
 f6 : ∀ i : Nat, i ≠ n → (o.getD i z45).f6 = (l.getD i z45).f6
theorem Flip.ch {l o : List S45} {n : Nat} (h : Flip l o n) (s c : Int) (i : Nat) : isCh o s c i ↔ isCh l s c i := by
 unfold isCh
 rw [h.f1, h.f4, h.f5]
theorem Flip.run {l o : List S45} {n : Nat} (h : Flip l o n) (fl : List S58) (st : List S56) (i : Nat) (hi : i < l.length) (h0 : runErr fl st l i = 0) : runErr fl st o i = 0 := by
 have e : ∀ x y : S45, x.f0 = y.f0 → x.f1 = y.f1 → x.f2 = y.f2 → x.f3 = y.f3 → x.f4 = y.f4 → x.f5 = y.f5 → entErr fl st x = entErr fl st y := fun x y a b c d e f => by
  unfold entErr
  rw [b, c, d, e, f]
 have r : ∀ x : List S45, rd_T45 x (i : Int) = x.getD i z45 := fun _ => rfl
 have r1 : ∀ x : List S45, rd_T45 x ((i : Int) - 1) = x.getD (i - 1) z45 := fun x => by unfold rd_T45; rw [show ((i : Int) - 1).toNat = i - 1 from by omega]
 unfold runErr at h0 ⊢
 rw [r, r1] at h0 ⊢
 rw [h.f0, h.f1, h.f0, e _ _ (h.f0 i) (h.f1 i) (h.f2 i) (h.f3 i) (h.f4 i) (h.f5 i)]
 exact h0
theorem Flip.log {l o : List S45} {n : Nat} (h : Flip l o n) {every : Int} {fl : List S58} {st : List S56} (hl : logS every fl st l = 0) : logS every fl st o = 0 := by
 have hv := logS_valid hl
 exact Valid.log (logS_chk hl) (by have := hv.len; have := h.len; omega) (fun i hi => h.run fl st i (by have := h.len; omega) (hv.re i (by have := h.len; omega)))
theorem Flip.trustP {l o : List S45} {n : Nat} (h : Flip l o n) (every p q : Int) (hp : p < 0 ∨ p ≠ n) (hq : q < 0 ∨ q ≠ n) : trustP every o p q = trustP every l p q := by
 have r0 : ∀ x : Int, (rd_T45 o x).f0 = (rd_T45 l x).f0 := fun x => h.f0 _
 have r6 : ∀ x : Int, 0 ≤ x → x ≠ n → (rd_T45 o x).f6 = (rd_T45 l x).f6 := fun x h0 hx => h.f6 _ zq16
 unfold P.trustP
 rw [r0, r0, r0, h.len]
 by_cases h1 : p < 0
 ·rw [if_pos h1, if_pos h1]
 ·rw [if_neg h1, if_neg h1, r6 p zq16 zq16]
  by_cases h2 : q < 0
  ·rw [if_pos h2, if_pos h2]
  ·rw [if_neg h2, if_neg h2, r6 q zq16 zq16]
def behX (l : List S45) (s c : Int) (n : Nat) (i : Nat) : Int := if behN l s c ((n : Int) + 1) i < 0 then (l.length : Int) else behN l s c ((n : Int) + 1) i
theorem Flip.trU {l o : List S45} {n : Nat} (h : Flip l o n) (hn : n < l.length) (hk : (rd_T45 l (n : Int)).f1 = 2) (every : Int) (st : List S56) (s c : Int) (i : Nat) (hi : i < l.length) (hb : (rd_T45 l (i : Int)).f1 = 1)
  (hout : ¬ ((i : Int) > befN l (rd_T45 l (n : Int)).f4 (rd_T45 l (n : Int)).f5 n l.length ∧ (i : Int) < behX l (rd_T45 l (n : Int)).f4 (rd_T45 l (n : Int)).f5 n l.length)) : trU every st o s c i = trU every st l s c i := by
 rw [trU_scan, trU_scan, h.len, befN_congr (h.ch s c), behN_congr (h.ch s c)]
 by_cases hcl : clmB st s c = false
 ·rw [if_pos hcl, if_pos hcl]
 ·rw [if_neg hcl, if_neg hcl]
  have hr : ∀ j : Nat, rd_T45 l (j : Int) = l.getD j z45 := fun _ => rfl
  have hne : ∀ j : Nat, isCh l s c j → j ≠ i := fun j hj e => by
   subst e
   have h1 := hj.1
   rw [hr] at hb
   omega
  have key : isCh l s c n → ¬ ((n : Int) < i ∧ ∀ j' : Nat, n < j' → j' < l.length → (j' : Int) < i → ¬ isCh l s c j') ∧ ¬ ((i : Int) ≤ n ∧ ∀ j' : Nat, j' < n → (i : Int) ≤ j' → ¬ isCh l s c j') := by
   intro hc
   have e4 : (rd_T45 l (n : Int)).f4 = s := hc.2.1
   have e5 : (rd_T45 l (n : Int)).f5 = c := hc.2.2
   rw [e4, e5] at hout
   have b1 := befN_spec l s c (n : Int) l.length
   have b2 := behN_spec l s c ((n : Int) + 1) l.length
   have b3 := behN_lo l s c ((n : Int) + 1) l.length
   have hin : n ≠ i := hne n hc
   refine ⟨fun ⟨g1, g2⟩ => hout ⟨?_, ?_⟩, fun ⟨g1, g2⟩ => hout ⟨?_, ?_⟩⟩
   ·rcases b1 with ⟨e, _⟩ | ⟨j, _, e, _, e2, _⟩ <;> omega
   ·unfold behX
    rcases b2 with ⟨e, _⟩ | ⟨j, e0, e, e1, e2, _⟩
    ·rw [if_pos zq16]; omega
    ·rw [if_neg zq16, e]
     by_cases hj : j < i
     ·exact absurd e1 (g2 j zq16 e0 zq16)
     ·have := hne j e1
      omega
   ·rcases b1 with ⟨e, _⟩ | ⟨j, e0, e, e1, e2, _⟩
    ·omega
    ·rw [e]
     by_cases hj : i ≤ j
     ·exact absurd e1 (g2 j zq16 zq16)
     ·omega
   ·unfold behX
    rcases b2 with ⟨e, _⟩ | ⟨j, e0, e, e1, e2, _⟩
    ·rw [if_pos zq16]; omega
    ·rw [if_neg zq16, e]
     omega
  refine h.trustP every _ _ ?_ ?_
  ·rcases befN_spec l s c (i : Int) l.length with ⟨e, _⟩ | ⟨j, e0, e, e1, e2, e3⟩
   ·exact .inl zq16
   ·refine .inr (fun en => ?_)
    have hjn : j = n := by omega
    subst hjn
    exact (key e1).1 ⟨e2, e3⟩
  ·rcases behN_spec l s c (i : Int) l.length with ⟨e, _⟩ | ⟨j, e0, e, e1, e2, e3⟩
   ·exact .inl zq16
   ·refine .inr (fun en => ?_)
    have hjn : j = n := by omega
    subst hjn
    exact (key e1).2 ⟨e2, e3⟩
end Go.Proofs.Ytbpebehbfpgjbaa.P
end
