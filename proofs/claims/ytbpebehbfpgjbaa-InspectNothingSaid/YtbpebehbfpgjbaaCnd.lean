/- Texts of the proof, joined: what they prove stands at each theorem. -/
import Derived.Shelf.Abstract
import Derived.WideKeyEntry
import Derived.Maps.OwnRows
import Derived.Maps.Range
import Derived.DeepKeys4
import Derived.WalkSpells
import Derived.Shelf.Small.Bits
import Derived.Shelf.Strconv.Itoa0
import Derived.Shelf.Sort.Plain
import Derived.Shelf.Bits.Mul64
import Derived.Ground.Names2Prog
import Derived.Shelf.Slices.SearchI
import Derived.Shelf.Slices.In.SortNone
import Derived.Shelf.Slices.Empties
import Derived.Test.YtbpebehbfpgjbaaProg
import Derived.Outline
import Derived.IntWalk
import Derived.Deep.QuietTactic
import Derived.BigQuiet
import Derived.Test.YtbpebehbfpgjbaaCla
import Derived.Test.YtbpebehbfpgjbaaClb
import Derived.Test.YtbpebehbfpgjbaaClc
import Derived.Test.YtbpebehbfpgjbaaCld
import Derived.Test.YtbpebehbfpgjbaaCle
import Derived.Test.YtbpebehbfpgjbaaClf
import Derived.Test.YtbpebehbfpgjbaaClg
import Derived.Test.YtbpebehbfpgjbaaCna
import Derived.Test.YtbpebehbfpgjbaaCnb
import Derived.Test.YtbpebehbfpgjbaaCnc
section
namespace Go.Proofs.Ytbpebehbfpgjbaa.P
open Go.RowKit Go.Proofs.YtbpebehbfpgjbaaW.PrintWords Go.Proofs.YtbpebehbfpgjbaaW.PrintLast Go.Proofs.YtbpebehbfpgjbaaW.PrintMore
attribute [local go_sem] max2_int min2_int max_two min_two max_three min_three max_four min_four
set_option linter.unusedVariables false
set_option linter.unusedSimpArgs false
mutual
def culletref07_checkStand.l0 : Nat → Int → Int → List (S58) → List (S56) → ByteArray → List (S68) → Option (Int)
 | 0, _, _, _, _, _, _ => none
 | k + 1, x5, x110000, x110001, x110002, x111000, x111001 => if x5 < (x111001.length : Int) then (if 0 ≤ x5 then (if ((rd_T68 x111001 x5).f0) < 0 then (culletref07_checkStand.j1 k x5 true x110000 x110001 x110002 x111000 x111001 ((rd_T68 x111001 x5).f0) ((rd_T68 x111001 x5).f1) ((rd_T68 x111001 x5).f2)) else (culletref07_checkStand.j1 k x5 (decide (((rd_T68 x111001 x5).f0) ≥ (x110001.length : Int))) x110000 x110001 x110002 x111000 x111001 ((rd_T68 x111001 x5).f0) ((rd_T68 x111001 x5).f1) ((rd_T68 x111001 x5).f2))) else (none)) else (some 0)
def culletref07_checkStand.j1 : Nat → Int → Bool → Int → List (S58) → List (S56) → ByteArray → List (S68) → Int → Int → Int → Option (Int)
 | 0, _, _, _, _, _, _, _, _, _, _ => none
 | k + 1, x5, x34, x110000, x110001, x110002, x111000, x111001, x113000, x113001, x113002 => if x34 = true then (some 7) else (culletref07_checkStand.l1 k x5 0 x110000 x110001 x110002 x111000 x111001 x113000 x113001 x113002)
def culletref07_checkStand.l1 : Nat → Int → Int → Int → List (S58) → List (S56) → ByteArray → List (S68) → Int → Int → Int → Option (Int)
 | 0, _, _, _, _, _, _, _, _, _, _ => none
 | k + 1, x5, x7, x110000, x110001, x110002, x111000, x111001, x113000, x113001, x113002 => if x7 < x5 then (if 0 ≤ x7 then (if x7 < (x111001.length : Int) then (if ((rd_T68 x111001 x7).f0) = x113000 then (some 6) else (culletref07_checkStand.l1 k x5 (wrap64 (x7 + 1)) x110000 x110001 x110002 x111000 x111001 x113000 x113001 x113002)) else (none)) else (none)) else (if x113002 < 1 then (some 1) else (if x113002 > 1000 then (some 1) else (if x113001 < 0 then (some 1) else (if x113001 > x113002 then (some 1) else (culletref07_checkStand.l0 k (wrap64 (x5 + 1)) x110000 x110001 x110002 x111000 x111001)))))
end
def culletref07_checkStand.f (k : Nat) (a0_0 : Int) (l0_1 : List (S58)) (l0_2 : List (S56)) (a1_0 : ByteArray) (l1_1 : List (S68)) : Option (Int) := if (l1_1.length : Int) > 8 then (some 3) else (culletref07_checkStand.l0 k 0 a0_0 l0_1 l0_2 a1_0 l1_1)
set_option maxHeartbeats 8000000 in
set_option maxRecDepth 100000 in
theorem culletref07_checkStand.calls (k : Nat) (a0_0 : Int) (A0_1 : Option Addr) (c0_1 : Nat) (l0_1 : List (S58)) (A0_2 : Option Addr) (c0_2 : Nat) (l0_2 : List (S56)) (a1_0 : ByteArray) (A1_1 : Option Addr) (c1_1 : Nat) (l1_1 : List (S68)) (r : Int) (w : World) (hr0_1 : Kd.C k58 w A0_1 l0_1.length l0_1) (hc0_1 : l0_1.length ≤ c0_1) (hr0_2 : Kd.C k56 w A0_2 l0_2.length l0_2) (hc0_2 : l0_2.length ≤ c0_2) (hr1_1 : Kd.C k68 w A1_1 l1_1.length l1_1) (hc1_1 : l1_1.length ≤ c1_1) (h : culletref07_checkStand.f k a0_0 l0_1 l0_2 a1_0 l1_1 = some r) :
  Calls Try.prog 55 #[.agg #[.int .i64 a0_0, .slice A0_1 l0_1.length c0_1, .slice A0_2 l0_2.length c0_2], .agg #[.string a1_0, .slice A1_1 l1_1.length c1_1]] w fun e w' => e = .returned (.int .i64 r) ∧ Below w.heap.size w w' := by
 have hu25 := Try.underlying25
 have hu56 := Try.underlying56
 have hu68 := Try.underlying68
 have HR0_1 := Aside0.mk hr0_1
 have HC0_1 := Aside0.mk hc0_1
 clear hr0_1 hc0_1
 have HR0_2 := Aside0.mk hr0_2
 have HC0_2 := Aside0.mk hc0_2
 clear hr0_2 hc0_2
 have HR1_1 := Aside0.mk hr1_1
 have HC1_1 := Aside0.mk hc1_1
 clear hr1_1 hc1_1
 have HB := Aside0.mk (Below.refl w.heap.size w)
 have H : (if (l1_1.length : Int) > 8 then (some 3) else (culletref07_checkStand.l0 k 0 a0_0 l0_1 l0_2 a1_0 l1_1)) = some r := h
 clear h
 by_cases c3 : (l1_1.length : Int) > 8
 ·rw [if_pos c3] at H
  have c3b0 : decide (8 < (l1_1.length : Int)) = true := decide_eq_true c3
  have c3b1 : decide (8 < l1_1.length) = true := decide_eq_true zr13
  clear c3
  obtain rfl := Option.some.inj H
  go_enter Try.func55, Try.ntmps55
  go_wp2_with (first | ((with_reducible refine gate_dst (N := 2) rfl ?_); (try (refine gate_guard zr32 ?_; dsimp only)); refine box_event ?hg (N := 2) ?hd (cs := #[.int .i64 a0_0, .slice A0_1 l0_1.length c0_1, .slice A0_2 l0_2.length c0_2]) (t := 25) ?hr ?_; (case hd => rfl); (case hg => rfl); (case hr => exact zr15); intro gb109 hg w4 hbox hb; have n_ := as4 (below_step zr4 hb) (hbox) ((zr24 : w.heap.size ≤ gb109)) ((zr24 : w.heap.size ≤ gb109)); clear HB hb hbox hg; obtain ⟨HB, BK109, GW109, GE109⟩ := n_) | ((with_reducible refine gate_dst (N := 3) rfl ?_); (try (refine gate_guard zr32 ?_; dsimp only)); refine box_event ?hg (N := 3) ?hd (cs := #[.string a1_0, .slice A1_1 l1_1.length c1_1]) (t := 56) ?hr ?_; (case hd => rfl); (case hg => rfl); (case hr => exact zr15); intro gb110 hg w5 hbox hb; have n_ := as7 (blk_below (zr0 BK109.out) hb) (below_step zr8 hb) (hbox) ((zr28 : w.heap.size ≤ gb110)) ((zr28 : w.heap.size ≤ gb110)) ((zr23 : gb109 ≠ gb110)) ((zr25 : gb110 ≠ gb109)); clear BK109 HB hb hbox hg; obtain ⟨BK109, HB, BK110, GW110, GE110, NB109_110, NB110_109⟩ := n_; have hnb6 := NB110_109.out; have hnc6 := NB109_110.out; obtain ⟨hcz7_0, hcz7_1, hfz7_0, hfz7_1⟩ := bcs2 BK110.out))
  repeat (go_quiet (first | ((with_reducible refine gate_dst (N := 2) rfl ?_); (try (refine gate_guard zr32 ?_; dsimp only)); refine box_event ?hg (N := 2) ?hd (cs := #[.int .i64 a0_0, .slice A0_1 l0_1.length c0_1, .slice A0_2 l0_2.length c0_2]) (t := 25) ?hr ?_; (case hd => rfl); (case hg => rfl); (case hr => exact zr15); intro gb109 hg w4 hbox hb; have n_ := as4 (below_step zr4 hb) (hbox) ((zr24 : w.heap.size ≤ gb109)) ((zr24 : w.heap.size ≤ gb109)); clear HB hb hbox hg; obtain ⟨HB, BK109, GW109, GE109⟩ := n_) | ((with_reducible refine gate_dst (N := 3) rfl ?_); (try (refine gate_guard zr32 ?_; dsimp only)); refine box_event ?hg (N := 3) ?hd (cs := #[.string a1_0, .slice A1_1 l1_1.length c1_1]) (t := 56) ?hr ?_; (case hd => rfl); (case hg => rfl); (case hr => exact zr15); intro gb110 hg w5 hbox hb; have n_ := as7 (blk_below (zr0 BK109.out) hb) (below_step zr8 hb) (hbox) ((zr28 : w.heap.size ≤ gb110)) ((zr28 : w.heap.size ≤ gb110)) ((zr23 : gb109 ≠ gb110)) ((zr25 : gb110 ≠ gb109)); clear BK109 HB hb hbox hg; obtain ⟨BK109, HB, BK110, GW110, GE110, NB109_110, NB110_109⟩ := n_; have hnb6 := NB110_109.out; have hnc6 := NB109_110.out; obtain ⟨hcz7_0, hcz7_1, hfz7_0, hfz7_1⟩ := bcs2 BK110.out)); try go_wp2_with (first | ((with_reducible refine gate_dst (N := 2) rfl ?_); (try (refine gate_guard zr32 ?_; dsimp only)); refine box_event ?hg (N := 2) ?hd (cs := #[.int .i64 a0_0, .slice A0_1 l0_1.length c0_1, .slice A0_2 l0_2.length c0_2]) (t := 25) ?hr ?_; (case hd => rfl); (case hg => rfl); (case hr => exact zr15); intro gb109 hg w4 hbox hb; have n_ := as4 (below_step zr4 hb) (hbox) ((zr24 : w.heap.size ≤ gb109)) ((zr24 : w.heap.size ≤ gb109)); clear HB hb hbox hg; obtain ⟨HB, BK109, GW109, GE109⟩ := n_) | ((with_reducible refine gate_dst (N := 3) rfl ?_); (try (refine gate_guard zr32 ?_; dsimp only)); refine box_event ?hg (N := 3) ?hd (cs := #[.string a1_0, .slice A1_1 l1_1.length c1_1]) (t := 56) ?hr ?_; (case hd => rfl); (case hg => rfl); (case hr => exact zr15); intro gb110 hg w5 hbox hb; have n_ := as7 (blk_below (zr0 BK109.out) hb) (below_step zr8 hb) (hbox) ((zr28 : w.heap.size ≤ gb110)) ((zr28 : w.heap.size ≤ gb110)) ((zr23 : gb109 ≠ gb110)) ((zr25 : gb110 ≠ gb109)); clear BK109 HB hb hbox hg; obtain ⟨BK109, HB, BK110, GW110, GE110, NB109_110, NB110_109⟩ := n_; have hnb6 := NB110_109.out; have hnc6 := NB109_110.out; obtain ⟨hcz7_0, hcz7_1, hfz7_0, hfz7_1⟩ := bcs2 BK110.out)))
  go_ret
  exact ⟨zr10, zr12⟩
 ·rw [if_neg c3] at H
  have c3b0 : decide (8 < (l1_1.length : Int)) = false := decide_eq_false c3
  have c3b1 : decide (8 < l1_1.length) = false := decide_eq_false zr13
  clear c3
  have H' := Aside0.mk H
  clear H
  go_enter Try.func55, Try.ntmps55
  go_wp2_with (first | ((with_reducible refine gate_dst (N := 2) rfl ?_); (try (refine gate_guard zr32 ?_; dsimp only)); refine box_event ?hg (N := 2) ?hd (cs := #[.int .i64 a0_0, .slice A0_1 l0_1.length c0_1, .slice A0_2 l0_2.length c0_2]) (t := 25) ?hr ?_; (case hd => rfl); (case hg => rfl); (case hr => exact zr15); intro gb109 hg w8 hbox hb; have n_ := as4 (below_step zr4 hb) (hbox) ((zr24 : w.heap.size ≤ gb109)) ((zr24 : w.heap.size ≤ gb109)); clear HB hb hbox hg; obtain ⟨HB, BK109, GW109, GE109⟩ := n_) | ((with_reducible refine gate_dst (N := 3) rfl ?_); (try (refine gate_guard zr32 ?_; dsimp only)); refine box_event ?hg (N := 3) ?hd (cs := #[.string a1_0, .slice A1_1 l1_1.length c1_1]) (t := 56) ?hr ?_; (case hd => rfl); (case hg => rfl); (case hr => exact zr15); intro gb110 hg w9 hbox hb; have n_ := as7 (blk_below (zr0 BK109.out) hb) (below_step zr8 hb) (hbox) ((zr28 : w.heap.size ≤ gb110)) ((zr28 : w.heap.size ≤ gb110)) ((zr23 : gb109 ≠ gb110)) ((zr25 : gb110 ≠ gb109)); clear BK109 HB hb hbox hg; obtain ⟨BK109, HB, BK110, GW110, GE110, NB109_110, NB110_109⟩ := n_; have hnb10 := NB110_109.out; have hnc10 := NB109_110.out; obtain ⟨hcz11_0, hcz11_1, hfz11_0, hfz11_1⟩ := bcs2 BK110.out))
  repeat (go_quiet (first | ((with_reducible refine gate_dst (N := 2) rfl ?_); (try (refine gate_guard zr32 ?_; dsimp only)); refine box_event ?hg (N := 2) ?hd (cs := #[.int .i64 a0_0, .slice A0_1 l0_1.length c0_1, .slice A0_2 l0_2.length c0_2]) (t := 25) ?hr ?_; (case hd => rfl); (case hg => rfl); (case hr => exact zr15); intro gb109 hg w8 hbox hb; have n_ := as4 (below_step zr4 hb) (hbox) ((zr24 : w.heap.size ≤ gb109)) ((zr24 : w.heap.size ≤ gb109)); clear HB hb hbox hg; obtain ⟨HB, BK109, GW109, GE109⟩ := n_) | ((with_reducible refine gate_dst (N := 3) rfl ?_); (try (refine gate_guard zr32 ?_; dsimp only)); refine box_event ?hg (N := 3) ?hd (cs := #[.string a1_0, .slice A1_1 l1_1.length c1_1]) (t := 56) ?hr ?_; (case hd => rfl); (case hg => rfl); (case hr => exact zr15); intro gb110 hg w9 hbox hb; have n_ := as7 (blk_below (zr0 BK109.out) hb) (below_step zr8 hb) (hbox) ((zr28 : w.heap.size ≤ gb110)) ((zr28 : w.heap.size ≤ gb110)) ((zr23 : gb109 ≠ gb110)) ((zr25 : gb110 ≠ gb109)); clear BK109 HB hb hbox hg; obtain ⟨BK109, HB, BK110, GW110, GE110, NB109_110, NB110_109⟩ := n_; have hnb10 := NB110_109.out; have hnc10 := NB109_110.out; obtain ⟨hcz11_0, hcz11_1, hfz11_0, hfz11_1⟩ := bcs2 BK110.out)); try go_wp2_with (first | ((with_reducible refine gate_dst (N := 2) rfl ?_); (try (refine gate_guard zr32 ?_; dsimp only)); refine box_event ?hg (N := 2) ?hd (cs := #[.int .i64 a0_0, .slice A0_1 l0_1.length c0_1, .slice A0_2 l0_2.length c0_2]) (t := 25) ?hr ?_; (case hd => rfl); (case hg => rfl); (case hr => exact zr15); intro gb109 hg w8 hbox hb; have n_ := as4 (below_step zr4 hb) (hbox) ((zr24 : w.heap.size ≤ gb109)) ((zr24 : w.heap.size ≤ gb109)); clear HB hb hbox hg; obtain ⟨HB, BK109, GW109, GE109⟩ := n_) | ((with_reducible refine gate_dst (N := 3) rfl ?_); (try (refine gate_guard zr32 ?_; dsimp only)); refine box_event ?hg (N := 3) ?hd (cs := #[.string a1_0, .slice A1_1 l1_1.length c1_1]) (t := 56) ?hr ?_; (case hd => rfl); (case hg => rfl); (case hr => exact zr15); intro gb110 hg w9 hbox hb; have n_ := as7 (blk_below (zr0 BK109.out) hb) (below_step zr8 hb) (hbox) ((zr28 : w.heap.size ≤ gb110)) ((zr28 : w.heap.size ≤ gb110)) ((zr23 : gb109 ≠ gb110)) ((zr25 : gb110 ≠ gb109)); clear BK109 HB hb hbox hg; obtain ⟨BK109, HB, BK110, GW110, GE110, NB109_110, NB110_109⟩ := n_; have hnb10 := NB110_109.out; have hnc10 := NB109_110.out; obtain ⟨hcz11_0, hcz11_1, hfz11_0, hfz11_1⟩ := bcs2 BK110.out)))
  go_loopg [5] k (fun kq v5 w' => ∃ (x5_1 : Int), v5 = .int .i64 x5_1 ∧ Aside0 (culletref07_checkStand.l0 kq x5_1 a0_0 l0_1 l0_2 a1_0 l1_1 = some r) ∧ Aside0 (kq ≤ k) ∧ Aside0 (w'.heap[gb109]? = some (.cells #[.int .i64 a0_0, (.slice A0_1 l0_1.length c0_1), (.slice A0_2 l0_2.length c0_2)] 25 (0, 0))) ∧ Aside0 (w'.heap[gb110]? = some (.cells #[.string a1_0, (.slice A1_1 l1_1.length c1_1)] 56 (0, 0))) ∧ Aside0 (Below w.heap.size w w'))
  case atStart => exact ⟨(0), zr9, H', ⟨Nat.le_refl _⟩, ⟨(zr0 BK109.out)⟩, ⟨(zr0 BK110.out)⟩, ⟨zr12⟩⟩
  case round =>
   clear H'
   try clear c1
   try clear p2
   try clear c3
   try clear c3b0
   try clear c3b1
   try clear c5
   try clear c6
   try clear c10
   try clear hcz11_0 hcz11_1 hfz11_0 hfz11_1
   try clear hcz7_0 hcz7_1 hfz7_0 hfz7_1
   obtain ⟨x5_1, rfl, HA, HK1, BK109, BK110, HB⟩ := hrel
   cases gk with
   | zero => exact absurd HA.out (by simp [culletref07_checkStand.l0])
   | succ k1 =>
    have H := HA.out
    clear HA
    simp only [culletref07_checkStand.l0] at H
    by_cases c12 : x5_1 < (l1_1.length : Int)
    ·rw [if_pos c12] at H
     have c12b0 : decide (x5_1 < (l1_1.length : Int)) = true := decide_eq_true c12
     clear c12
     by_cases c13 : 0 ≤ x5_1
     ·rw [if_pos c13] at H
      have c13b0 : decide (0 ≤ x5_1) = true := decide_eq_true c13
      clear c13
      have HC14 := Aside0.mk H
      clear H
      have hnb15 := NB110_109.out
      have hnc15 := NB109_110.out
      obtain ⟨hcz16_0, hcz16_1, hfz16_0, hfz16_1⟩ := bcs2 BK110.out
      have p111 : 0 ≤ (x5_1 : Int) := of_decide_eq_true zr2
      have q111 : x5_1 < (l1_1.length : Int) := of_decide_eq_true zr2
      obtain ⟨ad111, e111, hx111_0, hx111_1, hx111_2⟩ := at_T68 HR1_1.out x5_1 p111 q111
      cases e111
      replace hx111_0 := hcx HB.out hx111_0
      replace hx111_1 := hcx HB.out hx111_1
      replace hx111_2 := hcx HB.out hx111_2
      replace p111 := eq_true p111
      replace q111 := eq_true q111
      go_upto_region 7 with (first | ((with_reducible refine gate_dst (N := 6) rfl ?_); (try (refine gate_guard zr32 ?_; dsimp only)); refine box_event ?hg (N := 6) ?hd (cs := #[.int .i64 0, .int .i64 0, .int .i64 0]) (t := 68) ?hr ?_; (case hd => rfl); (case hg => rfl); (case hr => exact zr15); intro gb112 hg w17 hbox hb; have n_ := as10 (blk_below (zr0 BK109.out) hb) (blk_below (zr0 BK110.out) hb) (below_step zr12 hb) (hbox) ((zr37 : w.heap.size ≤ gb112)) ((zr37 : w.heap.size ≤ gb112)) ((zr23 : gb109 ≠ gb112)) ((zr25 : gb112 ≠ gb109)) ((by rw [hg]; exact Nat.ne_of_lt (blk_lt (zr0 BK110.out)) : gb110 ≠ gb112)) ((by rw [hg]; exact Nat.ne_of_gt (blk_lt (zr0 BK110.out)) : gb112 ≠ gb110)); clear BK109 BK110 HB hb hbox hg; obtain ⟨BK109, BK110, HB, BK112, GW112, GE112, NB109_112, NB112_109, NB110_112, NB112_110⟩ := n_; have hnb18 := NB112_109.out; have hnc18 := NB109_112.out; have hnb19 := NB112_110.out; have hnc19 := NB110_112.out; obtain ⟨hcz20_0, hcz20_1, hcz20_2, hfz20_0, hfz20_1, hfz20_2⟩ := bcs3 BK112.out))
      repeat (go_quiet (first | ((with_reducible refine gate_dst (N := 6) rfl ?_); (try (refine gate_guard zr32 ?_; dsimp only)); refine box_event ?hg (N := 6) ?hd (cs := #[.int .i64 0, .int .i64 0, .int .i64 0]) (t := 68) ?hr ?_; (case hd => rfl); (case hg => rfl); (case hr => exact zr15); intro gb112 hg w17 hbox hb; have n_ := as10 (blk_below (zr0 BK109.out) hb) (blk_below (zr0 BK110.out) hb) (below_step zr12 hb) (hbox) ((zr37 : w.heap.size ≤ gb112)) ((zr37 : w.heap.size ≤ gb112)) ((zr23 : gb109 ≠ gb112)) ((zr25 : gb112 ≠ gb109)) ((by rw [hg]; exact Nat.ne_of_lt (blk_lt (zr0 BK110.out)) : gb110 ≠ gb112)) ((by rw [hg]; exact Nat.ne_of_gt (blk_lt (zr0 BK110.out)) : gb112 ≠ gb110)); clear BK109 BK110 HB hb hbox hg; obtain ⟨BK109, BK110, HB, BK112, GW112, GE112, NB109_112, NB112_109, NB110_112, NB112_110⟩ := n_; have hnb18 := NB112_109.out; have hnc18 := NB109_112.out; have hnb19 := NB112_110.out; have hnc19 := NB110_112.out; obtain ⟨hcz20_0, hcz20_1, hcz20_2, hfz20_0, hfz20_1, hfz20_2⟩ := bcs3 BK112.out)); go_upto_region 7 with (first | ((with_reducible refine gate_dst (N := 6) rfl ?_); (try (refine gate_guard zr32 ?_; dsimp only)); refine box_event ?hg (N := 6) ?hd (cs := #[.int .i64 0, .int .i64 0, .int .i64 0]) (t := 68) ?hr ?_; (case hd => rfl); (case hg => rfl); (case hr => exact zr15); intro gb112 hg w17 hbox hb; have n_ := as10 (blk_below (zr0 BK109.out) hb) (blk_below (zr0 BK110.out) hb) (below_step zr12 hb) (hbox) ((zr37 : w.heap.size ≤ gb112)) ((zr37 : w.heap.size ≤ gb112)) ((zr23 : gb109 ≠ gb112)) ((zr25 : gb112 ≠ gb109)) ((by rw [hg]; exact Nat.ne_of_lt (blk_lt (zr0 BK110.out)) : gb110 ≠ gb112)) ((by rw [hg]; exact Nat.ne_of_gt (blk_lt (zr0 BK110.out)) : gb112 ≠ gb110)); clear BK109 BK110 HB hb hbox hg; obtain ⟨BK109, BK110, HB, BK112, GW112, GE112, NB109_112, NB112_109, NB110_112, NB112_110⟩ := n_; have hnb18 := NB112_109.out; have hnc18 := NB109_112.out; have hnb19 := NB112_110.out; have hnc19 := NB110_112.out; obtain ⟨hcz20_0, hcz20_1, hcz20_2, hfz20_0, hfz20_1, hfz20_2⟩ := bcs3 BK112.out)))
      (try simp only [Act.put, List.setIfInBounds_toArray, List.set_cons_zero, List.set_cons_succ])
      go_cut [34] (fun v34 wc => ∃ (kq : Nat) (x34_13 : Bool), v34 = .bool x34_13 ∧ Aside0 (culletref07_checkStand.j1 kq x5_1 x34_13 a0_0 l0_1 l0_2 a1_0 l1_1 ((rd_T68 l1_1 x5_1).f0) ((rd_T68 l1_1 x5_1).f1) ((rd_T68 l1_1 x5_1).f2) = some r) ∧ Aside0 (kq ≤ k1) ∧ Aside0 (wc.heap[gb109]? = some (.cells #[.int .i64 a0_0, (.slice A0_1 l0_1.length c0_1), (.slice A0_2 l0_2.length c0_2)] 25 (0, 0))) ∧ Aside0 (wc.heap[gb110]? = some (.cells #[.string a1_0, (.slice (some ad111) l1_1.length c1_1)] 56 (0, 0))) ∧ Aside0 (wc.heap[gb112]? = some (.cells #[.int .i64 ((rd_T68 l1_1 x5_1).f0), .int .i64 ((rd_T68 l1_1 x5_1).f1), .int .i64 ((rd_T68 l1_1 x5_1).f2)] 68 (0, 0))) ∧ Aside0 (Below w.heap.size w wc))
      case first =>
       have H := HC14.out
       clear HC14
       by_cases c21 : ((rd_T68 l1_1 x5_1).f0) < 0
       ·rw [if_pos c21] at H
        have c21b0 : decide (((rd_T68 l1_1 x5_1).f0) < 0) = true := decide_eq_true c21
        clear c21
        (first | rw [c21b0] | (simp only [i64_w, i32_w]; rw [c21b0]) | skip)
        have H' := Aside0.mk H
        clear H
        have hnb22 := NB112_109.out
        have hnc22 := NB109_112.out
        have hnb23 := NB112_110.out
        have hnc23 := NB110_112.out
        obtain ⟨hcz24_0, hcz24_1, hcz24_2, hfz24_0, hfz24_1, hfz24_2⟩ := bcs3 BK112.out
        go_wp2
        repeat (go_quiet (fail); try go_wp2)
        go_meet
        case rel => exact ⟨_, (true), zr9, H', ⟨by have := HK1.out; first | omega | exact Nat.le_refl _⟩, ⟨(bch1 NB109_112.out BK109.out)⟩, ⟨(bch1 NB110_112.out BK110.out)⟩, ⟨(bch0p BK112.out)⟩, ⟨zr11⟩⟩
       ·rw [if_neg c21] at H
        have c21b0 : decide (((rd_T68 l1_1 x5_1).f0) < 0) = false := decide_eq_false c21
        clear c21
        (first | rw [c21b0] | (simp only [i64_w, i32_w]; rw [c21b0]) | skip)
        have H' := Aside0.mk H
        clear H
        have hnb25 := NB112_109.out
        have hnc25 := NB109_112.out
        have hnb26 := NB112_110.out
        have hnc26 := NB110_112.out
        obtain ⟨hcz27_0, hcz27_1, hcz27_2, hfz27_0, hfz27_1, hfz27_2⟩ := bcs3 BK112.out
        have hnb28 := NB109_110.out
        have hnc28 := NB110_109.out
        obtain ⟨hcz29_0, hcz29_1, hcz29_2, hfz29_0, hfz29_1, hfz29_2⟩ := bcs3 BK109.out
        go_wp2
        repeat (go_quiet (fail); try go_wp2)
        go_meet
        case rel => exact ⟨_, (decide (((rd_T68 l1_1 x5_1).f0) ≥ (l0_1.length : Int))), zr9, H', ⟨by have := HK1.out; first | omega | exact Nat.le_refl _⟩, ⟨(bch1 NB109_112.out BK109.out)⟩, ⟨(bch1 NB110_112.out BK110.out)⟩, ⟨(bch0p BK112.out)⟩, ⟨zr11⟩⟩
      case rest =>
       clear HC14
       try clear c1
       try clear p1
       try clear q1
       try clear hx1
       try clear c2
       try clear p2 p2
       try clear c3
       try clear c3b0
       try clear c3b1
       try clear c5
       try clear c6
       try clear c10
       try clear p11
       try clear q11
       try clear hx11
       try clear c12
       try clear c12b0
       try clear c13
       try clear c13b0
       try clear c15
       try clear c18
       try clear c19
       try clear c21
       try clear c21b0
       try clear c22
       try clear c23
       try clear c25
       try clear c26
       try clear c28
       try clear hcz11_0 hcz11_1 hfz11_0 hfz11_1
       try clear hcz16_0 hcz16_1 hfz16_0 hfz16_1
       try clear hcz20_0 hcz20_1 hcz20_2 hfz20_0 hfz20_1 hfz20_2
       try clear hcz24_0 hcz24_1 hcz24_2 hfz24_0 hfz24_1 hfz24_2
       try clear hcz27_0 hcz27_1 hcz27_2 hfz27_0 hfz27_1 hfz27_2
       try clear hcz29_0 hcz29_1 hcz29_2 hfz29_0 hfz29_1 hfz29_2
       try clear hcz7_0 hcz7_1 hfz7_0 hfz7_1
       try clear hx111_0
       try clear hx111_1
       try clear hx111_2
       try clear p111
       try clear q111
       obtain ⟨kq, x34_13, rfl, HA, HJ13, BK109, BK110, BK112, HB⟩ := hcut
       cases kq with
       | zero => exact absurd HA.out (by simp [culletref07_checkStand.j1])
       | succ kj13 =>
        have H := HA.out
        clear HA
        simp only [culletref07_checkStand.j1] at H
        by_cases c30 : x34_13 = true
        ·subst c30
         have H1 : (some 7) = some r := by rw [if_pos rfl] at H; exact H
         clear H
         have H := H1
         clear H1
         obtain rfl := Option.some.inj H
         go_wp2
         repeat (go_quiet (fail); try go_wp2)
         go_ret
         exact ⟨zr10, zr11⟩
        ·replace c30 := Bool.eq_false_iff.mpr c30
         subst c30
         have H1 : (culletref07_checkStand.l1 kj13 x5_1 0 a0_0 l0_1 l0_2 a1_0 l1_1 ((rd_T68 l1_1 x5_1).f0) ((rd_T68 l1_1 x5_1).f1) ((rd_T68 l1_1 x5_1).f2)) = some r := by rw [if_neg (show ¬ (false = true) by decide)] at H; exact H
         clear H
         have H := H1
         clear H1
         have H' := Aside0.mk H
         clear H
         go_wp2
         repeat (go_quiet (fail); try go_wp2)
         go_loopg [7] kj13 (fun kq v7 w' => ∃ (x7_3 : Int), v7 = .int .i64 x7_3 ∧ Aside0 (culletref07_checkStand.l1 kq x5_1 x7_3 a0_0 l0_1 l0_2 a1_0 l1_1 ((rd_T68 l1_1 x5_1).f0) ((rd_T68 l1_1 x5_1).f1) ((rd_T68 l1_1 x5_1).f2) = some r) ∧ Aside0 (kq ≤ kj13) ∧ Aside0 (w'.heap[gb109]? = some (.cells #[.int .i64 a0_0, (.slice A0_1 l0_1.length c0_1), (.slice A0_2 l0_2.length c0_2)] 25 (0, 0))) ∧ Aside0 (w'.heap[gb110]? = some (.cells #[.string a1_0, (.slice (some ad111) l1_1.length c1_1)] 56 (0, 0))) ∧ Aside0 (w'.heap[gb112]? = some (.cells #[.int .i64 ((rd_T68 l1_1 x5_1).f0), .int .i64 ((rd_T68 l1_1 x5_1).f1), .int .i64 ((rd_T68 l1_1 x5_1).f2)] 68 (0, 0))) ∧ Aside0 (Below w.heap.size w w'))
         case atStart => exact ⟨(0), zr9, H', ⟨Nat.le_refl _⟩, ⟨(zr0 BK109.out)⟩, ⟨(zr0 BK110.out)⟩, ⟨(zr0 BK112.out)⟩, ⟨zr11⟩⟩
         case round =>
          clear H'
          try clear c1
          try clear p1 p1
          try clear q1 q1
          try clear hx1
          try clear c2
          try clear p2 p2
          try clear c3
          try clear c3b0
          try clear c3b1
          try clear c5
          try clear c6
          try clear c10
          try clear p11 p11
          try clear q11 q11
          try clear hx11
          try clear c12
          try clear c12b0
          try clear c13
          try clear c13b0
          try clear c15
          try clear c18
          try clear c19
          try clear c21
          try clear c21b0
          try clear c22
          try clear c23
          try clear c25
          try clear c26
          try clear c28
          try clear c30
          try clear hcz11_0 hcz11_1 hfz11_0 hfz11_1
          try clear hcz16_0 hcz16_1 hfz16_0 hfz16_1
          try clear hcz20_0 hcz20_1 hcz20_2 hfz20_0 hfz20_1 hfz20_2
          try clear hcz24_0 hcz24_1 hcz24_2 hfz24_0 hfz24_1 hfz24_2
          try clear hcz27_0 hcz27_1 hcz27_2 hfz27_0 hfz27_1 hfz27_2
          try clear hcz29_0 hcz29_1 hcz29_2 hfz29_0 hfz29_1 hfz29_2
          try clear hcz7_0 hcz7_1 hfz7_0 hfz7_1
          try clear hx111_0
          try clear hx111_1
          try clear hx111_2
          try clear p111
          try clear q111
          obtain ⟨x7_3, rfl, HA, HK3, BK109, BK110, BK112, HB⟩ := hrel
          cases gk with
          | zero => exact absurd HA.out (by simp [culletref07_checkStand.l1])
          | succ k3 =>
           have H := HA.out
           clear HA
           simp only [culletref07_checkStand.l1] at H
           by_cases c31 : x7_3 < x5_1
           ·rw [if_pos c31] at H
            have c31b0 : decide (x7_3 < x5_1) = true := decide_eq_true c31
            clear c31
            by_cases c32 : 0 ≤ x7_3
            ·rw [if_pos c32] at H
             have c32b0 : decide (0 ≤ x7_3) = true := decide_eq_true c32
             clear c32
             by_cases c33 : x7_3 < (l1_1.length : Int)
             ·rw [if_pos c33] at H
              have c33b0 : decide (x7_3 < (l1_1.length : Int)) = true := decide_eq_true c33
              clear c33
              by_cases c34 : ((rd_T68 l1_1 x7_3).f0) = ((rd_T68 l1_1 x5_1).f0)
              ·rw [if_pos c34] at H
               have c34b0 : (((rd_T68 l1_1 x7_3).f0) == ((rd_T68 l1_1 x5_1).f0)) = true := beq_iff_eq.mpr c34
               have c34b1 : (((rd_T68 l1_1 x7_3).f0) != ((rd_T68 l1_1 x5_1).f0)) = false := bne_eq_false_iff_eq.mpr c34
               clear c34
               obtain rfl := Option.some.inj H
               have hnb35 := NB110_109.out
               have hnc35 := NB109_110.out
               have hnb36 := NB110_112.out
               have hnc36 := NB112_110.out
               obtain ⟨hcz37_0, hcz37_1, hfz37_0, hfz37_1⟩ := bcs2 BK110.out
               have p113 : 0 ≤ (x7_3 : Int) := of_decide_eq_true zr2
               have q113 : x7_3 < (l1_1.length : Int) := of_decide_eq_true zr2
               obtain ⟨ad113, e113, hx113_0, hx113_1, hx113_2⟩ := at_T68 HR1_1.out x7_3 p113 q113
               obtain rfl : ad111 = ad113 := (by injection e113)
               replace hx113_0 := hcx HB.out hx113_0
               replace hx113_1 := hcx HB.out hx113_1
               replace hx113_2 := hcx HB.out hx113_2
               replace p113 := eq_true p113
               replace q113 := eq_true q113
               have hnb38 := NB112_109.out
               have hnc38 := NB109_112.out
               obtain ⟨hcz39_0, hcz39_1, hcz39_2, hfz39_0, hfz39_1, hfz39_2⟩ := bcs3 BK112.out
               go_wp2
               repeat (go_quiet (fail); try go_wp2)
               go_ret
               exact ⟨zr10, zr11⟩
              ·rw [if_neg c34] at H
               have c34b0 : (((rd_T68 l1_1 x7_3).f0) == ((rd_T68 l1_1 x5_1).f0)) = false := beq_eq_false_iff_ne.mpr c34
               have c34b1 : (((rd_T68 l1_1 x7_3).f0) != ((rd_T68 l1_1 x5_1).f0)) = true := bne_iff_ne.mpr c34
               have H' := Aside0.mk H
               clear H
               have hnb40 := NB110_109.out
               have hnc40 := NB109_110.out
               have hnb41 := NB110_112.out
               have hnc41 := NB112_110.out
               obtain ⟨hcz42_0, hcz42_1, hfz42_0, hfz42_1⟩ := bcs2 BK110.out
               have p113 : 0 ≤ (x7_3 : Int) := of_decide_eq_true zr2
               have q113 : x7_3 < (l1_1.length : Int) := of_decide_eq_true zr2
               obtain ⟨ad113, e113, hx113_0, hx113_1, hx113_2⟩ := at_T68 HR1_1.out x7_3 p113 q113
               obtain rfl : ad111 = ad113 := (by injection e113)
               replace hx113_0 := hcx HB.out hx113_0
               replace hx113_1 := hcx HB.out hx113_1
               replace hx113_2 := hcx HB.out hx113_2
               replace p113 := eq_true p113
               replace q113 := eq_true q113
               have hnb43 := NB112_109.out
               have hnc43 := NB109_112.out
               obtain ⟨hcz44_0, hcz44_1, hcz44_2, hfz44_0, hfz44_1, hfz44_2⟩ := bcs3 BK112.out
               go_wp2
               repeat (go_quiet (fail); try go_wp2)
               go_roundg k3
               case measure => have := HK1.out; have := HJ13.out; have := HK3.out; omega
               case rel => exact ⟨(wrap64 (x7_3 + 1)), zr9, H', ⟨by have := HK1.out; have := HJ13.out; have := HK3.out; omega⟩, ⟨(zr0 BK109.out)⟩, ⟨(zr0 BK110.out)⟩, ⟨(zr0 BK112.out)⟩, ⟨zr11⟩⟩
             ·rw [if_neg c33] at H
              exact absurd H zr38
            ·rw [if_neg c32] at H
             exact absurd H zr38
           ·rw [if_neg c31] at H
            have c31b0 : decide (x7_3 < x5_1) = false := decide_eq_false c31
            clear c31
            by_cases c45 : ((rd_T68 l1_1 x5_1).f2) < 1
            ·rw [if_pos c45] at H
             have c45b0 : decide (((rd_T68 l1_1 x5_1).f2) < 1) = true := decide_eq_true c45
             clear c45
             obtain rfl := Option.some.inj H
             have hnb46 := NB112_109.out
             have hnc46 := NB109_112.out
             have hnb47 := NB112_110.out
             have hnc47 := NB110_112.out
             obtain ⟨hcz48_0, hcz48_1, hcz48_2, hfz48_0, hfz48_1, hfz48_2⟩ := bcs3 BK112.out
             go_wp2
             repeat (go_quiet (fail); try go_wp2)
             go_ret
             exact ⟨zr10, zr11⟩
            ·rw [if_neg c45] at H
             have c45b0 : decide (((rd_T68 l1_1 x5_1).f2) < 1) = false := decide_eq_false c45
             clear c45
             by_cases c49 : ((rd_T68 l1_1 x5_1).f2) > 1000
             ·rw [if_pos c49] at H
              have c49b0 : decide (1000 < ((rd_T68 l1_1 x5_1).f2)) = true := decide_eq_true c49
              clear c49
              obtain rfl := Option.some.inj H
              have hnb50 := NB112_109.out
              have hnc50 := NB109_112.out
              have hnb51 := NB112_110.out
              have hnc51 := NB110_112.out
              obtain ⟨hcz52_0, hcz52_1, hcz52_2, hfz52_0, hfz52_1, hfz52_2⟩ := bcs3 BK112.out
              go_wp2
              repeat (go_quiet (fail); try go_wp2)
              go_ret
              exact ⟨zr10, zr11⟩
             ·rw [if_neg c49] at H
              have c49b0 : decide (1000 < ((rd_T68 l1_1 x5_1).f2)) = false := decide_eq_false c49
              clear c49
              by_cases c53 : ((rd_T68 l1_1 x5_1).f1) < 0
              ·rw [if_pos c53] at H
               have c53b0 : decide (((rd_T68 l1_1 x5_1).f1) < 0) = true := decide_eq_true c53
               clear c53
               obtain rfl := Option.some.inj H
               have hnb54 := NB112_109.out
               have hnc54 := NB109_112.out
               have hnb55 := NB112_110.out
               have hnc55 := NB110_112.out
               obtain ⟨hcz56_0, hcz56_1, hcz56_2, hfz56_0, hfz56_1, hfz56_2⟩ := bcs3 BK112.out
               go_wp2
               repeat (go_quiet (fail); try go_wp2)
               go_ret
               exact ⟨zr10, zr11⟩
              ·rw [if_neg c53] at H
               have c53b0 : decide (((rd_T68 l1_1 x5_1).f1) < 0) = false := decide_eq_false c53
               clear c53
               by_cases c57 : ((rd_T68 l1_1 x5_1).f1) > ((rd_T68 l1_1 x5_1).f2)
               ·rw [if_pos c57] at H
                have c57b0 : decide (((rd_T68 l1_1 x5_1).f2) < ((rd_T68 l1_1 x5_1).f1)) = true := decide_eq_true c57
                clear c57
                obtain rfl := Option.some.inj H
                have hnb58 := NB112_109.out
                have hnc58 := NB109_112.out
                have hnb59 := NB112_110.out
                have hnc59 := NB110_112.out
                obtain ⟨hcz60_0, hcz60_1, hcz60_2, hfz60_0, hfz60_1, hfz60_2⟩ := bcs3 BK112.out
                go_wp2
                repeat (go_quiet (fail); try go_wp2)
                go_ret
                exact ⟨zr10, zr11⟩
               ·rw [if_neg c57] at H
                have c57b0 : decide (((rd_T68 l1_1 x5_1).f2) < ((rd_T68 l1_1 x5_1).f1)) = false := decide_eq_false c57
                clear c57
                have H' := Aside0.mk H
                clear H
                have hnb61 := NB112_109.out
                have hnc61 := NB109_112.out
                have hnb62 := NB112_110.out
                have hnc62 := NB110_112.out
                obtain ⟨hcz63_0, hcz63_1, hcz63_2, hfz63_0, hfz63_1, hfz63_2⟩ := bcs3 BK112.out
                go_wp2
                repeat (go_quiet (fail); try go_wp2)
                go_roundg k3
                case measure => have := HK1.out; have := HJ13.out; have := HK3.out; omega
                case rel => exact ⟨(wrap64 (x5_1 + 1)), zr9, H', ⟨by have := HK1.out; have := HJ13.out; have := HK3.out; omega⟩, ⟨(zr0 BK109.out)⟩, ⟨(zr0 BK110.out)⟩, ⟨zr11⟩⟩
     ·rw [if_neg c13] at H
      exact absurd H zr38
    ·rw [if_neg c12] at H
     have c12b0 : decide (x5_1 < (l1_1.length : Int)) = false := decide_eq_false c12
     clear c12
     obtain rfl := Option.some.inj H
     have hnb64 := NB110_109.out
     have hnc64 := NB109_110.out
     obtain ⟨hcz65_0, hcz65_1, hfz65_0, hfz65_1⟩ := bcs2 BK110.out
     go_wp2
     repeat (go_quiet (fail); try go_wp2)
     go_ret
     exact ⟨zr10, zr12⟩
mutual
def culletref07_Check.j0 : Nat → Bool → Int → List (S58) → List (S56) → Option (Int)
 | 0, _, _, _, _ => none
 | k + 1, x14, x115000, x115001, x115002 => if x14 = true then (some 1) else (if (x115001.length : Int) > 8 then (some 3) else (culletref07_Check.l0 k 0 x115000 x115001 x115002))
def culletref07_Check.l0 : Nat → Int → Int → List (S58) → List (S56) → Option (Int)
 | 0, _, _, _, _ => none
 | k + 1, x3, x115000, x115001, x115002 => if x3 < (x115001.length : Int) then (if 0 ≤ x3 then ((culletref04_Name.f k ((rd_T58 x115001 x3).f0)).bind fun t117 => (if t117 = true then ((culletref07_flaw.f k x115000 x115001 x115002 ((rd_T58 x115001 x3).f0)).bind fun t118 => (if t118 < x3 then (some 6) else (if ((rd_T58 x115001 x3).f1) < 0 then (some 1) else (if ((rd_T58 x115001 x3).f1) > 4 then (some 1) else (culletref07_Check.l0 k (wrap64 (x3 + 1)) x115000 x115001 x115002))))) else (some 5))) else (none)) else (if (x115002.length : Int) > 4 then (some 3) else (culletref07_Check.l1 k 0 x115000 x115001 x115002))
def culletref07_Check.l1 : Nat → Int → Int → List (S58) → List (S56) → Option (Int)
 | 0, _, _, _, _ => none
 | k + 1, x5, x115000, x115001, x115002 => if x5 < (x115002.length : Int) then (if 0 ≤ x5 then ((culletref04_Name.f k ((rd_T56 x115002 x5).f0)).bind fun t120 => (if t120 = true then ((culletref07_stand.f k x115000 x115001 x115002 ((rd_T56 x115002 x5).f0)).bind fun t122 => (if t122 < x5 then (some 6) else ((culletref07_checkStand.f k x115000 x115001 x115002 ((rd_T56 x115002 x5).f0) ((rd_T56 x115002 x5).f1)).bind fun t124 => (if t124 = 0 then (culletref07_Check.l1 k (wrap64 (x5 + 1)) x115000 x115001 x115002) else (some t124))))) else (some 5))) else (none)) else (some 0)
end
def culletref07_Check.f (k : Nat) (a0_0 : Int) (l0_1 : List (S58)) (l0_2 : List (S56)) : Option (Int) := if a0_0 < 1 then (culletref07_Check.j0 k true a0_0 l0_1 l0_2) else (culletref07_Check.j0 k (decide (a0_0 > 1000000000)) a0_0 l0_1 l0_2)
def culletref07_Check.T22 : Bool × List (List Nat × List Nat) := (true, [([], []), ([], []), ([1], [1]), ([], []), ([2, 3], [2, 3]), ([4], [4]), ([5], [5]), ([0, 6], [0, 6]), ([], []), ([7, 8], [7, 8])])
def culletref07_Check.B22 : List Nat := [0, 0, 2, 0, 14, 30, 62, 127, 0, 511]
theorem culletref07_Check.tab22 : rtab .any (opsOf Try.f22 22) = culletref07_Check.T22 := by kernel_rfl
theorem culletref07_Check.bits22 : waitsOk culletref07_Check.T22.2 culletref07_Check.B22 = true := by kernel_rfl
def culletref07_Check.T24 : Bool × List (List Nat × List Nat) := (true, [([], []), ([], []), ([1], [1]), ([], []), ([2, 3], [2, 3]), ([4], [4]), ([0, 5], [0, 5]), ([6, 6, 0, 1, 2, 3, 4, 5, 6], [6])])
def culletref07_Check.B24 : List Nat := [0, 0, 2, 0, 14, 30, 63, 127]
theorem culletref07_Check.tab24 : rtab .any (opsOf Try.f22 24) = culletref07_Check.T24 := by kernel_rfl
theorem culletref07_Check.bits24 : waitsOk culletref07_Check.T24.2 culletref07_Check.B24 = true := by kernel_rfl
set_option maxHeartbeats 8000000 in
set_option maxRecDepth 100000 in
theorem culletref07_Check.calls (k : Nat) (a0_0 : Int) (A0_1 : Option Addr) (c0_1 : Nat) (l0_1 : List (S58)) (A0_2 : Option Addr) (c0_2 : Nat) (l0_2 : List (S56)) (r : Int) (w : World) (hr0_1 : Kd.C k58 w A0_1 l0_1.length l0_1) (hc0_1 : l0_1.length ≤ c0_1) (hr0_2 : Kd.C k56 w A0_2 l0_2.length l0_2) (hc0_2 : l0_2.length ≤ c0_2) (h : culletref07_Check.f k a0_0 l0_1 l0_2 = some r) :
  Calls Try.prog 22 #[.agg #[.int .i64 a0_0, .slice A0_1 l0_1.length c0_1, .slice A0_2 l0_2.length c0_2]] w fun e w' => e = .returned (.int .i64 r) ∧ Below w.heap.size w w' := by
 have hu25 := Try.underlying25
 have hu58 := Try.underlying58
 have hu56 := Try.underlying56
 have HR0_1 := Aside0.mk hr0_1
 have HC0_1 := Aside0.mk hc0_1
 clear hr0_1 hc0_1
 have HR0_2 := Aside0.mk hr0_2
 have HC0_2 := Aside0.mk hc0_2
 clear hr0_2 hc0_2
 have HB := Aside0.mk (Below.refl w.heap.size w)
 have H : (if a0_0 < 1 then (culletref07_Check.j0 k true a0_0 l0_1 l0_2) else (culletref07_Check.j0 k (decide (a0_0 > 1000000000)) a0_0 l0_1 l0_2)) = some r := h
 clear h
 have HC2 := Aside0.mk H
 clear H
 go_enter Try.func22, Try.ntmps22
 go_upto_region 1 with (first | ((with_reducible refine gate_dst (N := 1) rfl ?_); refine box_event ?hg (N := 1) ?hd (cs := #[.int .i64 a0_0, .slice A0_1 l0_1.length c0_1, .slice A0_2 l0_2.length c0_2]) (t := 25) ?hr ?_; (case hd => rfl); (case hg => rfl); (case hr => exact zr15); intro gb114 hg w3 hbox hb; have n_ := as4 (below_step zr4 hb) (hbox) ((zr24 : w.heap.size ≤ gb114)) ((zr24 : w.heap.size ≤ gb114)); clear HB hb hbox hg; obtain ⟨HB, BK114, GW114, GE114⟩ := n_))
 (try simp only [Act.put, List.setIfInBounds_toArray, List.set_cons_zero, List.set_cons_succ])
 go_cut [14] (fun v14 wc => ∃ (kq : Nat) (x14_1 : Bool), v14 = .bool x14_1 ∧ Aside0 (culletref07_Check.j0 kq x14_1 a0_0 l0_1 l0_2 = some r) ∧ Aside0 (kq ≤ k) ∧ Aside0 (wc.heap[gb114]? = some (.cells #[.int .i64 a0_0, (.slice A0_1 l0_1.length c0_1), (.slice A0_2 l0_2.length c0_2)] 25 (0, 0))) ∧ Aside0 (Below w.heap.size w wc))
 case first =>
  have H := HC2.out
  clear HC2
  by_cases c4 : a0_0 < 1
  ·rw [if_pos c4] at H
   have c4b0 : decide (a0_0 < 1) = true := decide_eq_true c4
   clear c4
   (first | rw [c4b0] | (simp only [i64_w, i32_w]; rw [c4b0]) | skip)
   have H' := Aside0.mk H
   clear H
   obtain ⟨hcz5_0, hcz5_1, hcz5_2, hfz5_0, hfz5_1, hfz5_2⟩ := bcs3 BK114.out
   go_wp2
   go_meet
   case rel => exact ⟨_, (true), zr9, H', ⟨zr36⟩, ⟨(zr0 BK114.out)⟩, ⟨zr3⟩⟩
  ·rw [if_neg c4] at H
   have c4b0 : decide (a0_0 < 1) = false := decide_eq_false c4
   clear c4
   (first | rw [c4b0] | (simp only [i64_w, i32_w]; rw [c4b0]) | skip)
   have H' := Aside0.mk H
   clear H
   obtain ⟨hcz6_0, hcz6_1, hcz6_2, hfz6_0, hfz6_1, hfz6_2⟩ := bcs3 BK114.out
   go_wp2
   go_meet
   case rel => exact ⟨_, (decide (a0_0 > 1000000000)), zr9, H', ⟨zr36⟩, ⟨(zr0 BK114.out)⟩, ⟨zr3⟩⟩
 case rest =>
  clear HC2
  try clear c2
  try clear p2
  try clear c4
  try clear c4b0
  try clear hcz5_0 hcz5_1 hcz5_2 hfz5_0 hfz5_1 hfz5_2
  try clear hcz6_0 hcz6_1 hcz6_2 hfz6_0 hfz6_1 hfz6_2
  obtain ⟨kq, x14_1, rfl, HA, HJ1, BK114, HB⟩ := hcut
  cases kq with
  | zero => exact absurd HA.out (by simp [culletref07_Check.j0])
  | succ kj1 =>
   have H := HA.out
   clear HA
   simp only [culletref07_Check.j0] at H
   by_cases c7 : x14_1 = true
   ·subst c7
    have H1 : (some 1) = some r := by rw [if_pos rfl] at H; exact H
    clear H
    have H := H1
    clear H1
    obtain rfl := Option.some.inj H
    go_wp2
    go_ret
    exact ⟨zr10, zr3⟩
   ·replace c7 := Bool.eq_false_iff.mpr c7
    subst c7
    have H1 : (if (l0_1.length : Int) > 8 then (some 3) else (culletref07_Check.l0 kj1 0 a0_0 l0_1 l0_2)) = some r := by rw [if_neg (show ¬ (false = true) by decide)] at H; exact H
    clear H
    have H := H1
    clear H1
    by_cases c8 : (l0_1.length : Int) > 8
    ·rw [if_pos c8] at H
     have c8b0 : decide (8 < (l0_1.length : Int)) = true := decide_eq_true c8
     have c8b1 : decide (8 < l0_1.length) = true := decide_eq_true zr13
     clear c8
     obtain rfl := Option.some.inj H
     obtain ⟨hcz9_0, hcz9_1, hcz9_2, hfz9_0, hfz9_1, hfz9_2⟩ := bcs3 BK114.out
     go_wp2
     go_ret
     exact ⟨zr10, zr3⟩
    ·rw [if_neg c8] at H
     have c8b0 : decide (8 < (l0_1.length : Int)) = false := decide_eq_false c8
     have c8b1 : decide (8 < l0_1.length) = false := decide_eq_false zr13
     clear c8
     have H' := Aside0.mk H
     clear H
     obtain ⟨hcz10_0, hcz10_1, hcz10_2, hfz10_0, hfz10_1, hfz10_2⟩ := bcs3 BK114.out
     go_wp2
     go_loopg [3] kj1 (fun kq v3 w' => ∃ (x3_2 : Int), v3 = .int .i64 x3_2 ∧ Aside0 (culletref07_Check.l0 kq x3_2 a0_0 l0_1 l0_2 = some r) ∧ Aside0 (kq ≤ kj1) ∧ Aside0 (w'.heap[gb114]? = some (.cells #[.int .i64 a0_0, (.slice A0_1 l0_1.length c0_1), (.slice A0_2 l0_2.length c0_2)] 25 (0, 0))) ∧ Aside0 (Below w.heap.size w w'))
     case atStart => exact ⟨(0), zr9, H', ⟨Nat.le_refl _⟩, ⟨(zr0 BK114.out)⟩, ⟨zr3⟩⟩
     case round =>
      clear H'
      try clear c2
      try clear p2 p2
      try clear c4
      try clear c4b0
      try clear c7
      try clear c8
      try clear c8b0
      try clear c8b1
      try clear hcz10_0 hcz10_1 hcz10_2 hfz10_0 hfz10_1 hfz10_2
      try clear hcz5_0 hcz5_1 hcz5_2 hfz5_0 hfz5_1 hfz5_2
      try clear hcz6_0 hcz6_1 hcz6_2 hfz6_0 hfz6_1 hfz6_2
      try clear hcz9_0 hcz9_1 hcz9_2 hfz9_0 hfz9_1 hfz9_2
      obtain ⟨x3_2, rfl, HA, HK2, BK114, HB⟩ := hrel
      cases gk with
      | zero => exact absurd HA.out (by simp [culletref07_Check.l0])
      | succ k2 =>
       have H := HA.out
       clear HA
       simp only [culletref07_Check.l0] at H
       by_cases c11 : x3_2 < (l0_1.length : Int)
       ·rw [if_pos c11] at H
        have c11b0 : decide (x3_2 < (l0_1.length : Int)) = true := decide_eq_true c11
        clear c11
        by_cases c12 : 0 ≤ x3_2
        ·rw [if_pos c12] at H
         have c12b0 : decide (0 ≤ x3_2) = true := decide_eq_true c12
         clear c12
         replace H := Option.bind_eq_some_iff.mp H
         obtain ⟨t117, A130, H⟩ := H
         replace H : (if t117 = true then ((culletref07_flaw.f k2 a0_0 l0_1 l0_2 ((rd_T58 l0_1 x3_2).f0)).bind fun t118 => (if t118 < x3_2 then (some 6) else (if ((rd_T58 l0_1 x3_2).f1) < 0 then (some 1) else (if ((rd_T58 l0_1 x3_2).f1) > 4 then (some 1) else (culletref07_Check.l0 k2 (wrap64 (x3_2 + 1)) a0_0 l0_1 l0_2))))) else (some 5)) = some r := H
         have A13 := Aside0.mk A130
         clear A130
         by_cases c14 : t117 = true
         ·subst c14
          have H1 : ((culletref07_flaw.f k2 a0_0 l0_1 l0_2 ((rd_T58 l0_1 x3_2).f0)).bind fun t118 => (if t118 < x3_2 then (some 6) else (if ((rd_T58 l0_1 x3_2).f1) < 0 then (some 1) else (if ((rd_T58 l0_1 x3_2).f1) > 4 then (some 1) else (culletref07_Check.l0 k2 (wrap64 (x3_2 + 1)) a0_0 l0_1 l0_2))))) = some r := by rw [if_pos rfl] at H; exact H
          clear H
          have H := H1
          clear H1
          replace H := Option.bind_eq_some_iff.mp H
          obtain ⟨t118, A150, H⟩ := H
          replace H : (if t118 < x3_2 then (some 6) else (if ((rd_T58 l0_1 x3_2).f1) < 0 then (some 1) else (if ((rd_T58 l0_1 x3_2).f1) > 4 then (some 1) else (culletref07_Check.l0 k2 (wrap64 (x3_2 + 1)) a0_0 l0_1 l0_2)))) = some r := H
          have A15 := Aside0.mk A150
          clear A150
          by_cases c16 : t118 < x3_2
          ·rw [if_pos c16] at H
           have c16b0 : decide (t118 < x3_2) = true := decide_eq_true c16
           clear c16
           obtain rfl := Option.some.inj H
           obtain ⟨hcz17_0, hcz17_1, hcz17_2, hfz17_0, hfz17_1, hfz17_2⟩ := bcs3 BK114.out
           have p115 : 0 ≤ (x3_2 : Int) := of_decide_eq_true zr2
           have q115 : x3_2 < (l0_1.length : Int) := of_decide_eq_true zr2
           obtain ⟨ad115, e115, hx115_0, hx115_1⟩ := at_T58 HR0_1.out x3_2 p115 q115
           cases e115
           replace hx115_0 := hcx HB.out hx115_0
           replace hx115_1 := hcx HB.out hx115_1
           replace p115 := eq_true p115
           replace q115 := eq_true q115
           go_wp2_with (first | ((with_reducible refine gate_dst (N := 4) rfl ?_); refine box_event ?hg (N := 4) ?hd (cs := #[.string (⟨#[]⟩ : ByteArray), .int .i64 0]) (t := 58) ?hr ?_; (case hd => rfl); (case hg => rfl); (case hr => exact zr15); intro gb116 hg w18 hbox hb; have n_ := as7 (blk_below (zr0 BK114.out) hb) (below_step zr3 hb) (hbox) ((zr29 : w.heap.size ≤ gb116)) ((zr29 : w.heap.size ≤ gb116)) ((zr33 : gb114 ≠ gb116)) ((zr34 : gb116 ≠ gb114)); clear BK114 HB hb hbox hg; obtain ⟨BK114, HB, BK116, GW116, GE116, NB114_116, NB116_114⟩ := n_; have hnb19 := NB116_114.out; have hnc19 := NB114_116.out; obtain ⟨hcz20_0, hcz20_1, hfz20_0, hfz20_1⟩ := bcs2 BK116.out) | ((with_reducible refine gate_callee (f := 52) rfl ?_); refine goesL_ (some 33) rfl rfl Try.func52 zr16 rfl #[.string ((rd_T58 l0_1 x3_2).f0)] rfl zr6 ?_; (with_reducible refine (culletref04_Name.calls k2 ((rd_T58 l0_1 x3_2).f0) true _ A13.out).mono ?_); rintro e w' ⟨rfl, ⟨nd, rfl⟩⟩; refine ⟨_, rfl, ?_⟩; obtain ⟨hcz21_0, hcz21_1, hcz21_2, hfz21_0, hfz21_1, hfz21_2⟩ := bcs3 BK114.out) | ((with_reducible refine gate_callee (f := 53) rfl ?_); refine goesL_ (some 38) rfl rfl Try.func53 zr16 rfl #[.agg #[.int .i64 a0_0, .slice (some ad115) l0_1.length c0_1, .slice A0_2 l0_2.length c0_2], .string ((rd_T58 l0_1 x3_2).f0)] rfl zr6 ?_; (with_reducible refine (culletref07_flaw.calls k2 a0_0 _ _ l0_1 _ _ l0_2 ((rd_T58 l0_1 x3_2).f0) t118 _ ?side1 ?side2 ?side3 ?side4 A15.out).mono ?_); (case side1 => exact Kd.C_below HR0_1.out zr7); (case side2 => exact HC0_1.out); (case side3 => exact Kd.C_below HR0_2.out zr7); (case side4 => exact HC0_2.out); rintro e w22 ⟨rfl, hb⟩; refine ⟨_, rfl, ?_⟩; have n_ := as3 (blk_below (g := gb114) (o := .cells #[.int .i64 a0_0, .slice (some ad115) l0_1.length c0_1, .slice A0_2 l0_2.length c0_2] 25 (0, 0)) (bch1 NB114_116.out BK114.out) hb) (blk_below (g := gb116) (o := .cells #[.string ((rd_T58 l0_1 x3_2).f0), .int .i64 ((rd_T58 l0_1 x3_2).f1)] 58 (0, 0)) (bch0p BK116.out) hb) (below_step zr7 hb); clear BK114 BK116 HB; obtain ⟨BK114, BK116, HB⟩ := n_; (try clear hb); (try clear hb2); (try clear hk); (try clear hi)))
           go_ret
           exact ⟨zr10, zr7⟩
          ·rw [if_neg c16] at H
           have c16b0 : decide (t118 < x3_2) = false := decide_eq_false c16
           clear c16
           by_cases c23 : ((rd_T58 l0_1 x3_2).f1) < 0
           ·rw [if_pos c23] at H
            have c23b0 : decide (((rd_T58 l0_1 x3_2).f1) < 0) = true := decide_eq_true c23
            clear c23
            obtain rfl := Option.some.inj H
            obtain ⟨hcz24_0, hcz24_1, hcz24_2, hfz24_0, hfz24_1, hfz24_2⟩ := bcs3 BK114.out
            have p115 : 0 ≤ (x3_2 : Int) := of_decide_eq_true zr2
            have q115 : x3_2 < (l0_1.length : Int) := of_decide_eq_true zr2
            obtain ⟨ad115, e115, hx115_0, hx115_1⟩ := at_T58 HR0_1.out x3_2 p115 q115
            cases e115
            replace hx115_0 := hcx HB.out hx115_0
            replace hx115_1 := hcx HB.out hx115_1
            replace p115 := eq_true p115
            replace q115 := eq_true q115
            go_wp2_with (first | ((with_reducible refine gate_dst (N := 4) rfl ?_); refine box_event ?hg (N := 4) ?hd (cs := #[.string (⟨#[]⟩ : ByteArray), .int .i64 0]) (t := 58) ?hr ?_; (case hd => rfl); (case hg => rfl); (case hr => exact zr15); intro gb116 hg w25 hbox hb; have n_ := as7 (blk_below (zr0 BK114.out) hb) (below_step zr3 hb) (hbox) ((zr29 : w.heap.size ≤ gb116)) ((zr29 : w.heap.size ≤ gb116)) ((zr33 : gb114 ≠ gb116)) ((zr34 : gb116 ≠ gb114)); clear BK114 HB hb hbox hg; obtain ⟨BK114, HB, BK116, GW116, GE116, NB114_116, NB116_114⟩ := n_; have hnb26 := NB116_114.out; have hnc26 := NB114_116.out; obtain ⟨hcz27_0, hcz27_1, hfz27_0, hfz27_1⟩ := bcs2 BK116.out) | ((with_reducible refine gate_callee (f := 52) rfl ?_); refine goesL_ (some 33) rfl rfl Try.func52 zr16 rfl #[.string ((rd_T58 l0_1 x3_2).f0)] rfl zr6 ?_; (with_reducible refine (culletref04_Name.calls k2 ((rd_T58 l0_1 x3_2).f0) true _ A13.out).mono ?_); rintro e w' ⟨rfl, ⟨nd, rfl⟩⟩; refine ⟨_, rfl, ?_⟩; obtain ⟨hcz28_0, hcz28_1, hcz28_2, hfz28_0, hfz28_1, hfz28_2⟩ := bcs3 BK114.out) | ((with_reducible refine gate_callee (f := 53) rfl ?_); refine goesL_ (some 38) rfl rfl Try.func53 zr16 rfl #[.agg #[.int .i64 a0_0, .slice (some ad115) l0_1.length c0_1, .slice A0_2 l0_2.length c0_2], .string ((rd_T58 l0_1 x3_2).f0)] rfl zr6 ?_; (with_reducible refine (culletref07_flaw.calls k2 a0_0 _ _ l0_1 _ _ l0_2 ((rd_T58 l0_1 x3_2).f0) t118 _ ?side1 ?side2 ?side3 ?side4 A15.out).mono ?_); (case side1 => exact Kd.C_below HR0_1.out zr7); (case side2 => exact HC0_1.out); (case side3 => exact Kd.C_below HR0_2.out zr7); (case side4 => exact HC0_2.out); rintro e w29 ⟨rfl, hb⟩; refine ⟨_, rfl, ?_⟩; have n_ := as3 (blk_below (g := gb114) (o := .cells #[.int .i64 a0_0, .slice (some ad115) l0_1.length c0_1, .slice A0_2 l0_2.length c0_2] 25 (0, 0)) (bch1 NB114_116.out BK114.out) hb) (blk_below (g := gb116) (o := .cells #[.string ((rd_T58 l0_1 x3_2).f0), .int .i64 ((rd_T58 l0_1 x3_2).f1)] 58 (0, 0)) (bch0p BK116.out) hb) (below_step zr7 hb); clear BK114 BK116 HB; obtain ⟨BK114, BK116, HB⟩ := n_; (try clear hb); (try clear hb2); (try clear hk); (try clear hi); obtain ⟨hcz30_0, hcz30_1, hfz30_0, hfz30_1⟩ := bcs2 BK116.out))
            go_ret
            exact ⟨zr10, zr7⟩
           ·rw [if_neg c23] at H
            have c23b0 : decide (((rd_T58 l0_1 x3_2).f1) < 0) = false := decide_eq_false c23
            clear c23
            by_cases c31 : ((rd_T58 l0_1 x3_2).f1) > 4
            ·rw [if_pos c31] at H
             have c31b0 : decide (4 < ((rd_T58 l0_1 x3_2).f1)) = true := decide_eq_true c31
             clear c31
             obtain rfl := Option.some.inj H
             obtain ⟨hcz32_0, hcz32_1, hcz32_2, hfz32_0, hfz32_1, hfz32_2⟩ := bcs3 BK114.out
             have p115 : 0 ≤ (x3_2 : Int) := of_decide_eq_true zr2
             have q115 : x3_2 < (l0_1.length : Int) := of_decide_eq_true zr2
             obtain ⟨ad115, e115, hx115_0, hx115_1⟩ := at_T58 HR0_1.out x3_2 p115 q115
             cases e115
             replace hx115_0 := hcx HB.out hx115_0
             replace hx115_1 := hcx HB.out hx115_1
             replace p115 := eq_true p115
             replace q115 := eq_true q115
             go_wp2_with (first | ((with_reducible refine gate_dst (N := 4) rfl ?_); refine box_event ?hg (N := 4) ?hd (cs := #[.string (⟨#[]⟩ : ByteArray), .int .i64 0]) (t := 58) ?hr ?_; (case hd => rfl); (case hg => rfl); (case hr => exact zr15); intro gb116 hg w33 hbox hb; have n_ := as7 (blk_below (zr0 BK114.out) hb) (below_step zr3 hb) (hbox) ((zr29 : w.heap.size ≤ gb116)) ((zr29 : w.heap.size ≤ gb116)) ((zr33 : gb114 ≠ gb116)) ((zr34 : gb116 ≠ gb114)); clear BK114 HB hb hbox hg; obtain ⟨BK114, HB, BK116, GW116, GE116, NB114_116, NB116_114⟩ := n_; have hnb34 := NB116_114.out; have hnc34 := NB114_116.out; obtain ⟨hcz35_0, hcz35_1, hfz35_0, hfz35_1⟩ := bcs2 BK116.out) | ((with_reducible refine gate_callee (f := 52) rfl ?_); refine goesL_ (some 33) rfl rfl Try.func52 zr16 rfl #[.string ((rd_T58 l0_1 x3_2).f0)] rfl zr6 ?_; (with_reducible refine (culletref04_Name.calls k2 ((rd_T58 l0_1 x3_2).f0) true _ A13.out).mono ?_); rintro e w' ⟨rfl, ⟨nd, rfl⟩⟩; refine ⟨_, rfl, ?_⟩; obtain ⟨hcz36_0, hcz36_1, hcz36_2, hfz36_0, hfz36_1, hfz36_2⟩ := bcs3 BK114.out) | ((with_reducible refine gate_callee (f := 53) rfl ?_); refine goesL_ (some 38) rfl rfl Try.func53 zr16 rfl #[.agg #[.int .i64 a0_0, .slice (some ad115) l0_1.length c0_1, .slice A0_2 l0_2.length c0_2], .string ((rd_T58 l0_1 x3_2).f0)] rfl zr6 ?_; (with_reducible refine (culletref07_flaw.calls k2 a0_0 _ _ l0_1 _ _ l0_2 ((rd_T58 l0_1 x3_2).f0) t118 _ ?side1 ?side2 ?side3 ?side4 A15.out).mono ?_); (case side1 => exact Kd.C_below HR0_1.out zr7); (case side2 => exact HC0_1.out); (case side3 => exact Kd.C_below HR0_2.out zr7); (case side4 => exact HC0_2.out); rintro e w37 ⟨rfl, hb⟩; refine ⟨_, rfl, ?_⟩; have n_ := as3 (blk_below (g := gb114) (o := .cells #[.int .i64 a0_0, .slice (some ad115) l0_1.length c0_1, .slice A0_2 l0_2.length c0_2] 25 (0, 0)) (bch1 NB114_116.out BK114.out) hb) (blk_below (g := gb116) (o := .cells #[.string ((rd_T58 l0_1 x3_2).f0), .int .i64 ((rd_T58 l0_1 x3_2).f1)] 58 (0, 0)) (bch0p BK116.out) hb) (below_step zr7 hb); clear BK114 BK116 HB; obtain ⟨BK114, BK116, HB⟩ := n_; (try clear hb); (try clear hb2); (try clear hk); (try clear hi); obtain ⟨hcz38_0, hcz38_1, hfz38_0, hfz38_1⟩ := bcs2 BK116.out))
             go_ret
             exact ⟨zr10, zr7⟩
            ·rw [if_neg c31] at H
             have c31b0 : decide (4 < ((rd_T58 l0_1 x3_2).f1)) = false := decide_eq_false c31
             clear c31
             have H' := Aside0.mk H
             clear H
             obtain ⟨hcz39_0, hcz39_1, hcz39_2, hfz39_0, hfz39_1, hfz39_2⟩ := bcs3 BK114.out
             have p115 : 0 ≤ (x3_2 : Int) := of_decide_eq_true zr2
             have q115 : x3_2 < (l0_1.length : Int) := of_decide_eq_true zr2
             obtain ⟨ad115, e115, hx115_0, hx115_1⟩ := at_T58 HR0_1.out x3_2 p115 q115
             cases e115
             replace hx115_0 := hcx HB.out hx115_0
             replace hx115_1 := hcx HB.out hx115_1
             replace p115 := eq_true p115
             replace q115 := eq_true q115
             go_wp2_with (first | ((with_reducible refine gate_dst (N := 4) rfl ?_); refine box_event ?hg (N := 4) ?hd (cs := #[.string (⟨#[]⟩ : ByteArray), .int .i64 0]) (t := 58) ?hr ?_; (case hd => rfl); (case hg => rfl); (case hr => exact zr15); intro gb116 hg w40 hbox hb; have n_ := as7 (blk_below (zr0 BK114.out) hb) (below_step zr3 hb) (hbox) ((zr29 : w.heap.size ≤ gb116)) ((zr29 : w.heap.size ≤ gb116)) ((zr33 : gb114 ≠ gb116)) ((zr34 : gb116 ≠ gb114)); clear BK114 HB hb hbox hg; obtain ⟨BK114, HB, BK116, GW116, GE116, NB114_116, NB116_114⟩ := n_; have hnb41 := NB116_114.out; have hnc41 := NB114_116.out; obtain ⟨hcz42_0, hcz42_1, hfz42_0, hfz42_1⟩ := bcs2 BK116.out) | ((with_reducible refine gate_callee (f := 52) rfl ?_); refine goesL_ (some 33) rfl rfl Try.func52 zr16 rfl #[.string ((rd_T58 l0_1 x3_2).f0)] rfl zr6 ?_; (with_reducible refine (culletref04_Name.calls k2 ((rd_T58 l0_1 x3_2).f0) true _ A13.out).mono ?_); rintro e w' ⟨rfl, ⟨nd, rfl⟩⟩; refine ⟨_, rfl, ?_⟩; obtain ⟨hcz43_0, hcz43_1, hcz43_2, hfz43_0, hfz43_1, hfz43_2⟩ := bcs3 BK114.out) | ((with_reducible refine gate_callee (f := 53) rfl ?_); refine goesL_ (some 38) rfl rfl Try.func53 zr16 rfl #[.agg #[.int .i64 a0_0, .slice (some ad115) l0_1.length c0_1, .slice A0_2 l0_2.length c0_2], .string ((rd_T58 l0_1 x3_2).f0)] rfl zr6 ?_; (with_reducible refine (culletref07_flaw.calls k2 a0_0 _ _ l0_1 _ _ l0_2 ((rd_T58 l0_1 x3_2).f0) t118 _ ?side1 ?side2 ?side3 ?side4 A15.out).mono ?_); (case side1 => exact Kd.C_below HR0_1.out zr7); (case side2 => exact HC0_1.out); (case side3 => exact Kd.C_below HR0_2.out zr7); (case side4 => exact HC0_2.out); rintro e w44 ⟨rfl, hb⟩; refine ⟨_, rfl, ?_⟩; have n_ := as3 (blk_below (g := gb114) (o := .cells #[.int .i64 a0_0, .slice (some ad115) l0_1.length c0_1, .slice A0_2 l0_2.length c0_2] 25 (0, 0)) (bch1 NB114_116.out BK114.out) hb) (blk_below (g := gb116) (o := .cells #[.string ((rd_T58 l0_1 x3_2).f0), .int .i64 ((rd_T58 l0_1 x3_2).f1)] 58 (0, 0)) (bch0p BK116.out) hb) (below_step zr7 hb); clear BK114 BK116 HB; obtain ⟨BK114, BK116, HB⟩ := n_; (try clear hb); (try clear hb2); (try clear hk); (try clear hi); obtain ⟨hcz45_0, hcz45_1, hfz45_0, hfz45_1⟩ := bcs2 BK116.out))
             go_roundg k2
             case measure => have := HJ1.out; have := HK2.out; omega
             case rel => exact ⟨(wrap64 (x3_2 + 1)), zr9, H', ⟨zr31⟩, ⟨(zr0 BK114.out)⟩, ⟨zr7⟩⟩
         ·replace c14 := Bool.eq_false_iff.mpr c14
          subst c14
          have H1 : (some 5) = some r := by rw [if_neg (show ¬ (false = true) by decide)] at H; exact H
          clear H
          have H := H1
          clear H1
          obtain rfl := Option.some.inj H
          obtain ⟨hcz46_0, hcz46_1, hcz46_2, hfz46_0, hfz46_1, hfz46_2⟩ := bcs3 BK114.out
          have p115 : 0 ≤ (x3_2 : Int) := of_decide_eq_true zr2
          have q115 : x3_2 < (l0_1.length : Int) := of_decide_eq_true zr2
          obtain ⟨ad115, e115, hx115_0, hx115_1⟩ := at_T58 HR0_1.out x3_2 p115 q115
          cases e115
          replace hx115_0 := hcx HB.out hx115_0
          replace hx115_1 := hcx HB.out hx115_1
          replace p115 := eq_true p115
          replace q115 := eq_true q115
          go_wp2_with (first | ((with_reducible refine gate_dst (N := 4) rfl ?_); refine box_event ?hg (N := 4) ?hd (cs := #[.string (⟨#[]⟩ : ByteArray), .int .i64 0]) (t := 58) ?hr ?_; (case hd => rfl); (case hg => rfl); (case hr => exact zr15); intro gb116 hg w47 hbox hb; have n_ := as7 (blk_below (zr0 BK114.out) hb) (below_step zr3 hb) (hbox) ((zr29 : w.heap.size ≤ gb116)) ((zr29 : w.heap.size ≤ gb116)) ((zr33 : gb114 ≠ gb116)) ((zr34 : gb116 ≠ gb114)); clear BK114 HB hb hbox hg; obtain ⟨BK114, HB, BK116, GW116, GE116, NB114_116, NB116_114⟩ := n_; have hnb48 := NB116_114.out; have hnc48 := NB114_116.out; obtain ⟨hcz49_0, hcz49_1, hfz49_0, hfz49_1⟩ := bcs2 BK116.out) | ((with_reducible refine gate_callee (f := 52) rfl ?_); refine goesL_ (some 33) rfl rfl Try.func52 zr16 rfl #[.string ((rd_T58 l0_1 x3_2).f0)] rfl zr6 ?_; (with_reducible refine (culletref04_Name.calls k2 ((rd_T58 l0_1 x3_2).f0) false _ A13.out).mono ?_); rintro e w' ⟨rfl, ⟨nd, rfl⟩⟩; refine ⟨_, rfl, ?_⟩))
          go_ret
          exact ⟨zr10, zr7⟩
        ·rw [if_neg c12] at H
         exact absurd H zr38
       ·rw [if_neg c11] at H
        have c11b0 : decide (x3_2 < (l0_1.length : Int)) = false := decide_eq_false c11
        clear c11
        by_cases c50 : (l0_2.length : Int) > 4
        ·rw [if_pos c50] at H
         have c50b0 : decide (4 < (l0_2.length : Int)) = true := decide_eq_true c50
         have c50b1 : decide (4 < l0_2.length) = true := decide_eq_true zr13
         clear c50
         obtain rfl := Option.some.inj H
         obtain ⟨hcz51_0, hcz51_1, hcz51_2, hfz51_0, hfz51_1, hfz51_2⟩ := bcs3 BK114.out
         go_wp2
         go_ret
         exact ⟨zr10, zr3⟩
        ·rw [if_neg c50] at H
         have c50b0 : decide (4 < (l0_2.length : Int)) = false := decide_eq_false c50
         have c50b1 : decide (4 < l0_2.length) = false := decide_eq_false zr13
         clear c50
         have H' := Aside0.mk H
         clear H
         obtain ⟨hcz52_0, hcz52_1, hcz52_2, hfz52_0, hfz52_1, hfz52_2⟩ := bcs3 BK114.out
         go_wp2
         go_loopg [5] k2 (fun kq v5 w' => ∃ (x5_3 : Int), v5 = .int .i64 x5_3 ∧ Aside0 (culletref07_Check.l1 kq x5_3 a0_0 l0_1 l0_2 = some r) ∧ Aside0 (kq ≤ k2) ∧ Aside0 (w'.heap[gb114]? = some (.cells #[.int .i64 a0_0, (.slice A0_1 l0_1.length c0_1), (.slice A0_2 l0_2.length c0_2)] 25 (0, 0))) ∧ Aside0 (Below w.heap.size w w'))
         case atStart => exact ⟨(0), zr9, H', ⟨Nat.le_refl _⟩, ⟨(zr0 BK114.out)⟩, ⟨zr3⟩⟩
         case round =>
          clear H'
          try clear c1
          try clear p1
          try clear q1
          try clear hx1
          try clear c2
          try clear p2 p2
          try clear c3
          try clear c4
          try clear c4b0
          try clear c5
          try clear p6
          try clear c7
          try clear c8
          try clear c8b0
          try clear c8b1
          try clear c11
          try clear c11b0
          try clear p11
          try clear q11
          try clear hx11
          try clear c12
          try clear c12b0
          try clear c14
          try clear c16
          try clear c16b0
          try clear c19
          try clear c22
          try clear c23
          try clear c23b0
          try clear c26
          try clear c31
          try clear c31b0
          try clear c34
          try clear c41
          try clear c48
          try clear c50
          try clear c50b0
          try clear c50b1
          try clear c52
          try clear hcz10_0 hcz10_1 hcz10_2 hfz10_0 hfz10_1 hfz10_2
          try clear hcz17_0 hcz17_1 hcz17_2 hfz17_0 hfz17_1 hfz17_2
          try clear hcz20_0 hcz20_1 hfz20_0 hfz20_1
          try clear hcz21_0 hcz21_1 hcz21_2 hfz21_0 hfz21_1 hfz21_2
          try clear hcz24_0 hcz24_1 hcz24_2 hfz24_0 hfz24_1 hfz24_2
          try clear hcz27_0 hcz27_1 hfz27_0 hfz27_1
          try clear hcz28_0 hcz28_1 hcz28_2 hfz28_0 hfz28_1 hfz28_2
          try clear hcz30_0 hcz30_1 hfz30_0 hfz30_1
          try clear hcz32_0 hcz32_1 hcz32_2 hfz32_0 hfz32_1 hfz32_2
          try clear hcz35_0 hcz35_1 hfz35_0 hfz35_1
          try clear hcz36_0 hcz36_1 hcz36_2 hfz36_0 hfz36_1 hfz36_2
          try clear hcz38_0 hcz38_1 hfz38_0 hfz38_1
          try clear hcz39_0 hcz39_1 hcz39_2 hfz39_0 hfz39_1 hfz39_2
          try clear hcz42_0 hcz42_1 hfz42_0 hfz42_1
          try clear hcz43_0 hcz43_1 hcz43_2 hfz43_0 hfz43_1 hfz43_2
          try clear hcz45_0 hcz45_1 hfz45_0 hfz45_1
          try clear hcz46_0 hcz46_1 hcz46_2 hfz46_0 hfz46_1 hfz46_2
          try clear hcz49_0 hcz49_1 hfz49_0 hfz49_1
          try clear hcz51_0 hcz51_1 hcz51_2 hfz51_0 hfz51_1 hfz51_2
          try clear hcz52_0 hcz52_1 hcz52_2 hfz52_0 hfz52_1 hfz52_2
          try clear hcz5_0 hcz5_1 hcz5_2 hfz5_0 hfz5_1 hfz5_2
          try clear hcz6_0 hcz6_1 hcz6_2 hfz6_0 hfz6_1 hfz6_2
          try clear hcz9_0 hcz9_1 hcz9_2 hfz9_0 hfz9_1 hfz9_2
          try clear hx115_0
          try clear hx115_1
          try clear p115
          try clear q115
          obtain ⟨x5_3, rfl, HA, HK3, BK114, HB⟩ := hrel
          cases gk with
          | zero => exact absurd HA.out (by simp [culletref07_Check.l1])
          | succ k3 =>
           have H := HA.out
           clear HA
           simp only [culletref07_Check.l1] at H
           by_cases c53 : x5_3 < (l0_2.length : Int)
           ·rw [if_pos c53] at H
            have c53b0 : decide (x5_3 < (l0_2.length : Int)) = true := decide_eq_true c53
            clear c53
            by_cases c54 : 0 ≤ x5_3
            ·rw [if_pos c54] at H
             have c54b0 : decide (0 ≤ x5_3) = true := decide_eq_true c54
             clear c54
             replace H := Option.bind_eq_some_iff.mp H
             obtain ⟨t120, A550, H⟩ := H
             replace H : (if t120 = true then ((culletref07_stand.f k3 a0_0 l0_1 l0_2 ((rd_T56 l0_2 x5_3).f0)).bind fun t122 => (if t122 < x5_3 then (some 6) else ((culletref07_checkStand.f k3 a0_0 l0_1 l0_2 ((rd_T56 l0_2 x5_3).f0) ((rd_T56 l0_2 x5_3).f1)).bind fun t124 => (if t124 = 0 then (culletref07_Check.l1 k3 (wrap64 (x5_3 + 1)) a0_0 l0_1 l0_2) else (some t124))))) else (some 5)) = some r := H
             have A55 := Aside0.mk A550
             clear A550
             by_cases c56 : t120 = true
             ·subst c56
              have H1 : ((culletref07_stand.f k3 a0_0 l0_1 l0_2 ((rd_T56 l0_2 x5_3).f0)).bind fun t122 => (if t122 < x5_3 then (some 6) else ((culletref07_checkStand.f k3 a0_0 l0_1 l0_2 ((rd_T56 l0_2 x5_3).f0) ((rd_T56 l0_2 x5_3).f1)).bind fun t124 => (if t124 = 0 then (culletref07_Check.l1 k3 (wrap64 (x5_3 + 1)) a0_0 l0_1 l0_2) else (some t124))))) = some r := by rw [if_pos rfl] at H; exact H
              clear H
              have H := H1
              clear H1
              replace H := Option.bind_eq_some_iff.mp H
              obtain ⟨t122, A570, H⟩ := H
              replace H : (if t122 < x5_3 then (some 6) else ((culletref07_checkStand.f k3 a0_0 l0_1 l0_2 ((rd_T56 l0_2 x5_3).f0) ((rd_T56 l0_2 x5_3).f1)).bind fun t124 => (if t124 = 0 then (culletref07_Check.l1 k3 (wrap64 (x5_3 + 1)) a0_0 l0_1 l0_2) else (some t124)))) = some r := H
              have A57 := Aside0.mk A570
              clear A570
              by_cases c58 : t122 < x5_3
              ·rw [if_pos c58] at H
               have c58b0 : decide (t122 < x5_3) = true := decide_eq_true c58
               clear c58
               obtain rfl := Option.some.inj H
               obtain ⟨hcz59_0, hcz59_1, hcz59_2, hfz59_0, hfz59_1, hfz59_2⟩ := bcs3 BK114.out
               have p119 : 0 ≤ (x5_3 : Int) := of_decide_eq_true zr2
               have q119 : x5_3 < (l0_2.length : Int) := of_decide_eq_true zr2
               obtain ⟨ad119, A119_1, c119_1, e119, hx119_0, hx119_1, hl119_1, hi119_1⟩ := at_T56 HR0_2.out x5_3 p119 q119
               cases e119
               replace hx119_0 := hcx HB.out hx119_0
               replace hx119_1 := hcx HB.out hx119_1
               have HR119_1 := Aside0.mk hi119_1
               have HC119_1 := Aside0.mk hl119_1
               clear hi119_1 hl119_1
               replace p119 := eq_true p119
               replace q119 := eq_true q119
               try go_wp2_with (first | ((with_reducible refine gate_callee (f := 52) rfl ?_); refine goesL_ (some 66) rfl rfl Try.func52 zr16 rfl #[.string ((rd_T56 l0_2 x5_3).f0)] rfl zr6 ?_; (with_reducible refine (culletref04_Name.calls k3 ((rd_T56 l0_2 x5_3).f0) true _ A55.out).mono ?_); rintro e w' ⟨rfl, ⟨nd, rfl⟩⟩; refine ⟨_, rfl, ?_⟩))
               (try (rw [drewN_self wr]; generalize hq_ : World.drewN wr _ = wr; have n_ := as2 ((by rw [← hq_]; exact (zr0 BK114.out)) : wr.heap[gb114]? = some (.cells #[.int .i64 a0_0, .slice A0_1 l0_1.length c0_1, .slice (some ad119) l0_2.length c0_2] 25 (0, 0))) ((by rw [← hq_]; exact zr3) : Below w.heap.size w wr); clear BK114 HB hq_; obtain ⟨BK114, HB⟩ := n_))
               have n0_ := Aside0.mk (blk_drew BK114.out)
               have n1_ := Aside0.mk (below_drew1 HB.out)
               clear BK114
               clear HB
               have BK114 := n0_
               have HB := n1_
               clear n0_ n1_
               have p121 : 0 ≤ (x5_3 : Int) := of_decide_eq_true zr2
               have q121 : x5_3 < (l0_2.length : Int) := of_decide_eq_true zr2
               obtain ⟨ad121, A121_1, c121_1, e121, hx121_0, hx121_1, hl121_1, hi121_1⟩ := at_T56 HR0_2.out x5_3 p121 q121
               have hw121_1 := hx121_1
               have hw121_0 := hx121_0
               obtain rfl : ad119 = ad121 := (by injection e121)
               replace hx121_0 := hcx HB.out hx121_0
               replace hx121_1 := hcx HB.out hx121_1
               have HR121_1 := Aside0.mk hi121_1
               have HC121_1 := Aside0.mk hl121_1
               clear hi121_1 hl121_1
               replace p121 := eq_true p121
               replace q121 := eq_true q121
               refine start_ (n := 10) (S := fun w' => w'.cell? ⟨gb114, 0, none⟩ = some (.int .i64 a0_0) ∧ w'.cell? ⟨gb114, 1, none⟩ = some (.slice A0_1 l0_1.length c0_1) ∧ w'.cell? ⟨gb114, 2, none⟩ = some (.slice (some ad119) l0_2.length c0_2) ∧ w'.cell? (ad119.add ((x5_3).toNat * 2)) = some (.string ((rd_T56 l0_2 x5_3).f0)) ∧ w'.cell? ⟨(ad119.add ((x5_3).toNat * 2)).block, (ad119.add ((x5_3).toNat * 2)).off + 1, none⟩ = some (.slice A121_1 ((rd_T56 l0_2 x5_3).f1).length c121_1)) (ds := []) #[false, false, false, false, false, false, false, false, false, false] zr16 rfl rfl ⟨(blk_cell BK114.out 0).trans rfl, (blk_cell BK114.out 1).trans rfl, (blk_cell BK114.out 2).trans rfl, ((HB.out.cell (World.block_lt_of_cell? w _ hw121_0)).trans hw121_0), ((HB.out.cell (World.block_lt_of_cell? w _ hw121_1)).trans hw121_1)⟩ (fun hHeld => ?_); refine with_tabW culletref07_Check.tab22 culletref07_Check.bits22 (fun HT_ HW_ => ?_)
               generalize wr.drew = w60 at BK114 HB HR121_1 hx121_0 hx121_1 hHeld ⊢
               refine pure_ (i := 1) (N := some 69) (v := ?_) (a' := ?_) #[false, true, false, false, false, false, false, false, false, false] rfl rfl (any_of HT_.out zr16) (fun _ _ _ h => h) (Or.inl ⟨zr32, ?_⟩) ?_ ?_
               rotate_left
               exact zpw
               rotate_left
               exact zpa
               refine pure_ (i := 3) (N := some 71) (v := ?_) (a' := ?_) #[false, true, false, true, false, false, false, false, false, false] rfl rfl (any_of HT_.out zr16) (fun _ _ _ h => h) (Or.inl ⟨zr32, ?_⟩) ?_ ?_
               rotate_left
               exact zpw
               rotate_left
               exact zpa
               refine pure_ (i := 8) (N := some 76) (v := ?_) (a' := ?_) #[false, true, false, true, false, false, false, false, true, false] rfl rfl (any_of HT_.out zr16) (fun _ _ _ h => h) (Or.inl ⟨zr32, ?_⟩) ?_ ?_
               rotate_left
               exact zpw
               rotate_left
               exact zpa
               refine take_ (i := 0) (N := some 68) (v := ?_) (a' := ?_) #[true, true, false, true, false, false, false, false, true, false] rfl rfl (take_ofW HT_.out HW_.out zr16) (fun _ _ _ h => h) (Or.inl ⟨zr32, ?_⟩) hHeld ?_ ?_
               rotate_left
               ·rintro w' ⟨s0, s1, s2, s3, s4⟩
                go_simp
                with_reducible rfl
               rotate_left
               exact zpa
               refine take_ (i := 2) (N := some 70) (v := ?_) (a' := ?_) #[true, true, true, true, false, false, false, false, true, false] rfl rfl (take_ofW HT_.out HW_.out zr16) (fun _ _ _ h => h) (Or.inl ⟨zr32, ?_⟩) hHeld ?_ ?_
               rotate_left
               ·rintro w' ⟨s0, s1, s2, s3, s4⟩
                go_simp
                with_reducible rfl
               rotate_left
               exact zpa
               refine pure_ (i := 4) (N := some 72) (v := ?_) (a' := ?_) #[true, true, true, true, true, false, false, false, true, false] rfl rfl (any_of HT_.out zr16) (fun _ _ _ h => h) (Or.inl ⟨zr32, ?_⟩) ?_ ?_
               rotate_left
               exact zpw
               rotate_left
               exact zpa
               refine pure_ (i := 5) (N := some 73) (v := ?_) (a' := ?_) #[true, true, true, true, true, true, false, false, true, false] rfl rfl (any_of HT_.out zr16) (fun _ _ _ h => h) (Or.inl ⟨zr32, ?_⟩) ?_ ?_
               rotate_left
               exact zpw
               rotate_left
               exact zpa
               refine take_ (i := 6) (N := some 74) (v := ?_) (a' := ?_) #[true, true, true, true, true, true, true, false, true, false] rfl rfl (take_ofW HT_.out HW_.out zr16) (fun _ _ _ h => h) (Or.inl ⟨zr32, ?_⟩) hHeld ?_ ?_
               rotate_left
               ·rintro w' ⟨s0, s1, s2, s3, s4⟩
                go_simp
                with_reducible rfl
               rotate_left
               exact zpa
               refine one_ (i := 7) (N := some 75) #[true, true, true, true, true, true, true, true, true, false] rfl rfl (one_of HT_.out zr16) zr27 (fun K hK => ?_)
               refine goes_ Try.func54 zr16 rfl #[.agg #[.int .i64 a0_0, .slice A0_1 l0_1.length c0_1, .slice (some ad119) l0_2.length c0_2], .string ((rd_T56 l0_2 x5_3).f0)] zr32 rfl rfl zr6 ?_
               with_reducible refine (culletref07_stand.calls k3 a0_0 _ _ l0_1 _ _ l0_2 ((rd_T56 l0_2 x5_3).f0) t122 _ ?side1 ?side2 ?side3 ?side4 A57.out).mono ?_
               (case side1 => exact zr18)
               (case side2 => exact HC0_1.out)
               (case side3 => exact zr19)
               (case side4 => exact HC0_2.out)
               rintro e w61 ⟨rfl, hb⟩
               refine ⟨_, rfl, ?_⟩
               have n0_ := Aside0.mk (blk_below (zr0 BK114.out) hb)
               have n1_ := Aside0.mk (below_step zr3 hb)
               clear BK114
               clear HB
               have BK114 := n0_
               have HB := n1_
               clear n0_ n1_
               (try clear hb)
               (try clear hb2)
               (try clear hk)
               (try clear hi)
               refine hK.out _ _ ⟨(blk_cell BK114.out 0).trans rfl, (blk_cell BK114.out 1).trans rfl, (blk_cell BK114.out 2).trans rfl, ((HB.out.cell (World.block_lt_of_cell? w _ hw121_0)).trans hw121_0), ((HB.out.cell (World.block_lt_of_cell? w _ hw121_1)).trans hw121_1)⟩ (fun hHeld => ?_)
               clear hK K
               refine norm_ (a' := ?_) ?_ ?_
               rotate_left
               ·show Act.put _ (some 75) _ = _
                simp only [Act.put, List.setIfInBounds_toArray, List.set_cons_zero, List.set_cons_succ, i64_w, i32_w]
                rfl
               refine pure_ (i := 9) (N := some 77) (v := ?_) (a' := ?_) #[true, true, true, true, true, true, true, true, true, true] rfl rfl (any_of HT_.out zr16) (fun _ _ _ h => h) (Or.inl ⟨zr32, ?_⟩) ?_ ?_
               rotate_left
               exact zpw
               rotate_left
               exact zpa
               refine done_ (done_of HT_.out zr16) ?_
               try go_wp2
               go_ret
               exact ⟨zr10, zr3⟩
              ·rw [if_neg c58] at H
               have c58b0 : decide (t122 < x5_3) = false := decide_eq_false c58
               clear c58
               replace H := Option.bind_eq_some_iff.mp H
               obtain ⟨t124, A620, H⟩ := H
               replace H : (if t124 = 0 then (culletref07_Check.l1 k3 (wrap64 (x5_3 + 1)) a0_0 l0_1 l0_2) else (some t124)) = some r := H
               have A62 := Aside0.mk A620
               clear A620
               by_cases c63 : t124 = 0
               ·rw [if_pos c63] at H
                have c63b0 : (t124 == 0) = true := beq_iff_eq.mpr c63
                have c63b1 : (t124 != 0) = false := bne_eq_false_iff_eq.mpr c63
                clear c63
                have H' := Aside0.mk H
                clear H
                obtain ⟨hcz64_0, hcz64_1, hcz64_2, hfz64_0, hfz64_1, hfz64_2⟩ := bcs3 BK114.out
                have p119 : 0 ≤ (x5_3 : Int) := of_decide_eq_true zr2
                have q119 : x5_3 < (l0_2.length : Int) := of_decide_eq_true zr2
                obtain ⟨ad119, A119_1, c119_1, e119, hx119_0, hx119_1, hl119_1, hi119_1⟩ := at_T56 HR0_2.out x5_3 p119 q119
                cases e119
                replace hx119_0 := hcx HB.out hx119_0
                replace hx119_1 := hcx HB.out hx119_1
                have HR119_1 := Aside0.mk hi119_1
                have HC119_1 := Aside0.mk hl119_1
                clear hi119_1 hl119_1
                replace p119 := eq_true p119
                replace q119 := eq_true q119
                try go_wp2_with (first | ((with_reducible refine gate_callee (f := 52) rfl ?_); refine goesL_ (some 66) rfl rfl Try.func52 zr16 rfl #[.string ((rd_T56 l0_2 x5_3).f0)] rfl zr6 ?_; (with_reducible refine (culletref04_Name.calls k3 ((rd_T56 l0_2 x5_3).f0) true _ A55.out).mono ?_); rintro e w' ⟨rfl, ⟨nd, rfl⟩⟩; refine ⟨_, rfl, ?_⟩))
                (try (rw [drewN_self wr]; generalize hq_ : World.drewN wr _ = wr; have n_ := as2 ((by rw [← hq_]; exact (zr0 BK114.out)) : wr.heap[gb114]? = some (.cells #[.int .i64 a0_0, .slice A0_1 l0_1.length c0_1, .slice (some ad119) l0_2.length c0_2] 25 (0, 0))) ((by rw [← hq_]; exact zr3) : Below w.heap.size w wr); clear BK114 HB hq_; obtain ⟨BK114, HB⟩ := n_))
                have n0_ := Aside0.mk (blk_drew BK114.out)
                have n1_ := Aside0.mk (below_drew1 HB.out)
                clear BK114
                clear HB
                have BK114 := n0_
                have HB := n1_
                clear n0_ n1_
                have p121 : 0 ≤ (x5_3 : Int) := of_decide_eq_true zr2
                have q121 : x5_3 < (l0_2.length : Int) := of_decide_eq_true zr2
                obtain ⟨ad121, A121_1, c121_1, e121, hx121_0, hx121_1, hl121_1, hi121_1⟩ := at_T56 HR0_2.out x5_3 p121 q121
                have hw121_1 := hx121_1
                have hw121_0 := hx121_0
                obtain rfl : ad119 = ad121 := (by injection e121)
                replace hx121_0 := hcx HB.out hx121_0
                replace hx121_1 := hcx HB.out hx121_1
                have HR121_1 := Aside0.mk hi121_1
                have HC121_1 := Aside0.mk hl121_1
                clear hi121_1 hl121_1
                replace p121 := eq_true p121
                replace q121 := eq_true q121
                refine start_ (n := 10) (S := fun w' => w'.cell? ⟨gb114, 0, none⟩ = some (.int .i64 a0_0) ∧ w'.cell? ⟨gb114, 1, none⟩ = some (.slice A0_1 l0_1.length c0_1) ∧ w'.cell? ⟨gb114, 2, none⟩ = some (.slice (some ad119) l0_2.length c0_2) ∧ w'.cell? (ad119.add ((x5_3).toNat * 2)) = some (.string ((rd_T56 l0_2 x5_3).f0)) ∧ w'.cell? ⟨(ad119.add ((x5_3).toNat * 2)).block, (ad119.add ((x5_3).toNat * 2)).off + 1, none⟩ = some (.slice A121_1 ((rd_T56 l0_2 x5_3).f1).length c121_1)) (ds := []) #[false, false, false, false, false, false, false, false, false, false] zr16 rfl rfl ⟨(blk_cell BK114.out 0).trans rfl, (blk_cell BK114.out 1).trans rfl, (blk_cell BK114.out 2).trans rfl, ((HB.out.cell (World.block_lt_of_cell? w _ hw121_0)).trans hw121_0), ((HB.out.cell (World.block_lt_of_cell? w _ hw121_1)).trans hw121_1)⟩ (fun hHeld => ?_); refine with_tabW culletref07_Check.tab22 culletref07_Check.bits22 (fun HT_ HW_ => ?_)
                generalize wr.drew = w65 at BK114 HB HR121_1 hx121_0 hx121_1 hHeld ⊢
                refine pure_ (i := 1) (N := some 69) (v := ?_) (a' := ?_) #[false, true, false, false, false, false, false, false, false, false] rfl rfl (any_of HT_.out zr16) (fun _ _ _ h => h) (Or.inl ⟨zr32, ?_⟩) ?_ ?_
                rotate_left
                exact zpw
                rotate_left
                exact zpa
                refine pure_ (i := 3) (N := some 71) (v := ?_) (a' := ?_) #[false, true, false, true, false, false, false, false, false, false] rfl rfl (any_of HT_.out zr16) (fun _ _ _ h => h) (Or.inl ⟨zr32, ?_⟩) ?_ ?_
                rotate_left
                exact zpw
                rotate_left
                exact zpa
                refine pure_ (i := 8) (N := some 76) (v := ?_) (a' := ?_) #[false, true, false, true, false, false, false, false, true, false] rfl rfl (any_of HT_.out zr16) (fun _ _ _ h => h) (Or.inl ⟨zr32, ?_⟩) ?_ ?_
                rotate_left
                exact zpw
                rotate_left
                exact zpa
                refine take_ (i := 0) (N := some 68) (v := ?_) (a' := ?_) #[true, true, false, true, false, false, false, false, true, false] rfl rfl (take_ofW HT_.out HW_.out zr16) (fun _ _ _ h => h) (Or.inl ⟨zr32, ?_⟩) hHeld ?_ ?_
                rotate_left
                ·rintro w' ⟨s0, s1, s2, s3, s4⟩
                 go_simp
                 with_reducible rfl
                rotate_left
                exact zpa
                refine take_ (i := 2) (N := some 70) (v := ?_) (a' := ?_) #[true, true, true, true, false, false, false, false, true, false] rfl rfl (take_ofW HT_.out HW_.out zr16) (fun _ _ _ h => h) (Or.inl ⟨zr32, ?_⟩) hHeld ?_ ?_
                rotate_left
                ·rintro w' ⟨s0, s1, s2, s3, s4⟩
                 go_simp
                 with_reducible rfl
                rotate_left
                exact zpa
                refine pure_ (i := 4) (N := some 72) (v := ?_) (a' := ?_) #[true, true, true, true, true, false, false, false, true, false] rfl rfl (any_of HT_.out zr16) (fun _ _ _ h => h) (Or.inl ⟨zr32, ?_⟩) ?_ ?_
                rotate_left
                exact zpw
                rotate_left
                exact zpa
                refine pure_ (i := 5) (N := some 73) (v := ?_) (a' := ?_) #[true, true, true, true, true, true, false, false, true, false] rfl rfl (any_of HT_.out zr16) (fun _ _ _ h => h) (Or.inl ⟨zr32, ?_⟩) ?_ ?_
                rotate_left
                exact zpw
                rotate_left
                exact zpa
                refine take_ (i := 6) (N := some 74) (v := ?_) (a' := ?_) #[true, true, true, true, true, true, true, false, true, false] rfl rfl (take_ofW HT_.out HW_.out zr16) (fun _ _ _ h => h) (Or.inl ⟨zr32, ?_⟩) hHeld ?_ ?_
                rotate_left
                ·rintro w' ⟨s0, s1, s2, s3, s4⟩
                 go_simp
                 with_reducible rfl
                rotate_left
                exact zpa
                refine one_ (i := 7) (N := some 75) #[true, true, true, true, true, true, true, true, true, false] rfl rfl (one_of HT_.out zr16) zr27 (fun K hK => ?_)
                refine goes_ Try.func54 zr16 rfl #[.agg #[.int .i64 a0_0, .slice A0_1 l0_1.length c0_1, .slice (some ad119) l0_2.length c0_2], .string ((rd_T56 l0_2 x5_3).f0)] zr32 rfl rfl zr6 ?_
                with_reducible refine (culletref07_stand.calls k3 a0_0 _ _ l0_1 _ _ l0_2 ((rd_T56 l0_2 x5_3).f0) t122 _ ?side1 ?side2 ?side3 ?side4 A57.out).mono ?_
                (case side1 => exact zr18)
                (case side2 => exact HC0_1.out)
                (case side3 => exact zr19)
                (case side4 => exact HC0_2.out)
                rintro e w66 ⟨rfl, hb⟩
                refine ⟨_, rfl, ?_⟩
                have n0_ := Aside0.mk (blk_below (zr0 BK114.out) hb)
                have n1_ := Aside0.mk (below_step zr3 hb)
                clear BK114
                clear HB
                have BK114 := n0_
                have HB := n1_
                clear n0_ n1_
                (try clear hb)
                (try clear hb2)
                (try clear hk)
                (try clear hi)
                refine hK.out _ _ ⟨(blk_cell BK114.out 0).trans rfl, (blk_cell BK114.out 1).trans rfl, (blk_cell BK114.out 2).trans rfl, ((HB.out.cell (World.block_lt_of_cell? w _ hw121_0)).trans hw121_0), ((HB.out.cell (World.block_lt_of_cell? w _ hw121_1)).trans hw121_1)⟩ (fun hHeld => ?_)
                clear hK K
                refine norm_ (a' := ?_) ?_ ?_
                rotate_left
                ·show Act.put _ (some 75) _ = _
                 simp only [Act.put, List.setIfInBounds_toArray, List.set_cons_zero, List.set_cons_succ, i64_w, i32_w]
                 rfl
                refine pure_ (i := 9) (N := some 77) (v := ?_) (a' := ?_) #[true, true, true, true, true, true, true, true, true, true] rfl rfl (any_of HT_.out zr16) (fun _ _ _ h => h) (Or.inl ⟨zr32, ?_⟩) ?_ ?_
                rotate_left
                exact zpw
                rotate_left
                exact zpa
                refine done_ (done_of HT_.out zr16) ?_
                try go_wp2
                have n0_ := Aside0.mk (blk_drew BK114.out)
                have n1_ := Aside0.mk (below_drew1 HB.out)
                clear BK114
                clear HB
                have BK114 := n0_
                have HB := n1_
                clear n0_ n1_
                have p123 : 0 ≤ (x5_3 : Int) := of_decide_eq_true zr2
                have q123 : x5_3 < (l0_2.length : Int) := of_decide_eq_true zr2
                obtain ⟨ad123, A123_1, c123_1, e123, hx123_0, hx123_1, hl123_1, hi123_1⟩ := at_T56 HR0_2.out x5_3 p123 q123
                have hw123_1 := hx123_1
                have hw123_0 := hx123_0
                obtain rfl : ad119 = ad123 := (by injection e123)
                replace hx123_0 := hcx HB.out hx123_0
                replace hx123_1 := hcx HB.out hx123_1
                have HR123_1 := Aside0.mk hi123_1
                have HC123_1 := Aside0.mk hl123_1
                clear hi123_1 hl123_1
                replace p123 := eq_true p123
                replace q123 := eq_true q123
                refine start_ (n := 8) (S := fun w' => w'.cell? ⟨gb114, 0, none⟩ = some (.int .i64 a0_0) ∧ w'.cell? ⟨gb114, 1, none⟩ = some (.slice A0_1 l0_1.length c0_1) ∧ w'.cell? ⟨gb114, 2, none⟩ = some (.slice (some ad119) l0_2.length c0_2) ∧ w'.cell? (ad119.add ((x5_3).toNat * 2)) = some (.string ((rd_T56 l0_2 x5_3).f0)) ∧ w'.cell? ⟨(ad119.add ((x5_3).toNat * 2)).block, (ad119.add ((x5_3).toNat * 2)).off + 1, none⟩ = some (.slice A123_1 ((rd_T56 l0_2 x5_3).f1).length c123_1)) (ds := []) #[false, false, false, false, false, false, false, false] zr16 rfl rfl ⟨(blk_cell BK114.out 0).trans rfl, (blk_cell BK114.out 1).trans rfl, (blk_cell BK114.out 2).trans rfl, ((HB.out.cell (World.block_lt_of_cell? w _ hw123_0)).trans hw123_0), ((HB.out.cell (World.block_lt_of_cell? w _ hw123_1)).trans hw123_1)⟩ (fun hHeld => ?_); refine with_tabW culletref07_Check.tab24 culletref07_Check.bits24 (fun HT_ HW_ => ?_)
                generalize w66.drew = w67 at BK114 HB HR123_1 hx123_0 hx123_1 hHeld ⊢
                refine pure_ (i := 1) (N := some 79) (v := ?_) (a' := ?_) #[false, true, false, false, false, false, false, false] rfl rfl (any_of HT_.out zr16) (fun _ _ _ h => h) (Or.inl ⟨zr32, ?_⟩) ?_ ?_
                rotate_left
                exact zpw
                rotate_left
                exact zpa
                refine pure_ (i := 3) (N := some 81) (v := ?_) (a' := ?_) #[false, true, false, true, false, false, false, false] rfl rfl (any_of HT_.out zr16) (fun _ _ _ h => h) (Or.inl ⟨zr32, ?_⟩) ?_ ?_
                rotate_left
                exact zpw
                rotate_left
                exact zpa
                refine take_ (i := 0) (N := some 78) (v := ?_) (a' := ?_) #[true, true, false, true, false, false, false, false] rfl rfl (take_ofW HT_.out HW_.out zr16) (fun _ _ _ h => h) (Or.inl ⟨zr32, ?_⟩) hHeld ?_ ?_
                rotate_left
                ·rintro w' ⟨s0, s1, s2, s3, s4⟩
                 go_simp
                 with_reducible rfl
                rotate_left
                exact zpa
                refine take_ (i := 2) (N := some 80) (v := ?_) (a' := ?_) #[true, true, true, true, false, false, false, false] rfl rfl (take_ofW HT_.out HW_.out zr16) (fun _ _ _ h => h) (Or.inl ⟨zr32, ?_⟩) hHeld ?_ ?_
                rotate_left
                ·rintro w' ⟨s0, s1, s2, s3, s4⟩
                 go_simp
                 with_reducible rfl
                rotate_left
                exact zpa
                refine pure_ (i := 4) (N := some 82) (v := ?_) (a' := ?_) #[true, true, true, true, true, false, false, false] rfl rfl (any_of HT_.out zr16) (fun _ _ _ h => h) (Or.inl ⟨zr32, ?_⟩) ?_ ?_
                rotate_left
                exact zpw
                rotate_left
                exact zpa
                refine take_ (i := 5) (N := some 83) (v := ?_) (a' := ?_) #[true, true, true, true, true, true, false, false] rfl rfl (take_ofW HT_.out HW_.out zr16) (fun _ _ _ h => h) (Or.inl ⟨zr32, ?_⟩) hHeld ?_ ?_
                rotate_left
                ·rintro w' ⟨s0, s1, s2, s3, s4⟩
                 go_simp
                 with_reducible rfl
                rotate_left
                exact zpa
                refine one_ (i := 6) (N := some 84) #[true, true, true, true, true, true, true, false] rfl rfl (one_of HT_.out zr16) zr27 (fun K hK => ?_)
                refine goes_ Try.func55 zr16 rfl #[.agg #[.int .i64 a0_0, .slice A0_1 l0_1.length c0_1, .slice (some ad119) l0_2.length c0_2], .agg #[.string ((rd_T56 l0_2 x5_3).f0), .slice A123_1 ((rd_T56 l0_2 x5_3).f1).length c123_1]] zr32 rfl rfl zr6 ?_
                with_reducible refine (culletref07_checkStand.calls k3 a0_0 _ _ l0_1 _ _ l0_2 ((rd_T56 l0_2 x5_3).f0) _ _ ((rd_T56 l0_2 x5_3).f1) t124 _ ?side1 ?side2 ?side3 ?side4 ?side5 ?side6 A62.out).mono ?_
                (case side1 => exact zr18)
                (case side2 => exact HC0_1.out)
                (case side3 => exact zr19)
                (case side4 => exact HC0_2.out)
                (case side5 => exact zr35)
                (case side6 => exact HC123_1.out)
                rintro e w68 ⟨rfl, hb⟩
                refine ⟨_, rfl, ?_⟩
                have n0_ := Aside0.mk (blk_below (zr0 BK114.out) hb)
                have n1_ := Aside0.mk (below_step zr3 hb)
                clear BK114
                clear HB
                have BK114 := n0_
                have HB := n1_
                clear n0_ n1_
                (try clear hb)
                (try clear hb2)
                (try clear hk)
                (try clear hi)
                refine hK.out _ _ ⟨(blk_cell BK114.out 0).trans rfl, (blk_cell BK114.out 1).trans rfl, (blk_cell BK114.out 2).trans rfl, ((HB.out.cell (World.block_lt_of_cell? w _ hw123_0)).trans hw123_0), ((HB.out.cell (World.block_lt_of_cell? w _ hw123_1)).trans hw123_1)⟩ (fun hHeld => ?_)
                clear hK K
                refine norm_ (a' := ?_) ?_ ?_
                rotate_left
                ·show Act.put _ (some 84) _ = _
                 simp only [Act.put, List.setIfInBounds_toArray, List.set_cons_zero, List.set_cons_succ, i64_w, i32_w]
                 rfl
                refine pure_ (i := 7) (N := some 6) (v := ?_) (a' := ?_) #[true, true, true, true, true, true, true, true] rfl rfl (any_of HT_.out zr16) (fun _ _ _ h => h) (Or.inl ⟨zr32, ?_⟩) ?_ ?_
                rotate_left
                exact zpw
                rotate_left
                exact zpa
                refine done_ (done_of HT_.out zr16) ?_
                try go_wp2
                go_roundg k3
                case measure => have := HJ1.out; have := HK2.out; have := HK3.out; omega
                case rel => exact ⟨(wrap64 (x5_3 + 1)), zr9, H', ⟨by have := HJ1.out; have := HK2.out; have := HK3.out; omega⟩, ⟨(zr0 BK114.out)⟩, ⟨zr3⟩⟩
               ·rw [if_neg c63] at H
                have c63b0 : (t124 == 0) = false := beq_eq_false_iff_ne.mpr c63
                have c63b1 : (t124 != 0) = true := bne_iff_ne.mpr c63
                obtain rfl := Option.some.inj H
                obtain ⟨hcz69_0, hcz69_1, hcz69_2, hfz69_0, hfz69_1, hfz69_2⟩ := bcs3 BK114.out
                have p119 : 0 ≤ (x5_3 : Int) := of_decide_eq_true zr2
                have q119 : x5_3 < (l0_2.length : Int) := of_decide_eq_true zr2
                obtain ⟨ad119, A119_1, c119_1, e119, hx119_0, hx119_1, hl119_1, hi119_1⟩ := at_T56 HR0_2.out x5_3 p119 q119
                cases e119
                replace hx119_0 := hcx HB.out hx119_0
                replace hx119_1 := hcx HB.out hx119_1
                have HR119_1 := Aside0.mk hi119_1
                have HC119_1 := Aside0.mk hl119_1
                clear hi119_1 hl119_1
                replace p119 := eq_true p119
                replace q119 := eq_true q119
                try go_wp2_with (first | ((with_reducible refine gate_callee (f := 52) rfl ?_); refine goesL_ (some 66) rfl rfl Try.func52 zr16 rfl #[.string ((rd_T56 l0_2 x5_3).f0)] rfl zr6 ?_; (with_reducible refine (culletref04_Name.calls k3 ((rd_T56 l0_2 x5_3).f0) true _ A55.out).mono ?_); rintro e w' ⟨rfl, ⟨nd, rfl⟩⟩; refine ⟨_, rfl, ?_⟩))
                (try (rw [drewN_self wr]; generalize hq_ : World.drewN wr _ = wr; have n_ := as2 ((by rw [← hq_]; exact (zr0 BK114.out)) : wr.heap[gb114]? = some (.cells #[.int .i64 a0_0, .slice A0_1 l0_1.length c0_1, .slice (some ad119) l0_2.length c0_2] 25 (0, 0))) ((by rw [← hq_]; exact zr3) : Below w.heap.size w wr); clear BK114 HB hq_; obtain ⟨BK114, HB⟩ := n_))
                have n0_ := Aside0.mk (blk_drew BK114.out)
                have n1_ := Aside0.mk (below_drew1 HB.out)
                clear BK114
                clear HB
                have BK114 := n0_
                have HB := n1_
                clear n0_ n1_
                have p121 : 0 ≤ (x5_3 : Int) := of_decide_eq_true zr2
                have q121 : x5_3 < (l0_2.length : Int) := of_decide_eq_true zr2
                obtain ⟨ad121, A121_1, c121_1, e121, hx121_0, hx121_1, hl121_1, hi121_1⟩ := at_T56 HR0_2.out x5_3 p121 q121
                have hw121_1 := hx121_1
                have hw121_0 := hx121_0
                obtain rfl : ad119 = ad121 := (by injection e121)
                replace hx121_0 := hcx HB.out hx121_0
                replace hx121_1 := hcx HB.out hx121_1
                have HR121_1 := Aside0.mk hi121_1
                have HC121_1 := Aside0.mk hl121_1
                clear hi121_1 hl121_1
                replace p121 := eq_true p121
                replace q121 := eq_true q121
                refine start_ (n := 10) (S := fun w' => w'.cell? ⟨gb114, 0, none⟩ = some (.int .i64 a0_0) ∧ w'.cell? ⟨gb114, 1, none⟩ = some (.slice A0_1 l0_1.length c0_1) ∧ w'.cell? ⟨gb114, 2, none⟩ = some (.slice (some ad119) l0_2.length c0_2) ∧ w'.cell? (ad119.add ((x5_3).toNat * 2)) = some (.string ((rd_T56 l0_2 x5_3).f0)) ∧ w'.cell? ⟨(ad119.add ((x5_3).toNat * 2)).block, (ad119.add ((x5_3).toNat * 2)).off + 1, none⟩ = some (.slice A121_1 ((rd_T56 l0_2 x5_3).f1).length c121_1)) (ds := []) #[false, false, false, false, false, false, false, false, false, false] zr16 rfl rfl ⟨(blk_cell BK114.out 0).trans rfl, (blk_cell BK114.out 1).trans rfl, (blk_cell BK114.out 2).trans rfl, ((HB.out.cell (World.block_lt_of_cell? w _ hw121_0)).trans hw121_0), ((HB.out.cell (World.block_lt_of_cell? w _ hw121_1)).trans hw121_1)⟩ (fun hHeld => ?_); refine with_tabW culletref07_Check.tab22 culletref07_Check.bits22 (fun HT_ HW_ => ?_)
                generalize wr.drew = w70 at BK114 HB HR121_1 hx121_0 hx121_1 hHeld ⊢
                refine pure_ (i := 1) (N := some 69) (v := ?_) (a' := ?_) #[false, true, false, false, false, false, false, false, false, false] rfl rfl (any_of HT_.out zr16) (fun _ _ _ h => h) (Or.inl ⟨zr32, ?_⟩) ?_ ?_
                rotate_left
                exact zpw
                rotate_left
                exact zpa
                refine pure_ (i := 3) (N := some 71) (v := ?_) (a' := ?_) #[false, true, false, true, false, false, false, false, false, false] rfl rfl (any_of HT_.out zr16) (fun _ _ _ h => h) (Or.inl ⟨zr32, ?_⟩) ?_ ?_
                rotate_left
                exact zpw
                rotate_left
                exact zpa
                refine pure_ (i := 8) (N := some 76) (v := ?_) (a' := ?_) #[false, true, false, true, false, false, false, false, true, false] rfl rfl (any_of HT_.out zr16) (fun _ _ _ h => h) (Or.inl ⟨zr32, ?_⟩) ?_ ?_
                rotate_left
                exact zpw
                rotate_left
                exact zpa
                refine take_ (i := 0) (N := some 68) (v := ?_) (a' := ?_) #[true, true, false, true, false, false, false, false, true, false] rfl rfl (take_ofW HT_.out HW_.out zr16) (fun _ _ _ h => h) (Or.inl ⟨zr32, ?_⟩) hHeld ?_ ?_
                rotate_left
                ·rintro w' ⟨s0, s1, s2, s3, s4⟩
                 go_simp
                 with_reducible rfl
                rotate_left
                exact zpa
                refine take_ (i := 2) (N := some 70) (v := ?_) (a' := ?_) #[true, true, true, true, false, false, false, false, true, false] rfl rfl (take_ofW HT_.out HW_.out zr16) (fun _ _ _ h => h) (Or.inl ⟨zr32, ?_⟩) hHeld ?_ ?_
                rotate_left
                ·rintro w' ⟨s0, s1, s2, s3, s4⟩
                 go_simp
                 with_reducible rfl
                rotate_left
                exact zpa
                refine pure_ (i := 4) (N := some 72) (v := ?_) (a' := ?_) #[true, true, true, true, true, false, false, false, true, false] rfl rfl (any_of HT_.out zr16) (fun _ _ _ h => h) (Or.inl ⟨zr32, ?_⟩) ?_ ?_
                rotate_left
                exact zpw
                rotate_left
                exact zpa
                refine pure_ (i := 5) (N := some 73) (v := ?_) (a' := ?_) #[true, true, true, true, true, true, false, false, true, false] rfl rfl (any_of HT_.out zr16) (fun _ _ _ h => h) (Or.inl ⟨zr32, ?_⟩) ?_ ?_
                rotate_left
                exact zpw
                rotate_left
                exact zpa
                refine take_ (i := 6) (N := some 74) (v := ?_) (a' := ?_) #[true, true, true, true, true, true, true, false, true, false] rfl rfl (take_ofW HT_.out HW_.out zr16) (fun _ _ _ h => h) (Or.inl ⟨zr32, ?_⟩) hHeld ?_ ?_
                rotate_left
                ·rintro w' ⟨s0, s1, s2, s3, s4⟩
                 go_simp
                 with_reducible rfl
                rotate_left
                exact zpa
                refine one_ (i := 7) (N := some 75) #[true, true, true, true, true, true, true, true, true, false] rfl rfl (one_of HT_.out zr16) zr27 (fun K hK => ?_)
                refine goes_ Try.func54 zr16 rfl #[.agg #[.int .i64 a0_0, .slice A0_1 l0_1.length c0_1, .slice (some ad119) l0_2.length c0_2], .string ((rd_T56 l0_2 x5_3).f0)] zr32 rfl rfl zr6 ?_
                with_reducible refine (culletref07_stand.calls k3 a0_0 _ _ l0_1 _ _ l0_2 ((rd_T56 l0_2 x5_3).f0) t122 _ ?side1 ?side2 ?side3 ?side4 A57.out).mono ?_
                (case side1 => exact zr18)
                (case side2 => exact HC0_1.out)
                (case side3 => exact zr19)
                (case side4 => exact HC0_2.out)
                rintro e w71 ⟨rfl, hb⟩
                refine ⟨_, rfl, ?_⟩
                have n0_ := Aside0.mk (blk_below (zr0 BK114.out) hb)
                have n1_ := Aside0.mk (below_step zr3 hb)
                clear BK114
                clear HB
                have BK114 := n0_
                have HB := n1_
                clear n0_ n1_
                (try clear hb)
                (try clear hb2)
                (try clear hk)
                (try clear hi)
                refine hK.out _ _ ⟨(blk_cell BK114.out 0).trans rfl, (blk_cell BK114.out 1).trans rfl, (blk_cell BK114.out 2).trans rfl, ((HB.out.cell (World.block_lt_of_cell? w _ hw121_0)).trans hw121_0), ((HB.out.cell (World.block_lt_of_cell? w _ hw121_1)).trans hw121_1)⟩ (fun hHeld => ?_)
                clear hK K
                refine norm_ (a' := ?_) ?_ ?_
                rotate_left
                ·show Act.put _ (some 75) _ = _
                 simp only [Act.put, List.setIfInBounds_toArray, List.set_cons_zero, List.set_cons_succ, i64_w, i32_w]
                 rfl
                refine pure_ (i := 9) (N := some 77) (v := ?_) (a' := ?_) #[true, true, true, true, true, true, true, true, true, true] rfl rfl (any_of HT_.out zr16) (fun _ _ _ h => h) (Or.inl ⟨zr32, ?_⟩) ?_ ?_
                rotate_left
                exact zpw
                rotate_left
                exact zpa
                refine done_ (done_of HT_.out zr16) ?_
                try go_wp2
                have n0_ := Aside0.mk (blk_drew BK114.out)
                have n1_ := Aside0.mk (below_drew1 HB.out)
                clear BK114
                clear HB
                have BK114 := n0_
                have HB := n1_
                clear n0_ n1_
                have p123 : 0 ≤ (x5_3 : Int) := of_decide_eq_true zr2
                have q123 : x5_3 < (l0_2.length : Int) := of_decide_eq_true zr2
                obtain ⟨ad123, A123_1, c123_1, e123, hx123_0, hx123_1, hl123_1, hi123_1⟩ := at_T56 HR0_2.out x5_3 p123 q123
                have hw123_1 := hx123_1
                have hw123_0 := hx123_0
                obtain rfl : ad119 = ad123 := (by injection e123)
                replace hx123_0 := hcx HB.out hx123_0
                replace hx123_1 := hcx HB.out hx123_1
                have HR123_1 := Aside0.mk hi123_1
                have HC123_1 := Aside0.mk hl123_1
                clear hi123_1 hl123_1
                replace p123 := eq_true p123
                replace q123 := eq_true q123
                refine start_ (n := 8) (S := fun w' => w'.cell? ⟨gb114, 0, none⟩ = some (.int .i64 a0_0) ∧ w'.cell? ⟨gb114, 1, none⟩ = some (.slice A0_1 l0_1.length c0_1) ∧ w'.cell? ⟨gb114, 2, none⟩ = some (.slice (some ad119) l0_2.length c0_2) ∧ w'.cell? (ad119.add ((x5_3).toNat * 2)) = some (.string ((rd_T56 l0_2 x5_3).f0)) ∧ w'.cell? ⟨(ad119.add ((x5_3).toNat * 2)).block, (ad119.add ((x5_3).toNat * 2)).off + 1, none⟩ = some (.slice A123_1 ((rd_T56 l0_2 x5_3).f1).length c123_1)) (ds := []) #[false, false, false, false, false, false, false, false] zr16 rfl rfl ⟨(blk_cell BK114.out 0).trans rfl, (blk_cell BK114.out 1).trans rfl, (blk_cell BK114.out 2).trans rfl, ((HB.out.cell (World.block_lt_of_cell? w _ hw123_0)).trans hw123_0), ((HB.out.cell (World.block_lt_of_cell? w _ hw123_1)).trans hw123_1)⟩ (fun hHeld => ?_); refine with_tabW culletref07_Check.tab24 culletref07_Check.bits24 (fun HT_ HW_ => ?_)
                generalize w71.drew = w72 at BK114 HB HR123_1 hx123_0 hx123_1 hHeld ⊢
                refine pure_ (i := 1) (N := some 79) (v := ?_) (a' := ?_) #[false, true, false, false, false, false, false, false] rfl rfl (any_of HT_.out zr16) (fun _ _ _ h => h) (Or.inl ⟨zr32, ?_⟩) ?_ ?_
                rotate_left
                exact zpw
                rotate_left
                exact zpa
                refine pure_ (i := 3) (N := some 81) (v := ?_) (a' := ?_) #[false, true, false, true, false, false, false, false] rfl rfl (any_of HT_.out zr16) (fun _ _ _ h => h) (Or.inl ⟨zr32, ?_⟩) ?_ ?_
                rotate_left
                exact zpw
                rotate_left
                exact zpa
                refine take_ (i := 0) (N := some 78) (v := ?_) (a' := ?_) #[true, true, false, true, false, false, false, false] rfl rfl (take_ofW HT_.out HW_.out zr16) (fun _ _ _ h => h) (Or.inl ⟨zr32, ?_⟩) hHeld ?_ ?_
                rotate_left
                ·rintro w' ⟨s0, s1, s2, s3, s4⟩
                 go_simp
                 with_reducible rfl
                rotate_left
                exact zpa
                refine take_ (i := 2) (N := some 80) (v := ?_) (a' := ?_) #[true, true, true, true, false, false, false, false] rfl rfl (take_ofW HT_.out HW_.out zr16) (fun _ _ _ h => h) (Or.inl ⟨zr32, ?_⟩) hHeld ?_ ?_
                rotate_left
                ·rintro w' ⟨s0, s1, s2, s3, s4⟩
                 go_simp
                 with_reducible rfl
                rotate_left
                exact zpa
                refine pure_ (i := 4) (N := some 82) (v := ?_) (a' := ?_) #[true, true, true, true, true, false, false, false] rfl rfl (any_of HT_.out zr16) (fun _ _ _ h => h) (Or.inl ⟨zr32, ?_⟩) ?_ ?_
                rotate_left
                exact zpw
                rotate_left
                exact zpa
                refine take_ (i := 5) (N := some 83) (v := ?_) (a' := ?_) #[true, true, true, true, true, true, false, false] rfl rfl (take_ofW HT_.out HW_.out zr16) (fun _ _ _ h => h) (Or.inl ⟨zr32, ?_⟩) hHeld ?_ ?_
                rotate_left
                ·rintro w' ⟨s0, s1, s2, s3, s4⟩
                 go_simp
                 with_reducible rfl
                rotate_left
                exact zpa
                refine one_ (i := 6) (N := some 84) #[true, true, true, true, true, true, true, false] rfl rfl (one_of HT_.out zr16) zr27 (fun K hK => ?_)
                refine goes_ Try.func55 zr16 rfl #[.agg #[.int .i64 a0_0, .slice A0_1 l0_1.length c0_1, .slice (some ad119) l0_2.length c0_2], .agg #[.string ((rd_T56 l0_2 x5_3).f0), .slice A123_1 ((rd_T56 l0_2 x5_3).f1).length c123_1]] zr32 rfl rfl zr6 ?_
                with_reducible refine (culletref07_checkStand.calls k3 a0_0 _ _ l0_1 _ _ l0_2 ((rd_T56 l0_2 x5_3).f0) _ _ ((rd_T56 l0_2 x5_3).f1) t124 _ ?side1 ?side2 ?side3 ?side4 ?side5 ?side6 A62.out).mono ?_
                (case side1 => exact zr18)
                (case side2 => exact HC0_1.out)
                (case side3 => exact zr19)
                (case side4 => exact HC0_2.out)
                (case side5 => exact zr35)
                (case side6 => exact HC123_1.out)
                rintro e w73 ⟨rfl, hb⟩
                refine ⟨_, rfl, ?_⟩
                have n0_ := Aside0.mk (blk_below (zr0 BK114.out) hb)
                have n1_ := Aside0.mk (below_step zr3 hb)
                clear BK114
                clear HB
                have BK114 := n0_
                have HB := n1_
                clear n0_ n1_
                (try clear hb)
                (try clear hb2)
                (try clear hk)
                (try clear hi)
                refine hK.out _ _ ⟨(blk_cell BK114.out 0).trans rfl, (blk_cell BK114.out 1).trans rfl, (blk_cell BK114.out 2).trans rfl, ((HB.out.cell (World.block_lt_of_cell? w _ hw123_0)).trans hw123_0), ((HB.out.cell (World.block_lt_of_cell? w _ hw123_1)).trans hw123_1)⟩ (fun hHeld => ?_)
                clear hK K
                refine norm_ (a' := ?_) ?_ ?_
                rotate_left
                ·show Act.put _ (some 84) _ = _
                 simp only [Act.put, List.setIfInBounds_toArray, List.set_cons_zero, List.set_cons_succ, i64_w, i32_w]
                 rfl
                refine pure_ (i := 7) (N := some 6) (v := ?_) (a' := ?_) #[true, true, true, true, true, true, true, true] rfl rfl (any_of HT_.out zr16) (fun _ _ _ h => h) (Or.inl ⟨zr32, ?_⟩) ?_ ?_
                rotate_left
                exact zpw
                rotate_left
                exact zpa
                refine done_ (done_of HT_.out zr16) ?_
                try go_wp2
                go_ret
                exact ⟨zr10, zr3⟩
             ·replace c56 := Bool.eq_false_iff.mpr c56
              subst c56
              have H1 : (some 5) = some r := by rw [if_neg (show ¬ (false = true) by decide)] at H; exact H
              clear H
              have H := H1
              clear H1
              obtain rfl := Option.some.inj H
              obtain ⟨hcz74_0, hcz74_1, hcz74_2, hfz74_0, hfz74_1, hfz74_2⟩ := bcs3 BK114.out
              have p119 : 0 ≤ (x5_3 : Int) := of_decide_eq_true zr2
              have q119 : x5_3 < (l0_2.length : Int) := of_decide_eq_true zr2
              obtain ⟨ad119, A119_1, c119_1, e119, hx119_0, hx119_1, hl119_1, hi119_1⟩ := at_T56 HR0_2.out x5_3 p119 q119
              cases e119
              replace hx119_0 := hcx HB.out hx119_0
              replace hx119_1 := hcx HB.out hx119_1
              have HR119_1 := Aside0.mk hi119_1
              have HC119_1 := Aside0.mk hl119_1
              clear hi119_1 hl119_1
              replace p119 := eq_true p119
              replace q119 := eq_true q119
              go_wp2_with (first | ((with_reducible refine gate_callee (f := 52) rfl ?_); refine goesL_ (some 66) rfl rfl Try.func52 zr16 rfl #[.string ((rd_T56 l0_2 x5_3).f0)] rfl zr6 ?_; (with_reducible refine (culletref04_Name.calls k3 ((rd_T56 l0_2 x5_3).f0) false _ A55.out).mono ?_); rintro e w' ⟨rfl, ⟨nd, rfl⟩⟩; refine ⟨_, rfl, ?_⟩))
              go_ret
              exact ⟨zr10, zr3⟩
            ·rw [if_neg c54] at H
             exact absurd H zr38
           ·rw [if_neg c53] at H
            have c53b0 : decide (x5_3 < (l0_2.length : Int)) = false := decide_eq_false c53
            clear c53
            obtain rfl := Option.some.inj H
            obtain ⟨hcz75_0, hcz75_1, hcz75_2, hfz75_0, hfz75_1, hfz75_2⟩ := bcs3 BK114.out
            go_wp2
            go_ret
            exact ⟨zr10, zr3⟩
theorem rName_l0 (s : ByteArray) (hs : s.size ≤ 16) : ∀ r i k, i + r = s.size → r < k → culletref04_Name.l0 k s (i : Int) = some (allCh s r i)
 | 0, i, k, h, hk => by
  obtain ⟨k, rfl⟩ : ∃ m, k = m + 1 := ⟨k - 1, zr13⟩
  rw [culletref04_Name.l0, if_neg zr13]
  rfl
 | r + 1, i, k, h, hk => by
  obtain ⟨k, rfl⟩ : ∃ m, k = m + 1 := ⟨k - 1, zr13⟩
  rw [culletref04_Name.l0, if_pos zr13, if_pos zr13, wsucc i zr13, rName_l0 s hs r (i + 1) k zr13 zr13, allCh_succ]
  unfold chOk
  generalize bt s (i : Int) = x
  generalize allCh s r (i + 1) = b
  by_cases h1 : 97 ≤ x <;> by_cases h2 : x ≤ 122 <;> by_cases h3 : 48 ≤ x <;> by_cases h4 : x ≤ 57 <;> by_cases h5 : x = 45 <;>
   simp [h1, h2, h3, h4, h5, Int.not_lt.2, Int.not_le.1, show (x < 97) = ¬ (97 ≤ x) from by simp, show (x < 48) = ¬ (48 ≤ x) from by simp] <;> omega
theorem rName_eq (s : ByteArray) (k : Nat) (hk : 20 ≤ k) : culletref04_Name.f k s = some (nameS s) := by
 obtain ⟨k, rfl⟩ : ∃ m, k = m + 1 := ⟨k - 1, zr13⟩
 unfold culletref04_Name.f nameS
 by_cases h0 : s.size = 0
 ·rw [if_pos zr13, culletref04_Name.j0, if_pos rfl]
  simp [h0]
 ·rw [if_neg zr13]
  by_cases h1 : s.size ≤ 16
  ·rw [if_neg zr13, if_pos zr13]
   by_cases h2 : 97 ≤ bt s 0
   ·rw [if_neg zr13, culletref04_Name.j0]
    by_cases h3 : bt s 0 ≤ 122
    ·rw [if_neg (by simp; omega)]
     have := rName_l0 s h1 s.size 0 k zr13 zr13
     rw [show ((0 : Nat) : Int) = 0 from rfl] at this
     rw [this]
     simp [h1, h2, h3]
     omega
    ·rw [if_pos (by simp; omega)]
     simp [h3]
   ·rw [if_pos zr13, culletref04_Name.j0, if_pos rfl]
    simp [h2]
  ·rw [if_pos zr13, culletref04_Name.j0, if_pos rfl]
   simp [h1]
theorem any_take {α : Type} (p : α → Bool) (z : α) (l : List α) (i : Nat) (hi : i ≤ l.length) : (l.take i).any p = true ↔ ∃ j, j < i ∧ p (l.getD j z) = true := by
 rw [List.any_eq_true]
 constructor
 ·rintro ⟨x, hx, hp⟩
  obtain ⟨j, hj, rfl⟩ := List.mem_iff_getElem.1 hx
  have hj' := hj
  rw [List.length_take] at hj'
  refine ⟨j, zr13, ?_⟩
  rw [List.getD_eq_getElem?_getD, List.getElem?_eq_getElem zr13]
  simpa using hp
 ·rintro ⟨j, hj, hp⟩
  refine ⟨l.getD j z, ?_, hp⟩
  rw [List.getD_eq_getElem?_getD, List.getElem?_eq_getElem zr13]
  simp only [Option.getD_some]
  exact List.mem_take_iff_getElem.2 ⟨j, zr13, rfl⟩
theorem rStand_l1 (a0 : Int) (fl : List S58) (st : List S56) (nm : ByteArray) (l : List S68) (hl : l.length ≤ 8) (i : Nat) (hi : i < l.length) (c m o : Int) (R : Option Int) (K : Nat)
  (hR : ∀ k, K ≤ k → culletref07_checkStand.l0 k (wrap64 ((i : Int) + 1)) a0 fl st nm l = R) : ∀ r j k, j + r = i → K + r < k → (∀ j', j' < j → (rd_T68 l j').f0 ≠ c) →
  culletref07_checkStand.l1 k (i : Int) (j : Int) a0 fl st nm l c m o = if (l.take i).any (fun x => x.f0 == c) = true then some 6 else if win o 1 1000 = false then some 1 else if win m 0 o = false then some 1 else R
 | 0, j, k, h, hk, hj => by
  obtain ⟨k, rfl⟩ : ∃ m, k = m + 1 := ⟨k - 1, zr13⟩
  have hn : ¬ ((l.take i).any (fun x => x.f0 == c) = true) := by
   rw [any_take _ z68 l i zr13]
   rintro ⟨j', h1, h2⟩
   exact hj j' zr13 (by simpa [rd_T68] using h2)
  rw [culletref07_checkStand.l1, if_neg zr13, if_neg hn, hR k zr13]
  unfold win
  by_cases h1 : o < 1
  ·rw [if_pos h1, show decide (1 ≤ o) = false from decide_eq_false zr13]; rfl
  ·rw [if_neg h1, show decide (1 ≤ o) = true from decide_eq_true zr13]
   by_cases h2 : o > 1000
   ·rw [if_pos h2, show decide (o ≤ 1000) = false from decide_eq_false zr13]; rfl
   ·rw [if_neg h2, show decide (o ≤ 1000) = true from decide_eq_true zr13]
    by_cases h3 : m < 0
    ·rw [if_pos h3, show decide (0 ≤ m) = false from decide_eq_false zr13]; rfl
    ·rw [if_neg h3, show decide (0 ≤ m) = true from decide_eq_true zr13]
     by_cases h4 : m > o
     ·rw [if_pos h4, show decide (m ≤ o) = false from decide_eq_false zr13]; rfl
     ·rw [if_neg h4, show decide (m ≤ o) = true from decide_eq_true zr13]; rfl
 | r + 1, j, k, h, hk, hj => by
  obtain ⟨k, rfl⟩ : ∃ m, k = m + 1 := ⟨k - 1, zr13⟩
  rw [culletref07_checkStand.l1, if_pos zr13, if_pos zr13, if_pos zr13]
  by_cases hc : (rd_T68 l (j : Int)).f0 = c
  ·rw [if_pos hc]
   have : (l.take i).any (fun x => x.f0 == c) = true := by
    rw [any_take _ z68 l i zr13]
    exact ⟨j, zr13, by simpa [rd_T68] using hc⟩
   rw [if_pos this]
  ·rw [if_neg hc, wsucc j zr13]
   refine rStand_l1 a0 fl st nm l hl i hi c m o R K hR r (j + 1) k zr13 zr13 (fun j' hj' => ?_)
   by_cases he : j' = j
   ·subst he; exact hc
   ·exact hj j' zr13
theorem rStand_l0 (a0 : Int) (fl : List S58) (st : List S56) (nm : ByteArray) (l : List S68) (hf : fl.length ≤ 1000) (hl : l.length ≤ 8) : ∀ r i k, i + r = l.length → 12 * r + 1 ≤ k → culletref07_checkStand.l0 k (i : Int) a0 fl st nm l = some (firstErr (claimErr fl l) r i)
 | 0, i, k, h, hk => by
  obtain ⟨k, rfl⟩ : ∃ m, k = m + 1 := ⟨k - 1, zr13⟩
  rw [culletref07_checkStand.l0, if_neg zr13]
  rfl
 | r + 1, i, k, h, hk => by
  obtain ⟨k, rfl⟩ : ∃ m, k = m + 1 + 1 := ⟨k - 2, zr13⟩
  have hl1 := rStand_l1 a0 fl st nm l hl i zr13 (rd_T68 l i).f0 (rd_T68 l i).f1 (rd_T68 l i).f2 (some (firstErr (claimErr fl l) r (i + 1))) (12 * r + 1) (fun k hk => by rw [wsucc i zr13]; exact rStand_l0 a0 fl st nm l hf hl r (i + 1) k zr13 hk) i 0 k zr13 zr13 (fun j' hj' => by omega)
  rw [show ((0 : Nat) : Int) = 0 from rfl] at hl1
  rw [culletref07_checkStand.l0, if_pos zr13, if_pos zr13, firstErr_succ]
  have hce : claimErr fl l i = if win (rd_T68 l i).f0 0 ((fl.length : Int) - 1) = false then 7 else if (l.take i).any (fun x => x.f0 == (rd_T68 l i).f0) = true then 6 else
   if win (rd_T68 l i).f2 1 1000 = false then 1 else if win (rd_T68 l i).f1 0 (rd_T68 l i).f2 = false then 1 else 0 := rfl
  rw [hce]
  by_cases h1 : (rd_T68 l i).f0 < 0
  ·rw [if_pos h1, culletref07_checkStand.j1, if_pos rfl]
   rw [show win (rd_T68 l i).f0 0 ((fl.length : Int) - 1) = false from by unfold win; rw [show decide (0 ≤ (rd_T68 l i).f0) = false from decide_eq_false zr13]; rfl]
   rfl
  ·rw [if_neg h1, culletref07_checkStand.j1]
   by_cases h2 : (rd_T68 l i).f0 ≥ fl.length
   ·rw [if_pos (decide_eq_true h2)]
    rw [show win (rd_T68 l i).f0 0 ((fl.length : Int) - 1) = false from by unfold win; rw [show decide ((rd_T68 l i).f0 ≤ (fl.length : Int) - 1) = false from decide_eq_false zr13, Bool.and_false]]
    rfl
   ·rw [if_neg (by simpa using h2), hl1]
    rw [show win (rd_T68 l i).f0 0 ((fl.length : Int) - 1) = true from by unfold win; rw [show decide ((rd_T68 l i).f0 ≤ (fl.length : Int) - 1) = true from decide_eq_true zr13, show decide (0 ≤ (rd_T68 l i).f0) = true from decide_eq_true zr13]; rfl]
    cases (l.take i).any (fun x => x.f0 == (rd_T68 l i).f0) <;> cases win (rd_T68 l i).f2 1 1000 <;> cases win (rd_T68 l i).f1 0 (rd_T68 l i).f2 <;> simp
theorem rStand_eq (a0 : Int) (fl : List S58) (st : List S56) (nm : ByteArray) (l : List S68) (hf : fl.length ≤ 1000) (k : Nat) (hk : 100 ≤ k) : culletref07_checkStand.f k a0 fl st nm l = some (claimsS fl l) := by
 unfold culletref07_checkStand.f claimsS
 by_cases h : 8 < l.length
 ·rw [if_pos zr13, if_pos h]
 ·rw [if_neg zr13, if_neg h]
  exact rStand_l0 a0 fl st nm l hf zr13 l.length 0 k zr13 zr13
theorem rflaw_l0 (a0 : Int) (fl : List S58) (st : List S56) (i : Nat) (hi : i < fl.length) (hn : fl.length ≤ 1000) : ∀ r j k, j + r = i → r < k → (∀ j', j' < j → ¬ ((rd_T58 fl j').f0.toList = (rd_T58 fl i).f0.toList)) →
  ∃ t : Int, culletref07_flaw.l0 k (rd_T58 fl i).f0 (j : Int) a0 fl st = some t ∧ (t < (i : Int) ↔ (fl.take i).any (fun x => x.f0.toList == (rd_T58 fl i).f0.toList) = true)
 | 0, j, k, h, hk, hj => by
  obtain ⟨k, rfl⟩ : ∃ m, k = m + 1 := ⟨k - 1, zr13⟩
  have hij : j = i := by omega
  subst hij
  refine ⟨(j : Int), ?_, ?_⟩
  ·rw [culletref07_flaw.l0, if_pos zr13, if_pos zr13, if_pos rfl]
  ·rw [any_take _ z58 fl j zr13]
   constructor
   ·intro h; omega
   ·rintro ⟨j', h1, h2⟩
    exact absurd (by simpa [rd_T58] using h2) (hj j' h1)
 | r + 1, j, k, h, hk, hj => by
  obtain ⟨k, rfl⟩ : ∃ m, k = m + 1 := ⟨k - 1, zr13⟩
  by_cases hc : (rd_T58 fl (j : Int)).f0.toList = (rd_T58 fl i).f0.toList
  ·refine ⟨(j : Int), ?_, ?_⟩
   ·rw [culletref07_flaw.l0, if_pos zr13, if_pos zr13, if_pos hc]
   ·rw [any_take _ z58 fl i zr13]
    exact ⟨fun _ => ⟨j, zr13, by simpa [rd_T58] using hc⟩, fun _ => by omega⟩
  ·obtain ⟨t, h1, h2⟩ := rflaw_l0 a0 fl st i hi hn r (j + 1) k zr13 zr13 (fun j' hj' => by
    by_cases he : j' = j
    ·subst he; exact hc
    ·exact hj j' zr13)
   exact ⟨t, by rw [culletref07_flaw.l0, if_pos zr13, if_pos zr13, if_neg hc, wsucc j zr13]; exact h1, h2⟩
theorem rflaw_eq (a0 : Int) (fl : List S58) (st : List S56) (i : Nat) (hi : i < fl.length) (hn : fl.length ≤ 1000) (k : Nat) (hk : i < k) :
  ∃ t : Int, culletref07_flaw.f k a0 fl st (rd_T58 fl i).f0 = some t ∧ (t < (i : Int) ↔ (fl.take i).any (fun x => x.f0.toList == (rd_T58 fl i).f0.toList) = true) :=
 rflaw_l0 a0 fl st i hi hn i 0 k zr13 zr13 (fun j' hj' => by omega)
theorem rstand_l0 (a0 : Int) (fl : List S58) (st : List S56) (i : Nat) (hi : i < st.length) (hn : st.length ≤ 1000) : ∀ r j k, j + r = i → r < k → (∀ j', j' < j → ¬ ((rd_T56 st j').f0.toList = (rd_T56 st i).f0.toList)) →
  ∃ t : Int, culletref07_stand.l0 k (rd_T56 st i).f0 (j : Int) a0 fl st = some t ∧ (t < (i : Int) ↔ (st.take i).any (fun x => x.f0.toList == (rd_T56 st i).f0.toList) = true)
 | 0, j, k, h, hk, hj => by
  obtain ⟨k, rfl⟩ : ∃ m, k = m + 1 := ⟨k - 1, zr13⟩
  have hij : j = i := by omega
  subst hij
  refine ⟨(j : Int), ?_, ?_⟩
  ·rw [culletref07_stand.l0, if_pos zr13, if_pos zr13, if_pos rfl]
  ·rw [any_take _ z56 st j zr13]
   constructor
   ·intro h; omega
   ·rintro ⟨j', h1, h2⟩
    exact absurd (by simpa [rd_T56] using h2) (hj j' h1)
 | r + 1, j, k, h, hk, hj => by
  obtain ⟨k, rfl⟩ : ∃ m, k = m + 1 := ⟨k - 1, zr13⟩
  by_cases hc : (rd_T56 st (j : Int)).f0.toList = (rd_T56 st i).f0.toList
  ·refine ⟨(j : Int), ?_, ?_⟩
   ·rw [culletref07_stand.l0, if_pos zr13, if_pos zr13, if_pos hc]
   ·rw [any_take _ z56 st i zr13]
    exact ⟨fun _ => ⟨j, zr13, by simpa [rd_T56] using hc⟩, fun _ => by omega⟩
  ·obtain ⟨t, h1, h2⟩ := rstand_l0 a0 fl st i hi hn r (j + 1) k zr13 zr13 (fun j' hj' => by
    by_cases he : j' = j
    ·subst he; exact hc
    ·exact hj j' zr13)
   exact ⟨t, by rw [culletref07_stand.l0, if_pos zr13, if_pos zr13, if_neg hc, wsucc j zr13]; exact h1, h2⟩
theorem rstand_eq (a0 : Int) (fl : List S58) (st : List S56) (i : Nat) (hi : i < st.length) (hn : st.length ≤ 1000) (k : Nat) (hk : i < k) :
  ∃ t : Int, culletref07_stand.f k a0 fl st (rd_T56 st i).f0 = some t ∧ (t < (i : Int) ↔ (st.take i).any (fun x => x.f0.toList == (rd_T56 st i).f0.toList) = true) :=
 rstand_l0 a0 fl st i hi hn i 0 k zr13 zr13 (fun j' hj' => by omega)
theorem rCheck_l1 (a0 : Int) (fl : List S58) (st : List S56) (hf : fl.length ≤ 8) (hl : st.length ≤ 4) : ∀ r i k, i + r = st.length → r + 110 < k → culletref07_Check.l1 k (i : Int) a0 fl st = some (firstErr (standErr fl st) r i)
 | 0, i, k, h, hk => by
  obtain ⟨k, rfl⟩ : ∃ m, k = m + 1 := ⟨k - 1, zr13⟩
  rw [culletref07_Check.l1, if_neg zr13]
  rfl
 | r + 1, i, k, h, hk => by
  obtain ⟨k, rfl⟩ : ∃ m, k = m + 1 := ⟨k - 1, zr13⟩
  obtain ⟨t, ht, hti⟩ := rstand_eq a0 fl st i zr13 zr13 k zr13
  rw [culletref07_Check.l1, if_pos zr13, if_pos zr13, rName_eq _ k zr13, ht, rStand_eq a0 fl st _ _ zr13 k zr13, wsucc i zr13, rCheck_l1 a0 fl st hf hl r (i + 1) k zr13 zr13, firstErr_succ]
  simp only [Option.bind_some]
  unfold standErr
  cases nameS (rd_T56 st i).f0
  ·simp
  ·simp only [if_true, Bool.true_eq_false, if_false]
   by_cases h6 : t < (i : Int)
   ·rw [if_pos h6, if_pos (hti.1 h6)]; simp
   ·rw [if_neg h6, if_neg (fun h => h6 (hti.2 h))]
    split <;> simp_all
theorem rCheck_l0 (a0 : Int) (fl : List S58) (st : List S56) (hf : fl.length ≤ 8) : ∀ r i k, i + r = fl.length → r + 120 < k → culletref07_Check.l0 k (i : Int) a0 fl st = some (if firstErr (flawErr fl) r i = 0 then (if 4 < st.length then 3 else firstErr (standErr fl st) st.length 0) else firstErr (flawErr fl) r i)
 | 0, i, k, h, hk => by
  obtain ⟨k, rfl⟩ : ∃ m, k = m + 1 := ⟨k - 1, zr13⟩
  rw [culletref07_Check.l0, if_neg zr13, show firstErr (flawErr fl) 0 i = 0 from rfl, if_pos rfl]
  by_cases h4 : 4 < st.length
  ·rw [if_pos zr13, if_pos h4]
  ·rw [if_neg zr13, if_neg h4]
   exact rCheck_l1 a0 fl st hf zr13 st.length 0 k zr13 zr13
 | r + 1, i, k, h, hk => by
  obtain ⟨k, rfl⟩ : ∃ m, k = m + 1 := ⟨k - 1, zr13⟩
  obtain ⟨t, ht, hti⟩ := rflaw_eq a0 fl st i zr13 zr13 k zr13
  rw [culletref07_Check.l0, if_pos zr13, if_pos zr13, rName_eq _ k zr13, ht, wsucc i zr13, rCheck_l0 a0 fl st hf r (i + 1) k zr13 zr13, firstErr_succ]
  simp only [Option.bind_some]
  have hfe : flawErr fl i = if nameS (rd_T58 fl i).f0 = false then 5 else if (fl.take i).any (fun x => x.f0.toList == (rd_T58 fl i).f0.toList) = true then 6 else if win (rd_T58 fl i).f1 0 4 = false then 1 else 0 := rfl
  rw [hfe]
  cases nameS (rd_T58 fl i).f0
  ·simp
  ·simp only [if_true, Bool.true_eq_false, if_false]
   by_cases h6 : t < (i : Int)
   ·rw [if_pos h6, if_pos (hti.1 h6)]; simp
   ·rw [if_neg h6, if_neg (fun h => h6 (hti.2 h))]
    by_cases h1 : (rd_T58 fl i).f1 < 0
    ·rw [if_pos h1, show win (rd_T58 fl i).f1 0 4 = false from by unfold win; rw [show decide (0 ≤ (rd_T58 fl i).f1) = false from decide_eq_false zr13]; rfl]
     rfl
    ·rw [if_neg h1]
     by_cases h2 : (rd_T58 fl i).f1 > 4
     ·rw [if_pos h2, show win (rd_T58 fl i).f1 0 4 = false from by unfold win; rw [show decide ((rd_T58 fl i).f1 ≤ 4) = false from decide_eq_false zr13, Bool.and_false]]
      rfl
     ·rw [if_neg h2, show win (rd_T58 fl i).f1 0 4 = true from by unfold win; rw [show decide ((rd_T58 fl i).f1 ≤ 4) = true from decide_eq_true zr13, show decide (0 ≤ (rd_T58 fl i).f1) = true from decide_eq_true zr13]; rfl]
      rfl
theorem rCheck_eq (a0 : Int) (fl : List S58) (st : List S56) (k : Nat) (hk : 140 ≤ k) : culletref07_Check.f k a0 fl st = some (chkS a0 fl st) := by
 obtain ⟨k, rfl⟩ : ∃ m, k = m + 1 := ⟨k - 1, zr13⟩
 unfold culletref07_Check.f chkS
 have main : culletref07_Check.j0 (k + 1) false a0 fl st = some (if 8 < fl.length then 3 else if firstErr (flawErr fl) fl.length 0 = 0 then (if 4 < st.length then 3 else firstErr (standErr fl st) st.length 0) else firstErr (flawErr fl) fl.length 0) := by
  rw [culletref07_Check.j0, if_neg zr27]
  by_cases h : 8 < fl.length
  ·rw [if_pos zr13, if_pos h]
  ·rw [if_neg zr13, if_neg h]
   exact rCheck_l0 a0 fl st zr13 fl.length 0 k zr13 zr13
 by_cases h1 : a0 < 1
 ·rw [if_pos h1, culletref07_Check.j0, if_pos rfl, show win a0 1 1000000000 = false from by unfold win; rw [show decide (1 ≤ a0) = false from decide_eq_false zr13]; rfl]
  rfl
 ·rw [if_neg h1]
  by_cases h2 : a0 > 1000000000
  ·rw [decide_eq_true h2, culletref07_Check.j0, if_pos rfl, show win a0 1 1000000000 = false from by unfold win; rw [show decide (a0 ≤ 1000000000) = false from decide_eq_false zr13, Bool.and_false]]
   rfl
  ·rw [decide_eq_false h2, main, show win a0 1 1000000000 = true from by unfold win; rw [show decide (a0 ≤ 1000000000) = true from decide_eq_true zr13, show decide (1 ≤ a0) = true from decide_eq_true zr13]; rfl]
   rfl
theorem chkS_claims {every : Int} {fl : List S58} {st : List S56} (h : chkS every fl st = 0) : ∀ i, i < st.length → (rd_T56 st (i : Nat)).f1.length ≤ 8 := fun i hi => by
 have hs := (chkS_zero h).2.2.2.2 i hi
 unfold standErr at hs
 split at hs
 ·exact absurd hs zr27
 ·split at hs
  ·exact absurd hs zr27
  ·unfold claimsS at hs
   split at hs
   ·exact absurd hs zr27
   ·omega
instance (l : List S45) (s c : Int) (n : Nat) : Decidable (isCh l s c n) := by unfold isCh; infer_instance
def befN (l : List S45) (s c e : Int) : Nat → Int
 | 0 => -1
 | n + 1 => if isCh l s c n then (if (n : Int) < e then (n : Int) else befN l s c e n) else befN l s c e n
def behN (l : List S45) (s c e : Int) : Nat → Int
 | 0 => -1
 | n + 1 => if isCh l s c n then (if (n : Int) < e then behN l s c e n else if behN l s c e n < 0 then (n : Int) else behN l s c e n) else behN l s c e n
theorem chP_succ (l : List S45) (s c : Int) (n : Nat) : chP l s c (n + 1) = if isCh l s c n then chP l s c n ++ [(n : Int)] else chP l s c n := by
 show (if (l.getD n z45).f1 = 2 ∧ (l.getD n z45).f4 = s ∧ (l.getD n z45).f5 = c then chP l s c n ++ [(n : Int)] else chP l s c n) = _
 by_cases h : isCh l s c n
 ·rw [if_pos h]; exact if_pos h
 ·rw [if_neg h]; exact if_neg h
theorem nxt_app (L : List Int) (x : Int) (m : Int) (h : m < L.length) : nxt (L ++ [x]) m = nxt L m := by
 unfold nxt rd
 by_cases h0 : m < 0
 ·rw [if_pos (.inl h0), if_pos (.inl h0)]
 ·rw [if_neg (by simp; omega), if_neg zr13, List.getD_eq_getElem?_getD, List.getElem?_append_left zr13, ← List.getD_eq_getElem?_getD]
theorem nxt_end (L : List Int) (m : Int) (h : m = L.length) : nxt L m = -1 := by
 unfold nxt
 rw [if_pos zr13]
theorem nxt_last (L : List Int) (x m : Int) (h : m = L.length) : nxt (L ++ [x]) m = x := by
 unfold nxt rd
 rw [if_neg (by simp; omega), h, Int.toNat_natCast, List.getD_eq_getElem?_getD, List.getElem?_append_right (Nat.le_refl _)]
 simp
theorem nxt_mem (L : List Int) (m : Int) (h0 : 0 ≤ m) (h1 : m < L.length) : nxt L m ∈ L := by
 unfold nxt rd
 rw [if_neg zr13, List.getD_eq_getElem?_getD, List.getElem?_eq_getElem zr13]
 simp
theorem scan (l : List S45) (s c e : Int) : ∀ n, befN l s c e n = nxt (chP l s c n) ((chP l s c n).countP (· < e) + -1) ∧ behN l s c e n = nxt (chP l s c n) ((chP l s c n).countP (· < e) + 0)
 | 0 => by simp [befN, behN, chP, nxt]
 | n + 1 => by
  obtain ⟨h1, h2⟩ := scan l s c e n
  have hm := chP_mem l s c n
  have hle : (chP l s c n).countP (· < e) ≤ (chP l s c n).length := List.countP_le_length
  rw [chP_succ]
  unfold befN behN
  by_cases hc : isCh l s c n
  ·rw [if_pos hc, if_pos hc, if_pos hc]
   by_cases he : (n : Int) < e
   ·have hall : (chP l s c n).countP (· < e) = (chP l s c n).length := by
     rw [List.countP_eq_length]
     intro x hx
     have := hm x hx
     simp; omega
    rw [if_pos he, if_pos he, List.countP_append, hall]
    have h3 : List.countP (· < e) [(n : Int)] = 1 := by simp [he]
    rw [h3]
    refine ⟨(nxt_last _ _ _ zr13).symm, ?_⟩
    rw [h2, hall, nxt_end _ _ zr38, nxt_end _ _ zr38]
   ·rw [if_neg he, if_neg he, List.countP_append]
    have h3 : List.countP (· < e) [(n : Int)] = 0 := by simp; omega
    rw [h3, Nat.add_zero, nxt_app _ _ _ zr13, ← h1]
    refine ⟨rfl, ?_⟩
    by_cases hlt : (chP l s c n).countP (· < e) < (chP l s c n).length
    ·rw [nxt_app _ _ _ zr13, ← h2, if_neg]
     have := hm _ (nxt_mem (chP l s c n) ((chP l s c n).countP (· < e) + 0) zr13 zr13)
     rw [h2]
     omega
    ·rw [nxt_last _ _ _ zr13, if_pos]
     rw [h2, nxt_end _ _ zr13]
     decide
  ·rw [if_neg hc, if_neg hc, if_neg hc]
   exact ⟨h1, h2⟩
end Go.Proofs.Ytbpebehbfpgjbaa.P
end
