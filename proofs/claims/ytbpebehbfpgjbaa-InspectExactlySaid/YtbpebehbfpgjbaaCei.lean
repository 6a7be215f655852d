/- Texts of the proof, joined: what they prove stands at each theorem. -/
import Derived.Test.YtbpebehbfpgjbaaCeb
import Derived.Test.YtbpebehbfpgjbaaCec
import Derived.Test.YtbpebehbfpgjbaaCee
import Derived.Test.YtbpebehbfpgjbaaCeg
import Derived.Test.YtbpebehbfpgjbaaCeh
section
namespace Go.Proofs.Ytbpebehbfpgjbaa.P
open Go.RowKit Go.Proofs.YtbpebehbfpgjbaaW.PrintWords Go.Proofs.YtbpebehbfpgjbaaW.PrintLast Go.Proofs.YtbpebehbfpgjbaaW.PrintMore
attribute [local go_sem] max2_int min2_int max_two min_two max_three min_three max_four min_four
set_option linter.unusedVariables false
set_option linter.unusedSimpArgs false
mutual
def culletlaw07_InspectExactly.j0 : Nat → List (S45) → Int → Bool → Int → List (S58) → List (S56) → Option (Bool)
 | 0, _, _, _, _, _, _ => none
 | k + 1, x1, x2, x37, x401000, x401001, x401002 => if x37 = true then ((culletlaw07_looks.f).bind fun t403 => (some t403)) else ((culletlaw07_picked.f x2 0 (wrap64 ((x1.length : Int) - 1))).bind fun t404 => (if 0 ≤ t404 then (if t404 < (x1.length : Int) then (if ((rd_T45 x1 t404).f1) = 2 then ((some (([] : List (S45)) : List (S45))).bind fun y407 => (if y407.length + x1.length < 2513169434916 then ((some (y407 ++ x1 : List (S45))).bind fun y410 => (if t404 < (y410.length : Int) then (culletlaw07_InspectExactly.l0 k x1 t404 (y410.set (t404 : Int).toNat (⟨(rd_T45 y410 t404).f0, (rd_T45 y410 t404).f1, (rd_T45 y410 t404).f2, (rd_T45 y410 t404).f3, (rd_T45 y410 t404).f4, (rd_T45 y410 t404).f5, !((rd_T45 y410 t404).f6)⟩ : S45)) (-1) (x1.length : Int) 0 x401000 x401001 x401002) else (none))) else (none))) else ((culletlaw07_looks.f).bind fun t406 => (some t406))) else (none)) else (none)))
def culletlaw07_InspectExactly.l0 : Nat → List (S45) → Int → List (S45) → Int → Int → Int → Int → List (S58) → List (S56) → Option (Bool)
 | 0, _, _, _, _, _, _, _, _, _ => none
 | k + 1, x1, x7, x8, x9, x10, x11, x401000, x401001, x401002 => if x11 < (x1.length : Int) then (if 0 ≤ x11 then (if ((rd_T45 x1 x11).f1) = 2 then (if 0 ≤ x7 then (if x7 < (x1.length : Int) then (if ((rd_T45 x1 x11).f4) = ((rd_T45 x1 x7).f4) then (culletlaw07_InspectExactly.j2 k x1 x7 x8 x9 x10 x11 (((rd_T45 x1 x11).f5) == ((rd_T45 x1 x7).f5)) x401000 x401001 x401002) else (culletlaw07_InspectExactly.j2 k x1 x7 x8 x9 x10 x11 false x401000 x401001 x401002)) else (none)) else (none)) else (culletlaw07_InspectExactly.j2 k x1 x7 x8 x9 x10 x11 false x401000 x401001 x401002)) else (none)) else (culletlaw07_InspectExactly.l1 k x1 x8 x9 x10 0 x401000 x401001 x401002)
def culletlaw07_InspectExactly.j2 : Nat → List (S45) → Int → List (S45) → Int → Int → Int → Bool → Int → List (S58) → List (S56) → Option (Bool)
 | 0, _, _, _, _, _, _, _, _, _, _ => none
 | k + 1, x1, x7, x8, x9, x10, x11, x103, x401000, x401001, x401002 => if x103 = true then (if x11 < x7 then (if x11 > x7 then (if x10 = (x1.length : Int) then (culletlaw07_InspectExactly.l0 k x1 x7 x8 x11 x11 (wrap64 (x11 + 1)) x401000 x401001 x401002) else (culletlaw07_InspectExactly.l0 k x1 x7 x8 x11 x10 (wrap64 (x11 + 1)) x401000 x401001 x401002)) else (culletlaw07_InspectExactly.l0 k x1 x7 x8 x11 x10 (wrap64 (x11 + 1)) x401000 x401001 x401002)) else (if x11 > x7 then (if x10 = (x1.length : Int) then (culletlaw07_InspectExactly.l0 k x1 x7 x8 x9 x11 (wrap64 (x11 + 1)) x401000 x401001 x401002) else (culletlaw07_InspectExactly.l0 k x1 x7 x8 x9 x10 (wrap64 (x11 + 1)) x401000 x401001 x401002)) else (culletlaw07_InspectExactly.l0 k x1 x7 x8 x9 x10 (wrap64 (x11 + 1)) x401000 x401001 x401002))) else (culletlaw07_InspectExactly.l0 k x1 x7 x8 x9 x10 (wrap64 (x11 + 1)) x401000 x401001 x401002)
def culletlaw07_InspectExactly.l1 : Nat → List (S45) → List (S45) → Int → Int → Int → Int → List (S58) → List (S56) → Option (Bool)
 | 0, _, _, _, _, _, _, _, _ => none
 | k + 1, x1, x8, x9, x10, x12, x401000, x401001, x401002 => if x12 < (x1.length : Int) then (if 0 ≤ x12 then (if ((rd_T45 x1 x12).f1) = 1 then (if x12 > x9 then (culletlaw07_InspectExactly.j4 k x1 x8 x9 x10 x12 (decide (x12 < x10)) x401000 x401001 x401002) else (culletlaw07_InspectExactly.j4 k x1 x8 x9 x10 x12 false x401000 x401001 x401002)) else (culletlaw07_InspectExactly.j4 k x1 x8 x9 x10 x12 true x401000 x401001 x401002)) else (none)) else ((culletlaw07_looks.f).bind fun t420 => (some t420))
def culletlaw07_InspectExactly.j4 : Nat → List (S45) → List (S45) → Int → Int → Int → Bool → Int → List (S58) → List (S56) → Option (Bool)
 | 0, _, _, _, _, _, _, _, _, _ => none
 | k + 1, x1, x8, x9, x10, x12, x139, x401000, x401001, x401002 => if x139 = true then (culletlaw07_InspectExactly.l1 k x1 x8 x9 x10 (wrap64 (x12 + 1)) x401000 x401001 x401002) else ((inspect_Judge.f x401000 x401001 x401002 x1 x12).bind fun bt422 => ((inspect_Judge.f x401000 x401001 x401002 x8 x12).bind fun bt425 => (if bt422.2.2 = 0 then (if bt425.2.2 = 0 then (if bt422.1 = bt425.1 then (if bt422.2.1 = bt425.2.1 then (culletlaw07_InspectExactly.l1 k x1 x8 x9 x10 (wrap64 (x12 + 1)) x401000 x401001 x401002) else (some false)) else (some false)) else (some false)) else (some false))))
end
def culletlaw07_InspectExactly.f (k : Nat) (a0_0 : Int) (l0_1 : List (S58)) (l0_2 : List (S56)) (l1 : List (S45)) (a2 : Int) : Option (Bool) := (culletlaw07_many.f k a0_0 l0_1 l0_2 l1).bind fun t401 => (if t401 = true then (culletlaw07_InspectExactly.j0 k l1 a2 true a0_0 l0_1 l0_2) else (if (l1.length : Int) = 0 then (culletlaw07_InspectExactly.j0 k l1 a2 true a0_0 l0_1 l0_2) else (if (l1.length : Int) > 40 then (culletlaw07_InspectExactly.j0 k l1 a2 true a0_0 l0_1 l0_2) else ((inspect_CheckLog.f k a0_0 l0_1 l0_2 l1).bind fun t402 => (culletlaw07_InspectExactly.j0 k l1 a2 (t402 != 0) a0_0 l0_1 l0_2)))))
set_option maxHeartbeats 8000000 in
set_option maxRecDepth 100000 in
theorem culletlaw07_InspectExactly.calls (k : Nat) (a0_0 : Int) (A0_1 : Option Addr) (c0_1 : Nat) (l0_1 : List (S58)) (A0_2 : Option Addr) (c0_2 : Nat) (l0_2 : List (S56)) (A1 : Option Addr) (c1 : Nat) (l1 : List (S45)) (a2 : Int) (r : Bool) (w : World) (hr0_1 : Kd.C k58 w A0_1 l0_1.length l0_1) (hc0_1 : l0_1.length ≤ c0_1) (hr0_2 : Kd.C k56 w A0_2 l0_2.length l0_2) (hc0_2 : l0_2.length ≤ c0_2) (hr1 : Kd.C k45 w A1 l1.length l1) (hc1 : l1.length ≤ c1) (h : culletlaw07_InspectExactly.f k a0_0 l0_1 l0_2 l1 a2 = some r) :
  Calls Try.prog 4 #[.agg #[.int .i64 a0_0, .slice A0_1 l0_1.length c0_1, .slice A0_2 l0_2.length c0_2], .slice A1 l1.length c1, .int .i64 a2] w fun e w' => e = .returned (.bool r) ∧ Below w.heap.size w w' := by
 have hu25 := Try.underlying25
 have HR0_1 := Aside0.mk hr0_1
 have HC0_1 := Aside0.mk hc0_1
 clear hr0_1 hc0_1
 have HR0_2 := Aside0.mk hr0_2
 have HC0_2 := Aside0.mk hc0_2
 clear hr0_2 hc0_2
 have HR1 := Aside0.mk hr1
 have HC1 := Aside0.mk hc1
 clear hr1 hc1
 have HB := Aside0.mk (Below.refl w.heap.size w)
 have H : ((culletlaw07_many.f k a0_0 l0_1 l0_2 l1).bind fun t401 => (if t401 = true then (culletlaw07_InspectExactly.j0 k l1 a2 true a0_0 l0_1 l0_2) else (if (l1.length : Int) = 0 then (culletlaw07_InspectExactly.j0 k l1 a2 true a0_0 l0_1 l0_2) else (if (l1.length : Int) > 40 then (culletlaw07_InspectExactly.j0 k l1 a2 true a0_0 l0_1 l0_2) else ((inspect_CheckLog.f k a0_0 l0_1 l0_2 l1).bind fun t402 => (culletlaw07_InspectExactly.j0 k l1 a2 (t402 != 0) a0_0 l0_1 l0_2)))))) = some r := h
 clear h
 have HC4 := Aside0.mk H
 clear H
 go_enter Try.func4, Try.ntmps4
 go_upto_region 1 with (first | ((with_reducible refine gate_dst (N := 3) rfl ?_); (try (refine gate_guard (by rfl) ?_; dsimp only)); refine box_event ?hg (N := 3) ?hd (cs := #[.int .i64 a0_0, .slice A0_1 l0_1.length c0_1, .slice A0_2 l0_2.length c0_2]) (t := 25) ?hr ?_; (case hd => rfl); (case hg => rfl); (case hr => exact zq14); intro gb400 hg w5 hbox hb; have n_ := as4 (below_step zq3 hb) (hbox) ((zq26 : w.heap.size ≤ gb400)) ((zq26 : w.heap.size ≤ gb400)); clear HB hb hbox hg; obtain ⟨HB, BK400, GW400, GE400⟩ := n_))
 repeat (go_quiet (first | ((with_reducible refine gate_dst (N := 3) rfl ?_); (try (refine gate_guard (by rfl) ?_; dsimp only)); refine box_event ?hg (N := 3) ?hd (cs := #[.int .i64 a0_0, .slice A0_1 l0_1.length c0_1, .slice A0_2 l0_2.length c0_2]) (t := 25) ?hr ?_; (case hd => rfl); (case hg => rfl); (case hr => exact zq14); intro gb400 hg w5 hbox hb; have n_ := as4 (below_step zq3 hb) (hbox) ((zq26 : w.heap.size ≤ gb400)) ((zq26 : w.heap.size ≤ gb400)); clear HB hb hbox hg; obtain ⟨HB, BK400, GW400, GE400⟩ := n_)); go_upto_region 1 with (first | ((with_reducible refine gate_dst (N := 3) rfl ?_); (try (refine gate_guard (by rfl) ?_; dsimp only)); refine box_event ?hg (N := 3) ?hd (cs := #[.int .i64 a0_0, .slice A0_1 l0_1.length c0_1, .slice A0_2 l0_2.length c0_2]) (t := 25) ?hr ?_; (case hd => rfl); (case hg => rfl); (case hr => exact zq14); intro gb400 hg w5 hbox hb; have n_ := as4 (below_step zq3 hb) (hbox) ((zq26 : w.heap.size ≤ gb400)) ((zq26 : w.heap.size ≤ gb400)); clear HB hb hbox hg; obtain ⟨HB, BK400, GW400, GE400⟩ := n_)))
 (try simp only [Act.put, List.setIfInBounds_toArray, List.set_cons_zero, List.set_cons_succ])
 go_cut [37] (fun v37 wc => ∃ (kq : Nat) (x37_3 : Bool), v37 = .bool x37_3 ∧ Aside0 (culletlaw07_InspectExactly.j0 kq l1 a2 x37_3 a0_0 l0_1 l0_2 = some r) ∧ Aside0 (kq ≤ k) ∧ Aside0 (wc.heap[gb400]? = some (.cells #[.int .i64 a0_0, (.slice A0_1 l0_1.length c0_1), (.slice A0_2 l0_2.length c0_2)] 25 (0, 0))) ∧ Aside0 (Below w.heap.size w wc))
 case first =>
  have H := HC4.out
  clear HC4
  replace H := Option.bind_eq_some_iff.mp H
  obtain ⟨t401, A60, H⟩ := H
  replace H : (if t401 = true then (culletlaw07_InspectExactly.j0 k l1 a2 true a0_0 l0_1 l0_2) else (if (l1.length : Int) = 0 then (culletlaw07_InspectExactly.j0 k l1 a2 true a0_0 l0_1 l0_2) else (if (l1.length : Int) > 40 then (culletlaw07_InspectExactly.j0 k l1 a2 true a0_0 l0_1 l0_2) else ((inspect_CheckLog.f k a0_0 l0_1 l0_2 l1).bind fun t402 => (culletlaw07_InspectExactly.j0 k l1 a2 (t402 != 0) a0_0 l0_1 l0_2))))) = some r := H
  have A6 := Aside0.mk A60
  clear A60
  by_cases c7 : t401 = true
  ·subst c7
   have H1 : (culletlaw07_InspectExactly.j0 k l1 a2 true a0_0 l0_1 l0_2) = some r := by rw [if_pos rfl] at H; exact H
   clear H
   have H := H1
   clear H1
   have H' := Aside0.mk H
   clear H
   obtain ⟨hcz8_0, hcz8_1, hcz8_2, hfz8_0, hfz8_1, hfz8_2⟩ := bcs3 BK400.out
   go_wp2_with (first | (go_at_call 10; (with_reducible refine (culletlaw07_many.calls k a0_0 _ _ l0_1 _ _ l0_2 _ _ l1 true _ ?side1 ?side2 ?side3 ?side4 ?side5 ?side6 A6.out).mono ?_); (case side1 => exact zq4); (case side2 => exact HC0_1.out); (case side3 => exact zq5); (case side4 => exact HC0_2.out); (case side5 => exact zq8); (case side6 => exact HC1.out); rintro e w9 ⟨rfl, hb⟩; have n_ := as2 (blk_below (zq0 BK400.out) hb) (below_step zq2 hb); clear BK400 HB; obtain ⟨BK400, HB⟩ := n_; (try clear hb); (try clear hb2); (try clear hk); (try clear hi)))
   repeat (go_quiet (first | (go_at_call 10; (with_reducible refine (culletlaw07_many.calls k a0_0 _ _ l0_1 _ _ l0_2 _ _ l1 true _ ?side1 ?side2 ?side3 ?side4 ?side5 ?side6 A6.out).mono ?_); (case side1 => exact zq4); (case side2 => exact HC0_1.out); (case side3 => exact zq5); (case side4 => exact HC0_2.out); (case side5 => exact zq8); (case side6 => exact HC1.out); rintro e w9 ⟨rfl, hb⟩; have n_ := as2 (blk_below (zq0 BK400.out) hb) (below_step zq2 hb); clear BK400 HB; obtain ⟨BK400, HB⟩ := n_; (try clear hb); (try clear hb2); (try clear hk); (try clear hi))); try go_wp2_with (first | (go_at_call 10; (with_reducible refine (culletlaw07_many.calls k a0_0 _ _ l0_1 _ _ l0_2 _ _ l1 true _ ?side1 ?side2 ?side3 ?side4 ?side5 ?side6 A6.out).mono ?_); (case side1 => exact zq4); (case side2 => exact HC0_1.out); (case side3 => exact zq5); (case side4 => exact HC0_2.out); (case side5 => exact zq8); (case side6 => exact HC1.out); rintro e w9 ⟨rfl, hb⟩; have n_ := as2 (blk_below (zq0 BK400.out) hb) (below_step zq2 hb); clear BK400 HB; obtain ⟨BK400, HB⟩ := n_; (try clear hb); (try clear hb2); (try clear hk); (try clear hi))))
   go_meet
   case rel => exact ⟨_, (true), zq12, H', ⟨zq36⟩, ⟨(zq0 BK400.out)⟩, ⟨zq2⟩⟩
  ·replace c7 := Bool.eq_false_iff.mpr c7
   subst c7
   have H1 : (if (l1.length : Int) = 0 then (culletlaw07_InspectExactly.j0 k l1 a2 true a0_0 l0_1 l0_2) else (if (l1.length : Int) > 40 then (culletlaw07_InspectExactly.j0 k l1 a2 true a0_0 l0_1 l0_2) else ((inspect_CheckLog.f k a0_0 l0_1 l0_2 l1).bind fun t402 => (culletlaw07_InspectExactly.j0 k l1 a2 (t402 != 0) a0_0 l0_1 l0_2)))) = some r := by rw [if_neg (show ¬ (false = true) by decide)] at H; exact H
   clear H
   have H := H1
   clear H1
   by_cases c10 : (l1.length : Int) = 0
   ·rw [if_pos c10] at H
    have c10b0 : ((l1.length : Int) == 0) = true := beq_iff_eq.mpr c10
    have c10b1 : ((l1.length : Int) != 0) = false := bne_eq_false_iff_eq.mpr c10
    clear c10
    (first | rw [c10b0] | (simp only [i64_w, i32_w]; rw [c10b0]) | skip)
    have H' := Aside0.mk H
    clear H
    obtain ⟨hcz11_0, hcz11_1, hcz11_2, hfz11_0, hfz11_1, hfz11_2⟩ := bcs3 BK400.out
    go_wp2_with (first | (go_at_call 10; (with_reducible refine (culletlaw07_many.calls k a0_0 _ _ l0_1 _ _ l0_2 _ _ l1 false _ ?side1 ?side2 ?side3 ?side4 ?side5 ?side6 A6.out).mono ?_); (case side1 => exact zq4); (case side2 => exact HC0_1.out); (case side3 => exact zq5); (case side4 => exact HC0_2.out); (case side5 => exact zq8); (case side6 => exact HC1.out); rintro e w12 ⟨rfl, hb⟩; have n_ := as2 (blk_below (zq0 BK400.out) hb) (below_step zq2 hb); clear BK400 HB; obtain ⟨BK400, HB⟩ := n_; (try clear hb); (try clear hb2); (try clear hk); (try clear hi)))
    repeat (go_quiet (first | (go_at_call 10; (with_reducible refine (culletlaw07_many.calls k a0_0 _ _ l0_1 _ _ l0_2 _ _ l1 false _ ?side1 ?side2 ?side3 ?side4 ?side5 ?side6 A6.out).mono ?_); (case side1 => exact zq4); (case side2 => exact HC0_1.out); (case side3 => exact zq5); (case side4 => exact HC0_2.out); (case side5 => exact zq8); (case side6 => exact HC1.out); rintro e w12 ⟨rfl, hb⟩; have n_ := as2 (blk_below (zq0 BK400.out) hb) (below_step zq2 hb); clear BK400 HB; obtain ⟨BK400, HB⟩ := n_; (try clear hb); (try clear hb2); (try clear hk); (try clear hi))); try go_wp2_with (first | (go_at_call 10; (with_reducible refine (culletlaw07_many.calls k a0_0 _ _ l0_1 _ _ l0_2 _ _ l1 false _ ?side1 ?side2 ?side3 ?side4 ?side5 ?side6 A6.out).mono ?_); (case side1 => exact zq4); (case side2 => exact HC0_1.out); (case side3 => exact zq5); (case side4 => exact HC0_2.out); (case side5 => exact zq8); (case side6 => exact HC1.out); rintro e w12 ⟨rfl, hb⟩; have n_ := as2 (blk_below (zq0 BK400.out) hb) (below_step zq2 hb); clear BK400 HB; obtain ⟨BK400, HB⟩ := n_; (try clear hb); (try clear hb2); (try clear hk); (try clear hi))))
    go_meet
    case rel => exact ⟨_, (true), zq12, H', ⟨zq36⟩, ⟨(zq0 BK400.out)⟩, ⟨zq2⟩⟩
   ·rw [if_neg c10] at H
    have c10b0 : ((l1.length : Int) == 0) = false := beq_eq_false_iff_ne.mpr c10
    have c10b1 : ((l1.length : Int) != 0) = true := bne_iff_ne.mpr c10
    have c10b2 : ¬ (l1 = []) := fun h_ => c10 (by rw [h_]; rfl)
    (first | rw [c10b0] | (simp only [i64_w, i32_w]; rw [c10b0]) | skip)
    by_cases c13 : (l1.length : Int) > 40
    ·rw [if_pos c13] at H
     have c13b0 : decide (40 < (l1.length : Int)) = true := decide_eq_true c13
     have c13b1 : decide (40 < l1.length) = true := decide_eq_true zq21
     clear c13
     have H' := Aside0.mk H
     clear H
     obtain ⟨hcz14_0, hcz14_1, hcz14_2, hfz14_0, hfz14_1, hfz14_2⟩ := bcs3 BK400.out
     go_wp2_with (first | (go_at_call 10; (with_reducible refine (culletlaw07_many.calls k a0_0 _ _ l0_1 _ _ l0_2 _ _ l1 false _ ?side1 ?side2 ?side3 ?side4 ?side5 ?side6 A6.out).mono ?_); (case side1 => exact zq4); (case side2 => exact HC0_1.out); (case side3 => exact zq5); (case side4 => exact HC0_2.out); (case side5 => exact zq8); (case side6 => exact HC1.out); rintro e w15 ⟨rfl, hb⟩; have n_ := as2 (blk_below (zq0 BK400.out) hb) (below_step zq2 hb); clear BK400 HB; obtain ⟨BK400, HB⟩ := n_; (try clear hb); (try clear hb2); (try clear hk); (try clear hi)))
     repeat (go_quiet (first | (go_at_call 10; (with_reducible refine (culletlaw07_many.calls k a0_0 _ _ l0_1 _ _ l0_2 _ _ l1 false _ ?side1 ?side2 ?side3 ?side4 ?side5 ?side6 A6.out).mono ?_); (case side1 => exact zq4); (case side2 => exact HC0_1.out); (case side3 => exact zq5); (case side4 => exact HC0_2.out); (case side5 => exact zq8); (case side6 => exact HC1.out); rintro e w15 ⟨rfl, hb⟩; have n_ := as2 (blk_below (zq0 BK400.out) hb) (below_step zq2 hb); clear BK400 HB; obtain ⟨BK400, HB⟩ := n_; (try clear hb); (try clear hb2); (try clear hk); (try clear hi))); try go_wp2_with (first | (go_at_call 10; (with_reducible refine (culletlaw07_many.calls k a0_0 _ _ l0_1 _ _ l0_2 _ _ l1 false _ ?side1 ?side2 ?side3 ?side4 ?side5 ?side6 A6.out).mono ?_); (case side1 => exact zq4); (case side2 => exact HC0_1.out); (case side3 => exact zq5); (case side4 => exact HC0_2.out); (case side5 => exact zq8); (case side6 => exact HC1.out); rintro e w15 ⟨rfl, hb⟩; have n_ := as2 (blk_below (zq0 BK400.out) hb) (below_step zq2 hb); clear BK400 HB; obtain ⟨BK400, HB⟩ := n_; (try clear hb); (try clear hb2); (try clear hk); (try clear hi))))
     go_meet
     case rel => exact ⟨_, (true), zq12, H', ⟨zq36⟩, ⟨(zq0 BK400.out)⟩, ⟨zq2⟩⟩
    ·rw [if_neg c13] at H
     have c13b0 : decide (40 < (l1.length : Int)) = false := decide_eq_false c13
     have c13b1 : decide (40 < l1.length) = false := decide_eq_false zq21
     clear c13
     replace H := Option.bind_eq_some_iff.mp H
     obtain ⟨t402, A160, H⟩ := H
     replace H : (culletlaw07_InspectExactly.j0 k l1 a2 (t402 != 0) a0_0 l0_1 l0_2) = some r := H
     have A16 := Aside0.mk A160
     clear A160
     have H' := Aside0.mk H
     clear H
     obtain ⟨hcz17_0, hcz17_1, hcz17_2, hfz17_0, hfz17_1, hfz17_2⟩ := bcs3 BK400.out
     go_wp2_with (first | (go_at_call 10; (with_reducible refine (culletlaw07_many.calls k a0_0 _ _ l0_1 _ _ l0_2 _ _ l1 false _ ?side1 ?side2 ?side3 ?side4 ?side5 ?side6 A6.out).mono ?_); (case side1 => exact zq4); (case side2 => exact HC0_1.out); (case side3 => exact zq5); (case side4 => exact HC0_2.out); (case side5 => exact zq8); (case side6 => exact HC1.out); rintro e w18 ⟨rfl, hb⟩; have n_ := as2 (blk_below (zq0 BK400.out) hb) (below_step zq2 hb); clear BK400 HB; obtain ⟨BK400, HB⟩ := n_; (try clear hb); (try clear hb2); (try clear hk); (try clear hi); obtain ⟨hcz19_0, hcz19_1, hcz19_2, hfz19_0, hfz19_1, hfz19_2⟩ := bcs3 BK400.out) | (go_at_call 19; (with_reducible refine (inspect_CheckLog.calls k a0_0 _ _ l0_1 _ _ l0_2 _ _ l1 t402 _ ?side1 ?side2 ?side3 ?side4 ?side5 ?side6 A16.out).mono ?_); (case side1 => exact zq4); (case side2 => exact HC0_1.out); (case side3 => exact zq5); (case side4 => exact HC0_2.out); (case side5 => exact zq8); (case side6 => exact HC1.out); rintro e w20 ⟨rfl, hb⟩; have n_ := as2 (blk_below (zq0 BK400.out) hb) (below_step zq2 hb); clear BK400 HB; obtain ⟨BK400, HB⟩ := n_; (try clear hb); (try clear hb2); (try clear hk); (try clear hi)))
     repeat (go_quiet (first | (go_at_call 10; (with_reducible refine (culletlaw07_many.calls k a0_0 _ _ l0_1 _ _ l0_2 _ _ l1 false _ ?side1 ?side2 ?side3 ?side4 ?side5 ?side6 A6.out).mono ?_); (case side1 => exact zq4); (case side2 => exact HC0_1.out); (case side3 => exact zq5); (case side4 => exact HC0_2.out); (case side5 => exact zq8); (case side6 => exact HC1.out); rintro e w18 ⟨rfl, hb⟩; have n_ := as2 (blk_below (zq0 BK400.out) hb) (below_step zq2 hb); clear BK400 HB; obtain ⟨BK400, HB⟩ := n_; (try clear hb); (try clear hb2); (try clear hk); (try clear hi); obtain ⟨hcz19_0, hcz19_1, hcz19_2, hfz19_0, hfz19_1, hfz19_2⟩ := bcs3 BK400.out) | (go_at_call 19; (with_reducible refine (inspect_CheckLog.calls k a0_0 _ _ l0_1 _ _ l0_2 _ _ l1 t402 _ ?side1 ?side2 ?side3 ?side4 ?side5 ?side6 A16.out).mono ?_); (case side1 => exact zq4); (case side2 => exact HC0_1.out); (case side3 => exact zq5); (case side4 => exact HC0_2.out); (case side5 => exact zq8); (case side6 => exact HC1.out); rintro e w20 ⟨rfl, hb⟩; have n_ := as2 (blk_below (zq0 BK400.out) hb) (below_step zq2 hb); clear BK400 HB; obtain ⟨BK400, HB⟩ := n_; (try clear hb); (try clear hb2); (try clear hk); (try clear hi))); try go_wp2_with (first | (go_at_call 10; (with_reducible refine (culletlaw07_many.calls k a0_0 _ _ l0_1 _ _ l0_2 _ _ l1 false _ ?side1 ?side2 ?side3 ?side4 ?side5 ?side6 A6.out).mono ?_); (case side1 => exact zq4); (case side2 => exact HC0_1.out); (case side3 => exact zq5); (case side4 => exact HC0_2.out); (case side5 => exact zq8); (case side6 => exact HC1.out); rintro e w18 ⟨rfl, hb⟩; have n_ := as2 (blk_below (zq0 BK400.out) hb) (below_step zq2 hb); clear BK400 HB; obtain ⟨BK400, HB⟩ := n_; (try clear hb); (try clear hb2); (try clear hk); (try clear hi); obtain ⟨hcz19_0, hcz19_1, hcz19_2, hfz19_0, hfz19_1, hfz19_2⟩ := bcs3 BK400.out) | (go_at_call 19; (with_reducible refine (inspect_CheckLog.calls k a0_0 _ _ l0_1 _ _ l0_2 _ _ l1 t402 _ ?side1 ?side2 ?side3 ?side4 ?side5 ?side6 A16.out).mono ?_); (case side1 => exact zq4); (case side2 => exact HC0_1.out); (case side3 => exact zq5); (case side4 => exact HC0_2.out); (case side5 => exact zq8); (case side6 => exact HC1.out); rintro e w20 ⟨rfl, hb⟩; have n_ := as2 (blk_below (zq0 BK400.out) hb) (below_step zq2 hb); clear BK400 HB; obtain ⟨BK400, HB⟩ := n_; (try clear hb); (try clear hb2); (try clear hk); (try clear hi))))
     go_meet
     case rel => exact ⟨_, ((t402 != 0)), zq12, H', ⟨zq36⟩, ⟨(zq0 BK400.out)⟩, ⟨zq2⟩⟩
 case rest =>
  clear HC4
  try clear c1
  try clear p2
  try clear c4
  try clear c7
  try clear c10
  try clear c10b0
  try clear c10b1
  try clear c10b2
  try clear c13
  try clear c13b0
  try clear c13b1
  try clear hcz11_0 hcz11_1 hcz11_2 hfz11_0 hfz11_1 hfz11_2
  try clear hcz14_0 hcz14_1 hcz14_2 hfz14_0 hfz14_1 hfz14_2
  try clear hcz17_0 hcz17_1 hcz17_2 hfz17_0 hfz17_1 hfz17_2
  try clear hcz19_0 hcz19_1 hcz19_2 hfz19_0 hfz19_1 hfz19_2
  try clear hcz8_0 hcz8_1 hcz8_2 hfz8_0 hfz8_1 hfz8_2
  obtain ⟨kq, x37_3, rfl, HA, HJ3, BK400, HB⟩ := hcut
  cases kq with
  | zero => exact absurd HA.out (by simp [culletlaw07_InspectExactly.j0])
  | succ kj3 =>
   have H := HA.out
   clear HA
   simp only [culletlaw07_InspectExactly.j0] at H
   by_cases c21 : x37_3 = true
   ·subst c21
    have H1 : ((culletlaw07_looks.f).bind fun t403 => (some t403)) = some r := by rw [if_pos rfl] at H; exact H
    clear H
    have H := H1
    clear H1
    replace H := Option.bind_eq_some_iff.mp H
    obtain ⟨t403, A220, H⟩ := H
    replace H : (some t403) = some r := H
    have A22 := Aside0.mk A220
    clear A220
    obtain rfl := Option.some.inj H
    go_wp2_with (first | (go_at_call 11; (with_reducible refine (culletlaw07_looks.calls  t403 _ A22.out).mono ?_); rintro e w23 ⟨rfl, hb⟩; have n_ := as2 (blk_below (zq0 BK400.out) hb) (below_step zq2 hb); clear BK400 HB; obtain ⟨BK400, HB⟩ := n_; (try clear hb); (try clear hb2); (try clear hk); (try clear hi)))
    repeat (go_quiet (first | (go_at_call 11; (with_reducible refine (culletlaw07_looks.calls  t403 _ A22.out).mono ?_); rintro e w23 ⟨rfl, hb⟩; have n_ := as2 (blk_below (zq0 BK400.out) hb) (below_step zq2 hb); clear BK400 HB; obtain ⟨BK400, HB⟩ := n_; (try clear hb); (try clear hb2); (try clear hk); (try clear hi))); try go_wp2_with (first | (go_at_call 11; (with_reducible refine (culletlaw07_looks.calls  t403 _ A22.out).mono ?_); rintro e w23 ⟨rfl, hb⟩; have n_ := as2 (blk_below (zq0 BK400.out) hb) (below_step zq2 hb); clear BK400 HB; obtain ⟨BK400, HB⟩ := n_; (try clear hb); (try clear hb2); (try clear hk); (try clear hi))))
    go_ret
    exact ⟨zq11, zq2⟩
   ·replace c21 := Bool.eq_false_iff.mpr c21
    subst c21
    have H1 : ((culletlaw07_picked.f a2 0 (wrap64 ((l1.length : Int) - 1))).bind fun t404 => (if 0 ≤ t404 then (if t404 < (l1.length : Int) then (if ((rd_T45 l1 t404).f1) = 2 then ((some (([] : List (S45)) : List (S45))).bind fun y407 => (if y407.length + l1.length < 2513169434916 then ((some (y407 ++ l1 : List (S45))).bind fun y410 => (if t404 < (y410.length : Int) then (culletlaw07_InspectExactly.l0 kj3 l1 t404 (y410.set (t404 : Int).toNat (⟨(rd_T45 y410 t404).f0, (rd_T45 y410 t404).f1, (rd_T45 y410 t404).f2, (rd_T45 y410 t404).f3, (rd_T45 y410 t404).f4, (rd_T45 y410 t404).f5, !((rd_T45 y410 t404).f6)⟩ : S45)) (-1) (l1.length : Int) 0 a0_0 l0_1 l0_2) else (none))) else (none))) else ((culletlaw07_looks.f).bind fun t406 => (some t406))) else (none)) else (none))) = some r := by rw [if_neg (show ¬ (false = true) by decide)] at H; exact H
    clear H
    have H := H1
    clear H1
    replace H := Option.bind_eq_some_iff.mp H
    obtain ⟨t404, A240, H⟩ := H
    replace H : (if 0 ≤ t404 then (if t404 < (l1.length : Int) then (if ((rd_T45 l1 t404).f1) = 2 then ((some (([] : List (S45)) : List (S45))).bind fun y407 => (if y407.length + l1.length < 2513169434916 then ((some (y407 ++ l1 : List (S45))).bind fun y410 => (if t404 < (y410.length : Int) then (culletlaw07_InspectExactly.l0 kj3 l1 t404 (y410.set (t404 : Int).toNat (⟨(rd_T45 y410 t404).f0, (rd_T45 y410 t404).f1, (rd_T45 y410 t404).f2, (rd_T45 y410 t404).f3, (rd_T45 y410 t404).f4, (rd_T45 y410 t404).f5, !((rd_T45 y410 t404).f6)⟩ : S45)) (-1) (l1.length : Int) 0 a0_0 l0_1 l0_2) else (none))) else (none))) else ((culletlaw07_looks.f).bind fun t406 => (some t406))) else (none)) else (none)) = some r := H
    have A24 := Aside0.mk A240
    clear A240
    by_cases c25 : 0 ≤ t404
    ·rw [if_pos c25] at H
     have c25b0 : decide (0 ≤ t404) = true := decide_eq_true c25
     clear c25
     by_cases c26 : t404 < (l1.length : Int)
     ·rw [if_pos c26] at H
      have c26b0 : decide (t404 < (l1.length : Int)) = true := decide_eq_true c26
      clear c26
      by_cases c27 : ((rd_T45 l1 t404).f1) = 2
      ·rw [if_pos c27] at H
       have c27b0 : (((rd_T45 l1 t404).f1) == 2) = true := beq_iff_eq.mpr c27
       have c27b1 : (((rd_T45 l1 t404).f1) != 2) = false := bne_eq_false_iff_eq.mpr c27
       clear c27
       obtain ⟨y407, hy407⟩ : ∃ y_ : List (S45), y_ = (([] : List (S45))) := ⟨_, rfl⟩
       replace H : (if y407.length + l1.length < 2513169434916 then ((some (y407 ++ l1 : List (S45))).bind fun y410 => (if t404 < (y410.length : Int) then (culletlaw07_InspectExactly.l0 kj3 l1 t404 (y410.set (t404 : Int).toNat (⟨(rd_T45 y410 t404).f0, (rd_T45 y410 t404).f1, (rd_T45 y410 t404).f2, (rd_T45 y410 t404).f3, (rd_T45 y410 t404).f4, (rd_T45 y410 t404).f5, !((rd_T45 y410 t404).f6)⟩ : S45)) (-1) (l1.length : Int) 0 a0_0 l0_1 l0_2) else (none))) else (none)) = some r := by first | (rw [hy407]; with_reducible exact H) | (have H2_ := (Option.bind_some _ _).symm.trans H; rw [hy407]; with_reducible exact H2_) | (have H2_ := (Option.bind_some _ _).symm.trans H; with_reducible exact H2_) | with_reducible exact H | (rw [hy407]; exact H) | exact H
       have Ny407 := Aside0.mk hy407
       clear hy407
       by_cases c28 : y407.length + l1.length < 2513169434916
       ·rw [if_pos c28] at H
        have LMc28 := Aside0.mk c28
        clear c28
        obtain ⟨y410, hy410⟩ : ∃ y_ : List (S45), y_ = (y407 ++ l1) := ⟨_, rfl⟩
        replace H : (if t404 < (y410.length : Int) then (culletlaw07_InspectExactly.l0 kj3 l1 t404 (y410.set (t404 : Int).toNat (⟨(rd_T45 y410 t404).f0, (rd_T45 y410 t404).f1, (rd_T45 y410 t404).f2, (rd_T45 y410 t404).f3, (rd_T45 y410 t404).f4, (rd_T45 y410 t404).f5, !((rd_T45 y410 t404).f6)⟩ : S45)) (-1) (l1.length : Int) 0 a0_0 l0_1 l0_2) else (none)) = some r := by first | (rw [hy410]; with_reducible exact H) | (have H2_ := (Option.bind_some _ _).symm.trans H; rw [hy410]; with_reducible exact H2_) | (have H2_ := (Option.bind_some _ _).symm.trans H; with_reducible exact H2_) | with_reducible exact H | (rw [hy410]; exact H) | exact H
        have Ny410 := Aside0.mk hy410
        clear hy410
        by_cases c29 : t404 < (y410.length : Int)
        ·rw [if_pos c29] at H
         have c29b0 : decide (t404 < (y410.length : Int)) = true := decide_eq_true c29
         clear c29
         obtain ⟨y414, hy414⟩ : ∃ y_ : List (S45), y_ = (y410.set (t404 : Int).toNat (⟨(rd_T45 y410 t404).f0, (rd_T45 y410 t404).f1, (rd_T45 y410 t404).f2, (rd_T45 y410 t404).f3, (rd_T45 y410 t404).f4, (rd_T45 y410 t404).f5, !((rd_T45 y410 t404).f6)⟩ : S45)) := ⟨_, rfl⟩
         replace H : (culletlaw07_InspectExactly.l0 kj3 l1 t404 y414 (-1) (l1.length : Int) 0 a0_0 l0_1 l0_2) = some r := by first | (rw [hy414]; with_reducible exact H) | (have H2_ := (Option.bind_some _ _).symm.trans H; rw [hy414]; with_reducible exact H2_) | (have H2_ := (Option.bind_some _ _).symm.trans H; with_reducible exact H2_) | with_reducible exact H | (rw [hy414]; exact H) | exact H
         have Ny414 := Aside0.mk hy414
         clear hy414
         have H' := Aside0.mk H
         clear H
         go_wp2_with (first | (go_at_call 20; (with_reducible refine (culletlaw07_picked.calls a2 0 (wrap64 ((l1.length : Int) - 1)) t404 _ A24.out).mono ?_); rintro e w' ⟨rfl, ⟨nd, rfl⟩⟩; (try first | exact ⟨rfl, _, World.drewN_drewN _ _ _⟩ | exact ⟨rfl, _, Eq.trans (World.drewN_drewN _ _ _) (congrArg (World.drewN _) (Nat.add_assoc _ _ _))⟩); have p405 : 0 ≤ (t404 : Int) := of_decide_eq_true zq6; have q405 : t404 < (l1.length : Int) := of_decide_eq_true zq6; obtain ⟨ad405, e405, hx405_0, hx405_1, hx405_2, hx405_3, hx405_4, hx405_5, hx405_6⟩ := at_T45 HR1.out t404 p405 q405; cases e405; replace hx405_0 := hcx HB.out hx405_0; replace hx405_1 := hcx HB.out hx405_1; replace hx405_2 := hcx HB.out hx405_2; replace hx405_3 := hcx HB.out hx405_3; replace hx405_4 := hcx HB.out hx405_4; replace hx405_5 := hcx HB.out hx405_5; replace hx405_6 := hcx HB.out hx405_6; replace p405 := eq_true p405; replace q405 := eq_true q405) | ((with_reducible refine gate_dst (N := 51) rfl ?_); (try (refine gate_guard (by rfl) ?_; dsimp only)); refine Kd.R_lit k45 _ 45 ?hg (N := 51) ?hd (xs := ([] : List (S45))) (inner := []) (ok := fun _ => True) (okp := fun _ => True) ?hr ?hp (fun _ hk => hk) trivial (Below.refl _ _) (Nat.le_refl _) zq53 ?_; (case hd => rfl); (case hg => rfl); (case hr => exact zq14); (case hp => exact (Reps.none _ _)); intro v408 w31 ho32 hb hg_ hnew_; clear hg_ hnew_; (first | rw [← Ny407.out] at ho32 | (simp only [Int.reduceToNat] at ho32; rw [← Ny407.out] at ho32)); have n_ := as3 (Kd.R_lower ho32 (below_size zq2)) (blk_below (zq0 BK400.out) hb) (below_step zq2 hb); clear BK400 HB; obtain ⟨HO409, BK400, HB⟩ := n_; clear hb ho32) | ((with_reducible refine gate_builtin (b := .append) (xs := #[.tmp 51, .tmp 52]) rfl ?_); (try (refine gate_guard (by rfl) ?_; dsimp only)); at_builtin; refine Kd.R_append_rows k45 (w0 := w) w.heap.size rfl (.tmp 51) (.tmp 52) 26 45 (.agg #[(.int .i64 0), (.int .u8 0), (.int .i64 0), (.int .i64 0), (.int .i64 0), (.int .i64 0), (.bool false)]) 56 rfl Try.underlying26 info45 rfl zq52 zq21 v408 y407 l1 _ _ _ (fun _ => True) (fun _ => False) rfl rfl ?aO ?aR (fun _ _ h => h) (fun _ h => h.elim) ?aF ?aB ?aS ?aL ?_; (case aR => exact zq8); (case aB => exact zq2); (case aF => exact (fun _ _ => trivial)); (case aO => exact (zq1 HO409.out)); (case aS => exact (below_size zq2)); (case aL => have := LMc28.out; omega); intro v411 w33 ho hb hg hat; rw [← Ny410.out] at ho; have n_ := as3 (blk_grown (zq0 BK400.out) hg (Kd.R_ne HO409.out BK400.out zq52)) (hb) (ho); clear BK400 HB HO409; obtain ⟨BK400, HB, HO412⟩ := n_; clear ho hb hg hat; obtain ⟨Ao34, co34, eo34⟩ := Kd.R_slice HO412.out; subst eo34; have p413 : 0 ≤ (t404 : Int) := of_decide_eq_true zq6; have q413 : t404 < (y410.length : Int) := of_decide_eq_true zq6; obtain ⟨ad413, e413, hx413_0, hx413_1, hx413_2, hx413_3, hx413_4, hx413_5, hx413_6⟩ := at_T45 (Kd.R_reads' HO412.out).2.2 t404 p413 q413; cases e413; replace p413 := eq_true p413; replace q413 := eq_true q413; have p30 : 0 ≤ (t404 : Int) := of_decide_eq_true zq6; have q30 : (t404 : Int) < ((y410.length : Int) : Int) := of_decide_eq_true zq6; obtain ⟨go30, co30, eo30, gb30, gl30, cl30, HG30⟩ := Kd.R_form HO412.out zq21; (first | cases eo30 | (injection eo30 with ea_ en_ ec_; (first | subst ea_ | (injection ea_ with ea_; subst ea_)); subst ec_; clear en_)); have GB30 := Aside0.mk gb30; have GG30 := Aside0.mk HG30; clear gb30 gl30 HG30; (first | simp only [add_plain] at hx413_0 | skip); (first | simp only [add_plain] at hx413_1 | skip); (first | simp only [add_plain] at hx413_2 | skip); (first | simp only [add_plain] at hx413_3 | skip); (first | simp only [add_plain] at hx413_4 | skip); (first | simp only [add_plain] at hx413_5 | skip); (first | simp only [add_plain] at hx413_6 | skip); obtain ⟨ce30, hcl30, hM30, hcc30, hfr30⟩ := Kd.R_elem HO412.out z45 (t404 : Int) p30 q30; obtain rfl := k45_openM hM30; have hx30_0 : w33.cell? ⟨go30, (t404 : Int).toNat * 7, none⟩ = some (.int .i64 ((rd_T45 y410 t404).f0)) := hcc30 0 _ rfl; have hx30_1 : w33.cell? ⟨go30, (t404 : Int).toNat * 7 + 1, none⟩ = some (.int .u8 ((rd_T45 y410 t404).f1)) := hcc30 1 _ rfl; have hx30_2 : w33.cell? ⟨go30, (t404 : Int).toNat * 7 + 2, none⟩ = some (.int .i64 ((rd_T45 y410 t404).f2)) := hcc30 2 _ rfl; have hx30_3 : w33.cell? ⟨go30, (t404 : Int).toNat * 7 + 3, none⟩ = some (.int .i64 ((rd_T45 y410 t404).f3)) := hcc30 3 _ rfl; have hx30_4 : w33.cell? ⟨go30, (t404 : Int).toNat * 7 + 4, none⟩ = some (.int .i64 ((rd_T45 y410 t404).f4)) := hcc30 4 _ rfl; have hx30_5 : w33.cell? ⟨go30, (t404 : Int).toNat * 7 + 5, none⟩ = some (.int .i64 ((rd_T45 y410 t404).f5)) := hcc30 5 _ rfl; have hx30_6 : w33.cell? ⟨go30, (t404 : Int).toNat * 7 + 6, none⟩ = some (.bool ((rd_T45 y410 t404).f6)) := hcc30 6 _ rfl; have hf30_0 : w33.frozen? ⟨go30, (t404 : Int).toNat * 7, none⟩ = false := hfr30 0; have hf30_1 : w33.frozen? ⟨go30, (t404 : Int).toNat * 7 + 1, none⟩ = false := hfr30 1; have hf30_2 : w33.frozen? ⟨go30, (t404 : Int).toNat * 7 + 2, none⟩ = false := hfr30 2; have hf30_3 : w33.frozen? ⟨go30, (t404 : Int).toNat * 7 + 3, none⟩ = false := hfr30 3; have hf30_4 : w33.frozen? ⟨go30, (t404 : Int).toNat * 7 + 4, none⟩ = false := hfr30 4; have hf30_5 : w33.frozen? ⟨go30, (t404 : Int).toNat * 7 + 5, none⟩ = false := hfr30 5; have hf30_6 : w33.frozen? ⟨go30, (t404 : Int).toNat * 7 + 6, none⟩ = false := hfr30 6; clear hcl30 hcc30 hfr30 hM30; replace p30 := eq_true p30; replace q30 := eq_true q30; have HX35 := Aside0.mk (show Kd.R k45 45 w33 w.heap.size (fun _ => True) (.slice (some ⟨go30, 0, none⟩) y410.length co34) y410 from (zq1 HO412.out)); obtain ⟨ce35, hcl35, hM35, hcc35, hfr35⟩ := Kd.R_elem HX35.out z45 (t404 : Int) (of_decide_eq_true zq6) (by have h_ : (t404 : Int) < ((y410.length : Int) : Int) := of_decide_eq_true zq6; first | exact h_ | (have e_ := (Kd.R_reads' HO412.out).1; omega) | simpa using h_); obtain rfl := k45_openM hM35; have HP35 := Kd.R_seg HX35.out (t404 : Int) (of_decide_eq_true zq6) (by have h_ : (t404 : Int) < ((y410.length : Int) : Int) := of_decide_eq_true zq6; first | exact h_ | (have e_ := (Kd.R_reads' HO412.out).1; omega) | simpa using h_) (seg := [.bool (!((rd_T45 y410 t404).f6))]) (j := 6) hcl35 hcc35 (show 7 ≤ 7 from by decide) (x' := (⟨(rd_T45 y410 t404).f0, (rd_T45 y410 t404).f1, (rd_T45 y410 t404).f2, (rd_T45 y410 t404).f3, (rd_T45 y410 t404).f4, (rd_T45 y410 t404).f5, !((rd_T45 y410 t404).f6)⟩ : S45)) (k45_mkM _ _ _ (⟨(rd_T45 y410 t404).f0, (rd_T45 y410 t404).f1, (rd_T45 y410 t404).f2, (rd_T45 y410 t404).f3, (rd_T45 y410 t404).f4, (rd_T45 y410 t404).f5, !((rd_T45 y410 t404).f6)⟩ : S45) ) (fun _ hk => hk); have hx35_6 := hcc35 6 _ rfl; (try simp only [show (k45).sz = 7 from rfl, Nat.mul_one, Nat.add_zero] at hx35_6); have hf35_6 := hfr35 6; (try simp only [show (k45).sz = 7 from rfl, Nat.mul_one, Nat.add_zero] at hf35_6); clear hcl35 hcc35 hfr35 hM35) | ((with_reducible refine gate_store (t := 4) (p := 63) rfl ?_); (try (rw [drewN_self w33]; generalize hq_ : World.drewN w33 _ = w33; have n_ := as3 (Kd.R_at hq_ HO412.out) (blk_at hq_ BK400.out) (below_at hq_ HB.out); clear hq_ HO412 BK400 HB; obtain ⟨HO412, BK400, HB⟩ := n_; (try (have HX35 := Aside0.mk (show Kd.R k45 45 w33 w.heap.size (fun _ => True) (.slice (some ⟨go30, 0, none⟩) y410.length co34) y410 from (zq1 HO412.out)))); (try (obtain ⟨ce35, hcl35, hM35, hcc35, hfr35⟩ := Kd.R_elem HX35.out z45 (t404 : Int) (of_decide_eq_true zq6) (by have h_ : (t404 : Int) < ((y410.length : Int) : Int) := of_decide_eq_true zq6; first | exact h_ | (have e_ := (Kd.R_reads' HO412.out).1; omega) | simpa using h_))); (try (obtain rfl := k45_openM hM35)); (try (have HP35 := Kd.R_seg HX35.out (t404 : Int) (of_decide_eq_true zq6) (by have h_ : (t404 : Int) < ((y410.length : Int) : Int) := of_decide_eq_true zq6; first | exact h_ | (have e_ := (Kd.R_reads' HO412.out).1; omega) | simpa using h_) (seg := [.bool (!((rd_T45 y410 t404).f6))]) (j := 6) hcl35 hcc35 (show 7 ≤ 7 from by decide) (x' := (⟨(rd_T45 y410 t404).f0, (rd_T45 y410 t404).f1, (rd_T45 y410 t404).f2, (rd_T45 y410 t404).f3, (rd_T45 y410 t404).f4, (rd_T45 y410 t404).f5, !((rd_T45 y410 t404).f6)⟩ : S45)) (k45_mkM _ _ _ (⟨(rd_T45 y410 t404).f0, (rd_T45 y410 t404).f1, (rd_T45 y410 t404).f2, (rd_T45 y410 t404).f3, (rd_T45 y410 t404).f4, (rd_T45 y410 t404).f5, !((rd_T45 y410 t404).f6)⟩ : S45) ) (fun _ hk => hk))); (try (have hx35_6 := hcc35 6 _ rfl)); (try (try simp only [show (k45).sz = 7 from rfl, Nat.mul_one, Nat.add_zero] at hx35_6)); (try (have hf35_6 := hfr35 6)); (try (try simp only [show (k45).sz = 7 from rfl, Nat.mul_one, Nat.add_zero] at hf35_6)); (try (clear hcl35 hcc35 hfr35 hM35)))); refine store_event (t := 4) (p := 63) (v := ?vo_w36) (w1 := (w33.setCell ⟨go30, (t404 : Int).toNat * 7 + 6, none⟩ (.bool (!((rd_T45 y410 t404).f6))))) ?hg ?ho ?hn ?hr ?_; (case ho => rfl); (case hg => rfl); (case hn => rfl); (case hr => exact zq14); intro w36 hw; have hg : w33.grownBy w36 (some go30) := (by rw [hw]; exact HP35.2); have hp_ : Kd.R k45 45 w36 w.heap.size (fun _ => True) (.slice (some ⟨go30, 0, none⟩) y410.length co34) y414 := (by rw [hw, Ny414.out]; exact HP35.1); clear HP35; have n_ := as3 (blk_grown (zq0 BK400.out) hg (Kd.R_ne HO412.out BK400.out zq52)) (hp_) ((by rw [hw]; exact below_set (HB.out) GB30.out : Below w.heap.size w w36)); clear BK400 HO412 HB; obtain ⟨BK400, HO412, HB⟩ := n_; clear hg hw hp_))
         repeat (go_quiet (first | (go_at_call 20; (with_reducible refine (culletlaw07_picked.calls a2 0 (wrap64 ((l1.length : Int) - 1)) t404 _ A24.out).mono ?_); rintro e w' ⟨rfl, ⟨nd, rfl⟩⟩; (try first | exact ⟨rfl, _, World.drewN_drewN _ _ _⟩ | exact ⟨rfl, _, Eq.trans (World.drewN_drewN _ _ _) (congrArg (World.drewN _) (Nat.add_assoc _ _ _))⟩); have p405 : 0 ≤ (t404 : Int) := of_decide_eq_true zq6; have q405 : t404 < (l1.length : Int) := of_decide_eq_true zq6; obtain ⟨ad405, e405, hx405_0, hx405_1, hx405_2, hx405_3, hx405_4, hx405_5, hx405_6⟩ := at_T45 HR1.out t404 p405 q405; cases e405; replace hx405_0 := hcx HB.out hx405_0; replace hx405_1 := hcx HB.out hx405_1; replace hx405_2 := hcx HB.out hx405_2; replace hx405_3 := hcx HB.out hx405_3; replace hx405_4 := hcx HB.out hx405_4; replace hx405_5 := hcx HB.out hx405_5; replace hx405_6 := hcx HB.out hx405_6; replace p405 := eq_true p405; replace q405 := eq_true q405) | ((with_reducible refine gate_dst (N := 51) rfl ?_); (try (refine gate_guard (by rfl) ?_; dsimp only)); refine Kd.R_lit k45 _ 45 ?hg (N := 51) ?hd (xs := ([] : List (S45))) (inner := []) (ok := fun _ => True) (okp := fun _ => True) ?hr ?hp (fun _ hk => hk) trivial (Below.refl _ _) (Nat.le_refl _) zq53 ?_; (case hd => rfl); (case hg => rfl); (case hr => exact zq14); (case hp => exact (Reps.none _ _)); intro v408 w31 ho32 hb hg_ hnew_; clear hg_ hnew_; (first | rw [← Ny407.out] at ho32 | (simp only [Int.reduceToNat] at ho32; rw [← Ny407.out] at ho32)); have n_ := as3 (Kd.R_lower ho32 (below_size zq2)) (blk_below (zq0 BK400.out) hb) (below_step zq2 hb); clear BK400 HB; obtain ⟨HO409, BK400, HB⟩ := n_; clear hb ho32) | ((with_reducible refine gate_builtin (b := .append) (xs := #[.tmp 51, .tmp 52]) rfl ?_); (try (refine gate_guard (by rfl) ?_; dsimp only)); at_builtin; refine Kd.R_append_rows k45 (w0 := w) w.heap.size rfl (.tmp 51) (.tmp 52) 26 45 (.agg #[(.int .i64 0), (.int .u8 0), (.int .i64 0), (.int .i64 0), (.int .i64 0), (.int .i64 0), (.bool false)]) 56 rfl Try.underlying26 info45 rfl zq52 zq21 v408 y407 l1 _ _ _ (fun _ => True) (fun _ => False) rfl rfl ?aO ?aR (fun _ _ h => h) (fun _ h => h.elim) ?aF ?aB ?aS ?aL ?_; (case aR => exact zq8); (case aB => exact zq2); (case aF => exact (fun _ _ => trivial)); (case aO => exact (zq1 HO409.out)); (case aS => exact (below_size zq2)); (case aL => have := LMc28.out; omega); intro v411 w33 ho hb hg hat; rw [← Ny410.out] at ho; have n_ := as3 (blk_grown (zq0 BK400.out) hg (Kd.R_ne HO409.out BK400.out zq52)) (hb) (ho); clear BK400 HB HO409; obtain ⟨BK400, HB, HO412⟩ := n_; clear ho hb hg hat; obtain ⟨Ao34, co34, eo34⟩ := Kd.R_slice HO412.out; subst eo34; have p413 : 0 ≤ (t404 : Int) := of_decide_eq_true zq6; have q413 : t404 < (y410.length : Int) := of_decide_eq_true zq6; obtain ⟨ad413, e413, hx413_0, hx413_1, hx413_2, hx413_3, hx413_4, hx413_5, hx413_6⟩ := at_T45 (Kd.R_reads' HO412.out).2.2 t404 p413 q413; cases e413; replace p413 := eq_true p413; replace q413 := eq_true q413; have p30 : 0 ≤ (t404 : Int) := of_decide_eq_true zq6; have q30 : (t404 : Int) < ((y410.length : Int) : Int) := of_decide_eq_true zq6; obtain ⟨go30, co30, eo30, gb30, gl30, cl30, HG30⟩ := Kd.R_form HO412.out zq21; (first | cases eo30 | (injection eo30 with ea_ en_ ec_; (first | subst ea_ | (injection ea_ with ea_; subst ea_)); subst ec_; clear en_)); have GB30 := Aside0.mk gb30; have GG30 := Aside0.mk HG30; clear gb30 gl30 HG30; (first | simp only [add_plain] at hx413_0 | skip); (first | simp only [add_plain] at hx413_1 | skip); (first | simp only [add_plain] at hx413_2 | skip); (first | simp only [add_plain] at hx413_3 | skip); (first | simp only [add_plain] at hx413_4 | skip); (first | simp only [add_plain] at hx413_5 | skip); (first | simp only [add_plain] at hx413_6 | skip); obtain ⟨ce30, hcl30, hM30, hcc30, hfr30⟩ := Kd.R_elem HO412.out z45 (t404 : Int) p30 q30; obtain rfl := k45_openM hM30; have hx30_0 : w33.cell? ⟨go30, (t404 : Int).toNat * 7, none⟩ = some (.int .i64 ((rd_T45 y410 t404).f0)) := hcc30 0 _ rfl; have hx30_1 : w33.cell? ⟨go30, (t404 : Int).toNat * 7 + 1, none⟩ = some (.int .u8 ((rd_T45 y410 t404).f1)) := hcc30 1 _ rfl; have hx30_2 : w33.cell? ⟨go30, (t404 : Int).toNat * 7 + 2, none⟩ = some (.int .i64 ((rd_T45 y410 t404).f2)) := hcc30 2 _ rfl; have hx30_3 : w33.cell? ⟨go30, (t404 : Int).toNat * 7 + 3, none⟩ = some (.int .i64 ((rd_T45 y410 t404).f3)) := hcc30 3 _ rfl; have hx30_4 : w33.cell? ⟨go30, (t404 : Int).toNat * 7 + 4, none⟩ = some (.int .i64 ((rd_T45 y410 t404).f4)) := hcc30 4 _ rfl; have hx30_5 : w33.cell? ⟨go30, (t404 : Int).toNat * 7 + 5, none⟩ = some (.int .i64 ((rd_T45 y410 t404).f5)) := hcc30 5 _ rfl; have hx30_6 : w33.cell? ⟨go30, (t404 : Int).toNat * 7 + 6, none⟩ = some (.bool ((rd_T45 y410 t404).f6)) := hcc30 6 _ rfl; have hf30_0 : w33.frozen? ⟨go30, (t404 : Int).toNat * 7, none⟩ = false := hfr30 0; have hf30_1 : w33.frozen? ⟨go30, (t404 : Int).toNat * 7 + 1, none⟩ = false := hfr30 1; have hf30_2 : w33.frozen? ⟨go30, (t404 : Int).toNat * 7 + 2, none⟩ = false := hfr30 2; have hf30_3 : w33.frozen? ⟨go30, (t404 : Int).toNat * 7 + 3, none⟩ = false := hfr30 3; have hf30_4 : w33.frozen? ⟨go30, (t404 : Int).toNat * 7 + 4, none⟩ = false := hfr30 4; have hf30_5 : w33.frozen? ⟨go30, (t404 : Int).toNat * 7 + 5, none⟩ = false := hfr30 5; have hf30_6 : w33.frozen? ⟨go30, (t404 : Int).toNat * 7 + 6, none⟩ = false := hfr30 6; clear hcl30 hcc30 hfr30 hM30; replace p30 := eq_true p30; replace q30 := eq_true q30; have HX35 := Aside0.mk (show Kd.R k45 45 w33 w.heap.size (fun _ => True) (.slice (some ⟨go30, 0, none⟩) y410.length co34) y410 from (zq1 HO412.out)); obtain ⟨ce35, hcl35, hM35, hcc35, hfr35⟩ := Kd.R_elem HX35.out z45 (t404 : Int) (of_decide_eq_true zq6) (by have h_ : (t404 : Int) < ((y410.length : Int) : Int) := of_decide_eq_true zq6; first | exact h_ | (have e_ := (Kd.R_reads' HO412.out).1; omega) | simpa using h_); obtain rfl := k45_openM hM35; have HP35 := Kd.R_seg HX35.out (t404 : Int) (of_decide_eq_true zq6) (by have h_ : (t404 : Int) < ((y410.length : Int) : Int) := of_decide_eq_true zq6; first | exact h_ | (have e_ := (Kd.R_reads' HO412.out).1; omega) | simpa using h_) (seg := [.bool (!((rd_T45 y410 t404).f6))]) (j := 6) hcl35 hcc35 (show 7 ≤ 7 from by decide) (x' := (⟨(rd_T45 y410 t404).f0, (rd_T45 y410 t404).f1, (rd_T45 y410 t404).f2, (rd_T45 y410 t404).f3, (rd_T45 y410 t404).f4, (rd_T45 y410 t404).f5, !((rd_T45 y410 t404).f6)⟩ : S45)) (k45_mkM _ _ _ (⟨(rd_T45 y410 t404).f0, (rd_T45 y410 t404).f1, (rd_T45 y410 t404).f2, (rd_T45 y410 t404).f3, (rd_T45 y410 t404).f4, (rd_T45 y410 t404).f5, !((rd_T45 y410 t404).f6)⟩ : S45) ) (fun _ hk => hk); have hx35_6 := hcc35 6 _ rfl; (try simp only [show (k45).sz = 7 from rfl, Nat.mul_one, Nat.add_zero] at hx35_6); have hf35_6 := hfr35 6; (try simp only [show (k45).sz = 7 from rfl, Nat.mul_one, Nat.add_zero] at hf35_6); clear hcl35 hcc35 hfr35 hM35) | ((with_reducible refine gate_store (t := 4) (p := 63) rfl ?_); (try (rw [drewN_self w33]; generalize hq_ : World.drewN w33 _ = w33; have n_ := as3 (Kd.R_at hq_ HO412.out) (blk_at hq_ BK400.out) (below_at hq_ HB.out); clear hq_ HO412 BK400 HB; obtain ⟨HO412, BK400, HB⟩ := n_; (try (have HX35 := Aside0.mk (show Kd.R k45 45 w33 w.heap.size (fun _ => True) (.slice (some ⟨go30, 0, none⟩) y410.length co34) y410 from (zq1 HO412.out)))); (try (obtain ⟨ce35, hcl35, hM35, hcc35, hfr35⟩ := Kd.R_elem HX35.out z45 (t404 : Int) (of_decide_eq_true zq6) (by have h_ : (t404 : Int) < ((y410.length : Int) : Int) := of_decide_eq_true zq6; first | exact h_ | (have e_ := (Kd.R_reads' HO412.out).1; omega) | simpa using h_))); (try (obtain rfl := k45_openM hM35)); (try (have HP35 := Kd.R_seg HX35.out (t404 : Int) (of_decide_eq_true zq6) (by have h_ : (t404 : Int) < ((y410.length : Int) : Int) := of_decide_eq_true zq6; first | exact h_ | (have e_ := (Kd.R_reads' HO412.out).1; omega) | simpa using h_) (seg := [.bool (!((rd_T45 y410 t404).f6))]) (j := 6) hcl35 hcc35 (show 7 ≤ 7 from by decide) (x' := (⟨(rd_T45 y410 t404).f0, (rd_T45 y410 t404).f1, (rd_T45 y410 t404).f2, (rd_T45 y410 t404).f3, (rd_T45 y410 t404).f4, (rd_T45 y410 t404).f5, !((rd_T45 y410 t404).f6)⟩ : S45)) (k45_mkM _ _ _ (⟨(rd_T45 y410 t404).f0, (rd_T45 y410 t404).f1, (rd_T45 y410 t404).f2, (rd_T45 y410 t404).f3, (rd_T45 y410 t404).f4, (rd_T45 y410 t404).f5, !((rd_T45 y410 t404).f6)⟩ : S45) ) (fun _ hk => hk))); (try (have hx35_6 := hcc35 6 _ rfl)); (try (try simp only [show (k45).sz = 7 from rfl, Nat.mul_one, Nat.add_zero] at hx35_6)); (try (have hf35_6 := hfr35 6)); (try (try simp only [show (k45).sz = 7 from rfl, Nat.mul_one, Nat.add_zero] at hf35_6)); (try (clear hcl35 hcc35 hfr35 hM35)))); refine store_event (t := 4) (p := 63) (v := ?vo_w36) (w1 := (w33.setCell ⟨go30, (t404 : Int).toNat * 7 + 6, none⟩ (.bool (!((rd_T45 y410 t404).f6))))) ?hg ?ho ?hn ?hr ?_; (case ho => rfl); (case hg => rfl); (case hn => rfl); (case hr => exact zq14); intro w36 hw; have hg : w33.grownBy w36 (some go30) := (by rw [hw]; exact HP35.2); have hp_ : Kd.R k45 45 w36 w.heap.size (fun _ => True) (.slice (some ⟨go30, 0, none⟩) y410.length co34) y414 := (by rw [hw, Ny414.out]; exact HP35.1); clear HP35; have n_ := as3 (blk_grown (zq0 BK400.out) hg (Kd.R_ne HO412.out BK400.out zq52)) (hp_) ((by rw [hw]; exact below_set (HB.out) GB30.out : Below w.heap.size w w36)); clear BK400 HO412 HB; obtain ⟨BK400, HO412, HB⟩ := n_; clear hg hw hp_)); try go_wp2_with (first | (go_at_call 20; (with_reducible refine (culletlaw07_picked.calls a2 0 (wrap64 ((l1.length : Int) - 1)) t404 _ A24.out).mono ?_); rintro e w' ⟨rfl, ⟨nd, rfl⟩⟩; (try first | exact ⟨rfl, _, World.drewN_drewN _ _ _⟩ | exact ⟨rfl, _, Eq.trans (World.drewN_drewN _ _ _) (congrArg (World.drewN _) (Nat.add_assoc _ _ _))⟩); have p405 : 0 ≤ (t404 : Int) := of_decide_eq_true zq6; have q405 : t404 < (l1.length : Int) := of_decide_eq_true zq6; obtain ⟨ad405, e405, hx405_0, hx405_1, hx405_2, hx405_3, hx405_4, hx405_5, hx405_6⟩ := at_T45 HR1.out t404 p405 q405; cases e405; replace hx405_0 := hcx HB.out hx405_0; replace hx405_1 := hcx HB.out hx405_1; replace hx405_2 := hcx HB.out hx405_2; replace hx405_3 := hcx HB.out hx405_3; replace hx405_4 := hcx HB.out hx405_4; replace hx405_5 := hcx HB.out hx405_5; replace hx405_6 := hcx HB.out hx405_6; replace p405 := eq_true p405; replace q405 := eq_true q405) | ((with_reducible refine gate_dst (N := 51) rfl ?_); (try (refine gate_guard (by rfl) ?_; dsimp only)); refine Kd.R_lit k45 _ 45 ?hg (N := 51) ?hd (xs := ([] : List (S45))) (inner := []) (ok := fun _ => True) (okp := fun _ => True) ?hr ?hp (fun _ hk => hk) trivial (Below.refl _ _) (Nat.le_refl _) zq53 ?_; (case hd => rfl); (case hg => rfl); (case hr => exact zq14); (case hp => exact (Reps.none _ _)); intro v408 w31 ho32 hb hg_ hnew_; clear hg_ hnew_; (first | rw [← Ny407.out] at ho32 | (simp only [Int.reduceToNat] at ho32; rw [← Ny407.out] at ho32)); have n_ := as3 (Kd.R_lower ho32 (below_size zq2)) (blk_below (zq0 BK400.out) hb) (below_step zq2 hb); clear BK400 HB; obtain ⟨HO409, BK400, HB⟩ := n_; clear hb ho32) | ((with_reducible refine gate_builtin (b := .append) (xs := #[.tmp 51, .tmp 52]) rfl ?_); (try (refine gate_guard (by rfl) ?_; dsimp only)); at_builtin; refine Kd.R_append_rows k45 (w0 := w) w.heap.size rfl (.tmp 51) (.tmp 52) 26 45 (.agg #[(.int .i64 0), (.int .u8 0), (.int .i64 0), (.int .i64 0), (.int .i64 0), (.int .i64 0), (.bool false)]) 56 rfl Try.underlying26 info45 rfl zq52 zq21 v408 y407 l1 _ _ _ (fun _ => True) (fun _ => False) rfl rfl ?aO ?aR (fun _ _ h => h) (fun _ h => h.elim) ?aF ?aB ?aS ?aL ?_; (case aR => exact zq8); (case aB => exact zq2); (case aF => exact (fun _ _ => trivial)); (case aO => exact (zq1 HO409.out)); (case aS => exact (below_size zq2)); (case aL => have := LMc28.out; omega); intro v411 w33 ho hb hg hat; rw [← Ny410.out] at ho; have n_ := as3 (blk_grown (zq0 BK400.out) hg (Kd.R_ne HO409.out BK400.out zq52)) (hb) (ho); clear BK400 HB HO409; obtain ⟨BK400, HB, HO412⟩ := n_; clear ho hb hg hat; obtain ⟨Ao34, co34, eo34⟩ := Kd.R_slice HO412.out; subst eo34; have p413 : 0 ≤ (t404 : Int) := of_decide_eq_true zq6; have q413 : t404 < (y410.length : Int) := of_decide_eq_true zq6; obtain ⟨ad413, e413, hx413_0, hx413_1, hx413_2, hx413_3, hx413_4, hx413_5, hx413_6⟩ := at_T45 (Kd.R_reads' HO412.out).2.2 t404 p413 q413; cases e413; replace p413 := eq_true p413; replace q413 := eq_true q413; have p30 : 0 ≤ (t404 : Int) := of_decide_eq_true zq6; have q30 : (t404 : Int) < ((y410.length : Int) : Int) := of_decide_eq_true zq6; obtain ⟨go30, co30, eo30, gb30, gl30, cl30, HG30⟩ := Kd.R_form HO412.out zq21; (first | cases eo30 | (injection eo30 with ea_ en_ ec_; (first | subst ea_ | (injection ea_ with ea_; subst ea_)); subst ec_; clear en_)); have GB30 := Aside0.mk gb30; have GG30 := Aside0.mk HG30; clear gb30 gl30 HG30; (first | simp only [add_plain] at hx413_0 | skip); (first | simp only [add_plain] at hx413_1 | skip); (first | simp only [add_plain] at hx413_2 | skip); (first | simp only [add_plain] at hx413_3 | skip); (first | simp only [add_plain] at hx413_4 | skip); (first | simp only [add_plain] at hx413_5 | skip); (first | simp only [add_plain] at hx413_6 | skip); obtain ⟨ce30, hcl30, hM30, hcc30, hfr30⟩ := Kd.R_elem HO412.out z45 (t404 : Int) p30 q30; obtain rfl := k45_openM hM30; have hx30_0 : w33.cell? ⟨go30, (t404 : Int).toNat * 7, none⟩ = some (.int .i64 ((rd_T45 y410 t404).f0)) := hcc30 0 _ rfl; have hx30_1 : w33.cell? ⟨go30, (t404 : Int).toNat * 7 + 1, none⟩ = some (.int .u8 ((rd_T45 y410 t404).f1)) := hcc30 1 _ rfl; have hx30_2 : w33.cell? ⟨go30, (t404 : Int).toNat * 7 + 2, none⟩ = some (.int .i64 ((rd_T45 y410 t404).f2)) := hcc30 2 _ rfl; have hx30_3 : w33.cell? ⟨go30, (t404 : Int).toNat * 7 + 3, none⟩ = some (.int .i64 ((rd_T45 y410 t404).f3)) := hcc30 3 _ rfl; have hx30_4 : w33.cell? ⟨go30, (t404 : Int).toNat * 7 + 4, none⟩ = some (.int .i64 ((rd_T45 y410 t404).f4)) := hcc30 4 _ rfl; have hx30_5 : w33.cell? ⟨go30, (t404 : Int).toNat * 7 + 5, none⟩ = some (.int .i64 ((rd_T45 y410 t404).f5)) := hcc30 5 _ rfl; have hx30_6 : w33.cell? ⟨go30, (t404 : Int).toNat * 7 + 6, none⟩ = some (.bool ((rd_T45 y410 t404).f6)) := hcc30 6 _ rfl; have hf30_0 : w33.frozen? ⟨go30, (t404 : Int).toNat * 7, none⟩ = false := hfr30 0; have hf30_1 : w33.frozen? ⟨go30, (t404 : Int).toNat * 7 + 1, none⟩ = false := hfr30 1; have hf30_2 : w33.frozen? ⟨go30, (t404 : Int).toNat * 7 + 2, none⟩ = false := hfr30 2; have hf30_3 : w33.frozen? ⟨go30, (t404 : Int).toNat * 7 + 3, none⟩ = false := hfr30 3; have hf30_4 : w33.frozen? ⟨go30, (t404 : Int).toNat * 7 + 4, none⟩ = false := hfr30 4; have hf30_5 : w33.frozen? ⟨go30, (t404 : Int).toNat * 7 + 5, none⟩ = false := hfr30 5; have hf30_6 : w33.frozen? ⟨go30, (t404 : Int).toNat * 7 + 6, none⟩ = false := hfr30 6; clear hcl30 hcc30 hfr30 hM30; replace p30 := eq_true p30; replace q30 := eq_true q30; have HX35 := Aside0.mk (show Kd.R k45 45 w33 w.heap.size (fun _ => True) (.slice (some ⟨go30, 0, none⟩) y410.length co34) y410 from (zq1 HO412.out)); obtain ⟨ce35, hcl35, hM35, hcc35, hfr35⟩ := Kd.R_elem HX35.out z45 (t404 : Int) (of_decide_eq_true zq6) (by have h_ : (t404 : Int) < ((y410.length : Int) : Int) := of_decide_eq_true zq6; first | exact h_ | (have e_ := (Kd.R_reads' HO412.out).1; omega) | simpa using h_); obtain rfl := k45_openM hM35; have HP35 := Kd.R_seg HX35.out (t404 : Int) (of_decide_eq_true zq6) (by have h_ : (t404 : Int) < ((y410.length : Int) : Int) := of_decide_eq_true zq6; first | exact h_ | (have e_ := (Kd.R_reads' HO412.out).1; omega) | simpa using h_) (seg := [.bool (!((rd_T45 y410 t404).f6))]) (j := 6) hcl35 hcc35 (show 7 ≤ 7 from by decide) (x' := (⟨(rd_T45 y410 t404).f0, (rd_T45 y410 t404).f1, (rd_T45 y410 t404).f2, (rd_T45 y410 t404).f3, (rd_T45 y410 t404).f4, (rd_T45 y410 t404).f5, !((rd_T45 y410 t404).f6)⟩ : S45)) (k45_mkM _ _ _ (⟨(rd_T45 y410 t404).f0, (rd_T45 y410 t404).f1, (rd_T45 y410 t404).f2, (rd_T45 y410 t404).f3, (rd_T45 y410 t404).f4, (rd_T45 y410 t404).f5, !((rd_T45 y410 t404).f6)⟩ : S45) ) (fun _ hk => hk); have hx35_6 := hcc35 6 _ rfl; (try simp only [show (k45).sz = 7 from rfl, Nat.mul_one, Nat.add_zero] at hx35_6); have hf35_6 := hfr35 6; (try simp only [show (k45).sz = 7 from rfl, Nat.mul_one, Nat.add_zero] at hf35_6); clear hcl35 hcc35 hfr35 hM35) | ((with_reducible refine gate_store (t := 4) (p := 63) rfl ?_); (try (rw [drewN_self w33]; generalize hq_ : World.drewN w33 _ = w33; have n_ := as3 (Kd.R_at hq_ HO412.out) (blk_at hq_ BK400.out) (below_at hq_ HB.out); clear hq_ HO412 BK400 HB; obtain ⟨HO412, BK400, HB⟩ := n_; (try (have HX35 := Aside0.mk (show Kd.R k45 45 w33 w.heap.size (fun _ => True) (.slice (some ⟨go30, 0, none⟩) y410.length co34) y410 from (zq1 HO412.out)))); (try (obtain ⟨ce35, hcl35, hM35, hcc35, hfr35⟩ := Kd.R_elem HX35.out z45 (t404 : Int) (of_decide_eq_true zq6) (by have h_ : (t404 : Int) < ((y410.length : Int) : Int) := of_decide_eq_true zq6; first | exact h_ | (have e_ := (Kd.R_reads' HO412.out).1; omega) | simpa using h_))); (try (obtain rfl := k45_openM hM35)); (try (have HP35 := Kd.R_seg HX35.out (t404 : Int) (of_decide_eq_true zq6) (by have h_ : (t404 : Int) < ((y410.length : Int) : Int) := of_decide_eq_true zq6; first | exact h_ | (have e_ := (Kd.R_reads' HO412.out).1; omega) | simpa using h_) (seg := [.bool (!((rd_T45 y410 t404).f6))]) (j := 6) hcl35 hcc35 (show 7 ≤ 7 from by decide) (x' := (⟨(rd_T45 y410 t404).f0, (rd_T45 y410 t404).f1, (rd_T45 y410 t404).f2, (rd_T45 y410 t404).f3, (rd_T45 y410 t404).f4, (rd_T45 y410 t404).f5, !((rd_T45 y410 t404).f6)⟩ : S45)) (k45_mkM _ _ _ (⟨(rd_T45 y410 t404).f0, (rd_T45 y410 t404).f1, (rd_T45 y410 t404).f2, (rd_T45 y410 t404).f3, (rd_T45 y410 t404).f4, (rd_T45 y410 t404).f5, !((rd_T45 y410 t404).f6)⟩ : S45) ) (fun _ hk => hk))); (try (have hx35_6 := hcc35 6 _ rfl)); (try (try simp only [show (k45).sz = 7 from rfl, Nat.mul_one, Nat.add_zero] at hx35_6)); (try (have hf35_6 := hfr35 6)); (try (try simp only [show (k45).sz = 7 from rfl, Nat.mul_one, Nat.add_zero] at hf35_6)); (try (clear hcl35 hcc35 hfr35 hM35)))); refine store_event (t := 4) (p := 63) (v := ?vo_w36) (w1 := (w33.setCell ⟨go30, (t404 : Int).toNat * 7 + 6, none⟩ (.bool (!((rd_T45 y410 t404).f6))))) ?hg ?ho ?hn ?hr ?_; (case ho => rfl); (case hg => rfl); (case hn => rfl); (case hr => exact zq14); intro w36 hw; have hg : w33.grownBy w36 (some go30) := (by rw [hw]; exact HP35.2); have hp_ : Kd.R k45 45 w36 w.heap.size (fun _ => True) (.slice (some ⟨go30, 0, none⟩) y410.length co34) y414 := (by rw [hw, Ny414.out]; exact HP35.1); clear HP35; have n_ := as3 (blk_grown (zq0 BK400.out) hg (Kd.R_ne HO412.out BK400.out zq52)) (hp_) ((by rw [hw]; exact below_set (HB.out) GB30.out : Below w.heap.size w w36)); clear BK400 HO412 HB; obtain ⟨BK400, HO412, HB⟩ := n_; clear hg hw hp_)))
         go_loopg [9, 10, 11] kj3 (fun kq v9 v10 v11 w' => ∃ (x9_2 : Int) (x10_2 : Int) (x11_2 : Int), v9 = .int .i64 x9_2 ∧ v10 = .int .i64 x10_2 ∧ v11 = .int .i64 x11_2 ∧ Aside0 (culletlaw07_InspectExactly.l0 kq l1 t404 y414 x9_2 x10_2 x11_2 a0_0 l0_1 l0_2 = some r) ∧ Aside0 (kq ≤ kj3) ∧ Aside0 (Kd.R k45 45 w' w.heap.size (fun _ => True) (.slice (some ⟨go30, 0, none⟩) y410.length co34) y414) ∧ Aside0 (w'.heap[gb400]? = some (.cells #[.int .i64 a0_0, (.slice A0_1 l0_1.length c0_1), (.slice A0_2 l0_2.length c0_2)] 25 (0, 0))) ∧ Aside0 (Below w.heap.size w w'))
         case atStart => exact ⟨((-1)), ((l1.length : Int)), (0), zq12, zq12, zq12, H', ⟨Nat.le_refl _⟩, ⟨(zq1 HO412.out)⟩, ⟨(zq0 BK400.out)⟩, ⟨zq2⟩⟩
         case round =>
          clear H'
          try clear c1
          try clear c2
          try clear p2 p2
          try clear c3
          try clear p3
          try clear q3
          try clear hx3
          try clear hf3
          try clear c4
          try clear p4
          try clear q4
          try clear hx4
          try clear p6
          try clear c7
          try clear c10
          try clear c10b0
          try clear c10b1
          try clear c10b2
          try clear c13
          try clear c13b0
          try clear c13b1
          try clear c21
          try clear c25
          try clear c25b0
          try clear c26
          try clear c26b0
          try clear c27
          try clear c27b0
          try clear c27b1
          try clear c28
          try clear c29
          try clear c29b0
          try clear c30
          try clear p30 p30
          try clear q30 q30
          try clear hx30
          try clear hf30
          try clear c35
          try clear hx35
          try clear hf35
          try clear hcz11_0 hcz11_1 hcz11_2 hfz11_0 hfz11_1 hfz11_2
          try clear hcz14_0 hcz14_1 hcz14_2 hfz14_0 hfz14_1 hfz14_2
          try clear hcz17_0 hcz17_1 hcz17_2 hfz17_0 hfz17_1 hfz17_2
          try clear hcz19_0 hcz19_1 hcz19_2 hfz19_0 hfz19_1 hfz19_2
          try clear hcz8_0 hcz8_1 hcz8_2 hfz8_0 hfz8_1 hfz8_2
          try clear hx30_0
          try clear hx30_1
          try clear hx30_2
          try clear hx30_3
          try clear hx30_4
          try clear hx30_5
          try clear hx30_6
          try clear hx35_6
          try clear hx405_0
          try clear hx405_1
          try clear hx405_2
          try clear hx405_3
          try clear hx405_4
          try clear hx405_5
          try clear hx405_6
          try clear hx413_0
          try clear hx413_1
          try clear hx413_2
          try clear hx413_3
          try clear hx413_4
          try clear hx413_5
          try clear hx413_6
          try clear p405
          try clear p413
          try clear q405
          try clear q413
          obtain ⟨x9_2, x10_2, x11_2, rfl, rfl, rfl, HA, HK2, HO_8, BK400, HB⟩ := hrel
          have hl8_2 := (Kd.R_reads' HO_8.out).1
          rw [hl8_2] at HO_8
          (try simp only [hl8_2])
          (try simp only [hl8_2] at BK400)
          cases gk with
          | zero => exact absurd HA.out (by simp [culletlaw07_InspectExactly.l0])
          | succ k2 =>
           have H := HA.out
           clear HA
           simp only [culletlaw07_InspectExactly.l0] at H
           by_cases c37 : x11_2 < (l1.length : Int)
           ·rw [if_pos c37] at H
            have c37b0 : decide (x11_2 < (l1.length : Int)) = true := decide_eq_true c37
            clear c37
            have HC38 := Aside0.mk H
            clear H
            go_upto_region 12 with (fail)
            repeat (go_quiet (fail); go_upto_region 12 with (fail))
            go_cut [103] (fun v103 wc => ∃ (kq : Nat) (x103_37 : Bool), v103 = .bool x103_37 ∧ Aside0 (culletlaw07_InspectExactly.j2 kq l1 t404 y414 x9_2 x10_2 x11_2 x103_37 a0_0 l0_1 l0_2 = some r) ∧ Aside0 (kq ≤ k2) ∧ Aside0 (Kd.R k45 45 wc w.heap.size (fun _ => True) (.slice (some ⟨go30, 0, none⟩) y414.length co34) y414) ∧ Aside0 (wc.heap[gb400]? = some (.cells #[.int .i64 a0_0, (.slice A0_1 l0_1.length c0_1), (.slice A0_2 l0_2.length c0_2)] 25 (0, 0))) ∧ Aside0 (Below w.heap.size w wc))
            case first =>
             have H := HC38.out
             clear HC38
             by_cases c39 : 0 ≤ x11_2
             ·rw [if_pos c39] at H
              have c39b0 : decide (0 ≤ x11_2) = true := decide_eq_true c39
              clear c39
              (first | rw [c39b0] | (simp only [i64_w, i32_w]; rw [c39b0]) | skip)
              by_cases c40 : ((rd_T45 l1 x11_2).f1) = 2
              ·rw [if_pos c40] at H
               have c40b0 : (((rd_T45 l1 x11_2).f1) == 2) = true := beq_iff_eq.mpr c40
               have c40b1 : (((rd_T45 l1 x11_2).f1) != 2) = false := bne_eq_false_iff_eq.mpr c40
               clear c40
               by_cases c41 : 0 ≤ t404
               ·rw [if_pos c41] at H
                have c41b0 : decide (0 ≤ t404) = true := decide_eq_true c41
                clear c41
                by_cases c42 : t404 < (l1.length : Int)
                ·rw [if_pos c42] at H
                 have c42b0 : decide (t404 < (l1.length : Int)) = true := decide_eq_true c42
                 clear c42
                 by_cases c43 : ((rd_T45 l1 x11_2).f4) = ((rd_T45 l1 t404).f4)
                 ·rw [if_pos c43] at H
                  have c43b0 : (((rd_T45 l1 x11_2).f4) == ((rd_T45 l1 t404).f4)) = true := beq_iff_eq.mpr c43
                  have c43b1 : (((rd_T45 l1 x11_2).f4) != ((rd_T45 l1 t404).f4)) = false := bne_eq_false_iff_eq.mpr c43
                  clear c43
                  have H' := Aside0.mk H
                  clear H
                  have p415 : 0 ≤ (x11_2 : Int) := of_decide_eq_true zq6
                  have q415 : x11_2 < (l1.length : Int) := of_decide_eq_true zq6
                  obtain ⟨ad415, e415, hx415_0, hx415_1, hx415_2, hx415_3, hx415_4, hx415_5, hx415_6⟩ := at_T45 HR1.out x11_2 p415 q415
                  obtain rfl : ad405 = ad415 := (by injection e415)
                  replace hx415_0 := hcx HB.out hx415_0
                  replace hx415_1 := hcx HB.out hx415_1
                  replace hx415_2 := hcx HB.out hx415_2
                  replace hx415_3 := hcx HB.out hx415_3
                  replace hx415_4 := hcx HB.out hx415_4
                  replace hx415_5 := hcx HB.out hx415_5
                  replace hx415_6 := hcx HB.out hx415_6
                  replace p415 := eq_true p415
                  replace q415 := eq_true q415
                  have p416 : 0 ≤ (x11_2 : Int) := of_decide_eq_true zq6
                  have q416 : x11_2 < (l1.length : Int) := of_decide_eq_true zq6
                  obtain ⟨ad416, e416, hx416_0, hx416_1, hx416_2, hx416_3, hx416_4, hx416_5, hx416_6⟩ := at_T45 HR1.out x11_2 p416 q416
                  obtain rfl : ad405 = ad416 := (by injection e416)
                  replace hx416_0 := hcx HB.out hx416_0
                  replace hx416_1 := hcx HB.out hx416_1
                  replace hx416_2 := hcx HB.out hx416_2
                  replace hx416_3 := hcx HB.out hx416_3
                  replace hx416_4 := hcx HB.out hx416_4
                  replace hx416_5 := hcx HB.out hx416_5
                  replace hx416_6 := hcx HB.out hx416_6
                  replace p416 := eq_true p416
                  replace q416 := eq_true q416
                  have p417 : 0 ≤ (t404 : Int) := of_decide_eq_true zq6
                  have q417 : t404 < (l1.length : Int) := of_decide_eq_true zq6
                  obtain ⟨ad417, e417, hx417_0, hx417_1, hx417_2, hx417_3, hx417_4, hx417_5, hx417_6⟩ := at_T45 HR1.out t404 p417 q417
                  obtain rfl : ad405 = ad417 := (by injection e417)
                  replace hx417_0 := hcx HB.out hx417_0
                  replace hx417_1 := hcx HB.out hx417_1
                  replace hx417_2 := hcx HB.out hx417_2
                  replace hx417_3 := hcx HB.out hx417_3
                  replace hx417_4 := hcx HB.out hx417_4
                  replace hx417_5 := hcx HB.out hx417_5
                  replace hx417_6 := hcx HB.out hx417_6
                  replace p417 := eq_true p417
                  replace q417 := eq_true q417
                  have p418 : 0 ≤ (x11_2 : Int) := of_decide_eq_true zq6
                  have q418 : x11_2 < (l1.length : Int) := of_decide_eq_true zq6
                  obtain ⟨ad418, e418, hx418_0, hx418_1, hx418_2, hx418_3, hx418_4, hx418_5, hx418_6⟩ := at_T45 HR1.out x11_2 p418 q418
                  obtain rfl : ad405 = ad418 := (by injection e418)
                  replace hx418_0 := hcx HB.out hx418_0
                  replace hx418_1 := hcx HB.out hx418_1
                  replace hx418_2 := hcx HB.out hx418_2
                  replace hx418_3 := hcx HB.out hx418_3
                  replace hx418_4 := hcx HB.out hx418_4
                  replace hx418_5 := hcx HB.out hx418_5
                  replace hx418_6 := hcx HB.out hx418_6
                  replace p418 := eq_true p418
                  replace q418 := eq_true q418
                  have p419 : 0 ≤ (t404 : Int) := of_decide_eq_true zq6
                  have q419 : t404 < (l1.length : Int) := of_decide_eq_true zq6
                  obtain ⟨ad419, e419, hx419_0, hx419_1, hx419_2, hx419_3, hx419_4, hx419_5, hx419_6⟩ := at_T45 HR1.out t404 p419 q419
                  obtain rfl : ad405 = ad419 := (by injection e419)
                  replace hx419_0 := hcx HB.out hx419_0
                  replace hx419_1 := hcx HB.out hx419_1
                  replace hx419_2 := hcx HB.out hx419_2
                  replace hx419_3 := hcx HB.out hx419_3
                  replace hx419_4 := hcx HB.out hx419_4
                  replace hx419_5 := hcx HB.out hx419_5
                  replace hx419_6 := hcx HB.out hx419_6
                  replace p419 := eq_true p419
                  replace q419 := eq_true q419
                  go_wp2
                  repeat (go_quiet (fail); try go_wp2)
                  go_meet
                  case rel => exact ⟨_, ((((rd_T45 l1 x11_2).f5) == ((rd_T45 l1 t404).f5))), zq12, H', ⟨zq65⟩, ⟨zq25⟩, ⟨zq24⟩, ⟨zq2⟩⟩
                 ·rw [if_neg c43] at H
                  have c43b0 : (((rd_T45 l1 x11_2).f4) == ((rd_T45 l1 t404).f4)) = false := beq_eq_false_iff_ne.mpr c43
                  have c43b1 : (((rd_T45 l1 x11_2).f4) != ((rd_T45 l1 t404).f4)) = true := bne_iff_ne.mpr c43
                  have H' := Aside0.mk H
                  clear H
                  have p415 : 0 ≤ (x11_2 : Int) := of_decide_eq_true zq6
                  have q415 : x11_2 < (l1.length : Int) := of_decide_eq_true zq6
                  obtain ⟨ad415, e415, hx415_0, hx415_1, hx415_2, hx415_3, hx415_4, hx415_5, hx415_6⟩ := at_T45 HR1.out x11_2 p415 q415
                  obtain rfl : ad405 = ad415 := (by injection e415)
                  replace hx415_0 := hcx HB.out hx415_0
                  replace hx415_1 := hcx HB.out hx415_1
                  replace hx415_2 := hcx HB.out hx415_2
                  replace hx415_3 := hcx HB.out hx415_3
                  replace hx415_4 := hcx HB.out hx415_4
                  replace hx415_5 := hcx HB.out hx415_5
                  replace hx415_6 := hcx HB.out hx415_6
                  replace p415 := eq_true p415
                  replace q415 := eq_true q415
                  have p416 : 0 ≤ (x11_2 : Int) := of_decide_eq_true zq6
                  have q416 : x11_2 < (l1.length : Int) := of_decide_eq_true zq6
                  obtain ⟨ad416, e416, hx416_0, hx416_1, hx416_2, hx416_3, hx416_4, hx416_5, hx416_6⟩ := at_T45 HR1.out x11_2 p416 q416
                  obtain rfl : ad405 = ad416 := (by injection e416)
                  replace hx416_0 := hcx HB.out hx416_0
                  replace hx416_1 := hcx HB.out hx416_1
                  replace hx416_2 := hcx HB.out hx416_2
                  replace hx416_3 := hcx HB.out hx416_3
                  replace hx416_4 := hcx HB.out hx416_4
                  replace hx416_5 := hcx HB.out hx416_5
                  replace hx416_6 := hcx HB.out hx416_6
                  replace p416 := eq_true p416
                  replace q416 := eq_true q416
                  have p417 : 0 ≤ (t404 : Int) := of_decide_eq_true zq6
                  have q417 : t404 < (l1.length : Int) := of_decide_eq_true zq6
                  obtain ⟨ad417, e417, hx417_0, hx417_1, hx417_2, hx417_3, hx417_4, hx417_5, hx417_6⟩ := at_T45 HR1.out t404 p417 q417
                  obtain rfl : ad405 = ad417 := (by injection e417)
                  replace hx417_0 := hcx HB.out hx417_0
                  replace hx417_1 := hcx HB.out hx417_1
                  replace hx417_2 := hcx HB.out hx417_2
                  replace hx417_3 := hcx HB.out hx417_3
                  replace hx417_4 := hcx HB.out hx417_4
                  replace hx417_5 := hcx HB.out hx417_5
                  replace hx417_6 := hcx HB.out hx417_6
                  replace p417 := eq_true p417
                  replace q417 := eq_true q417
                  go_wp2
                  repeat (go_quiet (fail); try go_wp2)
                  go_meet
                  case rel => exact ⟨_, (false), zq12, H', ⟨zq65⟩, ⟨zq25⟩, ⟨zq24⟩, ⟨zq2⟩⟩
                ·rw [if_neg c42] at H
                 exact absurd H zq53
               ·rw [if_neg c41] at H
                exact absurd H zq53
              ·rw [if_neg c40] at H
               have c40b0 : (((rd_T45 l1 x11_2).f1) == 2) = false := beq_eq_false_iff_ne.mpr c40
               have c40b1 : (((rd_T45 l1 x11_2).f1) != 2) = true := bne_iff_ne.mpr c40
               have H' := Aside0.mk H
               clear H
               have p415 : 0 ≤ (x11_2 : Int) := of_decide_eq_true zq6
               have q415 : x11_2 < (l1.length : Int) := of_decide_eq_true zq6
               obtain ⟨ad415, e415, hx415_0, hx415_1, hx415_2, hx415_3, hx415_4, hx415_5, hx415_6⟩ := at_T45 HR1.out x11_2 p415 q415
               obtain rfl : ad405 = ad415 := (by injection e415)
               replace hx415_0 := hcx HB.out hx415_0
               replace hx415_1 := hcx HB.out hx415_1
               replace hx415_2 := hcx HB.out hx415_2
               replace hx415_3 := hcx HB.out hx415_3
               replace hx415_4 := hcx HB.out hx415_4
               replace hx415_5 := hcx HB.out hx415_5
               replace hx415_6 := hcx HB.out hx415_6
               replace p415 := eq_true p415
               replace q415 := eq_true q415
               go_wp2
               repeat (go_quiet (fail); try go_wp2)
               go_meet
               case rel => exact ⟨_, (false), zq12, H', ⟨zq65⟩, ⟨zq25⟩, ⟨zq24⟩, ⟨zq2⟩⟩
             ·rw [if_neg c39] at H
              exact absurd H zq53
            case rest =>
             clear HC38
             try clear c1
             try clear c2
             try clear p2 p2
             try clear c3
             try clear p3 p3
             try clear q3 q3
             try clear hx3
             try clear hf3
             try clear c4
             try clear p4 p4
             try clear q4 q4
             try clear hx4
             try clear p6 p6
             try clear c7
             try clear c10
             try clear c10b0
             try clear c10b1
             try clear c10b2
             try clear c13
             try clear c13b0
             try clear c13b1
             try clear c21
             try clear c25
             try clear c25b0
             try clear c26
             try clear c26b0
             try clear c27
             try clear c27b0
             try clear c27b1
             try clear c28
             try clear c29
             try clear c29b0
             try clear c30
             try clear p30 p30
             try clear q30 q30
             try clear hx30
             try clear hf30
             try clear c35
             try clear hx35
             try clear hf35
             try clear c37
             try clear c37b0
             try clear c39
             try clear c39b0
             try clear c40
             try clear c40b0
             try clear c40b1
             try clear p40
             try clear q40
             try clear hx40
             try clear c41
             try clear c41b0
             try clear p41
             try clear q41
             try clear hx41
             try clear c42
             try clear c42b0
             try clear c43
             try clear c43b0
             try clear c43b1
             try clear hcz11_0 hcz11_1 hcz11_2 hfz11_0 hfz11_1 hfz11_2
             try clear hcz14_0 hcz14_1 hcz14_2 hfz14_0 hfz14_1 hfz14_2
             try clear hcz17_0 hcz17_1 hcz17_2 hfz17_0 hfz17_1 hfz17_2
             try clear hcz19_0 hcz19_1 hcz19_2 hfz19_0 hfz19_1 hfz19_2
             try clear hcz8_0 hcz8_1 hcz8_2 hfz8_0 hfz8_1 hfz8_2
             try clear hx30_0
             try clear hx30_1
             try clear hx30_2
             try clear hx30_3
             try clear hx30_4
             try clear hx30_5
             try clear hx30_6
             try clear hx35_6
             try clear hx405_0
             try clear hx405_1
             try clear hx405_2
             try clear hx405_3
             try clear hx405_4
             try clear hx405_5
             try clear hx405_6
             try clear hx413_0
             try clear hx413_1
             try clear hx413_2
             try clear hx413_3
             try clear hx413_4
             try clear hx413_5
             try clear hx413_6
             try clear hx415_0
             try clear hx415_1
             try clear hx415_2
             try clear hx415_3
             try clear hx415_4
             try clear hx415_5
             try clear hx415_6
             try clear hx416_0
             try clear hx416_1
             try clear hx416_2
             try clear hx416_3
             try clear hx416_4
             try clear hx416_5
             try clear hx416_6
             try clear hx417_0
             try clear hx417_1
             try clear hx417_2
             try clear hx417_3
             try clear hx417_4
             try clear hx417_5
             try clear hx417_6
             try clear hx418_0
             try clear hx418_1
             try clear hx418_2
             try clear hx418_3
             try clear hx418_4
             try clear hx418_5
             try clear hx418_6
             try clear hx419_0
             try clear hx419_1
             try clear hx419_2
             try clear hx419_3
             try clear hx419_4
             try clear hx419_5
             try clear hx419_6
             try clear p405
             try clear p413
             try clear p415
             try clear p416
             try clear p417
             try clear p418
             try clear p419
             try clear q405
             try clear q413
             try clear q415
             try clear q416
             try clear q417
             try clear q418
             try clear q419
             obtain ⟨kq, x103_37, rfl, HA, HJ37, HO_8, BK400, HB⟩ := hcut
             cases kq with
             | zero => exact absurd HA.out (by simp [culletlaw07_InspectExactly.j2])
             | succ kj37 =>
              have H := HA.out
              clear HA
              simp only [culletlaw07_InspectExactly.j2] at H
              by_cases c44 : x103_37 = true
              ·subst c44
               have H1 : (if x11_2 < t404 then (if x11_2 > t404 then (if x10_2 = (l1.length : Int) then (culletlaw07_InspectExactly.l0 kj37 l1 t404 y414 x11_2 x11_2 (wrap64 (x11_2 + 1)) a0_0 l0_1 l0_2) else (culletlaw07_InspectExactly.l0 kj37 l1 t404 y414 x11_2 x10_2 (wrap64 (x11_2 + 1)) a0_0 l0_1 l0_2)) else (culletlaw07_InspectExactly.l0 kj37 l1 t404 y414 x11_2 x10_2 (wrap64 (x11_2 + 1)) a0_0 l0_1 l0_2)) else (if x11_2 > t404 then (if x10_2 = (l1.length : Int) then (culletlaw07_InspectExactly.l0 kj37 l1 t404 y414 x9_2 x11_2 (wrap64 (x11_2 + 1)) a0_0 l0_1 l0_2) else (culletlaw07_InspectExactly.l0 kj37 l1 t404 y414 x9_2 x10_2 (wrap64 (x11_2 + 1)) a0_0 l0_1 l0_2)) else (culletlaw07_InspectExactly.l0 kj37 l1 t404 y414 x9_2 x10_2 (wrap64 (x11_2 + 1)) a0_0 l0_1 l0_2))) = some r := by rw [if_pos rfl] at H; exact H
               clear H
               have H := H1
               clear H1
               by_cases c45 : x11_2 < t404
               ·rw [if_pos c45] at H
                have c45b0 : decide (x11_2 < t404) = true := decide_eq_true c45
                clear c45
                by_cases c46 : x11_2 > t404
                ·rw [if_pos c46] at H
                 have c46b0 : decide (t404 < x11_2) = true := decide_eq_true c46
                 clear c46
                 by_cases c47 : x10_2 = (l1.length : Int)
                 ·rw [if_pos c47] at H
                  have c47b0 : (x10_2 == (l1.length : Int)) = true := beq_iff_eq.mpr c47
                  have c47b1 : (x10_2 != (l1.length : Int)) = false := bne_eq_false_iff_eq.mpr c47
                  clear c47
                  have H' := Aside0.mk H
                  clear H
                  go_wp2
                  repeat (go_quiet (fail); try go_wp2)
                  (try simp only [← hl8_2])
                  go_roundg kj37
                  case measure => have := HJ3.out; have := HK2.out; have := HJ37.out; omega
                  case rel => exact ⟨(x11_2), (x11_2), (wrap64 (x11_2 + 1)), zq12, zq12, zq12, H', ⟨zq47⟩, ⟨zq25⟩, ⟨zq24⟩, ⟨zq2⟩⟩
                 ·rw [if_neg c47] at H
                  have c47b0 : (x10_2 == (l1.length : Int)) = false := beq_eq_false_iff_ne.mpr c47
                  have c47b1 : (x10_2 != (l1.length : Int)) = true := bne_iff_ne.mpr c47
                  have H' := Aside0.mk H
                  clear H
                  go_wp2
                  repeat (go_quiet (fail); try go_wp2)
                  (try simp only [← hl8_2])
                  go_roundg kj37
                  case measure => have := HJ3.out; have := HK2.out; have := HJ37.out; omega
                  case rel => exact ⟨(x11_2), (x10_2), (wrap64 (x11_2 + 1)), zq12, zq12, zq12, H', ⟨zq47⟩, ⟨zq25⟩, ⟨zq24⟩, ⟨zq2⟩⟩
                ·rw [if_neg c46] at H
                 have c46b0 : decide (t404 < x11_2) = false := decide_eq_false c46
                 clear c46
                 have H' := Aside0.mk H
                 clear H
                 go_wp2
                 repeat (go_quiet (fail); try go_wp2)
                 (try simp only [← hl8_2])
                 go_roundg kj37
                 case measure => have := HJ3.out; have := HK2.out; have := HJ37.out; omega
                 case rel => exact ⟨(x11_2), (x10_2), (wrap64 (x11_2 + 1)), zq12, zq12, zq12, H', ⟨zq47⟩, ⟨zq25⟩, ⟨zq24⟩, ⟨zq2⟩⟩
               ·rw [if_neg c45] at H
                have c45b0 : decide (x11_2 < t404) = false := decide_eq_false c45
                clear c45
                by_cases c48 : x11_2 > t404
                ·rw [if_pos c48] at H
                 have c48b0 : decide (t404 < x11_2) = true := decide_eq_true c48
                 clear c48
                 by_cases c49 : x10_2 = (l1.length : Int)
                 ·rw [if_pos c49] at H
                  have c49b0 : (x10_2 == (l1.length : Int)) = true := beq_iff_eq.mpr c49
                  have c49b1 : (x10_2 != (l1.length : Int)) = false := bne_eq_false_iff_eq.mpr c49
                  clear c49
                  have H' := Aside0.mk H
                  clear H
                  go_wp2
                  repeat (go_quiet (fail); try go_wp2)
                  (try simp only [← hl8_2])
                  go_roundg kj37
                  case measure => have := HJ3.out; have := HK2.out; have := HJ37.out; omega
                  case rel => exact ⟨(x9_2), (x11_2), (wrap64 (x11_2 + 1)), zq12, zq12, zq12, H', ⟨zq47⟩, ⟨zq25⟩, ⟨zq24⟩, ⟨zq2⟩⟩
                 ·rw [if_neg c49] at H
                  have c49b0 : (x10_2 == (l1.length : Int)) = false := beq_eq_false_iff_ne.mpr c49
                  have c49b1 : (x10_2 != (l1.length : Int)) = true := bne_iff_ne.mpr c49
                  have H' := Aside0.mk H
                  clear H
                  go_wp2
                  repeat (go_quiet (fail); try go_wp2)
                  (try simp only [← hl8_2])
                  go_roundg kj37
                  case measure => have := HJ3.out; have := HK2.out; have := HJ37.out; omega
                  case rel => exact ⟨(x9_2), (x10_2), (wrap64 (x11_2 + 1)), zq12, zq12, zq12, H', ⟨zq47⟩, ⟨zq25⟩, ⟨zq24⟩, ⟨zq2⟩⟩
                ·rw [if_neg c48] at H
                 have c48b0 : decide (t404 < x11_2) = false := decide_eq_false c48
                 clear c48
                 have H' := Aside0.mk H
                 clear H
                 go_wp2
                 repeat (go_quiet (fail); try go_wp2)
                 (try simp only [← hl8_2])
                 go_roundg kj37
                 case measure => have := HJ3.out; have := HK2.out; have := HJ37.out; omega
                 case rel => exact ⟨(x9_2), (x10_2), (wrap64 (x11_2 + 1)), zq12, zq12, zq12, H', ⟨zq47⟩, ⟨zq25⟩, ⟨zq24⟩, ⟨zq2⟩⟩
              ·replace c44 := Bool.eq_false_iff.mpr c44
               subst c44
               have H1 : (culletlaw07_InspectExactly.l0 kj37 l1 t404 y414 x9_2 x10_2 (wrap64 (x11_2 + 1)) a0_0 l0_1 l0_2) = some r := by rw [if_neg (show ¬ (false = true) by decide)] at H; exact H
               clear H
               have H := H1
               clear H1
               have H' := Aside0.mk H
               clear H
               go_wp2
               repeat (go_quiet (fail); try go_wp2)
               (try simp only [← hl8_2])
               go_roundg kj37
               case measure => have := HJ3.out; have := HK2.out; have := HJ37.out; omega
               case rel => exact ⟨(x9_2), (x10_2), (wrap64 (x11_2 + 1)), zq12, zq12, zq12, H', ⟨zq47⟩, ⟨zq25⟩, ⟨zq24⟩, ⟨zq2⟩⟩
           ·rw [if_neg c37] at H
            have c37b0 : decide (x11_2 < (l1.length : Int)) = false := decide_eq_false c37
            clear c37
            have H' := Aside0.mk H
            clear H
            go_wp2
            repeat (go_quiet (fail); try go_wp2)
            go_loopg [12] k2 (fun kq v12 w' => ∃ (x12_3 : Int), v12 = .int .i64 x12_3 ∧ Aside0 (culletlaw07_InspectExactly.l1 kq l1 y414 x9_2 x10_2 x12_3 a0_0 l0_1 l0_2 = some r) ∧ Aside0 (kq ≤ k2) ∧ Aside0 (Kd.R k45 45 w' w.heap.size (fun _ => True) (.slice (some ⟨go30, 0, none⟩) y414.length co34) y414) ∧ Aside0 (w'.heap[gb400]? = some (.cells #[.int .i64 a0_0, (.slice A0_1 l0_1.length c0_1), (.slice A0_2 l0_2.length c0_2)] 25 (0, 0))) ∧ Aside0 (Below w.heap.size w w'))
            case atStart => exact ⟨(0), zq12, H', ⟨Nat.le_refl _⟩, ⟨zq25⟩, ⟨zq24⟩, ⟨zq2⟩⟩
            case round =>
             clear H'
             try clear c1
             try clear c2
             try clear p2 p2
             try clear c3
             try clear p3 p3
             try clear q3 q3
             try clear hx3
             try clear hf3
             try clear c4
             try clear p4 p4
             try clear q4 q4
             try clear hx4
             try clear p6 p6
             try clear c7
             try clear c10
             try clear c10b0
             try clear c10b1
             try clear c10b2
             try clear c13
             try clear c13b0
             try clear c13b1
             try clear c21
             try clear c25
             try clear c25b0
             try clear c26
             try clear c26b0
             try clear c27
             try clear c27b0
             try clear c27b1
             try clear c28
             try clear c29
             try clear c29b0
             try clear c30
             try clear p30 p30
             try clear q30 q30
             try clear hx30
             try clear hf30
             try clear c35
             try clear hx35
             try clear hf35
             try clear c37
             try clear c37b0
             try clear c39
             try clear c39b0
             try clear c40
             try clear c40b0
             try clear c40b1
             try clear p40 p40
             try clear q40 q40
             try clear hx40
             try clear c41
             try clear c41b0
             try clear p41 p41
             try clear q41 q41
             try clear hx41
             try clear c42
             try clear c42b0
             try clear c43
             try clear c43b0
             try clear c43b1
             try clear c44
             try clear c45
             try clear c45b0
             try clear c46
             try clear c46b0
             try clear c47
             try clear c47b0
             try clear c47b1
             try clear c48
             try clear c48b0
             try clear c49
             try clear c49b0
             try clear c49b1
             try clear hcz11_0 hcz11_1 hcz11_2 hfz11_0 hfz11_1 hfz11_2
             try clear hcz14_0 hcz14_1 hcz14_2 hfz14_0 hfz14_1 hfz14_2
             try clear hcz17_0 hcz17_1 hcz17_2 hfz17_0 hfz17_1 hfz17_2
             try clear hcz19_0 hcz19_1 hcz19_2 hfz19_0 hfz19_1 hfz19_2
             try clear hcz8_0 hcz8_1 hcz8_2 hfz8_0 hfz8_1 hfz8_2
             try clear hx30_0
             try clear hx30_1
             try clear hx30_2
             try clear hx30_3
             try clear hx30_4
             try clear hx30_5
             try clear hx30_6
             try clear hx35_6
             try clear hx405_0
             try clear hx405_1
             try clear hx405_2
             try clear hx405_3
             try clear hx405_4
             try clear hx405_5
             try clear hx405_6
             try clear hx413_0
             try clear hx413_1
             try clear hx413_2
             try clear hx413_3
             try clear hx413_4
             try clear hx413_5
             try clear hx413_6
             try clear hx415_0
             try clear hx415_1
             try clear hx415_2
             try clear hx415_3
             try clear hx415_4
             try clear hx415_5
             try clear hx415_6
             try clear hx416_0
             try clear hx416_1
             try clear hx416_2
             try clear hx416_3
             try clear hx416_4
             try clear hx416_5
             try clear hx416_6
             try clear hx417_0
             try clear hx417_1
             try clear hx417_2
             try clear hx417_3
             try clear hx417_4
             try clear hx417_5
             try clear hx417_6
             try clear hx418_0
             try clear hx418_1
             try clear hx418_2
             try clear hx418_3
             try clear hx418_4
             try clear hx418_5
             try clear hx418_6
             try clear hx419_0
             try clear hx419_1
             try clear hx419_2
             try clear hx419_3
             try clear hx419_4
             try clear hx419_5
             try clear hx419_6
             try clear p405
             try clear p413
             try clear p415
             try clear p416
             try clear p417
             try clear p418
             try clear p419
             try clear q405
             try clear q413
             try clear q415
             try clear q416
             try clear q417
             try clear q418
             try clear q419
             obtain ⟨x12_3, rfl, HA, HK3, HO_8, BK400, HB⟩ := hrel
             cases gk with
             | zero => exact absurd HA.out (by simp [culletlaw07_InspectExactly.l1])
             | succ k3 =>
              have H := HA.out
              clear HA
              simp only [culletlaw07_InspectExactly.l1] at H
              by_cases c50 : x12_3 < (l1.length : Int)
              ·rw [if_pos c50] at H
               have c50b0 : decide (x12_3 < (l1.length : Int)) = true := decide_eq_true c50
               clear c50
               have HC51 := Aside0.mk H
               clear H
               go_upto_region 20 with (fail)
               repeat (go_quiet (fail); go_upto_region 20 with (fail))
               go_cut [139] (fun v139 wc => ∃ (kq : Nat) (x139_50 : Bool), v139 = .bool x139_50 ∧ Aside0 (culletlaw07_InspectExactly.j4 kq l1 y414 x9_2 x10_2 x12_3 x139_50 a0_0 l0_1 l0_2 = some r) ∧ Aside0 (kq ≤ k3) ∧ Aside0 (Kd.R k45 45 wc w.heap.size (fun _ => True) (.slice (some ⟨go30, 0, none⟩) y414.length co34) y414) ∧ Aside0 (wc.heap[gb400]? = some (.cells #[.int .i64 a0_0, (.slice A0_1 l0_1.length c0_1), (.slice A0_2 l0_2.length c0_2)] 25 (0, 0))) ∧ Aside0 (Below w.heap.size w wc))
               case first =>
                have H := HC51.out
                clear HC51
                by_cases c52 : 0 ≤ x12_3
                ·rw [if_pos c52] at H
                 have c52b0 : decide (0 ≤ x12_3) = true := decide_eq_true c52
                 clear c52
                 (first | rw [c52b0] | (simp only [i64_w, i32_w]; rw [c52b0]) | skip)
                 by_cases c53 : ((rd_T45 l1 x12_3).f1) = 1
                 ·rw [if_pos c53] at H
                  have c53b0 : (((rd_T45 l1 x12_3).f1) == 1) = true := beq_iff_eq.mpr c53
                  have c53b1 : (((rd_T45 l1 x12_3).f1) != 1) = false := bne_eq_false_iff_eq.mpr c53
                  clear c53
                  by_cases c54 : x12_3 > x9_2
                  ·rw [if_pos c54] at H
                   have c54b0 : decide (x9_2 < x12_3) = true := decide_eq_true c54
                   clear c54
                   have H' := Aside0.mk H
                   clear H
                   have p421 : 0 ≤ (x12_3 : Int) := of_decide_eq_true zq6
                   have q421 : x12_3 < (l1.length : Int) := of_decide_eq_true zq6
                   obtain ⟨ad421, e421, hx421_0, hx421_1, hx421_2, hx421_3, hx421_4, hx421_5, hx421_6⟩ := at_T45 HR1.out x12_3 p421 q421
                   obtain rfl : ad405 = ad421 := (by injection e421)
                   replace hx421_0 := hcx HB.out hx421_0
                   replace hx421_1 := hcx HB.out hx421_1
                   replace hx421_2 := hcx HB.out hx421_2
                   replace hx421_3 := hcx HB.out hx421_3
                   replace hx421_4 := hcx HB.out hx421_4
                   replace hx421_5 := hcx HB.out hx421_5
                   replace hx421_6 := hcx HB.out hx421_6
                   replace p421 := eq_true p421
                   replace q421 := eq_true q421
                   go_wp2
                   repeat (go_quiet (fail); try go_wp2)
                   go_meet
                   case rel => exact ⟨_, (decide (x12_3 < x10_2)), zq12, H', ⟨zq57⟩, ⟨zq25⟩, ⟨zq24⟩, ⟨zq2⟩⟩
                  ·rw [if_neg c54] at H
                   have c54b0 : decide (x9_2 < x12_3) = false := decide_eq_false c54
                   clear c54
                   have H' := Aside0.mk H
                   clear H
                   have p421 : 0 ≤ (x12_3 : Int) := of_decide_eq_true zq6
                   have q421 : x12_3 < (l1.length : Int) := of_decide_eq_true zq6
                   obtain ⟨ad421, e421, hx421_0, hx421_1, hx421_2, hx421_3, hx421_4, hx421_5, hx421_6⟩ := at_T45 HR1.out x12_3 p421 q421
                   obtain rfl : ad405 = ad421 := (by injection e421)
                   replace hx421_0 := hcx HB.out hx421_0
                   replace hx421_1 := hcx HB.out hx421_1
                   replace hx421_2 := hcx HB.out hx421_2
                   replace hx421_3 := hcx HB.out hx421_3
                   replace hx421_4 := hcx HB.out hx421_4
                   replace hx421_5 := hcx HB.out hx421_5
                   replace hx421_6 := hcx HB.out hx421_6
                   replace p421 := eq_true p421
                   replace q421 := eq_true q421
                   go_wp2
                   repeat (go_quiet (fail); try go_wp2)
                   go_meet
                   case rel => exact ⟨_, (false), zq12, H', ⟨zq57⟩, ⟨zq25⟩, ⟨zq24⟩, ⟨zq2⟩⟩
                 ·rw [if_neg c53] at H
                  have c53b0 : (((rd_T45 l1 x12_3).f1) == 1) = false := beq_eq_false_iff_ne.mpr c53
                  have c53b1 : (((rd_T45 l1 x12_3).f1) != 1) = true := bne_iff_ne.mpr c53
                  have H' := Aside0.mk H
                  clear H
                  have p421 : 0 ≤ (x12_3 : Int) := of_decide_eq_true zq6
                  have q421 : x12_3 < (l1.length : Int) := of_decide_eq_true zq6
                  obtain ⟨ad421, e421, hx421_0, hx421_1, hx421_2, hx421_3, hx421_4, hx421_5, hx421_6⟩ := at_T45 HR1.out x12_3 p421 q421
                  obtain rfl : ad405 = ad421 := (by injection e421)
                  replace hx421_0 := hcx HB.out hx421_0
                  replace hx421_1 := hcx HB.out hx421_1
                  replace hx421_2 := hcx HB.out hx421_2
                  replace hx421_3 := hcx HB.out hx421_3
                  replace hx421_4 := hcx HB.out hx421_4
                  replace hx421_5 := hcx HB.out hx421_5
                  replace hx421_6 := hcx HB.out hx421_6
                  replace p421 := eq_true p421
                  replace q421 := eq_true q421
                  go_wp2
                  repeat (go_quiet (fail); try go_wp2)
                  go_meet
                  case rel => exact ⟨_, (true), zq12, H', ⟨zq57⟩, ⟨zq25⟩, ⟨zq24⟩, ⟨zq2⟩⟩
                ·rw [if_neg c52] at H
                 exact absurd H zq53
               case rest =>
                clear HC51
                try clear c1
                try clear c2
                try clear p2 p2
                try clear c3
                try clear p3 p3
                try clear q3 q3
                try clear hx3
                try clear hf3
                try clear c4
                try clear p4 p4
                try clear q4 q4
                try clear hx4
                try clear c5
                try clear p6 p6
                try clear c7
                try clear c10
                try clear c10b0
                try clear c10b1
                try clear c10b2
                try clear c13
                try clear c13b0
                try clear c13b1
                try clear c21
                try clear c25
                try clear c25b0
                try clear c26
                try clear c26b0
                try clear c27
                try clear c27b0
                try clear c27b1
                try clear c28
                try clear c29
                try clear c29b0
                try clear c30
                try clear p30 p30
                try clear q30 q30
                try clear hx30
                try clear hf30
                try clear c35
                try clear hx35
                try clear hf35
                try clear c37
                try clear c37b0
                try clear c39
                try clear c39b0
                try clear c40
                try clear c40b0
                try clear c40b1
                try clear p40 p40
                try clear q40 q40
                try clear hx40
                try clear c41
                try clear c41b0
                try clear p41 p41
                try clear q41 q41
                try clear hx41
                try clear c42
                try clear c42b0
                try clear p42
                try clear q42
                try clear hx42
                try clear c43
                try clear c43b0
                try clear c43b1
                try clear c44
                try clear c45
                try clear c45b0
                try clear c46
                try clear c46b0
                try clear c47
                try clear c47b0
                try clear c47b1
                try clear c48
                try clear c48b0
                try clear c49
                try clear c49b0
                try clear c49b1
                try clear c50
                try clear c50b0
                try clear c52
                try clear c52b0
                try clear c53
                try clear c53b0
                try clear c53b1
                try clear c54
                try clear c54b0
                try clear hcz11_0 hcz11_1 hcz11_2 hfz11_0 hfz11_1 hfz11_2
                try clear hcz14_0 hcz14_1 hcz14_2 hfz14_0 hfz14_1 hfz14_2
                try clear hcz17_0 hcz17_1 hcz17_2 hfz17_0 hfz17_1 hfz17_2
                try clear hcz19_0 hcz19_1 hcz19_2 hfz19_0 hfz19_1 hfz19_2
                try clear hcz8_0 hcz8_1 hcz8_2 hfz8_0 hfz8_1 hfz8_2
                try clear hx30_0
                try clear hx30_1
                try clear hx30_2
                try clear hx30_3
                try clear hx30_4
                try clear hx30_5
                try clear hx30_6
                try clear hx35_6
                try clear hx405_0
                try clear hx405_1
                try clear hx405_2
                try clear hx405_3
                try clear hx405_4
                try clear hx405_5
                try clear hx405_6
                try clear hx413_0
                try clear hx413_1
                try clear hx413_2
                try clear hx413_3
                try clear hx413_4
                try clear hx413_5
                try clear hx413_6
                try clear hx415_0
                try clear hx415_1
                try clear hx415_2
                try clear hx415_3
                try clear hx415_4
                try clear hx415_5
                try clear hx415_6
                try clear hx416_0
                try clear hx416_1
                try clear hx416_2
                try clear hx416_3
                try clear hx416_4
                try clear hx416_5
                try clear hx416_6
                try clear hx417_0
                try clear hx417_1
                try clear hx417_2
                try clear hx417_3
                try clear hx417_4
                try clear hx417_5
                try clear hx417_6
                try clear hx418_0
                try clear hx418_1
                try clear hx418_2
                try clear hx418_3
                try clear hx418_4
                try clear hx418_5
                try clear hx418_6
                try clear hx419_0
                try clear hx419_1
                try clear hx419_2
                try clear hx419_3
                try clear hx419_4
                try clear hx419_5
                try clear hx419_6
                try clear hx421_0
                try clear hx421_1
                try clear hx421_2
                try clear hx421_3
                try clear hx421_4
                try clear hx421_5
                try clear hx421_6
                try clear p405
                try clear p413
                try clear p415
                try clear p416
                try clear p417
                try clear p418
                try clear p419
                try clear p421
                try clear q405
                try clear q413
                try clear q415
                try clear q416
                try clear q417
                try clear q418
                try clear q419
                try clear q421
                obtain ⟨kq, x139_50, rfl, HA, HJ50, HO_8, BK400, HB⟩ := hcut
                cases kq with
                | zero => exact absurd HA.out (by simp [culletlaw07_InspectExactly.j4])
                | succ kj50 =>
                 have H := HA.out
                 clear HA
                 simp only [culletlaw07_InspectExactly.j4] at H
                 by_cases c55 : x139_50 = true
                 ·subst c55
                  have H1 : (culletlaw07_InspectExactly.l1 kj50 l1 y414 x9_2 x10_2 (wrap64 (x12_3 + 1)) a0_0 l0_1 l0_2) = some r := by rw [if_pos rfl] at H; exact H
                  clear H
                  have H := H1
                  clear H1
                  have H' := Aside0.mk H
                  clear H
                  go_wp2
                  repeat (go_quiet (fail); try go_wp2)
                  go_roundg kj50
                  case measure => have := HJ3.out; have := HK2.out; have := HK3.out; have := HJ50.out; omega
                  case rel => exact ⟨(wrap64 (x12_3 + 1)), zq12, H', ⟨by have := HJ3.out; have := HK2.out; have := HK3.out; have := HJ50.out; omega⟩, ⟨zq25⟩, ⟨zq24⟩, ⟨zq2⟩⟩
                 ·replace c55 := Bool.eq_false_iff.mpr c55
                  subst c55
                  have H1 : ((inspect_Judge.f a0_0 l0_1 l0_2 l1 x12_3).bind fun bt422 => ((inspect_Judge.f a0_0 l0_1 l0_2 y414 x12_3).bind fun bt425 => (if bt422.2.2 = 0 then (if bt425.2.2 = 0 then (if bt422.1 = bt425.1 then (if bt422.2.1 = bt425.2.1 then (culletlaw07_InspectExactly.l1 kj50 l1 y414 x9_2 x10_2 (wrap64 (x12_3 + 1)) a0_0 l0_1 l0_2) else (some false)) else (some false)) else (some false)) else (some false)))) = some r := by rw [if_neg (show ¬ (false = true) by decide)] at H; exact H
                  clear H
                  have H := H1
                  clear H1
                  replace H := Option.bind_eq_some_iff.mp H
                  obtain ⟨⟨t422, t423, t424⟩, A560, H⟩ := H
                  replace H : ((inspect_Judge.f a0_0 l0_1 l0_2 y414 x12_3).bind fun bt425 => (if t424 = 0 then (if bt425.2.2 = 0 then (if t422 = bt425.1 then (if t423 = bt425.2.1 then (culletlaw07_InspectExactly.l1 kj50 l1 y414 x9_2 x10_2 (wrap64 (x12_3 + 1)) a0_0 l0_1 l0_2) else (some false)) else (some false)) else (some false)) else (some false))) = some r := H
                  have A56 := Aside0.mk A560
                  clear A560
                  replace H := Option.bind_eq_some_iff.mp H
                  obtain ⟨⟨t425, t426, t427⟩, A570, H⟩ := H
                  replace H : (if t424 = 0 then (if t427 = 0 then (if t422 = t425 then (if t423 = t426 then (culletlaw07_InspectExactly.l1 kj50 l1 y414 x9_2 x10_2 (wrap64 (x12_3 + 1)) a0_0 l0_1 l0_2) else (some false)) else (some false)) else (some false)) else (some false)) = some r := H
                  have A57 := Aside0.mk A570
                  clear A570
                  by_cases c58 : t424 = 0
                  ·rw [if_pos c58] at H
                   have c58b0 : (t424 == 0) = true := beq_iff_eq.mpr c58
                   have c58b1 : (t424 != 0) = false := bne_eq_false_iff_eq.mpr c58
                   clear c58
                   by_cases c59 : t427 = 0
                   ·rw [if_pos c59] at H
                    have c59b0 : (t427 == 0) = true := beq_iff_eq.mpr c59
                    have c59b1 : (t427 != 0) = false := bne_eq_false_iff_eq.mpr c59
                    clear c59
                    by_cases c60 : t422 = t425
                    ·rw [if_pos c60] at H
                     have c60b0 : (t422 == t425) = true := beq_iff_eq.mpr c60
                     have c60b1 : (t422 != t425) = false := bne_eq_false_iff_eq.mpr c60
                     clear c60
                     by_cases c61 : t423 = t426
                     ·rw [if_pos c61] at H
                      have c61b0 : (t423 == t426) = true := beq_iff_eq.mpr c61
                      have c61b1 : (t423 != t426) = false := bne_eq_false_iff_eq.mpr c61
                      clear c61
                      have H' := Aside0.mk H
                      clear H
                      obtain ⟨hcz62_0, hcz62_1, hcz62_2, hfz62_0, hfz62_1, hfz62_2⟩ := bcs3 BK400.out
                      go_wp2_with (first | (go_at_call 21; (with_reducible refine (inspect_Judge.calls a0_0 _ _ l0_1 _ _ l0_2 _ _ l1 x12_3 t422 t423 t424 _ ?side1 ?side2 ?side3 ?side4 ?side5 ?side6 A56.out).mono ?_); (case side1 => exact zq4); (case side2 => exact HC0_1.out); (case side3 => exact zq5); (case side4 => exact HC0_2.out); (case side5 => exact zq8); (case side6 => exact HC1.out); rintro e w63 ⟨rfl, hb⟩; have n_ := as3 (Kd.R_below (zq1 HO_8.out) hb) (blk_below (zq0 BK400.out) hb) (below_step zq2 hb); clear HO_8 BK400 HB; obtain ⟨HO_8, BK400, HB⟩ := n_; (try clear hb); (try clear hb2); (try clear hk); (try clear hi); obtain ⟨hcz64_0, hcz64_1, hcz64_2, hfz64_0, hfz64_1, hfz64_2⟩ := bcs3 BK400.out) | (go_at_call 21; (with_reducible refine (inspect_Judge.calls a0_0 _ _ l0_1 _ _ l0_2 _ _ y414 x12_3 t425 t426 t427 _ ?side1 ?side2 ?side3 ?side4 ?side5 ?side6 A57.out).mono ?_); (case side1 => exact zq4); (case side2 => exact HC0_1.out); (case side3 => exact zq5); (case side4 => exact HC0_2.out); (case side5 => exact zq22); (case side6 => exact zq41); rintro e w65 ⟨rfl, hb⟩; have n_ := as3 (Kd.R_below (zq1 HO_8.out) hb) (blk_below (zq0 BK400.out) hb) (below_step zq2 hb); clear HO_8 BK400 HB; obtain ⟨HO_8, BK400, HB⟩ := n_; (try clear hb); (try clear hb2); (try clear hk); (try clear hi)))
                      repeat (go_quiet (first | (go_at_call 21; (with_reducible refine (inspect_Judge.calls a0_0 _ _ l0_1 _ _ l0_2 _ _ l1 x12_3 t422 t423 t424 _ ?side1 ?side2 ?side3 ?side4 ?side5 ?side6 A56.out).mono ?_); (case side1 => exact zq4); (case side2 => exact HC0_1.out); (case side3 => exact zq5); (case side4 => exact HC0_2.out); (case side5 => exact zq8); (case side6 => exact HC1.out); rintro e w63 ⟨rfl, hb⟩; have n_ := as3 (Kd.R_below (zq1 HO_8.out) hb) (blk_below (zq0 BK400.out) hb) (below_step zq2 hb); clear HO_8 BK400 HB; obtain ⟨HO_8, BK400, HB⟩ := n_; (try clear hb); (try clear hb2); (try clear hk); (try clear hi); obtain ⟨hcz64_0, hcz64_1, hcz64_2, hfz64_0, hfz64_1, hfz64_2⟩ := bcs3 BK400.out) | (go_at_call 21; (with_reducible refine (inspect_Judge.calls a0_0 _ _ l0_1 _ _ l0_2 _ _ y414 x12_3 t425 t426 t427 _ ?side1 ?side2 ?side3 ?side4 ?side5 ?side6 A57.out).mono ?_); (case side1 => exact zq4); (case side2 => exact HC0_1.out); (case side3 => exact zq5); (case side4 => exact HC0_2.out); (case side5 => exact zq22); (case side6 => exact zq41); rintro e w65 ⟨rfl, hb⟩; have n_ := as3 (Kd.R_below (zq1 HO_8.out) hb) (blk_below (zq0 BK400.out) hb) (below_step zq2 hb); clear HO_8 BK400 HB; obtain ⟨HO_8, BK400, HB⟩ := n_; (try clear hb); (try clear hb2); (try clear hk); (try clear hi))); try go_wp2_with (first | (go_at_call 21; (with_reducible refine (inspect_Judge.calls a0_0 _ _ l0_1 _ _ l0_2 _ _ l1 x12_3 t422 t423 t424 _ ?side1 ?side2 ?side3 ?side4 ?side5 ?side6 A56.out).mono ?_); (case side1 => exact zq4); (case side2 => exact HC0_1.out); (case side3 => exact zq5); (case side4 => exact HC0_2.out); (case side5 => exact zq8); (case side6 => exact HC1.out); rintro e w63 ⟨rfl, hb⟩; have n_ := as3 (Kd.R_below (zq1 HO_8.out) hb) (blk_below (zq0 BK400.out) hb) (below_step zq2 hb); clear HO_8 BK400 HB; obtain ⟨HO_8, BK400, HB⟩ := n_; (try clear hb); (try clear hb2); (try clear hk); (try clear hi); obtain ⟨hcz64_0, hcz64_1, hcz64_2, hfz64_0, hfz64_1, hfz64_2⟩ := bcs3 BK400.out) | (go_at_call 21; (with_reducible refine (inspect_Judge.calls a0_0 _ _ l0_1 _ _ l0_2 _ _ y414 x12_3 t425 t426 t427 _ ?side1 ?side2 ?side3 ?side4 ?side5 ?side6 A57.out).mono ?_); (case side1 => exact zq4); (case side2 => exact HC0_1.out); (case side3 => exact zq5); (case side4 => exact HC0_2.out); (case side5 => exact zq22); (case side6 => exact zq41); rintro e w65 ⟨rfl, hb⟩; have n_ := as3 (Kd.R_below (zq1 HO_8.out) hb) (blk_below (zq0 BK400.out) hb) (below_step zq2 hb); clear HO_8 BK400 HB; obtain ⟨HO_8, BK400, HB⟩ := n_; (try clear hb); (try clear hb2); (try clear hk); (try clear hi))))
                      go_roundg kj50
                      case measure => have := HJ3.out; have := HK2.out; have := HK3.out; have := HJ50.out; omega
                      case rel => exact ⟨(wrap64 (x12_3 + 1)), zq12, H', ⟨by have := HJ3.out; have := HK2.out; have := HK3.out; have := HJ50.out; omega⟩, ⟨zq25⟩, ⟨zq24⟩, ⟨zq2⟩⟩
                     ·rw [if_neg c61] at H
                      have c61b0 : (t423 == t426) = false := beq_eq_false_iff_ne.mpr c61
                      have c61b1 : (t423 != t426) = true := bne_iff_ne.mpr c61
                      obtain rfl := Option.some.inj H
                      obtain ⟨hcz66_0, hcz66_1, hcz66_2, hfz66_0, hfz66_1, hfz66_2⟩ := bcs3 BK400.out
                      go_wp2_with (first | (go_at_call 21; (with_reducible refine (inspect_Judge.calls a0_0 _ _ l0_1 _ _ l0_2 _ _ l1 x12_3 t422 t423 t424 _ ?side1 ?side2 ?side3 ?side4 ?side5 ?side6 A56.out).mono ?_); (case side1 => exact zq4); (case side2 => exact HC0_1.out); (case side3 => exact zq5); (case side4 => exact HC0_2.out); (case side5 => exact zq8); (case side6 => exact HC1.out); rintro e w67 ⟨rfl, hb⟩; have n_ := as3 (Kd.R_below (zq1 HO_8.out) hb) (blk_below (zq0 BK400.out) hb) (below_step zq2 hb); clear HO_8 BK400 HB; obtain ⟨HO_8, BK400, HB⟩ := n_; (try clear hb); (try clear hb2); (try clear hk); (try clear hi); obtain ⟨hcz68_0, hcz68_1, hcz68_2, hfz68_0, hfz68_1, hfz68_2⟩ := bcs3 BK400.out) | (go_at_call 21; (with_reducible refine (inspect_Judge.calls a0_0 _ _ l0_1 _ _ l0_2 _ _ y414 x12_3 t425 t426 t427 _ ?side1 ?side2 ?side3 ?side4 ?side5 ?side6 A57.out).mono ?_); (case side1 => exact zq4); (case side2 => exact HC0_1.out); (case side3 => exact zq5); (case side4 => exact HC0_2.out); (case side5 => exact zq22); (case side6 => exact zq41); rintro e w69 ⟨rfl, hb⟩; have n_ := as3 (Kd.R_below (zq1 HO_8.out) hb) (blk_below (zq0 BK400.out) hb) (below_step zq2 hb); clear HO_8 BK400 HB; obtain ⟨HO_8, BK400, HB⟩ := n_; (try clear hb); (try clear hb2); (try clear hk); (try clear hi)))
                      repeat (go_quiet (first | (go_at_call 21; (with_reducible refine (inspect_Judge.calls a0_0 _ _ l0_1 _ _ l0_2 _ _ l1 x12_3 t422 t423 t424 _ ?side1 ?side2 ?side3 ?side4 ?side5 ?side6 A56.out).mono ?_); (case side1 => exact zq4); (case side2 => exact HC0_1.out); (case side3 => exact zq5); (case side4 => exact HC0_2.out); (case side5 => exact zq8); (case side6 => exact HC1.out); rintro e w67 ⟨rfl, hb⟩; have n_ := as3 (Kd.R_below (zq1 HO_8.out) hb) (blk_below (zq0 BK400.out) hb) (below_step zq2 hb); clear HO_8 BK400 HB; obtain ⟨HO_8, BK400, HB⟩ := n_; (try clear hb); (try clear hb2); (try clear hk); (try clear hi); obtain ⟨hcz68_0, hcz68_1, hcz68_2, hfz68_0, hfz68_1, hfz68_2⟩ := bcs3 BK400.out) | (go_at_call 21; (with_reducible refine (inspect_Judge.calls a0_0 _ _ l0_1 _ _ l0_2 _ _ y414 x12_3 t425 t426 t427 _ ?side1 ?side2 ?side3 ?side4 ?side5 ?side6 A57.out).mono ?_); (case side1 => exact zq4); (case side2 => exact HC0_1.out); (case side3 => exact zq5); (case side4 => exact HC0_2.out); (case side5 => exact zq22); (case side6 => exact zq41); rintro e w69 ⟨rfl, hb⟩; have n_ := as3 (Kd.R_below (zq1 HO_8.out) hb) (blk_below (zq0 BK400.out) hb) (below_step zq2 hb); clear HO_8 BK400 HB; obtain ⟨HO_8, BK400, HB⟩ := n_; (try clear hb); (try clear hb2); (try clear hk); (try clear hi))); try go_wp2_with (first | (go_at_call 21; (with_reducible refine (inspect_Judge.calls a0_0 _ _ l0_1 _ _ l0_2 _ _ l1 x12_3 t422 t423 t424 _ ?side1 ?side2 ?side3 ?side4 ?side5 ?side6 A56.out).mono ?_); (case side1 => exact zq4); (case side2 => exact HC0_1.out); (case side3 => exact zq5); (case side4 => exact HC0_2.out); (case side5 => exact zq8); (case side6 => exact HC1.out); rintro e w67 ⟨rfl, hb⟩; have n_ := as3 (Kd.R_below (zq1 HO_8.out) hb) (blk_below (zq0 BK400.out) hb) (below_step zq2 hb); clear HO_8 BK400 HB; obtain ⟨HO_8, BK400, HB⟩ := n_; (try clear hb); (try clear hb2); (try clear hk); (try clear hi); obtain ⟨hcz68_0, hcz68_1, hcz68_2, hfz68_0, hfz68_1, hfz68_2⟩ := bcs3 BK400.out) | (go_at_call 21; (with_reducible refine (inspect_Judge.calls a0_0 _ _ l0_1 _ _ l0_2 _ _ y414 x12_3 t425 t426 t427 _ ?side1 ?side2 ?side3 ?side4 ?side5 ?side6 A57.out).mono ?_); (case side1 => exact zq4); (case side2 => exact HC0_1.out); (case side3 => exact zq5); (case side4 => exact HC0_2.out); (case side5 => exact zq22); (case side6 => exact zq41); rintro e w69 ⟨rfl, hb⟩; have n_ := as3 (Kd.R_below (zq1 HO_8.out) hb) (blk_below (zq0 BK400.out) hb) (below_step zq2 hb); clear HO_8 BK400 HB; obtain ⟨HO_8, BK400, HB⟩ := n_; (try clear hb); (try clear hb2); (try clear hk); (try clear hi))))
                      go_ret
                      exact ⟨zq11, zq2⟩
                    ·rw [if_neg c60] at H
                     have c60b0 : (t422 == t425) = false := beq_eq_false_iff_ne.mpr c60
                     have c60b1 : (t422 != t425) = true := bne_iff_ne.mpr c60
                     obtain rfl := Option.some.inj H
                     obtain ⟨hcz70_0, hcz70_1, hcz70_2, hfz70_0, hfz70_1, hfz70_2⟩ := bcs3 BK400.out
                     go_wp2_with (first | (go_at_call 21; (with_reducible refine (inspect_Judge.calls a0_0 _ _ l0_1 _ _ l0_2 _ _ l1 x12_3 t422 t423 t424 _ ?side1 ?side2 ?side3 ?side4 ?side5 ?side6 A56.out).mono ?_); (case side1 => exact zq4); (case side2 => exact HC0_1.out); (case side3 => exact zq5); (case side4 => exact HC0_2.out); (case side5 => exact zq8); (case side6 => exact HC1.out); rintro e w71 ⟨rfl, hb⟩; have n_ := as3 (Kd.R_below (zq1 HO_8.out) hb) (blk_below (zq0 BK400.out) hb) (below_step zq2 hb); clear HO_8 BK400 HB; obtain ⟨HO_8, BK400, HB⟩ := n_; (try clear hb); (try clear hb2); (try clear hk); (try clear hi); obtain ⟨hcz72_0, hcz72_1, hcz72_2, hfz72_0, hfz72_1, hfz72_2⟩ := bcs3 BK400.out) | (go_at_call 21; (with_reducible refine (inspect_Judge.calls a0_0 _ _ l0_1 _ _ l0_2 _ _ y414 x12_3 t425 t426 t427 _ ?side1 ?side2 ?side3 ?side4 ?side5 ?side6 A57.out).mono ?_); (case side1 => exact zq4); (case side2 => exact HC0_1.out); (case side3 => exact zq5); (case side4 => exact HC0_2.out); (case side5 => exact zq22); (case side6 => exact zq41); rintro e w73 ⟨rfl, hb⟩; have n_ := as3 (Kd.R_below (zq1 HO_8.out) hb) (blk_below (zq0 BK400.out) hb) (below_step zq2 hb); clear HO_8 BK400 HB; obtain ⟨HO_8, BK400, HB⟩ := n_; (try clear hb); (try clear hb2); (try clear hk); (try clear hi)))
                     repeat (go_quiet (first | (go_at_call 21; (with_reducible refine (inspect_Judge.calls a0_0 _ _ l0_1 _ _ l0_2 _ _ l1 x12_3 t422 t423 t424 _ ?side1 ?side2 ?side3 ?side4 ?side5 ?side6 A56.out).mono ?_); (case side1 => exact zq4); (case side2 => exact HC0_1.out); (case side3 => exact zq5); (case side4 => exact HC0_2.out); (case side5 => exact zq8); (case side6 => exact HC1.out); rintro e w71 ⟨rfl, hb⟩; have n_ := as3 (Kd.R_below (zq1 HO_8.out) hb) (blk_below (zq0 BK400.out) hb) (below_step zq2 hb); clear HO_8 BK400 HB; obtain ⟨HO_8, BK400, HB⟩ := n_; (try clear hb); (try clear hb2); (try clear hk); (try clear hi); obtain ⟨hcz72_0, hcz72_1, hcz72_2, hfz72_0, hfz72_1, hfz72_2⟩ := bcs3 BK400.out) | (go_at_call 21; (with_reducible refine (inspect_Judge.calls a0_0 _ _ l0_1 _ _ l0_2 _ _ y414 x12_3 t425 t426 t427 _ ?side1 ?side2 ?side3 ?side4 ?side5 ?side6 A57.out).mono ?_); (case side1 => exact zq4); (case side2 => exact HC0_1.out); (case side3 => exact zq5); (case side4 => exact HC0_2.out); (case side5 => exact zq22); (case side6 => exact zq41); rintro e w73 ⟨rfl, hb⟩; have n_ := as3 (Kd.R_below (zq1 HO_8.out) hb) (blk_below (zq0 BK400.out) hb) (below_step zq2 hb); clear HO_8 BK400 HB; obtain ⟨HO_8, BK400, HB⟩ := n_; (try clear hb); (try clear hb2); (try clear hk); (try clear hi))); try go_wp2_with (first | (go_at_call 21; (with_reducible refine (inspect_Judge.calls a0_0 _ _ l0_1 _ _ l0_2 _ _ l1 x12_3 t422 t423 t424 _ ?side1 ?side2 ?side3 ?side4 ?side5 ?side6 A56.out).mono ?_); (case side1 => exact zq4); (case side2 => exact HC0_1.out); (case side3 => exact zq5); (case side4 => exact HC0_2.out); (case side5 => exact zq8); (case side6 => exact HC1.out); rintro e w71 ⟨rfl, hb⟩; have n_ := as3 (Kd.R_below (zq1 HO_8.out) hb) (blk_below (zq0 BK400.out) hb) (below_step zq2 hb); clear HO_8 BK400 HB; obtain ⟨HO_8, BK400, HB⟩ := n_; (try clear hb); (try clear hb2); (try clear hk); (try clear hi); obtain ⟨hcz72_0, hcz72_1, hcz72_2, hfz72_0, hfz72_1, hfz72_2⟩ := bcs3 BK400.out) | (go_at_call 21; (with_reducible refine (inspect_Judge.calls a0_0 _ _ l0_1 _ _ l0_2 _ _ y414 x12_3 t425 t426 t427 _ ?side1 ?side2 ?side3 ?side4 ?side5 ?side6 A57.out).mono ?_); (case side1 => exact zq4); (case side2 => exact HC0_1.out); (case side3 => exact zq5); (case side4 => exact HC0_2.out); (case side5 => exact zq22); (case side6 => exact zq41); rintro e w73 ⟨rfl, hb⟩; have n_ := as3 (Kd.R_below (zq1 HO_8.out) hb) (blk_below (zq0 BK400.out) hb) (below_step zq2 hb); clear HO_8 BK400 HB; obtain ⟨HO_8, BK400, HB⟩ := n_; (try clear hb); (try clear hb2); (try clear hk); (try clear hi))))
                     go_ret
                     exact ⟨zq11, zq2⟩
                   ·rw [if_neg c59] at H
                    have c59b0 : (t427 == 0) = false := beq_eq_false_iff_ne.mpr c59
                    have c59b1 : (t427 != 0) = true := bne_iff_ne.mpr c59
                    obtain rfl := Option.some.inj H
                    obtain ⟨hcz74_0, hcz74_1, hcz74_2, hfz74_0, hfz74_1, hfz74_2⟩ := bcs3 BK400.out
                    go_wp2_with (first | (go_at_call 21; (with_reducible refine (inspect_Judge.calls a0_0 _ _ l0_1 _ _ l0_2 _ _ l1 x12_3 t422 t423 t424 _ ?side1 ?side2 ?side3 ?side4 ?side5 ?side6 A56.out).mono ?_); (case side1 => exact zq4); (case side2 => exact HC0_1.out); (case side3 => exact zq5); (case side4 => exact HC0_2.out); (case side5 => exact zq8); (case side6 => exact HC1.out); rintro e w75 ⟨rfl, hb⟩; have n_ := as3 (Kd.R_below (zq1 HO_8.out) hb) (blk_below (zq0 BK400.out) hb) (below_step zq2 hb); clear HO_8 BK400 HB; obtain ⟨HO_8, BK400, HB⟩ := n_; (try clear hb); (try clear hb2); (try clear hk); (try clear hi); obtain ⟨hcz76_0, hcz76_1, hcz76_2, hfz76_0, hfz76_1, hfz76_2⟩ := bcs3 BK400.out) | (go_at_call 21; (with_reducible refine (inspect_Judge.calls a0_0 _ _ l0_1 _ _ l0_2 _ _ y414 x12_3 t425 t426 t427 _ ?side1 ?side2 ?side3 ?side4 ?side5 ?side6 A57.out).mono ?_); (case side1 => exact zq4); (case side2 => exact HC0_1.out); (case side3 => exact zq5); (case side4 => exact HC0_2.out); (case side5 => exact zq22); (case side6 => exact zq41); rintro e w77 ⟨rfl, hb⟩; have n_ := as3 (Kd.R_below (zq1 HO_8.out) hb) (blk_below (zq0 BK400.out) hb) (below_step zq2 hb); clear HO_8 BK400 HB; obtain ⟨HO_8, BK400, HB⟩ := n_; (try clear hb); (try clear hb2); (try clear hk); (try clear hi)))
                    repeat (go_quiet (first | (go_at_call 21; (with_reducible refine (inspect_Judge.calls a0_0 _ _ l0_1 _ _ l0_2 _ _ l1 x12_3 t422 t423 t424 _ ?side1 ?side2 ?side3 ?side4 ?side5 ?side6 A56.out).mono ?_); (case side1 => exact zq4); (case side2 => exact HC0_1.out); (case side3 => exact zq5); (case side4 => exact HC0_2.out); (case side5 => exact zq8); (case side6 => exact HC1.out); rintro e w75 ⟨rfl, hb⟩; have n_ := as3 (Kd.R_below (zq1 HO_8.out) hb) (blk_below (zq0 BK400.out) hb) (below_step zq2 hb); clear HO_8 BK400 HB; obtain ⟨HO_8, BK400, HB⟩ := n_; (try clear hb); (try clear hb2); (try clear hk); (try clear hi); obtain ⟨hcz76_0, hcz76_1, hcz76_2, hfz76_0, hfz76_1, hfz76_2⟩ := bcs3 BK400.out) | (go_at_call 21; (with_reducible refine (inspect_Judge.calls a0_0 _ _ l0_1 _ _ l0_2 _ _ y414 x12_3 t425 t426 t427 _ ?side1 ?side2 ?side3 ?side4 ?side5 ?side6 A57.out).mono ?_); (case side1 => exact zq4); (case side2 => exact HC0_1.out); (case side3 => exact zq5); (case side4 => exact HC0_2.out); (case side5 => exact zq22); (case side6 => exact zq41); rintro e w77 ⟨rfl, hb⟩; have n_ := as3 (Kd.R_below (zq1 HO_8.out) hb) (blk_below (zq0 BK400.out) hb) (below_step zq2 hb); clear HO_8 BK400 HB; obtain ⟨HO_8, BK400, HB⟩ := n_; (try clear hb); (try clear hb2); (try clear hk); (try clear hi))); try go_wp2_with (first | (go_at_call 21; (with_reducible refine (inspect_Judge.calls a0_0 _ _ l0_1 _ _ l0_2 _ _ l1 x12_3 t422 t423 t424 _ ?side1 ?side2 ?side3 ?side4 ?side5 ?side6 A56.out).mono ?_); (case side1 => exact zq4); (case side2 => exact HC0_1.out); (case side3 => exact zq5); (case side4 => exact HC0_2.out); (case side5 => exact zq8); (case side6 => exact HC1.out); rintro e w75 ⟨rfl, hb⟩; have n_ := as3 (Kd.R_below (zq1 HO_8.out) hb) (blk_below (zq0 BK400.out) hb) (below_step zq2 hb); clear HO_8 BK400 HB; obtain ⟨HO_8, BK400, HB⟩ := n_; (try clear hb); (try clear hb2); (try clear hk); (try clear hi); obtain ⟨hcz76_0, hcz76_1, hcz76_2, hfz76_0, hfz76_1, hfz76_2⟩ := bcs3 BK400.out) | (go_at_call 21; (with_reducible refine (inspect_Judge.calls a0_0 _ _ l0_1 _ _ l0_2 _ _ y414 x12_3 t425 t426 t427 _ ?side1 ?side2 ?side3 ?side4 ?side5 ?side6 A57.out).mono ?_); (case side1 => exact zq4); (case side2 => exact HC0_1.out); (case side3 => exact zq5); (case side4 => exact HC0_2.out); (case side5 => exact zq22); (case side6 => exact zq41); rintro e w77 ⟨rfl, hb⟩; have n_ := as3 (Kd.R_below (zq1 HO_8.out) hb) (blk_below (zq0 BK400.out) hb) (below_step zq2 hb); clear HO_8 BK400 HB; obtain ⟨HO_8, BK400, HB⟩ := n_; (try clear hb); (try clear hb2); (try clear hk); (try clear hi))))
                    go_ret
                    exact ⟨zq11, zq2⟩
                  ·rw [if_neg c58] at H
                   have c58b0 : (t424 == 0) = false := beq_eq_false_iff_ne.mpr c58
                   have c58b1 : (t424 != 0) = true := bne_iff_ne.mpr c58
                   obtain rfl := Option.some.inj H
                   obtain ⟨hcz78_0, hcz78_1, hcz78_2, hfz78_0, hfz78_1, hfz78_2⟩ := bcs3 BK400.out
                   go_wp2_with (first | (go_at_call 21; (with_reducible refine (inspect_Judge.calls a0_0 _ _ l0_1 _ _ l0_2 _ _ l1 x12_3 t422 t423 t424 _ ?side1 ?side2 ?side3 ?side4 ?side5 ?side6 A56.out).mono ?_); (case side1 => exact zq4); (case side2 => exact HC0_1.out); (case side3 => exact zq5); (case side4 => exact HC0_2.out); (case side5 => exact zq8); (case side6 => exact HC1.out); rintro e w79 ⟨rfl, hb⟩; have n_ := as3 (Kd.R_below (zq1 HO_8.out) hb) (blk_below (zq0 BK400.out) hb) (below_step zq2 hb); clear HO_8 BK400 HB; obtain ⟨HO_8, BK400, HB⟩ := n_; (try clear hb); (try clear hb2); (try clear hk); (try clear hi); obtain ⟨hcz80_0, hcz80_1, hcz80_2, hfz80_0, hfz80_1, hfz80_2⟩ := bcs3 BK400.out) | (go_at_call 21; (with_reducible refine (inspect_Judge.calls a0_0 _ _ l0_1 _ _ l0_2 _ _ y414 x12_3 t425 t426 t427 _ ?side1 ?side2 ?side3 ?side4 ?side5 ?side6 A57.out).mono ?_); (case side1 => exact zq4); (case side2 => exact HC0_1.out); (case side3 => exact zq5); (case side4 => exact HC0_2.out); (case side5 => exact zq22); (case side6 => exact zq41); rintro e w81 ⟨rfl, hb⟩; have n_ := as3 (Kd.R_below (zq1 HO_8.out) hb) (blk_below (zq0 BK400.out) hb) (below_step zq2 hb); clear HO_8 BK400 HB; obtain ⟨HO_8, BK400, HB⟩ := n_; (try clear hb); (try clear hb2); (try clear hk); (try clear hi)))
                   repeat (go_quiet (first | (go_at_call 21; (with_reducible refine (inspect_Judge.calls a0_0 _ _ l0_1 _ _ l0_2 _ _ l1 x12_3 t422 t423 t424 _ ?side1 ?side2 ?side3 ?side4 ?side5 ?side6 A56.out).mono ?_); (case side1 => exact zq4); (case side2 => exact HC0_1.out); (case side3 => exact zq5); (case side4 => exact HC0_2.out); (case side5 => exact zq8); (case side6 => exact HC1.out); rintro e w79 ⟨rfl, hb⟩; have n_ := as3 (Kd.R_below (zq1 HO_8.out) hb) (blk_below (zq0 BK400.out) hb) (below_step zq2 hb); clear HO_8 BK400 HB; obtain ⟨HO_8, BK400, HB⟩ := n_; (try clear hb); (try clear hb2); (try clear hk); (try clear hi); obtain ⟨hcz80_0, hcz80_1, hcz80_2, hfz80_0, hfz80_1, hfz80_2⟩ := bcs3 BK400.out) | (go_at_call 21; (with_reducible refine (inspect_Judge.calls a0_0 _ _ l0_1 _ _ l0_2 _ _ y414 x12_3 t425 t426 t427 _ ?side1 ?side2 ?side3 ?side4 ?side5 ?side6 A57.out).mono ?_); (case side1 => exact zq4); (case side2 => exact HC0_1.out); (case side3 => exact zq5); (case side4 => exact HC0_2.out); (case side5 => exact zq22); (case side6 => exact zq41); rintro e w81 ⟨rfl, hb⟩; have n_ := as3 (Kd.R_below (zq1 HO_8.out) hb) (blk_below (zq0 BK400.out) hb) (below_step zq2 hb); clear HO_8 BK400 HB; obtain ⟨HO_8, BK400, HB⟩ := n_; (try clear hb); (try clear hb2); (try clear hk); (try clear hi))); try go_wp2_with (first | (go_at_call 21; (with_reducible refine (inspect_Judge.calls a0_0 _ _ l0_1 _ _ l0_2 _ _ l1 x12_3 t422 t423 t424 _ ?side1 ?side2 ?side3 ?side4 ?side5 ?side6 A56.out).mono ?_); (case side1 => exact zq4); (case side2 => exact HC0_1.out); (case side3 => exact zq5); (case side4 => exact HC0_2.out); (case side5 => exact zq8); (case side6 => exact HC1.out); rintro e w79 ⟨rfl, hb⟩; have n_ := as3 (Kd.R_below (zq1 HO_8.out) hb) (blk_below (zq0 BK400.out) hb) (below_step zq2 hb); clear HO_8 BK400 HB; obtain ⟨HO_8, BK400, HB⟩ := n_; (try clear hb); (try clear hb2); (try clear hk); (try clear hi); obtain ⟨hcz80_0, hcz80_1, hcz80_2, hfz80_0, hfz80_1, hfz80_2⟩ := bcs3 BK400.out) | (go_at_call 21; (with_reducible refine (inspect_Judge.calls a0_0 _ _ l0_1 _ _ l0_2 _ _ y414 x12_3 t425 t426 t427 _ ?side1 ?side2 ?side3 ?side4 ?side5 ?side6 A57.out).mono ?_); (case side1 => exact zq4); (case side2 => exact HC0_1.out); (case side3 => exact zq5); (case side4 => exact HC0_2.out); (case side5 => exact zq22); (case side6 => exact zq41); rintro e w81 ⟨rfl, hb⟩; have n_ := as3 (Kd.R_below (zq1 HO_8.out) hb) (blk_below (zq0 BK400.out) hb) (below_step zq2 hb); clear HO_8 BK400 HB; obtain ⟨HO_8, BK400, HB⟩ := n_; (try clear hb); (try clear hb2); (try clear hk); (try clear hi))))
                   go_ret
                   exact ⟨zq11, zq2⟩
              ·rw [if_neg c50] at H
               have c50b0 : decide (x12_3 < (l1.length : Int)) = false := decide_eq_false c50
               clear c50
               replace H := Option.bind_eq_some_iff.mp H
               obtain ⟨t420, A820, H⟩ := H
               replace H : (some t420) = some r := H
               have A82 := Aside0.mk A820
               clear A820
               obtain rfl := Option.some.inj H
               go_wp2_with (first | (go_at_call 11; (with_reducible refine (culletlaw07_looks.calls  t420 _ A82.out).mono ?_); rintro e w83 ⟨rfl, hb⟩; have n_ := as3 (Kd.R_below (zq1 HO_8.out) hb) (blk_below (zq0 BK400.out) hb) (below_step zq2 hb); clear HO_8 BK400 HB; obtain ⟨HO_8, BK400, HB⟩ := n_; (try clear hb); (try clear hb2); (try clear hk); (try clear hi)))
               repeat (go_quiet (first | (go_at_call 11; (with_reducible refine (culletlaw07_looks.calls  t420 _ A82.out).mono ?_); rintro e w83 ⟨rfl, hb⟩; have n_ := as3 (Kd.R_below (zq1 HO_8.out) hb) (blk_below (zq0 BK400.out) hb) (below_step zq2 hb); clear HO_8 BK400 HB; obtain ⟨HO_8, BK400, HB⟩ := n_; (try clear hb); (try clear hb2); (try clear hk); (try clear hi))); try go_wp2_with (first | (go_at_call 11; (with_reducible refine (culletlaw07_looks.calls  t420 _ A82.out).mono ?_); rintro e w83 ⟨rfl, hb⟩; have n_ := as3 (Kd.R_below (zq1 HO_8.out) hb) (blk_below (zq0 BK400.out) hb) (below_step zq2 hb); clear HO_8 BK400 HB; obtain ⟨HO_8, BK400, HB⟩ := n_; (try clear hb); (try clear hb2); (try clear hk); (try clear hi))))
               go_ret
               exact ⟨zq11, zq2⟩
        ·rw [if_neg c29] at H
         exact absurd H zq53
       ·rw [if_neg c28] at H
        exact absurd H zq53
      ·rw [if_neg c27] at H
       have c27b0 : (((rd_T45 l1 t404).f1) == 2) = false := beq_eq_false_iff_ne.mpr c27
       have c27b1 : (((rd_T45 l1 t404).f1) != 2) = true := bne_iff_ne.mpr c27
       replace H := Option.bind_eq_some_iff.mp H
       obtain ⟨t406, A840, H⟩ := H
       replace H : (some t406) = some r := H
       have A84 := Aside0.mk A840
       clear A840
       obtain rfl := Option.some.inj H
       go_wp2_with (first | (go_at_call 20; (with_reducible refine (culletlaw07_picked.calls a2 0 (wrap64 ((l1.length : Int) - 1)) t404 _ A24.out).mono ?_); rintro e w' ⟨rfl, ⟨nd, rfl⟩⟩; (try first | exact ⟨rfl, _, World.drewN_drewN _ _ _⟩ | exact ⟨rfl, _, Eq.trans (World.drewN_drewN _ _ _) (congrArg (World.drewN _) (Nat.add_assoc _ _ _))⟩); have p405 : 0 ≤ (t404 : Int) := of_decide_eq_true zq6; have q405 : t404 < (l1.length : Int) := of_decide_eq_true zq6; obtain ⟨ad405, e405, hx405_0, hx405_1, hx405_2, hx405_3, hx405_4, hx405_5, hx405_6⟩ := at_T45 HR1.out t404 p405 q405; cases e405; replace hx405_0 := hcx HB.out hx405_0; replace hx405_1 := hcx HB.out hx405_1; replace hx405_2 := hcx HB.out hx405_2; replace hx405_3 := hcx HB.out hx405_3; replace hx405_4 := hcx HB.out hx405_4; replace hx405_5 := hcx HB.out hx405_5; replace hx405_6 := hcx HB.out hx405_6; replace p405 := eq_true p405; replace q405 := eq_true q405) | (go_at_call 11; (with_reducible refine (culletlaw07_looks.calls  t406 _ A84.out).mono ?_); rintro e w85 ⟨rfl, hb⟩; have n_ := as2 (blk_below (zq0 BK400.out) hb) (below_step zq2 hb); clear BK400 HB; obtain ⟨BK400, HB⟩ := n_; (try clear hb); (try clear hb2); (try clear hk); (try clear hi)))
       repeat (go_quiet (first | (go_at_call 20; (with_reducible refine (culletlaw07_picked.calls a2 0 (wrap64 ((l1.length : Int) - 1)) t404 _ A24.out).mono ?_); rintro e w' ⟨rfl, ⟨nd, rfl⟩⟩; (try first | exact ⟨rfl, _, World.drewN_drewN _ _ _⟩ | exact ⟨rfl, _, Eq.trans (World.drewN_drewN _ _ _) (congrArg (World.drewN _) (Nat.add_assoc _ _ _))⟩); have p405 : 0 ≤ (t404 : Int) := of_decide_eq_true zq6; have q405 : t404 < (l1.length : Int) := of_decide_eq_true zq6; obtain ⟨ad405, e405, hx405_0, hx405_1, hx405_2, hx405_3, hx405_4, hx405_5, hx405_6⟩ := at_T45 HR1.out t404 p405 q405; cases e405; replace hx405_0 := hcx HB.out hx405_0; replace hx405_1 := hcx HB.out hx405_1; replace hx405_2 := hcx HB.out hx405_2; replace hx405_3 := hcx HB.out hx405_3; replace hx405_4 := hcx HB.out hx405_4; replace hx405_5 := hcx HB.out hx405_5; replace hx405_6 := hcx HB.out hx405_6; replace p405 := eq_true p405; replace q405 := eq_true q405) | (go_at_call 11; (with_reducible refine (culletlaw07_looks.calls  t406 _ A84.out).mono ?_); rintro e w85 ⟨rfl, hb⟩; have n_ := as2 (blk_below (zq0 BK400.out) hb) (below_step zq2 hb); clear BK400 HB; obtain ⟨BK400, HB⟩ := n_; (try clear hb); (try clear hb2); (try clear hk); (try clear hi))); try go_wp2_with (first | (go_at_call 20; (with_reducible refine (culletlaw07_picked.calls a2 0 (wrap64 ((l1.length : Int) - 1)) t404 _ A24.out).mono ?_); rintro e w' ⟨rfl, ⟨nd, rfl⟩⟩; (try first | exact ⟨rfl, _, World.drewN_drewN _ _ _⟩ | exact ⟨rfl, _, Eq.trans (World.drewN_drewN _ _ _) (congrArg (World.drewN _) (Nat.add_assoc _ _ _))⟩); have p405 : 0 ≤ (t404 : Int) := of_decide_eq_true zq6; have q405 : t404 < (l1.length : Int) := of_decide_eq_true zq6; obtain ⟨ad405, e405, hx405_0, hx405_1, hx405_2, hx405_3, hx405_4, hx405_5, hx405_6⟩ := at_T45 HR1.out t404 p405 q405; cases e405; replace hx405_0 := hcx HB.out hx405_0; replace hx405_1 := hcx HB.out hx405_1; replace hx405_2 := hcx HB.out hx405_2; replace hx405_3 := hcx HB.out hx405_3; replace hx405_4 := hcx HB.out hx405_4; replace hx405_5 := hcx HB.out hx405_5; replace hx405_6 := hcx HB.out hx405_6; replace p405 := eq_true p405; replace q405 := eq_true q405) | (go_at_call 11; (with_reducible refine (culletlaw07_looks.calls  t406 _ A84.out).mono ?_); rintro e w85 ⟨rfl, hb⟩; have n_ := as2 (blk_below (zq0 BK400.out) hb) (below_step zq2 hb); clear BK400 HB; obtain ⟨BK400, HB⟩ := n_; (try clear hb); (try clear hb2); (try clear hk); (try clear hi))))
       go_ret
       exact ⟨zq11, zq2⟩
     ·rw [if_neg c26] at H
      exact absurd H zq53
    ·rw [if_neg c25] at H
     exact absurd H zq53
end Go.Proofs.Ytbpebehbfpgjbaa.P
end
