/- InspectTrust, as the seat states it: for every line of inspection, every log, every station, class and entry the statement's function returns true. No condition beyond the given row's own. -/
import Derived.Test.YtbpebehbfpgjbaaRows
import Derived.WalkKit
import Derived.ProofKit
import Derived.OpenShut
import Derived.ShutString
import Derived.ChangeOld
import Derived.Below
import Derived.SizedLaws
import Derived.Test.YtbpebehbfpgjbaaCtb
import Derived.Test.YtbpebehbfpgjbaaCtc
import Derived.Test.YtbpebehbfpgjbaaCtj
import Derived.Test.YtbpebehbfpgjbaaCtk
section
namespace Go.Proofs.Ytbpebehbfpgjbaa.P
open Go.RowKit Go.Proofs.YtbpebehbfpgjbaaW.PrintWords Go.Proofs.YtbpebehbfpgjbaaW.PrintLast Go.Proofs.YtbpebehbfpgjbaaW.PrintMore
attribute [local go_sem] max2_int min2_int max_two min_two max_three min_three max_four min_four
set_option linter.unusedVariables false
set_option linter.unusedSimpArgs false
def culletlaw07_InspectTrust.j0 : Nat → List (S45) → Int → Bool → Int → List (S58) → List (S56) → Option (Bool)
 | 0, _, _, _, _, _, _ => none
 | k + 1, x1, x4, x48, x545000, x545001, x545002 => if x48 = true then (some false) else ((inspect_Judge.f x545000 x545001 x545002 x1 x4).bind fun bt551 => ((culletref07_Judge.f k x545000 x545001 x545002 x1 x4).bind fun bt554 => (if bt551.1 = bt554.1 then (if bt551.2.1 = bt554.2.1 then (if bt551.2.2 = bt554.2.2 then ((culletlaw07_looks.f).bind fun t557 => (some t557)) else (some false)) else (some false)) else (some false))))
def culletlaw07_InspectTrust.f (k : Nat) (a0_0 : Int) (l0_1 : List (S58)) (l0_2 : List (S56)) (l1 : List (S45)) (a2 : Int) (a3 : Int) (a4 : Int) : Option (Bool) := (culletlaw07_many.f k a0_0 l0_1 l0_2 l1).bind fun t545 => (if t545 = true then ((culletlaw07_looks.f).bind fun t546 => (some t546)) else ((inspect_Trusted.f a0_0 l0_1 l0_2 l1 a2 a3 a4).bind fun bt547 => ((culletref07_Trusted.f k a0_0 l0_1 l0_2 l1 a2 a3 a4).bind fun bt549 => (if bt547.1 = bt549.1 then (culletlaw07_InspectTrust.j0 k l1 a4 (bt547.2 != bt549.2) a0_0 l0_1 l0_2) else (culletlaw07_InspectTrust.j0 k l1 a4 true a0_0 l0_1 l0_2)))))
set_option maxHeartbeats 8000000 in
set_option maxRecDepth 100000 in
theorem culletlaw07_InspectTrust.calls (k : Nat) (a0_0 : Int) (A0_1 : Option Addr) (c0_1 : Nat) (l0_1 : List (S58)) (A0_2 : Option Addr) (c0_2 : Nat) (l0_2 : List (S56)) (A1 : Option Addr) (c1 : Nat) (l1 : List (S45)) (a2 : Int) (a3 : Int) (a4 : Int) (r : Bool) (w : World) (hr0_1 : Kd.C k58 w A0_1 l0_1.length l0_1) (hc0_1 : l0_1.length ≤ c0_1) (hr0_2 : Kd.C k56 w A0_2 l0_2.length l0_2) (hc0_2 : l0_2.length ≤ c0_2) (hr1 : Kd.C k45 w A1 l1.length l1) (hc1 : l1.length ≤ c1) (h : culletlaw07_InspectTrust.f k a0_0 l0_1 l0_2 l1 a2 a3 a4 = some r) :
  Calls Try.prog 7 #[.agg #[.int .i64 a0_0, .slice A0_1 l0_1.length c0_1, .slice A0_2 l0_2.length c0_2], .slice A1 l1.length c1, .int .i64 a2, .int .i64 a3, .int .i64 a4] w fun e w' => e = .returned (.bool r) ∧ Below w.heap.size w w' := by
 have hu25 := Try.underlying25
 have HR0_1 := Aside0.mk hr0_1
 have HC0_1 := Aside0.mk hc0_1
 clear hr0_1 hc0_1
 have HR0_2 := Aside0.mk hr0_2
 have HC0_2 := Aside0.mk hc0_2
 clear hr0_2 hc0_2
 have HR1 := Aside0.mk hr1
 have HC1 := Aside0.mk hc1
 clear hr1 hc1
 have HB := Aside0.mk (Below.refl w.heap.size w)
 have H : ((culletlaw07_many.f k a0_0 l0_1 l0_2 l1).bind fun t545 => (if t545 = true then ((culletlaw07_looks.f).bind fun t546 => (some t546)) else ((inspect_Trusted.f a0_0 l0_1 l0_2 l1 a2 a3 a4).bind fun bt547 => ((culletref07_Trusted.f k a0_0 l0_1 l0_2 l1 a2 a3 a4).bind fun bt549 => (if bt547.1 = bt549.1 then (culletlaw07_InspectTrust.j0 k l1 a4 (bt547.2 != bt549.2) a0_0 l0_1 l0_2) else (culletlaw07_InspectTrust.j0 k l1 a4 true a0_0 l0_1 l0_2)))))) = some r := h
 clear h
 replace H := Option.bind_eq_some_iff.mp H
 obtain ⟨t545, A60, H⟩ := H
 replace H : (if t545 = true then ((culletlaw07_looks.f).bind fun t546 => (some t546)) else ((inspect_Trusted.f a0_0 l0_1 l0_2 l1 a2 a3 a4).bind fun bt547 => ((culletref07_Trusted.f k a0_0 l0_1 l0_2 l1 a2 a3 a4).bind fun bt549 => (if bt547.1 = bt549.1 then (culletlaw07_InspectTrust.j0 k l1 a4 (bt547.2 != bt549.2) a0_0 l0_1 l0_2) else (culletlaw07_InspectTrust.j0 k l1 a4 true a0_0 l0_1 l0_2))))) = some r := H
 have A6 := Aside0.mk A60
 clear A60
 by_cases c7 : t545 = true
 ·subst c7
  have H1 : ((culletlaw07_looks.f).bind fun t546 => (some t546)) = some r := by rw [if_pos rfl] at H; exact H
  clear H
  have H := H1
  clear H1
  replace H := Option.bind_eq_some_iff.mp H
  obtain ⟨t546, A80, H⟩ := H
  replace H : (some t546) = some r := H
  have A8 := Aside0.mk A80
  clear A80
  obtain rfl := Option.some.inj H
  go_enter Try.func7, Try.ntmps7
  go_wp2_with (first | ((with_reducible refine gate_dst (N := 5) rfl ?_); refine box_event ?hg (N := 5) ?hd (cs := #[.int .i64 a0_0, .slice A0_1 l0_1.length c0_1, .slice A0_2 l0_2.length c0_2]) (t := 25) ?hr ?_; (case hd => rfl); (case hg => rfl); (case hr => exact zq9); intro gb544 hg w9 hbox hb; have n_ := as4 (below_step zq2 hb) (hbox) ((zq29 : w.heap.size ≤ gb544)) ((zq29 : w.heap.size ≤ gb544)); clear HB hb hbox hg; obtain ⟨HB, BK544, GW544, GE544⟩ := n_; obtain ⟨hcz10_0, hcz10_1, hcz10_2, hfz10_0, hfz10_1, hfz10_2⟩ := bcs3 BK544.out) | ((with_reducible refine gate_callee (f := 10) rfl ?_); refine goesL_ (some 21) rfl rfl Try.func10 zq32 rfl #[.agg #[.int .i64 a0_0, .slice A0_1 l0_1.length c0_1, .slice A0_2 l0_2.length c0_2], .slice A1 l1.length c1] rfl zq3 ?_; (with_reducible refine (culletlaw07_many.calls k a0_0 _ _ l0_1 _ _ l0_2 _ _ l1 true _ ?side1 ?side2 ?side3 ?side4 ?side5 ?side6 A6.out).mono ?_); (case side1 => exact zq4); (case side2 => exact HC0_1.out); (case side3 => exact zq5); (case side4 => exact HC0_2.out); (case side5 => exact zq12); (case side6 => exact HC1.out); rintro e w11 ⟨rfl, hb⟩; refine ⟨_, rfl, ?_⟩; have n_ := as2 (blk_below (zq0 BK544.out) hb) (below_step zq20 hb); clear BK544 HB; obtain ⟨BK544, HB⟩ := n_; (try clear hb); (try clear hb2); (try clear hk); (try clear hi)) | ((with_reducible refine gate_callee (f := 11) rfl ?_); refine goesL_ (some 22) rfl rfl Try.func11 zq32 rfl #[] rfl zq3 ?_; (with_reducible refine (culletlaw07_looks.calls  t546 _ A8.out).mono ?_); rintro e w12 ⟨rfl, hb⟩; refine ⟨_, rfl, ?_⟩; have n_ := as2 (blk_below (zq0 BK544.out) hb) (below_step zq20 hb); clear BK544 HB; obtain ⟨BK544, HB⟩ := n_; (try clear hb); (try clear hb2); (try clear hk); (try clear hi)))
  go_ret
  exact ⟨zq7, zq20⟩
 ·replace c7 := Bool.eq_false_iff.mpr c7
  subst c7
  have H1 : ((inspect_Trusted.f a0_0 l0_1 l0_2 l1 a2 a3 a4).bind fun bt547 => ((culletref07_Trusted.f k a0_0 l0_1 l0_2 l1 a2 a3 a4).bind fun bt549 => (if bt547.1 = bt549.1 then (culletlaw07_InspectTrust.j0 k l1 a4 (bt547.2 != bt549.2) a0_0 l0_1 l0_2) else (culletlaw07_InspectTrust.j0 k l1 a4 true a0_0 l0_1 l0_2)))) = some r := by rw [if_neg (show ¬ (false = true) by decide)] at H; exact H
  clear H
  have H := H1
  clear H1
  replace H := Option.bind_eq_some_iff.mp H
  obtain ⟨⟨t547, t548⟩, A130, H⟩ := H
  replace H : ((culletref07_Trusted.f k a0_0 l0_1 l0_2 l1 a2 a3 a4).bind fun bt549 => (if t547 = bt549.1 then (culletlaw07_InspectTrust.j0 k l1 a4 (t548 != bt549.2) a0_0 l0_1 l0_2) else (culletlaw07_InspectTrust.j0 k l1 a4 true a0_0 l0_1 l0_2))) = some r := H
  have A13 := Aside0.mk A130
  clear A130
  replace H := Option.bind_eq_some_iff.mp H
  obtain ⟨⟨t549, t550⟩, A140, H⟩ := H
  replace H : (if t547 = t549 then (culletlaw07_InspectTrust.j0 k l1 a4 (t548 != t550) a0_0 l0_1 l0_2) else (culletlaw07_InspectTrust.j0 k l1 a4 true a0_0 l0_1 l0_2)) = some r := H
  have A14 := Aside0.mk A140
  clear A140
  have HC15 := Aside0.mk H
  clear H
  go_enter Try.func7, Try.ntmps7
  go_upto_region 5 with (first | ((with_reducible refine gate_dst (N := 5) rfl ?_); refine box_event ?hg (N := 5) ?hd (cs := #[.int .i64 a0_0, .slice A0_1 l0_1.length c0_1, .slice A0_2 l0_2.length c0_2]) (t := 25) ?hr ?_; (case hd => rfl); (case hg => rfl); (case hr => exact zq9); intro gb544 hg w16 hbox hb; have n_ := as4 (below_step zq2 hb) (hbox) ((zq29 : w.heap.size ≤ gb544)) ((zq29 : w.heap.size ≤ gb544)); clear HB hb hbox hg; obtain ⟨HB, BK544, GW544, GE544⟩ := n_; obtain ⟨hcz17_0, hcz17_1, hcz17_2, hfz17_0, hfz17_1, hfz17_2⟩ := bcs3 BK544.out) | ((with_reducible refine gate_callee (f := 10) rfl ?_); refine goesL_ (some 21) rfl rfl Try.func10 zq32 rfl #[.agg #[.int .i64 a0_0, .slice A0_1 l0_1.length c0_1, .slice A0_2 l0_2.length c0_2], .slice A1 l1.length c1] rfl zq3 ?_; (with_reducible refine (culletlaw07_many.calls k a0_0 _ _ l0_1 _ _ l0_2 _ _ l1 false _ ?side1 ?side2 ?side3 ?side4 ?side5 ?side6 A6.out).mono ?_); (case side1 => exact zq4); (case side2 => exact HC0_1.out); (case side3 => exact zq5); (case side4 => exact HC0_2.out); (case side5 => exact zq12); (case side6 => exact HC1.out); rintro e w18 ⟨rfl, hb⟩; refine ⟨_, rfl, ?_⟩; have n_ := as2 (blk_below (zq0 BK544.out) hb) (below_step zq20 hb); clear BK544 HB; obtain ⟨BK544, HB⟩ := n_; (try clear hb); (try clear hb2); (try clear hk); (try clear hi); obtain ⟨hcz19_0, hcz19_1, hcz19_2, hfz19_0, hfz19_1, hfz19_2⟩ := bcs3 BK544.out) | ((with_reducible refine gate_callee (f := 25) rfl ?_); refine goesL_ (some 29) rfl rfl Try.func25 zq32 rfl #[.agg #[.int .i64 a0_0, .slice A0_1 l0_1.length c0_1, .slice A0_2 l0_2.length c0_2], .slice A1 l1.length c1, .int .i64 a2, .int .i64 a3, .int .i64 a4] rfl zq3 ?_; (with_reducible refine (inspect_Trusted.calls a0_0 _ _ l0_1 _ _ l0_2 _ _ l1 a2 a3 a4 t547 t548 _ ?side1 ?side2 ?side3 ?side4 ?side5 ?side6 A13.out).mono ?_); (case side1 => exact zq4); (case side2 => exact HC0_1.out); (case side3 => exact zq5); (case side4 => exact HC0_2.out); (case side5 => exact zq12); (case side6 => exact HC1.out); rintro e w20 ⟨rfl, hb⟩; refine ⟨_, rfl, ?_⟩; have n_ := as2 (blk_below (zq0 BK544.out) hb) (below_step zq20 hb); clear BK544 HB; obtain ⟨BK544, HB⟩ := n_; (try clear hb); (try clear hb2); (try clear hk); (try clear hi); obtain ⟨hcz21_0, hcz21_1, hcz21_2, hfz21_0, hfz21_1, hfz21_2⟩ := bcs3 BK544.out) | ((with_reducible refine gate_callee (f := 26) rfl ?_); refine goesL_ (some 38) rfl rfl Try.func26 zq32 rfl #[.agg #[.int .i64 a0_0, .slice A0_1 l0_1.length c0_1, .slice A0_2 l0_2.length c0_2], .slice A1 l1.length c1, .int .i64 a2, .int .i64 a3, .int .i64 a4] rfl zq3 ?_; (with_reducible refine (culletref07_Trusted.calls k a0_0 _ _ l0_1 _ _ l0_2 _ _ l1 a2 a3 a4 t549 t550 _ ?side1 ?side2 ?side3 ?side4 ?side5 ?side6 A14.out).mono ?_); (case side1 => exact zq4); (case side2 => exact HC0_1.out); (case side3 => exact zq5); (case side4 => exact HC0_2.out); (case side5 => exact zq12); (case side6 => exact HC1.out); rintro e w22 ⟨rfl, hb⟩; refine ⟨_, rfl, ?_⟩; have n_ := as2 (blk_below (zq0 BK544.out) hb) (below_step zq20 hb); clear BK544 HB; obtain ⟨BK544, HB⟩ := n_; (try clear hb); (try clear hb2); (try clear hk); (try clear hi)))
  (try simp only [Act.put, List.setIfInBounds_toArray, List.set_cons_zero, List.set_cons_succ])
  go_cut [48] (fun v48 wc => ∃ (kq : Nat) (x48_14 : Bool), v48 = .bool x48_14 ∧ Aside0 (culletlaw07_InspectTrust.j0 kq l1 a4 x48_14 a0_0 l0_1 l0_2 = some r) ∧ Aside0 (kq ≤ k) ∧ Aside0 (wc.heap[gb544]? = some (.cells #[.int .i64 a0_0, (.slice A0_1 l0_1.length c0_1), (.slice A0_2 l0_2.length c0_2)] 25 (0, 0))) ∧ Aside0 (Below w.heap.size w wc))
  case first =>
   have H := HC15.out
   clear HC15
   by_cases c23 : t547 = t549
   ·rw [if_pos c23] at H
    have c23b0 : (t547 == t549) = true := beq_iff_eq.mpr c23
    have c23b1 : (t547 != t549) = false := bne_eq_false_iff_eq.mpr c23
    clear c23
    (first | rw [c23b0] | (simp only [i64_w, i32_w]; rw [c23b0]) | skip)
    have H' := Aside0.mk H
    clear H
    go_wp2
    go_meet
    case rel => exact ⟨_, ((t548 != t550)), zq8, H', ⟨zq41⟩, ⟨(zq0 BK544.out)⟩, ⟨zq20⟩⟩
   ·rw [if_neg c23] at H
    have c23b0 : (t547 == t549) = false := beq_eq_false_iff_ne.mpr c23
    have c23b1 : (t547 != t549) = true := bne_iff_ne.mpr c23
    (first | rw [c23b0] | (simp only [i64_w, i32_w]; rw [c23b0]) | skip)
    have H' := Aside0.mk H
    clear H
    go_wp2
    go_meet
    case rel => exact ⟨_, (true), zq8, H', ⟨zq41⟩, ⟨(zq0 BK544.out)⟩, ⟨zq20⟩⟩
  case rest =>
   clear HC15
   try clear c1
   try clear c2
   try clear p2
   try clear c7
   try clear c10
   try clear c11
   try clear c23
   try clear c23b0
   try clear c23b1
   try clear hcz10_0 hcz10_1 hcz10_2 hfz10_0 hfz10_1 hfz10_2
   try clear hcz17_0 hcz17_1 hcz17_2 hfz17_0 hfz17_1 hfz17_2
   try clear hcz19_0 hcz19_1 hcz19_2 hfz19_0 hfz19_1 hfz19_2
   try clear hcz21_0 hcz21_1 hcz21_2 hfz21_0 hfz21_1 hfz21_2
   obtain ⟨kq, x48_14, rfl, HA, HJ14, BK544, HB⟩ := hcut
   cases kq with
   | zero => exact absurd HA.out (by simp [culletlaw07_InspectTrust.j0])
   | succ kj14 =>
    have H := HA.out
    clear HA
    simp only [culletlaw07_InspectTrust.j0] at H
    by_cases c24 : x48_14 = true
    ·subst c24
     have H1 : (some false) = some r := by rw [if_pos rfl] at H; exact H
     clear H
     have H := H1
     clear H1
     obtain rfl := Option.some.inj H
     go_wp2
     go_ret
     exact ⟨zq7, zq20⟩
    ·replace c24 := Bool.eq_false_iff.mpr c24
     subst c24
     have H1 : ((inspect_Judge.f a0_0 l0_1 l0_2 l1 a4).bind fun bt551 => ((culletref07_Judge.f kj14 a0_0 l0_1 l0_2 l1 a4).bind fun bt554 => (if bt551.1 = bt554.1 then (if bt551.2.1 = bt554.2.1 then (if bt551.2.2 = bt554.2.2 then ((culletlaw07_looks.f).bind fun t557 => (some t557)) else (some false)) else (some false)) else (some false)))) = some r := by rw [if_neg (show ¬ (false = true) by decide)] at H; exact H
     clear H
     have H := H1
     clear H1
     replace H := Option.bind_eq_some_iff.mp H
     obtain ⟨⟨t551, t552, t553⟩, A250, H⟩ := H
     replace H : ((culletref07_Judge.f kj14 a0_0 l0_1 l0_2 l1 a4).bind fun bt554 => (if t551 = bt554.1 then (if t552 = bt554.2.1 then (if t553 = bt554.2.2 then ((culletlaw07_looks.f).bind fun t557 => (some t557)) else (some false)) else (some false)) else (some false))) = some r := H
     have A25 := Aside0.mk A250
     clear A250
     replace H := Option.bind_eq_some_iff.mp H
     obtain ⟨⟨t554, t555, t556⟩, A260, H⟩ := H
     replace H : (if t551 = t554 then (if t552 = t555 then (if t553 = t556 then ((culletlaw07_looks.f).bind fun t557 => (some t557)) else (some false)) else (some false)) else (some false)) = some r := H
     have A26 := Aside0.mk A260
     clear A260
     by_cases c27 : t551 = t554
     ·rw [if_pos c27] at H
      have c27b0 : (t551 == t554) = true := beq_iff_eq.mpr c27
      have c27b1 : (t551 != t554) = false := bne_eq_false_iff_eq.mpr c27
      clear c27
      by_cases c28 : t552 = t555
      ·rw [if_pos c28] at H
       have c28b0 : (t552 == t555) = true := beq_iff_eq.mpr c28
       have c28b1 : (t552 != t555) = false := bne_eq_false_iff_eq.mpr c28
       clear c28
       by_cases c29 : t553 = t556
       ·rw [if_pos c29] at H
        have c29b0 : (t553 == t556) = true := beq_iff_eq.mpr c29
        have c29b1 : (t553 != t556) = false := bne_eq_false_iff_eq.mpr c29
        clear c29
        replace H := Option.bind_eq_some_iff.mp H
        obtain ⟨t557, A300, H⟩ := H
        replace H : (some t557) = some r := H
        have A30 := Aside0.mk A300
        clear A300
        obtain rfl := Option.some.inj H
        obtain ⟨hcz31_0, hcz31_1, hcz31_2, hfz31_0, hfz31_1, hfz31_2⟩ := bcs3 BK544.out
        go_wp2_with (first | ((with_reducible refine gate_callee (f := 21) rfl ?_); refine goesL_ (some 53) rfl rfl Try.func21 zq32 rfl #[.agg #[.int .i64 a0_0, .slice A0_1 l0_1.length c0_1, .slice A0_2 l0_2.length c0_2], .slice A1 l1.length c1, .int .i64 a4] rfl zq3 ?_; (with_reducible refine (inspect_Judge.calls a0_0 _ _ l0_1 _ _ l0_2 _ _ l1 a4 t551 t552 t553 _ ?side1 ?side2 ?side3 ?side4 ?side5 ?side6 A25.out).mono ?_); (case side1 => exact zq4); (case side2 => exact HC0_1.out); (case side3 => exact zq5); (case side4 => exact HC0_2.out); (case side5 => exact zq12); (case side6 => exact HC1.out); rintro e w32 ⟨rfl, hb⟩; refine ⟨_, rfl, ?_⟩; have n_ := as2 (blk_below (zq0 BK544.out) hb) (below_step zq20 hb); clear BK544 HB; obtain ⟨BK544, HB⟩ := n_; (try clear hb); (try clear hb2); (try clear hk); (try clear hi); obtain ⟨hcz33_0, hcz33_1, hcz33_2, hfz33_0, hfz33_1, hfz33_2⟩ := bcs3 BK544.out) | ((with_reducible refine gate_callee (f := 27) rfl ?_); refine goesL_ (some 61) rfl rfl Try.func27 zq32 rfl #[.agg #[.int .i64 a0_0, .slice A0_1 l0_1.length c0_1, .slice A0_2 l0_2.length c0_2], .slice A1 l1.length c1, .int .i64 a4] rfl zq3 ?_; (with_reducible refine (culletref07_Judge.calls kj14 a0_0 _ _ l0_1 _ _ l0_2 _ _ l1 a4 t554 t555 t556 _ ?side1 ?side2 ?side3 ?side4 ?side5 ?side6 A26.out).mono ?_); (case side1 => exact zq4); (case side2 => exact HC0_1.out); (case side3 => exact zq5); (case side4 => exact HC0_2.out); (case side5 => exact zq12); (case side6 => exact HC1.out); rintro e w34 ⟨rfl, hb⟩; refine ⟨_, rfl, ?_⟩; have n_ := as2 (blk_below (zq0 BK544.out) hb) (below_step zq20 hb); clear BK544 HB; obtain ⟨BK544, HB⟩ := n_; (try clear hb); (try clear hb2); (try clear hk); (try clear hi)) | (go_at_call 11; (with_reducible refine (culletlaw07_looks.calls  t557 _ A30.out).mono ?_); rintro e w35 ⟨rfl, hb⟩; have n_ := as2 (blk_below (zq0 BK544.out) hb) (below_step zq20 hb); clear BK544 HB; obtain ⟨BK544, HB⟩ := n_; (try clear hb); (try clear hb2); (try clear hk); (try clear hi)))
        go_ret
        exact ⟨zq7, zq20⟩
       ·rw [if_neg c29] at H
        have c29b0 : (t553 == t556) = false := beq_eq_false_iff_ne.mpr c29
        have c29b1 : (t553 != t556) = true := bne_iff_ne.mpr c29
        obtain rfl := Option.some.inj H
        obtain ⟨hcz36_0, hcz36_1, hcz36_2, hfz36_0, hfz36_1, hfz36_2⟩ := bcs3 BK544.out
        go_wp2_with (first | ((with_reducible refine gate_callee (f := 21) rfl ?_); refine goesL_ (some 53) rfl rfl Try.func21 zq32 rfl #[.agg #[.int .i64 a0_0, .slice A0_1 l0_1.length c0_1, .slice A0_2 l0_2.length c0_2], .slice A1 l1.length c1, .int .i64 a4] rfl zq3 ?_; (with_reducible refine (inspect_Judge.calls a0_0 _ _ l0_1 _ _ l0_2 _ _ l1 a4 t551 t552 t553 _ ?side1 ?side2 ?side3 ?side4 ?side5 ?side6 A25.out).mono ?_); (case side1 => exact zq4); (case side2 => exact HC0_1.out); (case side3 => exact zq5); (case side4 => exact HC0_2.out); (case side5 => exact zq12); (case side6 => exact HC1.out); rintro e w37 ⟨rfl, hb⟩; refine ⟨_, rfl, ?_⟩; have n_ := as2 (blk_below (zq0 BK544.out) hb) (below_step zq20 hb); clear BK544 HB; obtain ⟨BK544, HB⟩ := n_; (try clear hb); (try clear hb2); (try clear hk); (try clear hi); obtain ⟨hcz38_0, hcz38_1, hcz38_2, hfz38_0, hfz38_1, hfz38_2⟩ := bcs3 BK544.out) | ((with_reducible refine gate_callee (f := 27) rfl ?_); refine goesL_ (some 61) rfl rfl Try.func27 zq32 rfl #[.agg #[.int .i64 a0_0, .slice A0_1 l0_1.length c0_1, .slice A0_2 l0_2.length c0_2], .slice A1 l1.length c1, .int .i64 a4] rfl zq3 ?_; (with_reducible refine (culletref07_Judge.calls kj14 a0_0 _ _ l0_1 _ _ l0_2 _ _ l1 a4 t554 t555 t556 _ ?side1 ?side2 ?side3 ?side4 ?side5 ?side6 A26.out).mono ?_); (case side1 => exact zq4); (case side2 => exact HC0_1.out); (case side3 => exact zq5); (case side4 => exact HC0_2.out); (case side5 => exact zq12); (case side6 => exact HC1.out); rintro e w39 ⟨rfl, hb⟩; refine ⟨_, rfl, ?_⟩; have n_ := as2 (blk_below (zq0 BK544.out) hb) (below_step zq20 hb); clear BK544 HB; obtain ⟨BK544, HB⟩ := n_; (try clear hb); (try clear hb2); (try clear hk); (try clear hi)))
        go_ret
        exact ⟨zq7, zq20⟩
      ·rw [if_neg c28] at H
       have c28b0 : (t552 == t555) = false := beq_eq_false_iff_ne.mpr c28
       have c28b1 : (t552 != t555) = true := bne_iff_ne.mpr c28
       obtain rfl := Option.some.inj H
       obtain ⟨hcz40_0, hcz40_1, hcz40_2, hfz40_0, hfz40_1, hfz40_2⟩ := bcs3 BK544.out
       go_wp2_with (first | ((with_reducible refine gate_callee (f := 21) rfl ?_); refine goesL_ (some 53) rfl rfl Try.func21 zq32 rfl #[.agg #[.int .i64 a0_0, .slice A0_1 l0_1.length c0_1, .slice A0_2 l0_2.length c0_2], .slice A1 l1.length c1, .int .i64 a4] rfl zq3 ?_; (with_reducible refine (inspect_Judge.calls a0_0 _ _ l0_1 _ _ l0_2 _ _ l1 a4 t551 t552 t553 _ ?side1 ?side2 ?side3 ?side4 ?side5 ?side6 A25.out).mono ?_); (case side1 => exact zq4); (case side2 => exact HC0_1.out); (case side3 => exact zq5); (case side4 => exact HC0_2.out); (case side5 => exact zq12); (case side6 => exact HC1.out); rintro e w41 ⟨rfl, hb⟩; refine ⟨_, rfl, ?_⟩; have n_ := as2 (blk_below (zq0 BK544.out) hb) (below_step zq20 hb); clear BK544 HB; obtain ⟨BK544, HB⟩ := n_; (try clear hb); (try clear hb2); (try clear hk); (try clear hi); obtain ⟨hcz42_0, hcz42_1, hcz42_2, hfz42_0, hfz42_1, hfz42_2⟩ := bcs3 BK544.out) | ((with_reducible refine gate_callee (f := 27) rfl ?_); refine goesL_ (some 61) rfl rfl Try.func27 zq32 rfl #[.agg #[.int .i64 a0_0, .slice A0_1 l0_1.length c0_1, .slice A0_2 l0_2.length c0_2], .slice A1 l1.length c1, .int .i64 a4] rfl zq3 ?_; (with_reducible refine (culletref07_Judge.calls kj14 a0_0 _ _ l0_1 _ _ l0_2 _ _ l1 a4 t554 t555 t556 _ ?side1 ?side2 ?side3 ?side4 ?side5 ?side6 A26.out).mono ?_); (case side1 => exact zq4); (case side2 => exact HC0_1.out); (case side3 => exact zq5); (case side4 => exact HC0_2.out); (case side5 => exact zq12); (case side6 => exact HC1.out); rintro e w43 ⟨rfl, hb⟩; refine ⟨_, rfl, ?_⟩; have n_ := as2 (blk_below (zq0 BK544.out) hb) (below_step zq20 hb); clear BK544 HB; obtain ⟨BK544, HB⟩ := n_; (try clear hb); (try clear hb2); (try clear hk); (try clear hi)))
       go_ret
       exact ⟨zq7, zq20⟩
     ·rw [if_neg c27] at H
      have c27b0 : (t551 == t554) = false := beq_eq_false_iff_ne.mpr c27
      have c27b1 : (t551 != t554) = true := bne_iff_ne.mpr c27
      obtain rfl := Option.some.inj H
      obtain ⟨hcz44_0, hcz44_1, hcz44_2, hfz44_0, hfz44_1, hfz44_2⟩ := bcs3 BK544.out
      go_wp2_with (first | ((with_reducible refine gate_callee (f := 21) rfl ?_); refine goesL_ (some 53) rfl rfl Try.func21 zq32 rfl #[.agg #[.int .i64 a0_0, .slice A0_1 l0_1.length c0_1, .slice A0_2 l0_2.length c0_2], .slice A1 l1.length c1, .int .i64 a4] rfl zq3 ?_; (with_reducible refine (inspect_Judge.calls a0_0 _ _ l0_1 _ _ l0_2 _ _ l1 a4 t551 t552 t553 _ ?side1 ?side2 ?side3 ?side4 ?side5 ?side6 A25.out).mono ?_); (case side1 => exact zq4); (case side2 => exact HC0_1.out); (case side3 => exact zq5); (case side4 => exact HC0_2.out); (case side5 => exact zq12); (case side6 => exact HC1.out); rintro e w45 ⟨rfl, hb⟩; refine ⟨_, rfl, ?_⟩; have n_ := as2 (blk_below (zq0 BK544.out) hb) (below_step zq20 hb); clear BK544 HB; obtain ⟨BK544, HB⟩ := n_; (try clear hb); (try clear hb2); (try clear hk); (try clear hi); obtain ⟨hcz46_0, hcz46_1, hcz46_2, hfz46_0, hfz46_1, hfz46_2⟩ := bcs3 BK544.out) | ((with_reducible refine gate_callee (f := 27) rfl ?_); refine goesL_ (some 61) rfl rfl Try.func27 zq32 rfl #[.agg #[.int .i64 a0_0, .slice A0_1 l0_1.length c0_1, .slice A0_2 l0_2.length c0_2], .slice A1 l1.length c1, .int .i64 a4] rfl zq3 ?_; (with_reducible refine (culletref07_Judge.calls kj14 a0_0 _ _ l0_1 _ _ l0_2 _ _ l1 a4 t554 t555 t556 _ ?side1 ?side2 ?side3 ?side4 ?side5 ?side6 A26.out).mono ?_); (case side1 => exact zq4); (case side2 => exact HC0_1.out); (case side3 => exact zq5); (case side4 => exact HC0_2.out); (case side5 => exact zq12); (case side6 => exact HC1.out); rintro e w47 ⟨rfl, hb⟩; refine ⟨_, rfl, ?_⟩; have n_ := as2 (blk_below (zq0 BK544.out) hb) (below_step zq20 hb); clear BK544 HB; obtain ⟨BK544, HB⟩ := n_; (try clear hb); (try clear hb2); (try clear hk); (try clear hi)))
      go_ret
      exact ⟨zq7, zq20⟩
theorem many_l1 (a0 : Int) (fl : List S58) (st : List S56) (h : st.length ≤ 20) : ∀ r i k (n : Int), i + r = st.length → r < k → ∃ b, culletlaw07_many.l1 k n (i : Int) a0 fl st = some b
 | 0, i, k, n, hi, hk => by
  obtain ⟨k, rfl⟩ : ∃ m, k = m + 1 := ⟨k - 1, zq17⟩
  rw [culletlaw07_many.l1, if_neg zq17]
  exact ⟨_, rfl⟩
 | r + 1, i, k, n, hi, hk => by
  obtain ⟨k, rfl⟩ : ∃ m, k = m + 1 := ⟨k - 1, zq17⟩
  rw [culletlaw07_many.l1, if_pos zq17, if_pos zq17, wsucc i zq17]
  exact many_l1 a0 fl st h r (i + 1) k _ zq17 zq17
theorem many_l0 (a0 : Int) (fl : List S58) (st : List S56) (hf : fl.length ≤ 20) (h : st.length ≤ 20) : ∀ r i k (n : Int), i + r = fl.length → r + 22 < k → ∃ b, culletlaw07_many.l0 k n (i : Int) a0 fl st = some b
 | 0, i, k, n, hi, hk => by
  obtain ⟨k, rfl⟩ : ∃ m, k = m + 1 := ⟨k - 1, zq17⟩
  rw [culletlaw07_many.l0, if_neg zq17]
  exact many_l1 a0 fl st h st.length 0 k n zq17 zq17
 | r + 1, i, k, n, hi, hk => by
  obtain ⟨k, rfl⟩ : ∃ m, k = m + 1 := ⟨k - 1, zq17⟩
  rw [culletlaw07_many.l0, if_pos zq17, if_pos zq17, wsucc i zq17]
  exact many_l0 a0 fl st hf h r (i + 1) k _ zq17 zq17
theorem many_some (a0 : Int) (fl : List S58) (st : List S56) (l : List S45) (k : Nat) (hk : 60 ≤ k) : ∃ b, culletlaw07_many.f k a0 fl st l = some b ∧ (b = false → fl.length ≤ 20 ∧ st.length ≤ 20 ∧ l.length ≤ 600) := by
 obtain ⟨k, rfl⟩ : ∃ m, k = m + 1 := ⟨k - 1, zq17⟩
 have ht : culletlaw07_many.j0 (k + 1) true a0 fl st = some true := by rw [culletlaw07_many.j0, if_pos rfl]
 unfold culletlaw07_many.f
 by_cases h1 : (fl.length : Int) > 20
 ·rw [if_pos h1, ht]
  exact ⟨true, rfl, fun h => by cases h⟩
 ·rw [if_neg h1]
  by_cases h2 : (st.length : Int) > 20
  ·rw [if_pos h2, ht]
   exact ⟨true, rfl, fun h => by cases h⟩
  ·rw [if_neg h2]
   have hf : ∃ b, culletlaw07_many.j0 (k + 1) false a0 fl st = some b := by
    rw [culletlaw07_many.j0, if_neg zq53]
    exact many_l0 a0 fl st zq17 zq17 fl.length 0 k 0 zq17 zq17
   have hlast : ∃ b, culletlaw07_many.j0 (k + 1) (decide ((l.length : Int) > 600)) a0 fl st = some b ∧ (b = false → fl.length ≤ 20 ∧ st.length ≤ 20 ∧ l.length ≤ 600) := by
    by_cases h3 : (l.length : Int) > 600
    ·rw [decide_eq_true h3, ht]
     exact ⟨true, rfl, fun h => by cases h⟩
    ·rw [decide_eq_false h3]
     obtain ⟨b, hb⟩ := hf
     exact ⟨b, hb, fun _ => by omega⟩
   by_cases h4 : (l.length : Int) > 40
   ·rw [if_pos h4]
    by_cases h5 : (l.length : Int) ≤ 512
    ·rw [if_pos h5, ht]
     exact ⟨true, rfl, fun h => by cases h⟩
    ·rw [if_neg h5]
     exact hlast
   ·rw [if_neg h4]
    exact hlast
theorem trust_pure (a0 : Int) (fl : List S58) (st : List S56) (l : List S45) (a2 a3 a4 : Int) : culletlaw07_InspectTrust.f 3000 a0 fl st l a2 a3 a4 = some true := by
 obtain ⟨b, hb, _⟩ := many_some a0 fl st l 3000 zq17
 unfold culletlaw07_InspectTrust.f
 rw [hb, Option.bind_some]
 cases b
 ·rw [if_neg zq53, rTrusted_eq a0 fl st l a2 a3 a4 3000 zq17]
  unfold inspect_Trusted.f
  simp only [Option.bind_some, if_true, bne_self_eq_false]
  rw [culletlaw07_InspectTrust.j0, if_neg zq53, rJudge_eq a0 fl st l a4 2999 zq17]
  unfold inspect_Judge.f
  simp only [Option.bind_some, if_true]
  rfl
 ·rfl
end Go.Proofs.Ytbpebehbfpgjbaa.P
end
section
namespace Go.Proofs.Ytbpebehbfpgjbaa.inspectTrust
open Go.ChangeShapes Go.WideShapes Go.ChangeAt Go.RowKit Go.Proofs.Ytbpebehbfpgjbaa.P
set_option linter.unusedVariables false
theorem own : ownKnob Try.prog.godebug = none := by kernel_rfl
theorem laidOut : laidOutB Try.prog = true := by kernel_rfl
set_option maxRecDepth 100000 in
theorem lifted (os : Os) (started : os.Started) (H : Type) (enc : TypeId × Value → H) :
  ReturnsInHanded {} Try.checked os 7 .any (Rows.inspectTrustSpec.pre6 enc Try.prog Try.f7 Rows.inspectTrustRow.domain false) (Rows.inspectTrustSpec.post enc Try.prog Try.f7 false true false false) := by
 refine returnsInHanded_of_change_sized (C := Try.checked) own started zq32 Try.func7
  (ChangeSpec.witness6 (enc := enc) (C := Try.checked) false ⟨#[], #[.agg #[.int .i64 0, .slice none 0 0, .slice none 0 0], .slice none 0 0, .int .i64 0, .int .i64 0, .int .i64 0], []⟩ 8 zq32 zq32 zq32 zq32) ?_
 intro W base args ds gs before hval0 hW hcnd hsz0 _
 have hval : ∀ (j : Nat) t v, Try.f7.params[j]? = some t → args[j]? = some v → Value.okWide Try.prog W .any base t v := hval0
 have hW' := hW
 obtain ⟨p, q, hA0, hV, rfl, hfz, hnd⟩ := hW
 have hA : DataW.TrodAll enc Try.prog W 0 (fun _ => true) true Try.f7.params.toList args.toList ds p := hA0
 rw [Try.params7] at hA hval
 obtain ⟨v0, vs0, d0, ds0, p0, q0, hargs, rfl, rfl, h0, r0⟩ := trodAll_cons hA
 obtain ⟨v1, vs1, d1, ds1, p1, q1, rfl, rfl, rfl, h1, r1⟩ := trodAll_cons r0
 obtain ⟨v2, vs2, d2, ds2, p2, q2, rfl, rfl, rfl, h2, r2⟩ := trodAll_cons r1
 obtain ⟨v3, vs3, d3, ds3, p3, q3, rfl, rfl, rfl, h3, r3⟩ := trodAll_cons r2
 obtain ⟨v4, vs4, d4, ds4, p4, q4, rfl, rfl, rfl, h4, r4⟩ := trodAll_cons r3
 obtain ⟨rfl, rfl, rfl⟩ := trodAll_nil r4
 obtain rfl : args = #[v0, v1, v2, v3, v4] := by cases args; simp_all
 obtain ⟨rfl, rfl⟩ := trodVars_none hV
 have k0 := h0
 have lt0 : ∀ x ∈ p0, x.block < W.heap.size := by obtain ⟨m, hm⟩ := k0; exact DataW.trod_lt m _ _ _ hm
 obtain ⟨a0, A0_1, c0_1, l0_1, A0_2, c0_2, l0_2, rfl, w0, hc0_1, hC0_1, hc0_2, hC0_2⟩ := open_checker h0
 have k1 := h1
 have lt1 : ∀ x ∈ p1, x.block < W.heap.size := by obtain ⟨m, hm⟩ := k1; exact DataW.trod_lt m _ _ _ hm
 obtain ⟨b1, len1, cap1, e1⟩ := okWide_slice Try.underlying26 (hval 1 26 v1 rfl rfl)
 obtain ⟨A1, c1, l1, rfl, hc1, hC1⟩ := open_runs h1 (fun a e => by rw [e] at e1; cases e1)
 obtain ⟨a2, rfl, rfl, rfl, w2⟩ := open_int Try.underlying3 (hval 2 3 v2 rfl rfl) h2
 obtain ⟨a3, rfl, rfl, rfl, w3⟩ := open_int Try.underlying3 (hval 3 3 v3 rfl rfl) h3
 obtain ⟨a4, rfl, rfl, rfl, w4⟩ := open_int Try.underlying3 (hval 4 3 v4 rfl rfl) h4
 clear hA0 hval0 hsz0
 refine (culletlaw07_InspectTrust.calls 3000 a0 A0_1 c0_1 l0_1 A0_2 c0_2 l0_2 A1 c1 l1 a2 a3 a4 true W hC0_1 hc0_1 hC0_2 hc0_2 hC1 hc1 (trust_pure a0 l0_1 l0_2 l1 a2 a3 a4)).mono fun e W' ⟨he, bel⟩ => ?_
 subst he
 exact ⟨_, rfl, _, _, _, [], _, [], hW', trodAll_mk1 (shut_bool Try.underlying4 _), (trodAll_cons_mk (Below.trod laidOut zq32 (of_decide_eq_true zq32) k0 bel lt0) (trodAll_cons_mk (Below.trod laidOut zq32 (of_decide_eq_true zq32) k1 bel lt1) (trodAll_cons_mk (shut_int Try.underlying3 w2) (trodAll_cons_mk (shut_int Try.underlying3 w3) (trodAll_cons_mk (shut_int Try.underlying3 w4) trodAll_mk0))))), rfl, bel.frame _, fun h => by cases h⟩
theorem over : Rows.inspectTrustRow.holds Try.pinned (OpenSpec.ofChange Rows.inspectTrustSpec) :=
 OpenClaim.holds_of_wide 7 Try.f7 rfl rfl rfl rfl rfl rfl rfl ⟨rfl, rfl, rfl, rfl, rfl⟩ rfl rfl rfl rfl rfl zq32 Try.func7 zq32
  (of_decide_eq_true zq32) (by unfold Func.isWrapper; first | (rw [if_pos (by decide +kernel)]; kernel_rfl) | (rw [if_neg (by decide +kernel)]; exact ⟨rfl, rfl⟩))
  (fun os started H enc _ => lifted os started H enc)
theorem proved : Rows.InspectTrustSaid := over
end Go.Proofs.Ytbpebehbfpgjbaa.inspectTrust
namespace Go.Proofs.Ytbpebehbfpgjbaa
theorem inspectTrust_holds : Rows.InspectTrustSaid := inspectTrust.proved
end Go.Proofs.Ytbpebehbfpgjbaa
end
