/- Texts of the proof, joined: what they prove stands at each theorem. -/
import Derived.Test.YtbpebehbfpgjbaaCsb
import Derived.Test.YtbpebehbfpgjbaaCsc
import Derived.Test.YtbpebehbfpgjbaaCse
import Derived.Test.YtbpebehbfpgjbaaCsh
section
namespace Go.Proofs.Ytbpebehbfpgjbaa.P
open Go.RowKit Go.Proofs.YtbpebehbfpgjbaaW.PrintWords Go.Proofs.YtbpebehbfpgjbaaW.PrintLast Go.Proofs.YtbpebehbfpgjbaaW.PrintMore
attribute [local go_sem] max2_int min2_int max_two min_two max_three min_three max_four min_four
set_option linter.unusedVariables false
set_option linter.unusedSimpArgs false
mutual
def culletlaw07_InspectStays.j0 : Nat → List (S45) → List (S45) → Int → Int → Bool → Int → List (S58) → List (S56) → Option (Bool)
 | 0, _, _, _, _, _, _, _, _ => none
 | k + 1, x1, x2, x3, x4, x46, x559000, x559001, x559002 => if x46 = true then ((culletlaw07_looks.f).bind fun t561 => (some t561)) else ((some (([] : List (S45)) : List (S45))).bind fun y562 => (if y562.length + x1.length < 2513169434916 then ((some (y562 ++ x1 : List (S45))).bind fun y565 => (if y565.length + x2.length < 2513169434916 then ((some (y565 ++ x2 : List (S45))).bind fun y568 => ((inspect_CheckLog.f k x559000 x559001 x559002 x1).bind fun t571 => (if t571 = 0 then ((inspect_CheckLog.f k x559000 x559001 x559002 y568).bind fun t572 => (culletlaw07_InspectStays.j1 k x1 x3 x4 y568 (t572 != 0) x559000 x559001 x559002)) else (culletlaw07_InspectStays.j1 k x1 x3 x4 y568 true x559000 x559001 x559002)))) else (none))) else (none)))
def culletlaw07_InspectStays.j1 : Nat → List (S45) → Int → Int → List (S45) → Bool → Int → List (S58) → List (S56) → Option (Bool)
 | 0, _, _, _, _, _, _, _, _ => none
 | k + 1, x1, x3, x4, x11, x62, x559000, x559001, x559002 => if x62 = true then ((culletlaw07_looks.f).bind fun t573 => (some t573)) else ((inspect_Judge.f x559000 x559001 x559002 x1 x3).bind fun bt574 => ((inspect_Judge.f x559000 x559001 x559002 x11 x3).bind fun bt577 => (if bt574.2.2 = 0 then (if bt577.2.2 = 0 then (if bt574.1 = 2 then (if bt577.1 = 2 then (if bt574.1 = 1 then (if bt577.1 = 1 then (if bt574.1 = 3 then (if bt577.1 = 3 then (if bt574.1 = 0 then (culletlaw07_InspectStays.j2 k x1 x3 x4 x11 bt574.1 (bt577.1 == 1) x559000 x559001 x559002) else (culletlaw07_InspectStays.j2 k x1 x3 x4 x11 bt574.1 false x559000 x559001 x559002)) else (culletlaw07_InspectStays.j2 k x1 x3 x4 x11 bt574.1 true x559000 x559001 x559002)) else (if bt574.1 = 0 then (culletlaw07_InspectStays.j2 k x1 x3 x4 x11 bt574.1 (bt577.1 == 1) x559000 x559001 x559002) else (culletlaw07_InspectStays.j2 k x1 x3 x4 x11 bt574.1 false x559000 x559001 x559002))) else (culletlaw07_InspectStays.j2 k x1 x3 x4 x11 bt574.1 true x559000 x559001 x559002)) else (if bt574.1 = 3 then (if bt577.1 = 3 then (if bt574.1 = 0 then (culletlaw07_InspectStays.j2 k x1 x3 x4 x11 bt574.1 (bt577.1 == 1) x559000 x559001 x559002) else (culletlaw07_InspectStays.j2 k x1 x3 x4 x11 bt574.1 false x559000 x559001 x559002)) else (culletlaw07_InspectStays.j2 k x1 x3 x4 x11 bt574.1 true x559000 x559001 x559002)) else (if bt574.1 = 0 then (culletlaw07_InspectStays.j2 k x1 x3 x4 x11 bt574.1 (bt577.1 == 1) x559000 x559001 x559002) else (culletlaw07_InspectStays.j2 k x1 x3 x4 x11 bt574.1 false x559000 x559001 x559002)))) else (culletlaw07_InspectStays.j2 k x1 x3 x4 x11 bt574.1 true x559000 x559001 x559002)) else (if bt574.1 = 1 then (if bt577.1 = 1 then (if bt574.1 = 3 then (if bt577.1 = 3 then (if bt574.1 = 0 then (culletlaw07_InspectStays.j2 k x1 x3 x4 x11 bt574.1 (bt577.1 == 1) x559000 x559001 x559002) else (culletlaw07_InspectStays.j2 k x1 x3 x4 x11 bt574.1 false x559000 x559001 x559002)) else (culletlaw07_InspectStays.j2 k x1 x3 x4 x11 bt574.1 true x559000 x559001 x559002)) else (if bt574.1 = 0 then (culletlaw07_InspectStays.j2 k x1 x3 x4 x11 bt574.1 (bt577.1 == 1) x559000 x559001 x559002) else (culletlaw07_InspectStays.j2 k x1 x3 x4 x11 bt574.1 false x559000 x559001 x559002))) else (culletlaw07_InspectStays.j2 k x1 x3 x4 x11 bt574.1 true x559000 x559001 x559002)) else (if bt574.1 = 3 then (if bt577.1 = 3 then (if bt574.1 = 0 then (culletlaw07_InspectStays.j2 k x1 x3 x4 x11 bt574.1 (bt577.1 == 1) x559000 x559001 x559002) else (culletlaw07_InspectStays.j2 k x1 x3 x4 x11 bt574.1 false x559000 x559001 x559002)) else (culletlaw07_InspectStays.j2 k x1 x3 x4 x11 bt574.1 true x559000 x559001 x559002)) else (if bt574.1 = 0 then (culletlaw07_InspectStays.j2 k x1 x3 x4 x11 bt574.1 (bt577.1 == 1) x559000 x559001 x559002) else (culletlaw07_InspectStays.j2 k x1 x3 x4 x11 bt574.1 false x559000 x559001 x559002))))) else (culletlaw07_InspectStays.j2 k x1 x3 x4 x11 bt574.1 true x559000 x559001 x559002)) else ((culletlaw07_looks.f).bind fun t580 => (some t580)))))
def culletlaw07_InspectStays.j2 : Nat → List (S45) → Int → Int → List (S45) → Int → Bool → Int → List (S58) → List (S56) → Option (Bool)
 | 0, _, _, _, _, _, _, _, _, _ => none
 | k + 1, x1, x3, x4, x11, x12, x116, x559000, x559001, x559002 => if x116 = true then (some false) else (culletlaw07_InspectStays.l0 k x1 x3 x4 x11 x12 0 x559000 x559001 x559002)
def culletlaw07_InspectStays.l0 : Nat → List (S45) → Int → Int → List (S45) → Int → Int → Int → List (S58) → List (S56) → Option (Bool)
 | 0, _, _, _, _, _, _, _, _, _ => none
 | k + 1, x1, x3, x4, x11, x12, x18, x559000, x559001, x559002 => if x18 < (x559002.length : Int) then (culletlaw07_InspectStays.l1 k x1 x3 x4 x11 x12 x18 0 x559000 x559001 x559002) else ((culletlaw07_picked.f x4 0 (wrap64 ((x1.length : Int) - 1))).bind fun t585 => (if 0 ≤ t585 then (if t585 < (x1.length : Int) then (if ((rd_T45 x1 t585).f1) = 1 then (if t585 = x3 then (culletlaw07_InspectStays.j5 k x1 x3 x12 t585 true x559000 x559001 x559002) else (culletlaw07_InspectStays.j5 k x1 x3 x12 t585 (t585 == (wrap64 ((x1.length : Int) - 1))) x559000 x559001 x559002)) else (culletlaw07_InspectStays.j5 k x1 x3 x12 t585 true x559000 x559001 x559002)) else (none)) else (none)))
def culletlaw07_InspectStays.l1 : Nat → List (S45) → Int → Int → List (S45) → Int → Int → Int → Int → List (S58) → List (S56) → Option (Bool)
 | 0, _, _, _, _, _, _, _, _, _, _ => none
 | k + 1, x1, x3, x4, x11, x12, x18, x19, x559000, x559001, x559002 => if x19 < (x559001.length : Int) then ((inspect_Trusted.f x559000 x559001 x559002 x1 x18 x19 x3).bind fun bt581 => ((inspect_Trusted.f x559000 x559001 x559002 x11 x18 x19 x3).bind fun bt583 => (if bt581.2 = 0 then (if bt583.2 = 0 then (if bt581.1 = 0 then (culletlaw07_InspectStays.l1 k x1 x3 x4 x11 x12 x18 (wrap64 (x19 + 1)) x559000 x559001 x559002) else (if bt581.1 = bt583.1 then (culletlaw07_InspectStays.l1 k x1 x3 x4 x11 x12 x18 (wrap64 (x19 + 1)) x559000 x559001 x559002) else (some false))) else (some false)) else (some false)))) else (culletlaw07_InspectStays.l0 k x1 x3 x4 x11 x12 (wrap64 (x18 + 1)) x559000 x559001 x559002)
def culletlaw07_InspectStays.j5 : Nat → List (S45) → Int → Int → Int → Bool → Int → List (S58) → List (S56) → Option (Bool)
 | 0, _, _, _, _, _, _, _, _ => none
 | k + 1, x1, x3, x12, x24, x186, x559000, x559001, x559002 => if x186 = true then ((culletlaw07_looks.f).bind fun t587 => (some t587)) else ((some (([] : List (S45)) : List (S45))).bind fun y588 => (if 0 ≤ x24 then (if x24 ≤ (x1.length : Int) then ((some (x1.take (x24 : Int).toNat : List (S45))).bind fun y591 => (if y588.length + y591.length < 2513169434916 then ((some (y588 ++ y591 : List (S45))).bind fun y595 => (if 0 ≤ (wrap64 (x24 + 1)) then (if (wrap64 (x24 + 1)) ≤ (x1.length : Int) then ((some (x1.drop ((wrap64 (x24 + 1)) : Int).toNat : List (S45))).bind fun y598 => (if y595.length + y598.length < 2513169434916 then ((some (y595 ++ y598 : List (S45))).bind fun y602 => (if x24 < x3 then ((inspect_Judge.f x559000 x559001 x559002 y602 (wrap64 (x3 - 1))).bind fun bt605 => (if bt605.2.2 = 0 then (if bt605.1 = x12 then ((culletlaw07_looks.f).bind fun t608 => (some t608)) else (some false)) else (some false))) else ((inspect_Judge.f x559000 x559001 x559002 y602 x3).bind fun bt609 => (if bt609.2.2 = 0 then (if bt609.1 = x12 then ((culletlaw07_looks.f).bind fun t612 => (some t612)) else (some false)) else (some false))))) else (none))) else (none)) else (none))) else (none))) else (none)) else (none)))
end
def culletlaw07_InspectStays.f (k : Nat) (a0_0 : Int) (l0_1 : List (S58)) (l0_2 : List (S56)) (l1 : List (S45)) (l2 : List (S45)) (a3 : Int) (a4 : Int) : Option (Bool) := (culletlaw07_many.f k a0_0 l0_1 l0_2 l1).bind fun t559 => (if t559 = true then (culletlaw07_InspectStays.j0 k l1 l2 a3 a4 true a0_0 l0_1 l0_2) else ((culletlaw07_many.f k a0_0 l0_1 l0_2 l2).bind fun t560 => (if t560 = true then (culletlaw07_InspectStays.j0 k l1 l2 a3 a4 true a0_0 l0_1 l0_2) else (if (l1.length : Int) > 40 then (culletlaw07_InspectStays.j0 k l1 l2 a3 a4 true a0_0 l0_1 l0_2) else (culletlaw07_InspectStays.j0 k l1 l2 a3 a4 (decide ((l2.length : Int) > 40)) a0_0 l0_1 l0_2)))))
def culletlaw07_InspectStays.T25 : Bool × List (List Nat × List Nat) := (true, [([], []), ([], []), ([], []), ([1, 2], [1, 2]), ([0, 3], [0, 3]), ([], []), ([], []), ([6], [6]), ([5, 7], [5, 7]), ([4, 8, 4], [4, 8]), ([9, 9, 0, 1, 2, 3, 4, 5, 6, 7, 8, 9], [9])])
def culletlaw07_InspectStays.B25 : List Nat := [0, 0, 0, 6, 15, 0, 0, 64, 224, 511, 1023]
theorem culletlaw07_InspectStays.tab25 : rtab .any (opsOf Try.f8 25) = culletlaw07_InspectStays.T25 := by kernel_rfl
theorem culletlaw07_InspectStays.bits25 : waitsOk culletlaw07_InspectStays.T25.2 culletlaw07_InspectStays.B25 = true := by kernel_rfl
set_option maxHeartbeats 8000000 in
set_option maxRecDepth 100000 in
theorem culletlaw07_InspectStays.calls (k : Nat) (a0_0 : Int) (A0_1 : Option Addr) (c0_1 : Nat) (l0_1 : List (S58)) (A0_2 : Option Addr) (c0_2 : Nat) (l0_2 : List (S56)) (A1 : Option Addr) (c1 : Nat) (l1 : List (S45)) (A2 : Option Addr) (c2 : Nat) (l2 : List (S45)) (a3 : Int) (a4 : Int) (r : Bool) (w : World) (hr0_1 : Kd.C k58 w A0_1 l0_1.length l0_1) (hc0_1 : l0_1.length ≤ c0_1) (hr0_2 : Kd.C k56 w A0_2 l0_2.length l0_2) (hc0_2 : l0_2.length ≤ c0_2) (hr1 : Kd.C k45 w A1 l1.length l1) (hc1 : l1.length ≤ c1) (hr2 : Kd.C k45 w A2 l2.length l2) (hc2 : l2.length ≤ c2) (h : culletlaw07_InspectStays.f k a0_0 l0_1 l0_2 l1 l2 a3 a4 = some r) :
  Calls Try.prog 8 #[.agg #[.int .i64 a0_0, .slice A0_1 l0_1.length c0_1, .slice A0_2 l0_2.length c0_2], .slice A1 l1.length c1, .slice A2 l2.length c2, .int .i64 a3, .int .i64 a4] w fun e w' => e = .returned (.bool r) ∧ Below w.heap.size w w' := by
 have hu25 := Try.underlying25
 have HR0_1 := Aside0.mk hr0_1
 have HC0_1 := Aside0.mk hc0_1
 clear hr0_1 hc0_1
 have HR0_2 := Aside0.mk hr0_2
 have HC0_2 := Aside0.mk hc0_2
 clear hr0_2 hc0_2
 have HR1 := Aside0.mk hr1
 have HC1 := Aside0.mk hc1
 clear hr1 hc1
 have HR2 := Aside0.mk hr2
 have HC2 := Aside0.mk hc2
 clear hr2 hc2
 have HB := Aside0.mk (Below.refl w.heap.size w)
 have H : ((culletlaw07_many.f k a0_0 l0_1 l0_2 l1).bind fun t559 => (if t559 = true then (culletlaw07_InspectStays.j0 k l1 l2 a3 a4 true a0_0 l0_1 l0_2) else ((culletlaw07_many.f k a0_0 l0_1 l0_2 l2).bind fun t560 => (if t560 = true then (culletlaw07_InspectStays.j0 k l1 l2 a3 a4 true a0_0 l0_1 l0_2) else (if (l1.length : Int) > 40 then (culletlaw07_InspectStays.j0 k l1 l2 a3 a4 true a0_0 l0_1 l0_2) else (culletlaw07_InspectStays.j0 k l1 l2 a3 a4 (decide ((l2.length : Int) > 40)) a0_0 l0_1 l0_2)))))) = some r := h
 clear h
 have HC6 := Aside0.mk H
 clear H
 go_enter Try.func8, Try.ntmps8
 go_upto_region 1 with (first | ((with_reducible refine gate_dst (N := 5) rfl ?_); (try (refine gate_guard zq56 ?_; dsimp only)); refine box_event ?hg (N := 5) ?hd (cs := #[.int .i64 a0_0, .slice A0_1 l0_1.length c0_1, .slice A0_2 l0_2.length c0_2]) (t := 25) ?hr ?_; (case hd => rfl); (case hg => rfl); (case hr => exact zq14); intro gb558 hg w7 hbox hb; have n_ := as4 (below_step zq3 hb) (hbox) ((zq24 : w.heap.size ≤ gb558)) ((zq24 : w.heap.size ≤ gb558)); clear HB hb hbox hg; obtain ⟨HB, BK558, GW558, GE558⟩ := n_))
 (try simp only [Act.put, List.setIfInBounds_toArray, List.set_cons_zero, List.set_cons_succ])
 go_cut [46] (fun v46 wc => ∃ (kq : Nat) (x46_5 : Bool), v46 = .bool x46_5 ∧ Aside0 (culletlaw07_InspectStays.j0 kq l1 l2 a3 a4 x46_5 a0_0 l0_1 l0_2 = some r) ∧ Aside0 (kq ≤ k) ∧ Aside0 (wc.heap[gb558]? = some (.cells #[.int .i64 a0_0, (.slice A0_1 l0_1.length c0_1), (.slice A0_2 l0_2.length c0_2)] 25 (0, 0))) ∧ Aside0 (Below w.heap.size w wc))
 case first =>
  as_aux_lemma =>
  have H := HC6.out
  clear HC6
  replace H := Option.bind_eq_some_iff.mp H
  obtain ⟨t559, A80, H⟩ := H
  replace H : (if t559 = true then (culletlaw07_InspectStays.j0 k l1 l2 a3 a4 true a0_0 l0_1 l0_2) else ((culletlaw07_many.f k a0_0 l0_1 l0_2 l2).bind fun t560 => (if t560 = true then (culletlaw07_InspectStays.j0 k l1 l2 a3 a4 true a0_0 l0_1 l0_2) else (if (l1.length : Int) > 40 then (culletlaw07_InspectStays.j0 k l1 l2 a3 a4 true a0_0 l0_1 l0_2) else (culletlaw07_InspectStays.j0 k l1 l2 a3 a4 (decide ((l2.length : Int) > 40)) a0_0 l0_1 l0_2))))) = some r := H
  have A8 := Aside0.mk A80
  clear A80
  by_cases c9 : t559 = true
  ·subst c9
   have H1 : (culletlaw07_InspectStays.j0 k l1 l2 a3 a4 true a0_0 l0_1 l0_2) = some r := by rw [if_pos rfl] at H; exact H
   clear H
   have H := H1
   clear H1
   have H' := Aside0.mk H
   clear H
   obtain ⟨hcz10_0, hcz10_1, hcz10_2, hfz10_0, hfz10_1, hfz10_2⟩ := bcs3 BK558.out
   go_wp2_with (first | ((with_reducible refine gate_callee (f := 10) rfl ?_); refine goesL_ (some 31) rfl rfl Try.func10 zq23 rfl #[.agg #[.int .i64 a0_0, .slice A0_1 l0_1.length c0_1, .slice A0_2 l0_2.length c0_2], .slice A1 l1.length c1] rfl zq4 ?_; (with_reducible refine (culletlaw07_many.calls k a0_0 _ _ l0_1 _ _ l0_2 _ _ l1 true _ ?side1 ?side2 ?side3 ?side4 ?side5 ?side6 A8.out).mono ?_); (case side1 => exact zq5); (case side2 => exact HC0_1.out); (case side3 => exact zq6); (case side4 => exact HC0_2.out); (case side5 => exact zq22); (case side6 => exact HC1.out); rintro e w11 ⟨rfl, hb⟩; refine ⟨_, rfl, ?_⟩; have n_ := as2 (blk_below (zq0 BK558.out) hb) (below_step zq2 hb); clear BK558 HB; obtain ⟨BK558, HB⟩ := n_; (try clear hb); (try clear hb2); (try clear hk); (try clear hi)))
   go_meet
   case rel => exact ⟨_, (true), zq11, H', ⟨zq50⟩, ⟨(zq0 BK558.out)⟩, ⟨zq2⟩⟩
  ·replace c9 := Bool.eq_false_iff.mpr c9
   subst c9
   have H1 : ((culletlaw07_many.f k a0_0 l0_1 l0_2 l2).bind fun t560 => (if t560 = true then (culletlaw07_InspectStays.j0 k l1 l2 a3 a4 true a0_0 l0_1 l0_2) else (if (l1.length : Int) > 40 then (culletlaw07_InspectStays.j0 k l1 l2 a3 a4 true a0_0 l0_1 l0_2) else (culletlaw07_InspectStays.j0 k l1 l2 a3 a4 (decide ((l2.length : Int) > 40)) a0_0 l0_1 l0_2)))) = some r := by rw [if_neg (show ¬ (false = true) by decide)] at H; exact H
   clear H
   have H := H1
   clear H1
   replace H := Option.bind_eq_some_iff.mp H
   obtain ⟨t560, A120, H⟩ := H
   replace H : (if t560 = true then (culletlaw07_InspectStays.j0 k l1 l2 a3 a4 true a0_0 l0_1 l0_2) else (if (l1.length : Int) > 40 then (culletlaw07_InspectStays.j0 k l1 l2 a3 a4 true a0_0 l0_1 l0_2) else (culletlaw07_InspectStays.j0 k l1 l2 a3 a4 (decide ((l2.length : Int) > 40)) a0_0 l0_1 l0_2))) = some r := H
   have A12 := Aside0.mk A120
   clear A120
   by_cases c13 : t560 = true
   ·subst c13
    have H1 : (culletlaw07_InspectStays.j0 k l1 l2 a3 a4 true a0_0 l0_1 l0_2) = some r := by rw [if_pos rfl] at H; exact H
    clear H
    have H := H1
    clear H1
    have H' := Aside0.mk H
    clear H
    obtain ⟨hcz14_0, hcz14_1, hcz14_2, hfz14_0, hfz14_1, hfz14_2⟩ := bcs3 BK558.out
    go_wp2_with (first | ((with_reducible refine gate_callee (f := 10) rfl ?_); refine goesL_ (some 31) rfl rfl Try.func10 zq23 rfl #[.agg #[.int .i64 a0_0, .slice A0_1 l0_1.length c0_1, .slice A0_2 l0_2.length c0_2], .slice A1 l1.length c1] rfl zq4 ?_; (with_reducible refine (culletlaw07_many.calls k a0_0 _ _ l0_1 _ _ l0_2 _ _ l1 false _ ?side1 ?side2 ?side3 ?side4 ?side5 ?side6 A8.out).mono ?_); (case side1 => exact zq5); (case side2 => exact HC0_1.out); (case side3 => exact zq6); (case side4 => exact HC0_2.out); (case side5 => exact zq22); (case side6 => exact HC1.out); rintro e w15 ⟨rfl, hb⟩; refine ⟨_, rfl, ?_⟩; have n_ := as2 (blk_below (zq0 BK558.out) hb) (below_step zq2 hb); clear BK558 HB; obtain ⟨BK558, HB⟩ := n_; (try clear hb); (try clear hb2); (try clear hk); (try clear hi); obtain ⟨hcz16_0, hcz16_1, hcz16_2, hfz16_0, hfz16_1, hfz16_2⟩ := bcs3 BK558.out) | (go_at_call 10; (with_reducible refine (culletlaw07_many.calls k a0_0 _ _ l0_1 _ _ l0_2 _ _ l2 true _ ?side1 ?side2 ?side3 ?side4 ?side5 ?side6 A12.out).mono ?_); (case side1 => exact zq5); (case side2 => exact HC0_1.out); (case side3 => exact zq6); (case side4 => exact HC0_2.out); (case side5 => exact zq39); (case side6 => exact HC2.out); rintro e w17 ⟨rfl, hb⟩; have n_ := as2 (blk_below (zq0 BK558.out) hb) (below_step zq2 hb); clear BK558 HB; obtain ⟨BK558, HB⟩ := n_; (try clear hb); (try clear hb2); (try clear hk); (try clear hi)))
    go_meet
    case rel => exact ⟨_, (true), zq11, H', ⟨zq50⟩, ⟨(zq0 BK558.out)⟩, ⟨zq2⟩⟩
   ·replace c13 := Bool.eq_false_iff.mpr c13
    subst c13
    have H1 : (if (l1.length : Int) > 40 then (culletlaw07_InspectStays.j0 k l1 l2 a3 a4 true a0_0 l0_1 l0_2) else (culletlaw07_InspectStays.j0 k l1 l2 a3 a4 (decide ((l2.length : Int) > 40)) a0_0 l0_1 l0_2)) = some r := by rw [if_neg (show ¬ (false = true) by decide)] at H; exact H
    clear H
    have H := H1
    clear H1
    by_cases c18 : (l1.length : Int) > 40
    ·rw [if_pos c18] at H
     have c18b0 : decide (40 < (l1.length : Int)) = true := decide_eq_true c18
     have c18b1 : decide (40 < l1.length) = true := decide_eq_true zq16
     clear c18
     (first | rw [c18b0] | (simp only [i64_w, i32_w]; rw [c18b0]) | skip)
     have H' := Aside0.mk H
     clear H
     obtain ⟨hcz19_0, hcz19_1, hcz19_2, hfz19_0, hfz19_1, hfz19_2⟩ := bcs3 BK558.out
     go_wp2_with (first | ((with_reducible refine gate_callee (f := 10) rfl ?_); refine goesL_ (some 31) rfl rfl Try.func10 zq23 rfl #[.agg #[.int .i64 a0_0, .slice A0_1 l0_1.length c0_1, .slice A0_2 l0_2.length c0_2], .slice A1 l1.length c1] rfl zq4 ?_; (with_reducible refine (culletlaw07_many.calls k a0_0 _ _ l0_1 _ _ l0_2 _ _ l1 false _ ?side1 ?side2 ?side3 ?side4 ?side5 ?side6 A8.out).mono ?_); (case side1 => exact zq5); (case side2 => exact HC0_1.out); (case side3 => exact zq6); (case side4 => exact HC0_2.out); (case side5 => exact zq22); (case side6 => exact HC1.out); rintro e w20 ⟨rfl, hb⟩; refine ⟨_, rfl, ?_⟩; have n_ := as2 (blk_below (zq0 BK558.out) hb) (below_step zq2 hb); clear BK558 HB; obtain ⟨BK558, HB⟩ := n_; (try clear hb); (try clear hb2); (try clear hk); (try clear hi); obtain ⟨hcz21_0, hcz21_1, hcz21_2, hfz21_0, hfz21_1, hfz21_2⟩ := bcs3 BK558.out) | (go_at_call 10; (with_reducible refine (culletlaw07_many.calls k a0_0 _ _ l0_1 _ _ l0_2 _ _ l2 false _ ?side1 ?side2 ?side3 ?side4 ?side5 ?side6 A12.out).mono ?_); (case side1 => exact zq5); (case side2 => exact HC0_1.out); (case side3 => exact zq6); (case side4 => exact HC0_2.out); (case side5 => exact zq39); (case side6 => exact HC2.out); rintro e w22 ⟨rfl, hb⟩; have n_ := as2 (blk_below (zq0 BK558.out) hb) (below_step zq2 hb); clear BK558 HB; obtain ⟨BK558, HB⟩ := n_; (try clear hb); (try clear hb2); (try clear hk); (try clear hi)))
     go_meet
     case rel => exact ⟨_, (true), zq11, H', ⟨zq50⟩, ⟨(zq0 BK558.out)⟩, ⟨zq2⟩⟩
    ·rw [if_neg c18] at H
     have c18b0 : decide (40 < (l1.length : Int)) = false := decide_eq_false c18
     have c18b1 : decide (40 < l1.length) = false := decide_eq_false zq16
     clear c18
     (first | rw [c18b0] | (simp only [i64_w, i32_w]; rw [c18b0]) | skip)
     have H' := Aside0.mk H
     clear H
     obtain ⟨hcz23_0, hcz23_1, hcz23_2, hfz23_0, hfz23_1, hfz23_2⟩ := bcs3 BK558.out
     go_wp2_with (first | ((with_reducible refine gate_callee (f := 10) rfl ?_); refine goesL_ (some 31) rfl rfl Try.func10 zq23 rfl #[.agg #[.int .i64 a0_0, .slice A0_1 l0_1.length c0_1, .slice A0_2 l0_2.length c0_2], .slice A1 l1.length c1] rfl zq4 ?_; (with_reducible refine (culletlaw07_many.calls k a0_0 _ _ l0_1 _ _ l0_2 _ _ l1 false _ ?side1 ?side2 ?side3 ?side4 ?side5 ?side6 A8.out).mono ?_); (case side1 => exact zq5); (case side2 => exact HC0_1.out); (case side3 => exact zq6); (case side4 => exact HC0_2.out); (case side5 => exact zq22); (case side6 => exact HC1.out); rintro e w24 ⟨rfl, hb⟩; refine ⟨_, rfl, ?_⟩; have n_ := as2 (blk_below (zq0 BK558.out) hb) (below_step zq2 hb); clear BK558 HB; obtain ⟨BK558, HB⟩ := n_; (try clear hb); (try clear hb2); (try clear hk); (try clear hi); obtain ⟨hcz25_0, hcz25_1, hcz25_2, hfz25_0, hfz25_1, hfz25_2⟩ := bcs3 BK558.out) | (go_at_call 10; (with_reducible refine (culletlaw07_many.calls k a0_0 _ _ l0_1 _ _ l0_2 _ _ l2 false _ ?side1 ?side2 ?side3 ?side4 ?side5 ?side6 A12.out).mono ?_); (case side1 => exact zq5); (case side2 => exact HC0_1.out); (case side3 => exact zq6); (case side4 => exact HC0_2.out); (case side5 => exact zq39); (case side6 => exact HC2.out); rintro e w26 ⟨rfl, hb⟩; have n_ := as2 (blk_below (zq0 BK558.out) hb) (below_step zq2 hb); clear BK558 HB; obtain ⟨BK558, HB⟩ := n_; (try clear hb); (try clear hb2); (try clear hk); (try clear hi)))
     go_meet
     case rel => exact ⟨_, (decide ((l2.length : Int) > 40)), zq11, H', ⟨zq50⟩, ⟨(zq0 BK558.out)⟩, ⟨zq2⟩⟩
 case rest =>
  as_aux_lemma =>
  clear HC6
  try clear c1
  try clear c2
  try clear p2
  try clear c8
  try clear c9
  try clear c10
  try clear c13
  try clear c18
  try clear c18b0
  try clear c18b1
  try clear hcz10_0 hcz10_1 hcz10_2 hfz10_0 hfz10_1 hfz10_2
  try clear hcz14_0 hcz14_1 hcz14_2 hfz14_0 hfz14_1 hfz14_2
  try clear hcz16_0 hcz16_1 hcz16_2 hfz16_0 hfz16_1 hfz16_2
  try clear hcz19_0 hcz19_1 hcz19_2 hfz19_0 hfz19_1 hfz19_2
  try clear hcz21_0 hcz21_1 hcz21_2 hfz21_0 hfz21_1 hfz21_2
  try clear hcz23_0 hcz23_1 hcz23_2 hfz23_0 hfz23_1 hfz23_2
  try clear hcz25_0 hcz25_1 hcz25_2 hfz25_0 hfz25_1 hfz25_2
  obtain ⟨kq, x46_5, rfl, HA, HJ5, BK558, HB⟩ := hcut
  cases kq with
  | zero => exact absurd HA.out (by simp [culletlaw07_InspectStays.j0])
  | succ kj5 =>
   have H := HA.out
   clear HA
   simp only [culletlaw07_InspectStays.j0] at H
   by_cases c27 : x46_5 = true
   ·subst c27
    have H1 : ((culletlaw07_looks.f).bind fun t561 => (some t561)) = some r := by rw [if_pos rfl] at H; exact H
    clear H
    have H := H1
    clear H1
    replace H := Option.bind_eq_some_iff.mp H
    obtain ⟨t561, A280, H⟩ := H
    replace H : (some t561) = some r := H
    have A28 := Aside0.mk A280
    clear A280
    obtain rfl := Option.some.inj H
    go_wp2_with (first | ((with_reducible refine gate_callee (f := 11) rfl ?_); refine goesL_ (some 47) rfl rfl Try.func11 zq23 rfl #[] rfl zq4 ?_; (with_reducible refine (culletlaw07_looks.calls  t561 _ A28.out).mono ?_); rintro e w29 ⟨rfl, hb⟩; refine ⟨_, rfl, ?_⟩; have n_ := as2 (blk_below (zq0 BK558.out) hb) (below_step zq2 hb); clear BK558 HB; obtain ⟨BK558, HB⟩ := n_; (try clear hb); (try clear hb2); (try clear hk); (try clear hi)))
    go_ret
    exact ⟨zq10, zq2⟩
   ·replace c27 := Bool.eq_false_iff.mpr c27
    subst c27
    have H1 : ((some (([] : List (S45)) : List (S45))).bind fun y562 => (if y562.length + l1.length < 2513169434916 then ((some (y562 ++ l1 : List (S45))).bind fun y565 => (if y565.length + l2.length < 2513169434916 then ((some (y565 ++ l2 : List (S45))).bind fun y568 => ((inspect_CheckLog.f kj5 a0_0 l0_1 l0_2 l1).bind fun t571 => (if t571 = 0 then ((inspect_CheckLog.f kj5 a0_0 l0_1 l0_2 y568).bind fun t572 => (culletlaw07_InspectStays.j1 kj5 l1 a3 a4 y568 (t572 != 0) a0_0 l0_1 l0_2)) else (culletlaw07_InspectStays.j1 kj5 l1 a3 a4 y568 true a0_0 l0_1 l0_2)))) else (none))) else (none))) = some r := by rw [if_neg (show ¬ (false = true) by decide)] at H; exact H
    clear H
    have H := H1
    clear H1
    obtain ⟨y562, hy562⟩ : ∃ y_ : List (S45), y_ = (([] : List (S45))) := ⟨_, rfl⟩
    replace H : (if y562.length + l1.length < 2513169434916 then ((some (y562 ++ l1 : List (S45))).bind fun y565 => (if y565.length + l2.length < 2513169434916 then ((some (y565 ++ l2 : List (S45))).bind fun y568 => ((inspect_CheckLog.f kj5 a0_0 l0_1 l0_2 l1).bind fun t571 => (if t571 = 0 then ((inspect_CheckLog.f kj5 a0_0 l0_1 l0_2 y568).bind fun t572 => (culletlaw07_InspectStays.j1 kj5 l1 a3 a4 y568 (t572 != 0) a0_0 l0_1 l0_2)) else (culletlaw07_InspectStays.j1 kj5 l1 a3 a4 y568 true a0_0 l0_1 l0_2)))) else (none))) else (none)) = some r := by first | (rw [hy562]; with_reducible exact H) | (have H2_ := (Option.bind_some _ _).symm.trans H; rw [hy562]; with_reducible exact H2_) | (have H2_ := (Option.bind_some _ _).symm.trans H; with_reducible exact H2_) | with_reducible exact H | (rw [hy562]; exact H) | exact H
    have Ny562 := Aside0.mk hy562
    clear hy562
    by_cases c30 : y562.length + l1.length < 2513169434916
    ·rw [if_pos c30] at H
     have LMc30 := Aside0.mk c30
     clear c30
     obtain ⟨y565, hy565⟩ : ∃ y_ : List (S45), y_ = (y562 ++ l1) := ⟨_, rfl⟩
     replace H : (if y565.length + l2.length < 2513169434916 then ((some (y565 ++ l2 : List (S45))).bind fun y568 => ((inspect_CheckLog.f kj5 a0_0 l0_1 l0_2 l1).bind fun t571 => (if t571 = 0 then ((inspect_CheckLog.f kj5 a0_0 l0_1 l0_2 y568).bind fun t572 => (culletlaw07_InspectStays.j1 kj5 l1 a3 a4 y568 (t572 != 0) a0_0 l0_1 l0_2)) else (culletlaw07_InspectStays.j1 kj5 l1 a3 a4 y568 true a0_0 l0_1 l0_2)))) else (none)) = some r := by first | (rw [hy565]; with_reducible exact H) | (have H2_ := (Option.bind_some _ _).symm.trans H; rw [hy565]; with_reducible exact H2_) | (have H2_ := (Option.bind_some _ _).symm.trans H; with_reducible exact H2_) | with_reducible exact H | (rw [hy565]; exact H) | exact H
     have Ny565 := Aside0.mk hy565
     clear hy565
     by_cases c31 : y565.length + l2.length < 2513169434916
     ·rw [if_pos c31] at H
      have LMc31 := Aside0.mk c31
      clear c31
      obtain ⟨y568, hy568⟩ : ∃ y_ : List (S45), y_ = (y565 ++ l2) := ⟨_, rfl⟩
      replace H : ((inspect_CheckLog.f kj5 a0_0 l0_1 l0_2 l1).bind fun t571 => (if t571 = 0 then ((inspect_CheckLog.f kj5 a0_0 l0_1 l0_2 y568).bind fun t572 => (culletlaw07_InspectStays.j1 kj5 l1 a3 a4 y568 (t572 != 0) a0_0 l0_1 l0_2)) else (culletlaw07_InspectStays.j1 kj5 l1 a3 a4 y568 true a0_0 l0_1 l0_2))) = some r := by first | (rw [hy568]; with_reducible exact H) | (have H2_ := (Option.bind_some _ _).symm.trans H; rw [hy568]; with_reducible exact H2_) | (have H2_ := (Option.bind_some _ _).symm.trans H; with_reducible exact H2_) | with_reducible exact H | (rw [hy568]; exact H) | exact H
      have Ny568 := Aside0.mk hy568
      clear hy568
      have HC32 := Aside0.mk H
      clear H
      go_upto_region 4 with (first | ((with_reducible refine gate_dst (N := 48) rfl ?_); (try (refine gate_guard zq56 ?_; dsimp only)); refine Kd.R_lit k45 _ 45 ?hg (N := 48) ?hd (xs := ([] : List (S45))) (inner := []) (ok := fun _ => True) (okp := fun _ => True) ?hr ?hp (fun _ hk => hk) trivial (Below.refl _ _) (Nat.le_refl _) zq51 ?_; (case hd => rfl); (case hg => rfl); (case hr => exact zq14); (case hp => exact zq76); intro v563 w33 ho34 hb hg_ hnew_; clear hg_ hnew_; (first | rw [← Ny562.out] at ho34 | (simp only [Int.reduceToNat] at ho34; rw [← Ny562.out] at ho34)); have n_ := as3 (Kd.R_lower ho34 (below_size zq2)) (blk_below (zq0 BK558.out) hb) (below_step zq2 hb); clear BK558 HB; obtain ⟨HO564, BK558, HB⟩ := n_; clear hb ho34) | ((with_reducible refine gate_builtin (b := .append) (xs := #[.tmp 48, .tmp 49]) rfl ?_); (try (refine gate_guard zq56 ?_; dsimp only)); at_builtin; refine Kd.R_append_rows k45 (w0 := w) w.heap.size rfl (.tmp 48) (.tmp 49) 26 45 (.agg #[(.int .i64 0), (.int .u8 0), (.int .i64 0), (.int .i64 0), (.int .i64 0), (.int .i64 0), (.bool false)]) 56 rfl Try.underlying26 info45 rfl zq49 zq16 v563 y562 l1 _ _ _ (fun _ => True) (fun _ => False) rfl rfl ?aO ?aR (fun _ _ h => h) (fun _ h => h.elim) ?aF ?aB ?aS ?aL ?_; (case aR => exact zq22); (case aB => exact zq2); (case aF => exact zq53); (case aO => exact (zq1 HO564.out)); (case aS => exact zq55); (case aL => have := LMc30.out; omega); intro v566 w35 ho hb hg hat; rw [← Ny565.out] at ho; have n_ := as3 (blk_grown (zq0 BK558.out) hg (Kd.R_ne HO564.out BK558.out zq49)) (hb) (ho); clear BK558 HB HO564; obtain ⟨BK558, HB, HO567⟩ := n_; clear ho hb hg hat) | ((with_reducible refine gate_builtin (b := .append) (xs := #[.tmp 50, .tmp 51]) rfl ?_); (try (refine gate_guard zq56 ?_; dsimp only)); at_builtin; refine Kd.R_append_rows k45 (w0 := w) w.heap.size rfl (.tmp 50) (.tmp 51) 26 45 (.agg #[(.int .i64 0), (.int .u8 0), (.int .i64 0), (.int .i64 0), (.int .i64 0), (.int .i64 0), (.bool false)]) 56 rfl Try.underlying26 info45 rfl zq49 zq16 v566 y565 l2 _ _ _ (fun _ => True) (fun _ => False) rfl rfl ?aO ?aR (fun _ _ h => h) (fun _ h => h.elim) ?aF ?aB ?aS ?aL ?_; (case aR => exact zq39); (case aB => exact zq2); (case aF => exact zq53); (case aO => exact (zq1 HO567.out)); (case aS => exact zq55); (case aL => have := LMc31.out; omega); intro v569 w36 ho hb hg hat; rw [← Ny568.out] at ho; have n_ := as3 (blk_grown (zq0 BK558.out) hg (Kd.R_ne HO567.out BK558.out zq49)) (hb) (ho); clear BK558 HB HO567; obtain ⟨BK558, HB, HO570⟩ := n_; clear ho hb hg hat))
      (try simp only [Act.put, List.setIfInBounds_toArray, List.set_cons_zero, List.set_cons_succ])
      go_cut [62] (fun v62 wc => ∃ (kq : Nat) (x62_31 : Bool), v62 = .bool x62_31 ∧ Aside0 (culletlaw07_InspectStays.j1 kq l1 a3 a4 y568 x62_31 a0_0 l0_1 l0_2 = some r) ∧ Aside0 (kq ≤ kj5) ∧ Aside0 (Kd.R k45 45 wc w.heap.size (fun _ => True) v569 y568) ∧ Aside0 (wc.heap[gb558]? = some (.cells #[.int .i64 a0_0, (.slice A0_1 l0_1.length c0_1), (.slice A0_2 l0_2.length c0_2)] 25 (0, 0))) ∧ Aside0 (Below w.heap.size w wc))
      case first =>
       as_aux_lemma =>
       have H := HC32.out
       clear HC32
       replace H := Option.bind_eq_some_iff.mp H
       obtain ⟨t571, A370, H⟩ := H
       replace H : (if t571 = 0 then ((inspect_CheckLog.f kj5 a0_0 l0_1 l0_2 y568).bind fun t572 => (culletlaw07_InspectStays.j1 kj5 l1 a3 a4 y568 (t572 != 0) a0_0 l0_1 l0_2)) else (culletlaw07_InspectStays.j1 kj5 l1 a3 a4 y568 true a0_0 l0_1 l0_2)) = some r := H
       have A37 := Aside0.mk A370
       clear A370
       by_cases c38 : t571 = 0
       ·rw [if_pos c38] at H
        have c38b0 : (t571 == 0) = true := beq_iff_eq.mpr c38
        have c38b1 : (t571 != 0) = false := bne_eq_false_iff_eq.mpr c38
        clear c38
        (first | rw [c38b0] | (simp only [i64_w, i32_w]; rw [c38b0]) | skip)
        replace H := Option.bind_eq_some_iff.mp H
        obtain ⟨t572, A390, H⟩ := H
        replace H : (culletlaw07_InspectStays.j1 kj5 l1 a3 a4 y568 (t572 != 0) a0_0 l0_1 l0_2) = some r := H
        have A39 := Aside0.mk A390
        clear A390
        have H' := Aside0.mk H
        clear H
        obtain ⟨hcz40_0, hcz40_1, hcz40_2, hfz40_0, hfz40_1, hfz40_2⟩ := bcs3 BK558.out
        go_wp2_with (first | ((with_reducible refine gate_callee (f := 19) rfl ?_); refine goesL_ (some 55) rfl rfl Try.func19 zq23 rfl #[.agg #[.int .i64 a0_0, .slice A0_1 l0_1.length c0_1, .slice A0_2 l0_2.length c0_2], .slice A1 l1.length c1] rfl zq4 ?_; (with_reducible refine (inspect_CheckLog.calls kj5 a0_0 _ _ l0_1 _ _ l0_2 _ _ l1 t571 _ ?side1 ?side2 ?side3 ?side4 ?side5 ?side6 A37.out).mono ?_); (case side1 => exact zq5); (case side2 => exact HC0_1.out); (case side3 => exact zq6); (case side4 => exact HC0_2.out); (case side5 => exact zq22); (case side6 => exact HC1.out); rintro e w41 ⟨rfl, hb⟩; refine ⟨_, rfl, ?_⟩; have n_ := as3 (Kd.R_below (zq1 HO570.out) hb) (blk_below (zq0 BK558.out) hb) (below_step zq2 hb); clear HO570 BK558 HB; obtain ⟨HO570, BK558, HB⟩ := n_; (try clear hb); (try clear hb2); (try clear hk); (try clear hi); obtain ⟨hcz42_0, hcz42_1, hcz42_2, hfz42_0, hfz42_1, hfz42_2⟩ := bcs3 BK558.out; obtain ⟨Ao43, co43, eo43⟩ := Kd.R_slice HO570.out; subst eo43) | (go_at_call 19; (with_reducible refine (inspect_CheckLog.calls kj5 a0_0 _ _ l0_1 _ _ l0_2 _ _ y568 t572 _ ?side1 ?side2 ?side3 ?side4 ?side5 ?side6 A39.out).mono ?_); (case side1 => exact zq5); (case side2 => exact HC0_1.out); (case side3 => exact zq6); (case side4 => exact HC0_2.out); (case side5 => repeat (first | exact (Kd.R_reads' HO570.out).2.2 | (with_reducible refine Kd.C_alloc ?_ _) | (with_reducible refine Kd.C_drewN ?_ _) | (with_reducible refine Kd.C_drew ?_))); (case side6 => exact (Kd.R_reads' HO570.out).2.1); rintro e w44 ⟨rfl, hb⟩; have n_ := as3 (Kd.R_below (zq1 HO570.out) hb) (blk_below (zq0 BK558.out) hb) (below_step zq2 hb); clear HO570 BK558 HB; obtain ⟨HO570, BK558, HB⟩ := n_; (try clear hb); (try clear hb2); (try clear hk); (try clear hi)))
        go_meet
        case rel => exact ⟨_, ((t572 != 0)), zq11, H', ⟨by have := HJ5.out; first | omega | exact Nat.le_refl _⟩, ⟨(zq1 HO570.out)⟩, ⟨(zq0 BK558.out)⟩, ⟨zq2⟩⟩
       ·rw [if_neg c38] at H
        have c38b0 : (t571 == 0) = false := beq_eq_false_iff_ne.mpr c38
        have c38b1 : (t571 != 0) = true := bne_iff_ne.mpr c38
        (first | rw [c38b0] | (simp only [i64_w, i32_w]; rw [c38b0]) | skip)
        have H' := Aside0.mk H
        clear H
        obtain ⟨hcz45_0, hcz45_1, hcz45_2, hfz45_0, hfz45_1, hfz45_2⟩ := bcs3 BK558.out
        go_wp2_with (first | ((with_reducible refine gate_callee (f := 19) rfl ?_); refine goesL_ (some 55) rfl rfl Try.func19 zq23 rfl #[.agg #[.int .i64 a0_0, .slice A0_1 l0_1.length c0_1, .slice A0_2 l0_2.length c0_2], .slice A1 l1.length c1] rfl zq4 ?_; (with_reducible refine (inspect_CheckLog.calls kj5 a0_0 _ _ l0_1 _ _ l0_2 _ _ l1 t571 _ ?side1 ?side2 ?side3 ?side4 ?side5 ?side6 A37.out).mono ?_); (case side1 => exact zq5); (case side2 => exact HC0_1.out); (case side3 => exact zq6); (case side4 => exact HC0_2.out); (case side5 => exact zq22); (case side6 => exact HC1.out); rintro e w46 ⟨rfl, hb⟩; refine ⟨_, rfl, ?_⟩; have n_ := as3 (Kd.R_below (zq1 HO570.out) hb) (blk_below (zq0 BK558.out) hb) (below_step zq2 hb); clear HO570 BK558 HB; obtain ⟨HO570, BK558, HB⟩ := n_; (try clear hb); (try clear hb2); (try clear hk); (try clear hi)))
        go_meet
        case rel => exact ⟨_, (true), zq11, H', ⟨by have := HJ5.out; first | omega | exact Nat.le_refl _⟩, ⟨(zq1 HO570.out)⟩, ⟨(zq0 BK558.out)⟩, ⟨zq2⟩⟩
      case rest =>
       as_aux_lemma =>
       clear HC32
       try clear c1
       try clear c2
       try clear p2 p2
       try clear c3
       try clear c8
       try clear c9
       try clear c10
       try clear c11
       try clear c13
       try clear c18
       try clear c18b0
       try clear c18b1
       try clear c19
       try clear c27
       try clear c30
       try clear c31
       try clear c38
       try clear c38b0
       try clear c38b1
       try clear hcz10_0 hcz10_1 hcz10_2 hfz10_0 hfz10_1 hfz10_2
       try clear hcz14_0 hcz14_1 hcz14_2 hfz14_0 hfz14_1 hfz14_2
       try clear hcz16_0 hcz16_1 hcz16_2 hfz16_0 hfz16_1 hfz16_2
       try clear hcz19_0 hcz19_1 hcz19_2 hfz19_0 hfz19_1 hfz19_2
       try clear hcz21_0 hcz21_1 hcz21_2 hfz21_0 hfz21_1 hfz21_2
       try clear hcz23_0 hcz23_1 hcz23_2 hfz23_0 hfz23_1 hfz23_2
       try clear hcz25_0 hcz25_1 hcz25_2 hfz25_0 hfz25_1 hfz25_2
       try clear hcz40_0 hcz40_1 hcz40_2 hfz40_0 hfz40_1 hfz40_2
       try clear hcz42_0 hcz42_1 hcz42_2 hfz42_0 hfz42_1 hfz42_2
       try clear hcz45_0 hcz45_1 hcz45_2 hfz45_0 hfz45_1 hfz45_2
       obtain ⟨kq, x62_31, rfl, HA, HJ31, HO_11, BK558, HB⟩ := hcut
       cases kq with
       | zero => exact absurd HA.out (by simp [culletlaw07_InspectStays.j1])
       | succ kj31 =>
        have H := HA.out
        clear HA
        simp only [culletlaw07_InspectStays.j1] at H
        by_cases c47 : x62_31 = true
        ·subst c47
         have H1 : ((culletlaw07_looks.f).bind fun t573 => (some t573)) = some r := by rw [if_pos rfl] at H; exact H
         clear H
         have H := H1
         clear H1
         replace H := Option.bind_eq_some_iff.mp H
         obtain ⟨t573, A480, H⟩ := H
         replace H : (some t573) = some r := H
         have A48 := Aside0.mk A480
         clear A480
         obtain rfl := Option.some.inj H
         go_wp2_with (first | ((with_reducible refine gate_callee (f := 11) rfl ?_); refine goesL_ (some 63) rfl rfl Try.func11 zq23 rfl #[] rfl zq4 ?_; (with_reducible refine (culletlaw07_looks.calls  t573 _ A48.out).mono ?_); rintro e w49 ⟨rfl, hb⟩; refine ⟨_, rfl, ?_⟩; have n_ := as3 (Kd.R_below (zq1 HO_11.out) hb) (blk_below (zq0 BK558.out) hb) (below_step zq2 hb); clear HO_11 BK558 HB; obtain ⟨HO_11, BK558, HB⟩ := n_; (try clear hb); (try clear hb2); (try clear hk); (try clear hi)))
         go_ret
         exact ⟨zq10, zq2⟩
        ·replace c47 := Bool.eq_false_iff.mpr c47
         subst c47
         have H1 : ((inspect_Judge.f a0_0 l0_1 l0_2 l1 a3).bind fun bt574 => ((inspect_Judge.f a0_0 l0_1 l0_2 y568 a3).bind fun bt577 => (if bt574.2.2 = 0 then (if bt577.2.2 = 0 then (if bt574.1 = 2 then (if bt577.1 = 2 then (if bt574.1 = 1 then (if bt577.1 = 1 then (if bt574.1 = 3 then (if bt577.1 = 3 then (if bt574.1 = 0 then (culletlaw07_InspectStays.j2 kj31 l1 a3 a4 y568 bt574.1 (bt577.1 == 1) a0_0 l0_1 l0_2) else (culletlaw07_InspectStays.j2 kj31 l1 a3 a4 y568 bt574.1 false a0_0 l0_1 l0_2)) else (culletlaw07_InspectStays.j2 kj31 l1 a3 a4 y568 bt574.1 true a0_0 l0_1 l0_2)) else (if bt574.1 = 0 then (culletlaw07_InspectStays.j2 kj31 l1 a3 a4 y568 bt574.1 (bt577.1 == 1) a0_0 l0_1 l0_2) else (culletlaw07_InspectStays.j2 kj31 l1 a3 a4 y568 bt574.1 false a0_0 l0_1 l0_2))) else (culletlaw07_InspectStays.j2 kj31 l1 a3 a4 y568 bt574.1 true a0_0 l0_1 l0_2)) else (if bt574.1 = 3 then (if bt577.1 = 3 then (if bt574.1 = 0 then (culletlaw07_InspectStays.j2 kj31 l1 a3 a4 y568 bt574.1 (bt577.1 == 1) a0_0 l0_1 l0_2) else (culletlaw07_InspectStays.j2 kj31 l1 a3 a4 y568 bt574.1 false a0_0 l0_1 l0_2)) else (culletlaw07_InspectStays.j2 kj31 l1 a3 a4 y568 bt574.1 true a0_0 l0_1 l0_2)) else (if bt574.1 = 0 then (culletlaw07_InspectStays.j2 kj31 l1 a3 a4 y568 bt574.1 (bt577.1 == 1) a0_0 l0_1 l0_2) else (culletlaw07_InspectStays.j2 kj31 l1 a3 a4 y568 bt574.1 false a0_0 l0_1 l0_2)))) else (culletlaw07_InspectStays.j2 kj31 l1 a3 a4 y568 bt574.1 true a0_0 l0_1 l0_2)) else (if bt574.1 = 1 then (if bt577.1 = 1 then (if bt574.1 = 3 then (if bt577.1 = 3 then (if bt574.1 = 0 then (culletlaw07_InspectStays.j2 kj31 l1 a3 a4 y568 bt574.1 (bt577.1 == 1) a0_0 l0_1 l0_2) else (culletlaw07_InspectStays.j2 kj31 l1 a3 a4 y568 bt574.1 false a0_0 l0_1 l0_2)) else (culletlaw07_InspectStays.j2 kj31 l1 a3 a4 y568 bt574.1 true a0_0 l0_1 l0_2)) else (if bt574.1 = 0 then (culletlaw07_InspectStays.j2 kj31 l1 a3 a4 y568 bt574.1 (bt577.1 == 1) a0_0 l0_1 l0_2) else (culletlaw07_InspectStays.j2 kj31 l1 a3 a4 y568 bt574.1 false a0_0 l0_1 l0_2))) else (culletlaw07_InspectStays.j2 kj31 l1 a3 a4 y568 bt574.1 true a0_0 l0_1 l0_2)) else (if bt574.1 = 3 then (if bt577.1 = 3 then (if bt574.1 = 0 then (culletlaw07_InspectStays.j2 kj31 l1 a3 a4 y568 bt574.1 (bt577.1 == 1) a0_0 l0_1 l0_2) else (culletlaw07_InspectStays.j2 kj31 l1 a3 a4 y568 bt574.1 false a0_0 l0_1 l0_2)) else (culletlaw07_InspectStays.j2 kj31 l1 a3 a4 y568 bt574.1 true a0_0 l0_1 l0_2)) else (if bt574.1 = 0 then (culletlaw07_InspectStays.j2 kj31 l1 a3 a4 y568 bt574.1 (bt577.1 == 1) a0_0 l0_1 l0_2) else (culletlaw07_InspectStays.j2 kj31 l1 a3 a4 y568 bt574.1 false a0_0 l0_1 l0_2))))) else (culletlaw07_InspectStays.j2 kj31 l1 a3 a4 y568 bt574.1 true a0_0 l0_1 l0_2)) else ((culletlaw07_looks.f).bind fun t580 => (some t580))))) = some r := by rw [if_neg (show ¬ (false = true) by decide)] at H; exact H
         clear H
         have H := H1
         clear H1
         replace H := Option.bind_eq_some_iff.mp H
         obtain ⟨⟨t574, t575, t576⟩, A500, H⟩ := H
         replace H : ((inspect_Judge.f a0_0 l0_1 l0_2 y568 a3).bind fun bt577 => (if t576 = 0 then (if bt577.2.2 = 0 then (if t574 = 2 then (if bt577.1 = 2 then (if t574 = 1 then (if bt577.1 = 1 then (if t574 = 3 then (if bt577.1 = 3 then (if t574 = 0 then (culletlaw07_InspectStays.j2 kj31 l1 a3 a4 y568 t574 (bt577.1 == 1) a0_0 l0_1 l0_2) else (culletlaw07_InspectStays.j2 kj31 l1 a3 a4 y568 t574 false a0_0 l0_1 l0_2)) else (culletlaw07_InspectStays.j2 kj31 l1 a3 a4 y568 t574 true a0_0 l0_1 l0_2)) else (if t574 = 0 then (culletlaw07_InspectStays.j2 kj31 l1 a3 a4 y568 t574 (bt577.1 == 1) a0_0 l0_1 l0_2) else (culletlaw07_InspectStays.j2 kj31 l1 a3 a4 y568 t574 false a0_0 l0_1 l0_2))) else (culletlaw07_InspectStays.j2 kj31 l1 a3 a4 y568 t574 true a0_0 l0_1 l0_2)) else (if t574 = 3 then (if bt577.1 = 3 then (if t574 = 0 then (culletlaw07_InspectStays.j2 kj31 l1 a3 a4 y568 t574 (bt577.1 == 1) a0_0 l0_1 l0_2) else (culletlaw07_InspectStays.j2 kj31 l1 a3 a4 y568 t574 false a0_0 l0_1 l0_2)) else (culletlaw07_InspectStays.j2 kj31 l1 a3 a4 y568 t574 true a0_0 l0_1 l0_2)) else (if t574 = 0 then (culletlaw07_InspectStays.j2 kj31 l1 a3 a4 y568 t574 (bt577.1 == 1) a0_0 l0_1 l0_2) else (culletlaw07_InspectStays.j2 kj31 l1 a3 a4 y568 t574 false a0_0 l0_1 l0_2)))) else (culletlaw07_InspectStays.j2 kj31 l1 a3 a4 y568 t574 true a0_0 l0_1 l0_2)) else (if t574 = 1 then (if bt577.1 = 1 then (if t574 = 3 then (if bt577.1 = 3 then (if t574 = 0 then (culletlaw07_InspectStays.j2 kj31 l1 a3 a4 y568 t574 (bt577.1 == 1) a0_0 l0_1 l0_2) else (culletlaw07_InspectStays.j2 kj31 l1 a3 a4 y568 t574 false a0_0 l0_1 l0_2)) else (culletlaw07_InspectStays.j2 kj31 l1 a3 a4 y568 t574 true a0_0 l0_1 l0_2)) else (if t574 = 0 then (culletlaw07_InspectStays.j2 kj31 l1 a3 a4 y568 t574 (bt577.1 == 1) a0_0 l0_1 l0_2) else (culletlaw07_InspectStays.j2 kj31 l1 a3 a4 y568 t574 false a0_0 l0_1 l0_2))) else (culletlaw07_InspectStays.j2 kj31 l1 a3 a4 y568 t574 true a0_0 l0_1 l0_2)) else (if t574 = 3 then (if bt577.1 = 3 then (if t574 = 0 then (culletlaw07_InspectStays.j2 kj31 l1 a3 a4 y568 t574 (bt577.1 == 1) a0_0 l0_1 l0_2) else (culletlaw07_InspectStays.j2 kj31 l1 a3 a4 y568 t574 false a0_0 l0_1 l0_2)) else (culletlaw07_InspectStays.j2 kj31 l1 a3 a4 y568 t574 true a0_0 l0_1 l0_2)) else (if t574 = 0 then (culletlaw07_InspectStays.j2 kj31 l1 a3 a4 y568 t574 (bt577.1 == 1) a0_0 l0_1 l0_2) else (culletlaw07_InspectStays.j2 kj31 l1 a3 a4 y568 t574 false a0_0 l0_1 l0_2))))) else (culletlaw07_InspectStays.j2 kj31 l1 a3 a4 y568 t574 true a0_0 l0_1 l0_2)) else ((culletlaw07_looks.f).bind fun t580 => (some t580)))) = some r := H
         have A50 := Aside0.mk A500
         clear A500
         replace H := Option.bind_eq_some_iff.mp H
         obtain ⟨⟨t577, t578, t579⟩, A510, H⟩ := H
         replace H : (if t576 = 0 then (if t579 = 0 then (if t574 = 2 then (if t577 = 2 then (if t574 = 1 then (if t577 = 1 then (if t574 = 3 then (if t577 = 3 then (if t574 = 0 then (culletlaw07_InspectStays.j2 kj31 l1 a3 a4 y568 t574 (t577 == 1) a0_0 l0_1 l0_2) else (culletlaw07_InspectStays.j2 kj31 l1 a3 a4 y568 t574 false a0_0 l0_1 l0_2)) else (culletlaw07_InspectStays.j2 kj31 l1 a3 a4 y568 t574 true a0_0 l0_1 l0_2)) else (if t574 = 0 then (culletlaw07_InspectStays.j2 kj31 l1 a3 a4 y568 t574 (t577 == 1) a0_0 l0_1 l0_2) else (culletlaw07_InspectStays.j2 kj31 l1 a3 a4 y568 t574 false a0_0 l0_1 l0_2))) else (culletlaw07_InspectStays.j2 kj31 l1 a3 a4 y568 t574 true a0_0 l0_1 l0_2)) else (if t574 = 3 then (if t577 = 3 then (if t574 = 0 then (culletlaw07_InspectStays.j2 kj31 l1 a3 a4 y568 t574 (t577 == 1) a0_0 l0_1 l0_2) else (culletlaw07_InspectStays.j2 kj31 l1 a3 a4 y568 t574 false a0_0 l0_1 l0_2)) else (culletlaw07_InspectStays.j2 kj31 l1 a3 a4 y568 t574 true a0_0 l0_1 l0_2)) else (if t574 = 0 then (culletlaw07_InspectStays.j2 kj31 l1 a3 a4 y568 t574 (t577 == 1) a0_0 l0_1 l0_2) else (culletlaw07_InspectStays.j2 kj31 l1 a3 a4 y568 t574 false a0_0 l0_1 l0_2)))) else (culletlaw07_InspectStays.j2 kj31 l1 a3 a4 y568 t574 true a0_0 l0_1 l0_2)) else (if t574 = 1 then (if t577 = 1 then (if t574 = 3 then (if t577 = 3 then (if t574 = 0 then (culletlaw07_InspectStays.j2 kj31 l1 a3 a4 y568 t574 (t577 == 1) a0_0 l0_1 l0_2) else (culletlaw07_InspectStays.j2 kj31 l1 a3 a4 y568 t574 false a0_0 l0_1 l0_2)) else (culletlaw07_InspectStays.j2 kj31 l1 a3 a4 y568 t574 true a0_0 l0_1 l0_2)) else (if t574 = 0 then (culletlaw07_InspectStays.j2 kj31 l1 a3 a4 y568 t574 (t577 == 1) a0_0 l0_1 l0_2) else (culletlaw07_InspectStays.j2 kj31 l1 a3 a4 y568 t574 false a0_0 l0_1 l0_2))) else (culletlaw07_InspectStays.j2 kj31 l1 a3 a4 y568 t574 true a0_0 l0_1 l0_2)) else (if t574 = 3 then (if t577 = 3 then (if t574 = 0 then (culletlaw07_InspectStays.j2 kj31 l1 a3 a4 y568 t574 (t577 == 1) a0_0 l0_1 l0_2) else (culletlaw07_InspectStays.j2 kj31 l1 a3 a4 y568 t574 false a0_0 l0_1 l0_2)) else (culletlaw07_InspectStays.j2 kj31 l1 a3 a4 y568 t574 true a0_0 l0_1 l0_2)) else (if t574 = 0 then (culletlaw07_InspectStays.j2 kj31 l1 a3 a4 y568 t574 (t577 == 1) a0_0 l0_1 l0_2) else (culletlaw07_InspectStays.j2 kj31 l1 a3 a4 y568 t574 false a0_0 l0_1 l0_2))))) else (culletlaw07_InspectStays.j2 kj31 l1 a3 a4 y568 t574 true a0_0 l0_1 l0_2)) else ((culletlaw07_looks.f).bind fun t580 => (some t580))) = some r := H
         have A51 := Aside0.mk A510
         clear A510
         by_cases c52 : t576 = 0
         ·rw [if_pos c52] at H
          have c52b0 : (t576 == 0) = true := beq_iff_eq.mpr c52
          have c52b1 : (t576 != 0) = false := bne_eq_false_iff_eq.mpr c52
          clear c52
          have HC53 := Aside0.mk H
          clear H
          obtain ⟨hcz54_0, hcz54_1, hcz54_2, hfz54_0, hfz54_1, hfz54_2⟩ := bcs3 BK558.out
          go_upto_region 10 with (first | ((with_reducible refine gate_callee (f := 21) rfl ?_); refine goesL_ (some 68) rfl rfl Try.func21 zq23 rfl #[.agg #[.int .i64 a0_0, .slice A0_1 l0_1.length c0_1, .slice A0_2 l0_2.length c0_2], .slice A1 l1.length c1, .int .i64 a3] rfl zq4 ?_; (with_reducible refine (inspect_Judge.calls a0_0 _ _ l0_1 _ _ l0_2 _ _ l1 a3 t574 t575 t576 _ ?side1 ?side2 ?side3 ?side4 ?side5 ?side6 A50.out).mono ?_); (case side1 => exact zq5); (case side2 => exact HC0_1.out); (case side3 => exact zq6); (case side4 => exact HC0_2.out); (case side5 => exact zq22); (case side6 => exact HC1.out); rintro e w55 ⟨rfl, hb⟩; refine ⟨_, rfl, ?_⟩; have n_ := as3 (Kd.R_below (zq1 HO_11.out) hb) (blk_below (zq0 BK558.out) hb) (below_step zq2 hb); clear HO_11 BK558 HB; obtain ⟨HO_11, BK558, HB⟩ := n_; (try clear hb); (try clear hb2); (try clear hk); (try clear hi); obtain ⟨hcz56_0, hcz56_1, hcz56_2, hfz56_0, hfz56_1, hfz56_2⟩ := bcs3 BK558.out; obtain ⟨Ao57, co57, eo57⟩ := Kd.R_slice HO_11.out; subst eo57) | ((with_reducible refine gate_callee (f := 21) rfl ?_); refine goesL_ (some 76) rfl rfl Try.func21 zq23 rfl #[.agg #[.int .i64 a0_0, .slice A0_1 l0_1.length c0_1, .slice A0_2 l0_2.length c0_2], .slice Ao57 y568.length co57, .int .i64 a3] rfl zq4 ?_; (with_reducible refine (inspect_Judge.calls a0_0 _ _ l0_1 _ _ l0_2 _ _ y568 a3 t577 t578 t579 _ ?side1 ?side2 ?side3 ?side4 ?side5 ?side6 A51.out).mono ?_); (case side1 => exact zq5); (case side2 => exact HC0_1.out); (case side3 => exact zq6); (case side4 => exact HC0_2.out); (case side5 => exact zq28); (case side6 => exact zq62); rintro e w58 ⟨rfl, hb⟩; refine ⟨_, rfl, ?_⟩; have n_ := as3 (Kd.R_below (zq1 HO_11.out) hb) (blk_below (zq0 BK558.out) hb) (below_step zq2 hb); clear HO_11 BK558 HB; obtain ⟨HO_11, BK558, HB⟩ := n_; (try clear hb); (try clear hb2); (try clear hk); (try clear hi)))
          (try simp only [Act.put, List.setIfInBounds_toArray, List.set_cons_zero, List.set_cons_succ])
          go_cut [116] (fun v116 wc => ∃ (kq : Nat) (x116_52 : Bool), v116 = .bool x116_52 ∧ Aside0 (culletlaw07_InspectStays.j2 kq l1 a3 a4 y568 t574 x116_52 a0_0 l0_1 l0_2 = some r) ∧ Aside0 (kq ≤ kj31) ∧ Aside0 (Kd.R k45 45 wc w.heap.size (fun _ => True) (.slice Ao57 y568.length co57) y568) ∧ Aside0 (wc.heap[gb558]? = some (.cells #[.int .i64 a0_0, (.slice A0_1 l0_1.length c0_1), (.slice A0_2 l0_2.length c0_2)] 25 (0, 0))) ∧ Aside0 (Below w.heap.size w wc))
          case first =>
           as_aux_lemma =>
           have H := HC53.out
           clear HC53
           by_cases c59 : t579 = 0
           ·rw [if_pos c59] at H
            have c59b0 : (t579 == 0) = true := beq_iff_eq.mpr c59
            have c59b1 : (t579 != 0) = false := bne_eq_false_iff_eq.mpr c59
            clear c59
            (first | rw [c59b0] | (simp only [i64_w, i32_w]; rw [c59b0]) | skip)
            by_cases c60 : t574 = 2
            ·rw [if_pos c60] at H
             have c60b0 : (t574 == 2) = true := beq_iff_eq.mpr c60
             have c60b1 : (t574 != 2) = false := bne_eq_false_iff_eq.mpr c60
             clear c60
             by_cases c61 : t577 = 2
             ·rw [if_pos c61] at H
              have c61b0 : (t577 == 2) = true := beq_iff_eq.mpr c61
              have c61b1 : (t577 != 2) = false := bne_eq_false_iff_eq.mpr c61
              clear c61
              by_cases c62 : t574 = 1
              ·rw [if_pos c62] at H
               have c62b0 : (t574 == 1) = true := beq_iff_eq.mpr c62
               have c62b1 : (t574 != 1) = false := bne_eq_false_iff_eq.mpr c62
               clear c62
               by_cases c63 : t577 = 1
               ·rw [if_pos c63] at H
                have c63b0 : (t577 == 1) = true := beq_iff_eq.mpr c63
                have c63b1 : (t577 != 1) = false := bne_eq_false_iff_eq.mpr c63
                clear c63
                by_cases c64 : t574 = 3
                ·rw [if_pos c64] at H
                 have c64b0 : (t574 == 3) = true := beq_iff_eq.mpr c64
                 have c64b1 : (t574 != 3) = false := bne_eq_false_iff_eq.mpr c64
                 clear c64
                 by_cases c65 : t577 = 3
                 ·rw [if_pos c65] at H
                  have c65b0 : (t577 == 3) = true := beq_iff_eq.mpr c65
                  have c65b1 : (t577 != 3) = false := bne_eq_false_iff_eq.mpr c65
                  clear c65
                  by_cases c66 : t574 = 0
                  ·rw [if_pos c66] at H
                   have c66b0 : (t574 == 0) = true := beq_iff_eq.mpr c66
                   have c66b1 : (t574 != 0) = false := bne_eq_false_iff_eq.mpr c66
                   clear c66
                   have H' := Aside0.mk H
                   clear H
                   go_wp2
                   go_meet
                   case rel => exact ⟨_, ((t577 == 1)), zq11, H', ⟨zq25⟩, ⟨(zq1 HO_11.out)⟩, ⟨(zq0 BK558.out)⟩, ⟨zq2⟩⟩
                  ·rw [if_neg c66] at H
                   have c66b0 : (t574 == 0) = false := beq_eq_false_iff_ne.mpr c66
                   have c66b1 : (t574 != 0) = true := bne_iff_ne.mpr c66
                   have H' := Aside0.mk H
                   clear H
                   go_wp2
                   go_meet
                   case rel => exact ⟨_, (false), zq11, H', ⟨zq25⟩, ⟨(zq1 HO_11.out)⟩, ⟨(zq0 BK558.out)⟩, ⟨zq2⟩⟩
                 ·rw [if_neg c65] at H
                  have c65b0 : (t577 == 3) = false := beq_eq_false_iff_ne.mpr c65
                  have c65b1 : (t577 != 3) = true := bne_iff_ne.mpr c65
                  have H' := Aside0.mk H
                  clear H
                  go_wp2
                  go_meet
                  case rel => exact ⟨_, (true), zq11, H', ⟨zq25⟩, ⟨(zq1 HO_11.out)⟩, ⟨(zq0 BK558.out)⟩, ⟨zq2⟩⟩
                ·rw [if_neg c64] at H
                 have c64b0 : (t574 == 3) = false := beq_eq_false_iff_ne.mpr c64
                 have c64b1 : (t574 != 3) = true := bne_iff_ne.mpr c64
                 by_cases c67 : t574 = 0
                 ·rw [if_pos c67] at H
                  have c67b0 : (t574 == 0) = true := beq_iff_eq.mpr c67
                  have c67b1 : (t574 != 0) = false := bne_eq_false_iff_eq.mpr c67
                  clear c67
                  have H' := Aside0.mk H
                  clear H
                  go_wp2
                  go_meet
                  case rel => exact ⟨_, ((t577 == 1)), zq11, H', ⟨zq25⟩, ⟨(zq1 HO_11.out)⟩, ⟨(zq0 BK558.out)⟩, ⟨zq2⟩⟩
                 ·rw [if_neg c67] at H
                  have c67b0 : (t574 == 0) = false := beq_eq_false_iff_ne.mpr c67
                  have c67b1 : (t574 != 0) = true := bne_iff_ne.mpr c67
                  have H' := Aside0.mk H
                  clear H
                  go_wp2
                  go_meet
                  case rel => exact ⟨_, (false), zq11, H', ⟨zq25⟩, ⟨(zq1 HO_11.out)⟩, ⟨(zq0 BK558.out)⟩, ⟨zq2⟩⟩
               ·rw [if_neg c63] at H
                have c63b0 : (t577 == 1) = false := beq_eq_false_iff_ne.mpr c63
                have c63b1 : (t577 != 1) = true := bne_iff_ne.mpr c63
                have H' := Aside0.mk H
                clear H
                go_wp2
                go_meet
                case rel => exact ⟨_, (true), zq11, H', ⟨zq25⟩, ⟨(zq1 HO_11.out)⟩, ⟨(zq0 BK558.out)⟩, ⟨zq2⟩⟩
              ·rw [if_neg c62] at H
               have c62b0 : (t574 == 1) = false := beq_eq_false_iff_ne.mpr c62
               have c62b1 : (t574 != 1) = true := bne_iff_ne.mpr c62
               by_cases c68 : t574 = 3
               ·rw [if_pos c68] at H
                have c68b0 : (t574 == 3) = true := beq_iff_eq.mpr c68
                have c68b1 : (t574 != 3) = false := bne_eq_false_iff_eq.mpr c68
                clear c68
                by_cases c69 : t577 = 3
                ·rw [if_pos c69] at H
                 have c69b0 : (t577 == 3) = true := beq_iff_eq.mpr c69
                 have c69b1 : (t577 != 3) = false := bne_eq_false_iff_eq.mpr c69
                 clear c69
                 by_cases c70 : t574 = 0
                 ·rw [if_pos c70] at H
                  have c70b0 : (t574 == 0) = true := beq_iff_eq.mpr c70
                  have c70b1 : (t574 != 0) = false := bne_eq_false_iff_eq.mpr c70
                  clear c70
                  have H' := Aside0.mk H
                  clear H
                  go_wp2
                  go_meet
                  case rel => exact ⟨_, ((t577 == 1)), zq11, H', ⟨zq25⟩, ⟨(zq1 HO_11.out)⟩, ⟨(zq0 BK558.out)⟩, ⟨zq2⟩⟩
                 ·rw [if_neg c70] at H
                  have c70b0 : (t574 == 0) = false := beq_eq_false_iff_ne.mpr c70
                  have c70b1 : (t574 != 0) = true := bne_iff_ne.mpr c70
                  have H' := Aside0.mk H
                  clear H
                  go_wp2
                  go_meet
                  case rel => exact ⟨_, (false), zq11, H', ⟨zq25⟩, ⟨(zq1 HO_11.out)⟩, ⟨(zq0 BK558.out)⟩, ⟨zq2⟩⟩
                ·rw [if_neg c69] at H
                 have c69b0 : (t577 == 3) = false := beq_eq_false_iff_ne.mpr c69
                 have c69b1 : (t577 != 3) = true := bne_iff_ne.mpr c69
                 have H' := Aside0.mk H
                 clear H
                 go_wp2
                 go_meet
                 case rel => exact ⟨_, (true), zq11, H', ⟨zq25⟩, ⟨(zq1 HO_11.out)⟩, ⟨(zq0 BK558.out)⟩, ⟨zq2⟩⟩
               ·rw [if_neg c68] at H
                have c68b0 : (t574 == 3) = false := beq_eq_false_iff_ne.mpr c68
                have c68b1 : (t574 != 3) = true := bne_iff_ne.mpr c68
                by_cases c71 : t574 = 0
                ·rw [if_pos c71] at H
                 have c71b0 : (t574 == 0) = true := beq_iff_eq.mpr c71
                 have c71b1 : (t574 != 0) = false := bne_eq_false_iff_eq.mpr c71
                 clear c71
                 have H' := Aside0.mk H
                 clear H
                 go_wp2
                 go_meet
                 case rel => exact ⟨_, ((t577 == 1)), zq11, H', ⟨zq25⟩, ⟨(zq1 HO_11.out)⟩, ⟨(zq0 BK558.out)⟩, ⟨zq2⟩⟩
                ·rw [if_neg c71] at H
                 have c71b0 : (t574 == 0) = false := beq_eq_false_iff_ne.mpr c71
                 have c71b1 : (t574 != 0) = true := bne_iff_ne.mpr c71
                 have H' := Aside0.mk H
                 clear H
                 go_wp2
                 go_meet
                 case rel => exact ⟨_, (false), zq11, H', ⟨zq25⟩, ⟨(zq1 HO_11.out)⟩, ⟨(zq0 BK558.out)⟩, ⟨zq2⟩⟩
             ·rw [if_neg c61] at H
              have c61b0 : (t577 == 2) = false := beq_eq_false_iff_ne.mpr c61
              have c61b1 : (t577 != 2) = true := bne_iff_ne.mpr c61
              have H' := Aside0.mk H
              clear H
              go_wp2
              go_meet
              case rel => exact ⟨_, (true), zq11, H', ⟨zq25⟩, ⟨(zq1 HO_11.out)⟩, ⟨(zq0 BK558.out)⟩, ⟨zq2⟩⟩
            ·rw [if_neg c60] at H
             have c60b0 : (t574 == 2) = false := beq_eq_false_iff_ne.mpr c60
             have c60b1 : (t574 != 2) = true := bne_iff_ne.mpr c60
             by_cases c72 : t574 = 1
             ·rw [if_pos c72] at H
              have c72b0 : (t574 == 1) = true := beq_iff_eq.mpr c72
              have c72b1 : (t574 != 1) = false := bne_eq_false_iff_eq.mpr c72
              clear c72
              by_cases c73 : t577 = 1
              ·rw [if_pos c73] at H
               have c73b0 : (t577 == 1) = true := beq_iff_eq.mpr c73
               have c73b1 : (t577 != 1) = false := bne_eq_false_iff_eq.mpr c73
               clear c73
               by_cases c74 : t574 = 3
               ·rw [if_pos c74] at H
                have c74b0 : (t574 == 3) = true := beq_iff_eq.mpr c74
                have c74b1 : (t574 != 3) = false := bne_eq_false_iff_eq.mpr c74
                clear c74
                by_cases c75 : t577 = 3
                ·rw [if_pos c75] at H
                 have c75b0 : (t577 == 3) = true := beq_iff_eq.mpr c75
                 have c75b1 : (t577 != 3) = false := bne_eq_false_iff_eq.mpr c75
                 clear c75
                 by_cases c76 : t574 = 0
                 ·rw [if_pos c76] at H
                  have c76b0 : (t574 == 0) = true := beq_iff_eq.mpr c76
                  have c76b1 : (t574 != 0) = false := bne_eq_false_iff_eq.mpr c76
                  clear c76
                  have H' := Aside0.mk H
                  clear H
                  go_wp2
                  go_meet
                  case rel => exact ⟨_, ((t577 == 1)), zq11, H', ⟨zq25⟩, ⟨(zq1 HO_11.out)⟩, ⟨(zq0 BK558.out)⟩, ⟨zq2⟩⟩
                 ·rw [if_neg c76] at H
                  have c76b0 : (t574 == 0) = false := beq_eq_false_iff_ne.mpr c76
                  have c76b1 : (t574 != 0) = true := bne_iff_ne.mpr c76
                  have H' := Aside0.mk H
                  clear H
                  go_wp2
                  go_meet
                  case rel => exact ⟨_, (false), zq11, H', ⟨zq25⟩, ⟨(zq1 HO_11.out)⟩, ⟨(zq0 BK558.out)⟩, ⟨zq2⟩⟩
                ·rw [if_neg c75] at H
                 have c75b0 : (t577 == 3) = false := beq_eq_false_iff_ne.mpr c75
                 have c75b1 : (t577 != 3) = true := bne_iff_ne.mpr c75
                 have H' := Aside0.mk H
                 clear H
                 go_wp2
                 go_meet
                 case rel => exact ⟨_, (true), zq11, H', ⟨zq25⟩, ⟨(zq1 HO_11.out)⟩, ⟨(zq0 BK558.out)⟩, ⟨zq2⟩⟩
               ·rw [if_neg c74] at H
                have c74b0 : (t574 == 3) = false := beq_eq_false_iff_ne.mpr c74
                have c74b1 : (t574 != 3) = true := bne_iff_ne.mpr c74
                by_cases c77 : t574 = 0
                ·rw [if_pos c77] at H
                 have c77b0 : (t574 == 0) = true := beq_iff_eq.mpr c77
                 have c77b1 : (t574 != 0) = false := bne_eq_false_iff_eq.mpr c77
                 clear c77
                 have H' := Aside0.mk H
                 clear H
                 go_wp2
                 go_meet
                 case rel => exact ⟨_, ((t577 == 1)), zq11, H', ⟨zq25⟩, ⟨(zq1 HO_11.out)⟩, ⟨(zq0 BK558.out)⟩, ⟨zq2⟩⟩
                ·rw [if_neg c77] at H
                 have c77b0 : (t574 == 0) = false := beq_eq_false_iff_ne.mpr c77
                 have c77b1 : (t574 != 0) = true := bne_iff_ne.mpr c77
                 have H' := Aside0.mk H
                 clear H
                 go_wp2
                 go_meet
                 case rel => exact ⟨_, (false), zq11, H', ⟨zq25⟩, ⟨(zq1 HO_11.out)⟩, ⟨(zq0 BK558.out)⟩, ⟨zq2⟩⟩
              ·rw [if_neg c73] at H
               have c73b0 : (t577 == 1) = false := beq_eq_false_iff_ne.mpr c73
               have c73b1 : (t577 != 1) = true := bne_iff_ne.mpr c73
               have H' := Aside0.mk H
               clear H
               go_wp2
               go_meet
               case rel => exact ⟨_, (true), zq11, H', ⟨zq25⟩, ⟨(zq1 HO_11.out)⟩, ⟨(zq0 BK558.out)⟩, ⟨zq2⟩⟩
             ·rw [if_neg c72] at H
              have c72b0 : (t574 == 1) = false := beq_eq_false_iff_ne.mpr c72
              have c72b1 : (t574 != 1) = true := bne_iff_ne.mpr c72
              by_cases c78 : t574 = 3
              ·rw [if_pos c78] at H
               have c78b0 : (t574 == 3) = true := beq_iff_eq.mpr c78
               have c78b1 : (t574 != 3) = false := bne_eq_false_iff_eq.mpr c78
               clear c78
               by_cases c79 : t577 = 3
               ·rw [if_pos c79] at H
                have c79b0 : (t577 == 3) = true := beq_iff_eq.mpr c79
                have c79b1 : (t577 != 3) = false := bne_eq_false_iff_eq.mpr c79
                clear c79
                by_cases c80 : t574 = 0
                ·rw [if_pos c80] at H
                 have c80b0 : (t574 == 0) = true := beq_iff_eq.mpr c80
                 have c80b1 : (t574 != 0) = false := bne_eq_false_iff_eq.mpr c80
                 clear c80
                 have H' := Aside0.mk H
                 clear H
                 go_wp2
                 go_meet
                 case rel => exact ⟨_, ((t577 == 1)), zq11, H', ⟨zq25⟩, ⟨(zq1 HO_11.out)⟩, ⟨(zq0 BK558.out)⟩, ⟨zq2⟩⟩
                ·rw [if_neg c80] at H
                 have c80b0 : (t574 == 0) = false := beq_eq_false_iff_ne.mpr c80
                 have c80b1 : (t574 != 0) = true := bne_iff_ne.mpr c80
                 have H' := Aside0.mk H
                 clear H
                 go_wp2
                 go_meet
                 case rel => exact ⟨_, (false), zq11, H', ⟨zq25⟩, ⟨(zq1 HO_11.out)⟩, ⟨(zq0 BK558.out)⟩, ⟨zq2⟩⟩
               ·rw [if_neg c79] at H
                have c79b0 : (t577 == 3) = false := beq_eq_false_iff_ne.mpr c79
                have c79b1 : (t577 != 3) = true := bne_iff_ne.mpr c79
                have H' := Aside0.mk H
                clear H
                go_wp2
                go_meet
                case rel => exact ⟨_, (true), zq11, H', ⟨zq25⟩, ⟨(zq1 HO_11.out)⟩, ⟨(zq0 BK558.out)⟩, ⟨zq2⟩⟩
              ·rw [if_neg c78] at H
               have c78b0 : (t574 == 3) = false := beq_eq_false_iff_ne.mpr c78
               have c78b1 : (t574 != 3) = true := bne_iff_ne.mpr c78
               by_cases c81 : t574 = 0
               ·rw [if_pos c81] at H
                have c81b0 : (t574 == 0) = true := beq_iff_eq.mpr c81
                have c81b1 : (t574 != 0) = false := bne_eq_false_iff_eq.mpr c81
                clear c81
                have H' := Aside0.mk H
                clear H
                go_wp2
                go_meet
                case rel => exact ⟨_, ((t577 == 1)), zq11, H', ⟨zq25⟩, ⟨(zq1 HO_11.out)⟩, ⟨(zq0 BK558.out)⟩, ⟨zq2⟩⟩
               ·rw [if_neg c81] at H
                have c81b0 : (t574 == 0) = false := beq_eq_false_iff_ne.mpr c81
                have c81b1 : (t574 != 0) = true := bne_iff_ne.mpr c81
                have H' := Aside0.mk H
                clear H
                go_wp2
                go_meet
                case rel => exact ⟨_, (false), zq11, H', ⟨zq25⟩, ⟨(zq1 HO_11.out)⟩, ⟨(zq0 BK558.out)⟩, ⟨zq2⟩⟩
           ·rw [if_neg c59] at H
            have c59b0 : (t579 == 0) = false := beq_eq_false_iff_ne.mpr c59
            have c59b1 : (t579 != 0) = true := bne_iff_ne.mpr c59
            (first | rw [c59b0] | (simp only [i64_w, i32_w]; rw [c59b0]) | skip)
            have H' := Aside0.mk H
            clear H
            go_wp2
            go_meet
            case rel => exact ⟨_, (true), zq11, H', ⟨zq25⟩, ⟨(zq1 HO_11.out)⟩, ⟨(zq0 BK558.out)⟩, ⟨zq2⟩⟩
          case rest =>
           as_aux_lemma =>
           clear HC53
           try clear c1
           try clear c2
           try clear p2 p2
           try clear c3
           try clear c4
           try clear c5
           try clear c6
           try clear c7
           try clear c8
           try clear c9
           try clear c10
           try clear c11
           try clear c13
           try clear c18
           try clear c18b0
           try clear c18b1
           try clear c19
           try clear c21
           try clear c27
           try clear c30
           try clear c31
           try clear c38
           try clear c38b0
           try clear c38b1
           try clear c47
           try clear c52
           try clear c52b0
           try clear c52b1
           try clear c59
           try clear c59b0
           try clear c59b1
           try clear c60
           try clear c60b0
           try clear c60b1
           try clear c61
           try clear c61b0
           try clear c61b1
           try clear c62
           try clear c62b0
           try clear c62b1
           try clear c63
           try clear c63b0
           try clear c63b1
           try clear c64
           try clear c64b0
           try clear c64b1
           try clear c65
           try clear c65b0
           try clear c65b1
           try clear c66
           try clear c66b0
           try clear c66b1
           try clear c67
           try clear c67b0
           try clear c67b1
           try clear c68
           try clear c68b0
           try clear c68b1
           try clear c69
           try clear c69b0
           try clear c69b1
           try clear c70
           try clear c70b0
           try clear c70b1
           try clear c71
           try clear c71b0
           try clear c71b1
           try clear c72
           try clear c72b0
           try clear c72b1
           try clear c73
           try clear c73b0
           try clear c73b1
           try clear c74
           try clear c74b0
           try clear c74b1
           try clear c75
           try clear c75b0
           try clear c75b1
           try clear c76
           try clear c76b0
           try clear c76b1
           try clear c77
           try clear c77b0
           try clear c77b1
           try clear c78
           try clear c78b0
           try clear c78b1
           try clear c79
           try clear c79b0
           try clear c79b1
           try clear c80
           try clear c80b0
           try clear c80b1
           try clear c81
           try clear c81b0
           try clear c81b1
           try clear hcz10_0 hcz10_1 hcz10_2 hfz10_0 hfz10_1 hfz10_2
           try clear hcz14_0 hcz14_1 hcz14_2 hfz14_0 hfz14_1 hfz14_2
           try clear hcz16_0 hcz16_1 hcz16_2 hfz16_0 hfz16_1 hfz16_2
           try clear hcz19_0 hcz19_1 hcz19_2 hfz19_0 hfz19_1 hfz19_2
           try clear hcz21_0 hcz21_1 hcz21_2 hfz21_0 hfz21_1 hfz21_2
           try clear hcz23_0 hcz23_1 hcz23_2 hfz23_0 hfz23_1 hfz23_2
           try clear hcz25_0 hcz25_1 hcz25_2 hfz25_0 hfz25_1 hfz25_2
           try clear hcz40_0 hcz40_1 hcz40_2 hfz40_0 hfz40_1 hfz40_2
           try clear hcz42_0 hcz42_1 hcz42_2 hfz42_0 hfz42_1 hfz42_2
           try clear hcz45_0 hcz45_1 hcz45_2 hfz45_0 hfz45_1 hfz45_2
           try clear hcz54_0 hcz54_1 hcz54_2 hfz54_0 hfz54_1 hfz54_2
           try clear hcz56_0 hcz56_1 hcz56_2 hfz56_0 hfz56_1 hfz56_2
           obtain ⟨kq, x116_52, rfl, HA, HJ52, HO_11, BK558, HB⟩ := hcut
           cases kq with
           | zero => exact absurd HA.out (by simp [culletlaw07_InspectStays.j2])
           | succ kj52 =>
            have H := HA.out
            clear HA
            simp only [culletlaw07_InspectStays.j2] at H
            by_cases c82 : x116_52 = true
            ·subst c82
             have H1 : (some false) = some r := by rw [if_pos rfl] at H; exact H
             clear H
             have H := H1
             clear H1
             obtain rfl := Option.some.inj H
             go_wp2
             go_ret
             exact ⟨zq10, zq2⟩
            ·replace c82 := Bool.eq_false_iff.mpr c82
             subst c82
             have H1 : (culletlaw07_InspectStays.l0 kj52 l1 a3 a4 y568 t574 0 a0_0 l0_1 l0_2) = some r := by rw [if_neg (show ¬ (false = true) by decide)] at H; exact H
             clear H
             have H := H1
             clear H1
             have H' := Aside0.mk H
             clear H
             go_wp2
             go_loopg [18] kj52 (fun kq v18 w' => ∃ (x18_4 : Int), v18 = .int .i64 x18_4 ∧ Aside0 (culletlaw07_InspectStays.l0 kq l1 a3 a4 y568 t574 x18_4 a0_0 l0_1 l0_2 = some r) ∧ Aside0 (kq ≤ kj52) ∧ Aside0 (Kd.R k45 45 w' w.heap.size (fun _ => True) (.slice Ao57 y568.length co57) y568) ∧ Aside0 (w'.heap[gb558]? = some (.cells #[.int .i64 a0_0, (.slice A0_1 l0_1.length c0_1), (.slice A0_2 l0_2.length c0_2)] 25 (0, 0))) ∧ Aside0 (Below w.heap.size w w'))
             case atStart => exact ⟨(0), zq11, H', ⟨Nat.le_refl _⟩, ⟨(zq1 HO_11.out)⟩, ⟨(zq0 BK558.out)⟩, ⟨zq2⟩⟩
             case round =>
              clear H'
              try clear c1
              try clear c2
              try clear p2 p2
              try clear c3
              try clear c4
              try clear c5
              try clear c6
              try clear c7
              try clear c8
              try clear c9
              try clear c10
              try clear c11
              try clear c13
              try clear c18
              try clear c18b0
              try clear c18b1
              try clear c19
              try clear c21
              try clear c27
              try clear c30
              try clear c31
              try clear c38
              try clear c38b0
              try clear c38b1
              try clear c47
              try clear c52
              try clear c52b0
              try clear c52b1
              try clear c59
              try clear c59b0
              try clear c59b1
              try clear c60
              try clear c60b0
              try clear c60b1
              try clear c61
              try clear c61b0
              try clear c61b1
              try clear c62
              try clear c62b0
              try clear c62b1
              try clear c63
              try clear c63b0
              try clear c63b1
              try clear c64
              try clear c64b0
              try clear c64b1
              try clear c65
              try clear c65b0
              try clear c65b1
              try clear c66
              try clear c66b0
              try clear c66b1
              try clear c67
              try clear c67b0
              try clear c67b1
              try clear c68
              try clear c68b0
              try clear c68b1
              try clear c69
              try clear c69b0
              try clear c69b1
              try clear c70
              try clear c70b0
              try clear c70b1
              try clear c71
              try clear c71b0
              try clear c71b1
              try clear c72
              try clear c72b0
              try clear c72b1
              try clear c73
              try clear c73b0
              try clear c73b1
              try clear c74
              try clear c74b0
              try clear c74b1
              try clear c75
              try clear c75b0
              try clear c75b1
              try clear c76
              try clear c76b0
              try clear c76b1
              try clear c77
              try clear c77b0
              try clear c77b1
              try clear c78
              try clear c78b0
              try clear c78b1
              try clear c79
              try clear c79b0
              try clear c79b1
              try clear c80
              try clear c80b0
              try clear c80b1
              try clear c81
              try clear c81b0
              try clear c81b1
              try clear c82
              try clear hcz10_0 hcz10_1 hcz10_2 hfz10_0 hfz10_1 hfz10_2
              try clear hcz14_0 hcz14_1 hcz14_2 hfz14_0 hfz14_1 hfz14_2
              try clear hcz16_0 hcz16_1 hcz16_2 hfz16_0 hfz16_1 hfz16_2
              try clear hcz19_0 hcz19_1 hcz19_2 hfz19_0 hfz19_1 hfz19_2
              try clear hcz21_0 hcz21_1 hcz21_2 hfz21_0 hfz21_1 hfz21_2
              try clear hcz23_0 hcz23_1 hcz23_2 hfz23_0 hfz23_1 hfz23_2
              try clear hcz25_0 hcz25_1 hcz25_2 hfz25_0 hfz25_1 hfz25_2
              try clear hcz40_0 hcz40_1 hcz40_2 hfz40_0 hfz40_1 hfz40_2
              try clear hcz42_0 hcz42_1 hcz42_2 hfz42_0 hfz42_1 hfz42_2
              try clear hcz45_0 hcz45_1 hcz45_2 hfz45_0 hfz45_1 hfz45_2
              try clear hcz54_0 hcz54_1 hcz54_2 hfz54_0 hfz54_1 hfz54_2
              try clear hcz56_0 hcz56_1 hcz56_2 hfz56_0 hfz56_1 hfz56_2
              obtain ⟨x18_4, rfl, HA, HK4, HO_11, BK558, HB⟩ := hrel
              cases gk with
              | zero => exact absurd HA.out (by simp [culletlaw07_InspectStays.l0])
              | succ k4 =>
               have H := HA.out
               clear HA
               simp only [culletlaw07_InspectStays.l0] at H
               by_cases c83 : x18_4 < (l0_2.length : Int)
               ·rw [if_pos c83] at H
                have c83b0 : decide (x18_4 < (l0_2.length : Int)) = true := decide_eq_true c83
                clear c83
                have H' := Aside0.mk H
                clear H
                obtain ⟨hcz84_0, hcz84_1, hcz84_2, hfz84_0, hfz84_1, hfz84_2⟩ := bcs3 BK558.out
                go_wp2
                go_loopg [19] k4 (fun kq v19 w' => ∃ (x19_5 : Int), v19 = .int .i64 x19_5 ∧ Aside0 (culletlaw07_InspectStays.l1 kq l1 a3 a4 y568 t574 x18_4 x19_5 a0_0 l0_1 l0_2 = some r) ∧ Aside0 (kq ≤ k4) ∧ Aside0 (Kd.R k45 45 w' w.heap.size (fun _ => True) (.slice Ao57 y568.length co57) y568) ∧ Aside0 (w'.heap[gb558]? = some (.cells #[.int .i64 a0_0, (.slice A0_1 l0_1.length c0_1), (.slice A0_2 l0_2.length c0_2)] 25 (0, 0))) ∧ Aside0 (Below w.heap.size w w'))
                case atStart => exact ⟨(0), zq11, H', ⟨Nat.le_refl _⟩, ⟨(zq1 HO_11.out)⟩, ⟨(zq0 BK558.out)⟩, ⟨zq2⟩⟩
                case round =>
                 clear H'
                 try clear c1
                 try clear c2
                 try clear p2 p2
                 try clear c3
                 try clear c4
                 try clear c5
                 try clear c6
                 try clear c7
                 try clear c8
                 try clear c9
                 try clear c10
                 try clear c11
                 try clear c13
                 try clear c18
                 try clear c18b0
                 try clear c18b1
                 try clear c19
                 try clear c21
                 try clear c27
                 try clear c30
                 try clear c31
                 try clear c38
                 try clear c38b0
                 try clear c38b1
                 try clear c47
                 try clear c52
                 try clear c52b0
                 try clear c52b1
                 try clear c59
                 try clear c59b0
                 try clear c59b1
                 try clear c60
                 try clear c60b0
                 try clear c60b1
                 try clear c61
                 try clear c61b0
                 try clear c61b1
                 try clear c62
                 try clear c62b0
                 try clear c62b1
                 try clear c63
                 try clear c63b0
                 try clear c63b1
                 try clear c64
                 try clear c64b0
                 try clear c64b1
                 try clear c65
                 try clear c65b0
                 try clear c65b1
                 try clear c66
                 try clear c66b0
                 try clear c66b1
                 try clear c67
                 try clear c67b0
                 try clear c67b1
                 try clear c68
                 try clear c68b0
                 try clear c68b1
                 try clear c69
                 try clear c69b0
                 try clear c69b1
                 try clear c70
                 try clear c70b0
                 try clear c70b1
                 try clear c71
                 try clear c71b0
                 try clear c71b1
                 try clear c72
                 try clear c72b0
                 try clear c72b1
                 try clear c73
                 try clear c73b0
                 try clear c73b1
                 try clear c74
                 try clear c74b0
                 try clear c74b1
                 try clear c75
                 try clear c75b0
                 try clear c75b1
                 try clear c76
                 try clear c76b0
                 try clear c76b1
                 try clear c77
                 try clear c77b0
                 try clear c77b1
                 try clear c78
                 try clear c78b0
                 try clear c78b1
                 try clear c79
                 try clear c79b0
                 try clear c79b1
                 try clear c80
                 try clear c80b0
                 try clear c80b1
                 try clear c81
                 try clear c81b0
                 try clear c81b1
                 try clear c82
                 try clear c83
                 try clear c83b0
                 try clear hcz10_0 hcz10_1 hcz10_2 hfz10_0 hfz10_1 hfz10_2
                 try clear hcz14_0 hcz14_1 hcz14_2 hfz14_0 hfz14_1 hfz14_2
                 try clear hcz16_0 hcz16_1 hcz16_2 hfz16_0 hfz16_1 hfz16_2
                 try clear hcz19_0 hcz19_1 hcz19_2 hfz19_0 hfz19_1 hfz19_2
                 try clear hcz21_0 hcz21_1 hcz21_2 hfz21_0 hfz21_1 hfz21_2
                 try clear hcz23_0 hcz23_1 hcz23_2 hfz23_0 hfz23_1 hfz23_2
                 try clear hcz25_0 hcz25_1 hcz25_2 hfz25_0 hfz25_1 hfz25_2
                 try clear hcz40_0 hcz40_1 hcz40_2 hfz40_0 hfz40_1 hfz40_2
                 try clear hcz42_0 hcz42_1 hcz42_2 hfz42_0 hfz42_1 hfz42_2
                 try clear hcz45_0 hcz45_1 hcz45_2 hfz45_0 hfz45_1 hfz45_2
                 try clear hcz54_0 hcz54_1 hcz54_2 hfz54_0 hfz54_1 hfz54_2
                 try clear hcz56_0 hcz56_1 hcz56_2 hfz56_0 hfz56_1 hfz56_2
                 try clear hcz84_0 hcz84_1 hcz84_2 hfz84_0 hfz84_1 hfz84_2
                 obtain ⟨x19_5, rfl, HA, HK5, HO_11, BK558, HB⟩ := hrel
                 cases gk with
                 | zero => exact absurd HA.out (by simp [culletlaw07_InspectStays.l1])
                 | succ k5 =>
                  have H := HA.out
                  clear HA
                  simp only [culletlaw07_InspectStays.l1] at H
                  by_cases c85 : x19_5 < (l0_1.length : Int)
                  ·rw [if_pos c85] at H
                   have c85b0 : decide (x19_5 < (l0_1.length : Int)) = true := decide_eq_true c85
                   clear c85
                   replace H := Option.bind_eq_some_iff.mp H
                   obtain ⟨⟨t581, t582⟩, A860, H⟩ := H
                   replace H : ((inspect_Trusted.f a0_0 l0_1 l0_2 y568 x18_4 x19_5 a3).bind fun bt583 => (if t582 = 0 then (if bt583.2 = 0 then (if t581 = 0 then (culletlaw07_InspectStays.l1 k5 l1 a3 a4 y568 t574 x18_4 (wrap64 (x19_5 + 1)) a0_0 l0_1 l0_2) else (if t581 = bt583.1 then (culletlaw07_InspectStays.l1 k5 l1 a3 a4 y568 t574 x18_4 (wrap64 (x19_5 + 1)) a0_0 l0_1 l0_2) else (some false))) else (some false)) else (some false))) = some r := H
                   have A86 := Aside0.mk A860
                   clear A860
                   replace H := Option.bind_eq_some_iff.mp H
                   obtain ⟨⟨t583, t584⟩, A870, H⟩ := H
                   replace H : (if t582 = 0 then (if t584 = 0 then (if t581 = 0 then (culletlaw07_InspectStays.l1 k5 l1 a3 a4 y568 t574 x18_4 (wrap64 (x19_5 + 1)) a0_0 l0_1 l0_2) else (if t581 = t583 then (culletlaw07_InspectStays.l1 k5 l1 a3 a4 y568 t574 x18_4 (wrap64 (x19_5 + 1)) a0_0 l0_1 l0_2) else (some false))) else (some false)) else (some false)) = some r := H
                   have A87 := Aside0.mk A870
                   clear A870
                   by_cases c88 : t582 = 0
                   ·rw [if_pos c88] at H
                    have c88b0 : (t582 == 0) = true := beq_iff_eq.mpr c88
                    have c88b1 : (t582 != 0) = false := bne_eq_false_iff_eq.mpr c88
                    clear c88
                    by_cases c89 : t584 = 0
                    ·rw [if_pos c89] at H
                     have c89b0 : (t584 == 0) = true := beq_iff_eq.mpr c89
                     have c89b1 : (t584 != 0) = false := bne_eq_false_iff_eq.mpr c89
                     clear c89
                     by_cases c90 : t581 = 0
                     ·rw [if_pos c90] at H
                      have c90b0 : (t581 == 0) = true := beq_iff_eq.mpr c90
                      have c90b1 : (t581 != 0) = false := bne_eq_false_iff_eq.mpr c90
                      clear c90
                      have H' := Aside0.mk H
                      clear H
                      obtain ⟨hcz91_0, hcz91_1, hcz91_2, hfz91_0, hfz91_1, hfz91_2⟩ := bcs3 BK558.out
                      go_wp2_with (first | ((with_reducible refine gate_callee (f := 25) rfl ?_); refine goesL_ (some 137) rfl rfl Try.func25 zq23 rfl #[.agg #[.int .i64 a0_0, .slice A0_1 l0_1.length c0_1, .slice A0_2 l0_2.length c0_2], .slice A1 l1.length c1, .int .i64 x18_4, .int .i64 x19_5, .int .i64 a3] rfl zq4 ?_; (with_reducible refine (inspect_Trusted.calls a0_0 _ _ l0_1 _ _ l0_2 _ _ l1 x18_4 x19_5 a3 t581 t582 _ ?side1 ?side2 ?side3 ?side4 ?side5 ?side6 A86.out).mono ?_); (case side1 => exact zq5); (case side2 => exact HC0_1.out); (case side3 => exact zq6); (case side4 => exact HC0_2.out); (case side5 => exact zq22); (case side6 => exact HC1.out); rintro e w92 ⟨rfl, hb⟩; refine ⟨_, rfl, ?_⟩; have n_ := as3 (Kd.R_below (zq1 HO_11.out) hb) (blk_below (zq0 BK558.out) hb) (below_step zq2 hb); clear HO_11 BK558 HB; obtain ⟨HO_11, BK558, HB⟩ := n_; (try clear hb); (try clear hb2); (try clear hk); (try clear hi); obtain ⟨hcz93_0, hcz93_1, hcz93_2, hfz93_0, hfz93_1, hfz93_2⟩ := bcs3 BK558.out) | ((with_reducible refine gate_callee (f := 25) rfl ?_); refine goesL_ (some 146) rfl rfl Try.func25 zq23 rfl #[.agg #[.int .i64 a0_0, .slice A0_1 l0_1.length c0_1, .slice A0_2 l0_2.length c0_2], .slice Ao57 y568.length co57, .int .i64 x18_4, .int .i64 x19_5, .int .i64 a3] rfl zq4 ?_; (with_reducible refine (inspect_Trusted.calls a0_0 _ _ l0_1 _ _ l0_2 _ _ y568 x18_4 x19_5 a3 t583 t584 _ ?side1 ?side2 ?side3 ?side4 ?side5 ?side6 A87.out).mono ?_); (case side1 => exact zq5); (case side2 => exact HC0_1.out); (case side3 => exact zq6); (case side4 => exact HC0_2.out); (case side5 => exact zq28); (case side6 => exact zq62); rintro e w94 ⟨rfl, hb⟩; refine ⟨_, rfl, ?_⟩; have n_ := as3 (Kd.R_below (zq1 HO_11.out) hb) (blk_below (zq0 BK558.out) hb) (below_step zq2 hb); clear HO_11 BK558 HB; obtain ⟨HO_11, BK558, HB⟩ := n_; (try clear hb); (try clear hb2); (try clear hk); (try clear hi)))
                      go_roundg k5
                      case measure => have := HJ5.out; have := HJ31.out; have := HJ52.out; have := HK4.out; have := HK5.out; omega
                      case rel => exact ⟨(wrap64 (x19_5 + 1)), zq11, H', ⟨zq64⟩, ⟨(zq1 HO_11.out)⟩, ⟨(zq0 BK558.out)⟩, ⟨zq2⟩⟩
                     ·rw [if_neg c90] at H
                      have c90b0 : (t581 == 0) = false := beq_eq_false_iff_ne.mpr c90
                      have c90b1 : (t581 != 0) = true := bne_iff_ne.mpr c90
                      by_cases c95 : t581 = t583
                      ·rw [if_pos c95] at H
                       have c95b0 : (t581 == t583) = true := beq_iff_eq.mpr c95
                       have c95b1 : (t581 != t583) = false := bne_eq_false_iff_eq.mpr c95
                       clear c95
                       have H' := Aside0.mk H
                       clear H
                       obtain ⟨hcz96_0, hcz96_1, hcz96_2, hfz96_0, hfz96_1, hfz96_2⟩ := bcs3 BK558.out
                       go_wp2_with (first | ((with_reducible refine gate_callee (f := 25) rfl ?_); refine goesL_ (some 137) rfl rfl Try.func25 zq23 rfl #[.agg #[.int .i64 a0_0, .slice A0_1 l0_1.length c0_1, .slice A0_2 l0_2.length c0_2], .slice A1 l1.length c1, .int .i64 x18_4, .int .i64 x19_5, .int .i64 a3] rfl zq4 ?_; (with_reducible refine (inspect_Trusted.calls a0_0 _ _ l0_1 _ _ l0_2 _ _ l1 x18_4 x19_5 a3 t581 t582 _ ?side1 ?side2 ?side3 ?side4 ?side5 ?side6 A86.out).mono ?_); (case side1 => exact zq5); (case side2 => exact HC0_1.out); (case side3 => exact zq6); (case side4 => exact HC0_2.out); (case side5 => exact zq22); (case side6 => exact HC1.out); rintro e w97 ⟨rfl, hb⟩; refine ⟨_, rfl, ?_⟩; have n_ := as3 (Kd.R_below (zq1 HO_11.out) hb) (blk_below (zq0 BK558.out) hb) (below_step zq2 hb); clear HO_11 BK558 HB; obtain ⟨HO_11, BK558, HB⟩ := n_; (try clear hb); (try clear hb2); (try clear hk); (try clear hi); obtain ⟨hcz98_0, hcz98_1, hcz98_2, hfz98_0, hfz98_1, hfz98_2⟩ := bcs3 BK558.out) | ((with_reducible refine gate_callee (f := 25) rfl ?_); refine goesL_ (some 146) rfl rfl Try.func25 zq23 rfl #[.agg #[.int .i64 a0_0, .slice A0_1 l0_1.length c0_1, .slice A0_2 l0_2.length c0_2], .slice Ao57 y568.length co57, .int .i64 x18_4, .int .i64 x19_5, .int .i64 a3] rfl zq4 ?_; (with_reducible refine (inspect_Trusted.calls a0_0 _ _ l0_1 _ _ l0_2 _ _ y568 x18_4 x19_5 a3 t583 t584 _ ?side1 ?side2 ?side3 ?side4 ?side5 ?side6 A87.out).mono ?_); (case side1 => exact zq5); (case side2 => exact HC0_1.out); (case side3 => exact zq6); (case side4 => exact HC0_2.out); (case side5 => exact zq28); (case side6 => exact zq62); rintro e w99 ⟨rfl, hb⟩; refine ⟨_, rfl, ?_⟩; have n_ := as3 (Kd.R_below (zq1 HO_11.out) hb) (blk_below (zq0 BK558.out) hb) (below_step zq2 hb); clear HO_11 BK558 HB; obtain ⟨HO_11, BK558, HB⟩ := n_; (try clear hb); (try clear hb2); (try clear hk); (try clear hi)))
                       go_roundg k5
                       case measure => have := HJ5.out; have := HJ31.out; have := HJ52.out; have := HK4.out; have := HK5.out; omega
                       case rel => exact ⟨(wrap64 (x19_5 + 1)), zq11, H', ⟨zq64⟩, ⟨(zq1 HO_11.out)⟩, ⟨(zq0 BK558.out)⟩, ⟨zq2⟩⟩
                      ·rw [if_neg c95] at H
                       have c95b0 : (t581 == t583) = false := beq_eq_false_iff_ne.mpr c95
                       have c95b1 : (t581 != t583) = true := bne_iff_ne.mpr c95
                       obtain rfl := Option.some.inj H
                       obtain ⟨hcz100_0, hcz100_1, hcz100_2, hfz100_0, hfz100_1, hfz100_2⟩ := bcs3 BK558.out
                       go_wp2_with (first | ((with_reducible refine gate_callee (f := 25) rfl ?_); refine goesL_ (some 137) rfl rfl Try.func25 zq23 rfl #[.agg #[.int .i64 a0_0, .slice A0_1 l0_1.length c0_1, .slice A0_2 l0_2.length c0_2], .slice A1 l1.length c1, .int .i64 x18_4, .int .i64 x19_5, .int .i64 a3] rfl zq4 ?_; (with_reducible refine (inspect_Trusted.calls a0_0 _ _ l0_1 _ _ l0_2 _ _ l1 x18_4 x19_5 a3 t581 t582 _ ?side1 ?side2 ?side3 ?side4 ?side5 ?side6 A86.out).mono ?_); (case side1 => exact zq5); (case side2 => exact HC0_1.out); (case side3 => exact zq6); (case side4 => exact HC0_2.out); (case side5 => exact zq22); (case side6 => exact HC1.out); rintro e w101 ⟨rfl, hb⟩; refine ⟨_, rfl, ?_⟩; have n_ := as3 (Kd.R_below (zq1 HO_11.out) hb) (blk_below (zq0 BK558.out) hb) (below_step zq2 hb); clear HO_11 BK558 HB; obtain ⟨HO_11, BK558, HB⟩ := n_; (try clear hb); (try clear hb2); (try clear hk); (try clear hi); obtain ⟨hcz102_0, hcz102_1, hcz102_2, hfz102_0, hfz102_1, hfz102_2⟩ := bcs3 BK558.out) | ((with_reducible refine gate_callee (f := 25) rfl ?_); refine goesL_ (some 146) rfl rfl Try.func25 zq23 rfl #[.agg #[.int .i64 a0_0, .slice A0_1 l0_1.length c0_1, .slice A0_2 l0_2.length c0_2], .slice Ao57 y568.length co57, .int .i64 x18_4, .int .i64 x19_5, .int .i64 a3] rfl zq4 ?_; (with_reducible refine (inspect_Trusted.calls a0_0 _ _ l0_1 _ _ l0_2 _ _ y568 x18_4 x19_5 a3 t583 t584 _ ?side1 ?side2 ?side3 ?side4 ?side5 ?side6 A87.out).mono ?_); (case side1 => exact zq5); (case side2 => exact HC0_1.out); (case side3 => exact zq6); (case side4 => exact HC0_2.out); (case side5 => exact zq28); (case side6 => exact zq62); rintro e w103 ⟨rfl, hb⟩; refine ⟨_, rfl, ?_⟩; have n_ := as3 (Kd.R_below (zq1 HO_11.out) hb) (blk_below (zq0 BK558.out) hb) (below_step zq2 hb); clear HO_11 BK558 HB; obtain ⟨HO_11, BK558, HB⟩ := n_; (try clear hb); (try clear hb2); (try clear hk); (try clear hi)))
                       go_ret
                       exact ⟨zq10, zq2⟩
                    ·rw [if_neg c89] at H
                     have c89b0 : (t584 == 0) = false := beq_eq_false_iff_ne.mpr c89
                     have c89b1 : (t584 != 0) = true := bne_iff_ne.mpr c89
                     obtain rfl := Option.some.inj H
                     obtain ⟨hcz104_0, hcz104_1, hcz104_2, hfz104_0, hfz104_1, hfz104_2⟩ := bcs3 BK558.out
                     go_wp2_with (first | ((with_reducible refine gate_callee (f := 25) rfl ?_); refine goesL_ (some 137) rfl rfl Try.func25 zq23 rfl #[.agg #[.int .i64 a0_0, .slice A0_1 l0_1.length c0_1, .slice A0_2 l0_2.length c0_2], .slice A1 l1.length c1, .int .i64 x18_4, .int .i64 x19_5, .int .i64 a3] rfl zq4 ?_; (with_reducible refine (inspect_Trusted.calls a0_0 _ _ l0_1 _ _ l0_2 _ _ l1 x18_4 x19_5 a3 t581 t582 _ ?side1 ?side2 ?side3 ?side4 ?side5 ?side6 A86.out).mono ?_); (case side1 => exact zq5); (case side2 => exact HC0_1.out); (case side3 => exact zq6); (case side4 => exact HC0_2.out); (case side5 => exact zq22); (case side6 => exact HC1.out); rintro e w105 ⟨rfl, hb⟩; refine ⟨_, rfl, ?_⟩; have n_ := as3 (Kd.R_below (zq1 HO_11.out) hb) (blk_below (zq0 BK558.out) hb) (below_step zq2 hb); clear HO_11 BK558 HB; obtain ⟨HO_11, BK558, HB⟩ := n_; (try clear hb); (try clear hb2); (try clear hk); (try clear hi); obtain ⟨hcz106_0, hcz106_1, hcz106_2, hfz106_0, hfz106_1, hfz106_2⟩ := bcs3 BK558.out) | ((with_reducible refine gate_callee (f := 25) rfl ?_); refine goesL_ (some 146) rfl rfl Try.func25 zq23 rfl #[.agg #[.int .i64 a0_0, .slice A0_1 l0_1.length c0_1, .slice A0_2 l0_2.length c0_2], .slice Ao57 y568.length co57, .int .i64 x18_4, .int .i64 x19_5, .int .i64 a3] rfl zq4 ?_; (with_reducible refine (inspect_Trusted.calls a0_0 _ _ l0_1 _ _ l0_2 _ _ y568 x18_4 x19_5 a3 t583 t584 _ ?side1 ?side2 ?side3 ?side4 ?side5 ?side6 A87.out).mono ?_); (case side1 => exact zq5); (case side2 => exact HC0_1.out); (case side3 => exact zq6); (case side4 => exact HC0_2.out); (case side5 => exact zq28); (case side6 => exact zq62); rintro e w107 ⟨rfl, hb⟩; refine ⟨_, rfl, ?_⟩; have n_ := as3 (Kd.R_below (zq1 HO_11.out) hb) (blk_below (zq0 BK558.out) hb) (below_step zq2 hb); clear HO_11 BK558 HB; obtain ⟨HO_11, BK558, HB⟩ := n_; (try clear hb); (try clear hb2); (try clear hk); (try clear hi)))
                     go_ret
                     exact ⟨zq10, zq2⟩
                   ·rw [if_neg c88] at H
                    have c88b0 : (t582 == 0) = false := beq_eq_false_iff_ne.mpr c88
                    have c88b1 : (t582 != 0) = true := bne_iff_ne.mpr c88
                    obtain rfl := Option.some.inj H
                    obtain ⟨hcz108_0, hcz108_1, hcz108_2, hfz108_0, hfz108_1, hfz108_2⟩ := bcs3 BK558.out
                    go_wp2_with (first | ((with_reducible refine gate_callee (f := 25) rfl ?_); refine goesL_ (some 137) rfl rfl Try.func25 zq23 rfl #[.agg #[.int .i64 a0_0, .slice A0_1 l0_1.length c0_1, .slice A0_2 l0_2.length c0_2], .slice A1 l1.length c1, .int .i64 x18_4, .int .i64 x19_5, .int .i64 a3] rfl zq4 ?_; (with_reducible refine (inspect_Trusted.calls a0_0 _ _ l0_1 _ _ l0_2 _ _ l1 x18_4 x19_5 a3 t581 t582 _ ?side1 ?side2 ?side3 ?side4 ?side5 ?side6 A86.out).mono ?_); (case side1 => exact zq5); (case side2 => exact HC0_1.out); (case side3 => exact zq6); (case side4 => exact HC0_2.out); (case side5 => exact zq22); (case side6 => exact HC1.out); rintro e w109 ⟨rfl, hb⟩; refine ⟨_, rfl, ?_⟩; have n_ := as3 (Kd.R_below (zq1 HO_11.out) hb) (blk_below (zq0 BK558.out) hb) (below_step zq2 hb); clear HO_11 BK558 HB; obtain ⟨HO_11, BK558, HB⟩ := n_; (try clear hb); (try clear hb2); (try clear hk); (try clear hi); obtain ⟨hcz110_0, hcz110_1, hcz110_2, hfz110_0, hfz110_1, hfz110_2⟩ := bcs3 BK558.out) | ((with_reducible refine gate_callee (f := 25) rfl ?_); refine goesL_ (some 146) rfl rfl Try.func25 zq23 rfl #[.agg #[.int .i64 a0_0, .slice A0_1 l0_1.length c0_1, .slice A0_2 l0_2.length c0_2], .slice Ao57 y568.length co57, .int .i64 x18_4, .int .i64 x19_5, .int .i64 a3] rfl zq4 ?_; (with_reducible refine (inspect_Trusted.calls a0_0 _ _ l0_1 _ _ l0_2 _ _ y568 x18_4 x19_5 a3 t583 t584 _ ?side1 ?side2 ?side3 ?side4 ?side5 ?side6 A87.out).mono ?_); (case side1 => exact zq5); (case side2 => exact HC0_1.out); (case side3 => exact zq6); (case side4 => exact HC0_2.out); (case side5 => exact zq28); (case side6 => exact zq62); rintro e w111 ⟨rfl, hb⟩; refine ⟨_, rfl, ?_⟩; have n_ := as3 (Kd.R_below (zq1 HO_11.out) hb) (blk_below (zq0 BK558.out) hb) (below_step zq2 hb); clear HO_11 BK558 HB; obtain ⟨HO_11, BK558, HB⟩ := n_; (try clear hb); (try clear hb2); (try clear hk); (try clear hi)))
                    go_ret
                    exact ⟨zq10, zq2⟩
                  ·rw [if_neg c85] at H
                   have c85b0 : decide (x19_5 < (l0_1.length : Int)) = false := decide_eq_false c85
                   clear c85
                   have H' := Aside0.mk H
                   clear H
                   obtain ⟨hcz112_0, hcz112_1, hcz112_2, hfz112_0, hfz112_1, hfz112_2⟩ := bcs3 BK558.out
                   go_wp2
                   go_roundg k5
                   case measure => have := HJ5.out; have := HJ31.out; have := HJ52.out; have := HK4.out; have := HK5.out; omega
                   case rel => exact ⟨(wrap64 (x18_4 + 1)), zq11, H', ⟨zq64⟩, ⟨(zq1 HO_11.out)⟩, ⟨(zq0 BK558.out)⟩, ⟨zq2⟩⟩
               ·rw [if_neg c83] at H
                have c83b0 : decide (x18_4 < (l0_2.length : Int)) = false := decide_eq_false c83
                clear c83
                replace H := Option.bind_eq_some_iff.mp H
                obtain ⟨t585, A1130, H⟩ := H
                replace H : (if 0 ≤ t585 then (if t585 < (l1.length : Int) then (if ((rd_T45 l1 t585).f1) = 1 then (if t585 = a3 then (culletlaw07_InspectStays.j5 k4 l1 a3 t574 t585 true a0_0 l0_1 l0_2) else (culletlaw07_InspectStays.j5 k4 l1 a3 t574 t585 (t585 == (wrap64 ((l1.length : Int) - 1))) a0_0 l0_1 l0_2)) else (culletlaw07_InspectStays.j5 k4 l1 a3 t574 t585 true a0_0 l0_1 l0_2)) else (none)) else (none)) = some r := H
                have A113 := Aside0.mk A1130
                clear A1130
                have HC114 := Aside0.mk H
                clear H
                obtain ⟨hcz115_0, hcz115_1, hcz115_2, hfz115_0, hfz115_1, hfz115_2⟩ := bcs3 BK558.out
                go_upto_region 23 with (first | ((with_reducible refine gate_callee (f := 20) rfl ?_); refine goesL_ (some 168) rfl rfl Try.func20 zq23 rfl #[.int .i64 a4, .int .i64 0, .int .i64 (wrap64 ((l1.length : Int) - 1))] rfl zq4 ?_; (with_reducible refine (culletlaw07_picked.calls a4 0 (wrap64 ((l1.length : Int) - 1)) t585 _ A113.out).mono ?_); rintro e w' ⟨rfl, ⟨nd, rfl⟩⟩; refine ⟨_, rfl, ?_⟩))
                (try simp only [Act.put, List.setIfInBounds_toArray, List.set_cons_zero, List.set_cons_succ])
                go_cut [186] (fun v186 wc => ∃ (kq : Nat) (x186_113 : Bool), v186 = .bool x186_113 ∧ Aside0 (culletlaw07_InspectStays.j5 kq l1 a3 t574 t585 x186_113 a0_0 l0_1 l0_2 = some r) ∧ Aside0 (kq ≤ k4) ∧ Aside0 (wc.heap[gb558]? = some (.cells #[.int .i64 a0_0, (.slice A0_1 l0_1.length c0_1), (.slice A0_2 l0_2.length c0_2)] 25 (0, 0))) ∧ Aside0 (Below w.heap.size w wc))
                case first =>
                 as_aux_lemma =>
                 have H := HC114.out
                 clear HC114
                 by_cases c116 : 0 ≤ t585
                 ·rw [if_pos c116] at H
                  have c116b0 : decide (0 ≤ t585) = true := decide_eq_true c116
                  clear c116
                  (first | rw [c116b0] | (simp only [i64_w, i32_w]; rw [c116b0]) | skip)
                  by_cases c117 : t585 < (l1.length : Int)
                  ·rw [if_pos c117] at H
                   have c117b0 : decide (t585 < (l1.length : Int)) = true := decide_eq_true c117
                   clear c117
                   by_cases c118 : ((rd_T45 l1 t585).f1) = 1
                   ·rw [if_pos c118] at H
                    have c118b0 : (((rd_T45 l1 t585).f1) == 1) = true := beq_iff_eq.mpr c118
                    have c118b1 : (((rd_T45 l1 t585).f1) != 1) = false := bne_eq_false_iff_eq.mpr c118
                    clear c118
                    by_cases c119 : t585 = a3
                    ·rw [if_pos c119] at H
                     have c119b0 : (t585 == a3) = true := beq_iff_eq.mpr c119
                     have c119b1 : (t585 != a3) = false := bne_eq_false_iff_eq.mpr c119
                     clear c119
                     have H' := Aside0.mk H
                     clear H
                     have p586 : 0 ≤ (t585 : Int) := of_decide_eq_true zq7
                     have q586 : t585 < (l1.length : Int) := of_decide_eq_true zq7
                     obtain ⟨ad586, e586, hx586_0, hx586_1, hx586_2, hx586_3, hx586_4, hx586_5, hx586_6⟩ := at_T45 HR1.out t585 p586 q586
                     cases e586
                     replace hx586_0 := hcx HB.out hx586_0
                     replace hx586_1 := hcx HB.out hx586_1
                     replace hx586_2 := hcx HB.out hx586_2
                     replace hx586_3 := hcx HB.out hx586_3
                     replace hx586_4 := hcx HB.out hx586_4
                     replace hx586_5 := hcx HB.out hx586_5
                     replace hx586_6 := hcx HB.out hx586_6
                     replace p586 := eq_true p586
                     replace q586 := eq_true q586
                     go_wp2
                     go_meet
                     case rel => exact ⟨_, (true), zq11, H', ⟨zq77⟩, ⟨(zq0 BK558.out)⟩, ⟨zq2⟩⟩
                    ·rw [if_neg c119] at H
                     have c119b0 : (t585 == a3) = false := beq_eq_false_iff_ne.mpr c119
                     have c119b1 : (t585 != a3) = true := bne_iff_ne.mpr c119
                     have H' := Aside0.mk H
                     clear H
                     have p586 : 0 ≤ (t585 : Int) := of_decide_eq_true zq7
                     have q586 : t585 < (l1.length : Int) := of_decide_eq_true zq7
                     obtain ⟨ad586, e586, hx586_0, hx586_1, hx586_2, hx586_3, hx586_4, hx586_5, hx586_6⟩ := at_T45 HR1.out t585 p586 q586
                     cases e586
                     replace hx586_0 := hcx HB.out hx586_0
                     replace hx586_1 := hcx HB.out hx586_1
                     replace hx586_2 := hcx HB.out hx586_2
                     replace hx586_3 := hcx HB.out hx586_3
                     replace hx586_4 := hcx HB.out hx586_4
                     replace hx586_5 := hcx HB.out hx586_5
                     replace hx586_6 := hcx HB.out hx586_6
                     replace p586 := eq_true p586
                     replace q586 := eq_true q586
                     go_wp2
                     go_meet
                     case rel => exact ⟨_, ((t585 == (wrap64 ((l1.length : Int) - 1)))), zq11, H', ⟨zq77⟩, ⟨(zq0 BK558.out)⟩, ⟨zq2⟩⟩
                   ·rw [if_neg c118] at H
                    have c118b0 : (((rd_T45 l1 t585).f1) == 1) = false := beq_eq_false_iff_ne.mpr c118
                    have c118b1 : (((rd_T45 l1 t585).f1) != 1) = true := bne_iff_ne.mpr c118
                    have H' := Aside0.mk H
                    clear H
                    have p586 : 0 ≤ (t585 : Int) := of_decide_eq_true zq7
                    have q586 : t585 < (l1.length : Int) := of_decide_eq_true zq7
                    obtain ⟨ad586, e586, hx586_0, hx586_1, hx586_2, hx586_3, hx586_4, hx586_5, hx586_6⟩ := at_T45 HR1.out t585 p586 q586
                    cases e586
                    replace hx586_0 := hcx HB.out hx586_0
                    replace hx586_1 := hcx HB.out hx586_1
                    replace hx586_2 := hcx HB.out hx586_2
                    replace hx586_3 := hcx HB.out hx586_3
                    replace hx586_4 := hcx HB.out hx586_4
                    replace hx586_5 := hcx HB.out hx586_5
                    replace hx586_6 := hcx HB.out hx586_6
                    replace p586 := eq_true p586
                    replace q586 := eq_true q586
                    go_wp2
                    go_meet
                    case rel => exact ⟨_, (true), zq11, H', ⟨zq77⟩, ⟨(zq0 BK558.out)⟩, ⟨zq2⟩⟩
                  ·rw [if_neg c117] at H
                   exact absurd H zq51
                 ·rw [if_neg c116] at H
                  exact absurd H zq51
                case rest =>
                 as_aux_lemma =>
                 clear HC114
                 try clear c1
                 try clear c2
                 try clear p2 p2
                 try clear c3
                 try clear c4
                 try clear c5
                 try clear p5
                 try clear q5
                 try clear hx5
                 try clear c6
                 try clear p6
                 try clear c7
                 try clear c8
                 try clear c9
                 try clear c10
                 try clear c11
                 try clear c13
                 try clear c18
                 try clear c18b0
                 try clear c18b1
                 try clear c19
                 try clear c20
                 try clear c21
                 try clear c25
                 try clear c27
                 try clear c30
                 try clear c31
                 try clear c38
                 try clear c38b0
                 try clear c38b1
                 try clear c47
                 try clear c52
                 try clear c52b0
                 try clear c52b1
                 try clear p58
                 try clear q58
                 try clear hx58
                 try clear c59
                 try clear c59b0
                 try clear c59b1
                 try clear c60
                 try clear c60b0
                 try clear c60b1
                 try clear c61
                 try clear c61b0
                 try clear c61b1
                 try clear c62
                 try clear c62b0
                 try clear c62b1
                 try clear c63
                 try clear c63b0
                 try clear c63b1
                 try clear c64
                 try clear c64b0
                 try clear c64b1
                 try clear p64
                 try clear c65
                 try clear c65b0
                 try clear c65b1
                 try clear c66
                 try clear c66b0
                 try clear c66b1
                 try clear c67
                 try clear c67b0
                 try clear c67b1
                 try clear c68
                 try clear c68b0
                 try clear c68b1
                 try clear c69
                 try clear c69b0
                 try clear c69b1
                 try clear c70
                 try clear c70b0
                 try clear c70b1
                 try clear c71
                 try clear c71b0
                 try clear c71b1
                 try clear c72
                 try clear c72b0
                 try clear c72b1
                 try clear c73
                 try clear c73b0
                 try clear c73b1
                 try clear c74
                 try clear c74b0
                 try clear c74b1
                 try clear c75
                 try clear c75b0
                 try clear c75b1
                 try clear c76
                 try clear c76b0
                 try clear c76b1
                 try clear c77
                 try clear c77b0
                 try clear c77b1
                 try clear c78
                 try clear c78b0
                 try clear c78b1
                 try clear c79
                 try clear c79b0
                 try clear c79b1
                 try clear c80
                 try clear c80b0
                 try clear c80b1
                 try clear c81
                 try clear c81b0
                 try clear c81b1
                 try clear c82
                 try clear c83
                 try clear c83b0
                 try clear c85
                 try clear c85b0
                 try clear c88
                 try clear c88b0
                 try clear c88b1
                 try clear c89
                 try clear c89b0
                 try clear c89b1
                 try clear c90
                 try clear c90b0
                 try clear c90b1
                 try clear c95
                 try clear c95b0
                 try clear c95b1
                 try clear c116
                 try clear c116b0
                 try clear c117
                 try clear c117b0
                 try clear c118
                 try clear c118b0
                 try clear c118b1
                 try clear c119
                 try clear c119b0
                 try clear c119b1
                 try clear hcz100_0 hcz100_1 hcz100_2 hfz100_0 hfz100_1 hfz100_2
                 try clear hcz102_0 hcz102_1 hcz102_2 hfz102_0 hfz102_1 hfz102_2
                 try clear hcz104_0 hcz104_1 hcz104_2 hfz104_0 hfz104_1 hfz104_2
                 try clear hcz106_0 hcz106_1 hcz106_2 hfz106_0 hfz106_1 hfz106_2
                 try clear hcz108_0 hcz108_1 hcz108_2 hfz108_0 hfz108_1 hfz108_2
                 try clear hcz10_0 hcz10_1 hcz10_2 hfz10_0 hfz10_1 hfz10_2
                 try clear hcz110_0 hcz110_1 hcz110_2 hfz110_0 hfz110_1 hfz110_2
                 try clear hcz112_0 hcz112_1 hcz112_2 hfz112_0 hfz112_1 hfz112_2
                 try clear hcz115_0 hcz115_1 hcz115_2 hfz115_0 hfz115_1 hfz115_2
                 try clear hcz14_0 hcz14_1 hcz14_2 hfz14_0 hfz14_1 hfz14_2
                 try clear hcz16_0 hcz16_1 hcz16_2 hfz16_0 hfz16_1 hfz16_2
                 try clear hcz19_0 hcz19_1 hcz19_2 hfz19_0 hfz19_1 hfz19_2
                 try clear hcz21_0 hcz21_1 hcz21_2 hfz21_0 hfz21_1 hfz21_2
                 try clear hcz23_0 hcz23_1 hcz23_2 hfz23_0 hfz23_1 hfz23_2
                 try clear hcz25_0 hcz25_1 hcz25_2 hfz25_0 hfz25_1 hfz25_2
                 try clear hcz40_0 hcz40_1 hcz40_2 hfz40_0 hfz40_1 hfz40_2
                 try clear hcz42_0 hcz42_1 hcz42_2 hfz42_0 hfz42_1 hfz42_2
                 try clear hcz45_0 hcz45_1 hcz45_2 hfz45_0 hfz45_1 hfz45_2
                 try clear hcz54_0 hcz54_1 hcz54_2 hfz54_0 hfz54_1 hfz54_2
                 try clear hcz56_0 hcz56_1 hcz56_2 hfz56_0 hfz56_1 hfz56_2
                 try clear hcz84_0 hcz84_1 hcz84_2 hfz84_0 hfz84_1 hfz84_2
                 try clear hcz91_0 hcz91_1 hcz91_2 hfz91_0 hfz91_1 hfz91_2
                 try clear hcz93_0 hcz93_1 hcz93_2 hfz93_0 hfz93_1 hfz93_2
                 try clear hcz96_0 hcz96_1 hcz96_2 hfz96_0 hfz96_1 hfz96_2
                 try clear hcz98_0 hcz98_1 hcz98_2 hfz98_0 hfz98_1 hfz98_2
                 try clear hx586_0
                 try clear hx586_1
                 try clear hx586_2
                 try clear hx586_3
                 try clear hx586_4
                 try clear hx586_5
                 try clear hx586_6
                 try clear p586
                 try clear q586
                 obtain ⟨kq, x186_113, rfl, HA, HJ113, BK558, HB⟩ := hcut
                 cases kq with
                 | zero => exact absurd HA.out (by simp [culletlaw07_InspectStays.j5])
                 | succ kj113 =>
                  have H := HA.out
                  clear HA
                  simp only [culletlaw07_InspectStays.j5] at H
                  by_cases c120 : x186_113 = true
                  ·subst c120
                   have H1 : ((culletlaw07_looks.f).bind fun t587 => (some t587)) = some r := by rw [if_pos rfl] at H; exact H
                   clear H
                   have H := H1
                   clear H1
                   replace H := Option.bind_eq_some_iff.mp H
                   obtain ⟨t587, A1210, H⟩ := H
                   replace H : (some t587) = some r := H
                   have A121 := Aside0.mk A1210
                   clear A1210
                   obtain rfl := Option.some.inj H
                   go_wp2_with (first | ((with_reducible refine gate_callee (f := 11) rfl ?_); refine goesL_ (some 187) rfl rfl Try.func11 zq23 rfl #[] rfl zq4 ?_; (with_reducible refine (culletlaw07_looks.calls  t587 _ A121.out).mono ?_); rintro e w122 ⟨rfl, hb⟩; refine ⟨_, rfl, ?_⟩; have n_ := as2 (blk_below (zq0 BK558.out) hb) (below_step zq2 hb); clear BK558 HB; obtain ⟨BK558, HB⟩ := n_; (try clear hb); (try clear hb2); (try clear hk); (try clear hi)))
                   go_ret
                   exact ⟨zq10, zq2⟩
                  ·replace c120 := Bool.eq_false_iff.mpr c120
                   subst c120
                   have H1 : ((some (([] : List (S45)) : List (S45))).bind fun y588 => (if 0 ≤ t585 then (if t585 ≤ (l1.length : Int) then ((some (l1.take (t585 : Int).toNat : List (S45))).bind fun y591 => (if y588.length + y591.length < 2513169434916 then ((some (y588 ++ y591 : List (S45))).bind fun y595 => (if 0 ≤ (wrap64 (t585 + 1)) then (if (wrap64 (t585 + 1)) ≤ (l1.length : Int) then ((some (l1.drop ((wrap64 (t585 + 1)) : Int).toNat : List (S45))).bind fun y598 => (if y595.length + y598.length < 2513169434916 then ((some (y595 ++ y598 : List (S45))).bind fun y602 => (if t585 < a3 then ((inspect_Judge.f a0_0 l0_1 l0_2 y602 (wrap64 (a3 - 1))).bind fun bt605 => (if bt605.2.2 = 0 then (if bt605.1 = t574 then ((culletlaw07_looks.f).bind fun t608 => (some t608)) else (some false)) else (some false))) else ((inspect_Judge.f a0_0 l0_1 l0_2 y602 a3).bind fun bt609 => (if bt609.2.2 = 0 then (if bt609.1 = t574 then ((culletlaw07_looks.f).bind fun t612 => (some t612)) else (some false)) else (some false))))) else (none))) else (none)) else (none))) else (none))) else (none)) else (none))) = some r := by rw [if_neg (show ¬ (false = true) by decide)] at H; exact H
                   clear H
                   have H := H1
                   clear H1
                   obtain ⟨y588, hy588⟩ : ∃ y_ : List (S45), y_ = (([] : List (S45))) := ⟨_, rfl⟩
                   replace H : (if 0 ≤ t585 then (if t585 ≤ (l1.length : Int) then ((some (l1.take (t585 : Int).toNat : List (S45))).bind fun y591 => (if y588.length + y591.length < 2513169434916 then ((some (y588 ++ y591 : List (S45))).bind fun y595 => (if 0 ≤ (wrap64 (t585 + 1)) then (if (wrap64 (t585 + 1)) ≤ (l1.length : Int) then ((some (l1.drop ((wrap64 (t585 + 1)) : Int).toNat : List (S45))).bind fun y598 => (if y595.length + y598.length < 2513169434916 then ((some (y595 ++ y598 : List (S45))).bind fun y602 => (if t585 < a3 then ((inspect_Judge.f a0_0 l0_1 l0_2 y602 (wrap64 (a3 - 1))).bind fun bt605 => (if bt605.2.2 = 0 then (if bt605.1 = t574 then ((culletlaw07_looks.f).bind fun t608 => (some t608)) else (some false)) else (some false))) else ((inspect_Judge.f a0_0 l0_1 l0_2 y602 a3).bind fun bt609 => (if bt609.2.2 = 0 then (if bt609.1 = t574 then ((culletlaw07_looks.f).bind fun t612 => (some t612)) else (some false)) else (some false))))) else (none))) else (none)) else (none))) else (none))) else (none)) else (none)) = some r := by first | (rw [hy588]; with_reducible exact H) | (have H2_ := (Option.bind_some _ _).symm.trans H; rw [hy588]; with_reducible exact H2_) | (have H2_ := (Option.bind_some _ _).symm.trans H; with_reducible exact H2_) | with_reducible exact H | (rw [hy588]; exact H) | exact H
                   have Ny588 := Aside0.mk hy588
                   clear hy588
                   by_cases c123 : 0 ≤ t585
                   ·rw [if_pos c123] at H
                    have c123b0 := eq_true c123
                    have c123b1 : decide (0 ≤ t585) = true := decide_eq_true c123
                    clear c123
                    by_cases c124 : t585 ≤ (l1.length : Int)
                    ·rw [if_pos c124] at H
                     have c124b0 := eq_true c124
                     have c124b1 : decide (t585 ≤ (l1.length : Int)) = true := decide_eq_true c124
                     clear c124
                     obtain ⟨y591, hy591⟩ : ∃ y_ : List (S45), y_ = (l1.take (t585 : Int).toNat) := ⟨_, rfl⟩
                     replace H : (if y588.length + y591.length < 2513169434916 then ((some (y588 ++ y591 : List (S45))).bind fun y595 => (if 0 ≤ (wrap64 (t585 + 1)) then (if (wrap64 (t585 + 1)) ≤ (l1.length : Int) then ((some (l1.drop ((wrap64 (t585 + 1)) : Int).toNat : List (S45))).bind fun y598 => (if y595.length + y598.length < 2513169434916 then ((some (y595 ++ y598 : List (S45))).bind fun y602 => (if t585 < a3 then ((inspect_Judge.f a0_0 l0_1 l0_2 y602 (wrap64 (a3 - 1))).bind fun bt605 => (if bt605.2.2 = 0 then (if bt605.1 = t574 then ((culletlaw07_looks.f).bind fun t608 => (some t608)) else (some false)) else (some false))) else ((inspect_Judge.f a0_0 l0_1 l0_2 y602 a3).bind fun bt609 => (if bt609.2.2 = 0 then (if bt609.1 = t574 then ((culletlaw07_looks.f).bind fun t612 => (some t612)) else (some false)) else (some false))))) else (none))) else (none)) else (none))) else (none)) = some r := by first | (rw [hy591]; with_reducible exact H) | (have H2_ := (Option.bind_some _ _).symm.trans H; rw [hy591]; with_reducible exact H2_) | (have H2_ := (Option.bind_some _ _).symm.trans H; with_reducible exact H2_) | with_reducible exact H | (rw [hy591]; exact H) | exact H
                     have Ny591 := Aside0.mk hy591
                     clear hy591
                     by_cases c125 : y588.length + y591.length < 2513169434916
                     ·rw [if_pos c125] at H
                      have LMc125 := Aside0.mk c125
                      clear c125
                      obtain ⟨y595, hy595⟩ : ∃ y_ : List (S45), y_ = (y588 ++ y591) := ⟨_, rfl⟩
                      replace H : (if 0 ≤ (wrap64 (t585 + 1)) then (if (wrap64 (t585 + 1)) ≤ (l1.length : Int) then ((some (l1.drop ((wrap64 (t585 + 1)) : Int).toNat : List (S45))).bind fun y598 => (if y595.length + y598.length < 2513169434916 then ((some (y595 ++ y598 : List (S45))).bind fun y602 => (if t585 < a3 then ((inspect_Judge.f a0_0 l0_1 l0_2 y602 (wrap64 (a3 - 1))).bind fun bt605 => (if bt605.2.2 = 0 then (if bt605.1 = t574 then ((culletlaw07_looks.f).bind fun t608 => (some t608)) else (some false)) else (some false))) else ((inspect_Judge.f a0_0 l0_1 l0_2 y602 a3).bind fun bt609 => (if bt609.2.2 = 0 then (if bt609.1 = t574 then ((culletlaw07_looks.f).bind fun t612 => (some t612)) else (some false)) else (some false))))) else (none))) else (none)) else (none)) = some r := by first | (rw [hy595]; with_reducible exact H) | (have H2_ := (Option.bind_some _ _).symm.trans H; rw [hy595]; with_reducible exact H2_) | (have H2_ := (Option.bind_some _ _).symm.trans H; with_reducible exact H2_) | with_reducible exact H | (rw [hy595]; exact H) | exact H
                      have Ny595 := Aside0.mk hy595
                      clear hy595
                      obtain ⟨ji126, hji126⟩ : ∃ j_ : Int, (wrap64 (t585 + 1)) = j_ := ⟨_, rfl⟩
                      replace H : (if 0 ≤ (ji126) then (if (ji126) ≤ (l1.length : Int) then ((some (l1.drop ((ji126) : Int).toNat : List (S45))).bind fun y598 => (if y595.length + y598.length < 2513169434916 then ((some (y595 ++ y598 : List (S45))).bind fun y602 => (if t585 < a3 then ((inspect_Judge.f a0_0 l0_1 l0_2 y602 (wrap64 (a3 - 1))).bind fun bt605 => (if bt605.2.2 = 0 then (if bt605.1 = t574 then ((culletlaw07_looks.f).bind fun t608 => (some t608)) else (some false)) else (some false))) else ((inspect_Judge.f a0_0 l0_1 l0_2 y602 a3).bind fun bt609 => (if bt609.2.2 = 0 then (if bt609.1 = t574 then ((culletlaw07_looks.f).bind fun t612 => (some t612)) else (some false)) else (some false))))) else (none))) else (none)) else (none)) = some r := by first | (rw [hji126] at H; exact H) | (simp only [hji126] at H ⊢; exact H)
                      have hji126w : (IntKind.i64.wrap (t585 + 1)) = ji126 := (i64_w _).trans hji126
                      by_cases c127 : 0 ≤ (ji126)
                      ·rw [if_pos c127] at H
                       have c127b0 := eq_true c127
                       have c127b1 : decide (0 ≤ (ji126)) = true := decide_eq_true c127
                       clear c127
                       by_cases c128 : (ji126) ≤ (l1.length : Int)
                       ·rw [if_pos c128] at H
                        have c128b0 := eq_true c128
                        have c128b1 : decide ((ji126) ≤ (l1.length : Int)) = true := decide_eq_true c128
                        clear c128
                        obtain ⟨y598, hy598⟩ : ∃ y_ : List (S45), y_ = (l1.drop ((ji126) : Int).toNat) := ⟨_, rfl⟩
                        replace H : (if y595.length + y598.length < 2513169434916 then ((some (y595 ++ y598 : List (S45))).bind fun y602 => (if t585 < a3 then ((inspect_Judge.f a0_0 l0_1 l0_2 y602 (wrap64 (a3 - 1))).bind fun bt605 => (if bt605.2.2 = 0 then (if bt605.1 = t574 then ((culletlaw07_looks.f).bind fun t608 => (some t608)) else (some false)) else (some false))) else ((inspect_Judge.f a0_0 l0_1 l0_2 y602 a3).bind fun bt609 => (if bt609.2.2 = 0 then (if bt609.1 = t574 then ((culletlaw07_looks.f).bind fun t612 => (some t612)) else (some false)) else (some false))))) else (none)) = some r := by first | (rw [hy598]; with_reducible exact H) | (have H2_ := (Option.bind_some _ _).symm.trans H; rw [hy598]; with_reducible exact H2_) | (have H2_ := (Option.bind_some _ _).symm.trans H; with_reducible exact H2_) | with_reducible exact H | (rw [hy598]; exact H) | exact H
                        have Ny598 := Aside0.mk hy598
                        clear hy598
                        by_cases c129 : y595.length + y598.length < 2513169434916
                        ·rw [if_pos c129] at H
                         have LMc129 := Aside0.mk c129
                         clear c129
                         obtain ⟨y602, hy602⟩ : ∃ y_ : List (S45), y_ = (y595 ++ y598) := ⟨_, rfl⟩
                         replace H : (if t585 < a3 then ((inspect_Judge.f a0_0 l0_1 l0_2 y602 (wrap64 (a3 - 1))).bind fun bt605 => (if bt605.2.2 = 0 then (if bt605.1 = t574 then ((culletlaw07_looks.f).bind fun t608 => (some t608)) else (some false)) else (some false))) else ((inspect_Judge.f a0_0 l0_1 l0_2 y602 a3).bind fun bt609 => (if bt609.2.2 = 0 then (if bt609.1 = t574 then ((culletlaw07_looks.f).bind fun t612 => (some t612)) else (some false)) else (some false)))) = some r := by first | (rw [hy602]; with_reducible exact H) | (have H2_ := (Option.bind_some _ _).symm.trans H; rw [hy602]; with_reducible exact H2_) | (have H2_ := (Option.bind_some _ _).symm.trans H; with_reducible exact H2_) | with_reducible exact H | (rw [hy602]; exact H) | exact H
                         have Ny602 := Aside0.mk hy602
                         clear hy602
                         by_cases c130 : t585 < a3
                         ·rw [if_pos c130] at H
                          have c130b0 : decide (t585 < a3) = true := decide_eq_true c130
                          clear c130
                          replace H := Option.bind_eq_some_iff.mp H
                          obtain ⟨⟨t605, t606, t607⟩, A1310, H⟩ := H
                          replace H : (if t607 = 0 then (if t605 = t574 then ((culletlaw07_looks.f).bind fun t608 => (some t608)) else (some false)) else (some false)) = some r := H
                          have A131 := Aside0.mk A1310
                          clear A1310
                          by_cases c132 : t607 = 0
                          ·rw [if_pos c132] at H
                           have c132b0 : (t607 == 0) = true := beq_iff_eq.mpr c132
                           have c132b1 : (t607 != 0) = false := bne_eq_false_iff_eq.mpr c132
                           clear c132
                           by_cases c133 : t605 = t574
                           ·rw [if_pos c133] at H
                            have c133b0 : (t605 == t574) = true := beq_iff_eq.mpr c133
                            have c133b1 : (t605 != t574) = false := bne_eq_false_iff_eq.mpr c133
                            clear c133
                            replace H := Option.bind_eq_some_iff.mp H
                            obtain ⟨t608, A1340, H⟩ := H
                            replace H : (some t608) = some r := H
                            have A134 := Aside0.mk A1340
                            clear A1340
                            obtain rfl := Option.some.inj H
                            try go_wp2
                            have n0_ := Aside0.mk (blk_drew BK558.out)
                            have n1_ := Aside0.mk (below_drew1 HB.out)
                            clear BK558
                            clear HB
                            have BK558 := n0_
                            have HB := n1_
                            clear n0_ n1_
                            have q136 : (t585 : Int) ≤ ((l1.length : Int) : Int) := of_decide_eq_true zq7
                            obtain ⟨i0136, hi0136, _, hsz136, _⟩ := info_parts info45
                            have hroom136 : l1.length ≤ c1 := HC1.out
                            have hC136 : Kd.C k45 _ A1 l1.length l1 := HR1.out
                            have hcut136 := cut_to (P := Try.prog) 26 45 .i64 Try.underlying26 hi0136 A1 l1.length c1 t585 (of_decide_eq_true zq7) q136 hroom136
                            have hr136 := Kd.C_take (m := (t585 : Int).toNat) hC136 zq16
                            have hy136 : y591.length = (t585 : Int).toNat := zq63
                            rw [← Ny591.out] at hr136
                            rw [← hy136] at hcut136
                            have HR594 := Aside0.mk hr136
                            have HC594 := Aside0.mk (show y591.length ≤ c1 from by omega)
                            clear hr136 hC136 hroom136 hi0136 hsz136
                            have KY136 := Aside0.mk hy136
                            clear hy136
                            replace q136 := eq_true q136
                            have q137 : ((ji126) : Int) ≤ ((l1.length : Int) : Int) := of_decide_eq_true zq7
                            obtain ⟨i0137, hi0137, _, hsz137, _⟩ := info_parts info45
                            have hroom137 : l1.length ≤ c1 := HC1.out
                            have hC137 : Kd.C k45 _ A1 l1.length l1 := HR1.out
                            have q0137 : (0 : Int) ≤ ((ji126) : Int) := of_decide_eq_true zq7
                            have hcut137 := cut_from (P := Try.prog) 26 45 .i64 Try.underlying26 hi0137 7 hsz137 A1 l1.length c1 (ji126) q0137 q137
                            have hr137 := Kd.C_drop (m := ((ji126) : Int).toNat) (c := c1) hC137 zq16 hroom137
                            obtain ⟨A137, hA137⟩ : ∃ Aq_, Aq_ = (if c1 = ((ji126) : Int).toNat then A1 else (A1 : Option Addr).map (·.add (((ji126) : Int).toNat * 7))) := ⟨_, rfl⟩
                            obtain ⟨c137, hc137⟩ : ∃ cq_, cq_ = c1 - ((ji126) : Int).toNat := ⟨_, rfl⟩
                            have hy137 : y598.length = l1.length - ((ji126) : Int).toNat := zq59
                            rw [show (l1).drop ((ji126) : Int).toNat = y598 from Ny598.out.symm] at hr137
                            replace hr137 : Kd.C k45 _ A137 y598.length y598 := (by rw [hA137]; exact hr137)
                            rw [← hy137, ← hA137, ← hc137] at hcut137
                            have HR601 := Aside0.mk hr137
                            have HC601 := Aside0.mk (show y598.length ≤ c137 from by rw [hy137, hc137]; exact Nat.sub_le_sub_right hroom137 _)
                            clear hr137 hC137 hroom137 hi0137 hsz137 hc137
                            have KY137 := Aside0.mk hy137
                            have KA137 := Aside0.mk hA137
                            clear hy137 hA137
                            replace q137 := eq_true q137
                            refine start_ (n := 11) (S := fun w' => True) (ds := []) #[false, false, false, false, false, false, false, false, false, false, false] zq23 rfl rfl trivial (fun hHeld => ?_); refine with_tabW culletlaw07_InspectStays.tab25 culletlaw07_InspectStays.bits25 (fun HT_ HW_ => ?_)
                            generalize wc.drew = w135 at BK558 HB HR594 HR601 hHeld ⊢
                            refine pure_ (i := 1) (N := some 189) (v := ?_) (a' := ?_) #[false, true, false, false, false, false, false, false, false, false, false] rfl rfl (any_of HT_.out zq23) (fun _ _ _ h => h) (Or.inl ⟨zq56, ?_⟩) ?_ ?_
                            rotate_left
                            exact zpw
                            rotate_left
                            exact zpa
                            refine pure_ (i := 2) (N := some 190) (v := ?_) (a' := ?_) #[false, true, true, false, false, false, false, false, false, false, false] rfl rfl (any_of HT_.out zq23) (fun _ _ _ h => h) (Or.inl ⟨zq56, ?_⟩) ?_ ?_
                            rotate_left
                            exact zpw
                            rotate_left
                            exact zpa
                            refine pure_ (i := 3) (N := some 191) (v := ?_) (a' := ?_) #[false, true, true, true, false, false, false, false, false, false, false] rfl rfl (any_of HT_.out zq23) (fun _ _ _ h => h) (Or.inl ⟨zq56, ?_⟩) ?_ ?_
                            rotate_left
                            exact zpw
                            rotate_left
                            exact zpa
                            refine pure_ (i := 5) (N := some 193) (v := ?_) (a' := ?_) #[false, true, true, true, false, true, false, false, false, false, false] rfl rfl (any_of HT_.out zq23) (fun _ _ _ h => h) (Or.inl ⟨zq56, ?_⟩) ?_ ?_
                            rotate_left
                            exact zpw
                            rotate_left
                            exact zpa
                            refine pure_ (i := 6) (N := some 194) (v := ?_) (a' := ?_) #[false, true, true, true, false, true, true, false, false, false, false] rfl rfl (any_of HT_.out zq23) (fun _ _ _ h => h) (Or.inl ⟨zq56, ?_⟩) ?_ ?_
                            rotate_left
                            exact zpw
                            rotate_left
                            exact zpa
                            refine pure_ (i := 7) (N := some 195) (v := ?_) (a' := ?_) #[false, true, true, true, false, true, true, true, false, false, false] rfl rfl (any_of HT_.out zq23) (fun _ _ _ h => h) (Or.inl ⟨zq56, ?_⟩) ?_ ?_
                            rotate_left
                            exact zpw
                            rotate_left
                            exact zpa
                            refine pure_ (i := 8) (N := some 196) (v := ?_) (a' := ?_) #[false, true, true, true, false, true, true, true, true, false, false] rfl rfl (any_of HT_.out zq23) (fun _ _ _ h => h) (Or.inl ⟨zq56, ?_⟩) ?_ ?_
                            rotate_left
                            exact zpw
                            rotate_left
                            exact zpa
                            refine one_ (i := 0) (N := some 188) #[true, true, true, true, false, true, true, true, true, false, false] rfl rfl (one_of HT_.out zq23) zq49 (fun K hK => ?_)
                            refine Kd.R_lit_step k45 _ 45 ?hg (N := 188) ?hd (xs := ([] : List (S45))) (inner := []) (ok := fun _ => True) (okp := fun _ => True) ?hr ?hp (fun _ hk => hk) trivial (Below.refl _ _) (Nat.le_refl _) zq51 ?_; (case hd => rfl); (case hg => rfl); (case hr => exact zq14); (case hp => exact zq76)
                            intro v589 w138 ho139 hb hg_ hnew_
                            clear hg_ hnew_
                            (first | rw [← Ny588.out] at ho139 | (simp only [Int.reduceToNat] at ho139; rw [← Ny588.out] at ho139))
                            have n0_ := Aside0.mk (Kd.R_lower ho139 (below_size zq2))
                            have n1_ := Aside0.mk (blk_below (zq0 BK558.out) hb)
                            have n2_ := Aside0.mk (below_step zq2 hb)
                            clear BK558
                            clear HB
                            have HO590 := n0_
                            have BK558 := n1_
                            have HB := n2_
                            clear n0_ n1_ n2_
                            clear hb ho139
                            refine hK.out _ _ trivial (fun hHeld => ?_)
                            clear hK K
                            refine norm_ (a' := ?_) ?_ ?_
                            rotate_left
                            ·show Act.put _ (some 188) _ = _
                             simp only [Act.put, List.setIfInBounds_toArray, List.set_cons_zero, List.set_cons_succ, i64_w, i32_w]
                             rfl
                            refine one_ (i := 4) (N := some 192) #[true, true, true, true, true, true, true, true, true, false, false] rfl rfl (one_of HT_.out zq23) zq49 (fun K hK => ?_)
                            refine Kd.R_append_rows_step k45 (w0 := w) w.heap.size zq56 (.tmp 188) (.tmp 191) 26 45 (.agg #[(.int .i64 0), (.int .u8 0), (.int .i64 0), (.int .i64 0), (.int .i64 0), (.int .i64 0), (.bool false)]) 56 rfl Try.underlying26 info45 rfl zq49 zq16 v589 y588 y591 _ _ _ (fun _ => True) (fun _ => False) rfl rfl ?aO ?aR (fun _ _ h => h) (fun _ h => h.elim) ?aF ?aB ?aS ?aL ?_
                            (case aR => exact zq31)
                            (case aB => exact zq2)
                            (case aF => exact zq53)
                            (case aO => exact (zq1 HO590.out))
                            (case aS => exact zq55)
                            (case aL => exact zq79)
                            intro v596 w140 ho hb hg hat
                            rw [← Ny595.out] at ho
                            have n0_ := Aside0.mk (blk_grown (zq0 BK558.out) hg (Kd.R_ne HO590.out BK558.out zq49))
                            have n1_ := Aside0.mk (hb)
                            have n2_ := Aside0.mk (ho)
                            clear BK558
                            clear HB
                            clear HO590
                            have BK558 := n0_
                            have HB := n1_
                            have HO597 := n2_
                            clear n0_ n1_ n2_
                            clear ho hb hg hat
                            refine hK.out _ _ trivial (fun hHeld => ?_)
                            clear hK K
                            refine norm_ (a' := ?_) ?_ ?_
                            rotate_left
                            ·show Act.put _ (some 192) _ = _
                             simp only [Act.put, List.setIfInBounds_toArray, List.set_cons_zero, List.set_cons_succ, i64_w, i32_w]
                             rfl
                            refine one_ (i := 9) (N := some 197) #[true, true, true, true, true, true, true, true, true, true, false] rfl rfl (one_of HT_.out zq23) zq49 (fun K hK => ?_)
                            refine Kd.R_append_rows_step k45 (w0 := w) w.heap.size zq56 (.tmp 192) (.tmp 196) 26 45 (.agg #[(.int .i64 0), (.int .u8 0), (.int .i64 0), (.int .i64 0), (.int .i64 0), (.int .i64 0), (.bool false)]) 56 rfl Try.underlying26 info45 rfl zq49 zq16 v596 y595 y598 _ _ _ (fun _ => True) (fun _ => False) rfl rfl ?aO ?aR (fun _ _ h => h) (fun _ h => h.elim) ?aF ?aB ?aS ?aL ?_
                            (case aR => exact zq32)
                            (case aB => exact zq2)
                            (case aF => exact zq53)
                            (case aO => exact (zq1 HO597.out))
                            (case aS => exact zq55)
                            (case aL => exact zq80)
                            intro v603 w141 ho hb hg hat
                            rw [← Ny602.out] at ho
                            have n0_ := Aside0.mk (blk_grown (zq0 BK558.out) hg (Kd.R_ne HO597.out BK558.out zq49))
                            have n1_ := Aside0.mk (hb)
                            have n2_ := Aside0.mk (ho)
                            clear BK558
                            clear HB
                            clear HO597
                            have BK558 := n0_
                            have HB := n1_
                            have HO604 := n2_
                            clear n0_ n1_ n2_
                            clear ho hb hg hat
                            refine hK.out _ _ trivial (fun hHeld => ?_)
                            clear hK K
                            refine norm_ (a' := ?_) ?_ ?_
                            rotate_left
                            ·show Act.put _ (some 197) _ = _
                             simp only [Act.put, List.setIfInBounds_toArray, List.set_cons_zero, List.set_cons_succ, i64_w, i32_w]
                             rfl
                            refine pure_ (i := 10) (N := some 25) (v := ?_) (a' := ?_) #[true, true, true, true, true, true, true, true, true, true, true] rfl rfl (any_of HT_.out zq23) (fun _ _ _ h => h) (Or.inl ⟨zq56, ?_⟩) ?_ ?_
                            rotate_left
                            exact zpw
                            rotate_left
                            exact zpa
                            refine done_ (done_of HT_.out zq23) ?_
                            obtain ⟨hcz142_0, hcz142_1, hcz142_2, hfz142_0, hfz142_1, hfz142_2⟩ := bcs3 BK558.out
                            obtain ⟨Ao143, co143, eo143⟩ := Kd.R_slice HO604.out
                            subst eo143
                            try go_wp2_with (first | ((with_reducible refine gate_callee (f := 21) rfl ?_); refine goesL_ (some 208) rfl rfl Try.func21 zq23 rfl #[.agg #[.int .i64 a0_0, .slice A0_1 l0_1.length c0_1, .slice A0_2 l0_2.length c0_2], .slice Ao143 y602.length co143, .int .i64 (wrap64 (a3 - 1))] rfl zq4 ?_; (with_reducible refine (inspect_Judge.calls a0_0 _ _ l0_1 _ _ l0_2 _ _ y602 (wrap64 (a3 - 1)) t605 t606 t607 _ ?side1 ?side2 ?side3 ?side4 ?side5 ?side6 A131.out).mono ?_); (case side1 => exact zq5); (case side2 => exact HC0_1.out); (case side3 => exact zq6); (case side4 => exact HC0_2.out); (case side5 => exact zq33); (case side6 => exact zq68); rintro e w144 ⟨rfl, hb⟩; refine ⟨_, rfl, ?_⟩; have n_ := as3 (Kd.R_below (zq1 HO604.out) hb) (blk_below (zq0 BK558.out) hb) (below_step zq2 hb); clear HO604 BK558 HB; obtain ⟨HO604, BK558, HB⟩ := n_; (try clear hb); (try clear hb2); (try clear hk); (try clear hi)) | (go_at_call 11; (with_reducible refine (culletlaw07_looks.calls  t608 _ A134.out).mono ?_); rintro e w145 ⟨rfl, hb⟩; have n_ := as3 (Kd.R_below (zq1 HO604.out) hb) (blk_below (zq0 BK558.out) hb) (below_step zq2 hb); clear HO604 BK558 HB; obtain ⟨HO604, BK558, HB⟩ := n_; (try clear hb); (try clear hb2); (try clear hk); (try clear hi)))
                            go_ret
                            exact ⟨zq34, zq2⟩
                           ·rw [if_neg c133] at H
                            have c133b0 : (t605 == t574) = false := beq_eq_false_iff_ne.mpr c133
                            have c133b1 : (t605 != t574) = true := bne_iff_ne.mpr c133
                            obtain rfl := Option.some.inj H
                            try go_wp2
                            have n0_ := Aside0.mk (blk_drew BK558.out)
                            have n1_ := Aside0.mk (below_drew1 HB.out)
                            clear BK558
                            clear HB
                            have BK558 := n0_
                            have HB := n1_
                            clear n0_ n1_
                            have q147 : (t585 : Int) ≤ ((l1.length : Int) : Int) := of_decide_eq_true zq7
                            obtain ⟨i0147, hi0147, _, hsz147, _⟩ := info_parts info45
                            have hroom147 : l1.length ≤ c1 := HC1.out
                            have hC147 : Kd.C k45 _ A1 l1.length l1 := HR1.out
                            have hcut147 := cut_to (P := Try.prog) 26 45 .i64 Try.underlying26 hi0147 A1 l1.length c1 t585 (of_decide_eq_true zq7) q147 hroom147
                            have hr147 := Kd.C_take (m := (t585 : Int).toNat) hC147 zq16
                            have hy147 : y591.length = (t585 : Int).toNat := zq63
                            rw [← Ny591.out] at hr147
                            rw [← hy147] at hcut147
                            have HR594 := Aside0.mk hr147
                            have HC594 := Aside0.mk (show y591.length ≤ c1 from by omega)
                            clear hr147 hC147 hroom147 hi0147 hsz147
                            have KY147 := Aside0.mk hy147
                            clear hy147
                            replace q147 := eq_true q147
                            have q148 : ((ji126) : Int) ≤ ((l1.length : Int) : Int) := of_decide_eq_true zq7
                            obtain ⟨i0148, hi0148, _, hsz148, _⟩ := info_parts info45
                            have hroom148 : l1.length ≤ c1 := HC1.out
                            have hC148 : Kd.C k45 _ A1 l1.length l1 := HR1.out
                            have q0148 : (0 : Int) ≤ ((ji126) : Int) := of_decide_eq_true zq7
                            have hcut148 := cut_from (P := Try.prog) 26 45 .i64 Try.underlying26 hi0148 7 hsz148 A1 l1.length c1 (ji126) q0148 q148
                            have hr148 := Kd.C_drop (m := ((ji126) : Int).toNat) (c := c1) hC148 zq16 hroom148
                            obtain ⟨A148, hA148⟩ : ∃ Aq_, Aq_ = (if c1 = ((ji126) : Int).toNat then A1 else (A1 : Option Addr).map (·.add (((ji126) : Int).toNat * 7))) := ⟨_, rfl⟩
                            obtain ⟨c148, hc148⟩ : ∃ cq_, cq_ = c1 - ((ji126) : Int).toNat := ⟨_, rfl⟩
                            have hy148 : y598.length = l1.length - ((ji126) : Int).toNat := zq59
                            rw [show (l1).drop ((ji126) : Int).toNat = y598 from Ny598.out.symm] at hr148
                            replace hr148 : Kd.C k45 _ A148 y598.length y598 := (by rw [hA148]; exact hr148)
                            rw [← hy148, ← hA148, ← hc148] at hcut148
                            have HR601 := Aside0.mk hr148
                            have HC601 := Aside0.mk (show y598.length ≤ c148 from by rw [hy148, hc148]; exact Nat.sub_le_sub_right hroom148 _)
                            clear hr148 hC148 hroom148 hi0148 hsz148 hc148
                            have KY148 := Aside0.mk hy148
                            have KA148 := Aside0.mk hA148
                            clear hy148 hA148
                            replace q148 := eq_true q148
                            refine start_ (n := 11) (S := fun w' => True) (ds := []) #[false, false, false, false, false, false, false, false, false, false, false] zq23 rfl rfl trivial (fun hHeld => ?_); refine with_tabW culletlaw07_InspectStays.tab25 culletlaw07_InspectStays.bits25 (fun HT_ HW_ => ?_)
                            generalize wc.drew = w146 at BK558 HB HR594 HR601 hHeld ⊢
                            refine pure_ (i := 1) (N := some 189) (v := ?_) (a' := ?_) #[false, true, false, false, false, false, false, false, false, false, false] rfl rfl (any_of HT_.out zq23) (fun _ _ _ h => h) (Or.inl ⟨zq56, ?_⟩) ?_ ?_
                            rotate_left
                            exact zpw
                            rotate_left
                            exact zpa
                            refine pure_ (i := 2) (N := some 190) (v := ?_) (a' := ?_) #[false, true, true, false, false, false, false, false, false, false, false] rfl rfl (any_of HT_.out zq23) (fun _ _ _ h => h) (Or.inl ⟨zq56, ?_⟩) ?_ ?_
                            rotate_left
                            exact zpw
                            rotate_left
                            exact zpa
                            refine pure_ (i := 3) (N := some 191) (v := ?_) (a' := ?_) #[false, true, true, true, false, false, false, false, false, false, false] rfl rfl (any_of HT_.out zq23) (fun _ _ _ h => h) (Or.inl ⟨zq56, ?_⟩) ?_ ?_
                            rotate_left
                            exact zpw
                            rotate_left
                            exact zpa
                            refine pure_ (i := 5) (N := some 193) (v := ?_) (a' := ?_) #[false, true, true, true, false, true, false, false, false, false, false] rfl rfl (any_of HT_.out zq23) (fun _ _ _ h => h) (Or.inl ⟨zq56, ?_⟩) ?_ ?_
                            rotate_left
                            exact zpw
                            rotate_left
                            exact zpa
                            refine pure_ (i := 6) (N := some 194) (v := ?_) (a' := ?_) #[false, true, true, true, false, true, true, false, false, false, false] rfl rfl (any_of HT_.out zq23) (fun _ _ _ h => h) (Or.inl ⟨zq56, ?_⟩) ?_ ?_
                            rotate_left
                            exact zpw
                            rotate_left
                            exact zpa
                            refine pure_ (i := 7) (N := some 195) (v := ?_) (a' := ?_) #[false, true, true, true, false, true, true, true, false, false, false] rfl rfl (any_of HT_.out zq23) (fun _ _ _ h => h) (Or.inl ⟨zq56, ?_⟩) ?_ ?_
                            rotate_left
                            exact zpw
                            rotate_left
                            exact zpa
                            refine pure_ (i := 8) (N := some 196) (v := ?_) (a' := ?_) #[false, true, true, true, false, true, true, true, true, false, false] rfl rfl (any_of HT_.out zq23) (fun _ _ _ h => h) (Or.inl ⟨zq56, ?_⟩) ?_ ?_
                            rotate_left
                            exact zpw
                            rotate_left
                            exact zpa
                            refine one_ (i := 0) (N := some 188) #[true, true, true, true, false, true, true, true, true, false, false] rfl rfl (one_of HT_.out zq23) zq49 (fun K hK => ?_)
                            refine Kd.R_lit_step k45 _ 45 ?hg (N := 188) ?hd (xs := ([] : List (S45))) (inner := []) (ok := fun _ => True) (okp := fun _ => True) ?hr ?hp (fun _ hk => hk) trivial (Below.refl _ _) (Nat.le_refl _) zq51 ?_; (case hd => rfl); (case hg => rfl); (case hr => exact zq14); (case hp => exact zq76)
                            intro v589 w149 ho150 hb hg_ hnew_
                            clear hg_ hnew_
                            (first | rw [← Ny588.out] at ho150 | (simp only [Int.reduceToNat] at ho150; rw [← Ny588.out] at ho150))
                            have n0_ := Aside0.mk (Kd.R_lower ho150 (below_size zq2))
                            have n1_ := Aside0.mk (blk_below (zq0 BK558.out) hb)
                            have n2_ := Aside0.mk (below_step zq2 hb)
                            clear BK558
                            clear HB
                            have HO590 := n0_
                            have BK558 := n1_
                            have HB := n2_
                            clear n0_ n1_ n2_
                            clear hb ho150
                            refine hK.out _ _ trivial (fun hHeld => ?_)
                            clear hK K
                            refine norm_ (a' := ?_) ?_ ?_
                            rotate_left
                            ·show Act.put _ (some 188) _ = _
                             simp only [Act.put, List.setIfInBounds_toArray, List.set_cons_zero, List.set_cons_succ, i64_w, i32_w]
                             rfl
                            refine one_ (i := 4) (N := some 192) #[true, true, true, true, true, true, true, true, true, false, false] rfl rfl (one_of HT_.out zq23) zq49 (fun K hK => ?_)
                            refine Kd.R_append_rows_step k45 (w0 := w) w.heap.size zq56 (.tmp 188) (.tmp 191) 26 45 (.agg #[(.int .i64 0), (.int .u8 0), (.int .i64 0), (.int .i64 0), (.int .i64 0), (.int .i64 0), (.bool false)]) 56 rfl Try.underlying26 info45 rfl zq49 zq16 v589 y588 y591 _ _ _ (fun _ => True) (fun _ => False) rfl rfl ?aO ?aR (fun _ _ h => h) (fun _ h => h.elim) ?aF ?aB ?aS ?aL ?_
                            (case aR => exact zq31)
                            (case aB => exact zq2)
                            (case aF => exact zq53)
                            (case aO => exact (zq1 HO590.out))
                            (case aS => exact zq55)
                            (case aL => exact zq79)
                            intro v596 w151 ho hb hg hat
                            rw [← Ny595.out] at ho
                            have n0_ := Aside0.mk (blk_grown (zq0 BK558.out) hg (Kd.R_ne HO590.out BK558.out zq49))
                            have n1_ := Aside0.mk (hb)
                            have n2_ := Aside0.mk (ho)
                            clear BK558
                            clear HB
                            clear HO590
                            have BK558 := n0_
                            have HB := n1_
                            have HO597 := n2_
                            clear n0_ n1_ n2_
                            clear ho hb hg hat
                            refine hK.out _ _ trivial (fun hHeld => ?_)
                            clear hK K
                            refine norm_ (a' := ?_) ?_ ?_
                            rotate_left
                            ·show Act.put _ (some 192) _ = _
                             simp only [Act.put, List.setIfInBounds_toArray, List.set_cons_zero, List.set_cons_succ, i64_w, i32_w]
                             rfl
                            refine one_ (i := 9) (N := some 197) #[true, true, true, true, true, true, true, true, true, true, false] rfl rfl (one_of HT_.out zq23) zq49 (fun K hK => ?_)
                            refine Kd.R_append_rows_step k45 (w0 := w) w.heap.size zq56 (.tmp 192) (.tmp 196) 26 45 (.agg #[(.int .i64 0), (.int .u8 0), (.int .i64 0), (.int .i64 0), (.int .i64 0), (.int .i64 0), (.bool false)]) 56 rfl Try.underlying26 info45 rfl zq49 zq16 v596 y595 y598 _ _ _ (fun _ => True) (fun _ => False) rfl rfl ?aO ?aR (fun _ _ h => h) (fun _ h => h.elim) ?aF ?aB ?aS ?aL ?_
                            (case aR => exact zq32)
                            (case aB => exact zq2)
                            (case aF => exact zq53)
                            (case aO => exact (zq1 HO597.out))
                            (case aS => exact zq55)
                            (case aL => exact zq80)
                            intro v603 w152 ho hb hg hat
                            rw [← Ny602.out] at ho
                            have n0_ := Aside0.mk (blk_grown (zq0 BK558.out) hg (Kd.R_ne HO597.out BK558.out zq49))
                            have n1_ := Aside0.mk (hb)
                            have n2_ := Aside0.mk (ho)
                            clear BK558
                            clear HB
                            clear HO597
                            have BK558 := n0_
                            have HB := n1_
                            have HO604 := n2_
                            clear n0_ n1_ n2_
                            clear ho hb hg hat
                            refine hK.out _ _ trivial (fun hHeld => ?_)
                            clear hK K
                            refine norm_ (a' := ?_) ?_ ?_
                            rotate_left
                            ·show Act.put _ (some 197) _ = _
                             simp only [Act.put, List.setIfInBounds_toArray, List.set_cons_zero, List.set_cons_succ, i64_w, i32_w]
                             rfl
                            refine pure_ (i := 10) (N := some 25) (v := ?_) (a' := ?_) #[true, true, true, true, true, true, true, true, true, true, true] rfl rfl (any_of HT_.out zq23) (fun _ _ _ h => h) (Or.inl ⟨zq56, ?_⟩) ?_ ?_
                            rotate_left
                            exact zpw
                            rotate_left
                            exact zpa
                            refine done_ (done_of HT_.out zq23) ?_
                            obtain ⟨hcz153_0, hcz153_1, hcz153_2, hfz153_0, hfz153_1, hfz153_2⟩ := bcs3 BK558.out
                            obtain ⟨Ao154, co154, eo154⟩ := Kd.R_slice HO604.out
                            subst eo154
                            try go_wp2_with (first | ((with_reducible refine gate_callee (f := 21) rfl ?_); refine goesL_ (some 208) rfl rfl Try.func21 zq23 rfl #[.agg #[.int .i64 a0_0, .slice A0_1 l0_1.length c0_1, .slice A0_2 l0_2.length c0_2], .slice Ao154 y602.length co154, .int .i64 (wrap64 (a3 - 1))] rfl zq4 ?_; (with_reducible refine (inspect_Judge.calls a0_0 _ _ l0_1 _ _ l0_2 _ _ y602 (wrap64 (a3 - 1)) t605 t606 t607 _ ?side1 ?side2 ?side3 ?side4 ?side5 ?side6 A131.out).mono ?_); (case side1 => exact zq5); (case side2 => exact HC0_1.out); (case side3 => exact zq6); (case side4 => exact HC0_2.out); (case side5 => exact zq33); (case side6 => exact zq68); rintro e w155 ⟨rfl, hb⟩; refine ⟨_, rfl, ?_⟩; have n_ := as3 (Kd.R_below (zq1 HO604.out) hb) (blk_below (zq0 BK558.out) hb) (below_step zq2 hb); clear HO604 BK558 HB; obtain ⟨HO604, BK558, HB⟩ := n_; (try clear hb); (try clear hb2); (try clear hk); (try clear hi)))
                            go_ret
                            exact ⟨zq34, zq2⟩
                          ·rw [if_neg c132] at H
                           have c132b0 : (t607 == 0) = false := beq_eq_false_iff_ne.mpr c132
                           have c132b1 : (t607 != 0) = true := bne_iff_ne.mpr c132
                           obtain rfl := Option.some.inj H
                           try go_wp2
                           have n0_ := Aside0.mk (blk_drew BK558.out)
                           have n1_ := Aside0.mk (below_drew1 HB.out)
                           clear BK558
                           clear HB
                           have BK558 := n0_
                           have HB := n1_
                           clear n0_ n1_
                           have q157 : (t585 : Int) ≤ ((l1.length : Int) : Int) := of_decide_eq_true zq7
                           obtain ⟨i0157, hi0157, _, hsz157, _⟩ := info_parts info45
                           have hroom157 : l1.length ≤ c1 := HC1.out
                           have hC157 : Kd.C k45 _ A1 l1.length l1 := HR1.out
                           have hcut157 := cut_to (P := Try.prog) 26 45 .i64 Try.underlying26 hi0157 A1 l1.length c1 t585 (of_decide_eq_true zq7) q157 hroom157
                           have hr157 := Kd.C_take (m := (t585 : Int).toNat) hC157 zq16
                           have hy157 : y591.length = (t585 : Int).toNat := zq63
                           rw [← Ny591.out] at hr157
                           rw [← hy157] at hcut157
                           have HR594 := Aside0.mk hr157
                           have HC594 := Aside0.mk (show y591.length ≤ c1 from by omega)
                           clear hr157 hC157 hroom157 hi0157 hsz157
                           have KY157 := Aside0.mk hy157
                           clear hy157
                           replace q157 := eq_true q157
                           have q158 : ((ji126) : Int) ≤ ((l1.length : Int) : Int) := of_decide_eq_true zq7
                           obtain ⟨i0158, hi0158, _, hsz158, _⟩ := info_parts info45
                           have hroom158 : l1.length ≤ c1 := HC1.out
                           have hC158 : Kd.C k45 _ A1 l1.length l1 := HR1.out
                           have q0158 : (0 : Int) ≤ ((ji126) : Int) := of_decide_eq_true zq7
                           have hcut158 := cut_from (P := Try.prog) 26 45 .i64 Try.underlying26 hi0158 7 hsz158 A1 l1.length c1 (ji126) q0158 q158
                           have hr158 := Kd.C_drop (m := ((ji126) : Int).toNat) (c := c1) hC158 zq16 hroom158
                           obtain ⟨A158, hA158⟩ : ∃ Aq_, Aq_ = (if c1 = ((ji126) : Int).toNat then A1 else (A1 : Option Addr).map (·.add (((ji126) : Int).toNat * 7))) := ⟨_, rfl⟩
                           obtain ⟨c158, hc158⟩ : ∃ cq_, cq_ = c1 - ((ji126) : Int).toNat := ⟨_, rfl⟩
                           have hy158 : y598.length = l1.length - ((ji126) : Int).toNat := zq59
                           rw [show (l1).drop ((ji126) : Int).toNat = y598 from Ny598.out.symm] at hr158
                           replace hr158 : Kd.C k45 _ A158 y598.length y598 := (by rw [hA158]; exact hr158)
                           rw [← hy158, ← hA158, ← hc158] at hcut158
                           have HR601 := Aside0.mk hr158
                           have HC601 := Aside0.mk (show y598.length ≤ c158 from by rw [hy158, hc158]; exact Nat.sub_le_sub_right hroom158 _)
                           clear hr158 hC158 hroom158 hi0158 hsz158 hc158
                           have KY158 := Aside0.mk hy158
                           have KA158 := Aside0.mk hA158
                           clear hy158 hA158
                           replace q158 := eq_true q158
                           refine start_ (n := 11) (S := fun w' => True) (ds := []) #[false, false, false, false, false, false, false, false, false, false, false] zq23 rfl rfl trivial (fun hHeld => ?_); refine with_tabW culletlaw07_InspectStays.tab25 culletlaw07_InspectStays.bits25 (fun HT_ HW_ => ?_)
                           generalize wc.drew = w156 at BK558 HB HR594 HR601 hHeld ⊢
                           refine pure_ (i := 1) (N := some 189) (v := ?_) (a' := ?_) #[false, true, false, false, false, false, false, false, false, false, false] rfl rfl (any_of HT_.out zq23) (fun _ _ _ h => h) (Or.inl ⟨zq56, ?_⟩) ?_ ?_
                           rotate_left
                           exact zpw
                           rotate_left
                           exact zpa
                           refine pure_ (i := 2) (N := some 190) (v := ?_) (a' := ?_) #[false, true, true, false, false, false, false, false, false, false, false] rfl rfl (any_of HT_.out zq23) (fun _ _ _ h => h) (Or.inl ⟨zq56, ?_⟩) ?_ ?_
                           rotate_left
                           exact zpw
                           rotate_left
                           exact zpa
                           refine pure_ (i := 3) (N := some 191) (v := ?_) (a' := ?_) #[false, true, true, true, false, false, false, false, false, false, false] rfl rfl (any_of HT_.out zq23) (fun _ _ _ h => h) (Or.inl ⟨zq56, ?_⟩) ?_ ?_
                           rotate_left
                           exact zpw
                           rotate_left
                           exact zpa
                           refine pure_ (i := 5) (N := some 193) (v := ?_) (a' := ?_) #[false, true, true, true, false, true, false, false, false, false, false] rfl rfl (any_of HT_.out zq23) (fun _ _ _ h => h) (Or.inl ⟨zq56, ?_⟩) ?_ ?_
                           rotate_left
                           exact zpw
                           rotate_left
                           exact zpa
                           refine pure_ (i := 6) (N := some 194) (v := ?_) (a' := ?_) #[false, true, true, true, false, true, true, false, false, false, false] rfl rfl (any_of HT_.out zq23) (fun _ _ _ h => h) (Or.inl ⟨zq56, ?_⟩) ?_ ?_
                           rotate_left
                           exact zpw
                           rotate_left
                           exact zpa
                           refine pure_ (i := 7) (N := some 195) (v := ?_) (a' := ?_) #[false, true, true, true, false, true, true, true, false, false, false] rfl rfl (any_of HT_.out zq23) (fun _ _ _ h => h) (Or.inl ⟨zq56, ?_⟩) ?_ ?_
                           rotate_left
                           exact zpw
                           rotate_left
                           exact zpa
                           refine pure_ (i := 8) (N := some 196) (v := ?_) (a' := ?_) #[false, true, true, true, false, true, true, true, true, false, false] rfl rfl (any_of HT_.out zq23) (fun _ _ _ h => h) (Or.inl ⟨zq56, ?_⟩) ?_ ?_
                           rotate_left
                           exact zpw
                           rotate_left
                           exact zpa
                           refine one_ (i := 0) (N := some 188) #[true, true, true, true, false, true, true, true, true, false, false] rfl rfl (one_of HT_.out zq23) zq49 (fun K hK => ?_)
                           refine Kd.R_lit_step k45 _ 45 ?hg (N := 188) ?hd (xs := ([] : List (S45))) (inner := []) (ok := fun _ => True) (okp := fun _ => True) ?hr ?hp (fun _ hk => hk) trivial (Below.refl _ _) (Nat.le_refl _) zq51 ?_; (case hd => rfl); (case hg => rfl); (case hr => exact zq14); (case hp => exact zq76)
                           intro v589 w159 ho160 hb hg_ hnew_
                           clear hg_ hnew_
                           (first | rw [← Ny588.out] at ho160 | (simp only [Int.reduceToNat] at ho160; rw [← Ny588.out] at ho160))
                           have n0_ := Aside0.mk (Kd.R_lower ho160 (below_size zq2))
                           have n1_ := Aside0.mk (blk_below (zq0 BK558.out) hb)
                           have n2_ := Aside0.mk (below_step zq2 hb)
                           clear BK558
                           clear HB
                           have HO590 := n0_
                           have BK558 := n1_
                           have HB := n2_
                           clear n0_ n1_ n2_
                           clear hb ho160
                           refine hK.out _ _ trivial (fun hHeld => ?_)
                           clear hK K
                           refine norm_ (a' := ?_) ?_ ?_
                           rotate_left
                           ·show Act.put _ (some 188) _ = _
                            simp only [Act.put, List.setIfInBounds_toArray, List.set_cons_zero, List.set_cons_succ, i64_w, i32_w]
                            rfl
                           refine one_ (i := 4) (N := some 192) #[true, true, true, true, true, true, true, true, true, false, false] rfl rfl (one_of HT_.out zq23) zq49 (fun K hK => ?_)
                           refine Kd.R_append_rows_step k45 (w0 := w) w.heap.size zq56 (.tmp 188) (.tmp 191) 26 45 (.agg #[(.int .i64 0), (.int .u8 0), (.int .i64 0), (.int .i64 0), (.int .i64 0), (.int .i64 0), (.bool false)]) 56 rfl Try.underlying26 info45 rfl zq49 zq16 v589 y588 y591 _ _ _ (fun _ => True) (fun _ => False) rfl rfl ?aO ?aR (fun _ _ h => h) (fun _ h => h.elim) ?aF ?aB ?aS ?aL ?_
                           (case aR => exact zq31)
                           (case aB => exact zq2)
                           (case aF => exact zq53)
                           (case aO => exact (zq1 HO590.out))
                           (case aS => exact zq55)
                           (case aL => exact zq79)
                           intro v596 w161 ho hb hg hat
                           rw [← Ny595.out] at ho
                           have n0_ := Aside0.mk (blk_grown (zq0 BK558.out) hg (Kd.R_ne HO590.out BK558.out zq49))
                           have n1_ := Aside0.mk (hb)
                           have n2_ := Aside0.mk (ho)
                           clear BK558
                           clear HB
                           clear HO590
                           have BK558 := n0_
                           have HB := n1_
                           have HO597 := n2_
                           clear n0_ n1_ n2_
                           clear ho hb hg hat
                           refine hK.out _ _ trivial (fun hHeld => ?_)
                           clear hK K
                           refine norm_ (a' := ?_) ?_ ?_
                           rotate_left
                           ·show Act.put _ (some 192) _ = _
                            simp only [Act.put, List.setIfInBounds_toArray, List.set_cons_zero, List.set_cons_succ, i64_w, i32_w]
                            rfl
                           refine one_ (i := 9) (N := some 197) #[true, true, true, true, true, true, true, true, true, true, false] rfl rfl (one_of HT_.out zq23) zq49 (fun K hK => ?_)
                           refine Kd.R_append_rows_step k45 (w0 := w) w.heap.size zq56 (.tmp 192) (.tmp 196) 26 45 (.agg #[(.int .i64 0), (.int .u8 0), (.int .i64 0), (.int .i64 0), (.int .i64 0), (.int .i64 0), (.bool false)]) 56 rfl Try.underlying26 info45 rfl zq49 zq16 v596 y595 y598 _ _ _ (fun _ => True) (fun _ => False) rfl rfl ?aO ?aR (fun _ _ h => h) (fun _ h => h.elim) ?aF ?aB ?aS ?aL ?_
                           (case aR => exact zq32)
                           (case aB => exact zq2)
                           (case aF => exact zq53)
                           (case aO => exact (zq1 HO597.out))
                           (case aS => exact zq55)
                           (case aL => exact zq80)
                           intro v603 w162 ho hb hg hat
                           rw [← Ny602.out] at ho
                           have n0_ := Aside0.mk (blk_grown (zq0 BK558.out) hg (Kd.R_ne HO597.out BK558.out zq49))
                           have n1_ := Aside0.mk (hb)
                           have n2_ := Aside0.mk (ho)
                           clear BK558
                           clear HB
                           clear HO597
                           have BK558 := n0_
                           have HB := n1_
                           have HO604 := n2_
                           clear n0_ n1_ n2_
                           clear ho hb hg hat
                           refine hK.out _ _ trivial (fun hHeld => ?_)
                           clear hK K
                           refine norm_ (a' := ?_) ?_ ?_
                           rotate_left
                           ·show Act.put _ (some 197) _ = _
                            simp only [Act.put, List.setIfInBounds_toArray, List.set_cons_zero, List.set_cons_succ, i64_w, i32_w]
                            rfl
                           refine pure_ (i := 10) (N := some 25) (v := ?_) (a' := ?_) #[true, true, true, true, true, true, true, true, true, true, true] rfl rfl (any_of HT_.out zq23) (fun _ _ _ h => h) (Or.inl ⟨zq56, ?_⟩) ?_ ?_
                           rotate_left
                           exact zpw
                           rotate_left
                           exact zpa
                           refine done_ (done_of HT_.out zq23) ?_
                           obtain ⟨hcz163_0, hcz163_1, hcz163_2, hfz163_0, hfz163_1, hfz163_2⟩ := bcs3 BK558.out
                           obtain ⟨Ao164, co164, eo164⟩ := Kd.R_slice HO604.out
                           subst eo164
                           try go_wp2_with (first | ((with_reducible refine gate_callee (f := 21) rfl ?_); refine goesL_ (some 208) rfl rfl Try.func21 zq23 rfl #[.agg #[.int .i64 a0_0, .slice A0_1 l0_1.length c0_1, .slice A0_2 l0_2.length c0_2], .slice Ao164 y602.length co164, .int .i64 (wrap64 (a3 - 1))] rfl zq4 ?_; (with_reducible refine (inspect_Judge.calls a0_0 _ _ l0_1 _ _ l0_2 _ _ y602 (wrap64 (a3 - 1)) t605 t606 t607 _ ?side1 ?side2 ?side3 ?side4 ?side5 ?side6 A131.out).mono ?_); (case side1 => exact zq5); (case side2 => exact HC0_1.out); (case side3 => exact zq6); (case side4 => exact HC0_2.out); (case side5 => exact zq33); (case side6 => exact zq68); rintro e w165 ⟨rfl, hb⟩; refine ⟨_, rfl, ?_⟩; have n_ := as3 (Kd.R_below (zq1 HO604.out) hb) (blk_below (zq0 BK558.out) hb) (below_step zq2 hb); clear HO604 BK558 HB; obtain ⟨HO604, BK558, HB⟩ := n_; (try clear hb); (try clear hb2); (try clear hk); (try clear hi)))
                           go_ret
                           exact ⟨zq34, zq2⟩
                         ·rw [if_neg c130] at H
                          have c130b0 : decide (t585 < a3) = false := decide_eq_false c130
                          clear c130
                          replace H := Option.bind_eq_some_iff.mp H
                          obtain ⟨⟨t609, t610, t611⟩, A1660, H⟩ := H
                          replace H : (if t611 = 0 then (if t609 = t574 then ((culletlaw07_looks.f).bind fun t612 => (some t612)) else (some false)) else (some false)) = some r := H
                          have A166 := Aside0.mk A1660
                          clear A1660
                          by_cases c167 : t611 = 0
                          ·rw [if_pos c167] at H
                           have c167b0 : (t611 == 0) = true := beq_iff_eq.mpr c167
                           have c167b1 : (t611 != 0) = false := bne_eq_false_iff_eq.mpr c167
                           clear c167
                           by_cases c168 : t609 = t574
                           ·rw [if_pos c168] at H
                            have c168b0 : (t609 == t574) = true := beq_iff_eq.mpr c168
                            have c168b1 : (t609 != t574) = false := bne_eq_false_iff_eq.mpr c168
                            clear c168
                            replace H := Option.bind_eq_some_iff.mp H
                            obtain ⟨t612, A1690, H⟩ := H
                            replace H : (some t612) = some r := H
                            have A169 := Aside0.mk A1690
                            clear A1690
                            obtain rfl := Option.some.inj H
                            try go_wp2
                            have n0_ := Aside0.mk (blk_drew BK558.out)
                            have n1_ := Aside0.mk (below_drew1 HB.out)
                            clear BK558
                            clear HB
                            have BK558 := n0_
                            have HB := n1_
                            clear n0_ n1_
                            have q171 : (t585 : Int) ≤ ((l1.length : Int) : Int) := of_decide_eq_true zq7
                            obtain ⟨i0171, hi0171, _, hsz171, _⟩ := info_parts info45
                            have hroom171 : l1.length ≤ c1 := HC1.out
                            have hC171 : Kd.C k45 _ A1 l1.length l1 := HR1.out
                            have hcut171 := cut_to (P := Try.prog) 26 45 .i64 Try.underlying26 hi0171 A1 l1.length c1 t585 (of_decide_eq_true zq7) q171 hroom171
                            have hr171 := Kd.C_take (m := (t585 : Int).toNat) hC171 zq16
                            have hy171 : y591.length = (t585 : Int).toNat := zq63
                            rw [← Ny591.out] at hr171
                            rw [← hy171] at hcut171
                            have HR594 := Aside0.mk hr171
                            have HC594 := Aside0.mk (show y591.length ≤ c1 from by omega)
                            clear hr171 hC171 hroom171 hi0171 hsz171
                            have KY171 := Aside0.mk hy171
                            clear hy171
                            replace q171 := eq_true q171
                            have q172 : ((ji126) : Int) ≤ ((l1.length : Int) : Int) := of_decide_eq_true zq7
                            obtain ⟨i0172, hi0172, _, hsz172, _⟩ := info_parts info45
                            have hroom172 : l1.length ≤ c1 := HC1.out
                            have hC172 : Kd.C k45 _ A1 l1.length l1 := HR1.out
                            have q0172 : (0 : Int) ≤ ((ji126) : Int) := of_decide_eq_true zq7
                            have hcut172 := cut_from (P := Try.prog) 26 45 .i64 Try.underlying26 hi0172 7 hsz172 A1 l1.length c1 (ji126) q0172 q172
                            have hr172 := Kd.C_drop (m := ((ji126) : Int).toNat) (c := c1) hC172 zq16 hroom172
                            obtain ⟨A172, hA172⟩ : ∃ Aq_, Aq_ = (if c1 = ((ji126) : Int).toNat then A1 else (A1 : Option Addr).map (·.add (((ji126) : Int).toNat * 7))) := ⟨_, rfl⟩
                            obtain ⟨c172, hc172⟩ : ∃ cq_, cq_ = c1 - ((ji126) : Int).toNat := ⟨_, rfl⟩
                            have hy172 : y598.length = l1.length - ((ji126) : Int).toNat := zq59
                            rw [show (l1).drop ((ji126) : Int).toNat = y598 from Ny598.out.symm] at hr172
                            replace hr172 : Kd.C k45 _ A172 y598.length y598 := (by rw [hA172]; exact hr172)
                            rw [← hy172, ← hA172, ← hc172] at hcut172
                            have HR601 := Aside0.mk hr172
                            have HC601 := Aside0.mk (show y598.length ≤ c172 from by rw [hy172, hc172]; exact Nat.sub_le_sub_right hroom172 _)
                            clear hr172 hC172 hroom172 hi0172 hsz172 hc172
                            have KY172 := Aside0.mk hy172
                            have KA172 := Aside0.mk hA172
                            clear hy172 hA172
                            replace q172 := eq_true q172
                            refine start_ (n := 11) (S := fun w' => True) (ds := []) #[false, false, false, false, false, false, false, false, false, false, false] zq23 rfl rfl trivial (fun hHeld => ?_); refine with_tabW culletlaw07_InspectStays.tab25 culletlaw07_InspectStays.bits25 (fun HT_ HW_ => ?_)
                            generalize wc.drew = w170 at BK558 HB HR594 HR601 hHeld ⊢
                            refine pure_ (i := 1) (N := some 189) (v := ?_) (a' := ?_) #[false, true, false, false, false, false, false, false, false, false, false] rfl rfl (any_of HT_.out zq23) (fun _ _ _ h => h) (Or.inl ⟨zq56, ?_⟩) ?_ ?_
                            rotate_left
                            exact zpw
                            rotate_left
                            exact zpa
                            refine pure_ (i := 2) (N := some 190) (v := ?_) (a' := ?_) #[false, true, true, false, false, false, false, false, false, false, false] rfl rfl (any_of HT_.out zq23) (fun _ _ _ h => h) (Or.inl ⟨zq56, ?_⟩) ?_ ?_
                            rotate_left
                            exact zpw
                            rotate_left
                            exact zpa
                            refine pure_ (i := 3) (N := some 191) (v := ?_) (a' := ?_) #[false, true, true, true, false, false, false, false, false, false, false] rfl rfl (any_of HT_.out zq23) (fun _ _ _ h => h) (Or.inl ⟨zq56, ?_⟩) ?_ ?_
                            rotate_left
                            exact zpw
                            rotate_left
                            exact zpa
                            refine pure_ (i := 5) (N := some 193) (v := ?_) (a' := ?_) #[false, true, true, true, false, true, false, false, false, false, false] rfl rfl (any_of HT_.out zq23) (fun _ _ _ h => h) (Or.inl ⟨zq56, ?_⟩) ?_ ?_
                            rotate_left
                            exact zpw
                            rotate_left
                            exact zpa
                            refine pure_ (i := 6) (N := some 194) (v := ?_) (a' := ?_) #[false, true, true, true, false, true, true, false, false, false, false] rfl rfl (any_of HT_.out zq23) (fun _ _ _ h => h) (Or.inl ⟨zq56, ?_⟩) ?_ ?_
                            rotate_left
                            exact zpw
                            rotate_left
                            exact zpa
                            refine pure_ (i := 7) (N := some 195) (v := ?_) (a' := ?_) #[false, true, true, true, false, true, true, true, false, false, false] rfl rfl (any_of HT_.out zq23) (fun _ _ _ h => h) (Or.inl ⟨zq56, ?_⟩) ?_ ?_
                            rotate_left
                            exact zpw
                            rotate_left
                            exact zpa
                            refine pure_ (i := 8) (N := some 196) (v := ?_) (a' := ?_) #[false, true, true, true, false, true, true, true, true, false, false] rfl rfl (any_of HT_.out zq23) (fun _ _ _ h => h) (Or.inl ⟨zq56, ?_⟩) ?_ ?_
                            rotate_left
                            exact zpw
                            rotate_left
                            exact zpa
                            refine one_ (i := 0) (N := some 188) #[true, true, true, true, false, true, true, true, true, false, false] rfl rfl (one_of HT_.out zq23) zq49 (fun K hK => ?_)
                            refine Kd.R_lit_step k45 _ 45 ?hg (N := 188) ?hd (xs := ([] : List (S45))) (inner := []) (ok := fun _ => True) (okp := fun _ => True) ?hr ?hp (fun _ hk => hk) trivial (Below.refl _ _) (Nat.le_refl _) zq51 ?_; (case hd => rfl); (case hg => rfl); (case hr => exact zq14); (case hp => exact zq76)
                            intro v589 w173 ho174 hb hg_ hnew_
                            clear hg_ hnew_
                            (first | rw [← Ny588.out] at ho174 | (simp only [Int.reduceToNat] at ho174; rw [← Ny588.out] at ho174))
                            have n0_ := Aside0.mk (Kd.R_lower ho174 (below_size zq2))
                            have n1_ := Aside0.mk (blk_below (zq0 BK558.out) hb)
                            have n2_ := Aside0.mk (below_step zq2 hb)
                            clear BK558
                            clear HB
                            have HO590 := n0_
                            have BK558 := n1_
                            have HB := n2_
                            clear n0_ n1_ n2_
                            clear hb ho174
                            refine hK.out _ _ trivial (fun hHeld => ?_)
                            clear hK K
                            refine norm_ (a' := ?_) ?_ ?_
                            rotate_left
                            ·show Act.put _ (some 188) _ = _
                             simp only [Act.put, List.setIfInBounds_toArray, List.set_cons_zero, List.set_cons_succ, i64_w, i32_w]
                             rfl
                            refine one_ (i := 4) (N := some 192) #[true, true, true, true, true, true, true, true, true, false, false] rfl rfl (one_of HT_.out zq23) zq49 (fun K hK => ?_)
                            refine Kd.R_append_rows_step k45 (w0 := w) w.heap.size zq56 (.tmp 188) (.tmp 191) 26 45 (.agg #[(.int .i64 0), (.int .u8 0), (.int .i64 0), (.int .i64 0), (.int .i64 0), (.int .i64 0), (.bool false)]) 56 rfl Try.underlying26 info45 rfl zq49 zq16 v589 y588 y591 _ _ _ (fun _ => True) (fun _ => False) rfl rfl ?aO ?aR (fun _ _ h => h) (fun _ h => h.elim) ?aF ?aB ?aS ?aL ?_
                            (case aR => exact zq31)
                            (case aB => exact zq2)
                            (case aF => exact zq53)
                            (case aO => exact (zq1 HO590.out))
                            (case aS => exact zq55)
                            (case aL => exact zq79)
                            intro v596 w175 ho hb hg hat
                            rw [← Ny595.out] at ho
                            have n0_ := Aside0.mk (blk_grown (zq0 BK558.out) hg (Kd.R_ne HO590.out BK558.out zq49))
                            have n1_ := Aside0.mk (hb)
                            have n2_ := Aside0.mk (ho)
                            clear BK558
                            clear HB
                            clear HO590
                            have BK558 := n0_
                            have HB := n1_
                            have HO597 := n2_
                            clear n0_ n1_ n2_
                            clear ho hb hg hat
                            refine hK.out _ _ trivial (fun hHeld => ?_)
                            clear hK K
                            refine norm_ (a' := ?_) ?_ ?_
                            rotate_left
                            ·show Act.put _ (some 192) _ = _
                             simp only [Act.put, List.setIfInBounds_toArray, List.set_cons_zero, List.set_cons_succ, i64_w, i32_w]
                             rfl
                            refine one_ (i := 9) (N := some 197) #[true, true, true, true, true, true, true, true, true, true, false] rfl rfl (one_of HT_.out zq23) zq49 (fun K hK => ?_)
                            refine Kd.R_append_rows_step k45 (w0 := w) w.heap.size zq56 (.tmp 192) (.tmp 196) 26 45 (.agg #[(.int .i64 0), (.int .u8 0), (.int .i64 0), (.int .i64 0), (.int .i64 0), (.int .i64 0), (.bool false)]) 56 rfl Try.underlying26 info45 rfl zq49 zq16 v596 y595 y598 _ _ _ (fun _ => True) (fun _ => False) rfl rfl ?aO ?aR (fun _ _ h => h) (fun _ h => h.elim) ?aF ?aB ?aS ?aL ?_
                            (case aR => exact zq32)
                            (case aB => exact zq2)
                            (case aF => exact zq53)
                            (case aO => exact (zq1 HO597.out))
                            (case aS => exact zq55)
                            (case aL => exact zq80)
                            intro v603 w176 ho hb hg hat
                            rw [← Ny602.out] at ho
                            have n0_ := Aside0.mk (blk_grown (zq0 BK558.out) hg (Kd.R_ne HO597.out BK558.out zq49))
                            have n1_ := Aside0.mk (hb)
                            have n2_ := Aside0.mk (ho)
                            clear BK558
                            clear HB
                            clear HO597
                            have BK558 := n0_
                            have HB := n1_
                            have HO604 := n2_
                            clear n0_ n1_ n2_
                            clear ho hb hg hat
                            refine hK.out _ _ trivial (fun hHeld => ?_)
                            clear hK K
                            refine norm_ (a' := ?_) ?_ ?_
                            rotate_left
                            ·show Act.put _ (some 197) _ = _
                             simp only [Act.put, List.setIfInBounds_toArray, List.set_cons_zero, List.set_cons_succ, i64_w, i32_w]
                             rfl
                            refine pure_ (i := 10) (N := some 25) (v := ?_) (a' := ?_) #[true, true, true, true, true, true, true, true, true, true, true] rfl rfl (any_of HT_.out zq23) (fun _ _ _ h => h) (Or.inl ⟨zq56, ?_⟩) ?_ ?_
                            rotate_left
                            exact zpw
                            rotate_left
                            exact zpa
                            refine done_ (done_of HT_.out zq23) ?_
                            obtain ⟨hcz177_0, hcz177_1, hcz177_2, hfz177_0, hfz177_1, hfz177_2⟩ := bcs3 BK558.out
                            obtain ⟨Ao178, co178, eo178⟩ := Kd.R_slice HO604.out
                            subst eo178
                            try go_wp2_with (first | ((with_reducible refine gate_callee (f := 21) rfl ?_); refine goesL_ (some 208) rfl rfl Try.func21 zq23 rfl #[.agg #[.int .i64 a0_0, .slice A0_1 l0_1.length c0_1, .slice A0_2 l0_2.length c0_2], .slice Ao178 y602.length co178, .int .i64 a3] rfl zq4 ?_; (with_reducible refine (inspect_Judge.calls a0_0 _ _ l0_1 _ _ l0_2 _ _ y602 a3 t609 t610 t611 _ ?side1 ?side2 ?side3 ?side4 ?side5 ?side6 A166.out).mono ?_); (case side1 => exact zq5); (case side2 => exact HC0_1.out); (case side3 => exact zq6); (case side4 => exact HC0_2.out); (case side5 => exact zq33); (case side6 => exact zq68); rintro e w179 ⟨rfl, hb⟩; refine ⟨_, rfl, ?_⟩; have n_ := as3 (Kd.R_below (zq1 HO604.out) hb) (blk_below (zq0 BK558.out) hb) (below_step zq2 hb); clear HO604 BK558 HB; obtain ⟨HO604, BK558, HB⟩ := n_; (try clear hb); (try clear hb2); (try clear hk); (try clear hi)) | (go_at_call 11; (with_reducible refine (culletlaw07_looks.calls  t612 _ A169.out).mono ?_); rintro e w180 ⟨rfl, hb⟩; have n_ := as3 (Kd.R_below (zq1 HO604.out) hb) (blk_below (zq0 BK558.out) hb) (below_step zq2 hb); clear HO604 BK558 HB; obtain ⟨HO604, BK558, HB⟩ := n_; (try clear hb); (try clear hb2); (try clear hk); (try clear hi)))
                            go_ret
                            exact ⟨zq34, zq2⟩
                           ·rw [if_neg c168] at H
                            have c168b0 : (t609 == t574) = false := beq_eq_false_iff_ne.mpr c168
                            have c168b1 : (t609 != t574) = true := bne_iff_ne.mpr c168
                            obtain rfl := Option.some.inj H
                            try go_wp2
                            have n0_ := Aside0.mk (blk_drew BK558.out)
                            have n1_ := Aside0.mk (below_drew1 HB.out)
                            clear BK558
                            clear HB
                            have BK558 := n0_
                            have HB := n1_
                            clear n0_ n1_
                            have q182 : (t585 : Int) ≤ ((l1.length : Int) : Int) := of_decide_eq_true zq7
                            obtain ⟨i0182, hi0182, _, hsz182, _⟩ := info_parts info45
                            have hroom182 : l1.length ≤ c1 := HC1.out
                            have hC182 : Kd.C k45 _ A1 l1.length l1 := HR1.out
                            have hcut182 := cut_to (P := Try.prog) 26 45 .i64 Try.underlying26 hi0182 A1 l1.length c1 t585 (of_decide_eq_true zq7) q182 hroom182
                            have hr182 := Kd.C_take (m := (t585 : Int).toNat) hC182 zq16
                            have hy182 : y591.length = (t585 : Int).toNat := zq63
                            rw [← Ny591.out] at hr182
                            rw [← hy182] at hcut182
                            have HR594 := Aside0.mk hr182
                            have HC594 := Aside0.mk (show y591.length ≤ c1 from by omega)
                            clear hr182 hC182 hroom182 hi0182 hsz182
                            have KY182 := Aside0.mk hy182
                            clear hy182
                            replace q182 := eq_true q182
                            have q183 : ((ji126) : Int) ≤ ((l1.length : Int) : Int) := of_decide_eq_true zq7
                            obtain ⟨i0183, hi0183, _, hsz183, _⟩ := info_parts info45
                            have hroom183 : l1.length ≤ c1 := HC1.out
                            have hC183 : Kd.C k45 _ A1 l1.length l1 := HR1.out
                            have q0183 : (0 : Int) ≤ ((ji126) : Int) := of_decide_eq_true zq7
                            have hcut183 := cut_from (P := Try.prog) 26 45 .i64 Try.underlying26 hi0183 7 hsz183 A1 l1.length c1 (ji126) q0183 q183
                            have hr183 := Kd.C_drop (m := ((ji126) : Int).toNat) (c := c1) hC183 zq16 hroom183
                            obtain ⟨A183, hA183⟩ : ∃ Aq_, Aq_ = (if c1 = ((ji126) : Int).toNat then A1 else (A1 : Option Addr).map (·.add (((ji126) : Int).toNat * 7))) := ⟨_, rfl⟩
                            obtain ⟨c183, hc183⟩ : ∃ cq_, cq_ = c1 - ((ji126) : Int).toNat := ⟨_, rfl⟩
                            have hy183 : y598.length = l1.length - ((ji126) : Int).toNat := zq59
                            rw [show (l1).drop ((ji126) : Int).toNat = y598 from Ny598.out.symm] at hr183
                            replace hr183 : Kd.C k45 _ A183 y598.length y598 := (by rw [hA183]; exact hr183)
                            rw [← hy183, ← hA183, ← hc183] at hcut183
                            have HR601 := Aside0.mk hr183
                            have HC601 := Aside0.mk (show y598.length ≤ c183 from by rw [hy183, hc183]; exact Nat.sub_le_sub_right hroom183 _)
                            clear hr183 hC183 hroom183 hi0183 hsz183 hc183
                            have KY183 := Aside0.mk hy183
                            have KA183 := Aside0.mk hA183
                            clear hy183 hA183
                            replace q183 := eq_true q183
                            refine start_ (n := 11) (S := fun w' => True) (ds := []) #[false, false, false, false, false, false, false, false, false, false, false] zq23 rfl rfl trivial (fun hHeld => ?_); refine with_tabW culletlaw07_InspectStays.tab25 culletlaw07_InspectStays.bits25 (fun HT_ HW_ => ?_)
                            generalize wc.drew = w181 at BK558 HB HR594 HR601 hHeld ⊢
                            refine pure_ (i := 1) (N := some 189) (v := ?_) (a' := ?_) #[false, true, false, false, false, false, false, false, false, false, false] rfl rfl (any_of HT_.out zq23) (fun _ _ _ h => h) (Or.inl ⟨zq56, ?_⟩) ?_ ?_
                            rotate_left
                            exact zpw
                            rotate_left
                            exact zpa
                            refine pure_ (i := 2) (N := some 190) (v := ?_) (a' := ?_) #[false, true, true, false, false, false, false, false, false, false, false] rfl rfl (any_of HT_.out zq23) (fun _ _ _ h => h) (Or.inl ⟨zq56, ?_⟩) ?_ ?_
                            rotate_left
                            exact zpw
                            rotate_left
                            exact zpa
                            refine pure_ (i := 3) (N := some 191) (v := ?_) (a' := ?_) #[false, true, true, true, false, false, false, false, false, false, false] rfl rfl (any_of HT_.out zq23) (fun _ _ _ h => h) (Or.inl ⟨zq56, ?_⟩) ?_ ?_
                            rotate_left
                            exact zpw
                            rotate_left
                            exact zpa
                            refine pure_ (i := 5) (N := some 193) (v := ?_) (a' := ?_) #[false, true, true, true, false, true, false, false, false, false, false] rfl rfl (any_of HT_.out zq23) (fun _ _ _ h => h) (Or.inl ⟨zq56, ?_⟩) ?_ ?_
                            rotate_left
                            exact zpw
                            rotate_left
                            exact zpa
                            refine pure_ (i := 6) (N := some 194) (v := ?_) (a' := ?_) #[false, true, true, true, false, true, true, false, false, false, false] rfl rfl (any_of HT_.out zq23) (fun _ _ _ h => h) (Or.inl ⟨zq56, ?_⟩) ?_ ?_
                            rotate_left
                            exact zpw
                            rotate_left
                            exact zpa
                            refine pure_ (i := 7) (N := some 195) (v := ?_) (a' := ?_) #[false, true, true, true, false, true, true, true, false, false, false] rfl rfl (any_of HT_.out zq23) (fun _ _ _ h => h) (Or.inl ⟨zq56, ?_⟩) ?_ ?_
                            rotate_left
                            exact zpw
                            rotate_left
                            exact zpa
                            refine pure_ (i := 8) (N := some 196) (v := ?_) (a' := ?_) #[false, true, true, true, false, true, true, true, true, false, false] rfl rfl (any_of HT_.out zq23) (fun _ _ _ h => h) (Or.inl ⟨zq56, ?_⟩) ?_ ?_
                            rotate_left
                            exact zpw
                            rotate_left
                            exact zpa
                            refine one_ (i := 0) (N := some 188) #[true, true, true, true, false, true, true, true, true, false, false] rfl rfl (one_of HT_.out zq23) zq49 (fun K hK => ?_)
                            refine Kd.R_lit_step k45 _ 45 ?hg (N := 188) ?hd (xs := ([] : List (S45))) (inner := []) (ok := fun _ => True) (okp := fun _ => True) ?hr ?hp (fun _ hk => hk) trivial (Below.refl _ _) (Nat.le_refl _) zq51 ?_; (case hd => rfl); (case hg => rfl); (case hr => exact zq14); (case hp => exact zq76)
                            intro v589 w184 ho185 hb hg_ hnew_
                            clear hg_ hnew_
                            (first | rw [← Ny588.out] at ho185 | (simp only [Int.reduceToNat] at ho185; rw [← Ny588.out] at ho185))
                            have n0_ := Aside0.mk (Kd.R_lower ho185 (below_size zq2))
                            have n1_ := Aside0.mk (blk_below (zq0 BK558.out) hb)
                            have n2_ := Aside0.mk (below_step zq2 hb)
                            clear BK558
                            clear HB
                            have HO590 := n0_
                            have BK558 := n1_
                            have HB := n2_
                            clear n0_ n1_ n2_
                            clear hb ho185
                            refine hK.out _ _ trivial (fun hHeld => ?_)
                            clear hK K
                            refine norm_ (a' := ?_) ?_ ?_
                            rotate_left
                            ·show Act.put _ (some 188) _ = _
                             simp only [Act.put, List.setIfInBounds_toArray, List.set_cons_zero, List.set_cons_succ, i64_w, i32_w]
                             rfl
                            refine one_ (i := 4) (N := some 192) #[true, true, true, true, true, true, true, true, true, false, false] rfl rfl (one_of HT_.out zq23) zq49 (fun K hK => ?_)
                            refine Kd.R_append_rows_step k45 (w0 := w) w.heap.size zq56 (.tmp 188) (.tmp 191) 26 45 (.agg #[(.int .i64 0), (.int .u8 0), (.int .i64 0), (.int .i64 0), (.int .i64 0), (.int .i64 0), (.bool false)]) 56 rfl Try.underlying26 info45 rfl zq49 zq16 v589 y588 y591 _ _ _ (fun _ => True) (fun _ => False) rfl rfl ?aO ?aR (fun _ _ h => h) (fun _ h => h.elim) ?aF ?aB ?aS ?aL ?_
                            (case aR => exact zq31)
                            (case aB => exact zq2)
                            (case aF => exact zq53)
                            (case aO => exact (zq1 HO590.out))
                            (case aS => exact zq55)
                            (case aL => exact zq79)
                            intro v596 w186 ho hb hg hat
                            rw [← Ny595.out] at ho
                            have n0_ := Aside0.mk (blk_grown (zq0 BK558.out) hg (Kd.R_ne HO590.out BK558.out zq49))
                            have n1_ := Aside0.mk (hb)
                            have n2_ := Aside0.mk (ho)
                            clear BK558
                            clear HB
                            clear HO590
                            have BK558 := n0_
                            have HB := n1_
                            have HO597 := n2_
                            clear n0_ n1_ n2_
                            clear ho hb hg hat
                            refine hK.out _ _ trivial (fun hHeld => ?_)
                            clear hK K
                            refine norm_ (a' := ?_) ?_ ?_
                            rotate_left
                            ·show Act.put _ (some 192) _ = _
                             simp only [Act.put, List.setIfInBounds_toArray, List.set_cons_zero, List.set_cons_succ, i64_w, i32_w]
                             rfl
                            refine one_ (i := 9) (N := some 197) #[true, true, true, true, true, true, true, true, true, true, false] rfl rfl (one_of HT_.out zq23) zq49 (fun K hK => ?_)
                            refine Kd.R_append_rows_step k45 (w0 := w) w.heap.size zq56 (.tmp 192) (.tmp 196) 26 45 (.agg #[(.int .i64 0), (.int .u8 0), (.int .i64 0), (.int .i64 0), (.int .i64 0), (.int .i64 0), (.bool false)]) 56 rfl Try.underlying26 info45 rfl zq49 zq16 v596 y595 y598 _ _ _ (fun _ => True) (fun _ => False) rfl rfl ?aO ?aR (fun _ _ h => h) (fun _ h => h.elim) ?aF ?aB ?aS ?aL ?_
                            (case aR => exact zq32)
                            (case aB => exact zq2)
                            (case aF => exact zq53)
                            (case aO => exact (zq1 HO597.out))
                            (case aS => exact zq55)
                            (case aL => exact zq80)
                            intro v603 w187 ho hb hg hat
                            rw [← Ny602.out] at ho
                            have n0_ := Aside0.mk (blk_grown (zq0 BK558.out) hg (Kd.R_ne HO597.out BK558.out zq49))
                            have n1_ := Aside0.mk (hb)
                            have n2_ := Aside0.mk (ho)
                            clear BK558
                            clear HB
                            clear HO597
                            have BK558 := n0_
                            have HB := n1_
                            have HO604 := n2_
                            clear n0_ n1_ n2_
                            clear ho hb hg hat
                            refine hK.out _ _ trivial (fun hHeld => ?_)
                            clear hK K
                            refine norm_ (a' := ?_) ?_ ?_
                            rotate_left
                            ·show Act.put _ (some 197) _ = _
                             simp only [Act.put, List.setIfInBounds_toArray, List.set_cons_zero, List.set_cons_succ, i64_w, i32_w]
                             rfl
                            refine pure_ (i := 10) (N := some 25) (v := ?_) (a' := ?_) #[true, true, true, true, true, true, true, true, true, true, true] rfl rfl (any_of HT_.out zq23) (fun _ _ _ h => h) (Or.inl ⟨zq56, ?_⟩) ?_ ?_
                            rotate_left
                            exact zpw
                            rotate_left
                            exact zpa
                            refine done_ (done_of HT_.out zq23) ?_
                            obtain ⟨hcz188_0, hcz188_1, hcz188_2, hfz188_0, hfz188_1, hfz188_2⟩ := bcs3 BK558.out
                            obtain ⟨Ao189, co189, eo189⟩ := Kd.R_slice HO604.out
                            subst eo189
                            try go_wp2_with (first | ((with_reducible refine gate_callee (f := 21) rfl ?_); refine goesL_ (some 208) rfl rfl Try.func21 zq23 rfl #[.agg #[.int .i64 a0_0, .slice A0_1 l0_1.length c0_1, .slice A0_2 l0_2.length c0_2], .slice Ao189 y602.length co189, .int .i64 a3] rfl zq4 ?_; (with_reducible refine (inspect_Judge.calls a0_0 _ _ l0_1 _ _ l0_2 _ _ y602 a3 t609 t610 t611 _ ?side1 ?side2 ?side3 ?side4 ?side5 ?side6 A166.out).mono ?_); (case side1 => exact zq5); (case side2 => exact HC0_1.out); (case side3 => exact zq6); (case side4 => exact HC0_2.out); (case side5 => exact zq33); (case side6 => exact zq68); rintro e w190 ⟨rfl, hb⟩; refine ⟨_, rfl, ?_⟩; have n_ := as3 (Kd.R_below (zq1 HO604.out) hb) (blk_below (zq0 BK558.out) hb) (below_step zq2 hb); clear HO604 BK558 HB; obtain ⟨HO604, BK558, HB⟩ := n_; (try clear hb); (try clear hb2); (try clear hk); (try clear hi)))
                            go_ret
                            exact ⟨zq34, zq2⟩
                          ·rw [if_neg c167] at H
                           have c167b0 : (t611 == 0) = false := beq_eq_false_iff_ne.mpr c167
                           have c167b1 : (t611 != 0) = true := bne_iff_ne.mpr c167
                           obtain rfl := Option.some.inj H
                           try go_wp2
                           have n0_ := Aside0.mk (blk_drew BK558.out)
                           have n1_ := Aside0.mk (below_drew1 HB.out)
                           clear BK558
                           clear HB
                           have BK558 := n0_
                           have HB := n1_
                           clear n0_ n1_
                           have q192 : (t585 : Int) ≤ ((l1.length : Int) : Int) := of_decide_eq_true zq7
                           obtain ⟨i0192, hi0192, _, hsz192, _⟩ := info_parts info45
                           have hroom192 : l1.length ≤ c1 := HC1.out
                           have hC192 : Kd.C k45 _ A1 l1.length l1 := HR1.out
                           have hcut192 := cut_to (P := Try.prog) 26 45 .i64 Try.underlying26 hi0192 A1 l1.length c1 t585 (of_decide_eq_true zq7) q192 hroom192
                           have hr192 := Kd.C_take (m := (t585 : Int).toNat) hC192 zq16
                           have hy192 : y591.length = (t585 : Int).toNat := zq63
                           rw [← Ny591.out] at hr192
                           rw [← hy192] at hcut192
                           have HR594 := Aside0.mk hr192
                           have HC594 := Aside0.mk (show y591.length ≤ c1 from by omega)
                           clear hr192 hC192 hroom192 hi0192 hsz192
                           have KY192 := Aside0.mk hy192
                           clear hy192
                           replace q192 := eq_true q192
                           have q193 : ((ji126) : Int) ≤ ((l1.length : Int) : Int) := of_decide_eq_true zq7
                           obtain ⟨i0193, hi0193, _, hsz193, _⟩ := info_parts info45
                           have hroom193 : l1.length ≤ c1 := HC1.out
                           have hC193 : Kd.C k45 _ A1 l1.length l1 := HR1.out
                           have q0193 : (0 : Int) ≤ ((ji126) : Int) := of_decide_eq_true zq7
                           have hcut193 := cut_from (P := Try.prog) 26 45 .i64 Try.underlying26 hi0193 7 hsz193 A1 l1.length c1 (ji126) q0193 q193
                           have hr193 := Kd.C_drop (m := ((ji126) : Int).toNat) (c := c1) hC193 zq16 hroom193
                           obtain ⟨A193, hA193⟩ : ∃ Aq_, Aq_ = (if c1 = ((ji126) : Int).toNat then A1 else (A1 : Option Addr).map (·.add (((ji126) : Int).toNat * 7))) := ⟨_, rfl⟩
                           obtain ⟨c193, hc193⟩ : ∃ cq_, cq_ = c1 - ((ji126) : Int).toNat := ⟨_, rfl⟩
                           have hy193 : y598.length = l1.length - ((ji126) : Int).toNat := zq59
                           rw [show (l1).drop ((ji126) : Int).toNat = y598 from Ny598.out.symm] at hr193
                           replace hr193 : Kd.C k45 _ A193 y598.length y598 := (by rw [hA193]; exact hr193)
                           rw [← hy193, ← hA193, ← hc193] at hcut193
                           have HR601 := Aside0.mk hr193
                           have HC601 := Aside0.mk (show y598.length ≤ c193 from by rw [hy193, hc193]; exact Nat.sub_le_sub_right hroom193 _)
                           clear hr193 hC193 hroom193 hi0193 hsz193 hc193
                           have KY193 := Aside0.mk hy193
                           have KA193 := Aside0.mk hA193
                           clear hy193 hA193
                           replace q193 := eq_true q193
                           refine start_ (n := 11) (S := fun w' => True) (ds := []) #[false, false, false, false, false, false, false, false, false, false, false] zq23 rfl rfl trivial (fun hHeld => ?_); refine with_tabW culletlaw07_InspectStays.tab25 culletlaw07_InspectStays.bits25 (fun HT_ HW_ => ?_)
                           generalize wc.drew = w191 at BK558 HB HR594 HR601 hHeld ⊢
                           refine pure_ (i := 1) (N := some 189) (v := ?_) (a' := ?_) #[false, true, false, false, false, false, false, false, false, false, false] rfl rfl (any_of HT_.out zq23) (fun _ _ _ h => h) (Or.inl ⟨zq56, ?_⟩) ?_ ?_
                           rotate_left
                           exact zpw
                           rotate_left
                           exact zpa
                           refine pure_ (i := 2) (N := some 190) (v := ?_) (a' := ?_) #[false, true, true, false, false, false, false, false, false, false, false] rfl rfl (any_of HT_.out zq23) (fun _ _ _ h => h) (Or.inl ⟨zq56, ?_⟩) ?_ ?_
                           rotate_left
                           exact zpw
                           rotate_left
                           exact zpa
                           refine pure_ (i := 3) (N := some 191) (v := ?_) (a' := ?_) #[false, true, true, true, false, false, false, false, false, false, false] rfl rfl (any_of HT_.out zq23) (fun _ _ _ h => h) (Or.inl ⟨zq56, ?_⟩) ?_ ?_
                           rotate_left
                           exact zpw
                           rotate_left
                           exact zpa
                           refine pure_ (i := 5) (N := some 193) (v := ?_) (a' := ?_) #[false, true, true, true, false, true, false, false, false, false, false] rfl rfl (any_of HT_.out zq23) (fun _ _ _ h => h) (Or.inl ⟨zq56, ?_⟩) ?_ ?_
                           rotate_left
                           exact zpw
                           rotate_left
                           exact zpa
                           refine pure_ (i := 6) (N := some 194) (v := ?_) (a' := ?_) #[false, true, true, true, false, true, true, false, false, false, false] rfl rfl (any_of HT_.out zq23) (fun _ _ _ h => h) (Or.inl ⟨zq56, ?_⟩) ?_ ?_
                           rotate_left
                           exact zpw
                           rotate_left
                           exact zpa
                           refine pure_ (i := 7) (N := some 195) (v := ?_) (a' := ?_) #[false, true, true, true, false, true, true, true, false, false, false] rfl rfl (any_of HT_.out zq23) (fun _ _ _ h => h) (Or.inl ⟨zq56, ?_⟩) ?_ ?_
                           rotate_left
                           exact zpw
                           rotate_left
                           exact zpa
                           refine pure_ (i := 8) (N := some 196) (v := ?_) (a' := ?_) #[false, true, true, true, false, true, true, true, true, false, false] rfl rfl (any_of HT_.out zq23) (fun _ _ _ h => h) (Or.inl ⟨zq56, ?_⟩) ?_ ?_
                           rotate_left
                           exact zpw
                           rotate_left
                           exact zpa
                           refine one_ (i := 0) (N := some 188) #[true, true, true, true, false, true, true, true, true, false, false] rfl rfl (one_of HT_.out zq23) zq49 (fun K hK => ?_)
                           refine Kd.R_lit_step k45 _ 45 ?hg (N := 188) ?hd (xs := ([] : List (S45))) (inner := []) (ok := fun _ => True) (okp := fun _ => True) ?hr ?hp (fun _ hk => hk) trivial (Below.refl _ _) (Nat.le_refl _) zq51 ?_; (case hd => rfl); (case hg => rfl); (case hr => exact zq14); (case hp => exact zq76)
                           intro v589 w194 ho195 hb hg_ hnew_
                           clear hg_ hnew_
                           (first | rw [← Ny588.out] at ho195 | (simp only [Int.reduceToNat] at ho195; rw [← Ny588.out] at ho195))
                           have n0_ := Aside0.mk (Kd.R_lower ho195 (below_size zq2))
                           have n1_ := Aside0.mk (blk_below (zq0 BK558.out) hb)
                           have n2_ := Aside0.mk (below_step zq2 hb)
                           clear BK558
                           clear HB
                           have HO590 := n0_
                           have BK558 := n1_
                           have HB := n2_
                           clear n0_ n1_ n2_
                           clear hb ho195
                           refine hK.out _ _ trivial (fun hHeld => ?_)
                           clear hK K
                           refine norm_ (a' := ?_) ?_ ?_
                           rotate_left
                           ·show Act.put _ (some 188) _ = _
                            simp only [Act.put, List.setIfInBounds_toArray, List.set_cons_zero, List.set_cons_succ, i64_w, i32_w]
                            rfl
                           refine one_ (i := 4) (N := some 192) #[true, true, true, true, true, true, true, true, true, false, false] rfl rfl (one_of HT_.out zq23) zq49 (fun K hK => ?_)
                           refine Kd.R_append_rows_step k45 (w0 := w) w.heap.size zq56 (.tmp 188) (.tmp 191) 26 45 (.agg #[(.int .i64 0), (.int .u8 0), (.int .i64 0), (.int .i64 0), (.int .i64 0), (.int .i64 0), (.bool false)]) 56 rfl Try.underlying26 info45 rfl zq49 zq16 v589 y588 y591 _ _ _ (fun _ => True) (fun _ => False) rfl rfl ?aO ?aR (fun _ _ h => h) (fun _ h => h.elim) ?aF ?aB ?aS ?aL ?_
                           (case aR => exact zq31)
                           (case aB => exact zq2)
                           (case aF => exact zq53)
                           (case aO => exact (zq1 HO590.out))
                           (case aS => exact zq55)
                           (case aL => exact zq79)
                           intro v596 w196 ho hb hg hat
                           rw [← Ny595.out] at ho
                           have n0_ := Aside0.mk (blk_grown (zq0 BK558.out) hg (Kd.R_ne HO590.out BK558.out zq49))
                           have n1_ := Aside0.mk (hb)
                           have n2_ := Aside0.mk (ho)
                           clear BK558
                           clear HB
                           clear HO590
                           have BK558 := n0_
                           have HB := n1_
                           have HO597 := n2_
                           clear n0_ n1_ n2_
                           clear ho hb hg hat
                           refine hK.out _ _ trivial (fun hHeld => ?_)
                           clear hK K
                           refine norm_ (a' := ?_) ?_ ?_
                           rotate_left
                           ·show Act.put _ (some 192) _ = _
                            simp only [Act.put, List.setIfInBounds_toArray, List.set_cons_zero, List.set_cons_succ, i64_w, i32_w]
                            rfl
                           refine one_ (i := 9) (N := some 197) #[true, true, true, true, true, true, true, true, true, true, false] rfl rfl (one_of HT_.out zq23) zq49 (fun K hK => ?_)
                           refine Kd.R_append_rows_step k45 (w0 := w) w.heap.size zq56 (.tmp 192) (.tmp 196) 26 45 (.agg #[(.int .i64 0), (.int .u8 0), (.int .i64 0), (.int .i64 0), (.int .i64 0), (.int .i64 0), (.bool false)]) 56 rfl Try.underlying26 info45 rfl zq49 zq16 v596 y595 y598 _ _ _ (fun _ => True) (fun _ => False) rfl rfl ?aO ?aR (fun _ _ h => h) (fun _ h => h.elim) ?aF ?aB ?aS ?aL ?_
                           (case aR => exact zq32)
                           (case aB => exact zq2)
                           (case aF => exact zq53)
                           (case aO => exact (zq1 HO597.out))
                           (case aS => exact zq55)
                           (case aL => exact zq80)
                           intro v603 w197 ho hb hg hat
                           rw [← Ny602.out] at ho
                           have n0_ := Aside0.mk (blk_grown (zq0 BK558.out) hg (Kd.R_ne HO597.out BK558.out zq49))
                           have n1_ := Aside0.mk (hb)
                           have n2_ := Aside0.mk (ho)
                           clear BK558
                           clear HB
                           clear HO597
                           have BK558 := n0_
                           have HB := n1_
                           have HO604 := n2_
                           clear n0_ n1_ n2_
                           clear ho hb hg hat
                           refine hK.out _ _ trivial (fun hHeld => ?_)
                           clear hK K
                           refine norm_ (a' := ?_) ?_ ?_
                           rotate_left
                           ·show Act.put _ (some 197) _ = _
                            simp only [Act.put, List.setIfInBounds_toArray, List.set_cons_zero, List.set_cons_succ, i64_w, i32_w]
                            rfl
                           refine pure_ (i := 10) (N := some 25) (v := ?_) (a' := ?_) #[true, true, true, true, true, true, true, true, true, true, true] rfl rfl (any_of HT_.out zq23) (fun _ _ _ h => h) (Or.inl ⟨zq56, ?_⟩) ?_ ?_
                           rotate_left
                           exact zpw
                           rotate_left
                           exact zpa
                           refine done_ (done_of HT_.out zq23) ?_
                           obtain ⟨hcz198_0, hcz198_1, hcz198_2, hfz198_0, hfz198_1, hfz198_2⟩ := bcs3 BK558.out
                           obtain ⟨Ao199, co199, eo199⟩ := Kd.R_slice HO604.out
                           subst eo199
                           try go_wp2_with (first | ((with_reducible refine gate_callee (f := 21) rfl ?_); refine goesL_ (some 208) rfl rfl Try.func21 zq23 rfl #[.agg #[.int .i64 a0_0, .slice A0_1 l0_1.length c0_1, .slice A0_2 l0_2.length c0_2], .slice Ao199 y602.length co199, .int .i64 a3] rfl zq4 ?_; (with_reducible refine (inspect_Judge.calls a0_0 _ _ l0_1 _ _ l0_2 _ _ y602 a3 t609 t610 t611 _ ?side1 ?side2 ?side3 ?side4 ?side5 ?side6 A166.out).mono ?_); (case side1 => exact zq5); (case side2 => exact HC0_1.out); (case side3 => exact zq6); (case side4 => exact HC0_2.out); (case side5 => exact zq33); (case side6 => exact zq68); rintro e w200 ⟨rfl, hb⟩; refine ⟨_, rfl, ?_⟩; have n_ := as3 (Kd.R_below (zq1 HO604.out) hb) (blk_below (zq0 BK558.out) hb) (below_step zq2 hb); clear HO604 BK558 HB; obtain ⟨HO604, BK558, HB⟩ := n_; (try clear hb); (try clear hb2); (try clear hk); (try clear hi)))
                           go_ret
                           exact ⟨zq34, zq2⟩
                        ·rw [if_neg c129] at H
                         exact absurd H zq51
                       ·rw [if_neg c128] at H
                        exact absurd H zq51
                      ·rw [if_neg c127] at H
                       exact absurd H zq51
                     ·rw [if_neg c125] at H
                      exact absurd H zq51
                    ·rw [if_neg c124] at H
                     exact absurd H zq51
                   ·rw [if_neg c123] at H
                    exact absurd H zq51
         ·rw [if_neg c52] at H
          have c52b0 : (t576 == 0) = false := beq_eq_false_iff_ne.mpr c52
          have c52b1 : (t576 != 0) = true := bne_iff_ne.mpr c52
          replace H := Option.bind_eq_some_iff.mp H
          obtain ⟨t580, A2010, H⟩ := H
          replace H : (some t580) = some r := H
          have A201 := Aside0.mk A2010
          clear A2010
          obtain rfl := Option.some.inj H
          obtain ⟨hcz202_0, hcz202_1, hcz202_2, hfz202_0, hfz202_1, hfz202_2⟩ := bcs3 BK558.out
          go_wp2_with (first | ((with_reducible refine gate_callee (f := 21) rfl ?_); refine goesL_ (some 68) rfl rfl Try.func21 zq23 rfl #[.agg #[.int .i64 a0_0, .slice A0_1 l0_1.length c0_1, .slice A0_2 l0_2.length c0_2], .slice A1 l1.length c1, .int .i64 a3] rfl zq4 ?_; (with_reducible refine (inspect_Judge.calls a0_0 _ _ l0_1 _ _ l0_2 _ _ l1 a3 t574 t575 t576 _ ?side1 ?side2 ?side3 ?side4 ?side5 ?side6 A50.out).mono ?_); (case side1 => exact zq5); (case side2 => exact HC0_1.out); (case side3 => exact zq6); (case side4 => exact HC0_2.out); (case side5 => exact zq22); (case side6 => exact HC1.out); rintro e w203 ⟨rfl, hb⟩; refine ⟨_, rfl, ?_⟩; have n_ := as3 (Kd.R_below (zq1 HO_11.out) hb) (blk_below (zq0 BK558.out) hb) (below_step zq2 hb); clear HO_11 BK558 HB; obtain ⟨HO_11, BK558, HB⟩ := n_; (try clear hb); (try clear hb2); (try clear hk); (try clear hi); obtain ⟨hcz204_0, hcz204_1, hcz204_2, hfz204_0, hfz204_1, hfz204_2⟩ := bcs3 BK558.out; obtain ⟨Ao205, co205, eo205⟩ := Kd.R_slice HO_11.out; subst eo205) | ((with_reducible refine gate_callee (f := 21) rfl ?_); refine goesL_ (some 76) rfl rfl Try.func21 zq23 rfl #[.agg #[.int .i64 a0_0, .slice A0_1 l0_1.length c0_1, .slice A0_2 l0_2.length c0_2], .slice Ao205 y568.length co205, .int .i64 a3] rfl zq4 ?_; (with_reducible refine (inspect_Judge.calls a0_0 _ _ l0_1 _ _ l0_2 _ _ y568 a3 t577 t578 t579 _ ?side1 ?side2 ?side3 ?side4 ?side5 ?side6 A51.out).mono ?_); (case side1 => exact zq5); (case side2 => exact HC0_1.out); (case side3 => exact zq6); (case side4 => exact HC0_2.out); (case side5 => exact zq28); (case side6 => exact zq62); rintro e w206 ⟨rfl, hb⟩; refine ⟨_, rfl, ?_⟩; have n_ := as3 (Kd.R_below (zq1 HO_11.out) hb) (blk_below (zq0 BK558.out) hb) (below_step zq2 hb); clear HO_11 BK558 HB; obtain ⟨HO_11, BK558, HB⟩ := n_; (try clear hb); (try clear hb2); (try clear hk); (try clear hi)) | ((with_reducible refine gate_callee (f := 11) rfl ?_); refine goesL_ (some 82) rfl rfl Try.func11 zq23 rfl #[] rfl zq4 ?_; (with_reducible refine (culletlaw07_looks.calls  t580 _ A201.out).mono ?_); rintro e w207 ⟨rfl, hb⟩; refine ⟨_, rfl, ?_⟩; have n_ := as3 (Kd.R_below (zq1 HO_11.out) hb) (blk_below (zq0 BK558.out) hb) (below_step zq2 hb); clear HO_11 BK558 HB; obtain ⟨HO_11, BK558, HB⟩ := n_; (try clear hb); (try clear hb2); (try clear hk); (try clear hi)))
          go_ret
          exact ⟨zq10, zq2⟩
     ·rw [if_neg c31] at H
      exact absurd H zq51
    ·rw [if_neg c30] at H
     exact absurd H zq51
end Go.Proofs.Ytbpebehbfpgjbaa.P
end
