/- Texts of the proof, joined: what they prove stands at each theorem. -/
import Derived.Test.YtbpebehbfpgjbaaCbb
import Derived.Test.YtbpebehbfpgjbaaCbd
section
namespace Go.Proofs.Ytbpebehbfpgjbaa.P
open Go.RowKit Go.Proofs.YtbpebehbfpgjbaaW.PrintWords Go.Proofs.YtbpebehbfpgjbaaW.PrintLast Go.Proofs.YtbpebehbfpgjbaaW.PrintMore
attribute [local go_sem] max2_int min2_int max_two min_two max_three min_three max_four min_four
set_option linter.unusedVariables false
set_option linter.unusedSimpArgs false
mutual
def culletref07_CheckLog.l0 : Nat → List (S45) → Int → Int → List (S58) → List (S56) → Option (Int)
 | 0, _, _, _, _, _ => none
 | k + 1, x1, x6, x140000, x140001, x140002 => if x6 < (x1.length : Int) then (if 0 ≤ x6 then (if ((rd_T45 x1 x6).f1) = 1 then (if ((rd_T45 x1 x6).f0) < 0 then (culletref07_CheckLog.j1 k x1 x6 true x140000 x140001 x140002 ((rd_T45 x1 x6).f0) ((rd_T45 x1 x6).f1) ((rd_T45 x1 x6).f2) ((rd_T45 x1 x6).f3) ((rd_T45 x1 x6).f4) ((rd_T45 x1 x6).f5) ((rd_T45 x1 x6).f6)) else (culletref07_CheckLog.j1 k x1 x6 (decide (((rd_T45 x1 x6).f0) > 1000000000)) x140000 x140001 x140002 ((rd_T45 x1 x6).f0) ((rd_T45 x1 x6).f1) ((rd_T45 x1 x6).f2) ((rd_T45 x1 x6).f3) ((rd_T45 x1 x6).f4) ((rd_T45 x1 x6).f5) ((rd_T45 x1 x6).f6))) else (if ((rd_T45 x1 x6).f1) = 2 then (if ((rd_T45 x1 x6).f0) < 0 then (culletref07_CheckLog.j1 k x1 x6 true x140000 x140001 x140002 ((rd_T45 x1 x6).f0) ((rd_T45 x1 x6).f1) ((rd_T45 x1 x6).f2) ((rd_T45 x1 x6).f3) ((rd_T45 x1 x6).f4) ((rd_T45 x1 x6).f5) ((rd_T45 x1 x6).f6)) else (culletref07_CheckLog.j1 k x1 x6 (decide (((rd_T45 x1 x6).f0) > 1000000000)) x140000 x140001 x140002 ((rd_T45 x1 x6).f0) ((rd_T45 x1 x6).f1) ((rd_T45 x1 x6).f2) ((rd_T45 x1 x6).f3) ((rd_T45 x1 x6).f4) ((rd_T45 x1 x6).f5) ((rd_T45 x1 x6).f6))) else (culletref07_CheckLog.j1 k x1 x6 true x140000 x140001 x140002 ((rd_T45 x1 x6).f0) ((rd_T45 x1 x6).f1) ((rd_T45 x1 x6).f2) ((rd_T45 x1 x6).f3) ((rd_T45 x1 x6).f4) ((rd_T45 x1 x6).f5) ((rd_T45 x1 x6).f6)))) else (none)) else (some 0)
def culletref07_CheckLog.j1 : Nat → List (S45) → Int → Bool → Int → List (S58) → List (S56) → Int → Int → Int → Int → Int → Int → Bool → Option (Int)
 | 0, _, _, _, _, _, _, _, _, _, _, _, _, _ => none
 | k + 1, x1, x6, x44, x140000, x140001, x140002, x143000, x143001, x143002, x143003, x143004, x143005, x143006 => if x44 = true then (some 1) else (if x6 > 0 then (if 0 ≤ (wrap64 (x6 - 1)) then (if (wrap64 (x6 - 1)) < (x1.length : Int) then (culletref07_CheckLog.j2 k x1 x6 (decide (((rd_T45 x1 (wrap64 (x6 - 1))).f0) > x143000)) x140000 x140001 x140002 x143000 x143001 x143002 x143003 x143004 x143005 x143006) else (none)) else (none)) else (culletref07_CheckLog.j2 k x1 x6 false x140000 x140001 x140002 x143000 x143001 x143002 x143003 x143004 x143005 x143006))
def culletref07_CheckLog.j2 : Nat → List (S45) → Int → Bool → Int → List (S58) → List (S56) → Int → Int → Int → Int → Int → Int → Bool → Option (Int)
 | 0, _, _, _, _, _, _, _, _, _, _, _, _, _ => none
 | k + 1, x1, x6, x57, x140000, x140001, x140002, x143000, x143001, x143002, x143003, x143004, x143005, x143006 => if x57 = true then (some 8) else ((culletref07_checkRun.f k x140000 x140001 x140002 x143000 x143001 x143002 x143003 x143004 x143005 x143006).bind fun t144 => (if t144 = 0 then (culletref07_CheckLog.l0 k x1 (wrap64 (x6 + 1)) x140000 x140001 x140002) else (some t144)))
end
def culletref07_CheckLog.f (k : Nat) (a0_0 : Int) (l0_1 : List (S58)) (l0_2 : List (S56)) (l1 : List (S45)) : Option (Int) := (culletref07_Check.f k a0_0 l0_1 l0_2).bind fun t140 => (if t140 = 0 then (if (l1.length : Int) > 512 then (some 3) else (culletref07_CheckLog.l0 k l1 0 a0_0 l0_1 l0_2)) else (some t140))
set_option maxHeartbeats 8000000 in
set_option maxRecDepth 100000 in
theorem culletref07_CheckLog.calls (k : Nat) (a0_0 : Int) (A0_1 : Option Addr) (c0_1 : Nat) (l0_1 : List (S58)) (A0_2 : Option Addr) (c0_2 : Nat) (l0_2 : List (S56)) (A1 : Option Addr) (c1 : Nat) (l1 : List (S45)) (r : Int) (w : World) (hr0_1 : Kd.C k58 w A0_1 l0_1.length l0_1) (hc0_1 : l0_1.length ≤ c0_1) (hr0_2 : Kd.C k56 w A0_2 l0_2.length l0_2) (hc0_2 : l0_2.length ≤ c0_2) (hr1 : Kd.C k45 w A1 l1.length l1) (hc1 : l1.length ≤ c1) (h : culletref07_CheckLog.f k a0_0 l0_1 l0_2 l1 = some r) :
  Calls Try.prog 34 #[.agg #[.int .i64 a0_0, .slice A0_1 l0_1.length c0_1, .slice A0_2 l0_2.length c0_2], .slice A1 l1.length c1] w fun e w' => e = .returned (.int .i64 r) ∧ Below w.heap.size w w' := by
 have hu25 := Try.underlying25
 have hu45 := Try.underlying45
 have HR0_1 := Aside0.mk hr0_1
 have HC0_1 := Aside0.mk hc0_1
 clear hr0_1 hc0_1
 have HR0_2 := Aside0.mk hr0_2
 have HC0_2 := Aside0.mk hc0_2
 clear hr0_2 hc0_2
 have HR1 := Aside0.mk hr1
 have HC1 := Aside0.mk hc1
 clear hr1 hc1
 have HB := Aside0.mk (Below.refl w.heap.size w)
 have H : ((culletref07_Check.f k a0_0 l0_1 l0_2).bind fun t140 => (if t140 = 0 then (if (l1.length : Int) > 512 then (some 3) else (culletref07_CheckLog.l0 k l1 0 a0_0 l0_1 l0_2)) else (some t140))) = some r := h
 clear h
 replace H := Option.bind_eq_some_iff.mp H
 obtain ⟨t140, A30, H⟩ := H
 replace H : (if t140 = 0 then (if (l1.length : Int) > 512 then (some 3) else (culletref07_CheckLog.l0 k l1 0 a0_0 l0_1 l0_2)) else (some t140)) = some r := H
 have A3 := Aside0.mk A30
 clear A30
 by_cases c4 : t140 = 0
 ·rw [if_pos c4] at H
  have c4b0 : (t140 == 0) = true := beq_iff_eq.mpr c4
  have c4b1 : (t140 != 0) = false := bne_eq_false_iff_eq.mpr c4
  clear c4
  by_cases c5 : (l1.length : Int) > 512
  ·rw [if_pos c5] at H
   have c5b0 : decide (512 < (l1.length : Int)) = true := decide_eq_true c5
   have c5b1 : decide (512 < l1.length) = true := decide_eq_true zq17
   clear c5
   obtain rfl := Option.some.inj H
   go_enter Try.func34, Try.ntmps34
   go_wp2_with (first | ((with_reducible refine gate_dst (N := 2) rfl ?_); refine box_event ?hg (N := 2) ?hd (cs := #[.int .i64 a0_0, .slice A0_1 l0_1.length c0_1, .slice A0_2 l0_2.length c0_2]) (t := 25) ?hr ?_; (case hd => rfl); (case hg => rfl); (case hr => exact zq11); intro gb139 hg w6 hbox hb; have n_ := as4 (below_step zq3 hb) (hbox) ((zq31 : w.heap.size ≤ gb139)) ((zq31 : w.heap.size ≤ gb139)); clear HB hb hbox hg; obtain ⟨HB, BK139, GW139, GE139⟩ := n_; obtain ⟨hcz7_0, hcz7_1, hcz7_2, hfz7_0, hfz7_1, hfz7_2⟩ := bcs3 BK139.out) | (go_at_call 22; (with_reducible refine (culletref07_Check.calls k a0_0 _ _ l0_1 _ _ l0_2 t140 _ ?side1 ?side2 ?side3 ?side4 A3.out).mono ?_); (case side1 => exact zq5); (case side2 => exact HC0_1.out); (case side3 => exact zq6); (case side4 => exact HC0_2.out); rintro e w8 ⟨rfl, hb⟩; have n_ := as2 (blk_below (zq0 BK139.out) hb) (below_step zq23 hb); clear BK139 HB; obtain ⟨BK139, HB⟩ := n_; (try clear hb); (try clear hb2); (try clear hk); (try clear hi)))
   repeat (go_quiet (first | ((with_reducible refine gate_dst (N := 2) rfl ?_); refine box_event ?hg (N := 2) ?hd (cs := #[.int .i64 a0_0, .slice A0_1 l0_1.length c0_1, .slice A0_2 l0_2.length c0_2]) (t := 25) ?hr ?_; (case hd => rfl); (case hg => rfl); (case hr => exact zq11); intro gb139 hg w6 hbox hb; have n_ := as4 (below_step zq3 hb) (hbox) ((zq31 : w.heap.size ≤ gb139)) ((zq31 : w.heap.size ≤ gb139)); clear HB hb hbox hg; obtain ⟨HB, BK139, GW139, GE139⟩ := n_; obtain ⟨hcz7_0, hcz7_1, hcz7_2, hfz7_0, hfz7_1, hfz7_2⟩ := bcs3 BK139.out) | (go_at_call 22; (with_reducible refine (culletref07_Check.calls k a0_0 _ _ l0_1 _ _ l0_2 t140 _ ?side1 ?side2 ?side3 ?side4 A3.out).mono ?_); (case side1 => exact zq5); (case side2 => exact HC0_1.out); (case side3 => exact zq6); (case side4 => exact HC0_2.out); rintro e w8 ⟨rfl, hb⟩; have n_ := as2 (blk_below (zq0 BK139.out) hb) (below_step zq23 hb); clear BK139 HB; obtain ⟨BK139, HB⟩ := n_; (try clear hb); (try clear hb2); (try clear hk); (try clear hi))); try go_wp2_with (first | ((with_reducible refine gate_dst (N := 2) rfl ?_); refine box_event ?hg (N := 2) ?hd (cs := #[.int .i64 a0_0, .slice A0_1 l0_1.length c0_1, .slice A0_2 l0_2.length c0_2]) (t := 25) ?hr ?_; (case hd => rfl); (case hg => rfl); (case hr => exact zq11); intro gb139 hg w6 hbox hb; have n_ := as4 (below_step zq3 hb) (hbox) ((zq31 : w.heap.size ≤ gb139)) ((zq31 : w.heap.size ≤ gb139)); clear HB hb hbox hg; obtain ⟨HB, BK139, GW139, GE139⟩ := n_; obtain ⟨hcz7_0, hcz7_1, hcz7_2, hfz7_0, hfz7_1, hfz7_2⟩ := bcs3 BK139.out) | (go_at_call 22; (with_reducible refine (culletref07_Check.calls k a0_0 _ _ l0_1 _ _ l0_2 t140 _ ?side1 ?side2 ?side3 ?side4 A3.out).mono ?_); (case side1 => exact zq5); (case side2 => exact HC0_1.out); (case side3 => exact zq6); (case side4 => exact HC0_2.out); rintro e w8 ⟨rfl, hb⟩; have n_ := as2 (blk_below (zq0 BK139.out) hb) (below_step zq23 hb); clear BK139 HB; obtain ⟨BK139, HB⟩ := n_; (try clear hb); (try clear hb2); (try clear hk); (try clear hi))))
   go_ret
   exact ⟨zq9, zq23⟩
  ·rw [if_neg c5] at H
   have c5b0 : decide (512 < (l1.length : Int)) = false := decide_eq_false c5
   have c5b1 : decide (512 < l1.length) = false := decide_eq_false zq17
   clear c5
   have H' := Aside0.mk H
   clear H
   go_enter Try.func34, Try.ntmps34
   go_wp2_with (first | ((with_reducible refine gate_dst (N := 2) rfl ?_); refine box_event ?hg (N := 2) ?hd (cs := #[.int .i64 a0_0, .slice A0_1 l0_1.length c0_1, .slice A0_2 l0_2.length c0_2]) (t := 25) ?hr ?_; (case hd => rfl); (case hg => rfl); (case hr => exact zq11); intro gb139 hg w9 hbox hb; have n_ := as4 (below_step zq3 hb) (hbox) ((zq31 : w.heap.size ≤ gb139)) ((zq31 : w.heap.size ≤ gb139)); clear HB hb hbox hg; obtain ⟨HB, BK139, GW139, GE139⟩ := n_; obtain ⟨hcz10_0, hcz10_1, hcz10_2, hfz10_0, hfz10_1, hfz10_2⟩ := bcs3 BK139.out) | (go_at_call 22; (with_reducible refine (culletref07_Check.calls k a0_0 _ _ l0_1 _ _ l0_2 t140 _ ?side1 ?side2 ?side3 ?side4 A3.out).mono ?_); (case side1 => exact zq5); (case side2 => exact HC0_1.out); (case side3 => exact zq6); (case side4 => exact HC0_2.out); rintro e w11 ⟨rfl, hb⟩; have n_ := as2 (blk_below (zq0 BK139.out) hb) (below_step zq23 hb); clear BK139 HB; obtain ⟨BK139, HB⟩ := n_; (try clear hb); (try clear hb2); (try clear hk); (try clear hi)))
   repeat (go_quiet (first | ((with_reducible refine gate_dst (N := 2) rfl ?_); refine box_event ?hg (N := 2) ?hd (cs := #[.int .i64 a0_0, .slice A0_1 l0_1.length c0_1, .slice A0_2 l0_2.length c0_2]) (t := 25) ?hr ?_; (case hd => rfl); (case hg => rfl); (case hr => exact zq11); intro gb139 hg w9 hbox hb; have n_ := as4 (below_step zq3 hb) (hbox) ((zq31 : w.heap.size ≤ gb139)) ((zq31 : w.heap.size ≤ gb139)); clear HB hb hbox hg; obtain ⟨HB, BK139, GW139, GE139⟩ := n_; obtain ⟨hcz10_0, hcz10_1, hcz10_2, hfz10_0, hfz10_1, hfz10_2⟩ := bcs3 BK139.out) | (go_at_call 22; (with_reducible refine (culletref07_Check.calls k a0_0 _ _ l0_1 _ _ l0_2 t140 _ ?side1 ?side2 ?side3 ?side4 A3.out).mono ?_); (case side1 => exact zq5); (case side2 => exact HC0_1.out); (case side3 => exact zq6); (case side4 => exact HC0_2.out); rintro e w11 ⟨rfl, hb⟩; have n_ := as2 (blk_below (zq0 BK139.out) hb) (below_step zq23 hb); clear BK139 HB; obtain ⟨BK139, HB⟩ := n_; (try clear hb); (try clear hb2); (try clear hk); (try clear hi))); try go_wp2_with (first | ((with_reducible refine gate_dst (N := 2) rfl ?_); refine box_event ?hg (N := 2) ?hd (cs := #[.int .i64 a0_0, .slice A0_1 l0_1.length c0_1, .slice A0_2 l0_2.length c0_2]) (t := 25) ?hr ?_; (case hd => rfl); (case hg => rfl); (case hr => exact zq11); intro gb139 hg w9 hbox hb; have n_ := as4 (below_step zq3 hb) (hbox) ((zq31 : w.heap.size ≤ gb139)) ((zq31 : w.heap.size ≤ gb139)); clear HB hb hbox hg; obtain ⟨HB, BK139, GW139, GE139⟩ := n_; obtain ⟨hcz10_0, hcz10_1, hcz10_2, hfz10_0, hfz10_1, hfz10_2⟩ := bcs3 BK139.out) | (go_at_call 22; (with_reducible refine (culletref07_Check.calls k a0_0 _ _ l0_1 _ _ l0_2 t140 _ ?side1 ?side2 ?side3 ?side4 A3.out).mono ?_); (case side1 => exact zq5); (case side2 => exact HC0_1.out); (case side3 => exact zq6); (case side4 => exact HC0_2.out); rintro e w11 ⟨rfl, hb⟩; have n_ := as2 (blk_below (zq0 BK139.out) hb) (below_step zq23 hb); clear BK139 HB; obtain ⟨BK139, HB⟩ := n_; (try clear hb); (try clear hb2); (try clear hk); (try clear hi))))
   go_loopg [6] k (fun kq v6 w' => ∃ (x6_1 : Int), v6 = .int .i64 x6_1 ∧ Aside0 (culletref07_CheckLog.l0 kq l1 x6_1 a0_0 l0_1 l0_2 = some r) ∧ Aside0 (kq ≤ k) ∧ Aside0 (w'.heap[gb139]? = some (.cells #[.int .i64 a0_0, (.slice A0_1 l0_1.length c0_1), (.slice A0_2 l0_2.length c0_2)] 25 (0, 0))) ∧ Aside0 (Below w.heap.size w w'))
   case atStart => exact ⟨(0), zq10, H', ⟨Nat.le_refl _⟩, ⟨(zq0 BK139.out)⟩, ⟨zq23⟩⟩
   case round =>
    clear H'
    try clear c1
    try clear p2
    try clear c3
    try clear c4
    try clear c4b0
    try clear c4b1
    try clear c5
    try clear c5b0
    try clear c5b1
    try clear hcz10_0 hcz10_1 hcz10_2 hfz10_0 hfz10_1 hfz10_2
    try clear hcz7_0 hcz7_1 hcz7_2 hfz7_0 hfz7_1 hfz7_2
    obtain ⟨x6_1, rfl, HA, HK1, BK139, HB⟩ := hrel
    cases gk with
    | zero => exact absurd HA.out (by simp [culletref07_CheckLog.l0])
    | succ k1 =>
     have H := HA.out
     clear HA
     simp only [culletref07_CheckLog.l0] at H
     by_cases c12 : x6_1 < (l1.length : Int)
     ·rw [if_pos c12] at H
      have c12b0 : decide (x6_1 < (l1.length : Int)) = true := decide_eq_true c12
      clear c12
      by_cases c13 : 0 ≤ x6_1
      ·rw [if_pos c13] at H
       have c13b0 : decide (0 ≤ x6_1) = true := decide_eq_true c13
       clear c13
       have HC14 := Aside0.mk H
       clear H
       have p141 : 0 ≤ (x6_1 : Int) := of_decide_eq_true zq7
       have q141 : x6_1 < (l1.length : Int) := of_decide_eq_true zq7
       obtain ⟨ad141, e141, hx141_0, hx141_1, hx141_2, hx141_3, hx141_4, hx141_5, hx141_6⟩ := at_T45 HR1.out x6_1 p141 q141
       cases e141
       replace hx141_0 := hcx HB.out hx141_0
       replace hx141_1 := hcx HB.out hx141_1
       replace hx141_2 := hcx HB.out hx141_2
       replace hx141_3 := hcx HB.out hx141_3
       replace hx141_4 := hcx HB.out hx141_4
       replace hx141_5 := hcx HB.out hx141_5
       replace hx141_6 := hcx HB.out hx141_6
       replace p141 := eq_true p141
       replace q141 := eq_true q141
       go_upto_region 10 with (first | ((with_reducible refine gate_dst (N := 7) rfl ?_); refine box_event ?hg (N := 7) ?hd (cs := #[.int .i64 0, .int .u8 0, .int .i64 0, .int .i64 0, .int .i64 0, .int .i64 0, .bool false]) (t := 45) ?hr ?_; (case hd => rfl); (case hg => rfl); (case hr => exact zq11); intro gb142 hg w15 hbox hb; have n_ := as7 (blk_below (zq0 BK139.out) hb) (below_step zq23 hb) (hbox) ((zq131 : w.heap.size ≤ gb142)) ((zq131 : w.heap.size ≤ gb142)) ((by rw [hg]; exact Nat.ne_of_lt (blk_lt (zq0 BK139.out)) : gb139 ≠ gb142)) ((by rw [hg]; exact Nat.ne_of_gt (blk_lt (zq0 BK139.out)) : gb142 ≠ gb139)); clear BK139 HB hb hbox hg; obtain ⟨BK139, HB, BK142, GW142, GE142, NB139_142, NB142_139⟩ := n_; have hnb16 := NB142_139.out; have hnc16 := NB139_142.out; obtain ⟨hcz17_0, hcz17_1, hcz17_2, hcz17_3, hcz17_4, hcz17_5, hcz17_6, hfz17_0, hfz17_1, hfz17_2, hfz17_3, hfz17_4, hfz17_5, hfz17_6⟩ := bcs7 BK142.out))
       repeat (go_quiet (first | ((with_reducible refine gate_dst (N := 7) rfl ?_); refine box_event ?hg (N := 7) ?hd (cs := #[.int .i64 0, .int .u8 0, .int .i64 0, .int .i64 0, .int .i64 0, .int .i64 0, .bool false]) (t := 45) ?hr ?_; (case hd => rfl); (case hg => rfl); (case hr => exact zq11); intro gb142 hg w15 hbox hb; have n_ := as7 (blk_below (zq0 BK139.out) hb) (below_step zq23 hb) (hbox) ((zq131 : w.heap.size ≤ gb142)) ((zq131 : w.heap.size ≤ gb142)) ((by rw [hg]; exact Nat.ne_of_lt (blk_lt (zq0 BK139.out)) : gb139 ≠ gb142)) ((by rw [hg]; exact Nat.ne_of_gt (blk_lt (zq0 BK139.out)) : gb142 ≠ gb139)); clear BK139 HB hb hbox hg; obtain ⟨BK139, HB, BK142, GW142, GE142, NB139_142, NB142_139⟩ := n_; have hnb16 := NB142_139.out; have hnc16 := NB139_142.out; obtain ⟨hcz17_0, hcz17_1, hcz17_2, hcz17_3, hcz17_4, hcz17_5, hcz17_6, hfz17_0, hfz17_1, hfz17_2, hfz17_3, hfz17_4, hfz17_5, hfz17_6⟩ := bcs7 BK142.out)); go_upto_region 10 with (first | ((with_reducible refine gate_dst (N := 7) rfl ?_); refine box_event ?hg (N := 7) ?hd (cs := #[.int .i64 0, .int .u8 0, .int .i64 0, .int .i64 0, .int .i64 0, .int .i64 0, .bool false]) (t := 45) ?hr ?_; (case hd => rfl); (case hg => rfl); (case hr => exact zq11); intro gb142 hg w15 hbox hb; have n_ := as7 (blk_below (zq0 BK139.out) hb) (below_step zq23 hb) (hbox) ((zq131 : w.heap.size ≤ gb142)) ((zq131 : w.heap.size ≤ gb142)) ((by rw [hg]; exact Nat.ne_of_lt (blk_lt (zq0 BK139.out)) : gb139 ≠ gb142)) ((by rw [hg]; exact Nat.ne_of_gt (blk_lt (zq0 BK139.out)) : gb142 ≠ gb139)); clear BK139 HB hb hbox hg; obtain ⟨BK139, HB, BK142, GW142, GE142, NB139_142, NB142_139⟩ := n_; have hnb16 := NB142_139.out; have hnc16 := NB139_142.out; obtain ⟨hcz17_0, hcz17_1, hcz17_2, hcz17_3, hcz17_4, hcz17_5, hcz17_6, hfz17_0, hfz17_1, hfz17_2, hfz17_3, hfz17_4, hfz17_5, hfz17_6⟩ := bcs7 BK142.out)))
       (try simp only [Act.put, List.setIfInBounds_toArray, List.set_cons_zero, List.set_cons_succ])
       go_cut [44] (fun v44 wc => ∃ (kq : Nat) (x44_13 : Bool), v44 = .bool x44_13 ∧ Aside0 (culletref07_CheckLog.j1 kq l1 x6_1 x44_13 a0_0 l0_1 l0_2 ((rd_T45 l1 x6_1).f0) ((rd_T45 l1 x6_1).f1) ((rd_T45 l1 x6_1).f2) ((rd_T45 l1 x6_1).f3) ((rd_T45 l1 x6_1).f4) ((rd_T45 l1 x6_1).f5) ((rd_T45 l1 x6_1).f6) = some r) ∧ Aside0 (kq ≤ k1) ∧ Aside0 (wc.heap[gb139]? = some (.cells #[.int .i64 a0_0, (.slice A0_1 l0_1.length c0_1), (.slice A0_2 l0_2.length c0_2)] 25 (0, 0))) ∧ Aside0 (wc.heap[gb142]? = some (.cells #[.int .i64 ((rd_T45 l1 x6_1).f0), .int .u8 ((rd_T45 l1 x6_1).f1), .int .i64 ((rd_T45 l1 x6_1).f2), .int .i64 ((rd_T45 l1 x6_1).f3), .int .i64 ((rd_T45 l1 x6_1).f4), .int .i64 ((rd_T45 l1 x6_1).f5), .bool ((rd_T45 l1 x6_1).f6)] 45 (0, 0))) ∧ Aside0 (Below w.heap.size w wc))
       case first =>
        have H := HC14.out
        clear HC14
        by_cases c18 : ((rd_T45 l1 x6_1).f1) = 1
        ·rw [if_pos c18] at H
         have c18b0 : (((rd_T45 l1 x6_1).f1) == 1) = true := beq_iff_eq.mpr c18
         have c18b1 : (((rd_T45 l1 x6_1).f1) != 1) = false := bne_eq_false_iff_eq.mpr c18
         clear c18
         (first | rw [c18b0] | (simp only [i64_w, i32_w]; rw [c18b0]) | skip)
         by_cases c19 : ((rd_T45 l1 x6_1).f0) < 0
         ·rw [if_pos c19] at H
          have c19b0 : decide (((rd_T45 l1 x6_1).f0) < 0) = true := decide_eq_true c19
          clear c19
          have H' := Aside0.mk H
          clear H
          have hnb20 := NB142_139.out
          have hnc20 := NB139_142.out
          obtain ⟨hcz21_0, hcz21_1, hcz21_2, hcz21_3, hcz21_4, hcz21_5, hcz21_6, hfz21_0, hfz21_1, hfz21_2, hfz21_3, hfz21_4, hfz21_5, hfz21_6⟩ := bcs7 BK142.out
          go_wp2
          repeat (go_quiet (fail); try go_wp2)
          go_meet
          case rel => exact ⟨_, (true), zq10, H', ⟨zq57⟩, ⟨(bch1 NB139_142.out BK139.out)⟩, ⟨(bch0p BK142.out)⟩, ⟨zq28⟩⟩
         ·rw [if_neg c19] at H
          have c19b0 : decide (((rd_T45 l1 x6_1).f0) < 0) = false := decide_eq_false c19
          clear c19
          have H' := Aside0.mk H
          clear H
          have hnb22 := NB142_139.out
          have hnc22 := NB139_142.out
          obtain ⟨hcz23_0, hcz23_1, hcz23_2, hcz23_3, hcz23_4, hcz23_5, hcz23_6, hfz23_0, hfz23_1, hfz23_2, hfz23_3, hfz23_4, hfz23_5, hfz23_6⟩ := bcs7 BK142.out
          go_wp2
          repeat (go_quiet (fail); try go_wp2)
          go_meet
          case rel => exact ⟨_, (decide (((rd_T45 l1 x6_1).f0) > 1000000000)), zq10, H', ⟨zq57⟩, ⟨(bch1 NB139_142.out BK139.out)⟩, ⟨(bch0p BK142.out)⟩, ⟨zq28⟩⟩
        ·rw [if_neg c18] at H
         have c18b0 : (((rd_T45 l1 x6_1).f1) == 1) = false := beq_eq_false_iff_ne.mpr c18
         have c18b1 : (((rd_T45 l1 x6_1).f1) != 1) = true := bne_iff_ne.mpr c18
         (first | rw [c18b0] | (simp only [i64_w, i32_w]; rw [c18b0]) | skip)
         by_cases c24 : ((rd_T45 l1 x6_1).f1) = 2
         ·rw [if_pos c24] at H
          have c24b0 : (((rd_T45 l1 x6_1).f1) == 2) = true := beq_iff_eq.mpr c24
          have c24b1 : (((rd_T45 l1 x6_1).f1) != 2) = false := bne_eq_false_iff_eq.mpr c24
          clear c24
          by_cases c25 : ((rd_T45 l1 x6_1).f0) < 0
          ·rw [if_pos c25] at H
           have c25b0 : decide (((rd_T45 l1 x6_1).f0) < 0) = true := decide_eq_true c25
           clear c25
           have H' := Aside0.mk H
           clear H
           have hnb26 := NB142_139.out
           have hnc26 := NB139_142.out
           obtain ⟨hcz27_0, hcz27_1, hcz27_2, hcz27_3, hcz27_4, hcz27_5, hcz27_6, hfz27_0, hfz27_1, hfz27_2, hfz27_3, hfz27_4, hfz27_5, hfz27_6⟩ := bcs7 BK142.out
           go_wp2
           repeat (go_quiet (fail); try go_wp2)
           go_meet
           case rel => exact ⟨_, (true), zq10, H', ⟨zq57⟩, ⟨(bch1 NB139_142.out BK139.out)⟩, ⟨(bch0p BK142.out)⟩, ⟨zq28⟩⟩
          ·rw [if_neg c25] at H
           have c25b0 : decide (((rd_T45 l1 x6_1).f0) < 0) = false := decide_eq_false c25
           clear c25
           have H' := Aside0.mk H
           clear H
           have hnb28 := NB142_139.out
           have hnc28 := NB139_142.out
           obtain ⟨hcz29_0, hcz29_1, hcz29_2, hcz29_3, hcz29_4, hcz29_5, hcz29_6, hfz29_0, hfz29_1, hfz29_2, hfz29_3, hfz29_4, hfz29_5, hfz29_6⟩ := bcs7 BK142.out
           go_wp2
           repeat (go_quiet (fail); try go_wp2)
           go_meet
           case rel => exact ⟨_, (decide (((rd_T45 l1 x6_1).f0) > 1000000000)), zq10, H', ⟨zq57⟩, ⟨(bch1 NB139_142.out BK139.out)⟩, ⟨(bch0p BK142.out)⟩, ⟨zq28⟩⟩
         ·rw [if_neg c24] at H
          have c24b0 : (((rd_T45 l1 x6_1).f1) == 2) = false := beq_eq_false_iff_ne.mpr c24
          have c24b1 : (((rd_T45 l1 x6_1).f1) != 2) = true := bne_iff_ne.mpr c24
          have H' := Aside0.mk H
          clear H
          have hnb30 := NB142_139.out
          have hnc30 := NB139_142.out
          obtain ⟨hcz31_0, hcz31_1, hcz31_2, hcz31_3, hcz31_4, hcz31_5, hcz31_6, hfz31_0, hfz31_1, hfz31_2, hfz31_3, hfz31_4, hfz31_5, hfz31_6⟩ := bcs7 BK142.out
          go_wp2
          repeat (go_quiet (fail); try go_wp2)
          go_meet
          case rel => exact ⟨_, (true), zq10, H', ⟨zq57⟩, ⟨(bch1 NB139_142.out BK139.out)⟩, ⟨(bch0p BK142.out)⟩, ⟨zq28⟩⟩
       case rest =>
        clear HC14
        try clear c1
        try clear p1
        try clear q1
        try clear hx1
        try clear c2
        try clear p2 p2
        try clear c3
        try clear c4
        try clear c4b0
        try clear c4b1
        try clear c5
        try clear c5b0
        try clear c5b1
        try clear c12
        try clear c12b0
        try clear c13
        try clear c13b0
        try clear p14
        try clear q14
        try clear hx14
        try clear c16
        try clear c18
        try clear c18b0
        try clear c18b1
        try clear c19
        try clear c19b0
        try clear c20
        try clear c22
        try clear c24
        try clear c24b0
        try clear c24b1
        try clear c25
        try clear c25b0
        try clear c26
        try clear c28
        try clear c30
        try clear hcz10_0 hcz10_1 hcz10_2 hfz10_0 hfz10_1 hfz10_2
        try clear hcz17_0 hcz17_1 hcz17_2 hcz17_3 hcz17_4 hcz17_5 hcz17_6 hfz17_0 hfz17_1 hfz17_2 hfz17_3 hfz17_4 hfz17_5 hfz17_6
        try clear hcz21_0 hcz21_1 hcz21_2 hcz21_3 hcz21_4 hcz21_5 hcz21_6 hfz21_0 hfz21_1 hfz21_2 hfz21_3 hfz21_4 hfz21_5 hfz21_6
        try clear hcz23_0 hcz23_1 hcz23_2 hcz23_3 hcz23_4 hcz23_5 hcz23_6 hfz23_0 hfz23_1 hfz23_2 hfz23_3 hfz23_4 hfz23_5 hfz23_6
        try clear hcz27_0 hcz27_1 hcz27_2 hcz27_3 hcz27_4 hcz27_5 hcz27_6 hfz27_0 hfz27_1 hfz27_2 hfz27_3 hfz27_4 hfz27_5 hfz27_6
        try clear hcz29_0 hcz29_1 hcz29_2 hcz29_3 hcz29_4 hcz29_5 hcz29_6 hfz29_0 hfz29_1 hfz29_2 hfz29_3 hfz29_4 hfz29_5 hfz29_6
        try clear hcz31_0 hcz31_1 hcz31_2 hcz31_3 hcz31_4 hcz31_5 hcz31_6 hfz31_0 hfz31_1 hfz31_2 hfz31_3 hfz31_4 hfz31_5 hfz31_6
        try clear hcz7_0 hcz7_1 hcz7_2 hfz7_0 hfz7_1 hfz7_2
        try clear hx141_0
        try clear hx141_1
        try clear hx141_2
        try clear hx141_3
        try clear hx141_4
        try clear hx141_5
        try clear hx141_6
        try clear p141
        try clear q141
        obtain ⟨kq, x44_13, rfl, HA, HJ13, BK139, BK142, HB⟩ := hcut
        cases kq with
        | zero => exact absurd HA.out (by simp [culletref07_CheckLog.j1])
        | succ kj13 =>
         have H := HA.out
         clear HA
         simp only [culletref07_CheckLog.j1] at H
         by_cases c32 : x44_13 = true
         ·subst c32
          have H1 : (some 1) = some r := by rw [if_pos rfl] at H; exact H
          clear H
          have H := H1
          clear H1
          obtain rfl := Option.some.inj H
          go_wp2
          repeat (go_quiet (fail); try go_wp2)
          go_ret
          exact ⟨zq9, zq28⟩
         ·replace c32 := Bool.eq_false_iff.mpr c32
          subst c32
          have H1 : (if x6_1 > 0 then (if 0 ≤ (wrap64 (x6_1 - 1)) then (if (wrap64 (x6_1 - 1)) < (l1.length : Int) then (culletref07_CheckLog.j2 kj13 l1 x6_1 (decide (((rd_T45 l1 (wrap64 (x6_1 - 1))).f0) > ((rd_T45 l1 x6_1).f0))) a0_0 l0_1 l0_2 ((rd_T45 l1 x6_1).f0) ((rd_T45 l1 x6_1).f1) ((rd_T45 l1 x6_1).f2) ((rd_T45 l1 x6_1).f3) ((rd_T45 l1 x6_1).f4) ((rd_T45 l1 x6_1).f5) ((rd_T45 l1 x6_1).f6)) else (none)) else (none)) else (culletref07_CheckLog.j2 kj13 l1 x6_1 false a0_0 l0_1 l0_2 ((rd_T45 l1 x6_1).f0) ((rd_T45 l1 x6_1).f1) ((rd_T45 l1 x6_1).f2) ((rd_T45 l1 x6_1).f3) ((rd_T45 l1 x6_1).f4) ((rd_T45 l1 x6_1).f5) ((rd_T45 l1 x6_1).f6))) = some r := by rw [if_neg (show ¬ (false = true) by decide)] at H; exact H
          clear H
          have H := H1
          clear H1
          have HC33 := Aside0.mk H
          clear H
          go_upto_region 12 with (fail)
          repeat (go_quiet (fail); go_upto_region 12 with (fail))
          go_cut [57] (fun v57 wc => ∃ (kq : Nat) (x57_32 : Bool), v57 = .bool x57_32 ∧ Aside0 (culletref07_CheckLog.j2 kq l1 x6_1 x57_32 a0_0 l0_1 l0_2 ((rd_T45 l1 x6_1).f0) ((rd_T45 l1 x6_1).f1) ((rd_T45 l1 x6_1).f2) ((rd_T45 l1 x6_1).f3) ((rd_T45 l1 x6_1).f4) ((rd_T45 l1 x6_1).f5) ((rd_T45 l1 x6_1).f6) = some r) ∧ Aside0 (kq ≤ kj13) ∧ Aside0 (wc.heap[gb139]? = some (.cells #[.int .i64 a0_0, (.slice A0_1 l0_1.length c0_1), (.slice A0_2 l0_2.length c0_2)] 25 (0, 0))) ∧ Aside0 (wc.heap[gb142]? = some (.cells #[.int .i64 ((rd_T45 l1 x6_1).f0), .int .u8 ((rd_T45 l1 x6_1).f1), .int .i64 ((rd_T45 l1 x6_1).f2), .int .i64 ((rd_T45 l1 x6_1).f3), .int .i64 ((rd_T45 l1 x6_1).f4), .int .i64 ((rd_T45 l1 x6_1).f5), .bool ((rd_T45 l1 x6_1).f6)] 45 (0, 0))) ∧ Aside0 (Below w.heap.size w wc))
          case first =>
           have H := HC33.out
           clear HC33
           by_cases c34 : x6_1 > 0
           ·rw [if_pos c34] at H
            have c34b0 : decide (0 < x6_1) = true := decide_eq_true c34
            clear c34
            (first | rw [c34b0] | (simp only [i64_w, i32_w]; rw [c34b0]) | skip)
            obtain ⟨ji35, hji35⟩ : ∃ j_ : Int, (wrap64 (x6_1 - 1)) = j_ := ⟨_, rfl⟩
            replace H : (if 0 ≤ (ji35) then (if (ji35) < (l1.length : Int) then (culletref07_CheckLog.j2 kj13 l1 x6_1 (decide (((rd_T45 l1 (ji35)).f0) > ((rd_T45 l1 x6_1).f0))) a0_0 l0_1 l0_2 ((rd_T45 l1 x6_1).f0) ((rd_T45 l1 x6_1).f1) ((rd_T45 l1 x6_1).f2) ((rd_T45 l1 x6_1).f3) ((rd_T45 l1 x6_1).f4) ((rd_T45 l1 x6_1).f5) ((rd_T45 l1 x6_1).f6)) else (none)) else (none)) = some r := by first | (rw [hji35] at H; exact H) | (simp only [hji35] at H ⊢; exact H)
            have hji35w : (IntKind.i64.wrap (x6_1 - 1)) = ji35 := (i64_w _).trans hji35
            by_cases c36 : 0 ≤ (ji35)
            ·rw [if_pos c36] at H
             have c36b0 : decide (0 ≤ (ji35)) = true := decide_eq_true c36
             clear c36
             by_cases c37 : (ji35) < (l1.length : Int)
             ·rw [if_pos c37] at H
              have c37b0 : decide ((ji35) < (l1.length : Int)) = true := decide_eq_true c37
              clear c37
              have H' := Aside0.mk H
              clear H
              have p143 : 0 ≤ ((ji35) : Int) := of_decide_eq_true zq7
              have q143 : (ji35) < (l1.length : Int) := of_decide_eq_true zq7
              obtain ⟨ad143, e143, hx143_0, hx143_1, hx143_2, hx143_3, hx143_4, hx143_5, hx143_6⟩ := at_T45 HR1.out (ji35) p143 q143
              obtain rfl : ad141 = ad143 := (by injection e143)
              replace hx143_0 := hcx HB.out hx143_0
              replace hx143_1 := hcx HB.out hx143_1
              replace hx143_2 := hcx HB.out hx143_2
              replace hx143_3 := hcx HB.out hx143_3
              replace hx143_4 := hcx HB.out hx143_4
              replace hx143_5 := hcx HB.out hx143_5
              replace hx143_6 := hcx HB.out hx143_6
              replace p143 := eq_true p143
              replace q143 := eq_true q143
              have hnb38 := NB142_139.out
              have hnc38 := NB139_142.out
              obtain ⟨hcz39_0, hcz39_1, hcz39_2, hcz39_3, hcz39_4, hcz39_5, hcz39_6, hfz39_0, hfz39_1, hfz39_2, hfz39_3, hfz39_4, hfz39_5, hfz39_6⟩ := bcs7 BK142.out
              go_wp2
              repeat (go_quiet (fail); try go_wp2)
              go_meet
              case rel => exact ⟨_, (decide (((rd_T45 l1 (ji35)).f0) > ((rd_T45 l1 x6_1).f0))), (by first | rfl | (simp; done) | (simp only [← hji35] <;> (first | rfl | simp)) | (simp [*]; done)), H', ⟨by have := HK1.out; have := HJ13.out; first | omega | exact Nat.le_refl _⟩, ⟨(zq0 BK139.out)⟩, ⟨(zq0 BK142.out)⟩, ⟨zq28⟩⟩
             ·rw [if_neg c37] at H
              exact absurd H zq63
            ·rw [if_neg c36] at H
             exact absurd H zq63
           ·rw [if_neg c34] at H
            have c34b0 : decide (0 < x6_1) = false := decide_eq_false c34
            clear c34
            (first | rw [c34b0] | (simp only [i64_w, i32_w]; rw [c34b0]) | skip)
            have H' := Aside0.mk H
            clear H
            go_wp2
            repeat (go_quiet (fail); try go_wp2)
            go_meet
            case rel => exact ⟨_, (false), zq10, H', ⟨by have := HK1.out; have := HJ13.out; first | omega | exact Nat.le_refl _⟩, ⟨(zq0 BK139.out)⟩, ⟨(zq0 BK142.out)⟩, ⟨zq28⟩⟩
          case rest =>
           clear HC33
           try clear c1
           try clear p1 p1
           try clear q1 q1
           try clear hx1
           try clear c2
           try clear p2 p2
           try clear c3
           try clear c4
           try clear c4b0
           try clear c4b1
           try clear c5
           try clear c5b0
           try clear c5b1
           try clear p6
           try clear c12
           try clear c12b0
           try clear c13
           try clear c13b0
           try clear p14 p14
           try clear q14 q14
           try clear hx14
           try clear c16
           try clear c18
           try clear c18b0
           try clear c18b1
           try clear c19
           try clear c19b0
           try clear c20
           try clear c22
           try clear c24
           try clear c24b0
           try clear c24b1
           try clear c25
           try clear c25b0
           try clear c26
           try clear c28
           try clear c30
           try clear c32
           try clear c34
           try clear c34b0
           try clear c36
           try clear c36b0
           try clear c37
           try clear c37b0
           try clear c38
           try clear hcz10_0 hcz10_1 hcz10_2 hfz10_0 hfz10_1 hfz10_2
           try clear hcz17_0 hcz17_1 hcz17_2 hcz17_3 hcz17_4 hcz17_5 hcz17_6 hfz17_0 hfz17_1 hfz17_2 hfz17_3 hfz17_4 hfz17_5 hfz17_6
           try clear hcz21_0 hcz21_1 hcz21_2 hcz21_3 hcz21_4 hcz21_5 hcz21_6 hfz21_0 hfz21_1 hfz21_2 hfz21_3 hfz21_4 hfz21_5 hfz21_6
           try clear hcz23_0 hcz23_1 hcz23_2 hcz23_3 hcz23_4 hcz23_5 hcz23_6 hfz23_0 hfz23_1 hfz23_2 hfz23_3 hfz23_4 hfz23_5 hfz23_6
           try clear hcz27_0 hcz27_1 hcz27_2 hcz27_3 hcz27_4 hcz27_5 hcz27_6 hfz27_0 hfz27_1 hfz27_2 hfz27_3 hfz27_4 hfz27_5 hfz27_6
           try clear hcz29_0 hcz29_1 hcz29_2 hcz29_3 hcz29_4 hcz29_5 hcz29_6 hfz29_0 hfz29_1 hfz29_2 hfz29_3 hfz29_4 hfz29_5 hfz29_6
           try clear hcz31_0 hcz31_1 hcz31_2 hcz31_3 hcz31_4 hcz31_5 hcz31_6 hfz31_0 hfz31_1 hfz31_2 hfz31_3 hfz31_4 hfz31_5 hfz31_6
           try clear hcz39_0 hcz39_1 hcz39_2 hcz39_3 hcz39_4 hcz39_5 hcz39_6 hfz39_0 hfz39_1 hfz39_2 hfz39_3 hfz39_4 hfz39_5 hfz39_6
           try clear hcz7_0 hcz7_1 hcz7_2 hfz7_0 hfz7_1 hfz7_2
           try clear hx141_0
           try clear hx141_1
           try clear hx141_2
           try clear hx141_3
           try clear hx141_4
           try clear hx141_5
           try clear hx141_6
           try clear hx143_0
           try clear hx143_1
           try clear hx143_2
           try clear hx143_3
           try clear hx143_4
           try clear hx143_5
           try clear hx143_6
           try clear p141
           try clear p143
           try clear q141
           try clear q143
           obtain ⟨kq, x57_32, rfl, HA, HJ32, BK139, BK142, HB⟩ := hcut
           cases kq with
           | zero => exact absurd HA.out (by simp [culletref07_CheckLog.j2])
           | succ kj32 =>
            have H := HA.out
            clear HA
            simp only [culletref07_CheckLog.j2] at H
            by_cases c40 : x57_32 = true
            ·subst c40
             have H1 : (some 8) = some r := by rw [if_pos rfl] at H; exact H
             clear H
             have H := H1
             clear H1
             obtain rfl := Option.some.inj H
             go_wp2
             repeat (go_quiet (fail); try go_wp2)
             go_ret
             exact ⟨zq9, zq28⟩
            ·replace c40 := Bool.eq_false_iff.mpr c40
             subst c40
             have H1 : ((culletref07_checkRun.f kj32 a0_0 l0_1 l0_2 ((rd_T45 l1 x6_1).f0) ((rd_T45 l1 x6_1).f1) ((rd_T45 l1 x6_1).f2) ((rd_T45 l1 x6_1).f3) ((rd_T45 l1 x6_1).f4) ((rd_T45 l1 x6_1).f5) ((rd_T45 l1 x6_1).f6)).bind fun t144 => (if t144 = 0 then (culletref07_CheckLog.l0 kj32 l1 (wrap64 (x6_1 + 1)) a0_0 l0_1 l0_2) else (some t144))) = some r := by rw [if_neg (show ¬ (false = true) by decide)] at H; exact H
             clear H
             have H := H1
             clear H1
             replace H := Option.bind_eq_some_iff.mp H
             obtain ⟨t144, A410, H⟩ := H
             replace H : (if t144 = 0 then (culletref07_CheckLog.l0 kj32 l1 (wrap64 (x6_1 + 1)) a0_0 l0_1 l0_2) else (some t144)) = some r := H
             have A41 := Aside0.mk A410
             clear A410
             by_cases c42 : t144 = 0
             ·rw [if_pos c42] at H
              have c42b0 : (t144 == 0) = true := beq_iff_eq.mpr c42
              have c42b1 : (t144 != 0) = false := bne_eq_false_iff_eq.mpr c42
              clear c42
              have H' := Aside0.mk H
              clear H
              have hnb43 := NB139_142.out
              have hnc43 := NB142_139.out
              obtain ⟨hcz44_0, hcz44_1, hcz44_2, hfz44_0, hfz44_1, hfz44_2⟩ := bcs3 BK139.out
              obtain ⟨hcz45_0, hcz45_1, hcz45_2, hcz45_3, hcz45_4, hcz45_5, hcz45_6, hfz45_0, hfz45_1, hfz45_2, hfz45_3, hfz45_4, hfz45_5, hfz45_6⟩ := bcs7 BK142.out
              go_wp2_with (first | (go_at_call 61; (with_reducible refine (culletref07_checkRun.calls kj32 a0_0 _ _ l0_1 _ _ l0_2 ((rd_T45 l1 x6_1).f0) ((rd_T45 l1 x6_1).f1) ((rd_T45 l1 x6_1).f2) ((rd_T45 l1 x6_1).f3) ((rd_T45 l1 x6_1).f4) ((rd_T45 l1 x6_1).f5) ((rd_T45 l1 x6_1).f6) t144 _ ?side1 ?side2 ?side3 ?side4 A41.out).mono ?_); (case side1 => exact zq5); (case side2 => exact HC0_1.out); (case side3 => exact zq6); (case side4 => exact HC0_2.out); rintro e w46 ⟨rfl, hb⟩; have n_ := as3 (blk_below (zq0 BK139.out) hb) (blk_below (zq0 BK142.out) hb) (below_step zq28 hb); clear BK139 BK142 HB; obtain ⟨BK139, BK142, HB⟩ := n_; (try clear hb); (try clear hb2); (try clear hk); (try clear hi)))
              repeat (go_quiet (first | (go_at_call 61; (with_reducible refine (culletref07_checkRun.calls kj32 a0_0 _ _ l0_1 _ _ l0_2 ((rd_T45 l1 x6_1).f0) ((rd_T45 l1 x6_1).f1) ((rd_T45 l1 x6_1).f2) ((rd_T45 l1 x6_1).f3) ((rd_T45 l1 x6_1).f4) ((rd_T45 l1 x6_1).f5) ((rd_T45 l1 x6_1).f6) t144 _ ?side1 ?side2 ?side3 ?side4 A41.out).mono ?_); (case side1 => exact zq5); (case side2 => exact HC0_1.out); (case side3 => exact zq6); (case side4 => exact HC0_2.out); rintro e w46 ⟨rfl, hb⟩; have n_ := as3 (blk_below (zq0 BK139.out) hb) (blk_below (zq0 BK142.out) hb) (below_step zq28 hb); clear BK139 BK142 HB; obtain ⟨BK139, BK142, HB⟩ := n_; (try clear hb); (try clear hb2); (try clear hk); (try clear hi))); try go_wp2_with (first | (go_at_call 61; (with_reducible refine (culletref07_checkRun.calls kj32 a0_0 _ _ l0_1 _ _ l0_2 ((rd_T45 l1 x6_1).f0) ((rd_T45 l1 x6_1).f1) ((rd_T45 l1 x6_1).f2) ((rd_T45 l1 x6_1).f3) ((rd_T45 l1 x6_1).f4) ((rd_T45 l1 x6_1).f5) ((rd_T45 l1 x6_1).f6) t144 _ ?side1 ?side2 ?side3 ?side4 A41.out).mono ?_); (case side1 => exact zq5); (case side2 => exact HC0_1.out); (case side3 => exact zq6); (case side4 => exact HC0_2.out); rintro e w46 ⟨rfl, hb⟩; have n_ := as3 (blk_below (zq0 BK139.out) hb) (blk_below (zq0 BK142.out) hb) (below_step zq28 hb); clear BK139 BK142 HB; obtain ⟨BK139, BK142, HB⟩ := n_; (try clear hb); (try clear hb2); (try clear hk); (try clear hi))))
              go_roundg kj32
              case measure => have := HK1.out; have := HJ13.out; have := HJ32.out; omega
              case rel => exact ⟨(wrap64 (x6_1 + 1)), zq10, H', ⟨by have := HK1.out; have := HJ13.out; have := HJ32.out; omega⟩, ⟨(zq0 BK139.out)⟩, ⟨zq28⟩⟩
             ·rw [if_neg c42] at H
              have c42b0 : (t144 == 0) = false := beq_eq_false_iff_ne.mpr c42
              have c42b1 : (t144 != 0) = true := bne_iff_ne.mpr c42
              obtain rfl := Option.some.inj H
              have hnb47 := NB139_142.out
              have hnc47 := NB142_139.out
              obtain ⟨hcz48_0, hcz48_1, hcz48_2, hfz48_0, hfz48_1, hfz48_2⟩ := bcs3 BK139.out
              obtain ⟨hcz49_0, hcz49_1, hcz49_2, hcz49_3, hcz49_4, hcz49_5, hcz49_6, hfz49_0, hfz49_1, hfz49_2, hfz49_3, hfz49_4, hfz49_5, hfz49_6⟩ := bcs7 BK142.out
              go_wp2_with (first | (go_at_call 61; (with_reducible refine (culletref07_checkRun.calls kj32 a0_0 _ _ l0_1 _ _ l0_2 ((rd_T45 l1 x6_1).f0) ((rd_T45 l1 x6_1).f1) ((rd_T45 l1 x6_1).f2) ((rd_T45 l1 x6_1).f3) ((rd_T45 l1 x6_1).f4) ((rd_T45 l1 x6_1).f5) ((rd_T45 l1 x6_1).f6) t144 _ ?side1 ?side2 ?side3 ?side4 A41.out).mono ?_); (case side1 => exact zq5); (case side2 => exact HC0_1.out); (case side3 => exact zq6); (case side4 => exact HC0_2.out); rintro e w50 ⟨rfl, hb⟩; have n_ := as3 (blk_below (zq0 BK139.out) hb) (blk_below (zq0 BK142.out) hb) (below_step zq28 hb); clear BK139 BK142 HB; obtain ⟨BK139, BK142, HB⟩ := n_; (try clear hb); (try clear hb2); (try clear hk); (try clear hi)))
              repeat (go_quiet (first | (go_at_call 61; (with_reducible refine (culletref07_checkRun.calls kj32 a0_0 _ _ l0_1 _ _ l0_2 ((rd_T45 l1 x6_1).f0) ((rd_T45 l1 x6_1).f1) ((rd_T45 l1 x6_1).f2) ((rd_T45 l1 x6_1).f3) ((rd_T45 l1 x6_1).f4) ((rd_T45 l1 x6_1).f5) ((rd_T45 l1 x6_1).f6) t144 _ ?side1 ?side2 ?side3 ?side4 A41.out).mono ?_); (case side1 => exact zq5); (case side2 => exact HC0_1.out); (case side3 => exact zq6); (case side4 => exact HC0_2.out); rintro e w50 ⟨rfl, hb⟩; have n_ := as3 (blk_below (zq0 BK139.out) hb) (blk_below (zq0 BK142.out) hb) (below_step zq28 hb); clear BK139 BK142 HB; obtain ⟨BK139, BK142, HB⟩ := n_; (try clear hb); (try clear hb2); (try clear hk); (try clear hi))); try go_wp2_with (first | (go_at_call 61; (with_reducible refine (culletref07_checkRun.calls kj32 a0_0 _ _ l0_1 _ _ l0_2 ((rd_T45 l1 x6_1).f0) ((rd_T45 l1 x6_1).f1) ((rd_T45 l1 x6_1).f2) ((rd_T45 l1 x6_1).f3) ((rd_T45 l1 x6_1).f4) ((rd_T45 l1 x6_1).f5) ((rd_T45 l1 x6_1).f6) t144 _ ?side1 ?side2 ?side3 ?side4 A41.out).mono ?_); (case side1 => exact zq5); (case side2 => exact HC0_1.out); (case side3 => exact zq6); (case side4 => exact HC0_2.out); rintro e w50 ⟨rfl, hb⟩; have n_ := as3 (blk_below (zq0 BK139.out) hb) (blk_below (zq0 BK142.out) hb) (below_step zq28 hb); clear BK139 BK142 HB; obtain ⟨BK139, BK142, HB⟩ := n_; (try clear hb); (try clear hb2); (try clear hk); (try clear hi))))
              go_ret
              exact ⟨zq9, zq28⟩
      ·rw [if_neg c13] at H
       exact absurd H zq63
     ·rw [if_neg c12] at H
      have c12b0 : decide (x6_1 < (l1.length : Int)) = false := decide_eq_false c12
      clear c12
      obtain rfl := Option.some.inj H
      go_wp2
      repeat (go_quiet (fail); try go_wp2)
      go_ret
      exact ⟨zq9, zq23⟩
 ·rw [if_neg c4] at H
  have c4b0 : (t140 == 0) = false := beq_eq_false_iff_ne.mpr c4
  have c4b1 : (t140 != 0) = true := bne_iff_ne.mpr c4
  obtain rfl := Option.some.inj H
  go_enter Try.func34, Try.ntmps34
  go_wp2_with (first | ((with_reducible refine gate_dst (N := 2) rfl ?_); refine box_event ?hg (N := 2) ?hd (cs := #[.int .i64 a0_0, .slice A0_1 l0_1.length c0_1, .slice A0_2 l0_2.length c0_2]) (t := 25) ?hr ?_; (case hd => rfl); (case hg => rfl); (case hr => exact zq11); intro gb139 hg w51 hbox hb; have n_ := as4 (below_step zq3 hb) (hbox) ((zq31 : w.heap.size ≤ gb139)) ((zq31 : w.heap.size ≤ gb139)); clear HB hb hbox hg; obtain ⟨HB, BK139, GW139, GE139⟩ := n_; obtain ⟨hcz52_0, hcz52_1, hcz52_2, hfz52_0, hfz52_1, hfz52_2⟩ := bcs3 BK139.out) | (go_at_call 22; (with_reducible refine (culletref07_Check.calls k a0_0 _ _ l0_1 _ _ l0_2 t140 _ ?side1 ?side2 ?side3 ?side4 A3.out).mono ?_); (case side1 => exact zq5); (case side2 => exact HC0_1.out); (case side3 => exact zq6); (case side4 => exact HC0_2.out); rintro e w53 ⟨rfl, hb⟩; have n_ := as2 (blk_below (zq0 BK139.out) hb) (below_step zq23 hb); clear BK139 HB; obtain ⟨BK139, HB⟩ := n_; (try clear hb); (try clear hb2); (try clear hk); (try clear hi)))
  repeat (go_quiet (first | ((with_reducible refine gate_dst (N := 2) rfl ?_); refine box_event ?hg (N := 2) ?hd (cs := #[.int .i64 a0_0, .slice A0_1 l0_1.length c0_1, .slice A0_2 l0_2.length c0_2]) (t := 25) ?hr ?_; (case hd => rfl); (case hg => rfl); (case hr => exact zq11); intro gb139 hg w51 hbox hb; have n_ := as4 (below_step zq3 hb) (hbox) ((zq31 : w.heap.size ≤ gb139)) ((zq31 : w.heap.size ≤ gb139)); clear HB hb hbox hg; obtain ⟨HB, BK139, GW139, GE139⟩ := n_; obtain ⟨hcz52_0, hcz52_1, hcz52_2, hfz52_0, hfz52_1, hfz52_2⟩ := bcs3 BK139.out) | (go_at_call 22; (with_reducible refine (culletref07_Check.calls k a0_0 _ _ l0_1 _ _ l0_2 t140 _ ?side1 ?side2 ?side3 ?side4 A3.out).mono ?_); (case side1 => exact zq5); (case side2 => exact HC0_1.out); (case side3 => exact zq6); (case side4 => exact HC0_2.out); rintro e w53 ⟨rfl, hb⟩; have n_ := as2 (blk_below (zq0 BK139.out) hb) (below_step zq23 hb); clear BK139 HB; obtain ⟨BK139, HB⟩ := n_; (try clear hb); (try clear hb2); (try clear hk); (try clear hi))); try go_wp2_with (first | ((with_reducible refine gate_dst (N := 2) rfl ?_); refine box_event ?hg (N := 2) ?hd (cs := #[.int .i64 a0_0, .slice A0_1 l0_1.length c0_1, .slice A0_2 l0_2.length c0_2]) (t := 25) ?hr ?_; (case hd => rfl); (case hg => rfl); (case hr => exact zq11); intro gb139 hg w51 hbox hb; have n_ := as4 (below_step zq3 hb) (hbox) ((zq31 : w.heap.size ≤ gb139)) ((zq31 : w.heap.size ≤ gb139)); clear HB hb hbox hg; obtain ⟨HB, BK139, GW139, GE139⟩ := n_; obtain ⟨hcz52_0, hcz52_1, hcz52_2, hfz52_0, hfz52_1, hfz52_2⟩ := bcs3 BK139.out) | (go_at_call 22; (with_reducible refine (culletref07_Check.calls k a0_0 _ _ l0_1 _ _ l0_2 t140 _ ?side1 ?side2 ?side3 ?side4 A3.out).mono ?_); (case side1 => exact zq5); (case side2 => exact HC0_1.out); (case side3 => exact zq6); (case side4 => exact HC0_2.out); rintro e w53 ⟨rfl, hb⟩; have n_ := as2 (blk_below (zq0 BK139.out) hb) (below_step zq23 hb); clear BK139 HB; obtain ⟨BK139, HB⟩ := n_; (try clear hb); (try clear hb2); (try clear hk); (try clear hi))))
  go_ret
  exact ⟨zq9, zq23⟩
mutual
def culletref07_trusted.l0 : Nat → List (S45) → Int → Int → Int → Int → Int → Int → Int → List (S58) → List (S56) → Option (Int)
 | 0, _, _, _, _, _, _, _, _, _, _ => none
 | k + 1, x1, x2, x3, x4, x13, x14, x15, x146000, x146001, x146002 => if x15 < (x1.length : Int) then (if 0 ≤ x15 then (if ((rd_T45 x1 x15).f1) = 2 then (if ((rd_T45 x1 x15).f4) = x2 then (culletref07_trusted.j1 k x1 x2 x3 x4 x13 x14 x15 (((rd_T45 x1 x15).f5) != x3) x146000 x146001 x146002) else (culletref07_trusted.j1 k x1 x2 x3 x4 x13 x14 x15 true x146000 x146001 x146002)) else (culletref07_trusted.j1 k x1 x2 x3 x4 x13 x14 x15 true x146000 x146001 x146002)) else (none)) else (if x13 < 0 then (culletref07_trusted.j2 k x1 x13 x14 true x146000 x146001 x146002) else (if 0 ≤ x13 then (if x13 < (x1.length : Int) then (culletref07_trusted.j2 k x1 x13 x14 (!((rd_T45 x1 x13).f6)) x146000 x146001 x146002) else (none)) else (none)))
def culletref07_trusted.j1 : Nat → List (S45) → Int → Int → Int → Int → Int → Int → Bool → Int → List (S58) → List (S56) → Option (Int)
 | 0, _, _, _, _, _, _, _, _, _, _, _ => none
 | k + 1, x1, x2, x3, x4, x13, x14, x15, x54, x146000, x146001, x146002 => if x54 = true then (culletref07_trusted.l0 k x1 x2 x3 x4 x13 x14 (wrap64 (x15 + 1)) x146000 x146001 x146002) else (if x15 < x4 then (culletref07_trusted.l0 k x1 x2 x3 x4 x15 x14 (wrap64 (x15 + 1)) x146000 x146001 x146002) else (if x14 < 0 then (culletref07_trusted.l0 k x1 x2 x3 x4 x13 x15 (wrap64 (x15 + 1)) x146000 x146001 x146002) else (culletref07_trusted.l0 k x1 x2 x3 x4 x13 x14 (wrap64 (x15 + 1)) x146000 x146001 x146002)))
def culletref07_trusted.j2 : Nat → List (S45) → Int → Int → Bool → Int → List (S58) → List (S56) → Option (Int)
 | 0, _, _, _, _, _, _, _ => none
 | k + 1, x1, x13, x14, x71, x146000, x146001, x146002 => if x71 = true then (some 2) else (if x14 < 0 then (if 0 ≤ (wrap64 ((x1.length : Int) - 1)) then (if (wrap64 ((x1.length : Int) - 1)) < (x1.length : Int) then (if 0 ≤ x13 then (if x13 < (x1.length : Int) then (if (wrap64 (((rd_T45 x1 (wrap64 ((x1.length : Int) - 1))).f0) - ((rd_T45 x1 x13).f0))) > x146000 then (some 2) else (some 0)) else (none)) else (none)) else (none)) else (none)) else (if 0 ≤ x14 then (if x14 < (x1.length : Int) then (if ((rd_T45 x1 x14).f6 = true) then (if 0 ≤ x13 then (if x13 < (x1.length : Int) then (if (wrap64 (((rd_T45 x1 x14).f0) - ((rd_T45 x1 x13).f0))) > x146000 then (some 2) else (some 1)) else (none)) else (none)) else (some 2)) else (none)) else (none)))
end
def culletref07_trusted.f (k : Nat) (a0_0 : Int) (l0_1 : List (S58)) (l0_2 : List (S56)) (l1 : List (S45)) (a2 : Int) (a3 : Int) (a4 : Int) : Option (Int) := (culletref07_claim.f k a0_0 l0_1 l0_2 a2 a3).bind fun bt146 => (if bt146.2.2.2 = true then (culletref07_trusted.l0 k l1 a2 a3 a4 (-1) (-1) 0 a0_0 l0_1 l0_2) else (some 2))
set_option maxHeartbeats 8000000 in
set_option maxRecDepth 100000 in
theorem culletref07_trusted.calls (k : Nat) (a0_0 : Int) (A0_1 : Option Addr) (c0_1 : Nat) (l0_1 : List (S58)) (A0_2 : Option Addr) (c0_2 : Nat) (l0_2 : List (S56)) (A1 : Option Addr) (c1 : Nat) (l1 : List (S45)) (a2 : Int) (a3 : Int) (a4 : Int) (r : Int) (w : World) (hr0_1 : Kd.C k58 w A0_1 l0_1.length l0_1) (hc0_1 : l0_1.length ≤ c0_1) (hr0_2 : Kd.C k56 w A0_2 l0_2.length l0_2) (hc0_2 : l0_2.length ≤ c0_2) (hr1 : Kd.C k45 w A1 l1.length l1) (hc1 : l1.length ≤ c1) (h : culletref07_trusted.f k a0_0 l0_1 l0_2 l1 a2 a3 a4 = some r) :
  Calls Try.prog 41 #[.agg #[.int .i64 a0_0, .slice A0_1 l0_1.length c0_1, .slice A0_2 l0_2.length c0_2], .slice A1 l1.length c1, .int .i64 a2, .int .i64 a3, .int .i64 a4] w fun e w' => e = .returned (.int .u8 r) ∧ Below w.heap.size w w' := by
 have hu25 := Try.underlying25
 have hu68 := Try.underlying68
 have HR0_1 := Aside0.mk hr0_1
 have HC0_1 := Aside0.mk hc0_1
 clear hr0_1 hc0_1
 have HR0_2 := Aside0.mk hr0_2
 have HC0_2 := Aside0.mk hc0_2
 clear hr0_2 hc0_2
 have HR1 := Aside0.mk hr1
 have HC1 := Aside0.mk hc1
 clear hr1 hc1
 have HB := Aside0.mk (Below.refl w.heap.size w)
 have H : ((culletref07_claim.f k a0_0 l0_1 l0_2 a2 a3).bind fun bt146 => (if bt146.2.2.2 = true then (culletref07_trusted.l0 k l1 a2 a3 a4 (-1) (-1) 0 a0_0 l0_1 l0_2) else (some 2))) = some r := h
 clear h
 replace H := Option.bind_eq_some_iff.mp H
 obtain ⟨⟨t146, t147, t148, t149⟩, A60, H⟩ := H
 replace H : (if t149 = true then (culletref07_trusted.l0 k l1 a2 a3 a4 (-1) (-1) 0 a0_0 l0_1 l0_2) else (some 2)) = some r := H
 have A6 := Aside0.mk A60
 clear A60
 by_cases c7 : t149 = true
 ·subst c7
  have H1 : (culletref07_trusted.l0 k l1 a2 a3 a4 (-1) (-1) 0 a0_0 l0_1 l0_2) = some r := by rw [if_pos rfl] at H; exact H
  clear H
  have H := H1
  clear H1
  have H' := Aside0.mk H
  clear H
  go_enter Try.func41, Try.ntmps41
  go_wp2_with (first | ((with_reducible refine gate_dst (N := 5) rfl ?_); refine box_event ?hg (N := 5) ?hd (cs := #[.int .i64 a0_0, .slice A0_1 l0_1.length c0_1, .slice A0_2 l0_2.length c0_2]) (t := 25) ?hr ?_; (case hd => rfl); (case hg => rfl); (case hr => exact zq11); intro gb145 hg w8 hbox hb; have n_ := as4 (below_step zq3 hb) (hbox) ((zq31 : w.heap.size ≤ gb145)) ((zq31 : w.heap.size ≤ gb145)); clear HB hb hbox hg; obtain ⟨HB, BK145, GW145, GE145⟩ := n_; obtain ⟨hcz9_0, hcz9_1, hcz9_2, hfz9_0, hfz9_1, hfz9_2⟩ := bcs3 BK145.out) | (go_at_call 42; (with_reducible refine (culletref07_claim.calls k a0_0 _ _ l0_1 _ _ l0_2 a2 a3 t146 t147 t148 true _ ?side1 ?side2 ?side3 ?side4 A6.out).mono ?_); (case side1 => exact zq5); (case side2 => exact HC0_1.out); (case side3 => exact zq6); (case side4 => exact HC0_2.out); rintro e w10 ⟨rfl, hb⟩; have n_ := as2 (blk_below (zq0 BK145.out) hb) (below_step zq21 hb); clear BK145 HB; obtain ⟨BK145, HB⟩ := n_; (try clear hb); (try clear hb2); (try clear hk); (try clear hi)) | ((with_reducible refine gate_dst (N := 11) rfl ?_); refine box_event ?hg (N := 11) ?hd (cs := #[.int .i64 0, .int .i64 0, .int .i64 0]) (t := 68) ?hr ?_; (case hd => rfl); (case hg => rfl); (case hr => exact zq11); intro gb150 hg w11 hbox hb; have n_ := as7 (blk_below (zq0 BK145.out) hb) (below_step zq21 hb) (hbox) ((zq90 : w.heap.size ≤ gb150)) ((zq90 : w.heap.size ≤ gb150)) ((zq108 : gb145 ≠ gb150)) ((zq109 : gb150 ≠ gb145)); clear BK145 HB hb hbox hg; obtain ⟨BK145, HB, BK150, GW150, GE150, NB145_150, NB150_145⟩ := n_; have hnb12 := NB150_145.out; have hnc12 := NB145_150.out; obtain ⟨hcz13_0, hcz13_1, hcz13_2, hfz13_0, hfz13_1, hfz13_2⟩ := bcs3 BK150.out))
  repeat (go_quiet (first | ((with_reducible refine gate_dst (N := 5) rfl ?_); refine box_event ?hg (N := 5) ?hd (cs := #[.int .i64 a0_0, .slice A0_1 l0_1.length c0_1, .slice A0_2 l0_2.length c0_2]) (t := 25) ?hr ?_; (case hd => rfl); (case hg => rfl); (case hr => exact zq11); intro gb145 hg w8 hbox hb; have n_ := as4 (below_step zq3 hb) (hbox) ((zq31 : w.heap.size ≤ gb145)) ((zq31 : w.heap.size ≤ gb145)); clear HB hb hbox hg; obtain ⟨HB, BK145, GW145, GE145⟩ := n_; obtain ⟨hcz9_0, hcz9_1, hcz9_2, hfz9_0, hfz9_1, hfz9_2⟩ := bcs3 BK145.out) | (go_at_call 42; (with_reducible refine (culletref07_claim.calls k a0_0 _ _ l0_1 _ _ l0_2 a2 a3 t146 t147 t148 true _ ?side1 ?side2 ?side3 ?side4 A6.out).mono ?_); (case side1 => exact zq5); (case side2 => exact HC0_1.out); (case side3 => exact zq6); (case side4 => exact HC0_2.out); rintro e w10 ⟨rfl, hb⟩; have n_ := as2 (blk_below (zq0 BK145.out) hb) (below_step zq21 hb); clear BK145 HB; obtain ⟨BK145, HB⟩ := n_; (try clear hb); (try clear hb2); (try clear hk); (try clear hi)) | ((with_reducible refine gate_dst (N := 11) rfl ?_); refine box_event ?hg (N := 11) ?hd (cs := #[.int .i64 0, .int .i64 0, .int .i64 0]) (t := 68) ?hr ?_; (case hd => rfl); (case hg => rfl); (case hr => exact zq11); intro gb150 hg w11 hbox hb; have n_ := as7 (blk_below (zq0 BK145.out) hb) (below_step zq21 hb) (hbox) ((zq90 : w.heap.size ≤ gb150)) ((zq90 : w.heap.size ≤ gb150)) ((zq108 : gb145 ≠ gb150)) ((zq109 : gb150 ≠ gb145)); clear BK145 HB hb hbox hg; obtain ⟨BK145, HB, BK150, GW150, GE150, NB145_150, NB150_145⟩ := n_; have hnb12 := NB150_145.out; have hnc12 := NB145_150.out; obtain ⟨hcz13_0, hcz13_1, hcz13_2, hfz13_0, hfz13_1, hfz13_2⟩ := bcs3 BK150.out)); try go_wp2_with (first | ((with_reducible refine gate_dst (N := 5) rfl ?_); refine box_event ?hg (N := 5) ?hd (cs := #[.int .i64 a0_0, .slice A0_1 l0_1.length c0_1, .slice A0_2 l0_2.length c0_2]) (t := 25) ?hr ?_; (case hd => rfl); (case hg => rfl); (case hr => exact zq11); intro gb145 hg w8 hbox hb; have n_ := as4 (below_step zq3 hb) (hbox) ((zq31 : w.heap.size ≤ gb145)) ((zq31 : w.heap.size ≤ gb145)); clear HB hb hbox hg; obtain ⟨HB, BK145, GW145, GE145⟩ := n_; obtain ⟨hcz9_0, hcz9_1, hcz9_2, hfz9_0, hfz9_1, hfz9_2⟩ := bcs3 BK145.out) | (go_at_call 42; (with_reducible refine (culletref07_claim.calls k a0_0 _ _ l0_1 _ _ l0_2 a2 a3 t146 t147 t148 true _ ?side1 ?side2 ?side3 ?side4 A6.out).mono ?_); (case side1 => exact zq5); (case side2 => exact HC0_1.out); (case side3 => exact zq6); (case side4 => exact HC0_2.out); rintro e w10 ⟨rfl, hb⟩; have n_ := as2 (blk_below (zq0 BK145.out) hb) (below_step zq21 hb); clear BK145 HB; obtain ⟨BK145, HB⟩ := n_; (try clear hb); (try clear hb2); (try clear hk); (try clear hi)) | ((with_reducible refine gate_dst (N := 11) rfl ?_); refine box_event ?hg (N := 11) ?hd (cs := #[.int .i64 0, .int .i64 0, .int .i64 0]) (t := 68) ?hr ?_; (case hd => rfl); (case hg => rfl); (case hr => exact zq11); intro gb150 hg w11 hbox hb; have n_ := as7 (blk_below (zq0 BK145.out) hb) (below_step zq21 hb) (hbox) ((zq90 : w.heap.size ≤ gb150)) ((zq90 : w.heap.size ≤ gb150)) ((zq108 : gb145 ≠ gb150)) ((zq109 : gb150 ≠ gb145)); clear BK145 HB hb hbox hg; obtain ⟨BK145, HB, BK150, GW150, GE150, NB145_150, NB150_145⟩ := n_; have hnb12 := NB150_145.out; have hnc12 := NB145_150.out; obtain ⟨hcz13_0, hcz13_1, hcz13_2, hfz13_0, hfz13_1, hfz13_2⟩ := bcs3 BK150.out)))
  go_loopg [13, 14, 15] k (fun kq v13 v14 v15 w' => ∃ (x13_1 : Int) (x14_1 : Int) (x15_1 : Int), v13 = .int .i64 x13_1 ∧ v14 = .int .i64 x14_1 ∧ v15 = .int .i64 x15_1 ∧ Aside0 (culletref07_trusted.l0 kq l1 a2 a3 a4 x13_1 x14_1 x15_1 a0_0 l0_1 l0_2 = some r) ∧ Aside0 (kq ≤ k) ∧ Aside0 (w'.heap[gb145]? = some (.cells #[.int .i64 a0_0, (.slice A0_1 l0_1.length c0_1), (.slice A0_2 l0_2.length c0_2)] 25 (0, 0))) ∧ Aside0 (w'.heap[gb150]? = some (.cells #[.int .i64 t146, .int .i64 t147, .int .i64 t148] 68 (0, 0))) ∧ Aside0 (Below w.heap.size w w'))
  case atStart => exact ⟨((-1)), ((-1)), (0), zq10, zq10, zq10, H', ⟨Nat.le_refl _⟩, ⟨(bch1 NB145_150.out BK145.out)⟩, ⟨(bch0p BK150.out)⟩, ⟨zq29⟩⟩
  case round =>
   clear H'
   try clear c1
   try clear p2
   try clear c4
   try clear c7
   try clear c12
   try clear hcz13_0 hcz13_1 hcz13_2 hfz13_0 hfz13_1 hfz13_2
   try clear hcz9_0 hcz9_1 hcz9_2 hfz9_0 hfz9_1 hfz9_2
   obtain ⟨x13_1, x14_1, x15_1, rfl, rfl, rfl, HA, HK1, BK145, BK150, HB⟩ := hrel
   cases gk with
   | zero => exact absurd HA.out (by simp [culletref07_trusted.l0])
   | succ k1 =>
    have H := HA.out
    clear HA
    simp only [culletref07_trusted.l0] at H
    by_cases c14 : x15_1 < (l1.length : Int)
    ·rw [if_pos c14] at H
     have c14b0 : decide (x15_1 < (l1.length : Int)) = true := decide_eq_true c14
     clear c14
     have HC15 := Aside0.mk H
     clear H
     go_upto_region 8 with (fail)
     repeat (go_quiet (fail); go_upto_region 8 with (fail))
     go_cut [54] (fun v54 wc => ∃ (kq : Nat) (x54_14 : Bool), v54 = .bool x54_14 ∧ Aside0 (culletref07_trusted.j1 kq l1 a2 a3 a4 x13_1 x14_1 x15_1 x54_14 a0_0 l0_1 l0_2 = some r) ∧ Aside0 (kq ≤ k1) ∧ Aside0 (wc.heap[gb145]? = some (.cells #[.int .i64 a0_0, (.slice A0_1 l0_1.length c0_1), (.slice A0_2 l0_2.length c0_2)] 25 (0, 0))) ∧ Aside0 (wc.heap[gb150]? = some (.cells #[.int .i64 t146, .int .i64 t147, .int .i64 t148] 68 (0, 0))) ∧ Aside0 (Below w.heap.size w wc))
     case first =>
      have H := HC15.out
      clear HC15
      by_cases c16 : 0 ≤ x15_1
      ·rw [if_pos c16] at H
       have c16b0 : decide (0 ≤ x15_1) = true := decide_eq_true c16
       clear c16
       (first | rw [c16b0] | (simp only [i64_w, i32_w]; rw [c16b0]) | skip)
       by_cases c17 : ((rd_T45 l1 x15_1).f1) = 2
       ·rw [if_pos c17] at H
        have c17b0 : (((rd_T45 l1 x15_1).f1) == 2) = true := beq_iff_eq.mpr c17
        have c17b1 : (((rd_T45 l1 x15_1).f1) != 2) = false := bne_eq_false_iff_eq.mpr c17
        clear c17
        by_cases c18 : ((rd_T45 l1 x15_1).f4) = a2
        ·rw [if_pos c18] at H
         have c18b0 : (((rd_T45 l1 x15_1).f4) == a2) = true := beq_iff_eq.mpr c18
         have c18b1 : (((rd_T45 l1 x15_1).f4) != a2) = false := bne_eq_false_iff_eq.mpr c18
         clear c18
         have H' := Aside0.mk H
         clear H
         have p151 : 0 ≤ (x15_1 : Int) := of_decide_eq_true zq7
         have q151 : x15_1 < (l1.length : Int) := of_decide_eq_true zq7
         obtain ⟨ad151, e151, hx151_0, hx151_1, hx151_2, hx151_3, hx151_4, hx151_5, hx151_6⟩ := at_T45 HR1.out x15_1 p151 q151
         cases e151
         replace hx151_0 := hcx HB.out hx151_0
         replace hx151_1 := hcx HB.out hx151_1
         replace hx151_2 := hcx HB.out hx151_2
         replace hx151_3 := hcx HB.out hx151_3
         replace hx151_4 := hcx HB.out hx151_4
         replace hx151_5 := hcx HB.out hx151_5
         replace hx151_6 := hcx HB.out hx151_6
         replace p151 := eq_true p151
         replace q151 := eq_true q151
         have p152 : 0 ≤ (x15_1 : Int) := of_decide_eq_true zq7
         have q152 : x15_1 < (l1.length : Int) := of_decide_eq_true zq7
         obtain ⟨ad152, e152, hx152_0, hx152_1, hx152_2, hx152_3, hx152_4, hx152_5, hx152_6⟩ := at_T45 HR1.out x15_1 p152 q152
         obtain rfl : ad151 = ad152 := (by injection e152)
         replace hx152_0 := hcx HB.out hx152_0
         replace hx152_1 := hcx HB.out hx152_1
         replace hx152_2 := hcx HB.out hx152_2
         replace hx152_3 := hcx HB.out hx152_3
         replace hx152_4 := hcx HB.out hx152_4
         replace hx152_5 := hcx HB.out hx152_5
         replace hx152_6 := hcx HB.out hx152_6
         replace p152 := eq_true p152
         replace q152 := eq_true q152
         have p153 : 0 ≤ (x15_1 : Int) := of_decide_eq_true zq7
         have q153 : x15_1 < (l1.length : Int) := of_decide_eq_true zq7
         obtain ⟨ad153, e153, hx153_0, hx153_1, hx153_2, hx153_3, hx153_4, hx153_5, hx153_6⟩ := at_T45 HR1.out x15_1 p153 q153
         obtain rfl : ad151 = ad153 := (by injection e153)
         replace hx153_0 := hcx HB.out hx153_0
         replace hx153_1 := hcx HB.out hx153_1
         replace hx153_2 := hcx HB.out hx153_2
         replace hx153_3 := hcx HB.out hx153_3
         replace hx153_4 := hcx HB.out hx153_4
         replace hx153_5 := hcx HB.out hx153_5
         replace hx153_6 := hcx HB.out hx153_6
         replace p153 := eq_true p153
         replace q153 := eq_true q153
         go_wp2
         repeat (go_quiet (fail); try go_wp2)
         go_meet
         case rel => exact ⟨_, ((((rd_T45 l1 x15_1).f5) != a3)), zq10, H', ⟨zq57⟩, ⟨(zq0 BK145.out)⟩, ⟨(zq0 BK150.out)⟩, ⟨zq29⟩⟩
        ·rw [if_neg c18] at H
         have c18b0 : (((rd_T45 l1 x15_1).f4) == a2) = false := beq_eq_false_iff_ne.mpr c18
         have c18b1 : (((rd_T45 l1 x15_1).f4) != a2) = true := bne_iff_ne.mpr c18
         have H' := Aside0.mk H
         clear H
         have p151 : 0 ≤ (x15_1 : Int) := of_decide_eq_true zq7
         have q151 : x15_1 < (l1.length : Int) := of_decide_eq_true zq7
         obtain ⟨ad151, e151, hx151_0, hx151_1, hx151_2, hx151_3, hx151_4, hx151_5, hx151_6⟩ := at_T45 HR1.out x15_1 p151 q151
         cases e151
         replace hx151_0 := hcx HB.out hx151_0
         replace hx151_1 := hcx HB.out hx151_1
         replace hx151_2 := hcx HB.out hx151_2
         replace hx151_3 := hcx HB.out hx151_3
         replace hx151_4 := hcx HB.out hx151_4
         replace hx151_5 := hcx HB.out hx151_5
         replace hx151_6 := hcx HB.out hx151_6
         replace p151 := eq_true p151
         replace q151 := eq_true q151
         have p152 : 0 ≤ (x15_1 : Int) := of_decide_eq_true zq7
         have q152 : x15_1 < (l1.length : Int) := of_decide_eq_true zq7
         obtain ⟨ad152, e152, hx152_0, hx152_1, hx152_2, hx152_3, hx152_4, hx152_5, hx152_6⟩ := at_T45 HR1.out x15_1 p152 q152
         obtain rfl : ad151 = ad152 := (by injection e152)
         replace hx152_0 := hcx HB.out hx152_0
         replace hx152_1 := hcx HB.out hx152_1
         replace hx152_2 := hcx HB.out hx152_2
         replace hx152_3 := hcx HB.out hx152_3
         replace hx152_4 := hcx HB.out hx152_4
         replace hx152_5 := hcx HB.out hx152_5
         replace hx152_6 := hcx HB.out hx152_6
         replace p152 := eq_true p152
         replace q152 := eq_true q152
         go_wp2
         repeat (go_quiet (fail); try go_wp2)
         go_meet
         case rel => exact ⟨_, (true), zq10, H', ⟨zq57⟩, ⟨(zq0 BK145.out)⟩, ⟨(zq0 BK150.out)⟩, ⟨zq29⟩⟩
       ·rw [if_neg c17] at H
        have c17b0 : (((rd_T45 l1 x15_1).f1) == 2) = false := beq_eq_false_iff_ne.mpr c17
        have c17b1 : (((rd_T45 l1 x15_1).f1) != 2) = true := bne_iff_ne.mpr c17
        have H' := Aside0.mk H
        clear H
        have p151 : 0 ≤ (x15_1 : Int) := of_decide_eq_true zq7
        have q151 : x15_1 < (l1.length : Int) := of_decide_eq_true zq7
        obtain ⟨ad151, e151, hx151_0, hx151_1, hx151_2, hx151_3, hx151_4, hx151_5, hx151_6⟩ := at_T45 HR1.out x15_1 p151 q151
        cases e151
        replace hx151_0 := hcx HB.out hx151_0
        replace hx151_1 := hcx HB.out hx151_1
        replace hx151_2 := hcx HB.out hx151_2
        replace hx151_3 := hcx HB.out hx151_3
        replace hx151_4 := hcx HB.out hx151_4
        replace hx151_5 := hcx HB.out hx151_5
        replace hx151_6 := hcx HB.out hx151_6
        replace p151 := eq_true p151
        replace q151 := eq_true q151
        go_wp2
        repeat (go_quiet (fail); try go_wp2)
        go_meet
        case rel => exact ⟨_, (true), zq10, H', ⟨zq57⟩, ⟨(zq0 BK145.out)⟩, ⟨(zq0 BK150.out)⟩, ⟨zq29⟩⟩
      ·rw [if_neg c16] at H
       exact absurd H zq63
     case rest =>
      clear HC15
      try clear c1
      try clear p1
      try clear q1
      try clear hx1
      try clear p2 p2
      try clear c4
      try clear c7
      try clear c12
      try clear c14
      try clear c14b0
      try clear p15
      try clear q15
      try clear hx15
      try clear c16
      try clear c16b0
      try clear c17
      try clear c17b0
      try clear c17b1
      try clear c18
      try clear c18b0
      try clear c18b1
      try clear hcz13_0 hcz13_1 hcz13_2 hfz13_0 hfz13_1 hfz13_2
      try clear hcz9_0 hcz9_1 hcz9_2 hfz9_0 hfz9_1 hfz9_2
      try clear hx151_0
      try clear hx151_1
      try clear hx151_2
      try clear hx151_3
      try clear hx151_4
      try clear hx151_5
      try clear hx151_6
      try clear hx152_0
      try clear hx152_1
      try clear hx152_2
      try clear hx152_3
      try clear hx152_4
      try clear hx152_5
      try clear hx152_6
      try clear hx153_0
      try clear hx153_1
      try clear hx153_2
      try clear hx153_3
      try clear hx153_4
      try clear hx153_5
      try clear hx153_6
      try clear p151
      try clear p152
      try clear p153
      try clear q151
      try clear q152
      try clear q153
      obtain ⟨kq, x54_14, rfl, HA, HJ14, BK145, BK150, HB⟩ := hcut
      cases kq with
      | zero => exact absurd HA.out (by simp [culletref07_trusted.j1])
      | succ kj14 =>
       have H := HA.out
       clear HA
       simp only [culletref07_trusted.j1] at H
       by_cases c19 : x54_14 = true
       ·subst c19
        have H1 : (culletref07_trusted.l0 kj14 l1 a2 a3 a4 x13_1 x14_1 (wrap64 (x15_1 + 1)) a0_0 l0_1 l0_2) = some r := by rw [if_pos rfl] at H; exact H
        clear H
        have H := H1
        clear H1
        have H' := Aside0.mk H
        clear H
        go_wp2
        repeat (go_quiet (fail); try go_wp2)
        go_roundg kj14
        case measure => have := HK1.out; have := HJ14.out; omega
        case rel => exact ⟨(x13_1), (x14_1), (wrap64 (x15_1 + 1)), zq10, zq10, zq10, H', ⟨zq154⟩, ⟨(zq0 BK145.out)⟩, ⟨(zq0 BK150.out)⟩, ⟨zq29⟩⟩
       ·replace c19 := Bool.eq_false_iff.mpr c19
        subst c19
        have H1 : (if x15_1 < a4 then (culletref07_trusted.l0 kj14 l1 a2 a3 a4 x15_1 x14_1 (wrap64 (x15_1 + 1)) a0_0 l0_1 l0_2) else (if x14_1 < 0 then (culletref07_trusted.l0 kj14 l1 a2 a3 a4 x13_1 x15_1 (wrap64 (x15_1 + 1)) a0_0 l0_1 l0_2) else (culletref07_trusted.l0 kj14 l1 a2 a3 a4 x13_1 x14_1 (wrap64 (x15_1 + 1)) a0_0 l0_1 l0_2))) = some r := by rw [if_neg (show ¬ (false = true) by decide)] at H; exact H
        clear H
        have H := H1
        clear H1
        by_cases c20 : x15_1 < a4
        ·rw [if_pos c20] at H
         have c20b0 : decide (x15_1 < a4) = true := decide_eq_true c20
         clear c20
         have H' := Aside0.mk H
         clear H
         go_wp2
         repeat (go_quiet (fail); try go_wp2)
         go_roundg kj14
         case measure => have := HK1.out; have := HJ14.out; omega
         case rel => exact ⟨(x15_1), (x14_1), (wrap64 (x15_1 + 1)), zq10, zq10, zq10, H', ⟨zq154⟩, ⟨(zq0 BK145.out)⟩, ⟨(zq0 BK150.out)⟩, ⟨zq29⟩⟩
        ·rw [if_neg c20] at H
         have c20b0 : decide (x15_1 < a4) = false := decide_eq_false c20
         clear c20
         by_cases c21 : x14_1 < 0
         ·rw [if_pos c21] at H
          have c21b0 : decide (x14_1 < 0) = true := decide_eq_true c21
          clear c21
          have H' := Aside0.mk H
          clear H
          go_wp2
          repeat (go_quiet (fail); try go_wp2)
          go_roundg kj14
          case measure => have := HK1.out; have := HJ14.out; omega
          case rel => exact ⟨(x13_1), (x15_1), (wrap64 (x15_1 + 1)), zq10, zq10, zq10, H', ⟨zq154⟩, ⟨(zq0 BK145.out)⟩, ⟨(zq0 BK150.out)⟩, ⟨zq29⟩⟩
         ·rw [if_neg c21] at H
          have c21b0 : decide (x14_1 < 0) = false := decide_eq_false c21
          clear c21
          have H' := Aside0.mk H
          clear H
          go_wp2
          repeat (go_quiet (fail); try go_wp2)
          go_roundg kj14
          case measure => have := HK1.out; have := HJ14.out; omega
          case rel => exact ⟨(x13_1), (x14_1), (wrap64 (x15_1 + 1)), zq10, zq10, zq10, H', ⟨zq154⟩, ⟨(zq0 BK145.out)⟩, ⟨(zq0 BK150.out)⟩, ⟨zq29⟩⟩
    ·rw [if_neg c14] at H
     have c14b0 : decide (x15_1 < (l1.length : Int)) = false := decide_eq_false c14
     clear c14
     have HC22 := Aside0.mk H
     clear H
     go_upto_region 13 with (fail)
     repeat (go_quiet (fail); go_upto_region 13 with (fail))
     go_cut [71] (fun v71 wc => ∃ (kq : Nat) (x71_21 : Bool), v71 = .bool x71_21 ∧ Aside0 (culletref07_trusted.j2 kq l1 x13_1 x14_1 x71_21 a0_0 l0_1 l0_2 = some r) ∧ Aside0 (kq ≤ k1) ∧ Aside0 (wc.heap[gb145]? = some (.cells #[.int .i64 a0_0, (.slice A0_1 l0_1.length c0_1), (.slice A0_2 l0_2.length c0_2)] 25 (0, 0))) ∧ Aside0 (wc.heap[gb150]? = some (.cells #[.int .i64 t146, .int .i64 t147, .int .i64 t148] 68 (0, 0))) ∧ Aside0 (Below w.heap.size w wc))
     case first =>
      have H := HC22.out
      clear HC22
      by_cases c23 : x13_1 < 0
      ·rw [if_pos c23] at H
       have c23b0 : decide (x13_1 < 0) = true := decide_eq_true c23
       clear c23
       (first | rw [c23b0] | (simp only [i64_w, i32_w]; rw [c23b0]) | skip)
       have H' := Aside0.mk H
       clear H
       go_wp2
       repeat (go_quiet (fail); try go_wp2)
       go_meet
       case rel => exact ⟨_, (true), zq10, H', ⟨zq57⟩, ⟨(zq0 BK145.out)⟩, ⟨(zq0 BK150.out)⟩, ⟨zq29⟩⟩
      ·rw [if_neg c23] at H
       have c23b0 : decide (x13_1 < 0) = false := decide_eq_false c23
       clear c23
       (first | rw [c23b0] | (simp only [i64_w, i32_w]; rw [c23b0]) | skip)
       by_cases c24 : 0 ≤ x13_1
       ·rw [if_pos c24] at H
        have c24b0 : decide (0 ≤ x13_1) = true := decide_eq_true c24
        clear c24
        by_cases c25 : x13_1 < (l1.length : Int)
        ·rw [if_pos c25] at H
         have c25b0 : decide (x13_1 < (l1.length : Int)) = true := decide_eq_true c25
         clear c25
         have H' := Aside0.mk H
         clear H
         have p154 : 0 ≤ (x13_1 : Int) := of_decide_eq_true zq7
         have q154 : x13_1 < (l1.length : Int) := of_decide_eq_true zq7
         obtain ⟨ad154, e154, hx154_0, hx154_1, hx154_2, hx154_3, hx154_4, hx154_5, hx154_6⟩ := at_T45 HR1.out x13_1 p154 q154
         cases e154
         replace hx154_0 := hcx HB.out hx154_0
         replace hx154_1 := hcx HB.out hx154_1
         replace hx154_2 := hcx HB.out hx154_2
         replace hx154_3 := hcx HB.out hx154_3
         replace hx154_4 := hcx HB.out hx154_4
         replace hx154_5 := hcx HB.out hx154_5
         replace hx154_6 := hcx HB.out hx154_6
         replace p154 := eq_true p154
         replace q154 := eq_true q154
         go_wp2
         repeat (go_quiet (fail); try go_wp2)
         go_meet
         case rel => exact ⟨_, (!((rd_T45 l1 x13_1).f6)), zq10, H', ⟨zq57⟩, ⟨(zq0 BK145.out)⟩, ⟨(zq0 BK150.out)⟩, ⟨zq29⟩⟩
        ·rw [if_neg c25] at H
         exact absurd H zq63
       ·rw [if_neg c24] at H
        exact absurd H zq63
     case rest =>
      clear HC22
      try clear c1
      try clear p1 p1
      try clear q1 q1
      try clear hx1
      try clear c2
      try clear p2 p2
      try clear c4
      try clear p6
      try clear c7
      try clear c12
      try clear c14
      try clear c14b0
      try clear p15 p15
      try clear q15 q15
      try clear hx15
      try clear c16
      try clear c16b0
      try clear c17
      try clear c17b0
      try clear c17b1
      try clear c18
      try clear c18b0
      try clear c18b1
      try clear c19
      try clear c20
      try clear c20b0
      try clear c21
      try clear c21b0
      try clear c23
      try clear c23b0
      try clear c24
      try clear c24b0
      try clear c25
      try clear c25b0
      try clear hcz13_0 hcz13_1 hcz13_2 hfz13_0 hfz13_1 hfz13_2
      try clear hcz9_0 hcz9_1 hcz9_2 hfz9_0 hfz9_1 hfz9_2
      try clear hx151_0
      try clear hx151_1
      try clear hx151_2
      try clear hx151_3
      try clear hx151_4
      try clear hx151_5
      try clear hx151_6
      try clear hx152_0
      try clear hx152_1
      try clear hx152_2
      try clear hx152_3
      try clear hx152_4
      try clear hx152_5
      try clear hx152_6
      try clear hx153_0
      try clear hx153_1
      try clear hx153_2
      try clear hx153_3
      try clear hx153_4
      try clear hx153_5
      try clear hx153_6
      try clear hx154_0
      try clear hx154_1
      try clear hx154_2
      try clear hx154_3
      try clear hx154_4
      try clear hx154_5
      try clear hx154_6
      try clear p151
      try clear p152
      try clear p153
      try clear p154
      try clear q151
      try clear q152
      try clear q153
      try clear q154
      obtain ⟨kq, x71_21, rfl, HA, HJ21, BK145, BK150, HB⟩ := hcut
      cases kq with
      | zero => exact absurd HA.out (by simp [culletref07_trusted.j2])
      | succ kj21 =>
       have H := HA.out
       clear HA
       simp only [culletref07_trusted.j2] at H
       by_cases c26 : x71_21 = true
       ·subst c26
        have H1 : (some 2) = some r := by rw [if_pos rfl] at H; exact H
        clear H
        have H := H1
        clear H1
        obtain rfl := Option.some.inj H
        go_wp2
        repeat (go_quiet (fail); try go_wp2)
        go_ret
        exact ⟨zq9, zq29⟩
       ·replace c26 := Bool.eq_false_iff.mpr c26
        subst c26
        have H1 : (if x14_1 < 0 then (if 0 ≤ (wrap64 ((l1.length : Int) - 1)) then (if (wrap64 ((l1.length : Int) - 1)) < (l1.length : Int) then (if 0 ≤ x13_1 then (if x13_1 < (l1.length : Int) then (if (wrap64 (((rd_T45 l1 (wrap64 ((l1.length : Int) - 1))).f0) - ((rd_T45 l1 x13_1).f0))) > a0_0 then (some 2) else (some 0)) else (none)) else (none)) else (none)) else (none)) else (if 0 ≤ x14_1 then (if x14_1 < (l1.length : Int) then (if ((rd_T45 l1 x14_1).f6 = true) then (if 0 ≤ x13_1 then (if x13_1 < (l1.length : Int) then (if (wrap64 (((rd_T45 l1 x14_1).f0) - ((rd_T45 l1 x13_1).f0))) > a0_0 then (some 2) else (some 1)) else (none)) else (none)) else (some 2)) else (none)) else (none))) = some r := by rw [if_neg (show ¬ (false = true) by decide)] at H; exact H
        clear H
        have H := H1
        clear H1
        by_cases c27 : x14_1 < 0
        ·rw [if_pos c27] at H
         have c27b0 : decide (x14_1 < 0) = true := decide_eq_true c27
         clear c27
         obtain ⟨ji28, hji28⟩ : ∃ j_ : Int, (wrap64 ((l1.length : Int) - 1)) = j_ := ⟨_, rfl⟩
         replace H : (if 0 ≤ (ji28) then (if (ji28) < (l1.length : Int) then (if 0 ≤ x13_1 then (if x13_1 < (l1.length : Int) then (if (wrap64 (((rd_T45 l1 (ji28)).f0) - ((rd_T45 l1 x13_1).f0))) > a0_0 then (some 2) else (some 0)) else (none)) else (none)) else (none)) else (none)) = some r := by first | (rw [hji28] at H; exact H) | (simp only [hji28] at H ⊢; exact H)
         have hji28w : (IntKind.i64.wrap ((l1.length : Int) - 1)) = ji28 := (i64_w _).trans hji28
         by_cases c29 : 0 ≤ (ji28)
         ·rw [if_pos c29] at H
          have c29b0 : decide (0 ≤ (ji28)) = true := decide_eq_true c29
          clear c29
          by_cases c30 : (ji28) < (l1.length : Int)
          ·rw [if_pos c30] at H
           have c30b0 : decide ((ji28) < (l1.length : Int)) = true := decide_eq_true c30
           clear c30
           by_cases c31 : 0 ≤ x13_1
           ·rw [if_pos c31] at H
            have c31b0 : decide (0 ≤ x13_1) = true := decide_eq_true c31
            clear c31
            by_cases c32 : x13_1 < (l1.length : Int)
            ·rw [if_pos c32] at H
             have c32b0 : decide (x13_1 < (l1.length : Int)) = true := decide_eq_true c32
             clear c32
             by_cases c33 : (wrap64 (((rd_T45 l1 (ji28)).f0) - ((rd_T45 l1 x13_1).f0))) > a0_0
             ·rw [if_pos c33] at H
              have c33b0 : decide (a0_0 < (wrap64 (((rd_T45 l1 (ji28)).f0) - ((rd_T45 l1 x13_1).f0)))) = true := decide_eq_true c33
              clear c33
              obtain rfl := Option.some.inj H
              have p155 : 0 ≤ ((ji28) : Int) := of_decide_eq_true zq7
              have q155 : (ji28) < (l1.length : Int) := of_decide_eq_true zq7
              obtain ⟨ad155, e155, hx155_0, hx155_1, hx155_2, hx155_3, hx155_4, hx155_5, hx155_6⟩ := at_T45 HR1.out (ji28) p155 q155
              cases e155
              replace hx155_0 := hcx HB.out hx155_0
              replace hx155_1 := hcx HB.out hx155_1
              replace hx155_2 := hcx HB.out hx155_2
              replace hx155_3 := hcx HB.out hx155_3
              replace hx155_4 := hcx HB.out hx155_4
              replace hx155_5 := hcx HB.out hx155_5
              replace hx155_6 := hcx HB.out hx155_6
              replace p155 := eq_true p155
              replace q155 := eq_true q155
              have p156 : 0 ≤ (x13_1 : Int) := of_decide_eq_true zq7
              have q156 : x13_1 < (l1.length : Int) := of_decide_eq_true zq7
              obtain ⟨ad156, e156, hx156_0, hx156_1, hx156_2, hx156_3, hx156_4, hx156_5, hx156_6⟩ := at_T45 HR1.out x13_1 p156 q156
              obtain rfl : ad155 = ad156 := (by injection e156)
              replace hx156_0 := hcx HB.out hx156_0
              replace hx156_1 := hcx HB.out hx156_1
              replace hx156_2 := hcx HB.out hx156_2
              replace hx156_3 := hcx HB.out hx156_3
              replace hx156_4 := hcx HB.out hx156_4
              replace hx156_5 := hcx HB.out hx156_5
              replace hx156_6 := hcx HB.out hx156_6
              replace p156 := eq_true p156
              replace q156 := eq_true q156
              have hnb34 := NB145_150.out
              have hnc34 := NB150_145.out
              obtain ⟨hcz35_0, hcz35_1, hcz35_2, hfz35_0, hfz35_1, hfz35_2⟩ := bcs3 BK145.out
              go_wp2
              repeat (go_quiet (fail); try go_wp2)
              go_ret
              exact ⟨zq127, zq29⟩
             ·rw [if_neg c33] at H
              have c33b0 : decide (a0_0 < (wrap64 (((rd_T45 l1 (ji28)).f0) - ((rd_T45 l1 x13_1).f0)))) = false := decide_eq_false c33
              clear c33
              obtain rfl := Option.some.inj H
              have p155 : 0 ≤ ((ji28) : Int) := of_decide_eq_true zq7
              have q155 : (ji28) < (l1.length : Int) := of_decide_eq_true zq7
              obtain ⟨ad155, e155, hx155_0, hx155_1, hx155_2, hx155_3, hx155_4, hx155_5, hx155_6⟩ := at_T45 HR1.out (ji28) p155 q155
              cases e155
              replace hx155_0 := hcx HB.out hx155_0
              replace hx155_1 := hcx HB.out hx155_1
              replace hx155_2 := hcx HB.out hx155_2
              replace hx155_3 := hcx HB.out hx155_3
              replace hx155_4 := hcx HB.out hx155_4
              replace hx155_5 := hcx HB.out hx155_5
              replace hx155_6 := hcx HB.out hx155_6
              replace p155 := eq_true p155
              replace q155 := eq_true q155
              have p156 : 0 ≤ (x13_1 : Int) := of_decide_eq_true zq7
              have q156 : x13_1 < (l1.length : Int) := of_decide_eq_true zq7
              obtain ⟨ad156, e156, hx156_0, hx156_1, hx156_2, hx156_3, hx156_4, hx156_5, hx156_6⟩ := at_T45 HR1.out x13_1 p156 q156
              obtain rfl : ad155 = ad156 := (by injection e156)
              replace hx156_0 := hcx HB.out hx156_0
              replace hx156_1 := hcx HB.out hx156_1
              replace hx156_2 := hcx HB.out hx156_2
              replace hx156_3 := hcx HB.out hx156_3
              replace hx156_4 := hcx HB.out hx156_4
              replace hx156_5 := hcx HB.out hx156_5
              replace hx156_6 := hcx HB.out hx156_6
              replace p156 := eq_true p156
              replace q156 := eq_true q156
              have hnb36 := NB145_150.out
              have hnc36 := NB150_145.out
              obtain ⟨hcz37_0, hcz37_1, hcz37_2, hfz37_0, hfz37_1, hfz37_2⟩ := bcs3 BK145.out
              go_wp2
              repeat (go_quiet (fail); try go_wp2)
              go_ret
              exact ⟨zq127, zq29⟩
            ·rw [if_neg c32] at H
             exact absurd H zq63
           ·rw [if_neg c31] at H
            exact absurd H zq63
          ·rw [if_neg c30] at H
           exact absurd H zq63
         ·rw [if_neg c29] at H
          exact absurd H zq63
        ·rw [if_neg c27] at H
         have c27b0 : decide (x14_1 < 0) = false := decide_eq_false c27
         clear c27
         by_cases c38 : 0 ≤ x14_1
         ·rw [if_pos c38] at H
          have c38b0 : decide (0 ≤ x14_1) = true := decide_eq_true c38
          clear c38
          by_cases c39 : x14_1 < (l1.length : Int)
          ·rw [if_pos c39] at H
           have c39b0 : decide (x14_1 < (l1.length : Int)) = true := decide_eq_true c39
           clear c39
           obtain ⟨bq40, hbq40⟩ : ∃ b_ : Bool, b_ = ((rd_T45 l1 x14_1).f6) := ⟨_, rfl⟩
           replace H : (if (bq40 = true) then (if 0 ≤ x13_1 then (if x13_1 < (l1.length : Int) then (if (wrap64 (((rd_T45 l1 x14_1).f0) - ((rd_T45 l1 x13_1).f0))) > a0_0 then (some 2) else (some 1)) else (none)) else (none)) else (some 2)) = some r := by rw [← hbq40] at H; exact H
           have Nbq40 := Aside0.mk hbq40
           clear hbq40
           by_cases c41 : (bq40 = true)
           ·subst c41
            have H1 : (if 0 ≤ x13_1 then (if x13_1 < (l1.length : Int) then (if (wrap64 (((rd_T45 l1 x14_1).f0) - ((rd_T45 l1 x13_1).f0))) > a0_0 then (some 2) else (some 1)) else (none)) else (none)) = some r := by rw [if_pos rfl] at H; exact H
            clear H
            have H := H1
            clear H1
            by_cases c42 : 0 ≤ x13_1
            ·rw [if_pos c42] at H
             have c42b0 : decide (0 ≤ x13_1) = true := decide_eq_true c42
             clear c42
             by_cases c43 : x13_1 < (l1.length : Int)
             ·rw [if_pos c43] at H
              have c43b0 : decide (x13_1 < (l1.length : Int)) = true := decide_eq_true c43
              clear c43
              by_cases c44 : (wrap64 (((rd_T45 l1 x14_1).f0) - ((rd_T45 l1 x13_1).f0))) > a0_0
              ·rw [if_pos c44] at H
               have c44b0 : decide (a0_0 < (wrap64 (((rd_T45 l1 x14_1).f0) - ((rd_T45 l1 x13_1).f0)))) = true := decide_eq_true c44
               clear c44
               obtain rfl := Option.some.inj H
               have p157 : 0 ≤ (x14_1 : Int) := of_decide_eq_true zq7
               have q157 : x14_1 < (l1.length : Int) := of_decide_eq_true zq7
               obtain ⟨ad157, e157, hx157_0, hx157_1, hx157_2, hx157_3, hx157_4, hx157_5, hx157_6⟩ := at_T45 HR1.out x14_1 p157 q157
               (try rw [← Nbq40.out] at hx157_6)
               cases e157
               replace hx157_0 := hcx HB.out hx157_0
               replace hx157_1 := hcx HB.out hx157_1
               replace hx157_2 := hcx HB.out hx157_2
               replace hx157_3 := hcx HB.out hx157_3
               replace hx157_4 := hcx HB.out hx157_4
               replace hx157_5 := hcx HB.out hx157_5
               replace hx157_6 := hcx HB.out hx157_6
               replace p157 := eq_true p157
               replace q157 := eq_true q157
               have p158 : 0 ≤ (x14_1 : Int) := of_decide_eq_true zq7
               have q158 : x14_1 < (l1.length : Int) := of_decide_eq_true zq7
               obtain ⟨ad158, e158, hx158_0, hx158_1, hx158_2, hx158_3, hx158_4, hx158_5, hx158_6⟩ := at_T45 HR1.out x14_1 p158 q158
               (try rw [← Nbq40.out] at hx158_6)
               obtain rfl : ad157 = ad158 := (by injection e158)
               replace hx158_0 := hcx HB.out hx158_0
               replace hx158_1 := hcx HB.out hx158_1
               replace hx158_2 := hcx HB.out hx158_2
               replace hx158_3 := hcx HB.out hx158_3
               replace hx158_4 := hcx HB.out hx158_4
               replace hx158_5 := hcx HB.out hx158_5
               replace hx158_6 := hcx HB.out hx158_6
               replace p158 := eq_true p158
               replace q158 := eq_true q158
               have p159 : 0 ≤ (x13_1 : Int) := of_decide_eq_true zq7
               have q159 : x13_1 < (l1.length : Int) := of_decide_eq_true zq7
               obtain ⟨ad159, e159, hx159_0, hx159_1, hx159_2, hx159_3, hx159_4, hx159_5, hx159_6⟩ := at_T45 HR1.out x13_1 p159 q159
               (try rw [← Nbq40.out] at hx159_6)
               obtain rfl : ad157 = ad159 := (by injection e159)
               replace hx159_0 := hcx HB.out hx159_0
               replace hx159_1 := hcx HB.out hx159_1
               replace hx159_2 := hcx HB.out hx159_2
               replace hx159_3 := hcx HB.out hx159_3
               replace hx159_4 := hcx HB.out hx159_4
               replace hx159_5 := hcx HB.out hx159_5
               replace hx159_6 := hcx HB.out hx159_6
               replace p159 := eq_true p159
               replace q159 := eq_true q159
               have hnb45 := NB145_150.out
               have hnc45 := NB150_145.out
               obtain ⟨hcz46_0, hcz46_1, hcz46_2, hfz46_0, hfz46_1, hfz46_2⟩ := bcs3 BK145.out
               go_wp2
               repeat (go_quiet (fail); try go_wp2)
               go_ret
               exact ⟨zq9, zq29⟩
              ·rw [if_neg c44] at H
               have c44b0 : decide (a0_0 < (wrap64 (((rd_T45 l1 x14_1).f0) - ((rd_T45 l1 x13_1).f0)))) = false := decide_eq_false c44
               clear c44
               obtain rfl := Option.some.inj H
               have p157 : 0 ≤ (x14_1 : Int) := of_decide_eq_true zq7
               have q157 : x14_1 < (l1.length : Int) := of_decide_eq_true zq7
               obtain ⟨ad157, e157, hx157_0, hx157_1, hx157_2, hx157_3, hx157_4, hx157_5, hx157_6⟩ := at_T45 HR1.out x14_1 p157 q157
               (try rw [← Nbq40.out] at hx157_6)
               cases e157
               replace hx157_0 := hcx HB.out hx157_0
               replace hx157_1 := hcx HB.out hx157_1
               replace hx157_2 := hcx HB.out hx157_2
               replace hx157_3 := hcx HB.out hx157_3
               replace hx157_4 := hcx HB.out hx157_4
               replace hx157_5 := hcx HB.out hx157_5
               replace hx157_6 := hcx HB.out hx157_6
               replace p157 := eq_true p157
               replace q157 := eq_true q157
               have p158 : 0 ≤ (x14_1 : Int) := of_decide_eq_true zq7
               have q158 : x14_1 < (l1.length : Int) := of_decide_eq_true zq7
               obtain ⟨ad158, e158, hx158_0, hx158_1, hx158_2, hx158_3, hx158_4, hx158_5, hx158_6⟩ := at_T45 HR1.out x14_1 p158 q158
               (try rw [← Nbq40.out] at hx158_6)
               obtain rfl : ad157 = ad158 := (by injection e158)
               replace hx158_0 := hcx HB.out hx158_0
               replace hx158_1 := hcx HB.out hx158_1
               replace hx158_2 := hcx HB.out hx158_2
               replace hx158_3 := hcx HB.out hx158_3
               replace hx158_4 := hcx HB.out hx158_4
               replace hx158_5 := hcx HB.out hx158_5
               replace hx158_6 := hcx HB.out hx158_6
               replace p158 := eq_true p158
               replace q158 := eq_true q158
               have p159 : 0 ≤ (x13_1 : Int) := of_decide_eq_true zq7
               have q159 : x13_1 < (l1.length : Int) := of_decide_eq_true zq7
               obtain ⟨ad159, e159, hx159_0, hx159_1, hx159_2, hx159_3, hx159_4, hx159_5, hx159_6⟩ := at_T45 HR1.out x13_1 p159 q159
               (try rw [← Nbq40.out] at hx159_6)
               obtain rfl : ad157 = ad159 := (by injection e159)
               replace hx159_0 := hcx HB.out hx159_0
               replace hx159_1 := hcx HB.out hx159_1
               replace hx159_2 := hcx HB.out hx159_2
               replace hx159_3 := hcx HB.out hx159_3
               replace hx159_4 := hcx HB.out hx159_4
               replace hx159_5 := hcx HB.out hx159_5
               replace hx159_6 := hcx HB.out hx159_6
               replace p159 := eq_true p159
               replace q159 := eq_true q159
               have hnb47 := NB145_150.out
               have hnc47 := NB150_145.out
               obtain ⟨hcz48_0, hcz48_1, hcz48_2, hfz48_0, hfz48_1, hfz48_2⟩ := bcs3 BK145.out
               go_wp2
               repeat (go_quiet (fail); try go_wp2)
               go_ret
               exact ⟨zq9, zq29⟩
             ·rw [if_neg c43] at H
              exact absurd H zq63
            ·rw [if_neg c42] at H
             exact absurd H zq63
           ·replace c41 := Bool.eq_false_iff.mpr c41
            subst c41
            have H1 : (some 2) = some r := by rw [if_neg (show ¬ (false = true) by decide)] at H; exact H
            clear H
            have H := H1
            clear H1
            obtain rfl := Option.some.inj H
            have p157 : 0 ≤ (x14_1 : Int) := of_decide_eq_true zq7
            have q157 : x14_1 < (l1.length : Int) := of_decide_eq_true zq7
            obtain ⟨ad157, e157, hx157_0, hx157_1, hx157_2, hx157_3, hx157_4, hx157_5, hx157_6⟩ := at_T45 HR1.out x14_1 p157 q157
            (try rw [← Nbq40.out] at hx157_6)
            cases e157
            replace hx157_0 := hcx HB.out hx157_0
            replace hx157_1 := hcx HB.out hx157_1
            replace hx157_2 := hcx HB.out hx157_2
            replace hx157_3 := hcx HB.out hx157_3
            replace hx157_4 := hcx HB.out hx157_4
            replace hx157_5 := hcx HB.out hx157_5
            replace hx157_6 := hcx HB.out hx157_6
            replace p157 := eq_true p157
            replace q157 := eq_true q157
            go_wp2
            repeat (go_quiet (fail); try go_wp2)
            go_ret
            exact ⟨zq9, zq29⟩
          ·rw [if_neg c39] at H
           exact absurd H zq63
         ·rw [if_neg c38] at H
          exact absurd H zq63
 ·replace c7 := Bool.eq_false_iff.mpr c7
  subst c7
  have H1 : (some 2) = some r := by rw [if_neg (show ¬ (false = true) by decide)] at H; exact H
  clear H
  have H := H1
  clear H1
  obtain rfl := Option.some.inj H
  go_enter Try.func41, Try.ntmps41
  go_wp2_with (first | ((with_reducible refine gate_dst (N := 5) rfl ?_); refine box_event ?hg (N := 5) ?hd (cs := #[.int .i64 a0_0, .slice A0_1 l0_1.length c0_1, .slice A0_2 l0_2.length c0_2]) (t := 25) ?hr ?_; (case hd => rfl); (case hg => rfl); (case hr => exact zq11); intro gb145 hg w49 hbox hb; have n_ := as4 (below_step zq3 hb) (hbox) ((zq31 : w.heap.size ≤ gb145)) ((zq31 : w.heap.size ≤ gb145)); clear HB hb hbox hg; obtain ⟨HB, BK145, GW145, GE145⟩ := n_; obtain ⟨hcz50_0, hcz50_1, hcz50_2, hfz50_0, hfz50_1, hfz50_2⟩ := bcs3 BK145.out) | (go_at_call 42; (with_reducible refine (culletref07_claim.calls k a0_0 _ _ l0_1 _ _ l0_2 a2 a3 t146 t147 t148 false _ ?side1 ?side2 ?side3 ?side4 A6.out).mono ?_); (case side1 => exact zq5); (case side2 => exact HC0_1.out); (case side3 => exact zq6); (case side4 => exact HC0_2.out); rintro e w51 ⟨rfl, hb⟩; have n_ := as2 (blk_below (zq0 BK145.out) hb) (below_step zq21 hb); clear BK145 HB; obtain ⟨BK145, HB⟩ := n_; (try clear hb); (try clear hb2); (try clear hk); (try clear hi)) | ((with_reducible refine gate_dst (N := 11) rfl ?_); refine box_event ?hg (N := 11) ?hd (cs := #[.int .i64 0, .int .i64 0, .int .i64 0]) (t := 68) ?hr ?_; (case hd => rfl); (case hg => rfl); (case hr => exact zq11); intro gb150 hg w52 hbox hb; have n_ := as7 (blk_below (zq0 BK145.out) hb) (below_step zq21 hb) (hbox) ((zq90 : w.heap.size ≤ gb150)) ((zq90 : w.heap.size ≤ gb150)) ((zq108 : gb145 ≠ gb150)) ((zq109 : gb150 ≠ gb145)); clear BK145 HB hb hbox hg; obtain ⟨BK145, HB, BK150, GW150, GE150, NB145_150, NB150_145⟩ := n_; have hnb53 := NB150_145.out; have hnc53 := NB145_150.out; obtain ⟨hcz54_0, hcz54_1, hcz54_2, hfz54_0, hfz54_1, hfz54_2⟩ := bcs3 BK150.out))
  repeat (go_quiet (first | ((with_reducible refine gate_dst (N := 5) rfl ?_); refine box_event ?hg (N := 5) ?hd (cs := #[.int .i64 a0_0, .slice A0_1 l0_1.length c0_1, .slice A0_2 l0_2.length c0_2]) (t := 25) ?hr ?_; (case hd => rfl); (case hg => rfl); (case hr => exact zq11); intro gb145 hg w49 hbox hb; have n_ := as4 (below_step zq3 hb) (hbox) ((zq31 : w.heap.size ≤ gb145)) ((zq31 : w.heap.size ≤ gb145)); clear HB hb hbox hg; obtain ⟨HB, BK145, GW145, GE145⟩ := n_; obtain ⟨hcz50_0, hcz50_1, hcz50_2, hfz50_0, hfz50_1, hfz50_2⟩ := bcs3 BK145.out) | (go_at_call 42; (with_reducible refine (culletref07_claim.calls k a0_0 _ _ l0_1 _ _ l0_2 a2 a3 t146 t147 t148 false _ ?side1 ?side2 ?side3 ?side4 A6.out).mono ?_); (case side1 => exact zq5); (case side2 => exact HC0_1.out); (case side3 => exact zq6); (case side4 => exact HC0_2.out); rintro e w51 ⟨rfl, hb⟩; have n_ := as2 (blk_below (zq0 BK145.out) hb) (below_step zq21 hb); clear BK145 HB; obtain ⟨BK145, HB⟩ := n_; (try clear hb); (try clear hb2); (try clear hk); (try clear hi)) | ((with_reducible refine gate_dst (N := 11) rfl ?_); refine box_event ?hg (N := 11) ?hd (cs := #[.int .i64 0, .int .i64 0, .int .i64 0]) (t := 68) ?hr ?_; (case hd => rfl); (case hg => rfl); (case hr => exact zq11); intro gb150 hg w52 hbox hb; have n_ := as7 (blk_below (zq0 BK145.out) hb) (below_step zq21 hb) (hbox) ((zq90 : w.heap.size ≤ gb150)) ((zq90 : w.heap.size ≤ gb150)) ((zq108 : gb145 ≠ gb150)) ((zq109 : gb150 ≠ gb145)); clear BK145 HB hb hbox hg; obtain ⟨BK145, HB, BK150, GW150, GE150, NB145_150, NB150_145⟩ := n_; have hnb53 := NB150_145.out; have hnc53 := NB145_150.out; obtain ⟨hcz54_0, hcz54_1, hcz54_2, hfz54_0, hfz54_1, hfz54_2⟩ := bcs3 BK150.out)); try go_wp2_with (first | ((with_reducible refine gate_dst (N := 5) rfl ?_); refine box_event ?hg (N := 5) ?hd (cs := #[.int .i64 a0_0, .slice A0_1 l0_1.length c0_1, .slice A0_2 l0_2.length c0_2]) (t := 25) ?hr ?_; (case hd => rfl); (case hg => rfl); (case hr => exact zq11); intro gb145 hg w49 hbox hb; have n_ := as4 (below_step zq3 hb) (hbox) ((zq31 : w.heap.size ≤ gb145)) ((zq31 : w.heap.size ≤ gb145)); clear HB hb hbox hg; obtain ⟨HB, BK145, GW145, GE145⟩ := n_; obtain ⟨hcz50_0, hcz50_1, hcz50_2, hfz50_0, hfz50_1, hfz50_2⟩ := bcs3 BK145.out) | (go_at_call 42; (with_reducible refine (culletref07_claim.calls k a0_0 _ _ l0_1 _ _ l0_2 a2 a3 t146 t147 t148 false _ ?side1 ?side2 ?side3 ?side4 A6.out).mono ?_); (case side1 => exact zq5); (case side2 => exact HC0_1.out); (case side3 => exact zq6); (case side4 => exact HC0_2.out); rintro e w51 ⟨rfl, hb⟩; have n_ := as2 (blk_below (zq0 BK145.out) hb) (below_step zq21 hb); clear BK145 HB; obtain ⟨BK145, HB⟩ := n_; (try clear hb); (try clear hb2); (try clear hk); (try clear hi)) | ((with_reducible refine gate_dst (N := 11) rfl ?_); refine box_event ?hg (N := 11) ?hd (cs := #[.int .i64 0, .int .i64 0, .int .i64 0]) (t := 68) ?hr ?_; (case hd => rfl); (case hg => rfl); (case hr => exact zq11); intro gb150 hg w52 hbox hb; have n_ := as7 (blk_below (zq0 BK145.out) hb) (below_step zq21 hb) (hbox) ((zq90 : w.heap.size ≤ gb150)) ((zq90 : w.heap.size ≤ gb150)) ((zq108 : gb145 ≠ gb150)) ((zq109 : gb150 ≠ gb145)); clear BK145 HB hb hbox hg; obtain ⟨BK145, HB, BK150, GW150, GE150, NB145_150, NB150_145⟩ := n_; have hnb53 := NB150_145.out; have hnc53 := NB145_150.out; obtain ⟨hcz54_0, hcz54_1, hcz54_2, hfz54_0, hfz54_1, hfz54_2⟩ := bcs3 BK150.out)))
  go_ret
  exact ⟨zq9, zq29⟩
def culletref07_how.l0 : Nat → List (S45) → Int → Int → Int → Int → Int → Int → List (S58) → List (S56) → Option (Int)
 | 0, _, _, _, _, _, _, _, _, _ => none
 | k + 1, x1, x2, x3, x4, x11, x12, x161000, x161001, x161002 => if x12 < (x161002.length : Int) then ((culletref07_trusted.f k x161000 x161001 x161002 x1 x12 x2 x3).bind fun t161 => (if t161 = x4 then (culletref07_how.l0 k x1 x2 x3 x4 (wrap64 (x11 + 1)) (wrap64 (x12 + 1)) x161000 x161001 x161002) else (culletref07_how.l0 k x1 x2 x3 x4 x11 (wrap64 (x12 + 1)) x161000 x161001 x161002))) else (some x11)
def culletref07_how.f (k : Nat) (a0_0 : Int) (l0_1 : List (S58)) (l0_2 : List (S56)) (l1 : List (S45)) (a2 : Int) (a3 : Int) (a4 : Int) : Option (Int) := culletref07_how.l0 k l1 a2 a3 a4 0 0 a0_0 l0_1 l0_2
set_option maxHeartbeats 8000000 in
set_option maxRecDepth 100000 in
theorem culletref07_how.calls (k : Nat) (a0_0 : Int) (A0_1 : Option Addr) (c0_1 : Nat) (l0_1 : List (S58)) (A0_2 : Option Addr) (c0_2 : Nat) (l0_2 : List (S56)) (A1 : Option Addr) (c1 : Nat) (l1 : List (S45)) (a2 : Int) (a3 : Int) (a4 : Int) (r : Int) (w : World) (hr0_1 : Kd.C k58 w A0_1 l0_1.length l0_1) (hc0_1 : l0_1.length ≤ c0_1) (hr0_2 : Kd.C k56 w A0_2 l0_2.length l0_2) (hc0_2 : l0_2.length ≤ c0_2) (hr1 : Kd.C k45 w A1 l1.length l1) (hc1 : l1.length ≤ c1) (h : culletref07_how.f k a0_0 l0_1 l0_2 l1 a2 a3 a4 = some r) :
  Calls Try.prog 77 #[.agg #[.int .i64 a0_0, .slice A0_1 l0_1.length c0_1, .slice A0_2 l0_2.length c0_2], .slice A1 l1.length c1, .int .i64 a2, .int .i64 a3, .int .u8 a4] w fun e w' => e = .returned (.int .i64 r) ∧ Below w.heap.size w w' := by
 have hu25 := Try.underlying25
 have HR0_1 := Aside0.mk hr0_1
 have HC0_1 := Aside0.mk hc0_1
 clear hr0_1 hc0_1
 have HR0_2 := Aside0.mk hr0_2
 have HC0_2 := Aside0.mk hc0_2
 clear hr0_2 hc0_2
 have HR1 := Aside0.mk hr1
 have HC1 := Aside0.mk hc1
 clear hr1 hc1
 have HB := Aside0.mk (Below.refl w.heap.size w)
 have H : (culletref07_how.l0 k l1 a2 a3 a4 0 0 a0_0 l0_1 l0_2) = some r := h
 clear h
 have H' := Aside0.mk H
 clear H
 go_enter Try.func77, Try.ntmps77
 go_wp2_with (first | ((with_reducible refine gate_dst (N := 5) rfl ?_); refine box_event ?hg (N := 5) ?hd (cs := #[.int .i64 a0_0, .slice A0_1 l0_1.length c0_1, .slice A0_2 l0_2.length c0_2]) (t := 25) ?hr ?_; (case hd => rfl); (case hg => rfl); (case hr => exact zq11); intro gb160 hg w6 hbox hb; have n_ := as4 (below_step zq3 hb) (hbox) ((zq31 : w.heap.size ≤ gb160)) ((zq31 : w.heap.size ≤ gb160)); clear HB hb hbox hg; obtain ⟨HB, BK160, GW160, GE160⟩ := n_))
 go_loopg [11, 12] k (fun kq v11 v12 w' => ∃ (x11_1 : Int) (x12_1 : Int), v11 = .int .i64 x11_1 ∧ v12 = .int .i64 x12_1 ∧ Aside0 (culletref07_how.l0 kq l1 a2 a3 a4 x11_1 x12_1 a0_0 l0_1 l0_2 = some r) ∧ Aside0 (kq ≤ k) ∧ Aside0 (w'.heap[gb160]? = some (.cells #[.int .i64 a0_0, (.slice A0_1 l0_1.length c0_1), (.slice A0_2 l0_2.length c0_2)] 25 (0, 0))) ∧ Aside0 (Below w.heap.size w w'))
 case atStart => exact ⟨(0), (0), zq10, zq10, H', ⟨Nat.le_refl _⟩, ⟨(zq0 BK160.out)⟩, ⟨zq52⟩⟩
 case round =>
  clear H'
  try clear c1
  try clear p2
  obtain ⟨x11_1, x12_1, rfl, rfl, HA, HK1, BK160, HB⟩ := hrel
  cases gk with
  | zero => exact absurd HA.out (by simp [culletref07_how.l0])
  | succ k1 =>
   have H := HA.out
   clear HA
   simp only [culletref07_how.l0] at H
   by_cases c7 : x12_1 < (l0_2.length : Int)
   ·rw [if_pos c7] at H
    have c7b0 : decide (x12_1 < (l0_2.length : Int)) = true := decide_eq_true c7
    clear c7
    replace H := Option.bind_eq_some_iff.mp H
    obtain ⟨t161, A80, H⟩ := H
    replace H : (if t161 = a4 then (culletref07_how.l0 k1 l1 a2 a3 a4 (wrap64 (x11_1 + 1)) (wrap64 (x12_1 + 1)) a0_0 l0_1 l0_2) else (culletref07_how.l0 k1 l1 a2 a3 a4 x11_1 (wrap64 (x12_1 + 1)) a0_0 l0_1 l0_2)) = some r := H
    have A8 := Aside0.mk A80
    clear A80
    by_cases c9 : t161 = a4
    ·rw [if_pos c9] at H
     have c9b0 : (t161 == a4) = true := beq_iff_eq.mpr c9
     have c9b1 : (t161 != a4) = false := bne_eq_false_iff_eq.mpr c9
     clear c9
     have H' := Aside0.mk H
     clear H
     obtain ⟨hcz10_0, hcz10_1, hcz10_2, hfz10_0, hfz10_1, hfz10_2⟩ := bcs3 BK160.out
     go_wp2_with (first | ((with_reducible refine gate_callee (f := 41) rfl ?_); refine goesL_ (some 25) rfl rfl Try.func41 zq22 rfl #[.agg #[.int .i64 a0_0, .slice A0_1 l0_1.length c0_1, .slice A0_2 l0_2.length c0_2], .slice A1 l1.length c1, .int .i64 x12_1, .int .i64 a2, .int .i64 a3] rfl zq4 ?_; (with_reducible refine (culletref07_trusted.calls k1 a0_0 _ _ l0_1 _ _ l0_2 _ _ l1 x12_1 a2 a3 t161 _ ?side1 ?side2 ?side3 ?side4 ?side5 ?side6 A8.out).mono ?_); (case side1 => exact zq5); (case side2 => exact HC0_1.out); (case side3 => exact zq6); (case side4 => exact HC0_2.out); (case side5 => exact zq12); (case side6 => exact HC1.out); rintro e w11 ⟨rfl, hb⟩; refine ⟨_, rfl, ?_⟩; have n_ := as2 (blk_below (zq0 BK160.out) hb) (below_step zq52 hb); clear BK160 HB; obtain ⟨BK160, HB⟩ := n_; (try clear hb); (try clear hb2); (try clear hk); (try clear hi)))
     go_roundg k1
     case measure => have := HK1.out; omega
     case rel => exact ⟨(wrap64 (x11_1 + 1)), (wrap64 (x12_1 + 1)), zq10, zq10, H', ⟨zq79⟩, ⟨(zq0 BK160.out)⟩, ⟨zq52⟩⟩
    ·rw [if_neg c9] at H
     have c9b0 : (t161 == a4) = false := beq_eq_false_iff_ne.mpr c9
     have c9b1 : (t161 != a4) = true := bne_iff_ne.mpr c9
     have H' := Aside0.mk H
     clear H
     obtain ⟨hcz12_0, hcz12_1, hcz12_2, hfz12_0, hfz12_1, hfz12_2⟩ := bcs3 BK160.out
     go_wp2_with (first | ((with_reducible refine gate_callee (f := 41) rfl ?_); refine goesL_ (some 25) rfl rfl Try.func41 zq22 rfl #[.agg #[.int .i64 a0_0, .slice A0_1 l0_1.length c0_1, .slice A0_2 l0_2.length c0_2], .slice A1 l1.length c1, .int .i64 x12_1, .int .i64 a2, .int .i64 a3] rfl zq4 ?_; (with_reducible refine (culletref07_trusted.calls k1 a0_0 _ _ l0_1 _ _ l0_2 _ _ l1 x12_1 a2 a3 t161 _ ?side1 ?side2 ?side3 ?side4 ?side5 ?side6 A8.out).mono ?_); (case side1 => exact zq5); (case side2 => exact HC0_1.out); (case side3 => exact zq6); (case side4 => exact HC0_2.out); (case side5 => exact zq12); (case side6 => exact HC1.out); rintro e w13 ⟨rfl, hb⟩; refine ⟨_, rfl, ?_⟩; have n_ := as2 (blk_below (zq0 BK160.out) hb) (below_step zq52 hb); clear BK160 HB; obtain ⟨BK160, HB⟩ := n_; (try clear hb); (try clear hb2); (try clear hk); (try clear hi)))
     go_roundg k1
     case measure => have := HK1.out; omega
     case rel => exact ⟨(x11_1), (wrap64 (x12_1 + 1)), zq10, zq10, H', ⟨zq79⟩, ⟨(zq0 BK160.out)⟩, ⟨zq52⟩⟩
   ·rw [if_neg c7] at H
    have c7b0 : decide (x12_1 < (l0_2.length : Int)) = false := decide_eq_false c7
    clear c7
    obtain rfl := Option.some.inj H
    obtain ⟨hcz14_0, hcz14_1, hcz14_2, hfz14_0, hfz14_1, hfz14_2⟩ := bcs3 BK160.out
    go_wp2
    go_ret
    exact ⟨zq9, zq52⟩
end Go.Proofs.Ytbpebehbfpgjbaa.P
end
