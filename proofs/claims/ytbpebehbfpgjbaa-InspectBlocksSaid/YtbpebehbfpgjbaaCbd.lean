/- Texts of the proof, joined: what they prove stands at each theorem. -/
import Derived.Test.YtbpebehbfpgjbaaCbb
import Derived.Test.YtbpebehbfpgjbaaCbc
section
namespace Go.Proofs.Ytbpebehbfpgjbaa.P
open Go.RowKit Go.Proofs.YtbpebehbfpgjbaaW.PrintWords Go.Proofs.YtbpebehbfpgjbaaW.PrintLast Go.Proofs.YtbpebehbfpgjbaaW.PrintMore
attribute [local go_sem] max2_int min2_int max_two min_two max_three min_three max_four min_four
set_option linter.unusedVariables false
set_option linter.unusedSimpArgs false
mutual
def culletref07_Check.j0 : Nat → Bool → Int → List (S58) → List (S56) → Option (Int)
 | 0, _, _, _, _ => none
 | k + 1, x14, x115000, x115001, x115002 => if x14 = true then (some 1) else (if (x115001.length : Int) > 8 then (some 3) else (culletref07_Check.l0 k 0 x115000 x115001 x115002))
def culletref07_Check.l0 : Nat → Int → Int → List (S58) → List (S56) → Option (Int)
 | 0, _, _, _, _ => none
 | k + 1, x3, x115000, x115001, x115002 => if x3 < (x115001.length : Int) then (if 0 ≤ x3 then ((culletref04_Name.f k ((rd_T58 x115001 x3).f0)).bind fun t117 => (if t117 = true then ((culletref07_flaw.f k x115000 x115001 x115002 ((rd_T58 x115001 x3).f0)).bind fun t118 => (if t118 < x3 then (some 6) else (if ((rd_T58 x115001 x3).f1) < 0 then (some 1) else (if ((rd_T58 x115001 x3).f1) > 4 then (some 1) else (culletref07_Check.l0 k (wrap64 (x3 + 1)) x115000 x115001 x115002))))) else (some 5))) else (none)) else (if (x115002.length : Int) > 4 then (some 3) else (culletref07_Check.l1 k 0 x115000 x115001 x115002))
def culletref07_Check.l1 : Nat → Int → Int → List (S58) → List (S56) → Option (Int)
 | 0, _, _, _, _ => none
 | k + 1, x5, x115000, x115001, x115002 => if x5 < (x115002.length : Int) then (if 0 ≤ x5 then ((culletref04_Name.f k ((rd_T56 x115002 x5).f0)).bind fun t120 => (if t120 = true then ((culletref07_stand.f k x115000 x115001 x115002 ((rd_T56 x115002 x5).f0)).bind fun t122 => (if t122 < x5 then (some 6) else ((culletref07_checkStand.f k x115000 x115001 x115002 ((rd_T56 x115002 x5).f0) ((rd_T56 x115002 x5).f1)).bind fun t124 => (if t124 = 0 then (culletref07_Check.l1 k (wrap64 (x5 + 1)) x115000 x115001 x115002) else (some t124))))) else (some 5))) else (none)) else (some 0)
end
def culletref07_Check.f (k : Nat) (a0_0 : Int) (l0_1 : List (S58)) (l0_2 : List (S56)) : Option (Int) := if a0_0 < 1 then (culletref07_Check.j0 k true a0_0 l0_1 l0_2) else (culletref07_Check.j0 k (decide (a0_0 > 1000000000)) a0_0 l0_1 l0_2)
def culletref07_Check.T22 : Bool × List (List Nat × List Nat) := (true, [([], []), ([], []), ([1], [1]), ([], []), ([2, 3], [2, 3]), ([4], [4]), ([5], [5]), ([0, 6], [0, 6]), ([], []), ([7, 8], [7, 8])])
def culletref07_Check.B22 : List Nat := [0, 0, 2, 0, 14, 30, 62, 127, 0, 511]
theorem culletref07_Check.tab22 : rtab .any (opsOf Try.f22 22) = culletref07_Check.T22 := by kernel_rfl
theorem culletref07_Check.bits22 : waitsOk culletref07_Check.T22.2 culletref07_Check.B22 = true := by kernel_rfl
def culletref07_Check.T24 : Bool × List (List Nat × List Nat) := (true, [([], []), ([], []), ([1], [1]), ([], []), ([2, 3], [2, 3]), ([4], [4]), ([0, 5], [0, 5]), ([6, 6, 0, 1, 2, 3, 4, 5, 6], [6])])
def culletref07_Check.B24 : List Nat := [0, 0, 2, 0, 14, 30, 63, 127]
theorem culletref07_Check.tab24 : rtab .any (opsOf Try.f22 24) = culletref07_Check.T24 := by kernel_rfl
theorem culletref07_Check.bits24 : waitsOk culletref07_Check.T24.2 culletref07_Check.B24 = true := by kernel_rfl
set_option maxHeartbeats 8000000 in
set_option maxRecDepth 100000 in
theorem culletref07_Check.calls (k : Nat) (a0_0 : Int) (A0_1 : Option Addr) (c0_1 : Nat) (l0_1 : List (S58)) (A0_2 : Option Addr) (c0_2 : Nat) (l0_2 : List (S56)) (r : Int) (w : World) (hr0_1 : Kd.C k58 w A0_1 l0_1.length l0_1) (hc0_1 : l0_1.length ≤ c0_1) (hr0_2 : Kd.C k56 w A0_2 l0_2.length l0_2) (hc0_2 : l0_2.length ≤ c0_2) (h : culletref07_Check.f k a0_0 l0_1 l0_2 = some r) :
  Calls Try.prog 22 #[.agg #[.int .i64 a0_0, .slice A0_1 l0_1.length c0_1, .slice A0_2 l0_2.length c0_2]] w fun e w' => e = .returned (.int .i64 r) ∧ Below w.heap.size w w' := by
 have hu25 := Try.underlying25
 have hu58 := Try.underlying58
 have hu56 := Try.underlying56
 have HR0_1 := Aside0.mk hr0_1
 have HC0_1 := Aside0.mk hc0_1
 clear hr0_1 hc0_1
 have HR0_2 := Aside0.mk hr0_2
 have HC0_2 := Aside0.mk hc0_2
 clear hr0_2 hc0_2
 have HB := Aside0.mk (Below.refl w.heap.size w)
 have H : (if a0_0 < 1 then (culletref07_Check.j0 k true a0_0 l0_1 l0_2) else (culletref07_Check.j0 k (decide (a0_0 > 1000000000)) a0_0 l0_1 l0_2)) = some r := h
 clear h
 have HC2 := Aside0.mk H
 clear H
 go_enter Try.func22, Try.ntmps22
 go_upto_region 1 with (first | ((with_reducible refine gate_dst (N := 1) rfl ?_); refine box_event ?hg (N := 1) ?hd (cs := #[.int .i64 a0_0, .slice A0_1 l0_1.length c0_1, .slice A0_2 l0_2.length c0_2]) (t := 25) ?hr ?_; (case hd => rfl); (case hg => rfl); (case hr => exact zq11); intro gb114 hg w3 hbox hb; have n_ := as4 (below_step zq3 hb) (hbox) ((zq31 : w.heap.size ≤ gb114)) ((zq31 : w.heap.size ≤ gb114)); clear HB hb hbox hg; obtain ⟨HB, BK114, GW114, GE114⟩ := n_))
 (try simp only [Act.put, List.setIfInBounds_toArray, List.set_cons_zero, List.set_cons_succ])
 go_cut [14] (fun v14 wc => ∃ (kq : Nat) (x14_1 : Bool), v14 = .bool x14_1 ∧ Aside0 (culletref07_Check.j0 kq x14_1 a0_0 l0_1 l0_2 = some r) ∧ Aside0 (kq ≤ k) ∧ Aside0 (wc.heap[gb114]? = some (.cells #[.int .i64 a0_0, (.slice A0_1 l0_1.length c0_1), (.slice A0_2 l0_2.length c0_2)] 25 (0, 0))) ∧ Aside0 (Below w.heap.size w wc))
 case first =>
  have H := HC2.out
  clear HC2
  by_cases c4 : a0_0 < 1
  ·rw [if_pos c4] at H
   have c4b0 : decide (a0_0 < 1) = true := decide_eq_true c4
   clear c4
   (first | rw [c4b0] | (simp only [i64_w, i32_w]; rw [c4b0]) | skip)
   have H' := Aside0.mk H
   clear H
   obtain ⟨hcz5_0, hcz5_1, hcz5_2, hfz5_0, hfz5_1, hfz5_2⟩ := bcs3 BK114.out
   go_wp2
   go_meet
   case rel => exact ⟨_, (true), zq10, H', ⟨zq50⟩, ⟨(zq0 BK114.out)⟩, ⟨zq13⟩⟩
  ·rw [if_neg c4] at H
   have c4b0 : decide (a0_0 < 1) = false := decide_eq_false c4
   clear c4
   (first | rw [c4b0] | (simp only [i64_w, i32_w]; rw [c4b0]) | skip)
   have H' := Aside0.mk H
   clear H
   obtain ⟨hcz6_0, hcz6_1, hcz6_2, hfz6_0, hfz6_1, hfz6_2⟩ := bcs3 BK114.out
   go_wp2
   go_meet
   case rel => exact ⟨_, (decide (a0_0 > 1000000000)), zq10, H', ⟨zq50⟩, ⟨(zq0 BK114.out)⟩, ⟨zq13⟩⟩
 case rest =>
  clear HC2
  try clear c2
  try clear p2
  try clear c4
  try clear c4b0
  try clear hcz5_0 hcz5_1 hcz5_2 hfz5_0 hfz5_1 hfz5_2
  try clear hcz6_0 hcz6_1 hcz6_2 hfz6_0 hfz6_1 hfz6_2
  obtain ⟨kq, x14_1, rfl, HA, HJ1, BK114, HB⟩ := hcut
  cases kq with
  | zero => exact absurd HA.out (by simp [culletref07_Check.j0])
  | succ kj1 =>
   have H := HA.out
   clear HA
   simp only [culletref07_Check.j0] at H
   by_cases c7 : x14_1 = true
   ·subst c7
    have H1 : (some 1) = some r := by rw [if_pos rfl] at H; exact H
    clear H
    have H := H1
    clear H1
    obtain rfl := Option.some.inj H
    go_wp2
    go_ret
    exact ⟨zq9, zq13⟩
   ·replace c7 := Bool.eq_false_iff.mpr c7
    subst c7
    have H1 : (if (l0_1.length : Int) > 8 then (some 3) else (culletref07_Check.l0 kj1 0 a0_0 l0_1 l0_2)) = some r := by rw [if_neg (show ¬ (false = true) by decide)] at H; exact H
    clear H
    have H := H1
    clear H1
    by_cases c8 : (l0_1.length : Int) > 8
    ·rw [if_pos c8] at H
     have c8b0 : decide (8 < (l0_1.length : Int)) = true := decide_eq_true c8
     have c8b1 : decide (8 < l0_1.length) = true := decide_eq_true zq17
     clear c8
     obtain rfl := Option.some.inj H
     obtain ⟨hcz9_0, hcz9_1, hcz9_2, hfz9_0, hfz9_1, hfz9_2⟩ := bcs3 BK114.out
     go_wp2
     go_ret
     exact ⟨zq9, zq13⟩
    ·rw [if_neg c8] at H
     have c8b0 : decide (8 < (l0_1.length : Int)) = false := decide_eq_false c8
     have c8b1 : decide (8 < l0_1.length) = false := decide_eq_false zq17
     clear c8
     have H' := Aside0.mk H
     clear H
     obtain ⟨hcz10_0, hcz10_1, hcz10_2, hfz10_0, hfz10_1, hfz10_2⟩ := bcs3 BK114.out
     go_wp2
     go_loopg [3] kj1 (fun kq v3 w' => ∃ (x3_2 : Int), v3 = .int .i64 x3_2 ∧ Aside0 (culletref07_Check.l0 kq x3_2 a0_0 l0_1 l0_2 = some r) ∧ Aside0 (kq ≤ kj1) ∧ Aside0 (w'.heap[gb114]? = some (.cells #[.int .i64 a0_0, (.slice A0_1 l0_1.length c0_1), (.slice A0_2 l0_2.length c0_2)] 25 (0, 0))) ∧ Aside0 (Below w.heap.size w w'))
     case atStart => exact ⟨(0), zq10, H', ⟨Nat.le_refl _⟩, ⟨(zq0 BK114.out)⟩, ⟨zq13⟩⟩
     case round =>
      clear H'
      try clear c2
      try clear p2 p2
      try clear c4
      try clear c4b0
      try clear c7
      try clear c8
      try clear c8b0
      try clear c8b1
      try clear hcz10_0 hcz10_1 hcz10_2 hfz10_0 hfz10_1 hfz10_2
      try clear hcz5_0 hcz5_1 hcz5_2 hfz5_0 hfz5_1 hfz5_2
      try clear hcz6_0 hcz6_1 hcz6_2 hfz6_0 hfz6_1 hfz6_2
      try clear hcz9_0 hcz9_1 hcz9_2 hfz9_0 hfz9_1 hfz9_2
      obtain ⟨x3_2, rfl, HA, HK2, BK114, HB⟩ := hrel
      cases gk with
      | zero => exact absurd HA.out (by simp [culletref07_Check.l0])
      | succ k2 =>
       have H := HA.out
       clear HA
       simp only [culletref07_Check.l0] at H
       by_cases c11 : x3_2 < (l0_1.length : Int)
       ·rw [if_pos c11] at H
        have c11b0 : decide (x3_2 < (l0_1.length : Int)) = true := decide_eq_true c11
        clear c11
        by_cases c12 : 0 ≤ x3_2
        ·rw [if_pos c12] at H
         have c12b0 : decide (0 ≤ x3_2) = true := decide_eq_true c12
         clear c12
         replace H := Option.bind_eq_some_iff.mp H
         obtain ⟨t117, A130, H⟩ := H
         replace H : (if t117 = true then ((culletref07_flaw.f k2 a0_0 l0_1 l0_2 ((rd_T58 l0_1 x3_2).f0)).bind fun t118 => (if t118 < x3_2 then (some 6) else (if ((rd_T58 l0_1 x3_2).f1) < 0 then (some 1) else (if ((rd_T58 l0_1 x3_2).f1) > 4 then (some 1) else (culletref07_Check.l0 k2 (wrap64 (x3_2 + 1)) a0_0 l0_1 l0_2))))) else (some 5)) = some r := H
         have A13 := Aside0.mk A130
         clear A130
         by_cases c14 : t117 = true
         ·subst c14
          have H1 : ((culletref07_flaw.f k2 a0_0 l0_1 l0_2 ((rd_T58 l0_1 x3_2).f0)).bind fun t118 => (if t118 < x3_2 then (some 6) else (if ((rd_T58 l0_1 x3_2).f1) < 0 then (some 1) else (if ((rd_T58 l0_1 x3_2).f1) > 4 then (some 1) else (culletref07_Check.l0 k2 (wrap64 (x3_2 + 1)) a0_0 l0_1 l0_2))))) = some r := by rw [if_pos rfl] at H; exact H
          clear H
          have H := H1
          clear H1
          replace H := Option.bind_eq_some_iff.mp H
          obtain ⟨t118, A150, H⟩ := H
          replace H : (if t118 < x3_2 then (some 6) else (if ((rd_T58 l0_1 x3_2).f1) < 0 then (some 1) else (if ((rd_T58 l0_1 x3_2).f1) > 4 then (some 1) else (culletref07_Check.l0 k2 (wrap64 (x3_2 + 1)) a0_0 l0_1 l0_2)))) = some r := H
          have A15 := Aside0.mk A150
          clear A150
          by_cases c16 : t118 < x3_2
          ·rw [if_pos c16] at H
           have c16b0 : decide (t118 < x3_2) = true := decide_eq_true c16
           clear c16
           obtain rfl := Option.some.inj H
           obtain ⟨hcz17_0, hcz17_1, hcz17_2, hfz17_0, hfz17_1, hfz17_2⟩ := bcs3 BK114.out
           have p115 : 0 ≤ (x3_2 : Int) := of_decide_eq_true zq7
           have q115 : x3_2 < (l0_1.length : Int) := of_decide_eq_true zq7
           obtain ⟨ad115, e115, hx115_0, hx115_1⟩ := at_T58 HR0_1.out x3_2 p115 q115
           cases e115
           replace hx115_0 := hcx HB.out hx115_0
           replace hx115_1 := hcx HB.out hx115_1
           replace p115 := eq_true p115
           replace q115 := eq_true q115
           go_wp2_with (first | ((with_reducible refine gate_dst (N := 4) rfl ?_); refine box_event ?hg (N := 4) ?hd (cs := #[.string (⟨#[]⟩ : ByteArray), .int .i64 0]) (t := 58) ?hr ?_; (case hd => rfl); (case hg => rfl); (case hr => exact zq11); intro gb116 hg w18 hbox hb; have n_ := as7 (blk_below (zq0 BK114.out) hb) (below_step zq13 hb) (hbox) ((zq104 : w.heap.size ≤ gb116)) ((zq104 : w.heap.size ≤ gb116)) ((zq114 : gb114 ≠ gb116)) ((zq115 : gb116 ≠ gb114)); clear BK114 HB hb hbox hg; obtain ⟨BK114, HB, BK116, GW116, GE116, NB114_116, NB116_114⟩ := n_; have hnb19 := NB116_114.out; have hnc19 := NB114_116.out; obtain ⟨hcz20_0, hcz20_1, hfz20_0, hfz20_1⟩ := bcs2 BK116.out) | ((with_reducible refine gate_callee (f := 52) rfl ?_); refine goesL_ (some 33) rfl rfl Try.func52 zq22 rfl #[.string ((rd_T58 l0_1 x3_2).f0)] rfl zq4 ?_; (with_reducible refine (culletref04_Name.calls k2 ((rd_T58 l0_1 x3_2).f0) true _ A13.out).mono ?_); rintro e w' ⟨rfl, ⟨nd, rfl⟩⟩; refine ⟨_, rfl, ?_⟩; obtain ⟨hcz21_0, hcz21_1, hcz21_2, hfz21_0, hfz21_1, hfz21_2⟩ := bcs3 BK114.out) | ((with_reducible refine gate_callee (f := 53) rfl ?_); refine goesL_ (some 38) rfl rfl Try.func53 zq22 rfl #[.agg #[.int .i64 a0_0, .slice (some ad115) l0_1.length c0_1, .slice A0_2 l0_2.length c0_2], .string ((rd_T58 l0_1 x3_2).f0)] rfl zq4 ?_; (with_reducible refine (culletref07_flaw.calls k2 a0_0 _ _ l0_1 _ _ l0_2 ((rd_T58 l0_1 x3_2).f0) t118 _ ?side1 ?side2 ?side3 ?side4 A15.out).mono ?_); (case side1 => exact Kd.C_below HR0_1.out zq27); (case side2 => exact HC0_1.out); (case side3 => exact Kd.C_below HR0_2.out zq27); (case side4 => exact HC0_2.out); rintro e w22 ⟨rfl, hb⟩; refine ⟨_, rfl, ?_⟩; have n_ := as3 (blk_below (g := gb114) (o := .cells #[.int .i64 a0_0, .slice (some ad115) l0_1.length c0_1, .slice A0_2 l0_2.length c0_2] 25 (0, 0)) (bch1 NB114_116.out BK114.out) hb) (blk_below (g := gb116) (o := .cells #[.string ((rd_T58 l0_1 x3_2).f0), .int .i64 ((rd_T58 l0_1 x3_2).f1)] 58 (0, 0)) (bch0p BK116.out) hb) (below_step zq27 hb); clear BK114 BK116 HB; obtain ⟨BK114, BK116, HB⟩ := n_; (try clear hb); (try clear hb2); (try clear hk); (try clear hi)))
           go_ret
           exact ⟨zq9, zq27⟩
          ·rw [if_neg c16] at H
           have c16b0 : decide (t118 < x3_2) = false := decide_eq_false c16
           clear c16
           by_cases c23 : ((rd_T58 l0_1 x3_2).f1) < 0
           ·rw [if_pos c23] at H
            have c23b0 : decide (((rd_T58 l0_1 x3_2).f1) < 0) = true := decide_eq_true c23
            clear c23
            obtain rfl := Option.some.inj H
            obtain ⟨hcz24_0, hcz24_1, hcz24_2, hfz24_0, hfz24_1, hfz24_2⟩ := bcs3 BK114.out
            have p115 : 0 ≤ (x3_2 : Int) := of_decide_eq_true zq7
            have q115 : x3_2 < (l0_1.length : Int) := of_decide_eq_true zq7
            obtain ⟨ad115, e115, hx115_0, hx115_1⟩ := at_T58 HR0_1.out x3_2 p115 q115
            cases e115
            replace hx115_0 := hcx HB.out hx115_0
            replace hx115_1 := hcx HB.out hx115_1
            replace p115 := eq_true p115
            replace q115 := eq_true q115
            go_wp2_with (first | ((with_reducible refine gate_dst (N := 4) rfl ?_); refine box_event ?hg (N := 4) ?hd (cs := #[.string (⟨#[]⟩ : ByteArray), .int .i64 0]) (t := 58) ?hr ?_; (case hd => rfl); (case hg => rfl); (case hr => exact zq11); intro gb116 hg w25 hbox hb; have n_ := as7 (blk_below (zq0 BK114.out) hb) (below_step zq13 hb) (hbox) ((zq104 : w.heap.size ≤ gb116)) ((zq104 : w.heap.size ≤ gb116)) ((zq114 : gb114 ≠ gb116)) ((zq115 : gb116 ≠ gb114)); clear BK114 HB hb hbox hg; obtain ⟨BK114, HB, BK116, GW116, GE116, NB114_116, NB116_114⟩ := n_; have hnb26 := NB116_114.out; have hnc26 := NB114_116.out; obtain ⟨hcz27_0, hcz27_1, hfz27_0, hfz27_1⟩ := bcs2 BK116.out) | ((with_reducible refine gate_callee (f := 52) rfl ?_); refine goesL_ (some 33) rfl rfl Try.func52 zq22 rfl #[.string ((rd_T58 l0_1 x3_2).f0)] rfl zq4 ?_; (with_reducible refine (culletref04_Name.calls k2 ((rd_T58 l0_1 x3_2).f0) true _ A13.out).mono ?_); rintro e w' ⟨rfl, ⟨nd, rfl⟩⟩; refine ⟨_, rfl, ?_⟩; obtain ⟨hcz28_0, hcz28_1, hcz28_2, hfz28_0, hfz28_1, hfz28_2⟩ := bcs3 BK114.out) | ((with_reducible refine gate_callee (f := 53) rfl ?_); refine goesL_ (some 38) rfl rfl Try.func53 zq22 rfl #[.agg #[.int .i64 a0_0, .slice (some ad115) l0_1.length c0_1, .slice A0_2 l0_2.length c0_2], .string ((rd_T58 l0_1 x3_2).f0)] rfl zq4 ?_; (with_reducible refine (culletref07_flaw.calls k2 a0_0 _ _ l0_1 _ _ l0_2 ((rd_T58 l0_1 x3_2).f0) t118 _ ?side1 ?side2 ?side3 ?side4 A15.out).mono ?_); (case side1 => exact Kd.C_below HR0_1.out zq27); (case side2 => exact HC0_1.out); (case side3 => exact Kd.C_below HR0_2.out zq27); (case side4 => exact HC0_2.out); rintro e w29 ⟨rfl, hb⟩; refine ⟨_, rfl, ?_⟩; have n_ := as3 (blk_below (g := gb114) (o := .cells #[.int .i64 a0_0, .slice (some ad115) l0_1.length c0_1, .slice A0_2 l0_2.length c0_2] 25 (0, 0)) (bch1 NB114_116.out BK114.out) hb) (blk_below (g := gb116) (o := .cells #[.string ((rd_T58 l0_1 x3_2).f0), .int .i64 ((rd_T58 l0_1 x3_2).f1)] 58 (0, 0)) (bch0p BK116.out) hb) (below_step zq27 hb); clear BK114 BK116 HB; obtain ⟨BK114, BK116, HB⟩ := n_; (try clear hb); (try clear hb2); (try clear hk); (try clear hi); obtain ⟨hcz30_0, hcz30_1, hfz30_0, hfz30_1⟩ := bcs2 BK116.out))
            go_ret
            exact ⟨zq9, zq27⟩
           ·rw [if_neg c23] at H
            have c23b0 : decide (((rd_T58 l0_1 x3_2).f1) < 0) = false := decide_eq_false c23
            clear c23
            by_cases c31 : ((rd_T58 l0_1 x3_2).f1) > 4
            ·rw [if_pos c31] at H
             have c31b0 : decide (4 < ((rd_T58 l0_1 x3_2).f1)) = true := decide_eq_true c31
             clear c31
             obtain rfl := Option.some.inj H
             obtain ⟨hcz32_0, hcz32_1, hcz32_2, hfz32_0, hfz32_1, hfz32_2⟩ := bcs3 BK114.out
             have p115 : 0 ≤ (x3_2 : Int) := of_decide_eq_true zq7
             have q115 : x3_2 < (l0_1.length : Int) := of_decide_eq_true zq7
             obtain ⟨ad115, e115, hx115_0, hx115_1⟩ := at_T58 HR0_1.out x3_2 p115 q115
             cases e115
             replace hx115_0 := hcx HB.out hx115_0
             replace hx115_1 := hcx HB.out hx115_1
             replace p115 := eq_true p115
             replace q115 := eq_true q115
             go_wp2_with (first | ((with_reducible refine gate_dst (N := 4) rfl ?_); refine box_event ?hg (N := 4) ?hd (cs := #[.string (⟨#[]⟩ : ByteArray), .int .i64 0]) (t := 58) ?hr ?_; (case hd => rfl); (case hg => rfl); (case hr => exact zq11); intro gb116 hg w33 hbox hb; have n_ := as7 (blk_below (zq0 BK114.out) hb) (below_step zq13 hb) (hbox) ((zq104 : w.heap.size ≤ gb116)) ((zq104 : w.heap.size ≤ gb116)) ((zq114 : gb114 ≠ gb116)) ((zq115 : gb116 ≠ gb114)); clear BK114 HB hb hbox hg; obtain ⟨BK114, HB, BK116, GW116, GE116, NB114_116, NB116_114⟩ := n_; have hnb34 := NB116_114.out; have hnc34 := NB114_116.out; obtain ⟨hcz35_0, hcz35_1, hfz35_0, hfz35_1⟩ := bcs2 BK116.out) | ((with_reducible refine gate_callee (f := 52) rfl ?_); refine goesL_ (some 33) rfl rfl Try.func52 zq22 rfl #[.string ((rd_T58 l0_1 x3_2).f0)] rfl zq4 ?_; (with_reducible refine (culletref04_Name.calls k2 ((rd_T58 l0_1 x3_2).f0) true _ A13.out).mono ?_); rintro e w' ⟨rfl, ⟨nd, rfl⟩⟩; refine ⟨_, rfl, ?_⟩; obtain ⟨hcz36_0, hcz36_1, hcz36_2, hfz36_0, hfz36_1, hfz36_2⟩ := bcs3 BK114.out) | ((with_reducible refine gate_callee (f := 53) rfl ?_); refine goesL_ (some 38) rfl rfl Try.func53 zq22 rfl #[.agg #[.int .i64 a0_0, .slice (some ad115) l0_1.length c0_1, .slice A0_2 l0_2.length c0_2], .string ((rd_T58 l0_1 x3_2).f0)] rfl zq4 ?_; (with_reducible refine (culletref07_flaw.calls k2 a0_0 _ _ l0_1 _ _ l0_2 ((rd_T58 l0_1 x3_2).f0) t118 _ ?side1 ?side2 ?side3 ?side4 A15.out).mono ?_); (case side1 => exact Kd.C_below HR0_1.out zq27); (case side2 => exact HC0_1.out); (case side3 => exact Kd.C_below HR0_2.out zq27); (case side4 => exact HC0_2.out); rintro e w37 ⟨rfl, hb⟩; refine ⟨_, rfl, ?_⟩; have n_ := as3 (blk_below (g := gb114) (o := .cells #[.int .i64 a0_0, .slice (some ad115) l0_1.length c0_1, .slice A0_2 l0_2.length c0_2] 25 (0, 0)) (bch1 NB114_116.out BK114.out) hb) (blk_below (g := gb116) (o := .cells #[.string ((rd_T58 l0_1 x3_2).f0), .int .i64 ((rd_T58 l0_1 x3_2).f1)] 58 (0, 0)) (bch0p BK116.out) hb) (below_step zq27 hb); clear BK114 BK116 HB; obtain ⟨BK114, BK116, HB⟩ := n_; (try clear hb); (try clear hb2); (try clear hk); (try clear hi); obtain ⟨hcz38_0, hcz38_1, hfz38_0, hfz38_1⟩ := bcs2 BK116.out))
             go_ret
             exact ⟨zq9, zq27⟩
            ·rw [if_neg c31] at H
             have c31b0 : decide (4 < ((rd_T58 l0_1 x3_2).f1)) = false := decide_eq_false c31
             clear c31
             have H' := Aside0.mk H
             clear H
             obtain ⟨hcz39_0, hcz39_1, hcz39_2, hfz39_0, hfz39_1, hfz39_2⟩ := bcs3 BK114.out
             have p115 : 0 ≤ (x3_2 : Int) := of_decide_eq_true zq7
             have q115 : x3_2 < (l0_1.length : Int) := of_decide_eq_true zq7
             obtain ⟨ad115, e115, hx115_0, hx115_1⟩ := at_T58 HR0_1.out x3_2 p115 q115
             cases e115
             replace hx115_0 := hcx HB.out hx115_0
             replace hx115_1 := hcx HB.out hx115_1
             replace p115 := eq_true p115
             replace q115 := eq_true q115
             go_wp2_with (first | ((with_reducible refine gate_dst (N := 4) rfl ?_); refine box_event ?hg (N := 4) ?hd (cs := #[.string (⟨#[]⟩ : ByteArray), .int .i64 0]) (t := 58) ?hr ?_; (case hd => rfl); (case hg => rfl); (case hr => exact zq11); intro gb116 hg w40 hbox hb; have n_ := as7 (blk_below (zq0 BK114.out) hb) (below_step zq13 hb) (hbox) ((zq104 : w.heap.size ≤ gb116)) ((zq104 : w.heap.size ≤ gb116)) ((zq114 : gb114 ≠ gb116)) ((zq115 : gb116 ≠ gb114)); clear BK114 HB hb hbox hg; obtain ⟨BK114, HB, BK116, GW116, GE116, NB114_116, NB116_114⟩ := n_; have hnb41 := NB116_114.out; have hnc41 := NB114_116.out; obtain ⟨hcz42_0, hcz42_1, hfz42_0, hfz42_1⟩ := bcs2 BK116.out) | ((with_reducible refine gate_callee (f := 52) rfl ?_); refine goesL_ (some 33) rfl rfl Try.func52 zq22 rfl #[.string ((rd_T58 l0_1 x3_2).f0)] rfl zq4 ?_; (with_reducible refine (culletref04_Name.calls k2 ((rd_T58 l0_1 x3_2).f0) true _ A13.out).mono ?_); rintro e w' ⟨rfl, ⟨nd, rfl⟩⟩; refine ⟨_, rfl, ?_⟩; obtain ⟨hcz43_0, hcz43_1, hcz43_2, hfz43_0, hfz43_1, hfz43_2⟩ := bcs3 BK114.out) | ((with_reducible refine gate_callee (f := 53) rfl ?_); refine goesL_ (some 38) rfl rfl Try.func53 zq22 rfl #[.agg #[.int .i64 a0_0, .slice (some ad115) l0_1.length c0_1, .slice A0_2 l0_2.length c0_2], .string ((rd_T58 l0_1 x3_2).f0)] rfl zq4 ?_; (with_reducible refine (culletref07_flaw.calls k2 a0_0 _ _ l0_1 _ _ l0_2 ((rd_T58 l0_1 x3_2).f0) t118 _ ?side1 ?side2 ?side3 ?side4 A15.out).mono ?_); (case side1 => exact Kd.C_below HR0_1.out zq27); (case side2 => exact HC0_1.out); (case side3 => exact Kd.C_below HR0_2.out zq27); (case side4 => exact HC0_2.out); rintro e w44 ⟨rfl, hb⟩; refine ⟨_, rfl, ?_⟩; have n_ := as3 (blk_below (g := gb114) (o := .cells #[.int .i64 a0_0, .slice (some ad115) l0_1.length c0_1, .slice A0_2 l0_2.length c0_2] 25 (0, 0)) (bch1 NB114_116.out BK114.out) hb) (blk_below (g := gb116) (o := .cells #[.string ((rd_T58 l0_1 x3_2).f0), .int .i64 ((rd_T58 l0_1 x3_2).f1)] 58 (0, 0)) (bch0p BK116.out) hb) (below_step zq27 hb); clear BK114 BK116 HB; obtain ⟨BK114, BK116, HB⟩ := n_; (try clear hb); (try clear hb2); (try clear hk); (try clear hi); obtain ⟨hcz45_0, hcz45_1, hfz45_0, hfz45_1⟩ := bcs2 BK116.out))
             go_roundg k2
             case measure => have := HJ1.out; have := HK2.out; omega
             case rel => exact ⟨(wrap64 (x3_2 + 1)), zq10, H', ⟨zq67⟩, ⟨(zq0 BK114.out)⟩, ⟨zq27⟩⟩
         ·replace c14 := Bool.eq_false_iff.mpr c14
          subst c14
          have H1 : (some 5) = some r := by rw [if_neg (show ¬ (false = true) by decide)] at H; exact H
          clear H
          have H := H1
          clear H1
          obtain rfl := Option.some.inj H
          obtain ⟨hcz46_0, hcz46_1, hcz46_2, hfz46_0, hfz46_1, hfz46_2⟩ := bcs3 BK114.out
          have p115 : 0 ≤ (x3_2 : Int) := of_decide_eq_true zq7
          have q115 : x3_2 < (l0_1.length : Int) := of_decide_eq_true zq7
          obtain ⟨ad115, e115, hx115_0, hx115_1⟩ := at_T58 HR0_1.out x3_2 p115 q115
          cases e115
          replace hx115_0 := hcx HB.out hx115_0
          replace hx115_1 := hcx HB.out hx115_1
          replace p115 := eq_true p115
          replace q115 := eq_true q115
          go_wp2_with (first | ((with_reducible refine gate_dst (N := 4) rfl ?_); refine box_event ?hg (N := 4) ?hd (cs := #[.string (⟨#[]⟩ : ByteArray), .int .i64 0]) (t := 58) ?hr ?_; (case hd => rfl); (case hg => rfl); (case hr => exact zq11); intro gb116 hg w47 hbox hb; have n_ := as7 (blk_below (zq0 BK114.out) hb) (below_step zq13 hb) (hbox) ((zq104 : w.heap.size ≤ gb116)) ((zq104 : w.heap.size ≤ gb116)) ((zq114 : gb114 ≠ gb116)) ((zq115 : gb116 ≠ gb114)); clear BK114 HB hb hbox hg; obtain ⟨BK114, HB, BK116, GW116, GE116, NB114_116, NB116_114⟩ := n_; have hnb48 := NB116_114.out; have hnc48 := NB114_116.out; obtain ⟨hcz49_0, hcz49_1, hfz49_0, hfz49_1⟩ := bcs2 BK116.out) | ((with_reducible refine gate_callee (f := 52) rfl ?_); refine goesL_ (some 33) rfl rfl Try.func52 zq22 rfl #[.string ((rd_T58 l0_1 x3_2).f0)] rfl zq4 ?_; (with_reducible refine (culletref04_Name.calls k2 ((rd_T58 l0_1 x3_2).f0) false _ A13.out).mono ?_); rintro e w' ⟨rfl, ⟨nd, rfl⟩⟩; refine ⟨_, rfl, ?_⟩))
          go_ret
          exact ⟨zq9, zq27⟩
        ·rw [if_neg c12] at H
         exact absurd H zq63
       ·rw [if_neg c11] at H
        have c11b0 : decide (x3_2 < (l0_1.length : Int)) = false := decide_eq_false c11
        clear c11
        by_cases c50 : (l0_2.length : Int) > 4
        ·rw [if_pos c50] at H
         have c50b0 : decide (4 < (l0_2.length : Int)) = true := decide_eq_true c50
         have c50b1 : decide (4 < l0_2.length) = true := decide_eq_true zq17
         clear c50
         obtain rfl := Option.some.inj H
         obtain ⟨hcz51_0, hcz51_1, hcz51_2, hfz51_0, hfz51_1, hfz51_2⟩ := bcs3 BK114.out
         go_wp2
         go_ret
         exact ⟨zq9, zq13⟩
        ·rw [if_neg c50] at H
         have c50b0 : decide (4 < (l0_2.length : Int)) = false := decide_eq_false c50
         have c50b1 : decide (4 < l0_2.length) = false := decide_eq_false zq17
         clear c50
         have H' := Aside0.mk H
         clear H
         obtain ⟨hcz52_0, hcz52_1, hcz52_2, hfz52_0, hfz52_1, hfz52_2⟩ := bcs3 BK114.out
         go_wp2
         go_loopg [5] k2 (fun kq v5 w' => ∃ (x5_3 : Int), v5 = .int .i64 x5_3 ∧ Aside0 (culletref07_Check.l1 kq x5_3 a0_0 l0_1 l0_2 = some r) ∧ Aside0 (kq ≤ k2) ∧ Aside0 (w'.heap[gb114]? = some (.cells #[.int .i64 a0_0, (.slice A0_1 l0_1.length c0_1), (.slice A0_2 l0_2.length c0_2)] 25 (0, 0))) ∧ Aside0 (Below w.heap.size w w'))
         case atStart => exact ⟨(0), zq10, H', ⟨Nat.le_refl _⟩, ⟨(zq0 BK114.out)⟩, ⟨zq13⟩⟩
         case round =>
          clear H'
          try clear c1
          try clear p1
          try clear q1
          try clear hx1
          try clear c2
          try clear p2 p2
          try clear c3
          try clear c4
          try clear c4b0
          try clear c5
          try clear p6
          try clear c7
          try clear c8
          try clear c8b0
          try clear c8b1
          try clear c11
          try clear c11b0
          try clear p11
          try clear q11
          try clear hx11
          try clear c12
          try clear c12b0
          try clear c14
          try clear c16
          try clear c16b0
          try clear c19
          try clear c22
          try clear c23
          try clear c23b0
          try clear c26
          try clear c31
          try clear c31b0
          try clear c34
          try clear c41
          try clear c48
          try clear c50
          try clear c50b0
          try clear c50b1
          try clear c52
          try clear hcz10_0 hcz10_1 hcz10_2 hfz10_0 hfz10_1 hfz10_2
          try clear hcz17_0 hcz17_1 hcz17_2 hfz17_0 hfz17_1 hfz17_2
          try clear hcz20_0 hcz20_1 hfz20_0 hfz20_1
          try clear hcz21_0 hcz21_1 hcz21_2 hfz21_0 hfz21_1 hfz21_2
          try clear hcz24_0 hcz24_1 hcz24_2 hfz24_0 hfz24_1 hfz24_2
          try clear hcz27_0 hcz27_1 hfz27_0 hfz27_1
          try clear hcz28_0 hcz28_1 hcz28_2 hfz28_0 hfz28_1 hfz28_2
          try clear hcz30_0 hcz30_1 hfz30_0 hfz30_1
          try clear hcz32_0 hcz32_1 hcz32_2 hfz32_0 hfz32_1 hfz32_2
          try clear hcz35_0 hcz35_1 hfz35_0 hfz35_1
          try clear hcz36_0 hcz36_1 hcz36_2 hfz36_0 hfz36_1 hfz36_2
          try clear hcz38_0 hcz38_1 hfz38_0 hfz38_1
          try clear hcz39_0 hcz39_1 hcz39_2 hfz39_0 hfz39_1 hfz39_2
          try clear hcz42_0 hcz42_1 hfz42_0 hfz42_1
          try clear hcz43_0 hcz43_1 hcz43_2 hfz43_0 hfz43_1 hfz43_2
          try clear hcz45_0 hcz45_1 hfz45_0 hfz45_1
          try clear hcz46_0 hcz46_1 hcz46_2 hfz46_0 hfz46_1 hfz46_2
          try clear hcz49_0 hcz49_1 hfz49_0 hfz49_1
          try clear hcz51_0 hcz51_1 hcz51_2 hfz51_0 hfz51_1 hfz51_2
          try clear hcz52_0 hcz52_1 hcz52_2 hfz52_0 hfz52_1 hfz52_2
          try clear hcz5_0 hcz5_1 hcz5_2 hfz5_0 hfz5_1 hfz5_2
          try clear hcz6_0 hcz6_1 hcz6_2 hfz6_0 hfz6_1 hfz6_2
          try clear hcz9_0 hcz9_1 hcz9_2 hfz9_0 hfz9_1 hfz9_2
          try clear hx115_0
          try clear hx115_1
          try clear p115
          try clear q115
          obtain ⟨x5_3, rfl, HA, HK3, BK114, HB⟩ := hrel
          cases gk with
          | zero => exact absurd HA.out (by simp [culletref07_Check.l1])
          | succ k3 =>
           have H := HA.out
           clear HA
           simp only [culletref07_Check.l1] at H
           by_cases c53 : x5_3 < (l0_2.length : Int)
           ·rw [if_pos c53] at H
            have c53b0 : decide (x5_3 < (l0_2.length : Int)) = true := decide_eq_true c53
            clear c53
            by_cases c54 : 0 ≤ x5_3
            ·rw [if_pos c54] at H
             have c54b0 : decide (0 ≤ x5_3) = true := decide_eq_true c54
             clear c54
             replace H := Option.bind_eq_some_iff.mp H
             obtain ⟨t120, A550, H⟩ := H
             replace H : (if t120 = true then ((culletref07_stand.f k3 a0_0 l0_1 l0_2 ((rd_T56 l0_2 x5_3).f0)).bind fun t122 => (if t122 < x5_3 then (some 6) else ((culletref07_checkStand.f k3 a0_0 l0_1 l0_2 ((rd_T56 l0_2 x5_3).f0) ((rd_T56 l0_2 x5_3).f1)).bind fun t124 => (if t124 = 0 then (culletref07_Check.l1 k3 (wrap64 (x5_3 + 1)) a0_0 l0_1 l0_2) else (some t124))))) else (some 5)) = some r := H
             have A55 := Aside0.mk A550
             clear A550
             by_cases c56 : t120 = true
             ·subst c56
              have H1 : ((culletref07_stand.f k3 a0_0 l0_1 l0_2 ((rd_T56 l0_2 x5_3).f0)).bind fun t122 => (if t122 < x5_3 then (some 6) else ((culletref07_checkStand.f k3 a0_0 l0_1 l0_2 ((rd_T56 l0_2 x5_3).f0) ((rd_T56 l0_2 x5_3).f1)).bind fun t124 => (if t124 = 0 then (culletref07_Check.l1 k3 (wrap64 (x5_3 + 1)) a0_0 l0_1 l0_2) else (some t124))))) = some r := by rw [if_pos rfl] at H; exact H
              clear H
              have H := H1
              clear H1
              replace H := Option.bind_eq_some_iff.mp H
              obtain ⟨t122, A570, H⟩ := H
              replace H : (if t122 < x5_3 then (some 6) else ((culletref07_checkStand.f k3 a0_0 l0_1 l0_2 ((rd_T56 l0_2 x5_3).f0) ((rd_T56 l0_2 x5_3).f1)).bind fun t124 => (if t124 = 0 then (culletref07_Check.l1 k3 (wrap64 (x5_3 + 1)) a0_0 l0_1 l0_2) else (some t124)))) = some r := H
              have A57 := Aside0.mk A570
              clear A570
              by_cases c58 : t122 < x5_3
              ·rw [if_pos c58] at H
               have c58b0 : decide (t122 < x5_3) = true := decide_eq_true c58
               clear c58
               obtain rfl := Option.some.inj H
               obtain ⟨hcz59_0, hcz59_1, hcz59_2, hfz59_0, hfz59_1, hfz59_2⟩ := bcs3 BK114.out
               have p119 : 0 ≤ (x5_3 : Int) := of_decide_eq_true zq7
               have q119 : x5_3 < (l0_2.length : Int) := of_decide_eq_true zq7
               obtain ⟨ad119, A119_1, c119_1, e119, hx119_0, hx119_1, hl119_1, hi119_1⟩ := at_T56 HR0_2.out x5_3 p119 q119
               cases e119
               replace hx119_0 := hcx HB.out hx119_0
               replace hx119_1 := hcx HB.out hx119_1
               have HR119_1 := Aside0.mk hi119_1
               have HC119_1 := Aside0.mk hl119_1
               clear hi119_1 hl119_1
               replace p119 := eq_true p119
               replace q119 := eq_true q119
               try go_wp2_with (first | ((with_reducible refine gate_callee (f := 52) rfl ?_); refine goesL_ (some 66) rfl rfl Try.func52 zq22 rfl #[.string ((rd_T56 l0_2 x5_3).f0)] rfl zq4 ?_; (with_reducible refine (culletref04_Name.calls k3 ((rd_T56 l0_2 x5_3).f0) true _ A55.out).mono ?_); rintro e w' ⟨rfl, ⟨nd, rfl⟩⟩; refine ⟨_, rfl, ?_⟩))
               (try (rw [drewN_self wr]; generalize hq_ : World.drewN wr _ = wr; have n_ := as2 ((by rw [← hq_]; exact (zq0 BK114.out)) : wr.heap[gb114]? = some (.cells #[.int .i64 a0_0, .slice A0_1 l0_1.length c0_1, .slice (some ad119) l0_2.length c0_2] 25 (0, 0))) ((by rw [← hq_]; exact zq13) : Below w.heap.size w wr); clear BK114 HB hq_; obtain ⟨BK114, HB⟩ := n_))
               have n0_ := Aside0.mk (blk_drew BK114.out)
               have n1_ := Aside0.mk (below_drew1 HB.out)
               clear BK114
               clear HB
               have BK114 := n0_
               have HB := n1_
               clear n0_ n1_
               have p121 : 0 ≤ (x5_3 : Int) := of_decide_eq_true zq7
               have q121 : x5_3 < (l0_2.length : Int) := of_decide_eq_true zq7
               obtain ⟨ad121, A121_1, c121_1, e121, hx121_0, hx121_1, hl121_1, hi121_1⟩ := at_T56 HR0_2.out x5_3 p121 q121
               have hw121_1 := hx121_1
               have hw121_0 := hx121_0
               obtain rfl : ad119 = ad121 := (by injection e121)
               replace hx121_0 := hcx HB.out hx121_0
               replace hx121_1 := hcx HB.out hx121_1
               have HR121_1 := Aside0.mk hi121_1
               have HC121_1 := Aside0.mk hl121_1
               clear hi121_1 hl121_1
               replace p121 := eq_true p121
               replace q121 := eq_true q121
               refine start_ (n := 10) (S := fun w' => w'.cell? ⟨gb114, 0, none⟩ = some (.int .i64 a0_0) ∧ w'.cell? ⟨gb114, 1, none⟩ = some (.slice A0_1 l0_1.length c0_1) ∧ w'.cell? ⟨gb114, 2, none⟩ = some (.slice (some ad119) l0_2.length c0_2) ∧ w'.cell? (ad119.add ((x5_3).toNat * 2)) = some (.string ((rd_T56 l0_2 x5_3).f0)) ∧ w'.cell? ⟨(ad119.add ((x5_3).toNat * 2)).block, (ad119.add ((x5_3).toNat * 2)).off + 1, none⟩ = some (.slice A121_1 ((rd_T56 l0_2 x5_3).f1).length c121_1)) (ds := []) #[false, false, false, false, false, false, false, false, false, false] zq22 rfl rfl ⟨(blk_cell BK114.out 0).trans rfl, (blk_cell BK114.out 1).trans rfl, (blk_cell BK114.out 2).trans rfl, ((HB.out.cell (World.block_lt_of_cell? w _ hw121_0)).trans hw121_0), ((HB.out.cell (World.block_lt_of_cell? w _ hw121_1)).trans hw121_1)⟩ (fun hHeld => ?_); refine with_tabW culletref07_Check.tab22 culletref07_Check.bits22 (fun HT_ HW_ => ?_)
               generalize wr.drew = w60 at BK114 HB HR121_1 hx121_0 hx121_1 hHeld ⊢
               refine pure_ (i := 1) (N := some 69) (v := ?_) (a' := ?_) #[false, true, false, false, false, false, false, false, false, false] rfl rfl (any_of HT_.out zq22) (fun _ _ _ h => h) (Or.inl ⟨zq58, ?_⟩) ?_ ?_
               rotate_left
               exact zpw
               rotate_left
               exact zpa
               refine pure_ (i := 3) (N := some 71) (v := ?_) (a' := ?_) #[false, true, false, true, false, false, false, false, false, false] rfl rfl (any_of HT_.out zq22) (fun _ _ _ h => h) (Or.inl ⟨zq58, ?_⟩) ?_ ?_
               rotate_left
               exact zpw
               rotate_left
               exact zpa
               refine pure_ (i := 8) (N := some 76) (v := ?_) (a' := ?_) #[false, true, false, true, false, false, false, false, true, false] rfl rfl (any_of HT_.out zq22) (fun _ _ _ h => h) (Or.inl ⟨zq58, ?_⟩) ?_ ?_
               rotate_left
               exact zpw
               rotate_left
               exact zpa
               refine take_ (i := 0) (N := some 68) (v := ?_) (a' := ?_) #[true, true, false, true, false, false, false, false, true, false] rfl rfl (take_ofW HT_.out HW_.out zq22) (fun _ _ _ h => h) (Or.inl ⟨zq58, ?_⟩) hHeld ?_ ?_
               rotate_left
               ·rintro w' ⟨s0, s1, s2, s3, s4⟩
                go_simp
                with_reducible rfl
               rotate_left
               exact zpa
               refine take_ (i := 2) (N := some 70) (v := ?_) (a' := ?_) #[true, true, true, true, false, false, false, false, true, false] rfl rfl (take_ofW HT_.out HW_.out zq22) (fun _ _ _ h => h) (Or.inl ⟨zq58, ?_⟩) hHeld ?_ ?_
               rotate_left
               ·rintro w' ⟨s0, s1, s2, s3, s4⟩
                go_simp
                with_reducible rfl
               rotate_left
               exact zpa
               refine pure_ (i := 4) (N := some 72) (v := ?_) (a' := ?_) #[true, true, true, true, true, false, false, false, true, false] rfl rfl (any_of HT_.out zq22) (fun _ _ _ h => h) (Or.inl ⟨zq58, ?_⟩) ?_ ?_
               rotate_left
               exact zpw
               rotate_left
               exact zpa
               refine pure_ (i := 5) (N := some 73) (v := ?_) (a' := ?_) #[true, true, true, true, true, true, false, false, true, false] rfl rfl (any_of HT_.out zq22) (fun _ _ _ h => h) (Or.inl ⟨zq58, ?_⟩) ?_ ?_
               rotate_left
               exact zpw
               rotate_left
               exact zpa
               refine take_ (i := 6) (N := some 74) (v := ?_) (a' := ?_) #[true, true, true, true, true, true, true, false, true, false] rfl rfl (take_ofW HT_.out HW_.out zq22) (fun _ _ _ h => h) (Or.inl ⟨zq58, ?_⟩) hHeld ?_ ?_
               rotate_left
               ·rintro w' ⟨s0, s1, s2, s3, s4⟩
                go_simp
                with_reducible rfl
               rotate_left
               exact zpa
               refine one_ (i := 7) (N := some 75) #[true, true, true, true, true, true, true, true, true, false] rfl rfl (one_of HT_.out zq22) zq56 (fun K hK => ?_)
               refine goes_ Try.func54 zq22 rfl #[.agg #[.int .i64 a0_0, .slice A0_1 l0_1.length c0_1, .slice (some ad119) l0_2.length c0_2], .string ((rd_T56 l0_2 x5_3).f0)] zq58 rfl rfl zq4 ?_
               with_reducible refine (culletref07_stand.calls k3 a0_0 _ _ l0_1 _ _ l0_2 ((rd_T56 l0_2 x5_3).f0) t122 _ ?side1 ?side2 ?side3 ?side4 A57.out).mono ?_
               (case side1 => exact zq5)
               (case side2 => exact HC0_1.out)
               (case side3 => exact zq6)
               (case side4 => exact HC0_2.out)
               rintro e w61 ⟨rfl, hb⟩
               refine ⟨_, rfl, ?_⟩
               have n0_ := Aside0.mk (blk_below (zq0 BK114.out) hb)
               have n1_ := Aside0.mk (below_step zq13 hb)
               clear BK114
               clear HB
               have BK114 := n0_
               have HB := n1_
               clear n0_ n1_
               (try clear hb)
               (try clear hb2)
               (try clear hk)
               (try clear hi)
               refine hK.out _ _ ⟨(blk_cell BK114.out 0).trans rfl, (blk_cell BK114.out 1).trans rfl, (blk_cell BK114.out 2).trans rfl, ((HB.out.cell (World.block_lt_of_cell? w _ hw121_0)).trans hw121_0), ((HB.out.cell (World.block_lt_of_cell? w _ hw121_1)).trans hw121_1)⟩ (fun hHeld => ?_)
               clear hK K
               refine norm_ (a' := ?_) ?_ ?_
               rotate_left
               ·show Act.put _ (some 75) _ = _
                simp only [Act.put, List.setIfInBounds_toArray, List.set_cons_zero, List.set_cons_succ, i64_w, i32_w]
                rfl
               refine pure_ (i := 9) (N := some 77) (v := ?_) (a' := ?_) #[true, true, true, true, true, true, true, true, true, true] rfl rfl (any_of HT_.out zq22) (fun _ _ _ h => h) (Or.inl ⟨zq58, ?_⟩) ?_ ?_
               rotate_left
               exact zpw
               rotate_left
               exact zpa
               refine done_ (done_of HT_.out zq22) ?_
               try go_wp2
               go_ret
               exact ⟨zq9, zq13⟩
              ·rw [if_neg c58] at H
               have c58b0 : decide (t122 < x5_3) = false := decide_eq_false c58
               clear c58
               replace H := Option.bind_eq_some_iff.mp H
               obtain ⟨t124, A620, H⟩ := H
               replace H : (if t124 = 0 then (culletref07_Check.l1 k3 (wrap64 (x5_3 + 1)) a0_0 l0_1 l0_2) else (some t124)) = some r := H
               have A62 := Aside0.mk A620
               clear A620
               by_cases c63 : t124 = 0
               ·rw [if_pos c63] at H
                have c63b0 : (t124 == 0) = true := beq_iff_eq.mpr c63
                have c63b1 : (t124 != 0) = false := bne_eq_false_iff_eq.mpr c63
                clear c63
                have H' := Aside0.mk H
                clear H
                obtain ⟨hcz64_0, hcz64_1, hcz64_2, hfz64_0, hfz64_1, hfz64_2⟩ := bcs3 BK114.out
                have p119 : 0 ≤ (x5_3 : Int) := of_decide_eq_true zq7
                have q119 : x5_3 < (l0_2.length : Int) := of_decide_eq_true zq7
                obtain ⟨ad119, A119_1, c119_1, e119, hx119_0, hx119_1, hl119_1, hi119_1⟩ := at_T56 HR0_2.out x5_3 p119 q119
                cases e119
                replace hx119_0 := hcx HB.out hx119_0
                replace hx119_1 := hcx HB.out hx119_1
                have HR119_1 := Aside0.mk hi119_1
                have HC119_1 := Aside0.mk hl119_1
                clear hi119_1 hl119_1
                replace p119 := eq_true p119
                replace q119 := eq_true q119
                try go_wp2_with (first | ((with_reducible refine gate_callee (f := 52) rfl ?_); refine goesL_ (some 66) rfl rfl Try.func52 zq22 rfl #[.string ((rd_T56 l0_2 x5_3).f0)] rfl zq4 ?_; (with_reducible refine (culletref04_Name.calls k3 ((rd_T56 l0_2 x5_3).f0) true _ A55.out).mono ?_); rintro e w' ⟨rfl, ⟨nd, rfl⟩⟩; refine ⟨_, rfl, ?_⟩))
                (try (rw [drewN_self wr]; generalize hq_ : World.drewN wr _ = wr; have n_ := as2 ((by rw [← hq_]; exact (zq0 BK114.out)) : wr.heap[gb114]? = some (.cells #[.int .i64 a0_0, .slice A0_1 l0_1.length c0_1, .slice (some ad119) l0_2.length c0_2] 25 (0, 0))) ((by rw [← hq_]; exact zq13) : Below w.heap.size w wr); clear BK114 HB hq_; obtain ⟨BK114, HB⟩ := n_))
                have n0_ := Aside0.mk (blk_drew BK114.out)
                have n1_ := Aside0.mk (below_drew1 HB.out)
                clear BK114
                clear HB
                have BK114 := n0_
                have HB := n1_
                clear n0_ n1_
                have p121 : 0 ≤ (x5_3 : Int) := of_decide_eq_true zq7
                have q121 : x5_3 < (l0_2.length : Int) := of_decide_eq_true zq7
                obtain ⟨ad121, A121_1, c121_1, e121, hx121_0, hx121_1, hl121_1, hi121_1⟩ := at_T56 HR0_2.out x5_3 p121 q121
                have hw121_1 := hx121_1
                have hw121_0 := hx121_0
                obtain rfl : ad119 = ad121 := (by injection e121)
                replace hx121_0 := hcx HB.out hx121_0
                replace hx121_1 := hcx HB.out hx121_1
                have HR121_1 := Aside0.mk hi121_1
                have HC121_1 := Aside0.mk hl121_1
                clear hi121_1 hl121_1
                replace p121 := eq_true p121
                replace q121 := eq_true q121
                refine start_ (n := 10) (S := fun w' => w'.cell? ⟨gb114, 0, none⟩ = some (.int .i64 a0_0) ∧ w'.cell? ⟨gb114, 1, none⟩ = some (.slice A0_1 l0_1.length c0_1) ∧ w'.cell? ⟨gb114, 2, none⟩ = some (.slice (some ad119) l0_2.length c0_2) ∧ w'.cell? (ad119.add ((x5_3).toNat * 2)) = some (.string ((rd_T56 l0_2 x5_3).f0)) ∧ w'.cell? ⟨(ad119.add ((x5_3).toNat * 2)).block, (ad119.add ((x5_3).toNat * 2)).off + 1, none⟩ = some (.slice A121_1 ((rd_T56 l0_2 x5_3).f1).length c121_1)) (ds := []) #[false, false, false, false, false, false, false, false, false, false] zq22 rfl rfl ⟨(blk_cell BK114.out 0).trans rfl, (blk_cell BK114.out 1).trans rfl, (blk_cell BK114.out 2).trans rfl, ((HB.out.cell (World.block_lt_of_cell? w _ hw121_0)).trans hw121_0), ((HB.out.cell (World.block_lt_of_cell? w _ hw121_1)).trans hw121_1)⟩ (fun hHeld => ?_); refine with_tabW culletref07_Check.tab22 culletref07_Check.bits22 (fun HT_ HW_ => ?_)
                generalize wr.drew = w65 at BK114 HB HR121_1 hx121_0 hx121_1 hHeld ⊢
                refine pure_ (i := 1) (N := some 69) (v := ?_) (a' := ?_) #[false, true, false, false, false, false, false, false, false, false] rfl rfl (any_of HT_.out zq22) (fun _ _ _ h => h) (Or.inl ⟨zq58, ?_⟩) ?_ ?_
                rotate_left
                exact zpw
                rotate_left
                exact zpa
                refine pure_ (i := 3) (N := some 71) (v := ?_) (a' := ?_) #[false, true, false, true, false, false, false, false, false, false] rfl rfl (any_of HT_.out zq22) (fun _ _ _ h => h) (Or.inl ⟨zq58, ?_⟩) ?_ ?_
                rotate_left
                exact zpw
                rotate_left
                exact zpa
                refine pure_ (i := 8) (N := some 76) (v := ?_) (a' := ?_) #[false, true, false, true, false, false, false, false, true, false] rfl rfl (any_of HT_.out zq22) (fun _ _ _ h => h) (Or.inl ⟨zq58, ?_⟩) ?_ ?_
                rotate_left
                exact zpw
                rotate_left
                exact zpa
                refine take_ (i := 0) (N := some 68) (v := ?_) (a' := ?_) #[true, true, false, true, false, false, false, false, true, false] rfl rfl (take_ofW HT_.out HW_.out zq22) (fun _ _ _ h => h) (Or.inl ⟨zq58, ?_⟩) hHeld ?_ ?_
                rotate_left
                ·rintro w' ⟨s0, s1, s2, s3, s4⟩
                 go_simp
                 with_reducible rfl
                rotate_left
                exact zpa
                refine take_ (i := 2) (N := some 70) (v := ?_) (a' := ?_) #[true, true, true, true, false, false, false, false, true, false] rfl rfl (take_ofW HT_.out HW_.out zq22) (fun _ _ _ h => h) (Or.inl ⟨zq58, ?_⟩) hHeld ?_ ?_
                rotate_left
                ·rintro w' ⟨s0, s1, s2, s3, s4⟩
                 go_simp
                 with_reducible rfl
                rotate_left
                exact zpa
                refine pure_ (i := 4) (N := some 72) (v := ?_) (a' := ?_) #[true, true, true, true, true, false, false, false, true, false] rfl rfl (any_of HT_.out zq22) (fun _ _ _ h => h) (Or.inl ⟨zq58, ?_⟩) ?_ ?_
                rotate_left
                exact zpw
                rotate_left
                exact zpa
                refine pure_ (i := 5) (N := some 73) (v := ?_) (a' := ?_) #[true, true, true, true, true, true, false, false, true, false] rfl rfl (any_of HT_.out zq22) (fun _ _ _ h => h) (Or.inl ⟨zq58, ?_⟩) ?_ ?_
                rotate_left
                exact zpw
                rotate_left
                exact zpa
                refine take_ (i := 6) (N := some 74) (v := ?_) (a' := ?_) #[true, true, true, true, true, true, true, false, true, false] rfl rfl (take_ofW HT_.out HW_.out zq22) (fun _ _ _ h => h) (Or.inl ⟨zq58, ?_⟩) hHeld ?_ ?_
                rotate_left
                ·rintro w' ⟨s0, s1, s2, s3, s4⟩
                 go_simp
                 with_reducible rfl
                rotate_left
                exact zpa
                refine one_ (i := 7) (N := some 75) #[true, true, true, true, true, true, true, true, true, false] rfl rfl (one_of HT_.out zq22) zq56 (fun K hK => ?_)
                refine goes_ Try.func54 zq22 rfl #[.agg #[.int .i64 a0_0, .slice A0_1 l0_1.length c0_1, .slice (some ad119) l0_2.length c0_2], .string ((rd_T56 l0_2 x5_3).f0)] zq58 rfl rfl zq4 ?_
                with_reducible refine (culletref07_stand.calls k3 a0_0 _ _ l0_1 _ _ l0_2 ((rd_T56 l0_2 x5_3).f0) t122 _ ?side1 ?side2 ?side3 ?side4 A57.out).mono ?_
                (case side1 => exact zq5)
                (case side2 => exact HC0_1.out)
                (case side3 => exact zq6)
                (case side4 => exact HC0_2.out)
                rintro e w66 ⟨rfl, hb⟩
                refine ⟨_, rfl, ?_⟩
                have n0_ := Aside0.mk (blk_below (zq0 BK114.out) hb)
                have n1_ := Aside0.mk (below_step zq13 hb)
                clear BK114
                clear HB
                have BK114 := n0_
                have HB := n1_
                clear n0_ n1_
                (try clear hb)
                (try clear hb2)
                (try clear hk)
                (try clear hi)
                refine hK.out _ _ ⟨(blk_cell BK114.out 0).trans rfl, (blk_cell BK114.out 1).trans rfl, (blk_cell BK114.out 2).trans rfl, ((HB.out.cell (World.block_lt_of_cell? w _ hw121_0)).trans hw121_0), ((HB.out.cell (World.block_lt_of_cell? w _ hw121_1)).trans hw121_1)⟩ (fun hHeld => ?_)
                clear hK K
                refine norm_ (a' := ?_) ?_ ?_
                rotate_left
                ·show Act.put _ (some 75) _ = _
                 simp only [Act.put, List.setIfInBounds_toArray, List.set_cons_zero, List.set_cons_succ, i64_w, i32_w]
                 rfl
                refine pure_ (i := 9) (N := some 77) (v := ?_) (a' := ?_) #[true, true, true, true, true, true, true, true, true, true] rfl rfl (any_of HT_.out zq22) (fun _ _ _ h => h) (Or.inl ⟨zq58, ?_⟩) ?_ ?_
                rotate_left
                exact zpw
                rotate_left
                exact zpa
                refine done_ (done_of HT_.out zq22) ?_
                try go_wp2
                have n0_ := Aside0.mk (blk_drew BK114.out)
                have n1_ := Aside0.mk (below_drew1 HB.out)
                clear BK114
                clear HB
                have BK114 := n0_
                have HB := n1_
                clear n0_ n1_
                have p123 : 0 ≤ (x5_3 : Int) := of_decide_eq_true zq7
                have q123 : x5_3 < (l0_2.length : Int) := of_decide_eq_true zq7
                obtain ⟨ad123, A123_1, c123_1, e123, hx123_0, hx123_1, hl123_1, hi123_1⟩ := at_T56 HR0_2.out x5_3 p123 q123
                have hw123_1 := hx123_1
                have hw123_0 := hx123_0
                obtain rfl : ad119 = ad123 := (by injection e123)
                replace hx123_0 := hcx HB.out hx123_0
                replace hx123_1 := hcx HB.out hx123_1
                have HR123_1 := Aside0.mk hi123_1
                have HC123_1 := Aside0.mk hl123_1
                clear hi123_1 hl123_1
                replace p123 := eq_true p123
                replace q123 := eq_true q123
                refine start_ (n := 8) (S := fun w' => w'.cell? ⟨gb114, 0, none⟩ = some (.int .i64 a0_0) ∧ w'.cell? ⟨gb114, 1, none⟩ = some (.slice A0_1 l0_1.length c0_1) ∧ w'.cell? ⟨gb114, 2, none⟩ = some (.slice (some ad119) l0_2.length c0_2) ∧ w'.cell? (ad119.add ((x5_3).toNat * 2)) = some (.string ((rd_T56 l0_2 x5_3).f0)) ∧ w'.cell? ⟨(ad119.add ((x5_3).toNat * 2)).block, (ad119.add ((x5_3).toNat * 2)).off + 1, none⟩ = some (.slice A123_1 ((rd_T56 l0_2 x5_3).f1).length c123_1)) (ds := []) #[false, false, false, false, false, false, false, false] zq22 rfl rfl ⟨(blk_cell BK114.out 0).trans rfl, (blk_cell BK114.out 1).trans rfl, (blk_cell BK114.out 2).trans rfl, ((HB.out.cell (World.block_lt_of_cell? w _ hw123_0)).trans hw123_0), ((HB.out.cell (World.block_lt_of_cell? w _ hw123_1)).trans hw123_1)⟩ (fun hHeld => ?_); refine with_tabW culletref07_Check.tab24 culletref07_Check.bits24 (fun HT_ HW_ => ?_)
                generalize w66.drew = w67 at BK114 HB HR123_1 hx123_0 hx123_1 hHeld ⊢
                refine pure_ (i := 1) (N := some 79) (v := ?_) (a' := ?_) #[false, true, false, false, false, false, false, false] rfl rfl (any_of HT_.out zq22) (fun _ _ _ h => h) (Or.inl ⟨zq58, ?_⟩) ?_ ?_
                rotate_left
                exact zpw
                rotate_left
                exact zpa
                refine pure_ (i := 3) (N := some 81) (v := ?_) (a' := ?_) #[false, true, false, true, false, false, false, false] rfl rfl (any_of HT_.out zq22) (fun _ _ _ h => h) (Or.inl ⟨zq58, ?_⟩) ?_ ?_
                rotate_left
                exact zpw
                rotate_left
                exact zpa
                refine take_ (i := 0) (N := some 78) (v := ?_) (a' := ?_) #[true, true, false, true, false, false, false, false] rfl rfl (take_ofW HT_.out HW_.out zq22) (fun _ _ _ h => h) (Or.inl ⟨zq58, ?_⟩) hHeld ?_ ?_
                rotate_left
                ·rintro w' ⟨s0, s1, s2, s3, s4⟩
                 go_simp
                 with_reducible rfl
                rotate_left
                exact zpa
                refine take_ (i := 2) (N := some 80) (v := ?_) (a' := ?_) #[true, true, true, true, false, false, false, false] rfl rfl (take_ofW HT_.out HW_.out zq22) (fun _ _ _ h => h) (Or.inl ⟨zq58, ?_⟩) hHeld ?_ ?_
                rotate_left
                ·rintro w' ⟨s0, s1, s2, s3, s4⟩
                 go_simp
                 with_reducible rfl
                rotate_left
                exact zpa
                refine pure_ (i := 4) (N := some 82) (v := ?_) (a' := ?_) #[true, true, true, true, true, false, false, false] rfl rfl (any_of HT_.out zq22) (fun _ _ _ h => h) (Or.inl ⟨zq58, ?_⟩) ?_ ?_
                rotate_left
                exact zpw
                rotate_left
                exact zpa
                refine take_ (i := 5) (N := some 83) (v := ?_) (a' := ?_) #[true, true, true, true, true, true, false, false] rfl rfl (take_ofW HT_.out HW_.out zq22) (fun _ _ _ h => h) (Or.inl ⟨zq58, ?_⟩) hHeld ?_ ?_
                rotate_left
                ·rintro w' ⟨s0, s1, s2, s3, s4⟩
                 go_simp
                 with_reducible rfl
                rotate_left
                exact zpa
                refine one_ (i := 6) (N := some 84) #[true, true, true, true, true, true, true, false] rfl rfl (one_of HT_.out zq22) zq56 (fun K hK => ?_)
                refine goes_ Try.func55 zq22 rfl #[.agg #[.int .i64 a0_0, .slice A0_1 l0_1.length c0_1, .slice (some ad119) l0_2.length c0_2], .agg #[.string ((rd_T56 l0_2 x5_3).f0), .slice A123_1 ((rd_T56 l0_2 x5_3).f1).length c123_1]] zq58 rfl rfl zq4 ?_
                with_reducible refine (culletref07_checkStand.calls k3 a0_0 _ _ l0_1 _ _ l0_2 ((rd_T56 l0_2 x5_3).f0) _ _ ((rd_T56 l0_2 x5_3).f1) t124 _ ?side1 ?side2 ?side3 ?side4 ?side5 ?side6 A62.out).mono ?_
                (case side1 => exact zq5)
                (case side2 => exact HC0_1.out)
                (case side3 => exact zq6)
                (case side4 => exact HC0_2.out)
                (case side5 => exact zq121)
                (case side6 => exact HC123_1.out)
                rintro e w68 ⟨rfl, hb⟩
                refine ⟨_, rfl, ?_⟩
                have n0_ := Aside0.mk (blk_below (zq0 BK114.out) hb)
                have n1_ := Aside0.mk (below_step zq13 hb)
                clear BK114
                clear HB
                have BK114 := n0_
                have HB := n1_
                clear n0_ n1_
                (try clear hb)
                (try clear hb2)
                (try clear hk)
                (try clear hi)
                refine hK.out _ _ ⟨(blk_cell BK114.out 0).trans rfl, (blk_cell BK114.out 1).trans rfl, (blk_cell BK114.out 2).trans rfl, ((HB.out.cell (World.block_lt_of_cell? w _ hw123_0)).trans hw123_0), ((HB.out.cell (World.block_lt_of_cell? w _ hw123_1)).trans hw123_1)⟩ (fun hHeld => ?_)
                clear hK K
                refine norm_ (a' := ?_) ?_ ?_
                rotate_left
                ·show Act.put _ (some 84) _ = _
                 simp only [Act.put, List.setIfInBounds_toArray, List.set_cons_zero, List.set_cons_succ, i64_w, i32_w]
                 rfl
                refine pure_ (i := 7) (N := some 6) (v := ?_) (a' := ?_) #[true, true, true, true, true, true, true, true] rfl rfl (any_of HT_.out zq22) (fun _ _ _ h => h) (Or.inl ⟨zq58, ?_⟩) ?_ ?_
                rotate_left
                exact zpw
                rotate_left
                exact zpa
                refine done_ (done_of HT_.out zq22) ?_
                try go_wp2
                go_roundg k3
                case measure => have := HJ1.out; have := HK2.out; have := HK3.out; omega
                case rel => exact ⟨(wrap64 (x5_3 + 1)), zq10, H', ⟨by have := HJ1.out; have := HK2.out; have := HK3.out; omega⟩, ⟨(zq0 BK114.out)⟩, ⟨zq13⟩⟩
               ·rw [if_neg c63] at H
                have c63b0 : (t124 == 0) = false := beq_eq_false_iff_ne.mpr c63
                have c63b1 : (t124 != 0) = true := bne_iff_ne.mpr c63
                obtain rfl := Option.some.inj H
                obtain ⟨hcz69_0, hcz69_1, hcz69_2, hfz69_0, hfz69_1, hfz69_2⟩ := bcs3 BK114.out
                have p119 : 0 ≤ (x5_3 : Int) := of_decide_eq_true zq7
                have q119 : x5_3 < (l0_2.length : Int) := of_decide_eq_true zq7
                obtain ⟨ad119, A119_1, c119_1, e119, hx119_0, hx119_1, hl119_1, hi119_1⟩ := at_T56 HR0_2.out x5_3 p119 q119
                cases e119
                replace hx119_0 := hcx HB.out hx119_0
                replace hx119_1 := hcx HB.out hx119_1
                have HR119_1 := Aside0.mk hi119_1
                have HC119_1 := Aside0.mk hl119_1
                clear hi119_1 hl119_1
                replace p119 := eq_true p119
                replace q119 := eq_true q119
                try go_wp2_with (first | ((with_reducible refine gate_callee (f := 52) rfl ?_); refine goesL_ (some 66) rfl rfl Try.func52 zq22 rfl #[.string ((rd_T56 l0_2 x5_3).f0)] rfl zq4 ?_; (with_reducible refine (culletref04_Name.calls k3 ((rd_T56 l0_2 x5_3).f0) true _ A55.out).mono ?_); rintro e w' ⟨rfl, ⟨nd, rfl⟩⟩; refine ⟨_, rfl, ?_⟩))
                (try (rw [drewN_self wr]; generalize hq_ : World.drewN wr _ = wr; have n_ := as2 ((by rw [← hq_]; exact (zq0 BK114.out)) : wr.heap[gb114]? = some (.cells #[.int .i64 a0_0, .slice A0_1 l0_1.length c0_1, .slice (some ad119) l0_2.length c0_2] 25 (0, 0))) ((by rw [← hq_]; exact zq13) : Below w.heap.size w wr); clear BK114 HB hq_; obtain ⟨BK114, HB⟩ := n_))
                have n0_ := Aside0.mk (blk_drew BK114.out)
                have n1_ := Aside0.mk (below_drew1 HB.out)
                clear BK114
                clear HB
                have BK114 := n0_
                have HB := n1_
                clear n0_ n1_
                have p121 : 0 ≤ (x5_3 : Int) := of_decide_eq_true zq7
                have q121 : x5_3 < (l0_2.length : Int) := of_decide_eq_true zq7
                obtain ⟨ad121, A121_1, c121_1, e121, hx121_0, hx121_1, hl121_1, hi121_1⟩ := at_T56 HR0_2.out x5_3 p121 q121
                have hw121_1 := hx121_1
                have hw121_0 := hx121_0
                obtain rfl : ad119 = ad121 := (by injection e121)
                replace hx121_0 := hcx HB.out hx121_0
                replace hx121_1 := hcx HB.out hx121_1
                have HR121_1 := Aside0.mk hi121_1
                have HC121_1 := Aside0.mk hl121_1
                clear hi121_1 hl121_1
                replace p121 := eq_true p121
                replace q121 := eq_true q121
                refine start_ (n := 10) (S := fun w' => w'.cell? ⟨gb114, 0, none⟩ = some (.int .i64 a0_0) ∧ w'.cell? ⟨gb114, 1, none⟩ = some (.slice A0_1 l0_1.length c0_1) ∧ w'.cell? ⟨gb114, 2, none⟩ = some (.slice (some ad119) l0_2.length c0_2) ∧ w'.cell? (ad119.add ((x5_3).toNat * 2)) = some (.string ((rd_T56 l0_2 x5_3).f0)) ∧ w'.cell? ⟨(ad119.add ((x5_3).toNat * 2)).block, (ad119.add ((x5_3).toNat * 2)).off + 1, none⟩ = some (.slice A121_1 ((rd_T56 l0_2 x5_3).f1).length c121_1)) (ds := []) #[false, false, false, false, false, false, false, false, false, false] zq22 rfl rfl ⟨(blk_cell BK114.out 0).trans rfl, (blk_cell BK114.out 1).trans rfl, (blk_cell BK114.out 2).trans rfl, ((HB.out.cell (World.block_lt_of_cell? w _ hw121_0)).trans hw121_0), ((HB.out.cell (World.block_lt_of_cell? w _ hw121_1)).trans hw121_1)⟩ (fun hHeld => ?_); refine with_tabW culletref07_Check.tab22 culletref07_Check.bits22 (fun HT_ HW_ => ?_)
                generalize wr.drew = w70 at BK114 HB HR121_1 hx121_0 hx121_1 hHeld ⊢
                refine pure_ (i := 1) (N := some 69) (v := ?_) (a' := ?_) #[false, true, false, false, false, false, false, false, false, false] rfl rfl (any_of HT_.out zq22) (fun _ _ _ h => h) (Or.inl ⟨zq58, ?_⟩) ?_ ?_
                rotate_left
                exact zpw
                rotate_left
                exact zpa
                refine pure_ (i := 3) (N := some 71) (v := ?_) (a' := ?_) #[false, true, false, true, false, false, false, false, false, false] rfl rfl (any_of HT_.out zq22) (fun _ _ _ h => h) (Or.inl ⟨zq58, ?_⟩) ?_ ?_
                rotate_left
                exact zpw
                rotate_left
                exact zpa
                refine pure_ (i := 8) (N := some 76) (v := ?_) (a' := ?_) #[false, true, false, true, false, false, false, false, true, false] rfl rfl (any_of HT_.out zq22) (fun _ _ _ h => h) (Or.inl ⟨zq58, ?_⟩) ?_ ?_
                rotate_left
                exact zpw
                rotate_left
                exact zpa
                refine take_ (i := 0) (N := some 68) (v := ?_) (a' := ?_) #[true, true, false, true, false, false, false, false, true, false] rfl rfl (take_ofW HT_.out HW_.out zq22) (fun _ _ _ h => h) (Or.inl ⟨zq58, ?_⟩) hHeld ?_ ?_
                rotate_left
                ·rintro w' ⟨s0, s1, s2, s3, s4⟩
                 go_simp
                 with_reducible rfl
                rotate_left
                exact zpa
                refine take_ (i := 2) (N := some 70) (v := ?_) (a' := ?_) #[true, true, true, true, false, false, false, false, true, false] rfl rfl (take_ofW HT_.out HW_.out zq22) (fun _ _ _ h => h) (Or.inl ⟨zq58, ?_⟩) hHeld ?_ ?_
                rotate_left
                ·rintro w' ⟨s0, s1, s2, s3, s4⟩
                 go_simp
                 with_reducible rfl
                rotate_left
                exact zpa
                refine pure_ (i := 4) (N := some 72) (v := ?_) (a' := ?_) #[true, true, true, true, true, false, false, false, true, false] rfl rfl (any_of HT_.out zq22) (fun _ _ _ h => h) (Or.inl ⟨zq58, ?_⟩) ?_ ?_
                rotate_left
                exact zpw
                rotate_left
                exact zpa
                refine pure_ (i := 5) (N := some 73) (v := ?_) (a' := ?_) #[true, true, true, true, true, true, false, false, true, false] rfl rfl (any_of HT_.out zq22) (fun _ _ _ h => h) (Or.inl ⟨zq58, ?_⟩) ?_ ?_
                rotate_left
                exact zpw
                rotate_left
                exact zpa
                refine take_ (i := 6) (N := some 74) (v := ?_) (a' := ?_) #[true, true, true, true, true, true, true, false, true, false] rfl rfl (take_ofW HT_.out HW_.out zq22) (fun _ _ _ h => h) (Or.inl ⟨zq58, ?_⟩) hHeld ?_ ?_
                rotate_left
                ·rintro w' ⟨s0, s1, s2, s3, s4⟩
                 go_simp
                 with_reducible rfl
                rotate_left
                exact zpa
                refine one_ (i := 7) (N := some 75) #[true, true, true, true, true, true, true, true, true, false] rfl rfl (one_of HT_.out zq22) zq56 (fun K hK => ?_)
                refine goes_ Try.func54 zq22 rfl #[.agg #[.int .i64 a0_0, .slice A0_1 l0_1.length c0_1, .slice (some ad119) l0_2.length c0_2], .string ((rd_T56 l0_2 x5_3).f0)] zq58 rfl rfl zq4 ?_
                with_reducible refine (culletref07_stand.calls k3 a0_0 _ _ l0_1 _ _ l0_2 ((rd_T56 l0_2 x5_3).f0) t122 _ ?side1 ?side2 ?side3 ?side4 A57.out).mono ?_
                (case side1 => exact zq5)
                (case side2 => exact HC0_1.out)
                (case side3 => exact zq6)
                (case side4 => exact HC0_2.out)
                rintro e w71 ⟨rfl, hb⟩
                refine ⟨_, rfl, ?_⟩
                have n0_ := Aside0.mk (blk_below (zq0 BK114.out) hb)
                have n1_ := Aside0.mk (below_step zq13 hb)
                clear BK114
                clear HB
                have BK114 := n0_
                have HB := n1_
                clear n0_ n1_
                (try clear hb)
                (try clear hb2)
                (try clear hk)
                (try clear hi)
                refine hK.out _ _ ⟨(blk_cell BK114.out 0).trans rfl, (blk_cell BK114.out 1).trans rfl, (blk_cell BK114.out 2).trans rfl, ((HB.out.cell (World.block_lt_of_cell? w _ hw121_0)).trans hw121_0), ((HB.out.cell (World.block_lt_of_cell? w _ hw121_1)).trans hw121_1)⟩ (fun hHeld => ?_)
                clear hK K
                refine norm_ (a' := ?_) ?_ ?_
                rotate_left
                ·show Act.put _ (some 75) _ = _
                 simp only [Act.put, List.setIfInBounds_toArray, List.set_cons_zero, List.set_cons_succ, i64_w, i32_w]
                 rfl
                refine pure_ (i := 9) (N := some 77) (v := ?_) (a' := ?_) #[true, true, true, true, true, true, true, true, true, true] rfl rfl (any_of HT_.out zq22) (fun _ _ _ h => h) (Or.inl ⟨zq58, ?_⟩) ?_ ?_
                rotate_left
                exact zpw
                rotate_left
                exact zpa
                refine done_ (done_of HT_.out zq22) ?_
                try go_wp2
                have n0_ := Aside0.mk (blk_drew BK114.out)
                have n1_ := Aside0.mk (below_drew1 HB.out)
                clear BK114
                clear HB
                have BK114 := n0_
                have HB := n1_
                clear n0_ n1_
                have p123 : 0 ≤ (x5_3 : Int) := of_decide_eq_true zq7
                have q123 : x5_3 < (l0_2.length : Int) := of_decide_eq_true zq7
                obtain ⟨ad123, A123_1, c123_1, e123, hx123_0, hx123_1, hl123_1, hi123_1⟩ := at_T56 HR0_2.out x5_3 p123 q123
                have hw123_1 := hx123_1
                have hw123_0 := hx123_0
                obtain rfl : ad119 = ad123 := (by injection e123)
                replace hx123_0 := hcx HB.out hx123_0
                replace hx123_1 := hcx HB.out hx123_1
                have HR123_1 := Aside0.mk hi123_1
                have HC123_1 := Aside0.mk hl123_1
                clear hi123_1 hl123_1
                replace p123 := eq_true p123
                replace q123 := eq_true q123
                refine start_ (n := 8) (S := fun w' => w'.cell? ⟨gb114, 0, none⟩ = some (.int .i64 a0_0) ∧ w'.cell? ⟨gb114, 1, none⟩ = some (.slice A0_1 l0_1.length c0_1) ∧ w'.cell? ⟨gb114, 2, none⟩ = some (.slice (some ad119) l0_2.length c0_2) ∧ w'.cell? (ad119.add ((x5_3).toNat * 2)) = some (.string ((rd_T56 l0_2 x5_3).f0)) ∧ w'.cell? ⟨(ad119.add ((x5_3).toNat * 2)).block, (ad119.add ((x5_3).toNat * 2)).off + 1, none⟩ = some (.slice A123_1 ((rd_T56 l0_2 x5_3).f1).length c123_1)) (ds := []) #[false, false, false, false, false, false, false, false] zq22 rfl rfl ⟨(blk_cell BK114.out 0).trans rfl, (blk_cell BK114.out 1).trans rfl, (blk_cell BK114.out 2).trans rfl, ((HB.out.cell (World.block_lt_of_cell? w _ hw123_0)).trans hw123_0), ((HB.out.cell (World.block_lt_of_cell? w _ hw123_1)).trans hw123_1)⟩ (fun hHeld => ?_); refine with_tabW culletref07_Check.tab24 culletref07_Check.bits24 (fun HT_ HW_ => ?_)
                generalize w71.drew = w72 at BK114 HB HR123_1 hx123_0 hx123_1 hHeld ⊢
                refine pure_ (i := 1) (N := some 79) (v := ?_) (a' := ?_) #[false, true, false, false, false, false, false, false] rfl rfl (any_of HT_.out zq22) (fun _ _ _ h => h) (Or.inl ⟨zq58, ?_⟩) ?_ ?_
                rotate_left
                exact zpw
                rotate_left
                exact zpa
                refine pure_ (i := 3) (N := some 81) (v := ?_) (a' := ?_) #[false, true, false, true, false, false, false, false] rfl rfl (any_of HT_.out zq22) (fun _ _ _ h => h) (Or.inl ⟨zq58, ?_⟩) ?_ ?_
                rotate_left
                exact zpw
                rotate_left
                exact zpa
                refine take_ (i := 0) (N := some 78) (v := ?_) (a' := ?_) #[true, true, false, true, false, false, false, false] rfl rfl (take_ofW HT_.out HW_.out zq22) (fun _ _ _ h => h) (Or.inl ⟨zq58, ?_⟩) hHeld ?_ ?_
                rotate_left
                ·rintro w' ⟨s0, s1, s2, s3, s4⟩
                 go_simp
                 with_reducible rfl
                rotate_left
                exact zpa
                refine take_ (i := 2) (N := some 80) (v := ?_) (a' := ?_) #[true, true, true, true, false, false, false, false] rfl rfl (take_ofW HT_.out HW_.out zq22) (fun _ _ _ h => h) (Or.inl ⟨zq58, ?_⟩) hHeld ?_ ?_
                rotate_left
                ·rintro w' ⟨s0, s1, s2, s3, s4⟩
                 go_simp
                 with_reducible rfl
                rotate_left
                exact zpa
                refine pure_ (i := 4) (N := some 82) (v := ?_) (a' := ?_) #[true, true, true, true, true, false, false, false] rfl rfl (any_of HT_.out zq22) (fun _ _ _ h => h) (Or.inl ⟨zq58, ?_⟩) ?_ ?_
                rotate_left
                exact zpw
                rotate_left
                exact zpa
                refine take_ (i := 5) (N := some 83) (v := ?_) (a' := ?_) #[true, true, true, true, true, true, false, false] rfl rfl (take_ofW HT_.out HW_.out zq22) (fun _ _ _ h => h) (Or.inl ⟨zq58, ?_⟩) hHeld ?_ ?_
                rotate_left
                ·rintro w' ⟨s0, s1, s2, s3, s4⟩
                 go_simp
                 with_reducible rfl
                rotate_left
                exact zpa
                refine one_ (i := 6) (N := some 84) #[true, true, true, true, true, true, true, false] rfl rfl (one_of HT_.out zq22) zq56 (fun K hK => ?_)
                refine goes_ Try.func55 zq22 rfl #[.agg #[.int .i64 a0_0, .slice A0_1 l0_1.length c0_1, .slice (some ad119) l0_2.length c0_2], .agg #[.string ((rd_T56 l0_2 x5_3).f0), .slice A123_1 ((rd_T56 l0_2 x5_3).f1).length c123_1]] zq58 rfl rfl zq4 ?_
                with_reducible refine (culletref07_checkStand.calls k3 a0_0 _ _ l0_1 _ _ l0_2 ((rd_T56 l0_2 x5_3).f0) _ _ ((rd_T56 l0_2 x5_3).f1) t124 _ ?side1 ?side2 ?side3 ?side4 ?side5 ?side6 A62.out).mono ?_
                (case side1 => exact zq5)
                (case side2 => exact HC0_1.out)
                (case side3 => exact zq6)
                (case side4 => exact HC0_2.out)
                (case side5 => exact zq121)
                (case side6 => exact HC123_1.out)
                rintro e w73 ⟨rfl, hb⟩
                refine ⟨_, rfl, ?_⟩
                have n0_ := Aside0.mk (blk_below (zq0 BK114.out) hb)
                have n1_ := Aside0.mk (below_step zq13 hb)
                clear BK114
                clear HB
                have BK114 := n0_
                have HB := n1_
                clear n0_ n1_
                (try clear hb)
                (try clear hb2)
                (try clear hk)
                (try clear hi)
                refine hK.out _ _ ⟨(blk_cell BK114.out 0).trans rfl, (blk_cell BK114.out 1).trans rfl, (blk_cell BK114.out 2).trans rfl, ((HB.out.cell (World.block_lt_of_cell? w _ hw123_0)).trans hw123_0), ((HB.out.cell (World.block_lt_of_cell? w _ hw123_1)).trans hw123_1)⟩ (fun hHeld => ?_)
                clear hK K
                refine norm_ (a' := ?_) ?_ ?_
                rotate_left
                ·show Act.put _ (some 84) _ = _
                 simp only [Act.put, List.setIfInBounds_toArray, List.set_cons_zero, List.set_cons_succ, i64_w, i32_w]
                 rfl
                refine pure_ (i := 7) (N := some 6) (v := ?_) (a' := ?_) #[true, true, true, true, true, true, true, true] rfl rfl (any_of HT_.out zq22) (fun _ _ _ h => h) (Or.inl ⟨zq58, ?_⟩) ?_ ?_
                rotate_left
                exact zpw
                rotate_left
                exact zpa
                refine done_ (done_of HT_.out zq22) ?_
                try go_wp2
                go_ret
                exact ⟨zq9, zq13⟩
             ·replace c56 := Bool.eq_false_iff.mpr c56
              subst c56
              have H1 : (some 5) = some r := by rw [if_neg (show ¬ (false = true) by decide)] at H; exact H
              clear H
              have H := H1
              clear H1
              obtain rfl := Option.some.inj H
              obtain ⟨hcz74_0, hcz74_1, hcz74_2, hfz74_0, hfz74_1, hfz74_2⟩ := bcs3 BK114.out
              have p119 : 0 ≤ (x5_3 : Int) := of_decide_eq_true zq7
              have q119 : x5_3 < (l0_2.length : Int) := of_decide_eq_true zq7
              obtain ⟨ad119, A119_1, c119_1, e119, hx119_0, hx119_1, hl119_1, hi119_1⟩ := at_T56 HR0_2.out x5_3 p119 q119
              cases e119
              replace hx119_0 := hcx HB.out hx119_0
              replace hx119_1 := hcx HB.out hx119_1
              have HR119_1 := Aside0.mk hi119_1
              have HC119_1 := Aside0.mk hl119_1
              clear hi119_1 hl119_1
              replace p119 := eq_true p119
              replace q119 := eq_true q119
              go_wp2_with (first | ((with_reducible refine gate_callee (f := 52) rfl ?_); refine goesL_ (some 66) rfl rfl Try.func52 zq22 rfl #[.string ((rd_T56 l0_2 x5_3).f0)] rfl zq4 ?_; (with_reducible refine (culletref04_Name.calls k3 ((rd_T56 l0_2 x5_3).f0) false _ A55.out).mono ?_); rintro e w' ⟨rfl, ⟨nd, rfl⟩⟩; refine ⟨_, rfl, ?_⟩))
              go_ret
              exact ⟨zq9, zq13⟩
            ·rw [if_neg c54] at H
             exact absurd H zq63
           ·rw [if_neg c53] at H
            have c53b0 : decide (x5_3 < (l0_2.length : Int)) = false := decide_eq_false c53
            clear c53
            obtain rfl := Option.some.inj H
            obtain ⟨hcz75_0, hcz75_1, hcz75_2, hfz75_0, hfz75_1, hfz75_2⟩ := bcs3 BK114.out
            go_wp2
            go_ret
            exact ⟨zq9, zq13⟩
def culletref07_claim.l0 : Nat → Int → Int → Int → Int → List (S58) → List (S56) → Option (Int × Int × Int × Bool)
 | 0, _, _, _, _, _, _ => none
 | k + 1, x1, x2, x8, x126000, x126001, x126002 => if 0 ≤ x1 then (if x1 < (x126002.length : Int) then (if x8 < (((rd_T56 x126002 x1).f1).length : Int) then (if 0 ≤ x8 then (if ((rd_T68 ((rd_T56 x126002 x1).f1) x8).f0) = x2 then (some ((rd_T68 ((rd_T56 x126002 x1).f1) x8).f0, (rd_T68 ((rd_T56 x126002 x1).f1) x8).f1, (rd_T68 ((rd_T56 x126002 x1).f1) x8).f2, true)) else (culletref07_claim.l0 k x1 x2 (wrap64 (x8 + 1)) x126000 x126001 x126002)) else (none)) else (some (0, 0, 0, false))) else (none)) else (none)
def culletref07_claim.f (k : Nat) (a0_0 : Int) (l0_1 : List (S58)) (l0_2 : List (S56)) (a1 : Int) (a2 : Int) : Option (Int × Int × Int × Bool) := culletref07_claim.l0 k a1 a2 0 a0_0 l0_1 l0_2
set_option maxHeartbeats 8000000 in
set_option maxRecDepth 100000 in
theorem culletref07_claim.calls (k : Nat) (a0_0 : Int) (A0_1 : Option Addr) (c0_1 : Nat) (l0_1 : List (S58)) (A0_2 : Option Addr) (c0_2 : Nat) (l0_2 : List (S56)) (a1 : Int) (a2 : Int) (r1 : Int) (r2 : Int) (r3 : Int) (r4 : Bool) (w : World) (hr0_1 : Kd.C k58 w A0_1 l0_1.length l0_1) (hc0_1 : l0_1.length ≤ c0_1) (hr0_2 : Kd.C k56 w A0_2 l0_2.length l0_2) (hc0_2 : l0_2.length ≤ c0_2) (h : culletref07_claim.f k a0_0 l0_1 l0_2 a1 a2 = some (r1, r2, r3, r4)) :
  Calls Try.prog 42 #[.agg #[.int .i64 a0_0, .slice A0_1 l0_1.length c0_1, .slice A0_2 l0_2.length c0_2], .int .i64 a1, .int .i64 a2] w fun e w' => e = .returned (.tuple #[.agg #[.int .i64 r1, .int .i64 r2, .int .i64 r3], .bool r4]) ∧ Below w.heap.size w w' := by
 have hu25 := Try.underlying25
 have hu68 := Try.underlying68
 have HR0_1 := Aside0.mk hr0_1
 have HC0_1 := Aside0.mk hc0_1
 clear hr0_1 hc0_1
 have HR0_2 := Aside0.mk hr0_2
 have HC0_2 := Aside0.mk hc0_2
 clear hr0_2 hc0_2
 have HB := Aside0.mk (Below.refl w.heap.size w)
 have H : (culletref07_claim.l0 k a1 a2 0 a0_0 l0_1 l0_2) = some (r1, r2, r3, r4) := h
 clear h
 have H' := Aside0.mk H
 clear H
 go_enter Try.func42, Try.ntmps42
 go_wp2_with (first | ((with_reducible refine gate_dst (N := 3) rfl ?_); refine box_event ?hg (N := 3) ?hd (cs := #[.int .i64 a0_0, .slice A0_1 l0_1.length c0_1, .slice A0_2 l0_2.length c0_2]) (t := 25) ?hr ?_; (case hd => rfl); (case hg => rfl); (case hr => exact zq11); intro gb125 hg w4 hbox hb; have n_ := as4 (below_step zq3 hb) (hbox) ((zq31 : w.heap.size ≤ gb125)) ((zq31 : w.heap.size ≤ gb125)); clear HB hb hbox hg; obtain ⟨HB, BK125, GW125, GE125⟩ := n_) | ((with_reducible refine gate_dst (N := 6) rfl ?_); refine box_event ?hg (N := 6) ?hd (cs := #[.int .i64 0, .int .i64 0, .int .i64 0]) (t := 68) ?hr ?_; (case hd => rfl); (case hg => rfl); (case hr => exact zq11); intro gb126 hg w5 hbox hb; have n_ := as7 (blk_below (zq0 BK125.out) hb) (below_step zq98 hb) (hbox) ((by rw [hg]; exact (below_size zq98) : w.heap.size ≤ gb126)) ((by rw [hg]; exact (below_size zq98) : w.heap.size ≤ gb126)) ((by rw [hg]; exact Nat.ne_of_lt (blk_lt (zq0 BK125.out)) : gb125 ≠ gb126)) ((by rw [hg]; exact Nat.ne_of_gt (blk_lt (zq0 BK125.out)) : gb126 ≠ gb125)); clear BK125 HB hb hbox hg; obtain ⟨BK125, HB, BK126, GW126, GE126, NB125_126, NB126_125⟩ := n_))
 go_loopg [8] k (fun kq v8 w' => ∃ (x8_1 : Int) (x127000_1 : Int) (x127001_1 : Int) (x127002_1 : Int), v8 = .int .i64 x8_1 ∧ Aside0 (culletref07_claim.l0 kq a1 a2 x8_1 a0_0 l0_1 l0_2 = some (r1, r2, r3, r4)) ∧ Aside0 (kq ≤ k) ∧ Aside0 (w'.heap[gb125]? = some (.cells #[.int .i64 a0_0, (.slice A0_1 l0_1.length c0_1), (.slice A0_2 l0_2.length c0_2)] 25 (0, 0))) ∧ Aside0 (w'.heap[gb126]? = some (.cells #[.int .i64 x127000_1, .int .i64 x127001_1, .int .i64 x127002_1] 68 (0, 0))) ∧ Aside0 (Below w.heap.size w w'))
 case atStart => exact ⟨(0), (0), (0), (0), zq10, H', ⟨Nat.le_refl _⟩, ⟨(zq0 BK125.out)⟩, ⟨(zq0 BK126.out)⟩, ⟨zq62⟩⟩
 case round =>
  clear H'
  try clear p2
  try clear c4
  obtain ⟨x8_1, x127000_1, x127001_1, x127002_1, rfl, HA, HK1, BK125, BK126, HB⟩ := hrel
  cases gk with
  | zero => exact absurd HA.out (by simp [culletref07_claim.l0])
  | succ k1 =>
   have H := HA.out
   clear HA
   simp only [culletref07_claim.l0] at H
   by_cases c6 : 0 ≤ a1
   ·rw [if_pos c6] at H
    have c6b0 : decide (0 ≤ a1) = true := decide_eq_true c6
    clear c6
    by_cases c7 : a1 < (l0_2.length : Int)
    ·rw [if_pos c7] at H
     have c7b0 : decide (a1 < (l0_2.length : Int)) = true := decide_eq_true c7
     clear c7
     by_cases c8 : x8_1 < (((rd_T56 l0_2 a1).f1).length : Int)
     ·rw [if_pos c8] at H
      have c8b0 : decide (x8_1 < (((rd_T56 l0_2 a1).f1).length : Int)) = true := decide_eq_true c8
      clear c8
      by_cases c9 : 0 ≤ x8_1
      ·rw [if_pos c9] at H
       have c9b0 : decide (0 ≤ x8_1) = true := decide_eq_true c9
       clear c9
       by_cases c10 : ((rd_T68 ((rd_T56 l0_2 a1).f1) x8_1).f0) = a2
       ·rw [if_pos c10] at H
        have c10b0 : (((rd_T68 ((rd_T56 l0_2 a1).f1) x8_1).f0) == a2) = true := beq_iff_eq.mpr c10
        have c10b1 : (((rd_T68 ((rd_T56 l0_2 a1).f1) x8_1).f0) != a2) = false := bne_eq_false_iff_eq.mpr c10
        clear c10
        simp only [Option.some.injEq, Prod.mk.injEq] at H
        obtain ⟨rfl, rfl, rfl, rfl⟩ := H
        have hnb11 := NB125_126.out
        have hnc11 := NB126_125.out
        obtain ⟨hcz12_0, hcz12_1, hcz12_2, hfz12_0, hfz12_1, hfz12_2⟩ := bcs3 BK125.out
        have p127 : 0 ≤ (a1 : Int) := of_decide_eq_true zq7
        have q127 : a1 < (l0_2.length : Int) := of_decide_eq_true zq7
        obtain ⟨ad127, A127_1, c127_1, e127, hx127_0, hx127_1, hl127_1, hi127_1⟩ := at_T56 HR0_2.out a1 p127 q127
        cases e127
        replace hx127_0 := hcx HB.out hx127_0
        replace hx127_1 := hcx HB.out hx127_1
        have HR127_1 := Aside0.mk hi127_1
        have HC127_1 := Aside0.mk hl127_1
        clear hi127_1 hl127_1
        replace p127 := eq_true p127
        replace q127 := eq_true q127
        have p128 : 0 ≤ (a1 : Int) := of_decide_eq_true zq7
        have q128 : a1 < (l0_2.length : Int) := of_decide_eq_true zq7
        obtain ⟨ad128, A128_1, c128_1, e128, hx128_0, hx128_1, hl128_1, hi128_1⟩ := at_T56 HR0_2.out a1 p128 q128
        obtain rfl : ad127 = ad128 := (by injection e128)
        replace hx128_0 := hcx HB.out hx128_0
        replace hx128_1 := hcx HB.out hx128_1
        have HR128_1 := Aside0.mk hi128_1
        have HC128_1 := Aside0.mk hl128_1
        clear hi128_1 hl128_1
        replace p128 := eq_true p128
        replace q128 := eq_true q128
        have ea_ := Option.some.inj (hx127_1.symm.trans hx128_1)
        injection ea_ with ea_ en_ ec_
        subst ea_
        subst ec_
        clear en_
        have p129 : 0 ≤ (x8_1 : Int) := of_decide_eq_true zq7
        have q129 : x8_1 < (((rd_T56 l0_2 a1).f1).length : Int) := of_decide_eq_true zq7
        obtain ⟨ad129, e129, hx129_0, hx129_1, hx129_2⟩ := at_T68 HR128_1.out x8_1 p129 q129
        cases e129
        replace hx129_0 := hcx HB.out hx129_0
        replace hx129_1 := hcx HB.out hx129_1
        replace hx129_2 := hcx HB.out hx129_2
        replace p129 := eq_true p129
        replace q129 := eq_true q129
        have p130 : 0 ≤ (a1 : Int) := of_decide_eq_true zq7
        have q130 : a1 < (l0_2.length : Int) := of_decide_eq_true zq7
        obtain ⟨ad130, A130_1, c130_1, e130, hx130_0, hx130_1, hl130_1, hi130_1⟩ := at_T56 HR0_2.out a1 p130 q130
        obtain rfl : ad127 = ad130 := (by injection e130)
        replace hx130_0 := hcx HB.out hx130_0
        replace hx130_1 := hcx HB.out hx130_1
        have HR130_1 := Aside0.mk hi130_1
        have HC130_1 := Aside0.mk hl130_1
        clear hi130_1 hl130_1
        replace p130 := eq_true p130
        replace q130 := eq_true q130
        have ea_ := Option.some.inj (hx127_1.symm.trans hx130_1)
        injection ea_ with ea_ en_ ec_
        subst ea_
        subst ec_
        clear en_
        have p131 : 0 ≤ (x8_1 : Int) := of_decide_eq_true zq7
        have q131 : x8_1 < (((rd_T56 l0_2 a1).f1).length : Int) := of_decide_eq_true zq7
        obtain ⟨ad131, e131, hx131_0, hx131_1, hx131_2⟩ := at_T68 HR130_1.out x8_1 p131 q131
        cases e131
        replace hx131_0 := hcx HB.out hx131_0
        replace hx131_1 := hcx HB.out hx131_1
        replace hx131_2 := hcx HB.out hx131_2
        replace p131 := eq_true p131
        replace q131 := eq_true q131
        obtain ⟨hcz13_0, hcz13_1, hcz13_2, hfz13_0, hfz13_1, hfz13_2⟩ := bcs3 BK126.out
        go_wp2
        refine bodyPost_ret (results_ct rfl _ _ gb126 68 #[.int .i64 ((rd_T68 ((rd_T56 l0_2 a1).f1) x8_1).f0), .int .i64 ((rd_T68 ((rd_T56 l0_2 a1).f1) x8_1).f1), .int .i64 ((rd_T68 ((rd_T56 l0_2 a1).f1) x8_1).f2)] (0, 0) _ rfl (bch0p BK126.out) Try.underlying68 rfl zq22) rfl ?_
        exact ⟨zq9, zq62⟩
       ·rw [if_neg c10] at H
        have c10b0 : (((rd_T68 ((rd_T56 l0_2 a1).f1) x8_1).f0) == a2) = false := beq_eq_false_iff_ne.mpr c10
        have c10b1 : (((rd_T68 ((rd_T56 l0_2 a1).f1) x8_1).f0) != a2) = true := bne_iff_ne.mpr c10
        have H' := Aside0.mk H
        clear H
        have hnb14 := NB125_126.out
        have hnc14 := NB126_125.out
        obtain ⟨hcz15_0, hcz15_1, hcz15_2, hfz15_0, hfz15_1, hfz15_2⟩ := bcs3 BK125.out
        have p127 : 0 ≤ (a1 : Int) := of_decide_eq_true zq7
        have q127 : a1 < (l0_2.length : Int) := of_decide_eq_true zq7
        obtain ⟨ad127, A127_1, c127_1, e127, hx127_0, hx127_1, hl127_1, hi127_1⟩ := at_T56 HR0_2.out a1 p127 q127
        cases e127
        replace hx127_0 := hcx HB.out hx127_0
        replace hx127_1 := hcx HB.out hx127_1
        have HR127_1 := Aside0.mk hi127_1
        have HC127_1 := Aside0.mk hl127_1
        clear hi127_1 hl127_1
        replace p127 := eq_true p127
        replace q127 := eq_true q127
        have p128 : 0 ≤ (a1 : Int) := of_decide_eq_true zq7
        have q128 : a1 < (l0_2.length : Int) := of_decide_eq_true zq7
        obtain ⟨ad128, A128_1, c128_1, e128, hx128_0, hx128_1, hl128_1, hi128_1⟩ := at_T56 HR0_2.out a1 p128 q128
        obtain rfl : ad127 = ad128 := (by injection e128)
        replace hx128_0 := hcx HB.out hx128_0
        replace hx128_1 := hcx HB.out hx128_1
        have HR128_1 := Aside0.mk hi128_1
        have HC128_1 := Aside0.mk hl128_1
        clear hi128_1 hl128_1
        replace p128 := eq_true p128
        replace q128 := eq_true q128
        have ea_ := Option.some.inj (hx127_1.symm.trans hx128_1)
        injection ea_ with ea_ en_ ec_
        subst ea_
        subst ec_
        clear en_
        have p129 : 0 ≤ (x8_1 : Int) := of_decide_eq_true zq7
        have q129 : x8_1 < (((rd_T56 l0_2 a1).f1).length : Int) := of_decide_eq_true zq7
        obtain ⟨ad129, e129, hx129_0, hx129_1, hx129_2⟩ := at_T68 HR128_1.out x8_1 p129 q129
        cases e129
        replace hx129_0 := hcx HB.out hx129_0
        replace hx129_1 := hcx HB.out hx129_1
        replace hx129_2 := hcx HB.out hx129_2
        replace p129 := eq_true p129
        replace q129 := eq_true q129
        go_wp2
        go_roundg k1
        case measure => have := HK1.out; omega
        case rel => exact ⟨(wrap64 (x8_1 + 1)), (x127000_1), (x127001_1), (x127002_1), zq10, H', ⟨zq79⟩, ⟨(zq0 BK125.out)⟩, ⟨(zq0 BK126.out)⟩, ⟨zq62⟩⟩
      ·rw [if_neg c9] at H
       exact absurd H zq63
     ·rw [if_neg c8] at H
      have c8b0 : decide (x8_1 < (((rd_T56 l0_2 a1).f1).length : Int)) = false := decide_eq_false c8
      clear c8
      simp only [Option.some.injEq, Prod.mk.injEq] at H
      obtain ⟨rfl, rfl, rfl, rfl⟩ := H
      have hnb16 := NB125_126.out
      have hnc16 := NB126_125.out
      obtain ⟨hcz17_0, hcz17_1, hcz17_2, hfz17_0, hfz17_1, hfz17_2⟩ := bcs3 BK125.out
      have p127 : 0 ≤ (a1 : Int) := of_decide_eq_true zq7
      have q127 : a1 < (l0_2.length : Int) := of_decide_eq_true zq7
      obtain ⟨ad127, A127_1, c127_1, e127, hx127_0, hx127_1, hl127_1, hi127_1⟩ := at_T56 HR0_2.out a1 p127 q127
      cases e127
      replace hx127_0 := hcx HB.out hx127_0
      replace hx127_1 := hcx HB.out hx127_1
      have HR127_1 := Aside0.mk hi127_1
      have HC127_1 := Aside0.mk hl127_1
      clear hi127_1 hl127_1
      replace p127 := eq_true p127
      replace q127 := eq_true q127
      obtain ⟨hcz18_0, hcz18_1, hcz18_2, hfz18_0, hfz18_1, hfz18_2⟩ := bcs3 BK126.out
      go_wp2
      refine bodyPost_ret (results_ct rfl _ _ gb126 68 #[.int .i64 0, .int .i64 0, .int .i64 0] (0, 0) _ rfl (bch0p BK126.out) Try.underlying68 rfl zq22) rfl ?_
      exact ⟨zq9, zq62⟩
    ·rw [if_neg c7] at H
     exact absurd H zq63
   ·rw [if_neg c6] at H
    exact absurd H zq63
def culletref07_checkRun.j0 : Nat → Bool → Int → List (S58) → List (S56) → Int → Int → Int → Int → Int → Int → Bool → Option (Int)
 | 0, _, _, _, _, _, _, _, _, _, _, _ => none
 | k + 1, x61, x133000, x133001, x133002, x134000, x134001, x134002, x134003, x134004, x134005, x134006 => if x61 = true then (some 7) else ((culletref07_claim.f k x133000 x133001 x133002 x134004 x134005).bind fun bt134 => (if bt134.2.2.2 = true then (if x134002 = 0 then (if x134003 = 0 then (some 0) else (some 1)) else (some 1)) else (some 9)))
def culletref07_checkRun.f (k : Nat) (a0_0 : Int) (l0_1 : List (S58)) (l0_2 : List (S56)) (a1_0 : Int) (a1_1 : Int) (a1_2 : Int) (a1_3 : Int) (a1_4 : Int) (a1_5 : Int) (a1_6 : Bool) : Option (Int) := if a1_1 = 1 then (if a1_2 < 0 then (some 1) else (if a1_2 > 1000000 then (some 1) else (if a1_3 < 0 then (some 1) else (if a1_3 > 999 then (some 1) else (if a1_4 = 0 then (if a1_5 = 0 then (some 0) else (some 1)) else (some 1)))))) else (if a1_4 < 0 then (culletref07_checkRun.j0 k true a0_0 l0_1 l0_2 a1_0 a1_1 a1_2 a1_3 a1_4 a1_5 a1_6) else (if a1_4 ≥ (l0_2.length : Int) then (culletref07_checkRun.j0 k true a0_0 l0_1 l0_2 a1_0 a1_1 a1_2 a1_3 a1_4 a1_5 a1_6) else (if a1_5 < 0 then (culletref07_checkRun.j0 k true a0_0 l0_1 l0_2 a1_0 a1_1 a1_2 a1_3 a1_4 a1_5 a1_6) else (culletref07_checkRun.j0 k (decide (a1_5 ≥ (l0_1.length : Int))) a0_0 l0_1 l0_2 a1_0 a1_1 a1_2 a1_3 a1_4 a1_5 a1_6))))
set_option maxHeartbeats 8000000 in
set_option maxRecDepth 100000 in
theorem culletref07_checkRun.calls (k : Nat) (a0_0 : Int) (A0_1 : Option Addr) (c0_1 : Nat) (l0_1 : List (S58)) (A0_2 : Option Addr) (c0_2 : Nat) (l0_2 : List (S56)) (a1_0 : Int) (a1_1 : Int) (a1_2 : Int) (a1_3 : Int) (a1_4 : Int) (a1_5 : Int) (a1_6 : Bool) (r : Int) (w : World) (hr0_1 : Kd.C k58 w A0_1 l0_1.length l0_1) (hc0_1 : l0_1.length ≤ c0_1) (hr0_2 : Kd.C k56 w A0_2 l0_2.length l0_2) (hc0_2 : l0_2.length ≤ c0_2) (h : culletref07_checkRun.f k a0_0 l0_1 l0_2 a1_0 a1_1 a1_2 a1_3 a1_4 a1_5 a1_6 = some r) :
  Calls Try.prog 61 #[.agg #[.int .i64 a0_0, .slice A0_1 l0_1.length c0_1, .slice A0_2 l0_2.length c0_2], .agg #[.int .i64 a1_0, .int .u8 a1_1, .int .i64 a1_2, .int .i64 a1_3, .int .i64 a1_4, .int .i64 a1_5, .bool a1_6]] w fun e w' => e = .returned (.int .i64 r) ∧ Below w.heap.size w w' := by
 have hu25 := Try.underlying25
 have hu45 := Try.underlying45
 have hu68 := Try.underlying68
 have HR0_1 := Aside0.mk hr0_1
 have HC0_1 := Aside0.mk hc0_1
 clear hr0_1 hc0_1
 have HR0_2 := Aside0.mk hr0_2
 have HC0_2 := Aside0.mk hc0_2
 clear hr0_2 hc0_2
 have HB := Aside0.mk (Below.refl w.heap.size w)
 have H : (if a1_1 = 1 then (if a1_2 < 0 then (some 1) else (if a1_2 > 1000000 then (some 1) else (if a1_3 < 0 then (some 1) else (if a1_3 > 999 then (some 1) else (if a1_4 = 0 then (if a1_5 = 0 then (some 0) else (some 1)) else (some 1)))))) else (if a1_4 < 0 then (culletref07_checkRun.j0 k true a0_0 l0_1 l0_2 a1_0 a1_1 a1_2 a1_3 a1_4 a1_5 a1_6) else (if a1_4 ≥ (l0_2.length : Int) then (culletref07_checkRun.j0 k true a0_0 l0_1 l0_2 a1_0 a1_1 a1_2 a1_3 a1_4 a1_5 a1_6) else (if a1_5 < 0 then (culletref07_checkRun.j0 k true a0_0 l0_1 l0_2 a1_0 a1_1 a1_2 a1_3 a1_4 a1_5 a1_6) else (culletref07_checkRun.j0 k (decide (a1_5 ≥ (l0_1.length : Int))) a0_0 l0_1 l0_2 a1_0 a1_1 a1_2 a1_3 a1_4 a1_5 a1_6))))) = some r := h
 clear h
 by_cases c3 : a1_1 = 1
 ·rw [if_pos c3] at H
  have c3b0 : (a1_1 == 1) = true := beq_iff_eq.mpr c3
  have c3b1 : (a1_1 != 1) = false := bne_eq_false_iff_eq.mpr c3
  clear c3
  by_cases c4 : a1_2 < 0
  ·rw [if_pos c4] at H
   have c4b0 : decide (a1_2 < 0) = true := decide_eq_true c4
   clear c4
   obtain rfl := Option.some.inj H
   go_enter Try.func61, Try.ntmps61
   go_wp2_with (first | ((with_reducible refine gate_dst (N := 2) rfl ?_); (try (refine gate_guard zq58 ?_; dsimp only)); refine box_event ?hg (N := 2) ?hd (cs := #[.int .i64 a0_0, .slice A0_1 l0_1.length c0_1, .slice A0_2 l0_2.length c0_2]) (t := 25) ?hr ?_; (case hd => rfl); (case hg => rfl); (case hr => exact zq11); intro gb132 hg w5 hbox hb; have n_ := as4 (below_step zq3 hb) (hbox) ((zq31 : w.heap.size ≤ gb132)) ((zq31 : w.heap.size ≤ gb132)); clear HB hb hbox hg; obtain ⟨HB, BK132, GW132, GE132⟩ := n_) | ((with_reducible refine gate_dst (N := 3) rfl ?_); (try (refine gate_guard zq58 ?_; dsimp only)); refine box_event ?hg (N := 3) ?hd (cs := #[.int .i64 a1_0, .int .u8 a1_1, .int .i64 a1_2, .int .i64 a1_3, .int .i64 a1_4, .int .i64 a1_5, .bool a1_6]) (t := 45) ?hr ?_; (case hd => rfl); (case hg => rfl); (case hr => exact zq11); intro gb133 hg w6 hbox hb; have n_ := as7 (blk_below (zq0 BK132.out) hb) (below_step zq20 hb) (hbox) ((zq74 : w.heap.size ≤ gb133)) ((zq74 : w.heap.size ≤ gb133)) ((zq64 : gb132 ≠ gb133)) ((zq65 : gb133 ≠ gb132)); clear BK132 HB hb hbox hg; obtain ⟨BK132, HB, BK133, GW133, GE133, NB132_133, NB133_132⟩ := n_; have hnb7 := NB133_132.out; have hnc7 := NB132_133.out; obtain ⟨hcz8_0, hcz8_1, hcz8_2, hcz8_3, hcz8_4, hcz8_5, hcz8_6, hfz8_0, hfz8_1, hfz8_2, hfz8_3, hfz8_4, hfz8_5, hfz8_6⟩ := bcs7 BK133.out))
   go_ret
   exact ⟨zq9, zq14⟩
  ·rw [if_neg c4] at H
   have c4b0 : decide (a1_2 < 0) = false := decide_eq_false c4
   clear c4
   by_cases c9 : a1_2 > 1000000
   ·rw [if_pos c9] at H
    have c9b0 : decide (1000000 < a1_2) = true := decide_eq_true c9
    clear c9
    obtain rfl := Option.some.inj H
    go_enter Try.func61, Try.ntmps61
    go_wp2_with (first | ((with_reducible refine gate_dst (N := 2) rfl ?_); (try (refine gate_guard zq58 ?_; dsimp only)); refine box_event ?hg (N := 2) ?hd (cs := #[.int .i64 a0_0, .slice A0_1 l0_1.length c0_1, .slice A0_2 l0_2.length c0_2]) (t := 25) ?hr ?_; (case hd => rfl); (case hg => rfl); (case hr => exact zq11); intro gb132 hg w10 hbox hb; have n_ := as4 (below_step zq3 hb) (hbox) ((zq31 : w.heap.size ≤ gb132)) ((zq31 : w.heap.size ≤ gb132)); clear HB hb hbox hg; obtain ⟨HB, BK132, GW132, GE132⟩ := n_) | ((with_reducible refine gate_dst (N := 3) rfl ?_); (try (refine gate_guard zq58 ?_; dsimp only)); refine box_event ?hg (N := 3) ?hd (cs := #[.int .i64 a1_0, .int .u8 a1_1, .int .i64 a1_2, .int .i64 a1_3, .int .i64 a1_4, .int .i64 a1_5, .bool a1_6]) (t := 45) ?hr ?_; (case hd => rfl); (case hg => rfl); (case hr => exact zq11); intro gb133 hg w11 hbox hb; have n_ := as7 (blk_below (zq0 BK132.out) hb) (below_step zq20 hb) (hbox) ((zq74 : w.heap.size ≤ gb133)) ((zq74 : w.heap.size ≤ gb133)) ((zq64 : gb132 ≠ gb133)) ((zq65 : gb133 ≠ gb132)); clear BK132 HB hb hbox hg; obtain ⟨BK132, HB, BK133, GW133, GE133, NB132_133, NB133_132⟩ := n_; have hnb12 := NB133_132.out; have hnc12 := NB132_133.out; obtain ⟨hcz13_0, hcz13_1, hcz13_2, hcz13_3, hcz13_4, hcz13_5, hcz13_6, hfz13_0, hfz13_1, hfz13_2, hfz13_3, hfz13_4, hfz13_5, hfz13_6⟩ := bcs7 BK133.out))
    go_ret
    exact ⟨zq9, zq14⟩
   ·rw [if_neg c9] at H
    have c9b0 : decide (1000000 < a1_2) = false := decide_eq_false c9
    clear c9
    by_cases c14 : a1_3 < 0
    ·rw [if_pos c14] at H
     have c14b0 : decide (a1_3 < 0) = true := decide_eq_true c14
     clear c14
     obtain rfl := Option.some.inj H
     go_enter Try.func61, Try.ntmps61
     go_wp2_with (first | ((with_reducible refine gate_dst (N := 2) rfl ?_); (try (refine gate_guard zq58 ?_; dsimp only)); refine box_event ?hg (N := 2) ?hd (cs := #[.int .i64 a0_0, .slice A0_1 l0_1.length c0_1, .slice A0_2 l0_2.length c0_2]) (t := 25) ?hr ?_; (case hd => rfl); (case hg => rfl); (case hr => exact zq11); intro gb132 hg w15 hbox hb; have n_ := as4 (below_step zq3 hb) (hbox) ((zq31 : w.heap.size ≤ gb132)) ((zq31 : w.heap.size ≤ gb132)); clear HB hb hbox hg; obtain ⟨HB, BK132, GW132, GE132⟩ := n_) | ((with_reducible refine gate_dst (N := 3) rfl ?_); (try (refine gate_guard zq58 ?_; dsimp only)); refine box_event ?hg (N := 3) ?hd (cs := #[.int .i64 a1_0, .int .u8 a1_1, .int .i64 a1_2, .int .i64 a1_3, .int .i64 a1_4, .int .i64 a1_5, .bool a1_6]) (t := 45) ?hr ?_; (case hd => rfl); (case hg => rfl); (case hr => exact zq11); intro gb133 hg w16 hbox hb; have n_ := as7 (blk_below (zq0 BK132.out) hb) (below_step zq20 hb) (hbox) ((zq74 : w.heap.size ≤ gb133)) ((zq74 : w.heap.size ≤ gb133)) ((zq64 : gb132 ≠ gb133)) ((zq65 : gb133 ≠ gb132)); clear BK132 HB hb hbox hg; obtain ⟨BK132, HB, BK133, GW133, GE133, NB132_133, NB133_132⟩ := n_; have hnb17 := NB133_132.out; have hnc17 := NB132_133.out; obtain ⟨hcz18_0, hcz18_1, hcz18_2, hcz18_3, hcz18_4, hcz18_5, hcz18_6, hfz18_0, hfz18_1, hfz18_2, hfz18_3, hfz18_4, hfz18_5, hfz18_6⟩ := bcs7 BK133.out))
     go_ret
     exact ⟨zq9, zq14⟩
    ·rw [if_neg c14] at H
     have c14b0 : decide (a1_3 < 0) = false := decide_eq_false c14
     clear c14
     by_cases c19 : a1_3 > 999
     ·rw [if_pos c19] at H
      have c19b0 : decide (999 < a1_3) = true := decide_eq_true c19
      clear c19
      obtain rfl := Option.some.inj H
      go_enter Try.func61, Try.ntmps61
      go_wp2_with (first | ((with_reducible refine gate_dst (N := 2) rfl ?_); (try (refine gate_guard zq58 ?_; dsimp only)); refine box_event ?hg (N := 2) ?hd (cs := #[.int .i64 a0_0, .slice A0_1 l0_1.length c0_1, .slice A0_2 l0_2.length c0_2]) (t := 25) ?hr ?_; (case hd => rfl); (case hg => rfl); (case hr => exact zq11); intro gb132 hg w20 hbox hb; have n_ := as4 (below_step zq3 hb) (hbox) ((zq31 : w.heap.size ≤ gb132)) ((zq31 : w.heap.size ≤ gb132)); clear HB hb hbox hg; obtain ⟨HB, BK132, GW132, GE132⟩ := n_) | ((with_reducible refine gate_dst (N := 3) rfl ?_); (try (refine gate_guard zq58 ?_; dsimp only)); refine box_event ?hg (N := 3) ?hd (cs := #[.int .i64 a1_0, .int .u8 a1_1, .int .i64 a1_2, .int .i64 a1_3, .int .i64 a1_4, .int .i64 a1_5, .bool a1_6]) (t := 45) ?hr ?_; (case hd => rfl); (case hg => rfl); (case hr => exact zq11); intro gb133 hg w21 hbox hb; have n_ := as7 (blk_below (zq0 BK132.out) hb) (below_step zq20 hb) (hbox) ((zq74 : w.heap.size ≤ gb133)) ((zq74 : w.heap.size ≤ gb133)) ((zq64 : gb132 ≠ gb133)) ((zq65 : gb133 ≠ gb132)); clear BK132 HB hb hbox hg; obtain ⟨BK132, HB, BK133, GW133, GE133, NB132_133, NB133_132⟩ := n_; have hnb22 := NB133_132.out; have hnc22 := NB132_133.out; obtain ⟨hcz23_0, hcz23_1, hcz23_2, hcz23_3, hcz23_4, hcz23_5, hcz23_6, hfz23_0, hfz23_1, hfz23_2, hfz23_3, hfz23_4, hfz23_5, hfz23_6⟩ := bcs7 BK133.out))
      go_ret
      exact ⟨zq9, zq14⟩
     ·rw [if_neg c19] at H
      have c19b0 : decide (999 < a1_3) = false := decide_eq_false c19
      clear c19
      by_cases c24 : a1_4 = 0
      ·rw [if_pos c24] at H
       have c24b0 : (a1_4 == 0) = true := beq_iff_eq.mpr c24
       have c24b1 : (a1_4 != 0) = false := bne_eq_false_iff_eq.mpr c24
       clear c24
       by_cases c25 : a1_5 = 0
       ·rw [if_pos c25] at H
        have c25b0 : (a1_5 == 0) = true := beq_iff_eq.mpr c25
        have c25b1 : (a1_5 != 0) = false := bne_eq_false_iff_eq.mpr c25
        clear c25
        obtain rfl := Option.some.inj H
        go_enter Try.func61, Try.ntmps61
        go_wp2_with (first | ((with_reducible refine gate_dst (N := 2) rfl ?_); (try (refine gate_guard zq58 ?_; dsimp only)); refine box_event ?hg (N := 2) ?hd (cs := #[.int .i64 a0_0, .slice A0_1 l0_1.length c0_1, .slice A0_2 l0_2.length c0_2]) (t := 25) ?hr ?_; (case hd => rfl); (case hg => rfl); (case hr => exact zq11); intro gb132 hg w26 hbox hb; have n_ := as4 (below_step zq3 hb) (hbox) ((zq31 : w.heap.size ≤ gb132)) ((zq31 : w.heap.size ≤ gb132)); clear HB hb hbox hg; obtain ⟨HB, BK132, GW132, GE132⟩ := n_) | ((with_reducible refine gate_dst (N := 3) rfl ?_); (try (refine gate_guard zq58 ?_; dsimp only)); refine box_event ?hg (N := 3) ?hd (cs := #[.int .i64 a1_0, .int .u8 a1_1, .int .i64 a1_2, .int .i64 a1_3, .int .i64 a1_4, .int .i64 a1_5, .bool a1_6]) (t := 45) ?hr ?_; (case hd => rfl); (case hg => rfl); (case hr => exact zq11); intro gb133 hg w27 hbox hb; have n_ := as7 (blk_below (zq0 BK132.out) hb) (below_step zq20 hb) (hbox) ((zq74 : w.heap.size ≤ gb133)) ((zq74 : w.heap.size ≤ gb133)) ((zq64 : gb132 ≠ gb133)) ((zq65 : gb133 ≠ gb132)); clear BK132 HB hb hbox hg; obtain ⟨BK132, HB, BK133, GW133, GE133, NB132_133, NB133_132⟩ := n_; have hnb28 := NB133_132.out; have hnc28 := NB132_133.out; obtain ⟨hcz29_0, hcz29_1, hcz29_2, hcz29_3, hcz29_4, hcz29_5, hcz29_6, hfz29_0, hfz29_1, hfz29_2, hfz29_3, hfz29_4, hfz29_5, hfz29_6⟩ := bcs7 BK133.out))
        go_ret
        exact ⟨zq9, zq14⟩
       ·rw [if_neg c25] at H
        have c25b0 : (a1_5 == 0) = false := beq_eq_false_iff_ne.mpr c25
        have c25b1 : (a1_5 != 0) = true := bne_iff_ne.mpr c25
        obtain rfl := Option.some.inj H
        go_enter Try.func61, Try.ntmps61
        go_wp2_with (first | ((with_reducible refine gate_dst (N := 2) rfl ?_); (try (refine gate_guard zq58 ?_; dsimp only)); refine box_event ?hg (N := 2) ?hd (cs := #[.int .i64 a0_0, .slice A0_1 l0_1.length c0_1, .slice A0_2 l0_2.length c0_2]) (t := 25) ?hr ?_; (case hd => rfl); (case hg => rfl); (case hr => exact zq11); intro gb132 hg w30 hbox hb; have n_ := as4 (below_step zq3 hb) (hbox) ((zq31 : w.heap.size ≤ gb132)) ((zq31 : w.heap.size ≤ gb132)); clear HB hb hbox hg; obtain ⟨HB, BK132, GW132, GE132⟩ := n_) | ((with_reducible refine gate_dst (N := 3) rfl ?_); (try (refine gate_guard zq58 ?_; dsimp only)); refine box_event ?hg (N := 3) ?hd (cs := #[.int .i64 a1_0, .int .u8 a1_1, .int .i64 a1_2, .int .i64 a1_3, .int .i64 a1_4, .int .i64 a1_5, .bool a1_6]) (t := 45) ?hr ?_; (case hd => rfl); (case hg => rfl); (case hr => exact zq11); intro gb133 hg w31 hbox hb; have n_ := as7 (blk_below (zq0 BK132.out) hb) (below_step zq20 hb) (hbox) ((zq74 : w.heap.size ≤ gb133)) ((zq74 : w.heap.size ≤ gb133)) ((zq64 : gb132 ≠ gb133)) ((zq65 : gb133 ≠ gb132)); clear BK132 HB hb hbox hg; obtain ⟨BK132, HB, BK133, GW133, GE133, NB132_133, NB133_132⟩ := n_; have hnb32 := NB133_132.out; have hnc32 := NB132_133.out; obtain ⟨hcz33_0, hcz33_1, hcz33_2, hcz33_3, hcz33_4, hcz33_5, hcz33_6, hfz33_0, hfz33_1, hfz33_2, hfz33_3, hfz33_4, hfz33_5, hfz33_6⟩ := bcs7 BK133.out))
        go_ret
        exact ⟨zq9, zq14⟩
      ·rw [if_neg c24] at H
       have c24b0 : (a1_4 == 0) = false := beq_eq_false_iff_ne.mpr c24
       have c24b1 : (a1_4 != 0) = true := bne_iff_ne.mpr c24
       obtain rfl := Option.some.inj H
       go_enter Try.func61, Try.ntmps61
       go_wp2_with (first | ((with_reducible refine gate_dst (N := 2) rfl ?_); (try (refine gate_guard zq58 ?_; dsimp only)); refine box_event ?hg (N := 2) ?hd (cs := #[.int .i64 a0_0, .slice A0_1 l0_1.length c0_1, .slice A0_2 l0_2.length c0_2]) (t := 25) ?hr ?_; (case hd => rfl); (case hg => rfl); (case hr => exact zq11); intro gb132 hg w34 hbox hb; have n_ := as4 (below_step zq3 hb) (hbox) ((zq31 : w.heap.size ≤ gb132)) ((zq31 : w.heap.size ≤ gb132)); clear HB hb hbox hg; obtain ⟨HB, BK132, GW132, GE132⟩ := n_) | ((with_reducible refine gate_dst (N := 3) rfl ?_); (try (refine gate_guard zq58 ?_; dsimp only)); refine box_event ?hg (N := 3) ?hd (cs := #[.int .i64 a1_0, .int .u8 a1_1, .int .i64 a1_2, .int .i64 a1_3, .int .i64 a1_4, .int .i64 a1_5, .bool a1_6]) (t := 45) ?hr ?_; (case hd => rfl); (case hg => rfl); (case hr => exact zq11); intro gb133 hg w35 hbox hb; have n_ := as7 (blk_below (zq0 BK132.out) hb) (below_step zq20 hb) (hbox) ((zq74 : w.heap.size ≤ gb133)) ((zq74 : w.heap.size ≤ gb133)) ((zq64 : gb132 ≠ gb133)) ((zq65 : gb133 ≠ gb132)); clear BK132 HB hb hbox hg; obtain ⟨BK132, HB, BK133, GW133, GE133, NB132_133, NB133_132⟩ := n_; have hnb36 := NB133_132.out; have hnc36 := NB132_133.out; obtain ⟨hcz37_0, hcz37_1, hcz37_2, hcz37_3, hcz37_4, hcz37_5, hcz37_6, hfz37_0, hfz37_1, hfz37_2, hfz37_3, hfz37_4, hfz37_5, hfz37_6⟩ := bcs7 BK133.out))
       go_ret
       exact ⟨zq9, zq14⟩
 ·rw [if_neg c3] at H
  have c3b0 : (a1_1 == 1) = false := beq_eq_false_iff_ne.mpr c3
  have c3b1 : (a1_1 != 1) = true := bne_iff_ne.mpr c3
  have HC38 := Aside0.mk H
  clear H
  go_enter Try.func61, Try.ntmps61
  go_upto_region 5 with (first | ((with_reducible refine gate_dst (N := 2) rfl ?_); (try (refine gate_guard zq58 ?_; dsimp only)); refine box_event ?hg (N := 2) ?hd (cs := #[.int .i64 a0_0, .slice A0_1 l0_1.length c0_1, .slice A0_2 l0_2.length c0_2]) (t := 25) ?hr ?_; (case hd => rfl); (case hg => rfl); (case hr => exact zq11); intro gb132 hg w39 hbox hb; have n_ := as4 (below_step zq3 hb) (hbox) ((zq31 : w.heap.size ≤ gb132)) ((zq31 : w.heap.size ≤ gb132)); clear HB hb hbox hg; obtain ⟨HB, BK132, GW132, GE132⟩ := n_) | ((with_reducible refine gate_dst (N := 3) rfl ?_); (try (refine gate_guard zq58 ?_; dsimp only)); refine box_event ?hg (N := 3) ?hd (cs := #[.int .i64 a1_0, .int .u8 a1_1, .int .i64 a1_2, .int .i64 a1_3, .int .i64 a1_4, .int .i64 a1_5, .bool a1_6]) (t := 45) ?hr ?_; (case hd => rfl); (case hg => rfl); (case hr => exact zq11); intro gb133 hg w40 hbox hb; have n_ := as7 (blk_below (zq0 BK132.out) hb) (below_step zq20 hb) (hbox) ((zq74 : w.heap.size ≤ gb133)) ((zq74 : w.heap.size ≤ gb133)) ((zq64 : gb132 ≠ gb133)) ((zq65 : gb133 ≠ gb132)); clear BK132 HB hb hbox hg; obtain ⟨BK132, HB, BK133, GW133, GE133, NB132_133, NB133_132⟩ := n_; have hnb41 := NB133_132.out; have hnc41 := NB132_133.out; obtain ⟨hcz42_0, hcz42_1, hcz42_2, hcz42_3, hcz42_4, hcz42_5, hcz42_6, hfz42_0, hfz42_1, hfz42_2, hfz42_3, hfz42_4, hfz42_5, hfz42_6⟩ := bcs7 BK133.out))
  (try simp only [Act.put, List.setIfInBounds_toArray, List.set_cons_zero, List.set_cons_succ])
  go_cut [61] (fun v61 wc => ∃ (kq : Nat) (x61_37 : Bool), v61 = .bool x61_37 ∧ Aside0 (culletref07_checkRun.j0 kq x61_37 a0_0 l0_1 l0_2 a1_0 a1_1 a1_2 a1_3 a1_4 a1_5 a1_6 = some r) ∧ Aside0 (kq ≤ k) ∧ Aside0 (wc.heap[gb132]? = some (.cells #[.int .i64 a0_0, (.slice A0_1 l0_1.length c0_1), (.slice A0_2 l0_2.length c0_2)] 25 (0, 0))) ∧ Aside0 (wc.heap[gb133]? = some (.cells #[.int .i64 a1_0, .int .u8 a1_1, .int .i64 a1_2, .int .i64 a1_3, .int .i64 a1_4, .int .i64 a1_5, .bool a1_6] 45 (0, 0))) ∧ Aside0 (Below w.heap.size w wc))
  case first =>
   have H := HC38.out
   clear HC38
   by_cases c43 : a1_4 < 0
   ·rw [if_pos c43] at H
    have c43b0 : decide (a1_4 < 0) = true := decide_eq_true c43
    clear c43
    (first | rw [c43b0] | (simp only [i64_w, i32_w]; rw [c43b0]) | skip)
    have H' := Aside0.mk H
    clear H
    have hnb44 := NB133_132.out
    have hnc44 := NB132_133.out
    obtain ⟨hcz45_0, hcz45_1, hcz45_2, hcz45_3, hcz45_4, hcz45_5, hcz45_6, hfz45_0, hfz45_1, hfz45_2, hfz45_3, hfz45_4, hfz45_5, hfz45_6⟩ := bcs7 BK133.out
    go_wp2
    go_meet
    case rel => exact ⟨_, (true), zq10, H', ⟨zq50⟩, ⟨(zq0 BK132.out)⟩, ⟨(zq0 BK133.out)⟩, ⟨zq14⟩⟩
   ·rw [if_neg c43] at H
    have c43b0 : decide (a1_4 < 0) = false := decide_eq_false c43
    clear c43
    (first | rw [c43b0] | (simp only [i64_w, i32_w]; rw [c43b0]) | skip)
    by_cases c46 : a1_4 ≥ (l0_2.length : Int)
    ·rw [if_pos c46] at H
     have c46b0 : decide ((l0_2.length : Int) ≤ a1_4) = true := decide_eq_true c46
     clear c46
     have H' := Aside0.mk H
     clear H
     have hnb47 := NB133_132.out
     have hnc47 := NB132_133.out
     obtain ⟨hcz48_0, hcz48_1, hcz48_2, hcz48_3, hcz48_4, hcz48_5, hcz48_6, hfz48_0, hfz48_1, hfz48_2, hfz48_3, hfz48_4, hfz48_5, hfz48_6⟩ := bcs7 BK133.out
     obtain ⟨hcz49_0, hcz49_1, hcz49_2, hfz49_0, hfz49_1, hfz49_2⟩ := bcs3 BK132.out
     go_wp2
     go_meet
     case rel => exact ⟨_, (true), zq10, H', ⟨zq50⟩, ⟨(zq0 BK132.out)⟩, ⟨(zq0 BK133.out)⟩, ⟨zq14⟩⟩
    ·rw [if_neg c46] at H
     have c46b0 : decide ((l0_2.length : Int) ≤ a1_4) = false := decide_eq_false c46
     clear c46
     by_cases c50 : a1_5 < 0
     ·rw [if_pos c50] at H
      have c50b0 : decide (a1_5 < 0) = true := decide_eq_true c50
      clear c50
      have H' := Aside0.mk H
      clear H
      have hnb51 := NB133_132.out
      have hnc51 := NB132_133.out
      obtain ⟨hcz52_0, hcz52_1, hcz52_2, hcz52_3, hcz52_4, hcz52_5, hcz52_6, hfz52_0, hfz52_1, hfz52_2, hfz52_3, hfz52_4, hfz52_5, hfz52_6⟩ := bcs7 BK133.out
      obtain ⟨hcz53_0, hcz53_1, hcz53_2, hfz53_0, hfz53_1, hfz53_2⟩ := bcs3 BK132.out
      go_wp2
      go_meet
      case rel => exact ⟨_, (true), zq10, H', ⟨zq50⟩, ⟨(zq0 BK132.out)⟩, ⟨(zq0 BK133.out)⟩, ⟨zq14⟩⟩
     ·rw [if_neg c50] at H
      have c50b0 : decide (a1_5 < 0) = false := decide_eq_false c50
      clear c50
      have H' := Aside0.mk H
      clear H
      have hnb54 := NB133_132.out
      have hnc54 := NB132_133.out
      obtain ⟨hcz55_0, hcz55_1, hcz55_2, hcz55_3, hcz55_4, hcz55_5, hcz55_6, hfz55_0, hfz55_1, hfz55_2, hfz55_3, hfz55_4, hfz55_5, hfz55_6⟩ := bcs7 BK133.out
      obtain ⟨hcz56_0, hcz56_1, hcz56_2, hfz56_0, hfz56_1, hfz56_2⟩ := bcs3 BK132.out
      go_wp2
      go_meet
      case rel => exact ⟨_, (decide (a1_5 ≥ (l0_1.length : Int))), zq10, H', ⟨zq50⟩, ⟨(zq0 BK132.out)⟩, ⟨(zq0 BK133.out)⟩, ⟨zq14⟩⟩
  case rest =>
   clear HC38
   try clear c1
   try clear c2
   try clear p2
   try clear c3
   try clear c3b0
   try clear c3b1
   try clear c4
   try clear c4b0
   try clear c5
   try clear c6
   try clear c7
   try clear c9
   try clear c9b0
   try clear c12
   try clear c14
   try clear c14b0
   try clear c17
   try clear c19
   try clear c19b0
   try clear c22
   try clear c24
   try clear c24b0
   try clear c24b1
   try clear c25
   try clear c25b0
   try clear c25b1
   try clear c28
   try clear c32
   try clear c36
   try clear c41
   try clear c43
   try clear c43b0
   try clear c44
   try clear c46
   try clear c46b0
   try clear c47
   try clear c50
   try clear c50b0
   try clear c51
   try clear c54
   try clear hcz13_0 hcz13_1 hcz13_2 hcz13_3 hcz13_4 hcz13_5 hcz13_6 hfz13_0 hfz13_1 hfz13_2 hfz13_3 hfz13_4 hfz13_5 hfz13_6
   try clear hcz18_0 hcz18_1 hcz18_2 hcz18_3 hcz18_4 hcz18_5 hcz18_6 hfz18_0 hfz18_1 hfz18_2 hfz18_3 hfz18_4 hfz18_5 hfz18_6
   try clear hcz23_0 hcz23_1 hcz23_2 hcz23_3 hcz23_4 hcz23_5 hcz23_6 hfz23_0 hfz23_1 hfz23_2 hfz23_3 hfz23_4 hfz23_5 hfz23_6
   try clear hcz29_0 hcz29_1 hcz29_2 hcz29_3 hcz29_4 hcz29_5 hcz29_6 hfz29_0 hfz29_1 hfz29_2 hfz29_3 hfz29_4 hfz29_5 hfz29_6
   try clear hcz33_0 hcz33_1 hcz33_2 hcz33_3 hcz33_4 hcz33_5 hcz33_6 hfz33_0 hfz33_1 hfz33_2 hfz33_3 hfz33_4 hfz33_5 hfz33_6
   try clear hcz37_0 hcz37_1 hcz37_2 hcz37_3 hcz37_4 hcz37_5 hcz37_6 hfz37_0 hfz37_1 hfz37_2 hfz37_3 hfz37_4 hfz37_5 hfz37_6
   try clear hcz42_0 hcz42_1 hcz42_2 hcz42_3 hcz42_4 hcz42_5 hcz42_6 hfz42_0 hfz42_1 hfz42_2 hfz42_3 hfz42_4 hfz42_5 hfz42_6
   try clear hcz45_0 hcz45_1 hcz45_2 hcz45_3 hcz45_4 hcz45_5 hcz45_6 hfz45_0 hfz45_1 hfz45_2 hfz45_3 hfz45_4 hfz45_5 hfz45_6
   try clear hcz48_0 hcz48_1 hcz48_2 hcz48_3 hcz48_4 hcz48_5 hcz48_6 hfz48_0 hfz48_1 hfz48_2 hfz48_3 hfz48_4 hfz48_5 hfz48_6
   try clear hcz49_0 hcz49_1 hcz49_2 hfz49_0 hfz49_1 hfz49_2
   try clear hcz52_0 hcz52_1 hcz52_2 hcz52_3 hcz52_4 hcz52_5 hcz52_6 hfz52_0 hfz52_1 hfz52_2 hfz52_3 hfz52_4 hfz52_5 hfz52_6
   try clear hcz53_0 hcz53_1 hcz53_2 hfz53_0 hfz53_1 hfz53_2
   try clear hcz55_0 hcz55_1 hcz55_2 hcz55_3 hcz55_4 hcz55_5 hcz55_6 hfz55_0 hfz55_1 hfz55_2 hfz55_3 hfz55_4 hfz55_5 hfz55_6
   try clear hcz56_0 hcz56_1 hcz56_2 hfz56_0 hfz56_1 hfz56_2
   try clear hcz8_0 hcz8_1 hcz8_2 hcz8_3 hcz8_4 hcz8_5 hcz8_6 hfz8_0 hfz8_1 hfz8_2 hfz8_3 hfz8_4 hfz8_5 hfz8_6
   obtain ⟨kq, x61_37, rfl, HA, HJ37, BK132, BK133, HB⟩ := hcut
   cases kq with
   | zero => exact absurd HA.out (by simp [culletref07_checkRun.j0])
   | succ kj37 =>
    have H := HA.out
    clear HA
    simp only [culletref07_checkRun.j0] at H
    by_cases c57 : x61_37 = true
    ·subst c57
     have H1 : (some 7) = some r := by rw [if_pos rfl] at H; exact H
     clear H
     have H := H1
     clear H1
     obtain rfl := Option.some.inj H
     go_wp2
     go_ret
     exact ⟨zq9, zq14⟩
    ·replace c57 := Bool.eq_false_iff.mpr c57
     subst c57
     have H1 : ((culletref07_claim.f kj37 a0_0 l0_1 l0_2 a1_4 a1_5).bind fun bt134 => (if bt134.2.2.2 = true then (if a1_2 = 0 then (if a1_3 = 0 then (some 0) else (some 1)) else (some 1)) else (some 9))) = some r := by rw [if_neg (show ¬ (false = true) by decide)] at H; exact H
     clear H
     have H := H1
     clear H1
     replace H := Option.bind_eq_some_iff.mp H
     obtain ⟨⟨t134, t135, t136, t137⟩, A580, H⟩ := H
     replace H : (if t137 = true then (if a1_2 = 0 then (if a1_3 = 0 then (some 0) else (some 1)) else (some 1)) else (some 9)) = some r := H
     have A58 := Aside0.mk A580
     clear A580
     by_cases c59 : t137 = true
     ·subst c59
      have H1 : (if a1_2 = 0 then (if a1_3 = 0 then (some 0) else (some 1)) else (some 1)) = some r := by rw [if_pos rfl] at H; exact H
      clear H
      have H := H1
      clear H1
      by_cases c60 : a1_2 = 0
      ·rw [if_pos c60] at H
       have c60b0 : (a1_2 == 0) = true := beq_iff_eq.mpr c60
       have c60b1 : (a1_2 != 0) = false := bne_eq_false_iff_eq.mpr c60
       clear c60
       by_cases c61 : a1_3 = 0
       ·rw [if_pos c61] at H
        have c61b0 : (a1_3 == 0) = true := beq_iff_eq.mpr c61
        have c61b1 : (a1_3 != 0) = false := bne_eq_false_iff_eq.mpr c61
        clear c61
        obtain rfl := Option.some.inj H
        have hnb62 := NB132_133.out
        have hnc62 := NB133_132.out
        obtain ⟨hcz63_0, hcz63_1, hcz63_2, hfz63_0, hfz63_1, hfz63_2⟩ := bcs3 BK132.out
        obtain ⟨hcz64_0, hcz64_1, hcz64_2, hcz64_3, hcz64_4, hcz64_5, hcz64_6, hfz64_0, hfz64_1, hfz64_2, hfz64_3, hfz64_4, hfz64_5, hfz64_6⟩ := bcs7 BK133.out
        go_wp2_with (first | ((with_reducible refine gate_callee (f := 42) rfl ?_); refine goesL_ (some 68) rfl rfl Try.func42 zq22 rfl #[.agg #[.int .i64 a0_0, .slice A0_1 l0_1.length c0_1, .slice A0_2 l0_2.length c0_2], .int .i64 a1_4, .int .i64 a1_5] rfl zq4 ?_; (with_reducible refine (culletref07_claim.calls kj37 a0_0 _ _ l0_1 _ _ l0_2 a1_4 a1_5 t134 t135 t136 true _ ?side1 ?side2 ?side3 ?side4 A58.out).mono ?_); (case side1 => exact zq5); (case side2 => exact HC0_1.out); (case side3 => exact zq6); (case side4 => exact HC0_2.out); rintro e w65 ⟨rfl, hb⟩; refine ⟨_, rfl, ?_⟩; have n_ := as3 (blk_below (zq0 BK132.out) hb) (blk_below (zq0 BK133.out) hb) (below_step zq14 hb); clear BK132 BK133 HB; obtain ⟨BK132, BK133, HB⟩ := n_; (try clear hb); (try clear hb2); (try clear hk); (try clear hi)) | ((with_reducible refine gate_dst (N := 5) rfl ?_); (try (refine gate_guard zq58 ?_; dsimp only)); refine box_event ?hg (N := 5) ?hd (cs := #[.int .i64 0, .int .i64 0, .int .i64 0]) (t := 68) ?hr ?_; (case hd => rfl); (case hg => rfl); (case hr => exact zq11); intro gb138 hg w66 hbox hb; have n_ := as10 (blk_below (zq0 BK132.out) hb) (blk_below (zq0 BK133.out) hb) (below_step zq14 hb) (hbox) ((zq110 : w.heap.size ≤ gb138)) ((zq110 : w.heap.size ≤ gb138)) ((zq64 : gb132 ≠ gb138)) ((zq65 : gb138 ≠ gb132)) ((zq134 : gb133 ≠ gb138)) ((zq135 : gb138 ≠ gb133)); clear BK132 BK133 HB hb hbox hg; obtain ⟨BK132, BK133, HB, BK138, GW138, GE138, NB132_138, NB138_132, NB133_138, NB138_133⟩ := n_; have hnb67 := NB138_132.out; have hnc67 := NB132_138.out; have hnb68 := NB138_133.out; have hnc68 := NB133_138.out; obtain ⟨hcz69_0, hcz69_1, hcz69_2, hfz69_0, hfz69_1, hfz69_2⟩ := bcs3 BK138.out; obtain ⟨hcz70_0, hcz70_1, hcz70_2, hcz70_3, hcz70_4, hcz70_5, hcz70_6, hfz70_0, hfz70_1, hfz70_2, hfz70_3, hfz70_4, hfz70_5, hfz70_6⟩ := bcs7 BK133.out))
        go_ret
        exact ⟨zq9, zq59⟩
       ·rw [if_neg c61] at H
        have c61b0 : (a1_3 == 0) = false := beq_eq_false_iff_ne.mpr c61
        have c61b1 : (a1_3 != 0) = true := bne_iff_ne.mpr c61
        obtain rfl := Option.some.inj H
        have hnb71 := NB132_133.out
        have hnc71 := NB133_132.out
        obtain ⟨hcz72_0, hcz72_1, hcz72_2, hfz72_0, hfz72_1, hfz72_2⟩ := bcs3 BK132.out
        obtain ⟨hcz73_0, hcz73_1, hcz73_2, hcz73_3, hcz73_4, hcz73_5, hcz73_6, hfz73_0, hfz73_1, hfz73_2, hfz73_3, hfz73_4, hfz73_5, hfz73_6⟩ := bcs7 BK133.out
        go_wp2_with (first | ((with_reducible refine gate_callee (f := 42) rfl ?_); refine goesL_ (some 68) rfl rfl Try.func42 zq22 rfl #[.agg #[.int .i64 a0_0, .slice A0_1 l0_1.length c0_1, .slice A0_2 l0_2.length c0_2], .int .i64 a1_4, .int .i64 a1_5] rfl zq4 ?_; (with_reducible refine (culletref07_claim.calls kj37 a0_0 _ _ l0_1 _ _ l0_2 a1_4 a1_5 t134 t135 t136 true _ ?side1 ?side2 ?side3 ?side4 A58.out).mono ?_); (case side1 => exact zq5); (case side2 => exact HC0_1.out); (case side3 => exact zq6); (case side4 => exact HC0_2.out); rintro e w74 ⟨rfl, hb⟩; refine ⟨_, rfl, ?_⟩; have n_ := as3 (blk_below (zq0 BK132.out) hb) (blk_below (zq0 BK133.out) hb) (below_step zq14 hb); clear BK132 BK133 HB; obtain ⟨BK132, BK133, HB⟩ := n_; (try clear hb); (try clear hb2); (try clear hk); (try clear hi)) | ((with_reducible refine gate_dst (N := 5) rfl ?_); (try (refine gate_guard zq58 ?_; dsimp only)); refine box_event ?hg (N := 5) ?hd (cs := #[.int .i64 0, .int .i64 0, .int .i64 0]) (t := 68) ?hr ?_; (case hd => rfl); (case hg => rfl); (case hr => exact zq11); intro gb138 hg w75 hbox hb; have n_ := as10 (blk_below (zq0 BK132.out) hb) (blk_below (zq0 BK133.out) hb) (below_step zq14 hb) (hbox) ((zq110 : w.heap.size ≤ gb138)) ((zq110 : w.heap.size ≤ gb138)) ((zq64 : gb132 ≠ gb138)) ((zq65 : gb138 ≠ gb132)) ((zq134 : gb133 ≠ gb138)) ((zq135 : gb138 ≠ gb133)); clear BK132 BK133 HB hb hbox hg; obtain ⟨BK132, BK133, HB, BK138, GW138, GE138, NB132_138, NB138_132, NB133_138, NB138_133⟩ := n_; have hnb76 := NB138_132.out; have hnc76 := NB132_138.out; have hnb77 := NB138_133.out; have hnc77 := NB133_138.out; obtain ⟨hcz78_0, hcz78_1, hcz78_2, hfz78_0, hfz78_1, hfz78_2⟩ := bcs3 BK138.out; obtain ⟨hcz79_0, hcz79_1, hcz79_2, hcz79_3, hcz79_4, hcz79_5, hcz79_6, hfz79_0, hfz79_1, hfz79_2, hfz79_3, hfz79_4, hfz79_5, hfz79_6⟩ := bcs7 BK133.out))
        go_ret
        exact ⟨zq9, zq59⟩
      ·rw [if_neg c60] at H
       have c60b0 : (a1_2 == 0) = false := beq_eq_false_iff_ne.mpr c60
       have c60b1 : (a1_2 != 0) = true := bne_iff_ne.mpr c60
       obtain rfl := Option.some.inj H
       have hnb80 := NB132_133.out
       have hnc80 := NB133_132.out
       obtain ⟨hcz81_0, hcz81_1, hcz81_2, hfz81_0, hfz81_1, hfz81_2⟩ := bcs3 BK132.out
       obtain ⟨hcz82_0, hcz82_1, hcz82_2, hcz82_3, hcz82_4, hcz82_5, hcz82_6, hfz82_0, hfz82_1, hfz82_2, hfz82_3, hfz82_4, hfz82_5, hfz82_6⟩ := bcs7 BK133.out
       go_wp2_with (first | ((with_reducible refine gate_callee (f := 42) rfl ?_); refine goesL_ (some 68) rfl rfl Try.func42 zq22 rfl #[.agg #[.int .i64 a0_0, .slice A0_1 l0_1.length c0_1, .slice A0_2 l0_2.length c0_2], .int .i64 a1_4, .int .i64 a1_5] rfl zq4 ?_; (with_reducible refine (culletref07_claim.calls kj37 a0_0 _ _ l0_1 _ _ l0_2 a1_4 a1_5 t134 t135 t136 true _ ?side1 ?side2 ?side3 ?side4 A58.out).mono ?_); (case side1 => exact zq5); (case side2 => exact HC0_1.out); (case side3 => exact zq6); (case side4 => exact HC0_2.out); rintro e w83 ⟨rfl, hb⟩; refine ⟨_, rfl, ?_⟩; have n_ := as3 (blk_below (zq0 BK132.out) hb) (blk_below (zq0 BK133.out) hb) (below_step zq14 hb); clear BK132 BK133 HB; obtain ⟨BK132, BK133, HB⟩ := n_; (try clear hb); (try clear hb2); (try clear hk); (try clear hi)) | ((with_reducible refine gate_dst (N := 5) rfl ?_); (try (refine gate_guard zq58 ?_; dsimp only)); refine box_event ?hg (N := 5) ?hd (cs := #[.int .i64 0, .int .i64 0, .int .i64 0]) (t := 68) ?hr ?_; (case hd => rfl); (case hg => rfl); (case hr => exact zq11); intro gb138 hg w84 hbox hb; have n_ := as10 (blk_below (zq0 BK132.out) hb) (blk_below (zq0 BK133.out) hb) (below_step zq14 hb) (hbox) ((zq110 : w.heap.size ≤ gb138)) ((zq110 : w.heap.size ≤ gb138)) ((zq64 : gb132 ≠ gb138)) ((zq65 : gb138 ≠ gb132)) ((zq134 : gb133 ≠ gb138)) ((zq135 : gb138 ≠ gb133)); clear BK132 BK133 HB hb hbox hg; obtain ⟨BK132, BK133, HB, BK138, GW138, GE138, NB132_138, NB138_132, NB133_138, NB138_133⟩ := n_; have hnb85 := NB138_132.out; have hnc85 := NB132_138.out; have hnb86 := NB138_133.out; have hnc86 := NB133_138.out; obtain ⟨hcz87_0, hcz87_1, hcz87_2, hfz87_0, hfz87_1, hfz87_2⟩ := bcs3 BK138.out; obtain ⟨hcz88_0, hcz88_1, hcz88_2, hcz88_3, hcz88_4, hcz88_5, hcz88_6, hfz88_0, hfz88_1, hfz88_2, hfz88_3, hfz88_4, hfz88_5, hfz88_6⟩ := bcs7 BK133.out))
       go_ret
       exact ⟨zq9, zq59⟩
     ·replace c59 := Bool.eq_false_iff.mpr c59
      subst c59
      have H1 : (some 9) = some r := by rw [if_neg (show ¬ (false = true) by decide)] at H; exact H
      clear H
      have H := H1
      clear H1
      obtain rfl := Option.some.inj H
      have hnb89 := NB132_133.out
      have hnc89 := NB133_132.out
      obtain ⟨hcz90_0, hcz90_1, hcz90_2, hfz90_0, hfz90_1, hfz90_2⟩ := bcs3 BK132.out
      obtain ⟨hcz91_0, hcz91_1, hcz91_2, hcz91_3, hcz91_4, hcz91_5, hcz91_6, hfz91_0, hfz91_1, hfz91_2, hfz91_3, hfz91_4, hfz91_5, hfz91_6⟩ := bcs7 BK133.out
      go_wp2_with (first | ((with_reducible refine gate_callee (f := 42) rfl ?_); refine goesL_ (some 68) rfl rfl Try.func42 zq22 rfl #[.agg #[.int .i64 a0_0, .slice A0_1 l0_1.length c0_1, .slice A0_2 l0_2.length c0_2], .int .i64 a1_4, .int .i64 a1_5] rfl zq4 ?_; (with_reducible refine (culletref07_claim.calls kj37 a0_0 _ _ l0_1 _ _ l0_2 a1_4 a1_5 t134 t135 t136 false _ ?side1 ?side2 ?side3 ?side4 A58.out).mono ?_); (case side1 => exact zq5); (case side2 => exact HC0_1.out); (case side3 => exact zq6); (case side4 => exact HC0_2.out); rintro e w92 ⟨rfl, hb⟩; refine ⟨_, rfl, ?_⟩; have n_ := as3 (blk_below (zq0 BK132.out) hb) (blk_below (zq0 BK133.out) hb) (below_step zq14 hb); clear BK132 BK133 HB; obtain ⟨BK132, BK133, HB⟩ := n_; (try clear hb); (try clear hb2); (try clear hk); (try clear hi)) | ((with_reducible refine gate_dst (N := 5) rfl ?_); (try (refine gate_guard zq58 ?_; dsimp only)); refine box_event ?hg (N := 5) ?hd (cs := #[.int .i64 0, .int .i64 0, .int .i64 0]) (t := 68) ?hr ?_; (case hd => rfl); (case hg => rfl); (case hr => exact zq11); intro gb138 hg w93 hbox hb; have n_ := as10 (blk_below (zq0 BK132.out) hb) (blk_below (zq0 BK133.out) hb) (below_step zq14 hb) (hbox) ((zq110 : w.heap.size ≤ gb138)) ((zq110 : w.heap.size ≤ gb138)) ((zq64 : gb132 ≠ gb138)) ((zq65 : gb138 ≠ gb132)) ((zq134 : gb133 ≠ gb138)) ((zq135 : gb138 ≠ gb133)); clear BK132 BK133 HB hb hbox hg; obtain ⟨BK132, BK133, HB, BK138, GW138, GE138, NB132_138, NB138_132, NB133_138, NB138_133⟩ := n_; have hnb94 := NB138_132.out; have hnc94 := NB132_138.out; have hnb95 := NB138_133.out; have hnc95 := NB133_138.out; obtain ⟨hcz96_0, hcz96_1, hcz96_2, hfz96_0, hfz96_1, hfz96_2⟩ := bcs3 BK138.out))
      go_ret
      exact ⟨zq9, zq59⟩
end Go.Proofs.Ytbpebehbfpgjbaa.P
end
