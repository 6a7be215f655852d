/- Texts of the proof, joined: what they prove stands at each theorem. -/
import Derived.DeepKeys4
import Derived.WalkSpells
import Derived.Test.YtbpebehbfpgjbaaClb
import Derived.Test.YtbpebehbfpgjbaaClc
import Derived.Test.YtbpebehbfpgjbaaCld
section
namespace Go.Proofs.Ytbpebehbfpgjbaa.P
open Go.RowKit Go.Proofs.YtbpebehbfpgjbaaW.PrintWords Go.Proofs.YtbpebehbfpgjbaaW.PrintLast Go.Proofs.YtbpebehbfpgjbaaW.PrintMore
attribute [local go_sem] max2_int min2_int max_two min_two max_three min_three max_four min_four
set_option linter.unusedVariables false
set_option linter.unusedSimpArgs false
def inspect_claim.f (a0_0 : Int) (l0_1 : List (S58)) (l0_2 : List (S56)) (a1 : Int) (a2 : Int) : Option (Int × Int × Int × Bool) := if 0 ≤ a1 then (if a1 < (l0_2.length : Int) then ((IdxClaim.f ((rd_T56 l0_2 a1).f1) a2).bind fun t379 => (if t379 < 0 then (some (0, 0, 0, false)) else (if 0 ≤ t379 then (if t379 < (((rd_T56 l0_2 a1).f1).length : Int) then (some ((rd_T68 ((rd_T56 l0_2 a1).f1) t379).f0, (rd_T68 ((rd_T56 l0_2 a1).f1) t379).f1, (rd_T68 ((rd_T56 l0_2 a1).f1) t379).f2, true)) else (none)) else (none)))) else (none)) else (none)
set_option maxHeartbeats 8000000 in
set_option maxRecDepth 100000 in
theorem inspect_claim.calls (a0_0 : Int) (A0_1 : Option Addr) (c0_1 : Nat) (l0_1 : List (S58)) (A0_2 : Option Addr) (c0_2 : Nat) (l0_2 : List (S56)) (a1 : Int) (a2 : Int) (r1 : Int) (r2 : Int) (r3 : Int) (r4 : Bool) (w : World) (hr0_1 : Kd.C k58 w A0_1 l0_1.length l0_1) (hc0_1 : l0_1.length ≤ c0_1) (hr0_2 : Kd.C k56 w A0_2 l0_2.length l0_2) (hc0_2 : l0_2.length ≤ c0_2) (h : inspect_claim.f a0_0 l0_1 l0_2 a1 a2 = some (r1, r2, r3, r4)) :
  Calls Try.prog 38 #[.agg #[.int .i64 a0_0, .slice A0_1 l0_1.length c0_1, .slice A0_2 l0_2.length c0_2], .int .i64 a1, .int .i64 a2] w fun e w' => e = .returned (.tuple #[.agg #[.int .i64 r1, .int .i64 r2, .int .i64 r3], .bool r4]) ∧ Below w.heap.size w w' := by
 have hu25 := Try.underlying25
 have hu68 := Try.underlying68
 have HR0_1 := Aside0.mk hr0_1
 have HC0_1 := Aside0.mk hc0_1
 clear hr0_1 hc0_1
 have HR0_2 := Aside0.mk hr0_2
 have HC0_2 := Aside0.mk hc0_2
 clear hr0_2 hc0_2
 have HB := Aside0.mk (Below.refl w.heap.size w)
 have H : (if 0 ≤ a1 then (if a1 < (l0_2.length : Int) then ((IdxClaim.f ((rd_T56 l0_2 a1).f1) a2).bind fun t379 => (if t379 < 0 then (some (0, 0, 0, false)) else (if 0 ≤ t379 then (if t379 < (((rd_T56 l0_2 a1).f1).length : Int) then (some ((rd_T68 ((rd_T56 l0_2 a1).f1) t379).f0, (rd_T68 ((rd_T56 l0_2 a1).f1) t379).f1, (rd_T68 ((rd_T56 l0_2 a1).f1) t379).f2, true)) else (none)) else (none)))) else (none)) else (none)) = some (r1, r2, r3, r4) := h
 clear h
 by_cases c4 : 0 ≤ a1
 ·rw [if_pos c4] at H
  have c4b0 : decide (0 ≤ a1) = true := decide_eq_true c4
  clear c4
  by_cases c5 : a1 < (l0_2.length : Int)
  ·rw [if_pos c5] at H
   have c5b0 : decide (a1 < (l0_2.length : Int)) = true := decide_eq_true c5
   clear c5
   replace H := Option.bind_eq_some_iff.mp H
   obtain ⟨t379, A60, H⟩ := H
   replace H : (if t379 < 0 then (some (0, 0, 0, false)) else (if 0 ≤ t379 then (if t379 < (((rd_T56 l0_2 a1).f1).length : Int) then (some ((rd_T68 ((rd_T56 l0_2 a1).f1) t379).f0, (rd_T68 ((rd_T56 l0_2 a1).f1) t379).f1, (rd_T68 ((rd_T56 l0_2 a1).f1) t379).f2, true)) else (none)) else (none))) = some (r1, r2, r3, r4) := H
   have A6 := Aside0.mk A60
   clear A60
   by_cases c7 : t379 < 0
   ·rw [if_pos c7] at H
    have c7b0 : decide (t379 < 0) = true := decide_eq_true c7
    clear c7
    simp only [Option.some.injEq, Prod.mk.injEq] at H
    obtain ⟨rfl, rfl, rfl, rfl⟩ := H
    go_enter Try.func38, Try.ntmps38
    go_wp2_with (first | ((with_reducible refine gate_dst (N := 3) rfl ?_); refine box_event ?hg (N := 3) ?hd (cs := #[.int .i64 a0_0, .slice A0_1 l0_1.length c0_1, .slice A0_2 l0_2.length c0_2]) (t := 25) ?hr ?_; (case hd => rfl); (case hg => rfl); (case hr => exact zq13); intro gb375 hg w8 hbox hb; have n_ := as4 (below_step zq2 hb) (hbox) ((zq23 : w.heap.size ≤ gb375)) ((zq23 : w.heap.size ≤ gb375)); clear HB hb hbox hg; obtain ⟨HB, BK375, GW375, GE375⟩ := n_) | ((with_reducible refine gate_dst (N := 5) rfl ?_); refine box_event ?hg (N := 5) ?hd (cs := #[.int .i64 a2]) (t := 3) ?hr ?_; (case hd => rfl); (case hg => rfl); (case hr => exact zq13); intro gb376 hg w9 hbox hb; have n_ := as7 (blk_below (zq0 BK375.out) hb) (below_step zq27 hb) (hbox) ((by rw [hg]; exact (below_size zq27) : w.heap.size ≤ gb376)) ((by rw [hg]; exact (below_size zq27) : w.heap.size ≤ gb376)) ((zq59 : gb375 ≠ gb376)) ((zq60 : gb376 ≠ gb375)); clear BK375 HB hb hbox hg; obtain ⟨BK375, HB, BK376, GW376, GE376, NB375_376, NB376_375⟩ := n_) | ((with_reducible refine gate_dst (N := 6) rfl ?_); refine box_event ?hg (N := 6) ?hd (cs := #[.int .i64 0, .int .i64 0, .int .i64 0]) (t := 68) ?hr ?_; (case hd => rfl); (case hg => rfl); (case hr => exact zq13); intro gb377 hg w10 hbox hb; have n_ := as10 (blk_below (zq0 BK375.out) hb) (blk_below (zq0 BK376.out) hb) (below_step zq22 hb) (hbox) ((by rw [hg]; exact (below_size zq22) : w.heap.size ≤ gb377)) ((by rw [hg]; exact (below_size zq22) : w.heap.size ≤ gb377)) ((zq59 : gb375 ≠ gb377)) ((zq60 : gb377 ≠ gb375)) ((by rw [hg]; exact Nat.ne_of_lt (blk_lt (zq0 BK376.out)) : gb376 ≠ gb377)) ((by rw [hg]; exact Nat.ne_of_gt (blk_lt (zq0 BK376.out)) : gb377 ≠ gb376)); clear BK375 BK376 HB hb hbox hg; obtain ⟨BK375, BK376, HB, BK377, GW377, GE377, NB375_377, NB377_375, NB376_377, NB377_376⟩ := n_; have hnb11 := NB375_376.out; have hnc11 := NB376_375.out; have hnb12 := NB375_377.out; have hnc12 := NB377_375.out; obtain ⟨hcz13_0, hcz13_1, hcz13_2, hfz13_0, hfz13_1, hfz13_2⟩ := bcs3 BK375.out; have p378 : 0 ≤ (a1 : Int) := of_decide_eq_true zq5; have q378 : a1 < (l0_2.length : Int) := of_decide_eq_true zq5; obtain ⟨ad378, A378_1, c378_1, e378, hx378_0, hx378_1, hl378_1, hi378_1⟩ := at_T56 HR0_2.out a1 p378 q378; cases e378; replace hx378_0 := hcx HB.out hx378_0; replace hx378_1 := hcx HB.out hx378_1; have HR378_1 := Aside0.mk hi378_1; have HC378_1 := Aside0.mk hl378_1; clear hi378_1 hl378_1; replace p378 := eq_true p378; replace q378 := eq_true q378; have hnb14 := NB376_377.out; have hnc14 := NB377_376.out; obtain ⟨hcz15_0, hfz15_0⟩ := bcs1 BK376.out) | ((with_reducible refine gate_callee (f := 63) rfl ?_); refine goesL_ (some 18) rfl rfl Try.func63 zq26 rfl #[.slice A378_1 ((rd_T56 l0_2 a1).f1).length c378_1, .func (.func 64) #[] #[.pointer (some ⟨gb376, 0, none⟩)]] rfl zq3 ?_; (with_reducible refine (IdxClaim.calls _ _ ((rd_T56 l0_2 a1).f1) gb376 a2 t379 _ ?side1 ?side2 ?side3 A6.out).mono ?_); (case side1 => exact zq56); (case side2 => exact HC378_1.out); (case side3 => exact (zq0 BK376.out)); rintro e w16 ⟨rfl, hb⟩; refine ⟨_, rfl, ?_⟩; have n_ := as4 (blk_below (zq0 BK375.out) hb) (blk_below (zq0 BK376.out) hb) (blk_below (zq0 BK377.out) hb) (below_step zq30 hb); clear BK375 BK376 BK377 HB; obtain ⟨BK375, BK376, BK377, HB⟩ := n_; (try clear hb); (try clear hb2); (try clear hk); (try clear hi); obtain ⟨hcz17_0, hcz17_1, hcz17_2, hfz17_0, hfz17_1, hfz17_2⟩ := bcs3 BK377.out))
    refine bodyPost_ret (results_ct rfl _ _ gb377 68 #[.int .i64 0, .int .i64 0, .int .i64 0] (0, 0) _ rfl (bch0p BK377.out) Try.underlying68 rfl zq26) rfl ?_
    exact ⟨zq9, zq30⟩
   ·rw [if_neg c7] at H
    have c7b0 : decide (t379 < 0) = false := decide_eq_false c7
    clear c7
    by_cases c18 : 0 ≤ t379
    ·rw [if_pos c18] at H
     have c18b0 : decide (0 ≤ t379) = true := decide_eq_true c18
     clear c18
     by_cases c19 : t379 < (((rd_T56 l0_2 a1).f1).length : Int)
     ·rw [if_pos c19] at H
      have c19b0 : decide (t379 < (((rd_T56 l0_2 a1).f1).length : Int)) = true := decide_eq_true c19
      clear c19
      simp only [Option.some.injEq, Prod.mk.injEq] at H
      obtain ⟨rfl, rfl, rfl, rfl⟩ := H
      go_enter Try.func38, Try.ntmps38
      go_wp2_with (first | ((with_reducible refine gate_dst (N := 3) rfl ?_); refine box_event ?hg (N := 3) ?hd (cs := #[.int .i64 a0_0, .slice A0_1 l0_1.length c0_1, .slice A0_2 l0_2.length c0_2]) (t := 25) ?hr ?_; (case hd => rfl); (case hg => rfl); (case hr => exact zq13); intro gb375 hg w20 hbox hb; have n_ := as4 (below_step zq2 hb) (hbox) ((zq23 : w.heap.size ≤ gb375)) ((zq23 : w.heap.size ≤ gb375)); clear HB hb hbox hg; obtain ⟨HB, BK375, GW375, GE375⟩ := n_) | ((with_reducible refine gate_dst (N := 5) rfl ?_); refine box_event ?hg (N := 5) ?hd (cs := #[.int .i64 a2]) (t := 3) ?hr ?_; (case hd => rfl); (case hg => rfl); (case hr => exact zq13); intro gb376 hg w21 hbox hb; have n_ := as7 (blk_below (zq0 BK375.out) hb) (below_step zq27 hb) (hbox) ((by rw [hg]; exact (below_size zq27) : w.heap.size ≤ gb376)) ((by rw [hg]; exact (below_size zq27) : w.heap.size ≤ gb376)) ((zq59 : gb375 ≠ gb376)) ((zq60 : gb376 ≠ gb375)); clear BK375 HB hb hbox hg; obtain ⟨BK375, HB, BK376, GW376, GE376, NB375_376, NB376_375⟩ := n_) | ((with_reducible refine gate_dst (N := 6) rfl ?_); refine box_event ?hg (N := 6) ?hd (cs := #[.int .i64 0, .int .i64 0, .int .i64 0]) (t := 68) ?hr ?_; (case hd => rfl); (case hg => rfl); (case hr => exact zq13); intro gb377 hg w22 hbox hb; have n_ := as10 (blk_below (zq0 BK375.out) hb) (blk_below (zq0 BK376.out) hb) (below_step zq22 hb) (hbox) ((by rw [hg]; exact (below_size zq22) : w.heap.size ≤ gb377)) ((by rw [hg]; exact (below_size zq22) : w.heap.size ≤ gb377)) ((zq59 : gb375 ≠ gb377)) ((zq60 : gb377 ≠ gb375)) ((by rw [hg]; exact Nat.ne_of_lt (blk_lt (zq0 BK376.out)) : gb376 ≠ gb377)) ((by rw [hg]; exact Nat.ne_of_gt (blk_lt (zq0 BK376.out)) : gb377 ≠ gb376)); clear BK375 BK376 HB hb hbox hg; obtain ⟨BK375, BK376, HB, BK377, GW377, GE377, NB375_377, NB377_375, NB376_377, NB377_376⟩ := n_; have hnb23 := NB375_376.out; have hnc23 := NB376_375.out; have hnb24 := NB375_377.out; have hnc24 := NB377_375.out; obtain ⟨hcz25_0, hcz25_1, hcz25_2, hfz25_0, hfz25_1, hfz25_2⟩ := bcs3 BK375.out; have p378 : 0 ≤ (a1 : Int) := of_decide_eq_true zq5; have q378 : a1 < (l0_2.length : Int) := of_decide_eq_true zq5; obtain ⟨ad378, A378_1, c378_1, e378, hx378_0, hx378_1, hl378_1, hi378_1⟩ := at_T56 HR0_2.out a1 p378 q378; cases e378; replace hx378_0 := hcx HB.out hx378_0; replace hx378_1 := hcx HB.out hx378_1; have HR378_1 := Aside0.mk hi378_1; have HC378_1 := Aside0.mk hl378_1; clear hi378_1 hl378_1; replace p378 := eq_true p378; replace q378 := eq_true q378; have hnb26 := NB376_377.out; have hnc26 := NB377_376.out; obtain ⟨hcz27_0, hfz27_0⟩ := bcs1 BK376.out) | ((with_reducible refine gate_callee (f := 63) rfl ?_); refine goesL_ (some 18) rfl rfl Try.func63 zq26 rfl #[.slice A378_1 ((rd_T56 l0_2 a1).f1).length c378_1, .func (.func 64) #[] #[.pointer (some ⟨gb376, 0, none⟩)]] rfl zq3 ?_; (with_reducible refine (IdxClaim.calls _ _ ((rd_T56 l0_2 a1).f1) gb376 a2 t379 _ ?side1 ?side2 ?side3 A6.out).mono ?_); (case side1 => exact zq56); (case side2 => exact HC378_1.out); (case side3 => exact (zq0 BK376.out)); rintro e w28 ⟨rfl, hb⟩; refine ⟨_, rfl, ?_⟩; have n_ := as4 (blk_below (zq0 BK375.out) hb) (blk_below (zq0 BK376.out) hb) (blk_below (zq0 BK377.out) hb) (below_step zq30 hb); clear BK375 BK376 BK377 HB; obtain ⟨BK375, BK376, BK377, HB⟩ := n_; (try clear hb); (try clear hb2); (try clear hk); (try clear hi); have p380 : 0 ≤ (t379 : Int) := of_decide_eq_true zq5; have q380 : t379 < (((rd_T56 l0_2 a1).f1).length : Int) := of_decide_eq_true zq5; obtain ⟨ad380, e380, hx380_0, hx380_1, hx380_2⟩ := at_T68 HR378_1.out t379 p380 q380; cases e380; replace hx380_0 := hcx HB.out hx380_0; replace hx380_1 := hcx HB.out hx380_1; replace hx380_2 := hcx HB.out hx380_2; replace p380 := eq_true p380; replace q380 := eq_true q380; obtain ⟨hcz29_0, hcz29_1, hcz29_2, hfz29_0, hfz29_1, hfz29_2⟩ := bcs3 BK377.out))
      refine bodyPost_ret (results_ct rfl _ _ gb377 68 #[.int .i64 ((rd_T68 ((rd_T56 l0_2 a1).f1) t379).f0), .int .i64 ((rd_T68 ((rd_T56 l0_2 a1).f1) t379).f1), .int .i64 ((rd_T68 ((rd_T56 l0_2 a1).f1) t379).f2)] (0, 0) _ rfl (bch0p BK377.out) Try.underlying68 rfl zq26) rfl ?_
      exact ⟨zq9, zq30⟩
     ·rw [if_neg c19] at H
      exact absurd H zq51
    ·rw [if_neg c18] at H
     exact absurd H zq51
  ·rw [if_neg c5] at H
   exact absurd H zq51
 ·rw [if_neg c4] at H
  exact absurd H zq51
def inspect_entryError.j0 : Nat → Bool → Int → List (S58) → List (S56) → Int → Int → Int → Int → Int → Int → Bool → Option (Int)
 | 0, _, _, _, _, _, _, _, _, _, _, _ => none
 | k + 1, x47, x382000, x382001, x382002, x383000, x383001, x383002, x383003, x383004, x383005, x383006 => if x47 = true then (some 7) else ((inspect_claim.f x382000 x382001 x382002 x383004 x383005).bind fun bt387 => (if bt387.2.2.2 = true then (if x383002 = 0 then (if x383003 = 0 then (some 0) else (some 1)) else (some 1)) else (some 9)))
def inspect_entryError.f (k : Nat) (a0_0 : Int) (l0_1 : List (S58)) (l0_2 : List (S56)) (a1_0 : Int) (a1_1 : Int) (a1_2 : Int) (a1_3 : Int) (a1_4 : Int) (a1_5 : Int) (a1_6 : Bool) : Option (Int) := if a1_1 = 1 then ((inspect_within.f a1_2 0 1000000).bind fun t383 => (if t383 = true then ((inspect_within.f a1_3 0 999).bind fun t384 => (if t384 = true then (if a1_4 = 0 then (if a1_5 = 0 then (some 0) else (some 1)) else (some 1)) else (some 1))) else (some 1))) else ((inspect_within.f a1_4 0 (wrap64 ((l0_2.length : Int) - 1))).bind fun t385 => (if t385 = true then ((inspect_within.f a1_5 0 (wrap64 ((l0_1.length : Int) - 1))).bind fun t386 => (inspect_entryError.j0 k (!t386) a0_0 l0_1 l0_2 a1_0 a1_1 a1_2 a1_3 a1_4 a1_5 a1_6)) else (inspect_entryError.j0 k true a0_0 l0_1 l0_2 a1_0 a1_1 a1_2 a1_3 a1_4 a1_5 a1_6)))
set_option maxHeartbeats 8000000 in
set_option maxRecDepth 100000 in
theorem inspect_entryError.calls (k : Nat) (a0_0 : Int) (A0_1 : Option Addr) (c0_1 : Nat) (l0_1 : List (S58)) (A0_2 : Option Addr) (c0_2 : Nat) (l0_2 : List (S56)) (a1_0 : Int) (a1_1 : Int) (a1_2 : Int) (a1_3 : Int) (a1_4 : Int) (a1_5 : Int) (a1_6 : Bool) (r : Int) (w : World) (hr0_1 : Kd.C k58 w A0_1 l0_1.length l0_1) (hc0_1 : l0_1.length ≤ c0_1) (hr0_2 : Kd.C k56 w A0_2 l0_2.length l0_2) (hc0_2 : l0_2.length ≤ c0_2) (h : inspect_entryError.f k a0_0 l0_1 l0_2 a1_0 a1_1 a1_2 a1_3 a1_4 a1_5 a1_6 = some r) :
  Calls Try.prog 49 #[.agg #[.int .i64 a0_0, .slice A0_1 l0_1.length c0_1, .slice A0_2 l0_2.length c0_2], .agg #[.int .i64 a1_0, .int .u8 a1_1, .int .i64 a1_2, .int .i64 a1_3, .int .i64 a1_4, .int .i64 a1_5, .bool a1_6]] w fun e w' => e = .returned (.int .i64 r) ∧ Below w.heap.size w w' := by
 have hu25 := Try.underlying25
 have hu45 := Try.underlying45
 have hu68 := Try.underlying68
 have HR0_1 := Aside0.mk hr0_1
 have HC0_1 := Aside0.mk hc0_1
 clear hr0_1 hc0_1
 have HR0_2 := Aside0.mk hr0_2
 have HC0_2 := Aside0.mk hc0_2
 clear hr0_2 hc0_2
 have HB := Aside0.mk (Below.refl w.heap.size w)
 have H : (if a1_1 = 1 then ((inspect_within.f a1_2 0 1000000).bind fun t383 => (if t383 = true then ((inspect_within.f a1_3 0 999).bind fun t384 => (if t384 = true then (if a1_4 = 0 then (if a1_5 = 0 then (some 0) else (some 1)) else (some 1)) else (some 1))) else (some 1))) else ((inspect_within.f a1_4 0 (wrap64 ((l0_2.length : Int) - 1))).bind fun t385 => (if t385 = true then ((inspect_within.f a1_5 0 (wrap64 ((l0_1.length : Int) - 1))).bind fun t386 => (inspect_entryError.j0 k (!t386) a0_0 l0_1 l0_2 a1_0 a1_1 a1_2 a1_3 a1_4 a1_5 a1_6)) else (inspect_entryError.j0 k true a0_0 l0_1 l0_2 a1_0 a1_1 a1_2 a1_3 a1_4 a1_5 a1_6)))) = some r := h
 clear h
 by_cases c3 : a1_1 = 1
 ·rw [if_pos c3] at H
  have c3b0 : (a1_1 == 1) = true := beq_iff_eq.mpr c3
  have c3b1 : (a1_1 != 1) = false := bne_eq_false_iff_eq.mpr c3
  clear c3
  replace H := Option.bind_eq_some_iff.mp H
  obtain ⟨t383, A40, H⟩ := H
  replace H : (if t383 = true then ((inspect_within.f a1_3 0 999).bind fun t384 => (if t384 = true then (if a1_4 = 0 then (if a1_5 = 0 then (some 0) else (some 1)) else (some 1)) else (some 1))) else (some 1)) = some r := H
  have A4 := Aside0.mk A40
  clear A40
  by_cases c5 : t383 = true
  ·subst c5
   have H1 : ((inspect_within.f a1_3 0 999).bind fun t384 => (if t384 = true then (if a1_4 = 0 then (if a1_5 = 0 then (some 0) else (some 1)) else (some 1)) else (some 1))) = some r := by rw [if_pos rfl] at H; exact H
   clear H
   have H := H1
   clear H1
   replace H := Option.bind_eq_some_iff.mp H
   obtain ⟨t384, A60, H⟩ := H
   replace H : (if t384 = true then (if a1_4 = 0 then (if a1_5 = 0 then (some 0) else (some 1)) else (some 1)) else (some 1)) = some r := H
   have A6 := Aside0.mk A60
   clear A60
   by_cases c7 : t384 = true
   ·subst c7
    have H1 : (if a1_4 = 0 then (if a1_5 = 0 then (some 0) else (some 1)) else (some 1)) = some r := by rw [if_pos rfl] at H; exact H
    clear H
    have H := H1
    clear H1
    by_cases c8 : a1_4 = 0
    ·rw [if_pos c8] at H
     have c8b0 : (a1_4 == 0) = true := beq_iff_eq.mpr c8
     have c8b1 : (a1_4 != 0) = false := bne_eq_false_iff_eq.mpr c8
     clear c8
     by_cases c9 : a1_5 = 0
     ·rw [if_pos c9] at H
      have c9b0 : (a1_5 == 0) = true := beq_iff_eq.mpr c9
      have c9b1 : (a1_5 != 0) = false := bne_eq_false_iff_eq.mpr c9
      clear c9
      obtain rfl := Option.some.inj H
      go_enter Try.func49, Try.ntmps49
      go_wp2_with (first | ((with_reducible refine gate_dst (N := 2) rfl ?_); (try (refine gate_guard (by rfl) ?_; dsimp only)); refine box_event ?hg (N := 2) ?hd (cs := #[.int .i64 a0_0, .slice A0_1 l0_1.length c0_1, .slice A0_2 l0_2.length c0_2]) (t := 25) ?hr ?_; (case hd => rfl); (case hg => rfl); (case hr => exact zq13); intro gb381 hg w10 hbox hb; have n_ := as4 (below_step zq2 hb) (hbox) ((zq23 : w.heap.size ≤ gb381)) ((zq23 : w.heap.size ≤ gb381)); clear HB hb hbox hg; obtain ⟨HB, BK381, GW381, GE381⟩ := n_) | ((with_reducible refine gate_dst (N := 3) rfl ?_); (try (refine gate_guard (by rfl) ?_; dsimp only)); refine box_event ?hg (N := 3) ?hd (cs := #[.int .i64 a1_0, .int .u8 a1_1, .int .i64 a1_2, .int .i64 a1_3, .int .i64 a1_4, .int .i64 a1_5, .bool a1_6]) (t := 45) ?hr ?_; (case hd => rfl); (case hg => rfl); (case hr => exact zq13); intro gb382 hg w11 hbox hb; have n_ := as7 (blk_below (zq0 BK381.out) hb) (below_step zq15 hb) (hbox) ((zq43 : w.heap.size ≤ gb382)) ((zq43 : w.heap.size ≤ gb382)) ((zq37 : gb381 ≠ gb382)) ((zq38 : gb382 ≠ gb381)); clear BK381 HB hb hbox hg; obtain ⟨BK381, HB, BK382, GW382, GE382, NB381_382, NB382_381⟩ := n_; have hnb12 := NB382_381.out; have hnc12 := NB381_382.out; obtain ⟨hcz13_0, hcz13_1, hcz13_2, hcz13_3, hcz13_4, hcz13_5, hcz13_6, hfz13_0, hfz13_1, hfz13_2, hfz13_3, hfz13_4, hfz13_5, hfz13_6⟩ := bcs7 BK382.out) | ((with_reducible refine gate_callee (f := 36) rfl ?_); refine goesL_ (some 12) rfl rfl Try.func36 zq26 rfl #[.int .i64 a1_2, .int .i64 0, .int .i64 1000000] rfl zq3 ?_; (with_reducible refine (inspect_within.calls a1_2 0 1000000 true _ A4.out).mono ?_); rintro e w' ⟨rfl, ⟨nd, rfl⟩⟩; refine ⟨_, rfl, ?_⟩) | (go_at_call 36; (with_reducible refine (inspect_within.calls a1_3 0 999 true _ A6.out).mono ?_); rintro e w' ⟨rfl, ⟨nd, rfl⟩⟩))
      go_ret
      exact ⟨zq9, zq6⟩
     ·rw [if_neg c9] at H
      have c9b0 : (a1_5 == 0) = false := beq_eq_false_iff_ne.mpr c9
      have c9b1 : (a1_5 != 0) = true := bne_iff_ne.mpr c9
      obtain rfl := Option.some.inj H
      go_enter Try.func49, Try.ntmps49
      go_wp2_with (first | ((with_reducible refine gate_dst (N := 2) rfl ?_); (try (refine gate_guard (by rfl) ?_; dsimp only)); refine box_event ?hg (N := 2) ?hd (cs := #[.int .i64 a0_0, .slice A0_1 l0_1.length c0_1, .slice A0_2 l0_2.length c0_2]) (t := 25) ?hr ?_; (case hd => rfl); (case hg => rfl); (case hr => exact zq13); intro gb381 hg w14 hbox hb; have n_ := as4 (below_step zq2 hb) (hbox) ((zq23 : w.heap.size ≤ gb381)) ((zq23 : w.heap.size ≤ gb381)); clear HB hb hbox hg; obtain ⟨HB, BK381, GW381, GE381⟩ := n_) | ((with_reducible refine gate_dst (N := 3) rfl ?_); (try (refine gate_guard (by rfl) ?_; dsimp only)); refine box_event ?hg (N := 3) ?hd (cs := #[.int .i64 a1_0, .int .u8 a1_1, .int .i64 a1_2, .int .i64 a1_3, .int .i64 a1_4, .int .i64 a1_5, .bool a1_6]) (t := 45) ?hr ?_; (case hd => rfl); (case hg => rfl); (case hr => exact zq13); intro gb382 hg w15 hbox hb; have n_ := as7 (blk_below (zq0 BK381.out) hb) (below_step zq15 hb) (hbox) ((zq43 : w.heap.size ≤ gb382)) ((zq43 : w.heap.size ≤ gb382)) ((zq37 : gb381 ≠ gb382)) ((zq38 : gb382 ≠ gb381)); clear BK381 HB hb hbox hg; obtain ⟨BK381, HB, BK382, GW382, GE382, NB381_382, NB382_381⟩ := n_; have hnb16 := NB382_381.out; have hnc16 := NB381_382.out; obtain ⟨hcz17_0, hcz17_1, hcz17_2, hcz17_3, hcz17_4, hcz17_5, hcz17_6, hfz17_0, hfz17_1, hfz17_2, hfz17_3, hfz17_4, hfz17_5, hfz17_6⟩ := bcs7 BK382.out) | ((with_reducible refine gate_callee (f := 36) rfl ?_); refine goesL_ (some 12) rfl rfl Try.func36 zq26 rfl #[.int .i64 a1_2, .int .i64 0, .int .i64 1000000] rfl zq3 ?_; (with_reducible refine (inspect_within.calls a1_2 0 1000000 true _ A4.out).mono ?_); rintro e w' ⟨rfl, ⟨nd, rfl⟩⟩; refine ⟨_, rfl, ?_⟩) | (go_at_call 36; (with_reducible refine (inspect_within.calls a1_3 0 999 true _ A6.out).mono ?_); rintro e w' ⟨rfl, ⟨nd, rfl⟩⟩))
      go_ret
      exact ⟨zq9, zq6⟩
    ·rw [if_neg c8] at H
     have c8b0 : (a1_4 == 0) = false := beq_eq_false_iff_ne.mpr c8
     have c8b1 : (a1_4 != 0) = true := bne_iff_ne.mpr c8
     obtain rfl := Option.some.inj H
     go_enter Try.func49, Try.ntmps49
     go_wp2_with (first | ((with_reducible refine gate_dst (N := 2) rfl ?_); (try (refine gate_guard (by rfl) ?_; dsimp only)); refine box_event ?hg (N := 2) ?hd (cs := #[.int .i64 a0_0, .slice A0_1 l0_1.length c0_1, .slice A0_2 l0_2.length c0_2]) (t := 25) ?hr ?_; (case hd => rfl); (case hg => rfl); (case hr => exact zq13); intro gb381 hg w18 hbox hb; have n_ := as4 (below_step zq2 hb) (hbox) ((zq23 : w.heap.size ≤ gb381)) ((zq23 : w.heap.size ≤ gb381)); clear HB hb hbox hg; obtain ⟨HB, BK381, GW381, GE381⟩ := n_) | ((with_reducible refine gate_dst (N := 3) rfl ?_); (try (refine gate_guard (by rfl) ?_; dsimp only)); refine box_event ?hg (N := 3) ?hd (cs := #[.int .i64 a1_0, .int .u8 a1_1, .int .i64 a1_2, .int .i64 a1_3, .int .i64 a1_4, .int .i64 a1_5, .bool a1_6]) (t := 45) ?hr ?_; (case hd => rfl); (case hg => rfl); (case hr => exact zq13); intro gb382 hg w19 hbox hb; have n_ := as7 (blk_below (zq0 BK381.out) hb) (below_step zq15 hb) (hbox) ((zq43 : w.heap.size ≤ gb382)) ((zq43 : w.heap.size ≤ gb382)) ((zq37 : gb381 ≠ gb382)) ((zq38 : gb382 ≠ gb381)); clear BK381 HB hb hbox hg; obtain ⟨BK381, HB, BK382, GW382, GE382, NB381_382, NB382_381⟩ := n_; have hnb20 := NB382_381.out; have hnc20 := NB381_382.out; obtain ⟨hcz21_0, hcz21_1, hcz21_2, hcz21_3, hcz21_4, hcz21_5, hcz21_6, hfz21_0, hfz21_1, hfz21_2, hfz21_3, hfz21_4, hfz21_5, hfz21_6⟩ := bcs7 BK382.out) | ((with_reducible refine gate_callee (f := 36) rfl ?_); refine goesL_ (some 12) rfl rfl Try.func36 zq26 rfl #[.int .i64 a1_2, .int .i64 0, .int .i64 1000000] rfl zq3 ?_; (with_reducible refine (inspect_within.calls a1_2 0 1000000 true _ A4.out).mono ?_); rintro e w' ⟨rfl, ⟨nd, rfl⟩⟩; refine ⟨_, rfl, ?_⟩) | (go_at_call 36; (with_reducible refine (inspect_within.calls a1_3 0 999 true _ A6.out).mono ?_); rintro e w' ⟨rfl, ⟨nd, rfl⟩⟩))
     go_ret
     exact ⟨zq9, zq6⟩
   ·replace c7 := Bool.eq_false_iff.mpr c7
    subst c7
    have H1 : (some 1) = some r := by rw [if_neg (show ¬ (false = true) by decide)] at H; exact H
    clear H
    have H := H1
    clear H1
    obtain rfl := Option.some.inj H
    go_enter Try.func49, Try.ntmps49
    go_wp2_with (first | ((with_reducible refine gate_dst (N := 2) rfl ?_); (try (refine gate_guard (by rfl) ?_; dsimp only)); refine box_event ?hg (N := 2) ?hd (cs := #[.int .i64 a0_0, .slice A0_1 l0_1.length c0_1, .slice A0_2 l0_2.length c0_2]) (t := 25) ?hr ?_; (case hd => rfl); (case hg => rfl); (case hr => exact zq13); intro gb381 hg w22 hbox hb; have n_ := as4 (below_step zq2 hb) (hbox) ((zq23 : w.heap.size ≤ gb381)) ((zq23 : w.heap.size ≤ gb381)); clear HB hb hbox hg; obtain ⟨HB, BK381, GW381, GE381⟩ := n_) | ((with_reducible refine gate_dst (N := 3) rfl ?_); (try (refine gate_guard (by rfl) ?_; dsimp only)); refine box_event ?hg (N := 3) ?hd (cs := #[.int .i64 a1_0, .int .u8 a1_1, .int .i64 a1_2, .int .i64 a1_3, .int .i64 a1_4, .int .i64 a1_5, .bool a1_6]) (t := 45) ?hr ?_; (case hd => rfl); (case hg => rfl); (case hr => exact zq13); intro gb382 hg w23 hbox hb; have n_ := as7 (blk_below (zq0 BK381.out) hb) (below_step zq15 hb) (hbox) ((zq43 : w.heap.size ≤ gb382)) ((zq43 : w.heap.size ≤ gb382)) ((zq37 : gb381 ≠ gb382)) ((zq38 : gb382 ≠ gb381)); clear BK381 HB hb hbox hg; obtain ⟨BK381, HB, BK382, GW382, GE382, NB381_382, NB382_381⟩ := n_; have hnb24 := NB382_381.out; have hnc24 := NB381_382.out; obtain ⟨hcz25_0, hcz25_1, hcz25_2, hcz25_3, hcz25_4, hcz25_5, hcz25_6, hfz25_0, hfz25_1, hfz25_2, hfz25_3, hfz25_4, hfz25_5, hfz25_6⟩ := bcs7 BK382.out) | ((with_reducible refine gate_callee (f := 36) rfl ?_); refine goesL_ (some 12) rfl rfl Try.func36 zq26 rfl #[.int .i64 a1_2, .int .i64 0, .int .i64 1000000] rfl zq3 ?_; (with_reducible refine (inspect_within.calls a1_2 0 1000000 true _ A4.out).mono ?_); rintro e w' ⟨rfl, ⟨nd, rfl⟩⟩; refine ⟨_, rfl, ?_⟩) | (go_at_call 36; (with_reducible refine (inspect_within.calls a1_3 0 999 false _ A6.out).mono ?_); rintro e w' ⟨rfl, ⟨nd, rfl⟩⟩))
    go_ret
    exact ⟨zq9, zq6⟩
  ·replace c5 := Bool.eq_false_iff.mpr c5
   subst c5
   have H1 : (some 1) = some r := by rw [if_neg (show ¬ (false = true) by decide)] at H; exact H
   clear H
   have H := H1
   clear H1
   obtain rfl := Option.some.inj H
   go_enter Try.func49, Try.ntmps49
   go_wp2_with (first | ((with_reducible refine gate_dst (N := 2) rfl ?_); (try (refine gate_guard (by rfl) ?_; dsimp only)); refine box_event ?hg (N := 2) ?hd (cs := #[.int .i64 a0_0, .slice A0_1 l0_1.length c0_1, .slice A0_2 l0_2.length c0_2]) (t := 25) ?hr ?_; (case hd => rfl); (case hg => rfl); (case hr => exact zq13); intro gb381 hg w26 hbox hb; have n_ := as4 (below_step zq2 hb) (hbox) ((zq23 : w.heap.size ≤ gb381)) ((zq23 : w.heap.size ≤ gb381)); clear HB hb hbox hg; obtain ⟨HB, BK381, GW381, GE381⟩ := n_) | ((with_reducible refine gate_dst (N := 3) rfl ?_); (try (refine gate_guard (by rfl) ?_; dsimp only)); refine box_event ?hg (N := 3) ?hd (cs := #[.int .i64 a1_0, .int .u8 a1_1, .int .i64 a1_2, .int .i64 a1_3, .int .i64 a1_4, .int .i64 a1_5, .bool a1_6]) (t := 45) ?hr ?_; (case hd => rfl); (case hg => rfl); (case hr => exact zq13); intro gb382 hg w27 hbox hb; have n_ := as7 (blk_below (zq0 BK381.out) hb) (below_step zq15 hb) (hbox) ((zq43 : w.heap.size ≤ gb382)) ((zq43 : w.heap.size ≤ gb382)) ((zq37 : gb381 ≠ gb382)) ((zq38 : gb382 ≠ gb381)); clear BK381 HB hb hbox hg; obtain ⟨BK381, HB, BK382, GW382, GE382, NB381_382, NB382_381⟩ := n_; have hnb28 := NB382_381.out; have hnc28 := NB381_382.out; obtain ⟨hcz29_0, hcz29_1, hcz29_2, hcz29_3, hcz29_4, hcz29_5, hcz29_6, hfz29_0, hfz29_1, hfz29_2, hfz29_3, hfz29_4, hfz29_5, hfz29_6⟩ := bcs7 BK382.out) | ((with_reducible refine gate_callee (f := 36) rfl ?_); refine goesL_ (some 12) rfl rfl Try.func36 zq26 rfl #[.int .i64 a1_2, .int .i64 0, .int .i64 1000000] rfl zq3 ?_; (with_reducible refine (inspect_within.calls a1_2 0 1000000 false _ A4.out).mono ?_); rintro e w' ⟨rfl, ⟨nd, rfl⟩⟩; refine ⟨_, rfl, ?_⟩))
   go_ret
   exact ⟨zq9, zq6⟩
 ·rw [if_neg c3] at H
  have c3b0 : (a1_1 == 1) = false := beq_eq_false_iff_ne.mpr c3
  have c3b1 : (a1_1 != 1) = true := bne_iff_ne.mpr c3
  have HC30 := Aside0.mk H
  clear H
  go_enter Try.func49, Try.ntmps49
  go_upto_region 5 with (first | ((with_reducible refine gate_dst (N := 2) rfl ?_); (try (refine gate_guard (by rfl) ?_; dsimp only)); refine box_event ?hg (N := 2) ?hd (cs := #[.int .i64 a0_0, .slice A0_1 l0_1.length c0_1, .slice A0_2 l0_2.length c0_2]) (t := 25) ?hr ?_; (case hd => rfl); (case hg => rfl); (case hr => exact zq13); intro gb381 hg w31 hbox hb; have n_ := as4 (below_step zq2 hb) (hbox) ((zq23 : w.heap.size ≤ gb381)) ((zq23 : w.heap.size ≤ gb381)); clear HB hb hbox hg; obtain ⟨HB, BK381, GW381, GE381⟩ := n_) | ((with_reducible refine gate_dst (N := 3) rfl ?_); (try (refine gate_guard (by rfl) ?_; dsimp only)); refine box_event ?hg (N := 3) ?hd (cs := #[.int .i64 a1_0, .int .u8 a1_1, .int .i64 a1_2, .int .i64 a1_3, .int .i64 a1_4, .int .i64 a1_5, .bool a1_6]) (t := 45) ?hr ?_; (case hd => rfl); (case hg => rfl); (case hr => exact zq13); intro gb382 hg w32 hbox hb; have n_ := as7 (blk_below (zq0 BK381.out) hb) (below_step zq15 hb) (hbox) ((zq43 : w.heap.size ≤ gb382)) ((zq43 : w.heap.size ≤ gb382)) ((zq37 : gb381 ≠ gb382)) ((zq38 : gb382 ≠ gb381)); clear BK381 HB hb hbox hg; obtain ⟨BK381, HB, BK382, GW382, GE382, NB381_382, NB382_381⟩ := n_; have hnb33 := NB382_381.out; have hnc33 := NB381_382.out; obtain ⟨hcz34_0, hcz34_1, hcz34_2, hcz34_3, hcz34_4, hcz34_5, hcz34_6, hfz34_0, hfz34_1, hfz34_2, hfz34_3, hfz34_4, hfz34_5, hfz34_6⟩ := bcs7 BK382.out))
  (try simp only [Act.put, List.setIfInBounds_toArray, List.set_cons_zero, List.set_cons_succ])
  go_cut [47] (fun v47 wc => ∃ (kq : Nat) (x47_29 : Bool), v47 = .bool x47_29 ∧ Aside0 (inspect_entryError.j0 kq x47_29 a0_0 l0_1 l0_2 a1_0 a1_1 a1_2 a1_3 a1_4 a1_5 a1_6 = some r) ∧ Aside0 (kq ≤ k) ∧ Aside0 (wc.heap[gb381]? = some (.cells #[.int .i64 a0_0, (.slice A0_1 l0_1.length c0_1), (.slice A0_2 l0_2.length c0_2)] 25 (0, 0))) ∧ Aside0 (wc.heap[gb382]? = some (.cells #[.int .i64 a1_0, .int .u8 a1_1, .int .i64 a1_2, .int .i64 a1_3, .int .i64 a1_4, .int .i64 a1_5, .bool a1_6] 45 (0, 0))) ∧ Aside0 (Below w.heap.size w wc))
  case first =>
   have H := HC30.out
   clear HC30
   replace H := Option.bind_eq_some_iff.mp H
   obtain ⟨t385, A350, H⟩ := H
   replace H : (if t385 = true then ((inspect_within.f a1_5 0 (wrap64 ((l0_1.length : Int) - 1))).bind fun t386 => (inspect_entryError.j0 k (!t386) a0_0 l0_1 l0_2 a1_0 a1_1 a1_2 a1_3 a1_4 a1_5 a1_6)) else (inspect_entryError.j0 k true a0_0 l0_1 l0_2 a1_0 a1_1 a1_2 a1_3 a1_4 a1_5 a1_6)) = some r := H
   have A35 := Aside0.mk A350
   clear A350
   by_cases c36 : t385 = true
   ·subst c36
    have H1 : ((inspect_within.f a1_5 0 (wrap64 ((l0_1.length : Int) - 1))).bind fun t386 => (inspect_entryError.j0 k (!t386) a0_0 l0_1 l0_2 a1_0 a1_1 a1_2 a1_3 a1_4 a1_5 a1_6)) = some r := by rw [if_pos rfl] at H; exact H
    clear H
    have H := H1
    clear H1
    replace H := Option.bind_eq_some_iff.mp H
    obtain ⟨t386, A370, H⟩ := H
    replace H : (inspect_entryError.j0 k (!t386) a0_0 l0_1 l0_2 a1_0 a1_1 a1_2 a1_3 a1_4 a1_5 a1_6) = some r := H
    have A37 := Aside0.mk A370
    clear A370
    have H' := Aside0.mk H
    clear H
    have hnb38 := NB382_381.out
    have hnc38 := NB381_382.out
    obtain ⟨hcz39_0, hcz39_1, hcz39_2, hcz39_3, hcz39_4, hcz39_5, hcz39_6, hfz39_0, hfz39_1, hfz39_2, hfz39_3, hfz39_4, hfz39_5, hfz39_6⟩ := bcs7 BK382.out
    obtain ⟨hcz40_0, hcz40_1, hcz40_2, hfz40_0, hfz40_1, hfz40_2⟩ := bcs3 BK381.out
    go_wp2_with (first | ((with_reducible refine gate_callee (f := 36) rfl ?_); refine goesL_ (some 36) rfl rfl Try.func36 zq26 rfl #[.int .i64 a1_4, .int .i64 0, .int .i64 (wrap64 ((l0_2.length : Int) - 1))] rfl zq3 ?_; (with_reducible refine (inspect_within.calls a1_4 0 (wrap64 ((l0_2.length : Int) - 1)) true _ A35.out).mono ?_); rintro e w' ⟨rfl, ⟨nd, rfl⟩⟩; refine ⟨_, rfl, ?_⟩) | (go_at_call 36; (with_reducible refine (inspect_within.calls a1_5 0 (wrap64 ((l0_1.length : Int) - 1)) t386 _ A37.out).mono ?_); rintro e w' ⟨rfl, ⟨nd, rfl⟩⟩))
    go_meet
    case rel => exact ⟨_, (!t386), zq20, H', ⟨zq44⟩, ⟨(zq0 BK381.out)⟩, ⟨(zq0 BK382.out)⟩, ⟨zq6⟩⟩
   ·replace c36 := Bool.eq_false_iff.mpr c36
    subst c36
    have H1 : (inspect_entryError.j0 k true a0_0 l0_1 l0_2 a1_0 a1_1 a1_2 a1_3 a1_4 a1_5 a1_6) = some r := by rw [if_neg (show ¬ (false = true) by decide)] at H; exact H
    clear H
    have H := H1
    clear H1
    have H' := Aside0.mk H
    clear H
    have hnb41 := NB382_381.out
    have hnc41 := NB381_382.out
    obtain ⟨hcz42_0, hcz42_1, hcz42_2, hcz42_3, hcz42_4, hcz42_5, hcz42_6, hfz42_0, hfz42_1, hfz42_2, hfz42_3, hfz42_4, hfz42_5, hfz42_6⟩ := bcs7 BK382.out
    obtain ⟨hcz43_0, hcz43_1, hcz43_2, hfz43_0, hfz43_1, hfz43_2⟩ := bcs3 BK381.out
    go_wp2_with (first | ((with_reducible refine gate_callee (f := 36) rfl ?_); refine goesL_ (some 36) rfl rfl Try.func36 zq26 rfl #[.int .i64 a1_4, .int .i64 0, .int .i64 (wrap64 ((l0_2.length : Int) - 1))] rfl zq3 ?_; (with_reducible refine (inspect_within.calls a1_4 0 (wrap64 ((l0_2.length : Int) - 1)) false _ A35.out).mono ?_); rintro e w' ⟨rfl, ⟨nd, rfl⟩⟩; refine ⟨_, rfl, ?_⟩))
    go_meet
    case rel => exact ⟨_, (true), zq20, H', ⟨zq44⟩, ⟨(zq0 BK381.out)⟩, ⟨(zq0 BK382.out)⟩, ⟨zq6⟩⟩
  case rest =>
   clear HC30
   try clear c1
   try clear c2
   try clear p2
   try clear c3
   try clear c3b0
   try clear c3b1
   try clear c4
   try clear c5
   try clear p6
   try clear c7
   try clear c8
   try clear c8b0
   try clear c8b1
   try clear c9
   try clear c9b0
   try clear c9b1
   try clear c12
   try clear c16
   try clear c20
   try clear c24
   try clear c28
   try clear c33
   try clear c36
   try clear c38
   try clear c41
   try clear hcz13_0 hcz13_1 hcz13_2 hcz13_3 hcz13_4 hcz13_5 hcz13_6 hfz13_0 hfz13_1 hfz13_2 hfz13_3 hfz13_4 hfz13_5 hfz13_6
   try clear hcz17_0 hcz17_1 hcz17_2 hcz17_3 hcz17_4 hcz17_5 hcz17_6 hfz17_0 hfz17_1 hfz17_2 hfz17_3 hfz17_4 hfz17_5 hfz17_6
   try clear hcz21_0 hcz21_1 hcz21_2 hcz21_3 hcz21_4 hcz21_5 hcz21_6 hfz21_0 hfz21_1 hfz21_2 hfz21_3 hfz21_4 hfz21_5 hfz21_6
   try clear hcz25_0 hcz25_1 hcz25_2 hcz25_3 hcz25_4 hcz25_5 hcz25_6 hfz25_0 hfz25_1 hfz25_2 hfz25_3 hfz25_4 hfz25_5 hfz25_6
   try clear hcz29_0 hcz29_1 hcz29_2 hcz29_3 hcz29_4 hcz29_5 hcz29_6 hfz29_0 hfz29_1 hfz29_2 hfz29_3 hfz29_4 hfz29_5 hfz29_6
   try clear hcz34_0 hcz34_1 hcz34_2 hcz34_3 hcz34_4 hcz34_5 hcz34_6 hfz34_0 hfz34_1 hfz34_2 hfz34_3 hfz34_4 hfz34_5 hfz34_6
   try clear hcz39_0 hcz39_1 hcz39_2 hcz39_3 hcz39_4 hcz39_5 hcz39_6 hfz39_0 hfz39_1 hfz39_2 hfz39_3 hfz39_4 hfz39_5 hfz39_6
   try clear hcz40_0 hcz40_1 hcz40_2 hfz40_0 hfz40_1 hfz40_2
   try clear hcz42_0 hcz42_1 hcz42_2 hcz42_3 hcz42_4 hcz42_5 hcz42_6 hfz42_0 hfz42_1 hfz42_2 hfz42_3 hfz42_4 hfz42_5 hfz42_6
   try clear hcz43_0 hcz43_1 hcz43_2 hfz43_0 hfz43_1 hfz43_2
   obtain ⟨kq, x47_29, rfl, HA, HJ29, BK381, BK382, HB⟩ := hcut
   cases kq with
   | zero => exact absurd HA.out (by simp [inspect_entryError.j0])
   | succ kj29 =>
    have H := HA.out
    clear HA
    simp only [inspect_entryError.j0] at H
    by_cases c44 : x47_29 = true
    ·subst c44
     have H1 : (some 7) = some r := by rw [if_pos rfl] at H; exact H
     clear H
     have H := H1
     clear H1
     obtain rfl := Option.some.inj H
     go_wp2
     go_ret
     exact ⟨zq9, zq6⟩
    ·replace c44 := Bool.eq_false_iff.mpr c44
     subst c44
     have H1 : ((inspect_claim.f a0_0 l0_1 l0_2 a1_4 a1_5).bind fun bt387 => (if bt387.2.2.2 = true then (if a1_2 = 0 then (if a1_3 = 0 then (some 0) else (some 1)) else (some 1)) else (some 9))) = some r := by rw [if_neg (show ¬ (false = true) by decide)] at H; exact H
     clear H
     have H := H1
     clear H1
     replace H := Option.bind_eq_some_iff.mp H
     obtain ⟨⟨t387, t388, t389, t390⟩, A450, H⟩ := H
     replace H : (if t390 = true then (if a1_2 = 0 then (if a1_3 = 0 then (some 0) else (some 1)) else (some 1)) else (some 9)) = some r := H
     have A45 := Aside0.mk A450
     clear A450
     by_cases c46 : t390 = true
     ·subst c46
      have H1 : (if a1_2 = 0 then (if a1_3 = 0 then (some 0) else (some 1)) else (some 1)) = some r := by rw [if_pos rfl] at H; exact H
      clear H
      have H := H1
      clear H1
      by_cases c47 : a1_2 = 0
      ·rw [if_pos c47] at H
       have c47b0 : (a1_2 == 0) = true := beq_iff_eq.mpr c47
       have c47b1 : (a1_2 != 0) = false := bne_eq_false_iff_eq.mpr c47
       clear c47
       by_cases c48 : a1_3 = 0
       ·rw [if_pos c48] at H
        have c48b0 : (a1_3 == 0) = true := beq_iff_eq.mpr c48
        have c48b1 : (a1_3 != 0) = false := bne_eq_false_iff_eq.mpr c48
        clear c48
        obtain rfl := Option.some.inj H
        have hnb49 := NB381_382.out
        have hnc49 := NB382_381.out
        obtain ⟨hcz50_0, hcz50_1, hcz50_2, hfz50_0, hfz50_1, hfz50_2⟩ := bcs3 BK381.out
        obtain ⟨hcz51_0, hcz51_1, hcz51_2, hcz51_3, hcz51_4, hcz51_5, hcz51_6, hfz51_0, hfz51_1, hfz51_2, hfz51_3, hfz51_4, hfz51_5, hfz51_6⟩ := bcs7 BK382.out
        go_wp2_with (first | ((with_reducible refine gate_callee (f := 38) rfl ?_); refine goesL_ (some 54) rfl rfl Try.func38 zq26 rfl #[.agg #[.int .i64 a0_0, .slice A0_1 l0_1.length c0_1, .slice A0_2 l0_2.length c0_2], .int .i64 a1_4, .int .i64 a1_5] rfl zq3 ?_; (with_reducible refine (inspect_claim.calls a0_0 _ _ l0_1 _ _ l0_2 a1_4 a1_5 t387 t388 t389 true _ ?side1 ?side2 ?side3 ?side4 A45.out).mono ?_); (case side1 => exact zq7); (case side2 => exact HC0_1.out); (case side3 => exact zq8); (case side4 => exact HC0_2.out); rintro e w52 ⟨rfl, hb⟩; refine ⟨_, rfl, ?_⟩; have n_ := as3 (blk_below (zq0 BK381.out) hb) (blk_below (zq0 BK382.out) hb) (below_step zq6 hb); clear BK381 BK382 HB; obtain ⟨BK381, BK382, HB⟩ := n_; (try clear hb); (try clear hb2); (try clear hk); (try clear hi)) | ((with_reducible refine gate_dst (N := 5) rfl ?_); (try (refine gate_guard (by rfl) ?_; dsimp only)); refine box_event ?hg (N := 5) ?hd (cs := #[.int .i64 0, .int .i64 0, .int .i64 0]) (t := 68) ?hr ?_; (case hd => rfl); (case hg => rfl); (case hr => exact zq13); intro gb391 hg w53 hbox hb; have n_ := as10 (blk_below (zq0 BK381.out) hb) (blk_below (zq0 BK382.out) hb) (below_step zq6 hb) (hbox) ((zq49 : w.heap.size ≤ gb391)) ((zq49 : w.heap.size ≤ gb391)) ((zq37 : gb381 ≠ gb391)) ((zq38 : gb391 ≠ gb381)) ((zq61 : gb382 ≠ gb391)) ((zq62 : gb391 ≠ gb382)); clear BK381 BK382 HB hb hbox hg; obtain ⟨BK381, BK382, HB, BK391, GW391, GE391, NB381_391, NB391_381, NB382_391, NB391_382⟩ := n_; have hnb54 := NB391_381.out; have hnc54 := NB381_391.out; have hnb55 := NB391_382.out; have hnc55 := NB382_391.out; obtain ⟨hcz56_0, hcz56_1, hcz56_2, hfz56_0, hfz56_1, hfz56_2⟩ := bcs3 BK391.out; obtain ⟨hcz57_0, hcz57_1, hcz57_2, hcz57_3, hcz57_4, hcz57_5, hcz57_6, hfz57_0, hfz57_1, hfz57_2, hfz57_3, hfz57_4, hfz57_5, hfz57_6⟩ := bcs7 BK382.out))
        go_ret
        exact ⟨zq9, zq31⟩
       ·rw [if_neg c48] at H
        have c48b0 : (a1_3 == 0) = false := beq_eq_false_iff_ne.mpr c48
        have c48b1 : (a1_3 != 0) = true := bne_iff_ne.mpr c48
        obtain rfl := Option.some.inj H
        have hnb58 := NB381_382.out
        have hnc58 := NB382_381.out
        obtain ⟨hcz59_0, hcz59_1, hcz59_2, hfz59_0, hfz59_1, hfz59_2⟩ := bcs3 BK381.out
        obtain ⟨hcz60_0, hcz60_1, hcz60_2, hcz60_3, hcz60_4, hcz60_5, hcz60_6, hfz60_0, hfz60_1, hfz60_2, hfz60_3, hfz60_4, hfz60_5, hfz60_6⟩ := bcs7 BK382.out
        go_wp2_with (first | ((with_reducible refine gate_callee (f := 38) rfl ?_); refine goesL_ (some 54) rfl rfl Try.func38 zq26 rfl #[.agg #[.int .i64 a0_0, .slice A0_1 l0_1.length c0_1, .slice A0_2 l0_2.length c0_2], .int .i64 a1_4, .int .i64 a1_5] rfl zq3 ?_; (with_reducible refine (inspect_claim.calls a0_0 _ _ l0_1 _ _ l0_2 a1_4 a1_5 t387 t388 t389 true _ ?side1 ?side2 ?side3 ?side4 A45.out).mono ?_); (case side1 => exact zq7); (case side2 => exact HC0_1.out); (case side3 => exact zq8); (case side4 => exact HC0_2.out); rintro e w61 ⟨rfl, hb⟩; refine ⟨_, rfl, ?_⟩; have n_ := as3 (blk_below (zq0 BK381.out) hb) (blk_below (zq0 BK382.out) hb) (below_step zq6 hb); clear BK381 BK382 HB; obtain ⟨BK381, BK382, HB⟩ := n_; (try clear hb); (try clear hb2); (try clear hk); (try clear hi)) | ((with_reducible refine gate_dst (N := 5) rfl ?_); (try (refine gate_guard (by rfl) ?_; dsimp only)); refine box_event ?hg (N := 5) ?hd (cs := #[.int .i64 0, .int .i64 0, .int .i64 0]) (t := 68) ?hr ?_; (case hd => rfl); (case hg => rfl); (case hr => exact zq13); intro gb391 hg w62 hbox hb; have n_ := as10 (blk_below (zq0 BK381.out) hb) (blk_below (zq0 BK382.out) hb) (below_step zq6 hb) (hbox) ((zq49 : w.heap.size ≤ gb391)) ((zq49 : w.heap.size ≤ gb391)) ((zq37 : gb381 ≠ gb391)) ((zq38 : gb391 ≠ gb381)) ((zq61 : gb382 ≠ gb391)) ((zq62 : gb391 ≠ gb382)); clear BK381 BK382 HB hb hbox hg; obtain ⟨BK381, BK382, HB, BK391, GW391, GE391, NB381_391, NB391_381, NB382_391, NB391_382⟩ := n_; have hnb63 := NB391_381.out; have hnc63 := NB381_391.out; have hnb64 := NB391_382.out; have hnc64 := NB382_391.out; obtain ⟨hcz65_0, hcz65_1, hcz65_2, hfz65_0, hfz65_1, hfz65_2⟩ := bcs3 BK391.out; obtain ⟨hcz66_0, hcz66_1, hcz66_2, hcz66_3, hcz66_4, hcz66_5, hcz66_6, hfz66_0, hfz66_1, hfz66_2, hfz66_3, hfz66_4, hfz66_5, hfz66_6⟩ := bcs7 BK382.out))
        go_ret
        exact ⟨zq9, zq31⟩
      ·rw [if_neg c47] at H
       have c47b0 : (a1_2 == 0) = false := beq_eq_false_iff_ne.mpr c47
       have c47b1 : (a1_2 != 0) = true := bne_iff_ne.mpr c47
       obtain rfl := Option.some.inj H
       have hnb67 := NB381_382.out
       have hnc67 := NB382_381.out
       obtain ⟨hcz68_0, hcz68_1, hcz68_2, hfz68_0, hfz68_1, hfz68_2⟩ := bcs3 BK381.out
       obtain ⟨hcz69_0, hcz69_1, hcz69_2, hcz69_3, hcz69_4, hcz69_5, hcz69_6, hfz69_0, hfz69_1, hfz69_2, hfz69_3, hfz69_4, hfz69_5, hfz69_6⟩ := bcs7 BK382.out
       go_wp2_with (first | ((with_reducible refine gate_callee (f := 38) rfl ?_); refine goesL_ (some 54) rfl rfl Try.func38 zq26 rfl #[.agg #[.int .i64 a0_0, .slice A0_1 l0_1.length c0_1, .slice A0_2 l0_2.length c0_2], .int .i64 a1_4, .int .i64 a1_5] rfl zq3 ?_; (with_reducible refine (inspect_claim.calls a0_0 _ _ l0_1 _ _ l0_2 a1_4 a1_5 t387 t388 t389 true _ ?side1 ?side2 ?side3 ?side4 A45.out).mono ?_); (case side1 => exact zq7); (case side2 => exact HC0_1.out); (case side3 => exact zq8); (case side4 => exact HC0_2.out); rintro e w70 ⟨rfl, hb⟩; refine ⟨_, rfl, ?_⟩; have n_ := as3 (blk_below (zq0 BK381.out) hb) (blk_below (zq0 BK382.out) hb) (below_step zq6 hb); clear BK381 BK382 HB; obtain ⟨BK381, BK382, HB⟩ := n_; (try clear hb); (try clear hb2); (try clear hk); (try clear hi)) | ((with_reducible refine gate_dst (N := 5) rfl ?_); (try (refine gate_guard (by rfl) ?_; dsimp only)); refine box_event ?hg (N := 5) ?hd (cs := #[.int .i64 0, .int .i64 0, .int .i64 0]) (t := 68) ?hr ?_; (case hd => rfl); (case hg => rfl); (case hr => exact zq13); intro gb391 hg w71 hbox hb; have n_ := as10 (blk_below (zq0 BK381.out) hb) (blk_below (zq0 BK382.out) hb) (below_step zq6 hb) (hbox) ((zq49 : w.heap.size ≤ gb391)) ((zq49 : w.heap.size ≤ gb391)) ((zq37 : gb381 ≠ gb391)) ((zq38 : gb391 ≠ gb381)) ((zq61 : gb382 ≠ gb391)) ((zq62 : gb391 ≠ gb382)); clear BK381 BK382 HB hb hbox hg; obtain ⟨BK381, BK382, HB, BK391, GW391, GE391, NB381_391, NB391_381, NB382_391, NB391_382⟩ := n_; have hnb72 := NB391_381.out; have hnc72 := NB381_391.out; have hnb73 := NB391_382.out; have hnc73 := NB382_391.out; obtain ⟨hcz74_0, hcz74_1, hcz74_2, hfz74_0, hfz74_1, hfz74_2⟩ := bcs3 BK391.out; obtain ⟨hcz75_0, hcz75_1, hcz75_2, hcz75_3, hcz75_4, hcz75_5, hcz75_6, hfz75_0, hfz75_1, hfz75_2, hfz75_3, hfz75_4, hfz75_5, hfz75_6⟩ := bcs7 BK382.out))
       go_ret
       exact ⟨zq9, zq31⟩
     ·replace c46 := Bool.eq_false_iff.mpr c46
      subst c46
      have H1 : (some 9) = some r := by rw [if_neg (show ¬ (false = true) by decide)] at H; exact H
      clear H
      have H := H1
      clear H1
      obtain rfl := Option.some.inj H
      have hnb76 := NB381_382.out
      have hnc76 := NB382_381.out
      obtain ⟨hcz77_0, hcz77_1, hcz77_2, hfz77_0, hfz77_1, hfz77_2⟩ := bcs3 BK381.out
      obtain ⟨hcz78_0, hcz78_1, hcz78_2, hcz78_3, hcz78_4, hcz78_5, hcz78_6, hfz78_0, hfz78_1, hfz78_2, hfz78_3, hfz78_4, hfz78_5, hfz78_6⟩ := bcs7 BK382.out
      go_wp2_with (first | ((with_reducible refine gate_callee (f := 38) rfl ?_); refine goesL_ (some 54) rfl rfl Try.func38 zq26 rfl #[.agg #[.int .i64 a0_0, .slice A0_1 l0_1.length c0_1, .slice A0_2 l0_2.length c0_2], .int .i64 a1_4, .int .i64 a1_5] rfl zq3 ?_; (with_reducible refine (inspect_claim.calls a0_0 _ _ l0_1 _ _ l0_2 a1_4 a1_5 t387 t388 t389 false _ ?side1 ?side2 ?side3 ?side4 A45.out).mono ?_); (case side1 => exact zq7); (case side2 => exact HC0_1.out); (case side3 => exact zq8); (case side4 => exact HC0_2.out); rintro e w79 ⟨rfl, hb⟩; refine ⟨_, rfl, ?_⟩; have n_ := as3 (blk_below (zq0 BK381.out) hb) (blk_below (zq0 BK382.out) hb) (below_step zq6 hb); clear BK381 BK382 HB; obtain ⟨BK381, BK382, HB⟩ := n_; (try clear hb); (try clear hb2); (try clear hk); (try clear hi)) | ((with_reducible refine gate_dst (N := 5) rfl ?_); (try (refine gate_guard (by rfl) ?_; dsimp only)); refine box_event ?hg (N := 5) ?hd (cs := #[.int .i64 0, .int .i64 0, .int .i64 0]) (t := 68) ?hr ?_; (case hd => rfl); (case hg => rfl); (case hr => exact zq13); intro gb391 hg w80 hbox hb; have n_ := as10 (blk_below (zq0 BK381.out) hb) (blk_below (zq0 BK382.out) hb) (below_step zq6 hb) (hbox) ((zq49 : w.heap.size ≤ gb391)) ((zq49 : w.heap.size ≤ gb391)) ((zq37 : gb381 ≠ gb391)) ((zq38 : gb391 ≠ gb381)) ((zq61 : gb382 ≠ gb391)) ((zq62 : gb391 ≠ gb382)); clear BK381 BK382 HB hb hbox hg; obtain ⟨BK381, BK382, HB, BK391, GW391, GE391, NB381_391, NB391_381, NB382_391, NB391_382⟩ := n_; have hnb81 := NB391_381.out; have hnc81 := NB381_391.out; have hnb82 := NB391_382.out; have hnc82 := NB382_391.out; obtain ⟨hcz83_0, hcz83_1, hcz83_2, hfz83_0, hfz83_1, hfz83_2⟩ := bcs3 BK391.out))
      go_ret
      exact ⟨zq9, zq31⟩
mutual
def inspect_CheckLog.l0 : Nat → List (S45) → List (S45) → Int → Int → Int → List (S58) → List (S56) → Option (Int)
 | 0, _, _, _, _, _, _, _ => none
 | k + 1, x1, x17, x18, x19, x393000, x393001, x393002 => if x19 < x18 then (if 0 ≤ x19 then (if x19 < (x17.length : Int) then (if ((rd_T45 x17 x19).f1) = 1 then ((inspect_within.f ((rd_T45 x17 x19).f0) 0 1000000000).bind fun t396 => (inspect_CheckLog.j1 k x1 x19 x17 x18 x19 (!t396) x393000 x393001 x393002 ((rd_T45 x17 x19).f0) ((rd_T45 x17 x19).f1) ((rd_T45 x17 x19).f2) ((rd_T45 x17 x19).f3) ((rd_T45 x17 x19).f4) ((rd_T45 x17 x19).f5) ((rd_T45 x17 x19).f6))) else (if ((rd_T45 x17 x19).f1) = 2 then ((inspect_within.f ((rd_T45 x17 x19).f0) 0 1000000000).bind fun t397 => (inspect_CheckLog.j1 k x1 x19 x17 x18 x19 (!t397) x393000 x393001 x393002 ((rd_T45 x17 x19).f0) ((rd_T45 x17 x19).f1) ((rd_T45 x17 x19).f2) ((rd_T45 x17 x19).f3) ((rd_T45 x17 x19).f4) ((rd_T45 x17 x19).f5) ((rd_T45 x17 x19).f6))) else (inspect_CheckLog.j1 k x1 x19 x17 x18 x19 true x393000 x393001 x393002 ((rd_T45 x17 x19).f0) ((rd_T45 x17 x19).f1) ((rd_T45 x17 x19).f2) ((rd_T45 x17 x19).f3) ((rd_T45 x17 x19).f4) ((rd_T45 x17 x19).f5) ((rd_T45 x17 x19).f6)))) else (none)) else (none)) else (some 0)
def inspect_CheckLog.j1 : Nat → List (S45) → Int → List (S45) → Int → Int → Bool → Int → List (S58) → List (S56) → Int → Int → Int → Int → Int → Int → Bool → Option (Int)
 | 0, _, _, _, _, _, _, _, _, _, _, _, _, _, _, _, _ => none
 | k + 1, x1, x6, x17, x18, x19, x24, x393000, x393001, x393002, x396000, x396001, x396002, x396003, x396004, x396005, x396006 => if x24 = true then (some 1) else (if x6 > 0 then (if 0 ≤ (wrap64 (x6 - 1)) then (if (wrap64 (x6 - 1)) < (x1.length : Int) then (inspect_CheckLog.j2 k x1 x17 x18 x19 (decide (((rd_T45 x1 (wrap64 (x6 - 1))).f0) > x396000)) x393000 x393001 x393002 x396000 x396001 x396002 x396003 x396004 x396005 x396006) else (none)) else (none)) else (inspect_CheckLog.j2 k x1 x17 x18 x19 false x393000 x393001 x393002 x396000 x396001 x396002 x396003 x396004 x396005 x396006))
def inspect_CheckLog.j2 : Nat → List (S45) → List (S45) → Int → Int → Bool → Int → List (S58) → List (S56) → Int → Int → Int → Int → Int → Int → Bool → Option (Int)
 | 0, _, _, _, _, _, _, _, _, _, _, _, _, _, _, _ => none
 | k + 1, x1, x17, x18, x19, x39, x393000, x393001, x393002, x396000, x396001, x396002, x396003, x396004, x396005, x396006 => if x39 = true then (some 8) else ((inspect_entryError.f k x393000 x393001 x393002 x396000 x396001 x396002 x396003 x396004 x396005 x396006).bind fun t399 => (if t399 = 0 then (inspect_CheckLog.l0 k x1 x17 x18 (wrap64 (x19 + 1)) x393000 x393001 x393002) else (some t399)))
end
def inspect_CheckLog.f (k : Nat) (a0_0 : Int) (l0_1 : List (S58)) (l0_2 : List (S56)) (l1 : List (S45)) : Option (Int) := (inspect_Check.f k a0_0 l0_1 l0_2).bind fun t393 => (if t393 = 0 then (if (l1.length : Int) > 512 then (some 3) else (inspect_CheckLog.l0 k l1 l1 (l1.length : Int) 0 a0_0 l0_1 l0_2)) else (some t393))
set_option maxHeartbeats 8000000 in
set_option maxRecDepth 100000 in
theorem inspect_CheckLog.calls (k : Nat) (a0_0 : Int) (A0_1 : Option Addr) (c0_1 : Nat) (l0_1 : List (S58)) (A0_2 : Option Addr) (c0_2 : Nat) (l0_2 : List (S56)) (A1 : Option Addr) (c1 : Nat) (l1 : List (S45)) (r : Int) (w : World) (hr0_1 : Kd.C k58 w A0_1 l0_1.length l0_1) (hc0_1 : l0_1.length ≤ c0_1) (hr0_2 : Kd.C k56 w A0_2 l0_2.length l0_2) (hc0_2 : l0_2.length ≤ c0_2) (hr1 : Kd.C k45 w A1 l1.length l1) (hc1 : l1.length ≤ c1) (h : inspect_CheckLog.f k a0_0 l0_1 l0_2 l1 = some r) :
  Calls Try.prog 19 #[.agg #[.int .i64 a0_0, .slice A0_1 l0_1.length c0_1, .slice A0_2 l0_2.length c0_2], .slice A1 l1.length c1] w fun e w' => e = .returned (.int .i64 r) ∧ Below w.heap.size w w' := by
 have hu25 := Try.underlying25
 have hu45 := Try.underlying45
 have HR0_1 := Aside0.mk hr0_1
 have HC0_1 := Aside0.mk hc0_1
 clear hr0_1 hc0_1
 have HR0_2 := Aside0.mk hr0_2
 have HC0_2 := Aside0.mk hc0_2
 clear hr0_2 hc0_2
 have HR1 := Aside0.mk hr1
 have HC1 := Aside0.mk hc1
 clear hr1 hc1
 have HB := Aside0.mk (Below.refl w.heap.size w)
 have H : ((inspect_Check.f k a0_0 l0_1 l0_2).bind fun t393 => (if t393 = 0 then (if (l1.length : Int) > 512 then (some 3) else (inspect_CheckLog.l0 k l1 l1 (l1.length : Int) 0 a0_0 l0_1 l0_2)) else (some t393))) = some r := h
 clear h
 replace H := Option.bind_eq_some_iff.mp H
 obtain ⟨t393, A30, H⟩ := H
 replace H : (if t393 = 0 then (if (l1.length : Int) > 512 then (some 3) else (inspect_CheckLog.l0 k l1 l1 (l1.length : Int) 0 a0_0 l0_1 l0_2)) else (some t393)) = some r := H
 have A3 := Aside0.mk A30
 clear A30
 by_cases c4 : t393 = 0
 ·rw [if_pos c4] at H
  have c4b0 : (t393 == 0) = true := beq_iff_eq.mpr c4
  have c4b1 : (t393 != 0) = false := bne_eq_false_iff_eq.mpr c4
  clear c4
  by_cases c5 : (l1.length : Int) > 512
  ·rw [if_pos c5] at H
   have c5b0 : decide (512 < (l1.length : Int)) = true := decide_eq_true c5
   have c5b1 : decide (512 < l1.length) = true := decide_eq_true zq18
   clear c5
   obtain rfl := Option.some.inj H
   go_enter Try.func19, Try.ntmps19
   go_wp2_with (first | ((with_reducible refine gate_dst (N := 2) rfl ?_); refine box_event ?hg (N := 2) ?hd (cs := #[.int .i64 a0_0, .slice A0_1 l0_1.length c0_1, .slice A0_2 l0_2.length c0_2]) (t := 25) ?hr ?_; (case hd => rfl); (case hg => rfl); (case hr => exact zq13); intro gb392 hg w6 hbox hb; have n_ := as4 (below_step zq2 hb) (hbox) ((zq23 : w.heap.size ≤ gb392)) ((zq23 : w.heap.size ≤ gb392)); clear HB hb hbox hg; obtain ⟨HB, BK392, GW392, GE392⟩ := n_; obtain ⟨hcz7_0, hcz7_1, hcz7_2, hfz7_0, hfz7_1, hfz7_2⟩ := bcs3 BK392.out) | (go_at_call 48; (with_reducible refine (inspect_Check.calls k a0_0 _ _ l0_1 _ _ l0_2 t393 _ ?side1 ?side2 ?side3 ?side4 A3.out).mono ?_); (case side1 => exact zq7); (case side2 => exact HC0_1.out); (case side3 => exact zq8); (case side4 => exact HC0_2.out); rintro e w8 ⟨rfl, hb⟩; have n_ := as2 (blk_below (zq0 BK392.out) hb) (below_step zq10 hb); clear BK392 HB; obtain ⟨BK392, HB⟩ := n_; (try clear hb); (try clear hb2); (try clear hk); (try clear hi)))
   repeat (go_quiet (first | ((with_reducible refine gate_dst (N := 2) rfl ?_); refine box_event ?hg (N := 2) ?hd (cs := #[.int .i64 a0_0, .slice A0_1 l0_1.length c0_1, .slice A0_2 l0_2.length c0_2]) (t := 25) ?hr ?_; (case hd => rfl); (case hg => rfl); (case hr => exact zq13); intro gb392 hg w6 hbox hb; have n_ := as4 (below_step zq2 hb) (hbox) ((zq23 : w.heap.size ≤ gb392)) ((zq23 : w.heap.size ≤ gb392)); clear HB hb hbox hg; obtain ⟨HB, BK392, GW392, GE392⟩ := n_; obtain ⟨hcz7_0, hcz7_1, hcz7_2, hfz7_0, hfz7_1, hfz7_2⟩ := bcs3 BK392.out) | (go_at_call 48; (with_reducible refine (inspect_Check.calls k a0_0 _ _ l0_1 _ _ l0_2 t393 _ ?side1 ?side2 ?side3 ?side4 A3.out).mono ?_); (case side1 => exact zq7); (case side2 => exact HC0_1.out); (case side3 => exact zq8); (case side4 => exact HC0_2.out); rintro e w8 ⟨rfl, hb⟩; have n_ := as2 (blk_below (zq0 BK392.out) hb) (below_step zq10 hb); clear BK392 HB; obtain ⟨BK392, HB⟩ := n_; (try clear hb); (try clear hb2); (try clear hk); (try clear hi))); try go_wp2_with (first | ((with_reducible refine gate_dst (N := 2) rfl ?_); refine box_event ?hg (N := 2) ?hd (cs := #[.int .i64 a0_0, .slice A0_1 l0_1.length c0_1, .slice A0_2 l0_2.length c0_2]) (t := 25) ?hr ?_; (case hd => rfl); (case hg => rfl); (case hr => exact zq13); intro gb392 hg w6 hbox hb; have n_ := as4 (below_step zq2 hb) (hbox) ((zq23 : w.heap.size ≤ gb392)) ((zq23 : w.heap.size ≤ gb392)); clear HB hb hbox hg; obtain ⟨HB, BK392, GW392, GE392⟩ := n_; obtain ⟨hcz7_0, hcz7_1, hcz7_2, hfz7_0, hfz7_1, hfz7_2⟩ := bcs3 BK392.out) | (go_at_call 48; (with_reducible refine (inspect_Check.calls k a0_0 _ _ l0_1 _ _ l0_2 t393 _ ?side1 ?side2 ?side3 ?side4 A3.out).mono ?_); (case side1 => exact zq7); (case side2 => exact HC0_1.out); (case side3 => exact zq8); (case side4 => exact HC0_2.out); rintro e w8 ⟨rfl, hb⟩; have n_ := as2 (blk_below (zq0 BK392.out) hb) (below_step zq10 hb); clear BK392 HB; obtain ⟨BK392, HB⟩ := n_; (try clear hb); (try clear hb2); (try clear hk); (try clear hi))))
   go_ret
   exact ⟨zq9, zq10⟩
  ·rw [if_neg c5] at H
   have c5b0 : decide (512 < (l1.length : Int)) = false := decide_eq_false c5
   have c5b1 : decide (512 < l1.length) = false := decide_eq_false zq18
   clear c5
   have H' := Aside0.mk H
   clear H
   go_enter Try.func19, Try.ntmps19
   go_wp2_with (first | ((with_reducible refine gate_dst (N := 2) rfl ?_); refine box_event ?hg (N := 2) ?hd (cs := #[.int .i64 a0_0, .slice A0_1 l0_1.length c0_1, .slice A0_2 l0_2.length c0_2]) (t := 25) ?hr ?_; (case hd => rfl); (case hg => rfl); (case hr => exact zq13); intro gb392 hg w9 hbox hb; have n_ := as4 (below_step zq2 hb) (hbox) ((zq23 : w.heap.size ≤ gb392)) ((zq23 : w.heap.size ≤ gb392)); clear HB hb hbox hg; obtain ⟨HB, BK392, GW392, GE392⟩ := n_; obtain ⟨hcz10_0, hcz10_1, hcz10_2, hfz10_0, hfz10_1, hfz10_2⟩ := bcs3 BK392.out) | (go_at_call 48; (with_reducible refine (inspect_Check.calls k a0_0 _ _ l0_1 _ _ l0_2 t393 _ ?side1 ?side2 ?side3 ?side4 A3.out).mono ?_); (case side1 => exact zq7); (case side2 => exact HC0_1.out); (case side3 => exact zq8); (case side4 => exact HC0_2.out); rintro e w11 ⟨rfl, hb⟩; have n_ := as2 (blk_below (zq0 BK392.out) hb) (below_step zq10 hb); clear BK392 HB; obtain ⟨BK392, HB⟩ := n_; (try clear hb); (try clear hb2); (try clear hk); (try clear hi)))
   repeat (go_quiet (first | ((with_reducible refine gate_dst (N := 2) rfl ?_); refine box_event ?hg (N := 2) ?hd (cs := #[.int .i64 a0_0, .slice A0_1 l0_1.length c0_1, .slice A0_2 l0_2.length c0_2]) (t := 25) ?hr ?_; (case hd => rfl); (case hg => rfl); (case hr => exact zq13); intro gb392 hg w9 hbox hb; have n_ := as4 (below_step zq2 hb) (hbox) ((zq23 : w.heap.size ≤ gb392)) ((zq23 : w.heap.size ≤ gb392)); clear HB hb hbox hg; obtain ⟨HB, BK392, GW392, GE392⟩ := n_; obtain ⟨hcz10_0, hcz10_1, hcz10_2, hfz10_0, hfz10_1, hfz10_2⟩ := bcs3 BK392.out) | (go_at_call 48; (with_reducible refine (inspect_Check.calls k a0_0 _ _ l0_1 _ _ l0_2 t393 _ ?side1 ?side2 ?side3 ?side4 A3.out).mono ?_); (case side1 => exact zq7); (case side2 => exact HC0_1.out); (case side3 => exact zq8); (case side4 => exact HC0_2.out); rintro e w11 ⟨rfl, hb⟩; have n_ := as2 (blk_below (zq0 BK392.out) hb) (below_step zq10 hb); clear BK392 HB; obtain ⟨BK392, HB⟩ := n_; (try clear hb); (try clear hb2); (try clear hk); (try clear hi))); try go_wp2_with (first | ((with_reducible refine gate_dst (N := 2) rfl ?_); refine box_event ?hg (N := 2) ?hd (cs := #[.int .i64 a0_0, .slice A0_1 l0_1.length c0_1, .slice A0_2 l0_2.length c0_2]) (t := 25) ?hr ?_; (case hd => rfl); (case hg => rfl); (case hr => exact zq13); intro gb392 hg w9 hbox hb; have n_ := as4 (below_step zq2 hb) (hbox) ((zq23 : w.heap.size ≤ gb392)) ((zq23 : w.heap.size ≤ gb392)); clear HB hb hbox hg; obtain ⟨HB, BK392, GW392, GE392⟩ := n_; obtain ⟨hcz10_0, hcz10_1, hcz10_2, hfz10_0, hfz10_1, hfz10_2⟩ := bcs3 BK392.out) | (go_at_call 48; (with_reducible refine (inspect_Check.calls k a0_0 _ _ l0_1 _ _ l0_2 t393 _ ?side1 ?side2 ?side3 ?side4 A3.out).mono ?_); (case side1 => exact zq7); (case side2 => exact HC0_1.out); (case side3 => exact zq8); (case side4 => exact HC0_2.out); rintro e w11 ⟨rfl, hb⟩; have n_ := as2 (blk_below (zq0 BK392.out) hb) (below_step zq10 hb); clear BK392 HB; obtain ⟨BK392, HB⟩ := n_; (try clear hb); (try clear hb2); (try clear hk); (try clear hi))))
   go_loopg [19] k (fun kq v19 w' => ∃ (x19_1 : Int), v19 = .int .i64 x19_1 ∧ Aside0 (inspect_CheckLog.l0 kq l1 l1 (l1.length : Int) x19_1 a0_0 l0_1 l0_2 = some r) ∧ Aside0 (kq ≤ k) ∧ Aside0 (w'.heap[gb392]? = some (.cells #[.int .i64 a0_0, (.slice A0_1 l0_1.length c0_1), (.slice A0_2 l0_2.length c0_2)] 25 (0, 0))) ∧ Aside0 (Below w.heap.size w w'))
   case atStart => exact ⟨(0), zq20, H', ⟨Nat.le_refl _⟩, ⟨(zq0 BK392.out)⟩, ⟨zq10⟩⟩
   case round =>
    clear H'
    try clear c1
    try clear p2
    try clear c4
    try clear c4b0
    try clear c4b1
    try clear c5
    try clear c5b0
    try clear c5b1
    try clear hcz10_0 hcz10_1 hcz10_2 hfz10_0 hfz10_1 hfz10_2
    try clear hcz7_0 hcz7_1 hcz7_2 hfz7_0 hfz7_1 hfz7_2
    obtain ⟨x19_1, rfl, HA, HK1, BK392, HB⟩ := hrel
    cases gk with
    | zero => exact absurd HA.out (by simp [inspect_CheckLog.l0])
    | succ k1 =>
     have H := HA.out
     clear HA
     simp only [inspect_CheckLog.l0] at H
     by_cases c12 : x19_1 < (l1.length : Int)
     ·rw [if_pos c12] at H
      have c12b0 : decide (x19_1 < (l1.length : Int)) = true := decide_eq_true c12
      clear c12
      by_cases c13 : 0 ≤ x19_1
      ·rw [if_pos c13] at H
       have c13b0 : decide (0 ≤ x19_1) = true := decide_eq_true c13
       clear c13
       by_cases c14 : x19_1 < (l1.length : Int)
       ·rw [if_pos c14] at H
        have c14b0 : decide (x19_1 < (l1.length : Int)) = true := decide_eq_true c14
        clear c14
        have HC15 := Aside0.mk H
        clear H
        have p394 : 0 ≤ (x19_1 : Int) := of_decide_eq_true zq5
        have q394 : x19_1 < (l1.length : Int) := of_decide_eq_true zq5
        obtain ⟨ad394, e394, hx394_0, hx394_1, hx394_2, hx394_3, hx394_4, hx394_5, hx394_6⟩ := at_T45 HR1.out x19_1 p394 q394
        cases e394
        replace hx394_0 := hcx HB.out hx394_0
        replace hx394_1 := hcx HB.out hx394_1
        replace hx394_2 := hcx HB.out hx394_2
        replace hx394_3 := hcx HB.out hx394_3
        replace hx394_4 := hcx HB.out hx394_4
        replace hx394_5 := hcx HB.out hx394_5
        replace hx394_6 := hcx HB.out hx394_6
        replace p394 := eq_true p394
        replace q394 := eq_true q394
        go_upto_region 9 with (first | ((with_reducible refine gate_dst (N := 7) rfl ?_); refine box_event ?hg (N := 7) ?hd (cs := #[.int .i64 0, .int .u8 0, .int .i64 0, .int .i64 0, .int .i64 0, .int .i64 0, .bool false]) (t := 45) ?hr ?_; (case hd => rfl); (case hg => rfl); (case hr => exact zq13); intro gb395 hg w16 hbox hb; have n_ := as7 (blk_below (zq0 BK392.out) hb) (below_step zq10 hb) (hbox) ((zq58 : w.heap.size ≤ gb395)) ((zq58 : w.heap.size ≤ gb395)) ((by rw [hg]; exact Nat.ne_of_lt (blk_lt (zq0 BK392.out)) : gb392 ≠ gb395)) ((by rw [hg]; exact Nat.ne_of_gt (blk_lt (zq0 BK392.out)) : gb395 ≠ gb392)); clear BK392 HB hb hbox hg; obtain ⟨BK392, HB, BK395, GW395, GE395, NB392_395, NB395_392⟩ := n_; have hnb17 := NB395_392.out; have hnc17 := NB392_395.out; obtain ⟨hcz18_0, hcz18_1, hcz18_2, hcz18_3, hcz18_4, hcz18_5, hcz18_6, hfz18_0, hfz18_1, hfz18_2, hfz18_3, hfz18_4, hfz18_5, hfz18_6⟩ := bcs7 BK395.out))
        repeat (go_quiet (first | ((with_reducible refine gate_dst (N := 7) rfl ?_); refine box_event ?hg (N := 7) ?hd (cs := #[.int .i64 0, .int .u8 0, .int .i64 0, .int .i64 0, .int .i64 0, .int .i64 0, .bool false]) (t := 45) ?hr ?_; (case hd => rfl); (case hg => rfl); (case hr => exact zq13); intro gb395 hg w16 hbox hb; have n_ := as7 (blk_below (zq0 BK392.out) hb) (below_step zq10 hb) (hbox) ((zq58 : w.heap.size ≤ gb395)) ((zq58 : w.heap.size ≤ gb395)) ((by rw [hg]; exact Nat.ne_of_lt (blk_lt (zq0 BK392.out)) : gb392 ≠ gb395)) ((by rw [hg]; exact Nat.ne_of_gt (blk_lt (zq0 BK392.out)) : gb395 ≠ gb392)); clear BK392 HB hb hbox hg; obtain ⟨BK392, HB, BK395, GW395, GE395, NB392_395, NB395_392⟩ := n_; have hnb17 := NB395_392.out; have hnc17 := NB392_395.out; obtain ⟨hcz18_0, hcz18_1, hcz18_2, hcz18_3, hcz18_4, hcz18_5, hcz18_6, hfz18_0, hfz18_1, hfz18_2, hfz18_3, hfz18_4, hfz18_5, hfz18_6⟩ := bcs7 BK395.out)); go_upto_region 9 with (first | ((with_reducible refine gate_dst (N := 7) rfl ?_); refine box_event ?hg (N := 7) ?hd (cs := #[.int .i64 0, .int .u8 0, .int .i64 0, .int .i64 0, .int .i64 0, .int .i64 0, .bool false]) (t := 45) ?hr ?_; (case hd => rfl); (case hg => rfl); (case hr => exact zq13); intro gb395 hg w16 hbox hb; have n_ := as7 (blk_below (zq0 BK392.out) hb) (below_step zq10 hb) (hbox) ((zq58 : w.heap.size ≤ gb395)) ((zq58 : w.heap.size ≤ gb395)) ((by rw [hg]; exact Nat.ne_of_lt (blk_lt (zq0 BK392.out)) : gb392 ≠ gb395)) ((by rw [hg]; exact Nat.ne_of_gt (blk_lt (zq0 BK392.out)) : gb395 ≠ gb392)); clear BK392 HB hb hbox hg; obtain ⟨BK392, HB, BK395, GW395, GE395, NB392_395, NB395_392⟩ := n_; have hnb17 := NB395_392.out; have hnc17 := NB392_395.out; obtain ⟨hcz18_0, hcz18_1, hcz18_2, hcz18_3, hcz18_4, hcz18_5, hcz18_6, hfz18_0, hfz18_1, hfz18_2, hfz18_3, hfz18_4, hfz18_5, hfz18_6⟩ := bcs7 BK395.out)))
        (try simp only [Act.put, List.setIfInBounds_toArray, List.set_cons_zero, List.set_cons_succ])
        go_cut [24] (fun v24 wc => ∃ (kq : Nat) (x24_14 : Bool), v24 = .bool x24_14 ∧ Aside0 (inspect_CheckLog.j1 kq l1 x19_1 l1 (l1.length : Int) x19_1 x24_14 a0_0 l0_1 l0_2 ((rd_T45 l1 x19_1).f0) ((rd_T45 l1 x19_1).f1) ((rd_T45 l1 x19_1).f2) ((rd_T45 l1 x19_1).f3) ((rd_T45 l1 x19_1).f4) ((rd_T45 l1 x19_1).f5) ((rd_T45 l1 x19_1).f6) = some r) ∧ Aside0 (kq ≤ k1) ∧ Aside0 (wc.heap[gb392]? = some (.cells #[.int .i64 a0_0, (.slice A0_1 l0_1.length c0_1), (.slice A0_2 l0_2.length c0_2)] 25 (0, 0))) ∧ Aside0 (wc.heap[gb395]? = some (.cells #[.int .i64 ((rd_T45 l1 x19_1).f0), .int .u8 ((rd_T45 l1 x19_1).f1), .int .i64 ((rd_T45 l1 x19_1).f2), .int .i64 ((rd_T45 l1 x19_1).f3), .int .i64 ((rd_T45 l1 x19_1).f4), .int .i64 ((rd_T45 l1 x19_1).f5), .bool ((rd_T45 l1 x19_1).f6)] 45 (0, 0))) ∧ Aside0 (Below w.heap.size w wc))
        case first =>
         have H := HC15.out
         clear HC15
         by_cases c19 : ((rd_T45 l1 x19_1).f1) = 1
         ·rw [if_pos c19] at H
          have c19b0 : (((rd_T45 l1 x19_1).f1) == 1) = true := beq_iff_eq.mpr c19
          have c19b1 : (((rd_T45 l1 x19_1).f1) != 1) = false := bne_eq_false_iff_eq.mpr c19
          clear c19
          (first | rw [c19b0] | (simp only [i64_w, i32_w]; rw [c19b0]) | skip)
          replace H := Option.bind_eq_some_iff.mp H
          obtain ⟨t396, A200, H⟩ := H
          replace H : (inspect_CheckLog.j1 k1 l1 x19_1 l1 (l1.length : Int) x19_1 (!t396) a0_0 l0_1 l0_2 ((rd_T45 l1 x19_1).f0) ((rd_T45 l1 x19_1).f1) ((rd_T45 l1 x19_1).f2) ((rd_T45 l1 x19_1).f3) ((rd_T45 l1 x19_1).f4) ((rd_T45 l1 x19_1).f5) ((rd_T45 l1 x19_1).f6)) = some r := H
          have A20 := Aside0.mk A200
          clear A200
          have H' := Aside0.mk H
          clear H
          have hnb21 := NB395_392.out
          have hnc21 := NB392_395.out
          obtain ⟨hcz22_0, hcz22_1, hcz22_2, hcz22_3, hcz22_4, hcz22_5, hcz22_6, hfz22_0, hfz22_1, hfz22_2, hfz22_3, hfz22_4, hfz22_5, hfz22_6⟩ := bcs7 BK395.out
          go_wp2_with (first | (go_at_call 36; (with_reducible refine (inspect_within.calls ((rd_T45 l1 x19_1).f0) 0 1000000000 t396 _ A20.out).mono ?_); rintro e w' ⟨rfl, ⟨nd, rfl⟩⟩; (try first | exact ⟨rfl, _, World.drewN_drewN _ _ _⟩ | exact ⟨rfl, _, Eq.trans (World.drewN_drewN _ _ _) (congrArg (World.drewN _) (Nat.add_assoc _ _ _))⟩)))
          repeat (go_quiet (first | (go_at_call 36; (with_reducible refine (inspect_within.calls ((rd_T45 l1 x19_1).f0) 0 1000000000 t396 _ A20.out).mono ?_); rintro e w' ⟨rfl, ⟨nd, rfl⟩⟩; (try first | exact ⟨rfl, _, World.drewN_drewN _ _ _⟩ | exact ⟨rfl, _, Eq.trans (World.drewN_drewN _ _ _) (congrArg (World.drewN _) (Nat.add_assoc _ _ _))⟩))); try go_wp2_with (first | (go_at_call 36; (with_reducible refine (inspect_within.calls ((rd_T45 l1 x19_1).f0) 0 1000000000 t396 _ A20.out).mono ?_); rintro e w' ⟨rfl, ⟨nd, rfl⟩⟩; (try first | exact ⟨rfl, _, World.drewN_drewN _ _ _⟩ | exact ⟨rfl, _, Eq.trans (World.drewN_drewN _ _ _) (congrArg (World.drewN _) (Nat.add_assoc _ _ _))⟩))))
          go_meet
          case rel => exact ⟨_, (!t396), zq20, H', ⟨by have := HK1.out; first | omega | exact Nat.le_refl _⟩, ⟨(bch1 NB392_395.out BK392.out)⟩, ⟨(bch0p BK395.out)⟩, ⟨zq17⟩⟩
         ·rw [if_neg c19] at H
          have c19b0 : (((rd_T45 l1 x19_1).f1) == 1) = false := beq_eq_false_iff_ne.mpr c19
          have c19b1 : (((rd_T45 l1 x19_1).f1) != 1) = true := bne_iff_ne.mpr c19
          (first | rw [c19b0] | (simp only [i64_w, i32_w]; rw [c19b0]) | skip)
          by_cases c23 : ((rd_T45 l1 x19_1).f1) = 2
          ·rw [if_pos c23] at H
           have c23b0 : (((rd_T45 l1 x19_1).f1) == 2) = true := beq_iff_eq.mpr c23
           have c23b1 : (((rd_T45 l1 x19_1).f1) != 2) = false := bne_eq_false_iff_eq.mpr c23
           clear c23
           replace H := Option.bind_eq_some_iff.mp H
           obtain ⟨t397, A240, H⟩ := H
           replace H : (inspect_CheckLog.j1 k1 l1 x19_1 l1 (l1.length : Int) x19_1 (!t397) a0_0 l0_1 l0_2 ((rd_T45 l1 x19_1).f0) ((rd_T45 l1 x19_1).f1) ((rd_T45 l1 x19_1).f2) ((rd_T45 l1 x19_1).f3) ((rd_T45 l1 x19_1).f4) ((rd_T45 l1 x19_1).f5) ((rd_T45 l1 x19_1).f6)) = some r := H
           have A24 := Aside0.mk A240
           clear A240
           have H' := Aside0.mk H
           clear H
           have hnb25 := NB395_392.out
           have hnc25 := NB392_395.out
           obtain ⟨hcz26_0, hcz26_1, hcz26_2, hcz26_3, hcz26_4, hcz26_5, hcz26_6, hfz26_0, hfz26_1, hfz26_2, hfz26_3, hfz26_4, hfz26_5, hfz26_6⟩ := bcs7 BK395.out
           go_wp2_with (first | (go_at_call 36; (with_reducible refine (inspect_within.calls ((rd_T45 l1 x19_1).f0) 0 1000000000 t397 _ A24.out).mono ?_); rintro e w' ⟨rfl, ⟨nd, rfl⟩⟩; (try first | exact ⟨rfl, _, World.drewN_drewN _ _ _⟩ | exact ⟨rfl, _, Eq.trans (World.drewN_drewN _ _ _) (congrArg (World.drewN _) (Nat.add_assoc _ _ _))⟩)))
           repeat (go_quiet (first | (go_at_call 36; (with_reducible refine (inspect_within.calls ((rd_T45 l1 x19_1).f0) 0 1000000000 t397 _ A24.out).mono ?_); rintro e w' ⟨rfl, ⟨nd, rfl⟩⟩; (try first | exact ⟨rfl, _, World.drewN_drewN _ _ _⟩ | exact ⟨rfl, _, Eq.trans (World.drewN_drewN _ _ _) (congrArg (World.drewN _) (Nat.add_assoc _ _ _))⟩))); try go_wp2_with (first | (go_at_call 36; (with_reducible refine (inspect_within.calls ((rd_T45 l1 x19_1).f0) 0 1000000000 t397 _ A24.out).mono ?_); rintro e w' ⟨rfl, ⟨nd, rfl⟩⟩; (try first | exact ⟨rfl, _, World.drewN_drewN _ _ _⟩ | exact ⟨rfl, _, Eq.trans (World.drewN_drewN _ _ _) (congrArg (World.drewN _) (Nat.add_assoc _ _ _))⟩))))
           go_meet
           case rel => exact ⟨_, (!t397), zq20, H', ⟨by have := HK1.out; first | omega | exact Nat.le_refl _⟩, ⟨(bch1 NB392_395.out BK392.out)⟩, ⟨(bch0p BK395.out)⟩, ⟨zq17⟩⟩
          ·rw [if_neg c23] at H
           have c23b0 : (((rd_T45 l1 x19_1).f1) == 2) = false := beq_eq_false_iff_ne.mpr c23
           have c23b1 : (((rd_T45 l1 x19_1).f1) != 2) = true := bne_iff_ne.mpr c23
           have H' := Aside0.mk H
           clear H
           have hnb27 := NB395_392.out
           have hnc27 := NB392_395.out
           obtain ⟨hcz28_0, hcz28_1, hcz28_2, hcz28_3, hcz28_4, hcz28_5, hcz28_6, hfz28_0, hfz28_1, hfz28_2, hfz28_3, hfz28_4, hfz28_5, hfz28_6⟩ := bcs7 BK395.out
           go_wp2
           repeat (go_quiet (fail); try go_wp2)
           go_meet
           case rel => exact ⟨_, (true), zq20, H', ⟨by have := HK1.out; first | omega | exact Nat.le_refl _⟩, ⟨(bch1 NB392_395.out BK392.out)⟩, ⟨(bch0p BK395.out)⟩, ⟨zq17⟩⟩
        case rest =>
         clear HC15
         try clear c1
         try clear c2
         try clear p2 p2
         try clear p3
         try clear q3
         try clear hx3
         try clear c4
         try clear c4b0
         try clear c4b1
         try clear c5
         try clear c5b0
         try clear c5b1
         try clear c12
         try clear c12b0
         try clear c13
         try clear c13b0
         try clear c14
         try clear c14b0
         try clear c17
         try clear c19
         try clear c19b0
         try clear c19b1
         try clear c21
         try clear c23
         try clear c23b0
         try clear c23b1
         try clear c25
         try clear c27
         try clear hcz10_0 hcz10_1 hcz10_2 hfz10_0 hfz10_1 hfz10_2
         try clear hcz18_0 hcz18_1 hcz18_2 hcz18_3 hcz18_4 hcz18_5 hcz18_6 hfz18_0 hfz18_1 hfz18_2 hfz18_3 hfz18_4 hfz18_5 hfz18_6
         try clear hcz22_0 hcz22_1 hcz22_2 hcz22_3 hcz22_4 hcz22_5 hcz22_6 hfz22_0 hfz22_1 hfz22_2 hfz22_3 hfz22_4 hfz22_5 hfz22_6
         try clear hcz26_0 hcz26_1 hcz26_2 hcz26_3 hcz26_4 hcz26_5 hcz26_6 hfz26_0 hfz26_1 hfz26_2 hfz26_3 hfz26_4 hfz26_5 hfz26_6
         try clear hcz28_0 hcz28_1 hcz28_2 hcz28_3 hcz28_4 hcz28_5 hcz28_6 hfz28_0 hfz28_1 hfz28_2 hfz28_3 hfz28_4 hfz28_5 hfz28_6
         try clear hcz7_0 hcz7_1 hcz7_2 hfz7_0 hfz7_1 hfz7_2
         try clear hx394_0
         try clear hx394_1
         try clear hx394_2
         try clear hx394_3
         try clear hx394_4
         try clear hx394_5
         try clear hx394_6
         try clear p394
         try clear q394
         obtain ⟨kq, x24_14, rfl, HA, HJ14, BK392, BK395, HB⟩ := hcut
         cases kq with
         | zero => exact absurd HA.out (by simp [inspect_CheckLog.j1])
         | succ kj14 =>
          have H := HA.out
          clear HA
          simp only [inspect_CheckLog.j1] at H
          by_cases c29 : x24_14 = true
          ·subst c29
           have H1 : (some 1) = some r := by rw [if_pos rfl] at H; exact H
           clear H
           have H := H1
           clear H1
           obtain rfl := Option.some.inj H
           go_wp2
           repeat (go_quiet (fail); try go_wp2)
           go_ret
           exact ⟨zq9, zq17⟩
          ·replace c29 := Bool.eq_false_iff.mpr c29
           subst c29
           have H1 : (if x19_1 > 0 then (if 0 ≤ (wrap64 (x19_1 - 1)) then (if (wrap64 (x19_1 - 1)) < (l1.length : Int) then (inspect_CheckLog.j2 kj14 l1 l1 (l1.length : Int) x19_1 (decide (((rd_T45 l1 (wrap64 (x19_1 - 1))).f0) > ((rd_T45 l1 x19_1).f0))) a0_0 l0_1 l0_2 ((rd_T45 l1 x19_1).f0) ((rd_T45 l1 x19_1).f1) ((rd_T45 l1 x19_1).f2) ((rd_T45 l1 x19_1).f3) ((rd_T45 l1 x19_1).f4) ((rd_T45 l1 x19_1).f5) ((rd_T45 l1 x19_1).f6)) else (none)) else (none)) else (inspect_CheckLog.j2 kj14 l1 l1 (l1.length : Int) x19_1 false a0_0 l0_1 l0_2 ((rd_T45 l1 x19_1).f0) ((rd_T45 l1 x19_1).f1) ((rd_T45 l1 x19_1).f2) ((rd_T45 l1 x19_1).f3) ((rd_T45 l1 x19_1).f4) ((rd_T45 l1 x19_1).f5) ((rd_T45 l1 x19_1).f6))) = some r := by rw [if_neg (show ¬ (false = true) by decide)] at H; exact H
           clear H
           have H := H1
           clear H1
           have HC30 := Aside0.mk H
           clear H
           go_upto_region 11 with (fail)
           repeat (go_quiet (fail); go_upto_region 11 with (fail))
           go_cut [39] (fun v39 wc => ∃ (kq : Nat) (x39_29 : Bool), v39 = .bool x39_29 ∧ Aside0 (inspect_CheckLog.j2 kq l1 l1 (l1.length : Int) x19_1 x39_29 a0_0 l0_1 l0_2 ((rd_T45 l1 x19_1).f0) ((rd_T45 l1 x19_1).f1) ((rd_T45 l1 x19_1).f2) ((rd_T45 l1 x19_1).f3) ((rd_T45 l1 x19_1).f4) ((rd_T45 l1 x19_1).f5) ((rd_T45 l1 x19_1).f6) = some r) ∧ Aside0 (kq ≤ kj14) ∧ Aside0 (wc.heap[gb392]? = some (.cells #[.int .i64 a0_0, (.slice A0_1 l0_1.length c0_1), (.slice A0_2 l0_2.length c0_2)] 25 (0, 0))) ∧ Aside0 (wc.heap[gb395]? = some (.cells #[.int .i64 ((rd_T45 l1 x19_1).f0), .int .u8 ((rd_T45 l1 x19_1).f1), .int .i64 ((rd_T45 l1 x19_1).f2), .int .i64 ((rd_T45 l1 x19_1).f3), .int .i64 ((rd_T45 l1 x19_1).f4), .int .i64 ((rd_T45 l1 x19_1).f5), .bool ((rd_T45 l1 x19_1).f6)] 45 (0, 0))) ∧ Aside0 (Below w.heap.size w wc))
           case first =>
            have H := HC30.out
            clear HC30
            by_cases c31 : x19_1 > 0
            ·rw [if_pos c31] at H
             have c31b0 : decide (0 < x19_1) = true := decide_eq_true c31
             clear c31
             (first | rw [c31b0] | (simp only [i64_w, i32_w]; rw [c31b0]) | skip)
             obtain ⟨ji32, hji32⟩ : ∃ j_ : Int, (wrap64 (x19_1 - 1)) = j_ := ⟨_, rfl⟩
             replace H : (if 0 ≤ (ji32) then (if (ji32) < (l1.length : Int) then (inspect_CheckLog.j2 kj14 l1 l1 (l1.length : Int) x19_1 (decide (((rd_T45 l1 (ji32)).f0) > ((rd_T45 l1 x19_1).f0))) a0_0 l0_1 l0_2 ((rd_T45 l1 x19_1).f0) ((rd_T45 l1 x19_1).f1) ((rd_T45 l1 x19_1).f2) ((rd_T45 l1 x19_1).f3) ((rd_T45 l1 x19_1).f4) ((rd_T45 l1 x19_1).f5) ((rd_T45 l1 x19_1).f6)) else (none)) else (none)) = some r := by first | (rw [hji32] at H; exact H) | (simp only [hji32] at H ⊢; exact H)
             have hji32w : (IntKind.i64.wrap (x19_1 - 1)) = ji32 := (i64_w _).trans hji32
             by_cases c33 : 0 ≤ (ji32)
             ·rw [if_pos c33] at H
              have c33b0 : decide (0 ≤ (ji32)) = true := decide_eq_true c33
              clear c33
              by_cases c34 : (ji32) < (l1.length : Int)
              ·rw [if_pos c34] at H
               have c34b0 : decide ((ji32) < (l1.length : Int)) = true := decide_eq_true c34
               clear c34
               have H' := Aside0.mk H
               clear H
               have p398 : 0 ≤ ((ji32) : Int) := of_decide_eq_true zq5
               have q398 : (ji32) < (l1.length : Int) := of_decide_eq_true zq5
               obtain ⟨ad398, e398, hx398_0, hx398_1, hx398_2, hx398_3, hx398_4, hx398_5, hx398_6⟩ := at_T45 HR1.out (ji32) p398 q398
               obtain rfl : ad394 = ad398 := (by injection e398)
               replace hx398_0 := hcx HB.out hx398_0
               replace hx398_1 := hcx HB.out hx398_1
               replace hx398_2 := hcx HB.out hx398_2
               replace hx398_3 := hcx HB.out hx398_3
               replace hx398_4 := hcx HB.out hx398_4
               replace hx398_5 := hcx HB.out hx398_5
               replace hx398_6 := hcx HB.out hx398_6
               replace p398 := eq_true p398
               replace q398 := eq_true q398
               have hnb35 := NB395_392.out
               have hnc35 := NB392_395.out
               obtain ⟨hcz36_0, hcz36_1, hcz36_2, hcz36_3, hcz36_4, hcz36_5, hcz36_6, hfz36_0, hfz36_1, hfz36_2, hfz36_3, hfz36_4, hfz36_5, hfz36_6⟩ := bcs7 BK395.out
               go_wp2
               repeat (go_quiet (fail); try go_wp2)
               go_meet
               case rel => exact ⟨_, (decide (((rd_T45 l1 (ji32)).f0) > ((rd_T45 l1 x19_1).f0))), (by first | rfl | (simp; done) | (simp only [← hji32] <;> (first | rfl | simp)) | (simp [*]; done)), H', ⟨by have := HK1.out; have := HJ14.out; first | omega | exact Nat.le_refl _⟩, ⟨(zq0 BK392.out)⟩, ⟨(zq0 BK395.out)⟩, ⟨zq17⟩⟩
              ·rw [if_neg c34] at H
               exact absurd H zq51
             ·rw [if_neg c33] at H
              exact absurd H zq51
            ·rw [if_neg c31] at H
             have c31b0 : decide (0 < x19_1) = false := decide_eq_false c31
             clear c31
             (first | rw [c31b0] | (simp only [i64_w, i32_w]; rw [c31b0]) | skip)
             have H' := Aside0.mk H
             clear H
             go_wp2
             repeat (go_quiet (fail); try go_wp2)
             go_meet
             case rel => exact ⟨_, (false), zq20, H', ⟨by have := HK1.out; have := HJ14.out; first | omega | exact Nat.le_refl _⟩, ⟨(zq0 BK392.out)⟩, ⟨(zq0 BK395.out)⟩, ⟨zq17⟩⟩
           case rest =>
            clear HC30
            try clear c1
            try clear c2
            try clear p2 p2
            try clear c3
            try clear p3 p3
            try clear q3 q3
            try clear hx3
            try clear c4
            try clear c4b0
            try clear c4b1
            try clear c5
            try clear c5b0
            try clear c5b1
            try clear p6
            try clear c12
            try clear c12b0
            try clear c13
            try clear c13b0
            try clear c14
            try clear c14b0
            try clear c17
            try clear c19
            try clear c19b0
            try clear c19b1
            try clear c21
            try clear c23
            try clear c23b0
            try clear c23b1
            try clear c25
            try clear c27
            try clear c29
            try clear c31
            try clear c31b0
            try clear c33
            try clear c33b0
            try clear c34
            try clear c34b0
            try clear c35
            try clear hcz10_0 hcz10_1 hcz10_2 hfz10_0 hfz10_1 hfz10_2
            try clear hcz18_0 hcz18_1 hcz18_2 hcz18_3 hcz18_4 hcz18_5 hcz18_6 hfz18_0 hfz18_1 hfz18_2 hfz18_3 hfz18_4 hfz18_5 hfz18_6
            try clear hcz22_0 hcz22_1 hcz22_2 hcz22_3 hcz22_4 hcz22_5 hcz22_6 hfz22_0 hfz22_1 hfz22_2 hfz22_3 hfz22_4 hfz22_5 hfz22_6
            try clear hcz26_0 hcz26_1 hcz26_2 hcz26_3 hcz26_4 hcz26_5 hcz26_6 hfz26_0 hfz26_1 hfz26_2 hfz26_3 hfz26_4 hfz26_5 hfz26_6
            try clear hcz28_0 hcz28_1 hcz28_2 hcz28_3 hcz28_4 hcz28_5 hcz28_6 hfz28_0 hfz28_1 hfz28_2 hfz28_3 hfz28_4 hfz28_5 hfz28_6
            try clear hcz36_0 hcz36_1 hcz36_2 hcz36_3 hcz36_4 hcz36_5 hcz36_6 hfz36_0 hfz36_1 hfz36_2 hfz36_3 hfz36_4 hfz36_5 hfz36_6
            try clear hcz7_0 hcz7_1 hcz7_2 hfz7_0 hfz7_1 hfz7_2
            try clear hx394_0
            try clear hx394_1
            try clear hx394_2
            try clear hx394_3
            try clear hx394_4
            try clear hx394_5
            try clear hx394_6
            try clear hx398_0
            try clear hx398_1
            try clear hx398_2
            try clear hx398_3
            try clear hx398_4
            try clear hx398_5
            try clear hx398_6
            try clear p394
            try clear p398
            try clear q394
            try clear q398
            obtain ⟨kq, x39_29, rfl, HA, HJ29, BK392, BK395, HB⟩ := hcut
            cases kq with
            | zero => exact absurd HA.out (by simp [inspect_CheckLog.j2])
            | succ kj29 =>
             have H := HA.out
             clear HA
             simp only [inspect_CheckLog.j2] at H
             by_cases c37 : x39_29 = true
             ·subst c37
              have H1 : (some 8) = some r := by rw [if_pos rfl] at H; exact H
              clear H
              have H := H1
              clear H1
              obtain rfl := Option.some.inj H
              go_wp2
              repeat (go_quiet (fail); try go_wp2)
              go_ret
              exact ⟨zq9, zq17⟩
             ·replace c37 := Bool.eq_false_iff.mpr c37
              subst c37
              have H1 : ((inspect_entryError.f kj29 a0_0 l0_1 l0_2 ((rd_T45 l1 x19_1).f0) ((rd_T45 l1 x19_1).f1) ((rd_T45 l1 x19_1).f2) ((rd_T45 l1 x19_1).f3) ((rd_T45 l1 x19_1).f4) ((rd_T45 l1 x19_1).f5) ((rd_T45 l1 x19_1).f6)).bind fun t399 => (if t399 = 0 then (inspect_CheckLog.l0 kj29 l1 l1 (l1.length : Int) (wrap64 (x19_1 + 1)) a0_0 l0_1 l0_2) else (some t399))) = some r := by rw [if_neg (show ¬ (false = true) by decide)] at H; exact H
              clear H
              have H := H1
              clear H1
              replace H := Option.bind_eq_some_iff.mp H
              obtain ⟨t399, A380, H⟩ := H
              replace H : (if t399 = 0 then (inspect_CheckLog.l0 kj29 l1 l1 (l1.length : Int) (wrap64 (x19_1 + 1)) a0_0 l0_1 l0_2) else (some t399)) = some r := H
              have A38 := Aside0.mk A380
              clear A380
              by_cases c39 : t399 = 0
              ·rw [if_pos c39] at H
               have c39b0 : (t399 == 0) = true := beq_iff_eq.mpr c39
               have c39b1 : (t399 != 0) = false := bne_eq_false_iff_eq.mpr c39
               clear c39
               have H' := Aside0.mk H
               clear H
               have hnb40 := NB392_395.out
               have hnc40 := NB395_392.out
               obtain ⟨hcz41_0, hcz41_1, hcz41_2, hfz41_0, hfz41_1, hfz41_2⟩ := bcs3 BK392.out
               obtain ⟨hcz42_0, hcz42_1, hcz42_2, hcz42_3, hcz42_4, hcz42_5, hcz42_6, hfz42_0, hfz42_1, hfz42_2, hfz42_3, hfz42_4, hfz42_5, hfz42_6⟩ := bcs7 BK395.out
               go_wp2_with (first | (go_at_call 49; (with_reducible refine (inspect_entryError.calls kj29 a0_0 _ _ l0_1 _ _ l0_2 ((rd_T45 l1 x19_1).f0) ((rd_T45 l1 x19_1).f1) ((rd_T45 l1 x19_1).f2) ((rd_T45 l1 x19_1).f3) ((rd_T45 l1 x19_1).f4) ((rd_T45 l1 x19_1).f5) ((rd_T45 l1 x19_1).f6) t399 _ ?side1 ?side2 ?side3 ?side4 A38.out).mono ?_); (case side1 => exact zq7); (case side2 => exact HC0_1.out); (case side3 => exact zq8); (case side4 => exact HC0_2.out); rintro e w43 ⟨rfl, hb⟩; have n_ := as3 (blk_below (zq0 BK392.out) hb) (blk_below (zq0 BK395.out) hb) (below_step zq17 hb); clear BK392 BK395 HB; obtain ⟨BK392, BK395, HB⟩ := n_; (try clear hb); (try clear hb2); (try clear hk); (try clear hi)))
               repeat (go_quiet (first | (go_at_call 49; (with_reducible refine (inspect_entryError.calls kj29 a0_0 _ _ l0_1 _ _ l0_2 ((rd_T45 l1 x19_1).f0) ((rd_T45 l1 x19_1).f1) ((rd_T45 l1 x19_1).f2) ((rd_T45 l1 x19_1).f3) ((rd_T45 l1 x19_1).f4) ((rd_T45 l1 x19_1).f5) ((rd_T45 l1 x19_1).f6) t399 _ ?side1 ?side2 ?side3 ?side4 A38.out).mono ?_); (case side1 => exact zq7); (case side2 => exact HC0_1.out); (case side3 => exact zq8); (case side4 => exact HC0_2.out); rintro e w43 ⟨rfl, hb⟩; have n_ := as3 (blk_below (zq0 BK392.out) hb) (blk_below (zq0 BK395.out) hb) (below_step zq17 hb); clear BK392 BK395 HB; obtain ⟨BK392, BK395, HB⟩ := n_; (try clear hb); (try clear hb2); (try clear hk); (try clear hi))); try go_wp2_with (first | (go_at_call 49; (with_reducible refine (inspect_entryError.calls kj29 a0_0 _ _ l0_1 _ _ l0_2 ((rd_T45 l1 x19_1).f0) ((rd_T45 l1 x19_1).f1) ((rd_T45 l1 x19_1).f2) ((rd_T45 l1 x19_1).f3) ((rd_T45 l1 x19_1).f4) ((rd_T45 l1 x19_1).f5) ((rd_T45 l1 x19_1).f6) t399 _ ?side1 ?side2 ?side3 ?side4 A38.out).mono ?_); (case side1 => exact zq7); (case side2 => exact HC0_1.out); (case side3 => exact zq8); (case side4 => exact HC0_2.out); rintro e w43 ⟨rfl, hb⟩; have n_ := as3 (blk_below (zq0 BK392.out) hb) (blk_below (zq0 BK395.out) hb) (below_step zq17 hb); clear BK392 BK395 HB; obtain ⟨BK392, BK395, HB⟩ := n_; (try clear hb); (try clear hb2); (try clear hk); (try clear hi))))
               go_roundg kj29
               case measure => have := HK1.out; have := HJ14.out; have := HJ29.out; omega
               case rel => exact ⟨(wrap64 (x19_1 + 1)), zq20, H', ⟨by have := HK1.out; have := HJ14.out; have := HJ29.out; omega⟩, ⟨(zq0 BK392.out)⟩, ⟨zq17⟩⟩
              ·rw [if_neg c39] at H
               have c39b0 : (t399 == 0) = false := beq_eq_false_iff_ne.mpr c39
               have c39b1 : (t399 != 0) = true := bne_iff_ne.mpr c39
               obtain rfl := Option.some.inj H
               have hnb44 := NB392_395.out
               have hnc44 := NB395_392.out
               obtain ⟨hcz45_0, hcz45_1, hcz45_2, hfz45_0, hfz45_1, hfz45_2⟩ := bcs3 BK392.out
               obtain ⟨hcz46_0, hcz46_1, hcz46_2, hcz46_3, hcz46_4, hcz46_5, hcz46_6, hfz46_0, hfz46_1, hfz46_2, hfz46_3, hfz46_4, hfz46_5, hfz46_6⟩ := bcs7 BK395.out
               go_wp2_with (first | (go_at_call 49; (with_reducible refine (inspect_entryError.calls kj29 a0_0 _ _ l0_1 _ _ l0_2 ((rd_T45 l1 x19_1).f0) ((rd_T45 l1 x19_1).f1) ((rd_T45 l1 x19_1).f2) ((rd_T45 l1 x19_1).f3) ((rd_T45 l1 x19_1).f4) ((rd_T45 l1 x19_1).f5) ((rd_T45 l1 x19_1).f6) t399 _ ?side1 ?side2 ?side3 ?side4 A38.out).mono ?_); (case side1 => exact zq7); (case side2 => exact HC0_1.out); (case side3 => exact zq8); (case side4 => exact HC0_2.out); rintro e w47 ⟨rfl, hb⟩; have n_ := as3 (blk_below (zq0 BK392.out) hb) (blk_below (zq0 BK395.out) hb) (below_step zq17 hb); clear BK392 BK395 HB; obtain ⟨BK392, BK395, HB⟩ := n_; (try clear hb); (try clear hb2); (try clear hk); (try clear hi)))
               repeat (go_quiet (first | (go_at_call 49; (with_reducible refine (inspect_entryError.calls kj29 a0_0 _ _ l0_1 _ _ l0_2 ((rd_T45 l1 x19_1).f0) ((rd_T45 l1 x19_1).f1) ((rd_T45 l1 x19_1).f2) ((rd_T45 l1 x19_1).f3) ((rd_T45 l1 x19_1).f4) ((rd_T45 l1 x19_1).f5) ((rd_T45 l1 x19_1).f6) t399 _ ?side1 ?side2 ?side3 ?side4 A38.out).mono ?_); (case side1 => exact zq7); (case side2 => exact HC0_1.out); (case side3 => exact zq8); (case side4 => exact HC0_2.out); rintro e w47 ⟨rfl, hb⟩; have n_ := as3 (blk_below (zq0 BK392.out) hb) (blk_below (zq0 BK395.out) hb) (below_step zq17 hb); clear BK392 BK395 HB; obtain ⟨BK392, BK395, HB⟩ := n_; (try clear hb); (try clear hb2); (try clear hk); (try clear hi))); try go_wp2_with (first | (go_at_call 49; (with_reducible refine (inspect_entryError.calls kj29 a0_0 _ _ l0_1 _ _ l0_2 ((rd_T45 l1 x19_1).f0) ((rd_T45 l1 x19_1).f1) ((rd_T45 l1 x19_1).f2) ((rd_T45 l1 x19_1).f3) ((rd_T45 l1 x19_1).f4) ((rd_T45 l1 x19_1).f5) ((rd_T45 l1 x19_1).f6) t399 _ ?side1 ?side2 ?side3 ?side4 A38.out).mono ?_); (case side1 => exact zq7); (case side2 => exact HC0_1.out); (case side3 => exact zq8); (case side4 => exact HC0_2.out); rintro e w47 ⟨rfl, hb⟩; have n_ := as3 (blk_below (zq0 BK392.out) hb) (blk_below (zq0 BK395.out) hb) (below_step zq17 hb); clear BK392 BK395 HB; obtain ⟨BK392, BK395, HB⟩ := n_; (try clear hb); (try clear hb2); (try clear hk); (try clear hi))))
               go_ret
               exact ⟨zq9, zq17⟩
       ·rw [if_neg c14] at H
        exact absurd H zq51
      ·rw [if_neg c13] at H
       exact absurd H zq51
     ·rw [if_neg c12] at H
      have c12b0 : decide (x19_1 < (l1.length : Int)) = false := decide_eq_false c12
      clear c12
      obtain rfl := Option.some.inj H
      go_wp2
      repeat (go_quiet (fail); try go_wp2)
      go_ret
      exact ⟨zq9, zq10⟩
 ·rw [if_neg c4] at H
  have c4b0 : (t393 == 0) = false := beq_eq_false_iff_ne.mpr c4
  have c4b1 : (t393 != 0) = true := bne_iff_ne.mpr c4
  obtain rfl := Option.some.inj H
  go_enter Try.func19, Try.ntmps19
  go_wp2_with (first | ((with_reducible refine gate_dst (N := 2) rfl ?_); refine box_event ?hg (N := 2) ?hd (cs := #[.int .i64 a0_0, .slice A0_1 l0_1.length c0_1, .slice A0_2 l0_2.length c0_2]) (t := 25) ?hr ?_; (case hd => rfl); (case hg => rfl); (case hr => exact zq13); intro gb392 hg w48 hbox hb; have n_ := as4 (below_step zq2 hb) (hbox) ((zq23 : w.heap.size ≤ gb392)) ((zq23 : w.heap.size ≤ gb392)); clear HB hb hbox hg; obtain ⟨HB, BK392, GW392, GE392⟩ := n_; obtain ⟨hcz49_0, hcz49_1, hcz49_2, hfz49_0, hfz49_1, hfz49_2⟩ := bcs3 BK392.out) | (go_at_call 48; (with_reducible refine (inspect_Check.calls k a0_0 _ _ l0_1 _ _ l0_2 t393 _ ?side1 ?side2 ?side3 ?side4 A3.out).mono ?_); (case side1 => exact zq7); (case side2 => exact HC0_1.out); (case side3 => exact zq8); (case side4 => exact HC0_2.out); rintro e w50 ⟨rfl, hb⟩; have n_ := as2 (blk_below (zq0 BK392.out) hb) (below_step zq10 hb); clear BK392 HB; obtain ⟨BK392, HB⟩ := n_; (try clear hb); (try clear hb2); (try clear hk); (try clear hi)))
  repeat (go_quiet (first | ((with_reducible refine gate_dst (N := 2) rfl ?_); refine box_event ?hg (N := 2) ?hd (cs := #[.int .i64 a0_0, .slice A0_1 l0_1.length c0_1, .slice A0_2 l0_2.length c0_2]) (t := 25) ?hr ?_; (case hd => rfl); (case hg => rfl); (case hr => exact zq13); intro gb392 hg w48 hbox hb; have n_ := as4 (below_step zq2 hb) (hbox) ((zq23 : w.heap.size ≤ gb392)) ((zq23 : w.heap.size ≤ gb392)); clear HB hb hbox hg; obtain ⟨HB, BK392, GW392, GE392⟩ := n_; obtain ⟨hcz49_0, hcz49_1, hcz49_2, hfz49_0, hfz49_1, hfz49_2⟩ := bcs3 BK392.out) | (go_at_call 48; (with_reducible refine (inspect_Check.calls k a0_0 _ _ l0_1 _ _ l0_2 t393 _ ?side1 ?side2 ?side3 ?side4 A3.out).mono ?_); (case side1 => exact zq7); (case side2 => exact HC0_1.out); (case side3 => exact zq8); (case side4 => exact HC0_2.out); rintro e w50 ⟨rfl, hb⟩; have n_ := as2 (blk_below (zq0 BK392.out) hb) (below_step zq10 hb); clear BK392 HB; obtain ⟨BK392, HB⟩ := n_; (try clear hb); (try clear hb2); (try clear hk); (try clear hi))); try go_wp2_with (first | ((with_reducible refine gate_dst (N := 2) rfl ?_); refine box_event ?hg (N := 2) ?hd (cs := #[.int .i64 a0_0, .slice A0_1 l0_1.length c0_1, .slice A0_2 l0_2.length c0_2]) (t := 25) ?hr ?_; (case hd => rfl); (case hg => rfl); (case hr => exact zq13); intro gb392 hg w48 hbox hb; have n_ := as4 (below_step zq2 hb) (hbox) ((zq23 : w.heap.size ≤ gb392)) ((zq23 : w.heap.size ≤ gb392)); clear HB hb hbox hg; obtain ⟨HB, BK392, GW392, GE392⟩ := n_; obtain ⟨hcz49_0, hcz49_1, hcz49_2, hfz49_0, hfz49_1, hfz49_2⟩ := bcs3 BK392.out) | (go_at_call 48; (with_reducible refine (inspect_Check.calls k a0_0 _ _ l0_1 _ _ l0_2 t393 _ ?side1 ?side2 ?side3 ?side4 A3.out).mono ?_); (case side1 => exact zq7); (case side2 => exact HC0_1.out); (case side3 => exact zq8); (case side4 => exact HC0_2.out); rintro e w50 ⟨rfl, hb⟩; have n_ := as2 (blk_below (zq0 BK392.out) hb) (below_step zq10 hb); clear BK392 HB; obtain ⟨BK392, HB⟩ := n_; (try clear hb); (try clear hb2); (try clear hk); (try clear hi))))
  go_ret
  exact ⟨zq9, zq10⟩
theorem wsucc (i : Nat) (h : i ≤ 1000000) : wrap64 ((i : Int) + 1) = ((i + 1 : Nat) : Int) := by unfold wrap64; omega
theorem wpred (i : Nat) (h : i ≤ 1000000) : wrap64 ((i : Int) - 1) = (i : Int) - 1 := by unfold wrap64; omega
def firstErr (f : Nat → Int) : Nat → Nat → Int
 | 0, _ => 0
 | r + 1, i => if f i = 0 then firstErr f r (i + 1) else f i
theorem firstErr_succ (f : Nat → Int) (r i : Nat) : firstErr f (r + 1) i = if f i = 0 then firstErr f r (i + 1) else f i := rfl
theorem firstErr_zero (f : Nat → Int) : ∀ r i, firstErr f r i = 0 → ∀ j, i ≤ j → j < i + r → f j = 0
 | 0, i, _, j, h0, h1 => by omega
 | r + 1, i, h, j, h0, h1 => by
  rw [firstErr_succ] at h
  split at h
  ·rename_i hf
   by_cases hj : j = i
   ·rw [hj]; exact hf
   ·exact firstErr_zero f r (i + 1) h j zq18 zq18
  ·rename_i hf; exact absurd h hf
def win (a b c : Int) : Bool := decide (b ≤ a) && decide (a ≤ c)
theorem within_eq (a b c : Int) : inspect_within.f a b c = some (win a b c) := by
 unfold inspect_within.f win
 split
 ·rename_i h; rw [decide_eq_true (show b ≤ a from h), Bool.true_and]
 ·rename_i h; rw [decide_eq_false (show ¬ b ≤ a from h), Bool.false_and]
def chOk (x : Int) : Bool := (decide (97 ≤ x) && decide (x ≤ 122)) || (decide (48 ≤ x) && decide (x ≤ 57)) || decide (x = 45)
def allCh (s : ByteArray) : Nat → Nat → Bool
 | 0, _ => true
 | r + 1, i => chOk (bt s i) && allCh s r (i + 1)
theorem allCh_succ (s : ByteArray) (r i : Nat) : allCh s (r + 1) i = (chOk (bt s i) && allCh s r (i + 1)) := rfl
def nameS (s : ByteArray) : Bool := decide (0 < s.size) && decide (s.size ≤ 16) && decide (97 ≤ bt s 0) && decide (bt s 0 ≤ 122) && allCh s s.size 0
theorem isName_l0 (s : ByteArray) (hs : s.size ≤ 16) : ∀ r i k, i + r = s.size → r < k → inspect_isName.l0 k s (s.size : Int) (i : Int) = some (allCh s r i)
 | 0, i, k, h, hk => by
  obtain ⟨k, rfl⟩ : ∃ m, k = m + 1 := ⟨k - 1, zq18⟩
  rw [inspect_isName.l0, if_neg zq18]
  rfl
 | r + 1, i, k, h, hk => by
  obtain ⟨k, rfl⟩ : ∃ m, k = m + 1 := ⟨k - 1, zq18⟩
  rw [inspect_isName.l0, if_pos zq18, if_pos zq18, if_pos zq18, wsucc i zq18, isName_l0 s hs r (i + 1) k zq18 zq18]
  rw [allCh_succ]
  unfold chOk
  generalize bt s (i : Int) = x
  generalize allCh s r (i + 1) = b
  by_cases h1 : 97 ≤ x <;> by_cases h2 : x ≤ 122 <;> by_cases h3 : 48 ≤ x <;> by_cases h4 : x ≤ 57 <;> by_cases h5 : x = 45 <;> simp [h1, h2, h3, h4, h5]
theorem bytes_nil (s : ByteArray) : s.toList = [] ↔ s.size = 0 := by
 rw [ByteArray.toList_eq, ← data_length s, List.length_eq_zero_iff]
theorem isName_eq (s : ByteArray) (k : Nat) (hk : 20 ≤ k) : inspect_isName.f k s = some (nameS s) := by
 obtain ⟨k, rfl⟩ : ∃ m, k = m + 1 := ⟨k - 1, zq18⟩
 unfold inspect_isName.f nameS
 by_cases h0 : s.size = 0
 ·rw [if_pos ((bytes_nil s).2 h0), inspect_isName.j0, if_pos rfl]
  simp [h0]
 ·rw [if_neg (fun h => h0 ((bytes_nil s).1 h))]
  by_cases h1 : s.size ≤ 16
  ·rw [if_neg zq18, if_pos zq18]
   by_cases h2 : 97 ≤ bt s 0
   ·rw [if_neg zq18, inspect_isName.j0]
    by_cases h3 : bt s 0 ≤ 122
    ·rw [if_neg (by simp; omega)]
     have := isName_l0 s h1 s.size 0 k zq18 zq18
     rw [show ((0 : Nat) : Int) = 0 from rfl] at this
     rw [this]
     simp [h1, h2, h3]
     omega
    ·rw [if_pos (by simp; omega)]
     simp [h3]
   ·rw [if_pos zq18, inspect_isName.j0, if_pos rfl]
    simp [h2]
  ·rw [if_pos zq18, inspect_isName.j0, if_pos rfl]
   simp [h1]
def claimErr (fl : List S58) (l : List S68) (i : Nat) : Int :=
 if win (rd_T68 l i).f0 0 ((fl.length : Int) - 1) = false then 7 else if (l.take i).any (fun x => x.f0 == (rd_T68 l i).f0) = true then 6 else
 if win (rd_T68 l i).f2 1 1000 = false then 1 else if win (rd_T68 l i).f1 0 (rd_T68 l i).f2 = false then 1 else 0
def claimsS (fl : List S58) (l : List S68) : Int := if 8 < l.length then 3 else firstErr (claimErr fl l) l.length 0
theorem claimsError_l0 (a0 : Int) (fl : List S58) (st : List S56) (l : List S68) (hf : fl.length ≤ 1000) (hl : l.length ≤ 8) : ∀ r i k, i + r = l.length → r < k → inspect_claimsError.l0 k l l (l.length : Int) (i : Int) a0 fl st = some (firstErr (claimErr fl l) r i)
 | 0, i, k, h, hk => by
  obtain ⟨k, rfl⟩ : ∃ m, k = m + 1 := ⟨k - 1, zq18⟩
  rw [inspect_claimsError.l0, if_neg zq18]
  rfl
 | r + 1, i, k, h, hk => by
  obtain ⟨k, rfl⟩ : ∃ m, k = m + 1 := ⟨k - 1, zq18⟩
  rw [inspect_claimsError.l0, if_pos zq18, if_pos zq18, if_pos zq18, if_pos zq18, wsucc i zq18, claimsError_l0 a0 fl st l hf hl r (i + 1) k zq18 zq18, wpred _ zq18]
  simp only [within_eq, HasClaim.f, Option.bind_some, Int.toNat_natCast]
  rw [firstErr_succ]
  unfold claimErr
  cases win (rd_T68 l i).f0 0 ((fl.length : Int) - 1) <;> cases (l.take i).any (fun x => x.f0 == (rd_T68 l i).f0) <;> cases win (rd_T68 l i).f2 1 1000 <;> cases win (rd_T68 l i).f1 0 (rd_T68 l i).f2 <;> simp
theorem claimsError_eq (a0 : Int) (fl : List S58) (st : List S56) (l : List S68) (hf : fl.length ≤ 1000) (k : Nat) (hk : 10 ≤ k) : inspect_claimsError.f k a0 fl st l = some (claimsS fl l) := by
 unfold inspect_claimsError.f claimsS
 by_cases h : 8 < l.length
 ·rw [if_pos zq18, if_pos h]
 ·rw [if_neg zq18, if_neg h]
  exact claimsError_l0 a0 fl st l hf zq18 l.length 0 k zq18 zq18
def flawErr (fl : List S58) (i : Nat) : Int :=
 if nameS (rd_T58 fl i).f0 = false then 5 else if (fl.take i).any (fun x => x.f0.toList == (rd_T58 fl i).f0.toList) = true then 6 else if win (rd_T58 fl i).f1 0 4 = false then 1 else 0
def standErr (fl : List S58) (st : List S56) (i : Nat) : Int :=
 if nameS (rd_T56 st i).f0 = false then 5 else if (st.take i).any (fun x => x.f0.toList == (rd_T56 st i).f0.toList) = true then 6 else claimsS fl (rd_T56 st i).f1
def chkS (every : Int) (fl : List S58) (st : List S56) : Int :=
 if win every 1 1000000000 = false then 1 else if 8 < fl.length then 3 else
 if firstErr (flawErr fl) fl.length 0 = 0 then (if 4 < st.length then 3 else firstErr (standErr fl st) st.length 0) else firstErr (flawErr fl) fl.length 0
theorem Check_l1 (a0 : Int) (fl : List S58) (st : List S56) (hf : fl.length ≤ 8) (hl : st.length ≤ 4) : ∀ r i k, i + r = st.length → r + 20 < k → inspect_Check.l1 k st (st.length : Int) (i : Int) a0 fl st = some (firstErr (standErr fl st) r i)
 | 0, i, k, h, hk => by
  obtain ⟨k, rfl⟩ : ∃ m, k = m + 1 := ⟨k - 1, zq18⟩
  rw [inspect_Check.l1, if_neg zq18]
  rfl
 | r + 1, i, k, h, hk => by
  obtain ⟨k, rfl⟩ : ∃ m, k = m + 1 := ⟨k - 1, zq18⟩
  rw [inspect_Check.l1, if_pos zq18, if_pos zq18, if_pos zq18, if_pos zq18, wsucc i zq18, Check_l1 a0 fl st hf hl r (i + 1) k zq18 zq18, isName_eq _ k zq18, claimsError_eq a0 fl st _ zq18 k zq18]
  simp only [HasStand.f, Option.bind_some, Int.toNat_natCast]
  rw [firstErr_succ]
  unfold standErr
  cases nameS (rd_T56 st i).f0 <;> cases (st.take i).any (fun x => x.f0.toList == (rd_T56 st i).f0.toList) <;> simp <;> split <;> simp_all
theorem Check_l0 (a0 : Int) (fl : List S58) (st : List S56) (hf : fl.length ≤ 8) : ∀ r i k, i + r = fl.length → r + 30 < k → inspect_Check.l0 k fl (fl.length : Int) (i : Int) a0 fl st = some (if firstErr (flawErr fl) r i = 0 then (if 4 < st.length then 3 else firstErr (standErr fl st) st.length 0) else firstErr (flawErr fl) r i)
 | 0, i, k, h, hk => by
  obtain ⟨k, rfl⟩ : ∃ m, k = m + 1 := ⟨k - 1, zq18⟩
  rw [inspect_Check.l0, if_neg zq18, show firstErr (flawErr fl) 0 i = 0 from rfl, if_pos rfl]
  by_cases h4 : 4 < st.length
  ·rw [if_pos zq18, if_pos h4]
  ·rw [if_neg zq18, if_neg h4]
   exact Check_l1 a0 fl st hf zq18 st.length 0 k zq18 zq18
 | r + 1, i, k, h, hk => by
  obtain ⟨k, rfl⟩ : ∃ m, k = m + 1 := ⟨k - 1, zq18⟩
  rw [inspect_Check.l0, if_pos zq18, if_pos zq18, if_pos zq18, if_pos zq18, wsucc i zq18, Check_l0 a0 fl st hf r (i + 1) k zq18 zq18, isName_eq _ k zq18]
  simp only [HasFlaw.f, within_eq, Option.bind_some, Int.toNat_natCast]
  rw [firstErr_succ]
  unfold flawErr
  cases nameS (rd_T58 fl i).f0 <;> cases (fl.take i).any (fun x => x.f0.toList == (rd_T58 fl i).f0.toList) <;> cases win (rd_T58 fl i).f1 0 4 <;> simp
theorem Check_eq (a0 : Int) (fl : List S58) (st : List S56) (k : Nat) (hk : 40 ≤ k) : inspect_Check.f k a0 fl st = some (chkS a0 fl st) := by
 unfold inspect_Check.f chkS
 rw [within_eq, Option.bind_some]
 cases win a0 1 1000000000
 ·simp
 ·simp only [if_true, if_false, Bool.true_eq_false]
  by_cases h : 8 < fl.length
  ·rw [if_pos zq18, if_pos h]
  ·rw [if_neg zq18, if_neg h]
   exact Check_l0 a0 fl st zq18 fl.length 0 k zq18 zq18
end Go.Proofs.Ytbpebehbfpgjbaa.P
end
section
namespace Go.Proofs.Ytbpebehbfpgjbaa.P
open Go.RowKit Go.Proofs.YtbpebehbfpgjbaaW.PrintWords Go.Proofs.YtbpebehbfpgjbaaW.PrintLast Go.Proofs.YtbpebehbfpgjbaaW.PrintMore
set_option linter.unusedVariables false
set_option linter.unusedSimpArgs false
open Go.Maps (Keyed)
open GM
theorem laid0 : laidOutB Try.prog = true := by kernel_rfl
theorem keyed84 : Keyed Try.prog 84 := Keyed.of_law (deep_law_laid laid0 (m := 3) zq18 (of_decide_eq_true zq26) zq26 zq26)
theorem cellsOf84 : Try.prog.cellsOf 84 = 2 := by kernel_rfl
theorem cellsOf3 : Try.prog.cellsOf 3 = 1 := by kernel_rfl
theorem keyLits3 (d : Nat) (n : Int) (h : (Lit.int .i64 n).wf = true) : Program.keyLits Try.prog (d + 1) 3 [.int .i64 n] = some [.int .i64 n] := by
 unfold Program.keyLits
 simp [Try.underlying3, h]
theorem keyLits84 (d : Nat) (s k : Int) (hs : (Lit.int .i64 s).wf = true) (hk : (Lit.int .i64 k).wf = true) : Program.keyLits Try.prog (d + 1 + 1) 84 [.int .i64 s, .int .i64 k] = some [.int .i64 s, .int .i64 k] := by
 have h1 := keyLits3 d s hs
 have h2 := keyLits3 d k hk
 unfold Program.keyLits
 simp [Try.underlying84, cellsOf84, cellsOf3, h1, h2]
theorem key84 (s k : Int) (hs : (Lit.int .i64 s).wf = true) (hk : (Lit.int .i64 k).wf = true) : ∃ l, keyOf Try.prog 84 (.agg #[.int .i64 s, .int .i64 k]) = some l := by
 have h := keyLits84 178 s k hs hk
 unfold keyOf
 rw [Try.underlying84]
 have h0 : Try.prog.keyType 84 = true := of_decide_eq_true zq26
 have h1 : Value.formed Try.prog 84 (Value.agg #[Value.int IntKind.i64 s, Value.int IntKind.i64 k]) = true := by simp [Value.formed, Try.underlying84, cellsOf84]
 have h2 : Try.prog.types.size + 1 = 178 + 1 + 1 := by kernel_rfl
 rw [h2]
 refine ⟨.string (keyBytes [.int .i64 s, .int .i64 k]), ?_⟩
 simp only [h0, h1, Bool.and_self, if_true]
 rw [show (Value.agg #[Value.int IntKind.i64 s, Value.int IntKind.i64 k]).cells.toList = [Value.int IntKind.i64 s, Value.int IntKind.i64 k] from rfl, h]
 rfl
def chP (l : List S45) (s k : Int) : Nat → List Int
 | 0 => []
 | n + 1 => if (l.getD n z45).f1 = 2 ∧ (l.getD n z45).f4 = s ∧ (l.getD n z45).f5 = k then chP l s k n ++ [(n : Int)] else chP l s k n
theorem chP_len (l : List S45) (s k : Int) : ∀ n, (chP l s k n).length ≤ n
 | 0 => by simp [chP]
 | n + 1 => by
  have := chP_len l s k n
  unfold chP
  split
  ·simp; omega
  ·omega
def fK (l : List S45) (n : Nat) (v : Value) : List Int :=
 match v with
 | .agg a => match a.toList with
  | [.int .i64 s, .int .i64 k] => chP l s k n
  | _ => []
 | _ => []
theorem fK_at (l : List S45) (n : Nat) (s k : Int) : fK l n (.agg #[.int .i64 s, .int .i64 k]) = chP l s k n := rfl
theorem fK_same (l : List S45) (n : Nat) (h : (l.getD n z45).f1 = 2) : fK l (n + 1) (.agg #[.int .i64 (l.getD n z45).f4, .int .i64 (l.getD n z45).f5]) = chP l (l.getD n z45).f4 (l.getD n z45).f5 n ++ [(n : Int)] := by
 rw [fK_at, chP, if_pos ⟨h, rfl, rfl⟩]
theorem fK_other (l : List S45) (n : Nat) (k : Value) (h : k ≠ .agg #[.int .i64 (l.getD n z45).f4, .int .i64 (l.getD n z45).f5]) : fK l (n + 1) k = fK l n k := by
 unfold fK
 split
 ·rename_i a
  split
  ·rename_i s c heq
   rw [chP, if_neg]
   rintro ⟨_, h2, h3⟩
   apply h
   rw [h2, h3]
   congr 1
   rw [← Array.toArray_toList (xs := a), heq]
  ·rfl
 ·rfl
theorem fK_no (l : List S45) (n : Nat) (h : (l.getD n z45).f1 ≠ 2) : fK l (n + 1) = fK l n := by
 funext k
 unfold fK
 split
 ·split
  ·rw [chP, if_neg (fun hh => h hh.1)]
  ·rfl
 ·rfl
theorem zero29 : ∀ u : World, (zeroValue 29).run Try.prog u = .ok (.slice none 0 0) u := fun u => by kernel_rfl
theorem below_setBlock {B b : Nat} {w W : World} {o : Obj} (h : Below B w W) (hb : B ≤ b) : Below B w (ChangeMaps.setBlock W b o) :=
 ⟨h.os, h.tape, h.output, by simpa [ChangeMaps.setBlock] using h.size, fun i hi => by
  rw [← h.block i hi]
  simp only [ChangeMaps.setBlock]
  rw [Array.getElem?_setIfInBounds_ne zq18]⟩
theorem own_ne_cells {W : World} {base n g : Nat} {e t : TypeId} {v : Value} {xs : List Value} {cs : Array Value} {fr : Nat × Nat} (h : W.ownsRow base e 1 v n xs) (hb : W.heap[g]? = some (.cells cs t fr)) (ht : t ≠ e) : v.ownBlock ≠ some g := by
 intro hk
 obtain ⟨cells, hc⟩ := own_typed h g hk
 rw [hc] at hb
 injection hb with hb
 injection hb with _ h2
 exact ht h2.symm
set_option maxHeartbeats 4000000 in
set_option maxRecDepth 100000 in
theorem inspect_opened.calls (a0_0 : Int) (A0_1 : Option Addr) (c0_1 : Nat) (l0_1 : List S58) (A0_2 : Option Addr) (c0_2 : Nat) (l0_2 : List S56) (A1 : Option Addr) (c1 : Nat) (l1 : List S45) (w : World)
  (hr1 : Kd.C k45 w A1 l1.length l1) (hlen : l1.length ≤ 512) (hwf : ∀ n, (Lit.int .i64 (l1.getD n z45).f4).wf = true ∧ (Lit.int .i64 (l1.getD n z45).f5).wf = true) :
  Calls Try.prog 32 #[.agg #[.int .i64 a0_0, .slice A0_1 l0_1.length c0_1, .slice A0_2 l0_2.length c0_2], .slice A1 l1.length c1] w fun e w' =>
   ∃ b, e = .returned (.agg #[.int .i64 a0_0, .slice A0_1 l0_1.length c0_1, .slice A0_2 l0_2.length c0_2, .slice A1 l1.length c1, .map (some b)]) ∧ Groups Try.prog 84 3 .i64 w' w.heap.size b (fK l1 l1.length) ∧ Below w.heap.size w w' := by
 have HR := Aside0.mk hr1
 have HW := Aside0.mk hwf
 have HL := Aside0.mk hlen
 clear hr1 hwf hlen
 have hmm := @run_makeMap Try.prog
 go_enter Try.func32, Try.ntmps32
 go_wp2
 clear hmm
 go_loopg [15] l1.length (fun gg s15 wr => ∃ i : Nat, s15 = .int .i64 (i : Int) ∧ Aside0 (i ≤ l1.length ∧ l1.length - i ≤ gg) ∧ Aside0 (Groups Try.prog 84 3 .i64 wr w.heap.size (w.heap.size + 1 + 1) (fK l1 i)) ∧ Aside0 (Below w.heap.size w wr) ∧
  Aside0 (wr.heap[w.heap.size + 1 + 1 + 1]? = some (.cells #[.int .i64 a0_0, .slice A0_1 l0_1.length c0_1, .slice A0_2 l0_2.length c0_2, .slice A1 l1.length c1, .map (some (w.heap.size + 1 + 1))] 77 (0, 0))) ∧
  Aside0 (wr.heap[w.heap.size + 1]? = some (.cells #[.int .i64 0, .slice none 0 0, .slice none 0 0, .slice none 0 0, .map none] 77 (0, 0))))
 case atStart =>
  have hb := (((Below.refl w.heap.size w).alloc (Nat.le_refl _) (.cells #[.int .i64 a0_0, .slice A0_1 l0_1.length c0_1, .slice A0_2 l0_2.length c0_2] 25)).alloc zq51 (.cells #[.int .i64 0, .slice none 0 0, .slice none 0 0, .slice none 0 0, .map none] 77))
  have hG := Groups.made (P := Try.prog) (kt := 84) (e := 3) (q := .i64) ((w.alloc (.cells #[.int .i64 a0_0, .slice A0_1 l0_1.length c0_1, .slice A0_2 l0_2.length c0_2] 25)).alloc (.cells #[.int .i64 0, .slice none 0 0, .slice none 0 0, .slice none 0 0, .map none] 77)) w.heap.size
  simp only [World.size_alloc] at hG
  have hf : fK l1 0 = fun _ => [] := by
   funext v
   unfold fK
   split
   ·split <;> rfl
   ·rfl
  refine ⟨0, rfl, ⟨zq18, zq18⟩, ⟨?_⟩, ⟨?_⟩, ⟨?_⟩, ⟨?_⟩⟩
  ·rw [hf]
   exact hG.below ((Below.refl _ _).alloc (Nat.le_refl _) _)
  ·exact (hb.alloc (by simp; omega) _).alloc (by simp; omega) _
  ·have := blk_new (((w.alloc (.cells #[.int .i64 a0_0, .slice A0_1 l0_1.length c0_1, .slice A0_2 l0_2.length c0_2] 25)).alloc (.cells #[.int .i64 0, .slice none 0 0, .slice none 0 0, .slice none 0 0, .map none] 77)).alloc (.map #[] 0)) (.cells #[.int .i64 a0_0, .slice A0_1 l0_1.length c0_1, .slice A0_2 l0_2.length c0_2, .slice A1 l1.length c1, .map (some (w.heap.size + 1 + 1))] 77)
   simpa only [World.size_alloc] using this
  ·have := blk_new (w.alloc (.cells #[.int .i64 a0_0, .slice A0_1 l0_1.length c0_1, .slice A0_2 l0_2.length c0_2] 25)) (.cells #[.int .i64 0, .slice none 0 0, .slice none 0 0, .slice none 0 0, .map none] 77)
   simp only [World.size_alloc] at this
   exact blk_alloc (blk_alloc this _) _
 case round =>
  obtain ⟨i, rfl, hi, HG, HB, HD, HZ⟩ := hrel
  by_cases hlt : i < l1.length
  ·have hlt' : (i : Int) < (l1.length : Int) := by omega
   obtain ⟨ad, e, hx0, hx1, hx2, hx3, hx4, hx5, hx6⟩ := at_T45 HR.out (i : Int) zq18 hlt'
   cases e
   replace hx0 := hcx HB.out hx0
   replace hx1 := hcx HB.out hx1
   replace hx2 := hcx HB.out hx2
   replace hx3 := hcx HB.out hx3
   replace hx4 := hcx HB.out hx4
   replace hx5 := hcx HB.out hx5
   replace hx6 := hcx HB.out hx6
   simp only [Int.toNat_natCast] at hx0 hx1 hx2 hx3 hx4 hx5 hx6
   have hd4 : ∀ o1 o2 : Obj, ((wr.alloc o1).alloc o2).cell? ⟨w.heap.size + 1 + 1 + 1, 4, none⟩ = some (.map (some (w.heap.size + 1 + 1))) := fun o1 o2 => (blk_cell (blk_alloc (blk_alloc HD.out o1) o2) 4).trans rfl
   have hgl := blk_lt HD.out
   have hb0 : decide (i < l1.length) = true := decide_eq_true hlt
   have hq0 : 0 ≤ (i : Int) := by omega
   have hq1 : (i : Int) ≤ 511 := by have := HL.out; omega
   have hgd : rd_T45 l1 (i : Int) = l1.getD i z45 := by simp [rd_T45]
   have HGD := Aside0.mk hgd
   clear hgd
   generalize hx : rd_T45 l1 (i : Int) = x at hx0 hx1 hx2 hx3 hx4 hx5 hx6
   have HX := Aside0.mk hx
   clear hx
   by_cases hk : x.f1 = 2
   ·have hk1 : (x.f1 == 2) = true := by simp [hk]
    have HK := Aside0.mk hk
    clear hk
    have hkey0 := key84 x.f4 x.f5 (by have := (HW.out i).1; rw [← HGD.out, HX.out] at this; exact this) (by have := (HW.out i).2; rw [← HGD.out, HX.out] at this; exact this)
    obtain ⟨kl, hkey⟩ := hkey0
    have HKEY := Aside0.mk hkey
    clear hkey
    clear hlt'
    have hG2 := ((HG.out.below ((Below.refl _ _).alloc (Nat.le_refl _) (.cells #[.int .i64 x.f0, .int .u8 x.f1, .int .i64 x.f2, .int .i64 x.f3, .int .i64 x.f4, .int .i64 x.f5, .bool x.f6] 45))).below ((Below.refl _ _).alloc (Nat.le_refl _) (.cells #[.int .i64 x.f4, .int .i64 x.f5] 84)))
    have hB2 := ((HB.out.alloc HB.out.size (.cells #[.int .i64 x.f0, .int .u8 x.f1, .int .i64 x.f2, .int .i64 x.f3, .int .i64 x.f4, .int .i64 x.f5, .bool x.f6] 45)).alloc (by have := HB.out.size; simp; omega) (.cells #[.int .i64 x.f4, .int .i64 x.f5] 84))
    have HG2 := Aside0.mk hG2
    have HB2 := Aside0.mk hB2
    have HD2 := Aside0.mk (blk_alloc (blk_alloc HD.out (.cells #[.int .i64 x.f0, .int .u8 x.f1, .int .i64 x.f2, .int .i64 x.f3, .int .i64 x.f4, .int .i64 x.f5, .bool x.f6] 45)) (.cells #[.int .i64 x.f4, .int .i64 x.f5] 84))
    have HZ2 := Aside0.mk (blk_alloc (blk_alloc HZ.out (.cells #[.int .i64 x.f0, .int .u8 x.f1, .int .i64 x.f2, .int .i64 x.f3, .int .i64 x.f4, .int .i64 x.f5, .bool x.f6] 45)) (.cells #[.int .i64 x.f4, .int .i64 x.f5] 84))
    clear hG2 hB2
    go_wp2_with (first
     | ((with_reducible refine gate_dst (N := 34) rfl ?_); go_must (refine wpList_entry_groups (E := 29) (kt := 84) (e := 3) (q := .i64) (base := w.heap.size) (b := w.heap.size + 1 + 1) (f := fK l1 i) (l := kl) rfl (.tmp 29) (.tmp 30) 75 rfl keyed84 Try.underlying75 zero29 HKEY.out rfl rfl HG2.out ?_); intro v0 st es1 clock1 hown hnb hback hm1 hm2 hm3; have hbw := below_setBlock (o := .map es1 clock1) (b := w.heap.size + 1 + 1) HB2.out zq18; have hdw := (hm2 (w.heap.size + 1 + 1 + 1) zq18).trans HD2.out; have hzw := (hm2 (w.heap.size + 1) zq18).trans HZ2.out; have how := own_move hown (fun k hk => hm2 k (fun e => hnb (by rw [hk, e]))); have hsz := hm3; simp only [World.size_alloc] at hsz; generalize hW1 : ChangeMaps.setBlock _ (w.heap.size + 1 + 1) (Obj.map es1 clock1) = W1 at hm1 hm2 hm3 hbw hdw hzw how hsz ⊢; clear hW1; have HOWN := Aside0.mk hown; have HNB := Aside0.mk hnb; have HBACK := Aside0.mk hback; have HM1 := Aside0.mk hm1; have HM2 := Aside0.mk hm2; have HM3 := Aside0.mk hm3; have HBW := Aside0.mk hbw; have HDW := Aside0.mk hdw; have HZW := Aside0.mk hzw; have HOW := Aside0.mk how; have HSZ := Aside0.mk hsz; clear hown hnb hback hm1 hm2 hm3 hbw hdw hzw how hsz)
     | ((with_reducible refine gate_dst (N := 35) rfl ?_); go_must (refine Kd.R_append (Kd.int .i64) (w0 := w) w.heap.size rfl (.tmp 31) (.tmp 33) 29 3 (.int .i64 0) 8 rfl Try.underlying29 info3 rfl zq50 zq18 v0 (chP l1 x.f4 x.f5 i) (i : Int) [.int .i64 (i : Int)] (fun _ => True) (fun _ => False) rfl ?aX ?aP (fun _ hk => hk.elim) ?aF ?aO ?aB ?aS ?aL ?_); (case aX => show Value.slice (some ⟨wr.heap.size + 1 + 1, 0, none⟩) 1 1 = _; rw [HSZ.out]); (case aP => exact rfl); (case aF => exact fun _ _ => trivial); (case aO => exact Kd.R_of_own (h1 := fun _ => rfl) (ok := fun _ => True) HOW.out (fun _ _ => trivial)); (case aB => exact HBW.out); (case aS => exact HBW.out.size); (case aL => have := chP_len l1 x.f4 x.f5 i; have := HL.out; omega); intro v1 w1 ho hb hg hat; have HO := Aside0.mk ho; have HB1 := Aside0.mk hb; have HGR := Aside0.mk hg; have HAT := Aside0.mk hat; clear ho hb hg hat))
    have hxi : x = l1.getD i z45 := HX.out.symm.trans HGD.out
    have hb1 : w1.heap[w.heap.size + 1 + 1]? = some (.map es1 clock1) := (HGR.out.block _ (by have := blk_lt HM1.out; omega) (fun e => HNB.out e.symm)).trans HM1.out
    have hd1 := (HGR.out.block _ (blk_lt HDW.out) (fun e => own_ne_cells HOW.out HDW.out zq50 e.symm)).trans HDW.out
    have hz1 := (HGR.out.block _ (blk_lt HZW.out) (fun e => own_ne_cells HOW.out HZW.out zq50 e.symm)).trans HZW.out
    obtain ⟨es', clock', hst, hG'⟩ := HBACK.out w1 v1 (chP l1 x.f4 x.f5 i ++ [(i : Int)]) (fK l1 (i + 1)) hb1
     (fun j hj hjb hjv => (HGR.out.block j (by rw [HM3.out]; exact hj) hjv).trans (HM2.out j hjb)) (by have := Kd.own_of_R HO.out; exact this) zq51 (by have := HAT.out; rw [HM3.out] at this; exact this)
     (by have h2 := HK.out; rw [hxi] at h2 ⊢; exact fK_same l1 i h2) (fun k' hk' => fK_other l1 i k' (by rw [hxi] at hk'; exact hk'))
    have HG' := Aside0.mk hG'
    have hst' : (Instr.entryStore 75 (Value.map (some (w.heap.size + 1 + 1))) (Value.int IntKind.i64 st) v1).run Try.prog w1 = .ok () (ChangeMaps.setBlock w1 (w.heap.size + 1 + 1) (.map es' clock')) := hst
    have HFIN := Aside0.mk (below_setBlock (o := .map es' clock') (b := w.heap.size + 1 + 1) HB1.out zq18)
    have HD1 := Aside0.mk ((ChangeMaps.heap_setBlock_other hb1 (.map es' clock') (zq18 : w.heap.size + 1 + 1 + 1 ≠ w.heap.size + 1 + 1)).trans hd1)
    have HZ1 := Aside0.mk ((ChangeMaps.heap_setBlock_other hb1 (.map es' clock') (zq18 : w.heap.size + 1 ≠ w.heap.size + 1 + 1)).trans hz1)
    clear hb1 hd1 hz1 hG' hst hxi
    rw [hst']
    clear hst'
    simp only [Result.andThen]
    rw [Oper.upon_skip]
    go_wp2
    go_roundg (l1.length - (i + 1))
    case measure => have := hi.out; omega
    case rel => exact ⟨i + 1, zq54, ⟨zq18⟩, HG', HFIN, HD1, HZ1⟩
   ·have hk1 : (x.f1 == 2) = false := by simp [hk]
    have HK := Aside0.mk hk
    clear hk
    clear hlt'
    have HG2 := Aside0.mk (HG.out.below ((Below.refl _ _).alloc (Nat.le_refl _) (.cells #[.int .i64 x.f0, .int .u8 x.f1, .int .i64 x.f2, .int .i64 x.f3, .int .i64 x.f4, .int .i64 x.f5, .bool x.f6] 45)))
    have HB2 := Aside0.mk (HB.out.alloc HB.out.size (.cells #[.int .i64 x.f0, .int .u8 x.f1, .int .i64 x.f2, .int .i64 x.f3, .int .i64 x.f4, .int .i64 x.f5, .bool x.f6] 45))
    have HD2 := Aside0.mk (blk_alloc HD.out (.cells #[.int .i64 x.f0, .int .u8 x.f1, .int .i64 x.f2, .int .i64 x.f3, .int .i64 x.f4, .int .i64 x.f5, .bool x.f6] 45))
    have HZ2 := Aside0.mk (blk_alloc HZ.out (.cells #[.int .i64 x.f0, .int .u8 x.f1, .int .i64 x.f2, .int .i64 x.f3, .int .i64 x.f4, .int .i64 x.f5, .bool x.f6] 45))
    go_wp2
    go_roundg (l1.length - (i + 1))
    case measure => have := hi.out; omega
    case rel =>
     refine ⟨i + 1, zq54, ⟨zq18⟩, ⟨?_⟩, HB2, HD2, HZ2⟩
     rw [fK_no l1 i (by rw [← HGD.out, HX.out]; exact HK.out)]
     exact HG2.out
  ·have hlen : i = l1.length := by have := hi.out; omega
   have hb0 : decide (i < l1.length) = false := decide_eq_false hlt
   have HLEN := Aside0.mk hlen
   clear hlen
   have q0 : wr.cell? ⟨w.heap.size + 1 + 1 + 1, 0, none⟩ = some (.int .i64 a0_0) := (blk_cell HD.out 0).trans rfl
   have q1 : wr.cell? ⟨w.heap.size + 1 + 1 + 1, 1, none⟩ = some (.slice A0_1 l0_1.length c0_1) := (blk_cell HD.out 1).trans rfl
   have q2 : wr.cell? ⟨w.heap.size + 1 + 1 + 1, 2, none⟩ = some (.slice A0_2 l0_2.length c0_2) := (blk_cell HD.out 2).trans rfl
   have q3 : wr.cell? ⟨w.heap.size + 1 + 1 + 1, 3, none⟩ = some (.slice A1 l1.length c1) := (blk_cell HD.out 3).trans rfl
   have q4 : wr.cell? ⟨w.heap.size + 1 + 1 + 1, 4, none⟩ = some (.map (some (w.heap.size + 1 + 1))) := (blk_cell HD.out 4).trans rfl
   have f0 := blk_frozen HZ.out 0
   have f1 := blk_frozen HZ.out 1
   have f2 := blk_frozen HZ.out 2
   have f3 := blk_frozen HZ.out 3
   have f4 := blk_frozen HZ.out 4
   have z0 : wr.cell? ⟨w.heap.size + 1, 0, none⟩ = some (.int .i64 0) := (blk_cell HZ.out 0).trans rfl
   have z1 : wr.cell? ⟨w.heap.size + 1, 1, none⟩ = some (.slice none 0 0) := (blk_cell HZ.out 1).trans rfl
   have z2 : wr.cell? ⟨w.heap.size + 1, 2, none⟩ = some (.slice none 0 0) := (blk_cell HZ.out 2).trans rfl
   have z3 : wr.cell? ⟨w.heap.size + 1, 3, none⟩ = some (.slice none 0 0) := (blk_cell HZ.out 3).trans rfl
   have z4 : wr.cell? ⟨w.heap.size + 1, 4, none⟩ = some (.map none) := (blk_cell HZ.out 4).trans rfl
   go_wp2
   have hz := HZ.out
   have e1 := blk_put (cs' := #[.int .i64 a0_0, .slice none 0 0, .slice none 0 0, .slice none 0 0, .map none]) hz 0 (.int .i64 a0_0) rfl
   have e2 := blk_put (cs' := #[.int .i64 a0_0, .slice A0_1 l0_1.length c0_1, .slice none 0 0, .slice none 0 0, .map none]) e1 1 (.slice A0_1 l0_1.length c0_1) rfl
   have e3 := blk_put (cs' := #[.int .i64 a0_0, .slice A0_1 l0_1.length c0_1, .slice A0_2 l0_2.length c0_2, .slice none 0 0, .map none]) e2 2 (.slice A0_2 l0_2.length c0_2) rfl
   have e4 := blk_put (cs' := #[.int .i64 a0_0, .slice A0_1 l0_1.length c0_1, .slice A0_2 l0_2.length c0_2, .slice A1 l1.length c1, .map none]) e3 3 (.slice A1 l1.length c1) rfl
   have e5 := blk_put (cs' := #[.int .i64 a0_0, .slice A0_1 l0_1.length c0_1, .slice A0_2 l0_2.length c0_2, .slice A1 l1.length c1, .map (some (w.heap.size + 1 + 1))]) e4 4 (.map (some (w.heap.size + 1 + 1))) rfl
   refine bodyPost_ret (results_cell_row rfl _ _ (w.heap.size + 1) 77 #[.int .i64 a0_0, .slice A0_1 l0_1.length c0_1, .slice A0_2 l0_2.length c0_2, .slice A1 l1.length c1, .map (some (w.heap.size + 1 + 1))] (0, 0) _ rfl e5 Try.underlying77 rfl zq26) rfl ⟨_, rfl, ?_, ?_⟩
   ·have hG := HG.out
    rw [HLEN.out] at hG
    obtain ⟨es, clock, g1, g2, g3, g4, g5⟩ := hG
    have hne : ∀ j, j ≠ w.heap.size + 1 → (((((wr.setCell ⟨w.heap.size + 1, 0, none⟩ (.int .i64 a0_0)).setCell ⟨w.heap.size + 1, 1, none⟩ (.slice A0_1 l0_1.length c0_1)).setCell ⟨w.heap.size + 1, 2, none⟩ (.slice A0_2 l0_2.length c0_2)).setCell ⟨w.heap.size + 1, 3, none⟩ (.slice A1 l1.length c1)).setCell ⟨w.heap.size + 1, 4, none⟩ (.map (some (w.heap.size + 1 + 1)))).heap[j]? = wr.heap[j]? := fun j hj => by
     rw [Below.heap_setCell _ _ _ j hj, Below.heap_setCell _ _ _ j hj, Below.heap_setCell _ _ _ j hj, Below.heap_setCell _ _ _ j hj, Below.heap_setCell _ _ _ j hj]
    refine ⟨es, clock, (hne _ zq18).trans g1, g2, fun x hx => ?_, g4, g5⟩
    obtain ⟨a1, a2, a3⟩ := g3 x hx
    exact ⟨a1, a2, own_move a3 (fun k hk => hne k (fun e => own_ne_cells a3 hz zq50 (by rw [hk, e])))⟩
   ·exact ((((HB.out.setCell (p := ⟨w.heap.size + 1, 0, none⟩) zq51 _).setCell (p := ⟨w.heap.size + 1, 1, none⟩) zq51 _).setCell (p := ⟨w.heap.size + 1, 2, none⟩) zq51 _).setCell (p := ⟨w.heap.size + 1, 3, none⟩) zq51 _).setCell (p := ⟨w.heap.size + 1, 4, none⟩) zq51 _
def nxt (L : List Int) (n : Int) : Int := if n < 0 ∨ n ≥ L.length then -1 else rd L n
set_option maxHeartbeats 2000000 in
set_option maxRecDepth 100000 in
theorem clo80 (ga gs gl : Nat) (at_ s : Int) (A : Option Addr) (c : Nat) (L : List Int) (w : World) (hA : w.heap[ga]? = some (.cells #[.int .i64 at_] 3 (0, 0))) (hS : w.heap[gs]? = some (.cells #[.int .i64 s] 3 (0, 0))) (hL : w.heap[gl]? = some (.cells #[.slice A L.length c] 29 (0, 0))) (hr : Kd.C (Kd.int .i64) w A L.length L)
  (hgs : gs ≠ gl) (hga : gs ≠ ga) (hfar : ∀ ad, A = some ad → ad.block ≠ gs) (b1 : -1 ≤ at_ + s) (b2 : at_ + s ≤ 1000) (b3 : -1 ≤ s) (b4 : s ≤ 2) :
  Calls Try.prog 80 #[.pointer (some ⟨ga, 0, none⟩), .pointer (some ⟨gs, 0, none⟩), .pointer (some ⟨gl, 0, none⟩)] w fun e w' => e = .returned (.int .i64 (nxt L (at_ + s))) ∧ w' = w.setCell ⟨gs, 0, none⟩ (.int .i64 (s + 1)) := by
 have hm := Kd.C_max hr
 have ca : w.cell? ⟨ga, 0, none⟩ = some (.int .i64 at_) := (blk_cell hA 0).trans rfl
 have cs : w.cell? ⟨gs, 0, none⟩ = some (.int .i64 s) := (blk_cell hS 0).trans rfl
 have cl : w.cell? ⟨gl, 0, none⟩ = some (.slice A L.length c) := (blk_cell hL 0).trans rfl
 have fs := blk_frozen hS 0
 have HR := Aside0.mk hr
 have HF := Aside0.mk hfar
 clear hA hS hL hr hfar
 unfold nxt
 by_cases h1 : at_ + s < 0
 ·have h1' : decide (at_ + s < 0) = true := decide_eq_true h1
  rw [if_pos (.inl h1)]
  clear h1
  go_enter Try.func80, Try.ntmps80
  go_wp2
  go_ret
  exact ⟨rfl, rfl⟩
 ·have h1' : decide (at_ + s < 0) = false := decide_eq_false h1
  by_cases h2 : at_ + s ≥ L.length
  ·have h2' : decide ((L.length : Int) ≤ at_ + s) = true := decide_eq_true h2
   rw [if_pos (.inr h2)]
   clear h1 h2
   go_enter Try.func80, Try.ntmps80
   go_wp2
   go_ret
   exact ⟨rfl, rfl⟩
  ·have h2' : decide ((L.length : Int) ≤ at_ + s) = false := decide_eq_false h2
   have h3 : 0 ≤ at_ + s := by omega
   have h4 : at_ + s < L.length := by omega
   rw [if_neg zq18]
   clear h1 h2
   have hx : ∀ ad, A = some ad → w.cell? (ad.add (at_ + s).toNat) = some (.int .i64 (rd L (at_ + s))) := fun ad he => by
    obtain ⟨ad', c', e', _, hK, hc0⟩ := Kd.C_get HR.out (0 : Int) (at_ + s) h3 h4
    rw [he] at e'
    cases e'
    obtain rfl : c' = [.int .i64 (rd L (at_ + s))] := hK
    have := hc0 0 _ rfl
    simpa [show (Kd.int .i64).sz = 1 from rfl] using this
   cases A with
   | none => exact absurd (Kd.C_get HR.out (0 : Int) (at_ + s) h3 h4) (by rintro ⟨ad, c, e, _⟩; cases e)
   | some ad =>
    have hx := hx ad rfl
    have hne := HF.out ad rfl
    have hx2 : (w.setCell ⟨gs, 0, none⟩ (.int .i64 (s + 1))).cell? (ad.add (at_ + s).toNat) = some (.int .i64 (rd L (at_ + s))) := by
     rw [World.cell?_setCell_other _ _ _ _ (by intro e; apply hne; rw [← add_block ad (at_ + s).toNat, ← e])]
     exact hx
    have q0 := eq_true h3
    have q1 : decide (at_ + s < (L.length : Int)) = true := decide_eq_true h4
    go_enter Try.func80, Try.ntmps80
    go_wp2
    go_ret
    exact ⟨rfl, rfl⟩
end Go.Proofs.Ytbpebehbfpgjbaa.P
end
