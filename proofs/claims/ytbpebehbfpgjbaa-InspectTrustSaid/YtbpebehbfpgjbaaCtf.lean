/- Texts of the proof, joined: what they prove stands at each theorem. -/
import Derived.Shelf.Abstract
import Derived.Test.YtbpebehbfpgjbaaCtb
import Derived.Test.YtbpebehbfpgjbaaCte
section
namespace Go.Proofs.Ytbpebehbfpgjbaa.P
open Go.RowKit Go.Proofs.YtbpebehbfpgjbaaW.PrintWords Go.Proofs.YtbpebehbfpgjbaaW.PrintLast Go.Proofs.YtbpebehbfpgjbaaW.PrintMore
attribute [local go_sem] max2_int min2_int max_two min_two max_three min_three max_four min_four
set_option linter.unusedVariables false
set_option linter.unusedSimpArgs false
def culletref07_judge.l0 : Nat → List (S45) → Int → Int → Int → Int → List (S58) → List (S56) → Option (Int × Int)
 | 0, _, _, _, _, _, _, _ => none
 | k + 1, x1, x2, x8, x9, x163000, x163001, x163002 => if x9 < (x163001.length : Int) then ((culletref07_how.f k x163000 x163001 x163002 x1 x9 x2 1).bind fun t164 => ((culletref07_how.f k x163000 x163001 x163002 x1 x9 x2 0).bind fun t165 => (if 0 ≤ x9 then (if (wrap64 (t164 + t165)) < ((rd_T58 x163001 x9).f1) then (some (3, x9)) else (if t164 < ((rd_T58 x163001 x9).f1) then (if x8 < 0 then (culletref07_judge.l0 k x1 x2 x9 (wrap64 (x9 + 1)) x163000 x163001 x163002) else (culletref07_judge.l0 k x1 x2 x8 (wrap64 (x9 + 1)) x163000 x163001 x163002)) else (culletref07_judge.l0 k x1 x2 x8 (wrap64 (x9 + 1)) x163000 x163001 x163002))) else (none)))) else (if x8 ≥ 0 then (some (0, x8)) else (some (2, (-1))))
def culletref07_judge.f (k : Nat) (a0_0 : Int) (l0_1 : List (S58)) (l0_2 : List (S56)) (l1 : List (S45)) (a2 : Int) : Option (Int × Int) := if 0 ≤ a2 then (if a2 < (l1.length : Int) then (if (rd_T45 l1 a2).f6 = true then (some (1, (-1))) else (culletref07_judge.l0 k l1 a2 (-1) 0 a0_0 l0_1 l0_2)) else (none)) else (none)
def culletref07_judge.T8 : Bool × List (List Nat × List Nat) := (true, [([], []), ([], []), ([], []), ([], []), ([], []), ([1, 2, 3, 4], [1, 2, 3, 4]), ([0, 5], [0, 5]), ([], []), ([7], [7]), ([], []), ([8, 9], [8, 9]), ([10], [10]), ([11], [11]), ([6, 12], [6, 12])])
def culletref07_judge.B8 : List Nat := [0, 0, 0, 0, 0, 30, 63, 0, 128, 0, 896, 1920, 3968, 8191]
theorem culletref07_judge.tab8 : rtab .any (opsOf Try.f58 8) = culletref07_judge.T8 := by kernel_rfl
theorem culletref07_judge.bits8 : waitsOk culletref07_judge.T8.2 culletref07_judge.B8 = true := by kernel_rfl
set_option maxHeartbeats 8000000 in
set_option maxRecDepth 100000 in
theorem culletref07_judge.calls (k : Nat) (a0_0 : Int) (A0_1 : Option Addr) (c0_1 : Nat) (l0_1 : List (S58)) (A0_2 : Option Addr) (c0_2 : Nat) (l0_2 : List (S56)) (A1 : Option Addr) (c1 : Nat) (l1 : List (S45)) (a2 : Int) (r1 : Int) (r2 : Int) (w : World) (hr0_1 : Kd.C k58 w A0_1 l0_1.length l0_1) (hc0_1 : l0_1.length ≤ c0_1) (hr0_2 : Kd.C k56 w A0_2 l0_2.length l0_2) (hc0_2 : l0_2.length ≤ c0_2) (hr1 : Kd.C k45 w A1 l1.length l1) (hc1 : l1.length ≤ c1) (h : culletref07_judge.f k a0_0 l0_1 l0_2 l1 a2 = some (r1, r2)) :
  Calls Try.prog 58 #[.agg #[.int .i64 a0_0, .slice A0_1 l0_1.length c0_1, .slice A0_2 l0_2.length c0_2], .slice A1 l1.length c1, .int .i64 a2] w fun e w' => e = .returned (.tuple #[.int .u8 r1, .int .i64 r2]) ∧ Below w.heap.size w w' := by
 have hu25 := Try.underlying25
 have HR0_1 := Aside0.mk hr0_1
 have HC0_1 := Aside0.mk hc0_1
 clear hr0_1 hc0_1
 have HR0_2 := Aside0.mk hr0_2
 have HC0_2 := Aside0.mk hc0_2
 clear hr0_2 hc0_2
 have HR1 := Aside0.mk hr1
 have HC1 := Aside0.mk hc1
 clear hr1 hc1
 have HB := Aside0.mk (Below.refl w.heap.size w)
 have H : (if 0 ≤ a2 then (if a2 < (l1.length : Int) then (if (rd_T45 l1 a2).f6 = true then (some (1, (-1))) else (culletref07_judge.l0 k l1 a2 (-1) 0 a0_0 l0_1 l0_2)) else (none)) else (none)) = some (r1, r2) := h
 clear h
 by_cases c4 : 0 ≤ a2
 ·rw [if_pos c4] at H
  have c4b0 : decide (0 ≤ a2) = true := decide_eq_true c4
  clear c4
  by_cases c5 : a2 < (l1.length : Int)
  ·rw [if_pos c5] at H
   have c5b0 : decide (a2 < (l1.length : Int)) = true := decide_eq_true c5
   clear c5
   obtain ⟨bq6, hbq6⟩ : ∃ b_ : Bool, b_ = ((rd_T45 l1 a2).f6) := ⟨_, rfl⟩
   replace H : (if bq6 = true then (some (1, (-1))) else (culletref07_judge.l0 k l1 a2 (-1) 0 a0_0 l0_1 l0_2)) = some (r1, r2) := by rw [← hbq6] at H; exact H
   have Nbq6 := Aside0.mk hbq6
   clear hbq6
   by_cases c7 : bq6 = true
   ·subst c7
    have H1 : (some (1, (-1))) = some (r1, r2) := by rw [if_pos rfl] at H; exact H
    clear H
    have H := H1
    clear H1
    simp only [Option.some.injEq, Prod.mk.injEq] at H
    obtain ⟨rfl, rfl⟩ := H
    go_enter Try.func58, Try.ntmps58
    go_wp2_with (first | ((with_reducible refine gate_dst (N := 3) rfl ?_); refine box_event ?hg (N := 3) ?hd (cs := #[.int .i64 a0_0, .slice A0_1 l0_1.length c0_1, .slice A0_2 l0_2.length c0_2]) (t := 25) ?hr ?_; (case hd => rfl); (case hg => rfl); (case hr => exact zq9); intro gb162 hg w8 hbox hb; have n_ := as4 (below_step zq2 hb) (hbox) ((zq29 : w.heap.size ≤ gb162)) ((zq29 : w.heap.size ≤ gb162)); clear HB hb hbox hg; obtain ⟨HB, BK162, GW162, GE162⟩ := n_; have p163 : 0 ≤ (a2 : Int) := of_decide_eq_true zq6; have q163 : a2 < (l1.length : Int) := of_decide_eq_true zq6; obtain ⟨ad163, e163, hx163_0, hx163_1, hx163_2, hx163_3, hx163_4, hx163_5, hx163_6⟩ := at_T45 HR1.out a2 p163 q163; (try rw [← Nbq6.out] at hx163_6); cases e163; replace hx163_0 := hcx HB.out hx163_0; replace hx163_1 := hcx HB.out hx163_1; replace hx163_2 := hcx HB.out hx163_2; replace hx163_3 := hcx HB.out hx163_3; replace hx163_4 := hcx HB.out hx163_4; replace hx163_5 := hcx HB.out hx163_5; replace hx163_6 := hcx HB.out hx163_6; replace p163 := eq_true p163; replace q163 := eq_true q163))
    go_ret2
    exact ⟨zq7, zq33⟩
   ·replace c7 := Bool.eq_false_iff.mpr c7
    subst c7
    have H1 : (culletref07_judge.l0 k l1 a2 (-1) 0 a0_0 l0_1 l0_2) = some (r1, r2) := by rw [if_neg (show ¬ (false = true) by decide)] at H; exact H
    clear H
    have H := H1
    clear H1
    have H' := Aside0.mk H
    clear H
    go_enter Try.func58, Try.ntmps58
    go_wp2_with (first | ((with_reducible refine gate_dst (N := 3) rfl ?_); refine box_event ?hg (N := 3) ?hd (cs := #[.int .i64 a0_0, .slice A0_1 l0_1.length c0_1, .slice A0_2 l0_2.length c0_2]) (t := 25) ?hr ?_; (case hd => rfl); (case hg => rfl); (case hr => exact zq9); intro gb162 hg w9 hbox hb; have n_ := as4 (below_step zq2 hb) (hbox) ((zq29 : w.heap.size ≤ gb162)) ((zq29 : w.heap.size ≤ gb162)); clear HB hb hbox hg; obtain ⟨HB, BK162, GW162, GE162⟩ := n_; have p163 : 0 ≤ (a2 : Int) := of_decide_eq_true zq6; have q163 : a2 < (l1.length : Int) := of_decide_eq_true zq6; obtain ⟨ad163, e163, hx163_0, hx163_1, hx163_2, hx163_3, hx163_4, hx163_5, hx163_6⟩ := at_T45 HR1.out a2 p163 q163; (try rw [← Nbq6.out] at hx163_6); cases e163; replace hx163_0 := hcx HB.out hx163_0; replace hx163_1 := hcx HB.out hx163_1; replace hx163_2 := hcx HB.out hx163_2; replace hx163_3 := hcx HB.out hx163_3; replace hx163_4 := hcx HB.out hx163_4; replace hx163_5 := hcx HB.out hx163_5; replace hx163_6 := hcx HB.out hx163_6; replace p163 := eq_true p163; replace q163 := eq_true q163))
    go_loopg [8, 9] k (fun kq v8 v9 w' => ∃ (x8_1 : Int) (x9_1 : Int), v8 = .int .i64 x8_1 ∧ v9 = .int .i64 x9_1 ∧ Aside0 (culletref07_judge.l0 kq l1 a2 x8_1 x9_1 a0_0 l0_1 l0_2 = some (r1, r2)) ∧ Aside0 (kq ≤ k) ∧ Aside0 (w'.heap[gb162]? = some (.cells #[.int .i64 a0_0, (.slice A0_1 l0_1.length c0_1), (.slice A0_2 l0_2.length c0_2)] 25 (0, 0))) ∧ Aside0 (Below w.heap.size w w'))
    case atStart => exact ⟨((-1)), (0), zq8, zq8, H', ⟨Nat.le_refl _⟩, ⟨(zq0 BK162.out)⟩, ⟨zq33⟩⟩
    case round =>
     clear H'
     try clear c1
     try clear p1
     try clear q1
     try clear hx1
     try clear p2
     try clear c4
     try clear c4b0
     try clear c5
     try clear c5b0
     try clear q6
     try clear c7
     try clear hx163_0
     try clear hx163_1
     try clear hx163_2
     try clear hx163_3
     try clear hx163_4
     try clear hx163_5
     try clear hx163_6
     try clear p163
     try clear q163
     obtain ⟨x8_1, x9_1, rfl, rfl, HA, HK1, BK162, HB⟩ := hrel
     cases gk with
     | zero => exact absurd HA.out (by simp [culletref07_judge.l0])
     | succ k1 =>
      have H := HA.out
      clear HA
      simp only [culletref07_judge.l0] at H
      by_cases c10 : x9_1 < (l0_1.length : Int)
      ·rw [if_pos c10] at H
       have c10b0 : decide (x9_1 < (l0_1.length : Int)) = true := decide_eq_true c10
       clear c10
       replace H := Option.bind_eq_some_iff.mp H
       obtain ⟨t164, A110, H⟩ := H
       replace H : ((culletref07_how.f k1 a0_0 l0_1 l0_2 l1 x9_1 a2 0).bind fun t165 => (if 0 ≤ x9_1 then (if (wrap64 (t164 + t165)) < ((rd_T58 l0_1 x9_1).f1) then (some (3, x9_1)) else (if t164 < ((rd_T58 l0_1 x9_1).f1) then (if x8_1 < 0 then (culletref07_judge.l0 k1 l1 a2 x9_1 (wrap64 (x9_1 + 1)) a0_0 l0_1 l0_2) else (culletref07_judge.l0 k1 l1 a2 x8_1 (wrap64 (x9_1 + 1)) a0_0 l0_1 l0_2)) else (culletref07_judge.l0 k1 l1 a2 x8_1 (wrap64 (x9_1 + 1)) a0_0 l0_1 l0_2))) else (none))) = some (r1, r2) := H
       have A11 := Aside0.mk A110
       clear A110
       replace H := Option.bind_eq_some_iff.mp H
       obtain ⟨t165, A120, H⟩ := H
       replace H : (if 0 ≤ x9_1 then (if (wrap64 (t164 + t165)) < ((rd_T58 l0_1 x9_1).f1) then (some (3, x9_1)) else (if t164 < ((rd_T58 l0_1 x9_1).f1) then (if x8_1 < 0 then (culletref07_judge.l0 k1 l1 a2 x9_1 (wrap64 (x9_1 + 1)) a0_0 l0_1 l0_2) else (culletref07_judge.l0 k1 l1 a2 x8_1 (wrap64 (x9_1 + 1)) a0_0 l0_1 l0_2)) else (culletref07_judge.l0 k1 l1 a2 x8_1 (wrap64 (x9_1 + 1)) a0_0 l0_1 l0_2))) else (none)) = some (r1, r2) := H
       have A12 := Aside0.mk A120
       clear A120
       by_cases c13 : 0 ≤ x9_1
       ·rw [if_pos c13] at H
        have c13b0 : decide (0 ≤ x9_1) = true := decide_eq_true c13
        clear c13
        by_cases c14 : (wrap64 (t164 + t165)) < ((rd_T58 l0_1 x9_1).f1)
        ·rw [if_pos c14] at H
         have c14b0 : decide ((wrap64 (t164 + t165)) < ((rd_T58 l0_1 x9_1).f1)) = true := decide_eq_true c14
         clear c14
         simp only [Option.some.injEq, Prod.mk.injEq] at H
         obtain ⟨rfl, rfl⟩ := H
         obtain ⟨hcz15_0, hcz15_1, hcz15_2, hfz15_0, hfz15_1, hfz15_2⟩ := bcs3 BK162.out
         try go_wp2_with (first | ((with_reducible refine gate_callee (f := 77) rfl ?_); refine goesL_ (some 27) rfl rfl Try.func77 zq32 rfl #[.agg #[.int .i64 a0_0, .slice A0_1 l0_1.length c0_1, .slice A0_2 l0_2.length c0_2], .slice (some ad163) l1.length c1, .int .i64 x9_1, .int .i64 a2, .int .u8 1] rfl zq3 ?_; (with_reducible refine (culletref07_how.calls k1 a0_0 _ _ l0_1 _ _ l0_2 _ _ l1 x9_1 a2 1 t164 _ ?side1 ?side2 ?side3 ?side4 ?side5 ?side6 A11.out).mono ?_); (case side1 => exact zq4); (case side2 => exact HC0_1.out); (case side3 => exact zq5); (case side4 => exact HC0_2.out); (case side5 => exact zq12); (case side6 => exact HC1.out); rintro e w16 ⟨rfl, hb⟩; refine ⟨_, rfl, ?_⟩; have n_ := as2 (blk_below (zq0 BK162.out) hb) (below_step zq33 hb); clear BK162 HB; obtain ⟨BK162, HB⟩ := n_; (try clear hb); (try clear hb2); (try clear hk); (try clear hi)))
         have n0_ := Aside0.mk (blk_drew BK162.out)
         have n1_ := Aside0.mk (below_drew1 HB.out)
         clear BK162
         clear HB
         have BK162 := n0_
         have HB := n1_
         clear n0_ n1_
         have p166 : 0 ≤ (x9_1 : Int) := of_decide_eq_true zq6
         have q166 : x9_1 < (l0_1.length : Int) := of_decide_eq_true zq6
         obtain ⟨ad166, e166, hx166_0, hx166_1⟩ := at_T58 HR0_1.out x9_1 p166 q166
         have hw166_1 := hx166_1
         have hw166_0 := hx166_0
         cases e166
         replace hx166_0 := hcx HB.out hx166_0
         replace hx166_1 := hcx HB.out hx166_1
         replace p166 := eq_true p166
         replace q166 := eq_true q166
         refine start_ (n := 14) (S := fun w' => w'.cell? ⟨gb162, 0, none⟩ = some (.int .i64 a0_0) ∧ w'.cell? ⟨gb162, 1, none⟩ = some (.slice (some ad166) l0_1.length c0_1) ∧ w'.cell? ⟨gb162, 2, none⟩ = some (.slice A0_2 l0_2.length c0_2) ∧ w'.cell? (ad166.add ((x9_1).toNat * 2)) = some (.string ((rd_T58 l0_1 x9_1).f0)) ∧ w'.cell? ⟨(ad166.add ((x9_1).toNat * 2)).block, (ad166.add ((x9_1).toNat * 2)).off + 1, none⟩ = some (.int .i64 ((rd_T58 l0_1 x9_1).f1))) (ds := []) #[false, false, false, false, false, false, false, false, false, false, false, false, false, false] zq32 rfl rfl ⟨(blk_cell BK162.out 0).trans rfl, (blk_cell BK162.out 1).trans rfl, (blk_cell BK162.out 2).trans rfl, ((HB.out.cell (World.block_lt_of_cell? w _ hw166_0)).trans hw166_0), ((HB.out.cell (World.block_lt_of_cell? w _ hw166_1)).trans hw166_1)⟩ (fun hHeld => ?_); refine with_tabW culletref07_judge.tab8 culletref07_judge.bits8 (fun HT_ HW_ => ?_)
         generalize w16.drew = w17 at BK162 HB hx166_0 hx166_1 hHeld ⊢
         refine pure_ (i := 0) (N := some 28) (v := ?_) (a' := ?_) #[true, false, false, false, false, false, false, false, false, false, false, false, false, false] rfl rfl (any_of HT_.out zq32) (fun _ _ _ h => h) (Or.inl ⟨zq58, ?_⟩) ?_ ?_
         rotate_left
         exact zpw
         rotate_left
         exact zpa
         refine pure_ (i := 2) (N := some 30) (v := ?_) (a' := ?_) #[true, false, true, false, false, false, false, false, false, false, false, false, false, false] rfl rfl (any_of HT_.out zq32) (fun _ _ _ h => h) (Or.inl ⟨zq58, ?_⟩) ?_ ?_
         rotate_left
         exact zpw
         rotate_left
         exact zpa
         refine pure_ (i := 3) (N := some 31) (v := ?_) (a' := ?_) #[true, false, true, true, false, false, false, false, false, false, false, false, false, false] rfl rfl (any_of HT_.out zq32) (fun _ _ _ h => h) (Or.inl ⟨zq58, ?_⟩) ?_ ?_
         rotate_left
         exact zpw
         rotate_left
         exact zpa
         refine pure_ (i := 4) (N := some 32) (v := ?_) (a' := ?_) #[true, false, true, true, true, false, false, false, false, false, false, false, false, false] rfl rfl (any_of HT_.out zq32) (fun _ _ _ h => h) (Or.inl ⟨zq58, ?_⟩) ?_ ?_
         rotate_left
         exact zpw
         rotate_left
         exact zpa
         refine pure_ (i := 7) (N := some 35) (v := ?_) (a' := ?_) #[true, false, true, true, true, false, false, true, false, false, false, false, false, false] rfl rfl (any_of HT_.out zq32) (fun _ _ _ h => h) (Or.inl ⟨zq58, ?_⟩) ?_ ?_
         rotate_left
         exact zpw
         rotate_left
         exact zpa
         refine pure_ (i := 9) (N := some 37) (v := ?_) (a' := ?_) #[true, false, true, true, true, false, false, true, false, true, false, false, false, false] rfl rfl (any_of HT_.out zq32) (fun _ _ _ h => h) (Or.inl ⟨zq58, ?_⟩) ?_ ?_
         rotate_left
         exact zpw
         rotate_left
         exact zpa
         refine take_ (i := 1) (N := some 29) (v := ?_) (a' := ?_) #[true, true, true, true, true, false, false, true, false, true, false, false, false, false] rfl rfl (take_ofW HT_.out HW_.out zq32) (fun _ _ _ h => h) (Or.inl ⟨zq58, ?_⟩) hHeld ?_ ?_
         rotate_left
         ·rintro w' ⟨s0, s1, s2, s3, s4⟩
          go_simp
          with_reducible rfl
         rotate_left
         exact zpa
         refine take_ (i := 8) (N := some 36) (v := ?_) (a' := ?_) #[true, true, true, true, true, false, false, true, true, true, false, false, false, false] rfl rfl (take_ofW HT_.out HW_.out zq32) (fun _ _ _ h => h) (Or.inl ⟨zq58, ?_⟩) hHeld ?_ ?_
         rotate_left
         ·rintro w' ⟨s0, s1, s2, s3, s4⟩
          go_simp
          with_reducible rfl
         rotate_left
         exact zpa
         refine pure_ (i := 10) (N := some 38) (v := ?_) (a' := ?_) #[true, true, true, true, true, false, false, true, true, true, true, false, false, false] rfl rfl (any_of HT_.out zq32) (fun _ _ _ h => h) (Or.inl ⟨zq58, ?_⟩) ?_ ?_
         rotate_left
         exact zpw
         rotate_left
         exact zpa
         refine pure_ (i := 11) (N := some 39) (v := ?_) (a' := ?_) #[true, true, true, true, true, false, false, true, true, true, true, true, false, false] rfl rfl (any_of HT_.out zq32) (fun _ _ _ h => h) (Or.inl ⟨zq58, ?_⟩) ?_ ?_
         rotate_left
         exact zpw
         rotate_left
         exact zpa
         refine take_ (i := 12) (N := some 40) (v := ?_) (a' := ?_) #[true, true, true, true, true, false, false, true, true, true, true, true, true, false] rfl rfl (take_ofW HT_.out HW_.out zq32) (fun _ _ _ h => h) (Or.inl ⟨zq58, ?_⟩) hHeld ?_ ?_
         rotate_left
         ·rintro w' ⟨s0, s1, s2, s3, s4⟩
          go_simp
          with_reducible rfl
         rotate_left
         exact zpa
         refine one_ (i := 5) (N := some 33) #[true, true, true, true, true, true, false, true, true, true, true, true, true, false] rfl rfl (one_of HT_.out zq32) zq53 (fun K hK => ?_)
         refine goes_ Try.func77 zq32 rfl #[.agg #[.int .i64 a0_0, .slice (some ad166) l0_1.length c0_1, .slice A0_2 l0_2.length c0_2], .slice (some ad163) l1.length c1, .int .i64 x9_1, .int .i64 a2, .int .u8 0] zq58 rfl rfl zq3 ?_
         with_reducible refine (culletref07_how.calls k1 a0_0 _ _ l0_1 _ _ l0_2 _ _ l1 x9_1 a2 0 t165 _ ?side1 ?side2 ?side3 ?side4 ?side5 ?side6 A12.out).mono ?_
         (case side1 => exact zq4)
         (case side2 => exact HC0_1.out)
         (case side3 => exact zq5)
         (case side4 => exact HC0_2.out)
         (case side5 => exact zq12)
         (case side6 => exact HC1.out)
         rintro e w18 ⟨rfl, hb⟩
         refine ⟨_, rfl, ?_⟩
         have n0_ := Aside0.mk (blk_below (zq0 BK162.out) hb)
         have n1_ := Aside0.mk (below_step zq33 hb)
         clear BK162
         clear HB
         have BK162 := n0_
         have HB := n1_
         clear n0_ n1_
         (try clear hb)
         (try clear hb2)
         (try clear hk)
         (try clear hi)
         refine hK.out _ _ ⟨(blk_cell BK162.out 0).trans rfl, (blk_cell BK162.out 1).trans rfl, (blk_cell BK162.out 2).trans rfl, ((HB.out.cell (World.block_lt_of_cell? w _ hw166_0)).trans hw166_0), ((HB.out.cell (World.block_lt_of_cell? w _ hw166_1)).trans hw166_1)⟩ (fun hHeld => ?_)
         clear hK K
         refine norm_ (a' := ?_) ?_ ?_
         rotate_left
         ·show Act.put _ (some 33) _ = _
          simp only [Act.put, List.setIfInBounds_toArray, List.set_cons_zero, List.set_cons_succ, i64_w, i32_w]
          rfl
         refine pure_ (i := 6) (N := some 34) (v := ?_) (a' := ?_) #[true, true, true, true, true, true, true, true, true, true, true, true, true, false] rfl rfl (any_of HT_.out zq32) (fun _ _ _ h => h) (Or.inl ⟨zq58, ?_⟩) ?_ ?_
         rotate_left
         exact zpw
         rotate_left
         exact zpa
         refine pure_ (i := 13) (N := some 41) (v := ?_) (a' := ?_) #[true, true, true, true, true, true, true, true, true, true, true, true, true, true] rfl rfl (any_of HT_.out zq32) (fun _ _ _ h => h) (Or.inl ⟨zq58, ?_⟩) ?_ ?_
         rotate_left
         exact zpw
         rotate_left
         exact zpa
         refine done_ (done_of HT_.out zq32) ?_
         try go_wp2
         go_ret2
         exact ⟨zq7, zq33⟩
        ·rw [if_neg c14] at H
         have c14b0 : decide ((wrap64 (t164 + t165)) < ((rd_T58 l0_1 x9_1).f1)) = false := decide_eq_false c14
         clear c14
         by_cases c19 : t164 < ((rd_T58 l0_1 x9_1).f1)
         ·rw [if_pos c19] at H
          have c19b0 : decide (t164 < ((rd_T58 l0_1 x9_1).f1)) = true := decide_eq_true c19
          clear c19
          by_cases c20 : x8_1 < 0
          ·rw [if_pos c20] at H
           have c20b0 : decide (x8_1 < 0) = true := decide_eq_true c20
           clear c20
           have H' := Aside0.mk H
           clear H
           obtain ⟨hcz21_0, hcz21_1, hcz21_2, hfz21_0, hfz21_1, hfz21_2⟩ := bcs3 BK162.out
           try go_wp2_with (first | ((with_reducible refine gate_callee (f := 77) rfl ?_); refine goesL_ (some 27) rfl rfl Try.func77 zq32 rfl #[.agg #[.int .i64 a0_0, .slice A0_1 l0_1.length c0_1, .slice A0_2 l0_2.length c0_2], .slice (some ad163) l1.length c1, .int .i64 x9_1, .int .i64 a2, .int .u8 1] rfl zq3 ?_; (with_reducible refine (culletref07_how.calls k1 a0_0 _ _ l0_1 _ _ l0_2 _ _ l1 x9_1 a2 1 t164 _ ?side1 ?side2 ?side3 ?side4 ?side5 ?side6 A11.out).mono ?_); (case side1 => exact zq4); (case side2 => exact HC0_1.out); (case side3 => exact zq5); (case side4 => exact HC0_2.out); (case side5 => exact zq12); (case side6 => exact HC1.out); rintro e w22 ⟨rfl, hb⟩; refine ⟨_, rfl, ?_⟩; have n_ := as2 (blk_below (zq0 BK162.out) hb) (below_step zq33 hb); clear BK162 HB; obtain ⟨BK162, HB⟩ := n_; (try clear hb); (try clear hb2); (try clear hk); (try clear hi)))
           have n0_ := Aside0.mk (blk_drew BK162.out)
           have n1_ := Aside0.mk (below_drew1 HB.out)
           clear BK162
           clear HB
           have BK162 := n0_
           have HB := n1_
           clear n0_ n1_
           have p166 : 0 ≤ (x9_1 : Int) := of_decide_eq_true zq6
           have q166 : x9_1 < (l0_1.length : Int) := of_decide_eq_true zq6
           obtain ⟨ad166, e166, hx166_0, hx166_1⟩ := at_T58 HR0_1.out x9_1 p166 q166
           have hw166_1 := hx166_1
           have hw166_0 := hx166_0
           cases e166
           replace hx166_0 := hcx HB.out hx166_0
           replace hx166_1 := hcx HB.out hx166_1
           replace p166 := eq_true p166
           replace q166 := eq_true q166
           refine start_ (n := 14) (S := fun w' => w'.cell? ⟨gb162, 0, none⟩ = some (.int .i64 a0_0) ∧ w'.cell? ⟨gb162, 1, none⟩ = some (.slice (some ad166) l0_1.length c0_1) ∧ w'.cell? ⟨gb162, 2, none⟩ = some (.slice A0_2 l0_2.length c0_2) ∧ w'.cell? (ad166.add ((x9_1).toNat * 2)) = some (.string ((rd_T58 l0_1 x9_1).f0)) ∧ w'.cell? ⟨(ad166.add ((x9_1).toNat * 2)).block, (ad166.add ((x9_1).toNat * 2)).off + 1, none⟩ = some (.int .i64 ((rd_T58 l0_1 x9_1).f1))) (ds := []) #[false, false, false, false, false, false, false, false, false, false, false, false, false, false] zq32 rfl rfl ⟨(blk_cell BK162.out 0).trans rfl, (blk_cell BK162.out 1).trans rfl, (blk_cell BK162.out 2).trans rfl, ((HB.out.cell (World.block_lt_of_cell? w _ hw166_0)).trans hw166_0), ((HB.out.cell (World.block_lt_of_cell? w _ hw166_1)).trans hw166_1)⟩ (fun hHeld => ?_); refine with_tabW culletref07_judge.tab8 culletref07_judge.bits8 (fun HT_ HW_ => ?_)
           generalize w22.drew = w23 at BK162 HB hx166_0 hx166_1 hHeld ⊢
           refine pure_ (i := 0) (N := some 28) (v := ?_) (a' := ?_) #[true, false, false, false, false, false, false, false, false, false, false, false, false, false] rfl rfl (any_of HT_.out zq32) (fun _ _ _ h => h) (Or.inl ⟨zq58, ?_⟩) ?_ ?_
           rotate_left
           exact zpw
           rotate_left
           exact zpa
           refine pure_ (i := 2) (N := some 30) (v := ?_) (a' := ?_) #[true, false, true, false, false, false, false, false, false, false, false, false, false, false] rfl rfl (any_of HT_.out zq32) (fun _ _ _ h => h) (Or.inl ⟨zq58, ?_⟩) ?_ ?_
           rotate_left
           exact zpw
           rotate_left
           exact zpa
           refine pure_ (i := 3) (N := some 31) (v := ?_) (a' := ?_) #[true, false, true, true, false, false, false, false, false, false, false, false, false, false] rfl rfl (any_of HT_.out zq32) (fun _ _ _ h => h) (Or.inl ⟨zq58, ?_⟩) ?_ ?_
           rotate_left
           exact zpw
           rotate_left
           exact zpa
           refine pure_ (i := 4) (N := some 32) (v := ?_) (a' := ?_) #[true, false, true, true, true, false, false, false, false, false, false, false, false, false] rfl rfl (any_of HT_.out zq32) (fun _ _ _ h => h) (Or.inl ⟨zq58, ?_⟩) ?_ ?_
           rotate_left
           exact zpw
           rotate_left
           exact zpa
           refine pure_ (i := 7) (N := some 35) (v := ?_) (a' := ?_) #[true, false, true, true, true, false, false, true, false, false, false, false, false, false] rfl rfl (any_of HT_.out zq32) (fun _ _ _ h => h) (Or.inl ⟨zq58, ?_⟩) ?_ ?_
           rotate_left
           exact zpw
           rotate_left
           exact zpa
           refine pure_ (i := 9) (N := some 37) (v := ?_) (a' := ?_) #[true, false, true, true, true, false, false, true, false, true, false, false, false, false] rfl rfl (any_of HT_.out zq32) (fun _ _ _ h => h) (Or.inl ⟨zq58, ?_⟩) ?_ ?_
           rotate_left
           exact zpw
           rotate_left
           exact zpa
           refine take_ (i := 1) (N := some 29) (v := ?_) (a' := ?_) #[true, true, true, true, true, false, false, true, false, true, false, false, false, false] rfl rfl (take_ofW HT_.out HW_.out zq32) (fun _ _ _ h => h) (Or.inl ⟨zq58, ?_⟩) hHeld ?_ ?_
           rotate_left
           ·rintro w' ⟨s0, s1, s2, s3, s4⟩
            go_simp
            with_reducible rfl
           rotate_left
           exact zpa
           refine take_ (i := 8) (N := some 36) (v := ?_) (a' := ?_) #[true, true, true, true, true, false, false, true, true, true, false, false, false, false] rfl rfl (take_ofW HT_.out HW_.out zq32) (fun _ _ _ h => h) (Or.inl ⟨zq58, ?_⟩) hHeld ?_ ?_
           rotate_left
           ·rintro w' ⟨s0, s1, s2, s3, s4⟩
            go_simp
            with_reducible rfl
           rotate_left
           exact zpa
           refine pure_ (i := 10) (N := some 38) (v := ?_) (a' := ?_) #[true, true, true, true, true, false, false, true, true, true, true, false, false, false] rfl rfl (any_of HT_.out zq32) (fun _ _ _ h => h) (Or.inl ⟨zq58, ?_⟩) ?_ ?_
           rotate_left
           exact zpw
           rotate_left
           exact zpa
           refine pure_ (i := 11) (N := some 39) (v := ?_) (a' := ?_) #[true, true, true, true, true, false, false, true, true, true, true, true, false, false] rfl rfl (any_of HT_.out zq32) (fun _ _ _ h => h) (Or.inl ⟨zq58, ?_⟩) ?_ ?_
           rotate_left
           exact zpw
           rotate_left
           exact zpa
           refine take_ (i := 12) (N := some 40) (v := ?_) (a' := ?_) #[true, true, true, true, true, false, false, true, true, true, true, true, true, false] rfl rfl (take_ofW HT_.out HW_.out zq32) (fun _ _ _ h => h) (Or.inl ⟨zq58, ?_⟩) hHeld ?_ ?_
           rotate_left
           ·rintro w' ⟨s0, s1, s2, s3, s4⟩
            go_simp
            with_reducible rfl
           rotate_left
           exact zpa
           refine one_ (i := 5) (N := some 33) #[true, true, true, true, true, true, false, true, true, true, true, true, true, false] rfl rfl (one_of HT_.out zq32) zq53 (fun K hK => ?_)
           refine goes_ Try.func77 zq32 rfl #[.agg #[.int .i64 a0_0, .slice (some ad166) l0_1.length c0_1, .slice A0_2 l0_2.length c0_2], .slice (some ad163) l1.length c1, .int .i64 x9_1, .int .i64 a2, .int .u8 0] zq58 rfl rfl zq3 ?_
           with_reducible refine (culletref07_how.calls k1 a0_0 _ _ l0_1 _ _ l0_2 _ _ l1 x9_1 a2 0 t165 _ ?side1 ?side2 ?side3 ?side4 ?side5 ?side6 A12.out).mono ?_
           (case side1 => exact zq4)
           (case side2 => exact HC0_1.out)
           (case side3 => exact zq5)
           (case side4 => exact HC0_2.out)
           (case side5 => exact zq12)
           (case side6 => exact HC1.out)
           rintro e w24 ⟨rfl, hb⟩
           refine ⟨_, rfl, ?_⟩
           have n0_ := Aside0.mk (blk_below (zq0 BK162.out) hb)
           have n1_ := Aside0.mk (below_step zq33 hb)
           clear BK162
           clear HB
           have BK162 := n0_
           have HB := n1_
           clear n0_ n1_
           (try clear hb)
           (try clear hb2)
           (try clear hk)
           (try clear hi)
           refine hK.out _ _ ⟨(blk_cell BK162.out 0).trans rfl, (blk_cell BK162.out 1).trans rfl, (blk_cell BK162.out 2).trans rfl, ((HB.out.cell (World.block_lt_of_cell? w _ hw166_0)).trans hw166_0), ((HB.out.cell (World.block_lt_of_cell? w _ hw166_1)).trans hw166_1)⟩ (fun hHeld => ?_)
           clear hK K
           refine norm_ (a' := ?_) ?_ ?_
           rotate_left
           ·show Act.put _ (some 33) _ = _
            simp only [Act.put, List.setIfInBounds_toArray, List.set_cons_zero, List.set_cons_succ, i64_w, i32_w]
            rfl
           refine pure_ (i := 6) (N := some 34) (v := ?_) (a' := ?_) #[true, true, true, true, true, true, true, true, true, true, true, true, true, false] rfl rfl (any_of HT_.out zq32) (fun _ _ _ h => h) (Or.inl ⟨zq58, ?_⟩) ?_ ?_
           rotate_left
           exact zpw
           rotate_left
           exact zpa
           refine pure_ (i := 13) (N := some 41) (v := ?_) (a' := ?_) #[true, true, true, true, true, true, true, true, true, true, true, true, true, true] rfl rfl (any_of HT_.out zq32) (fun _ _ _ h => h) (Or.inl ⟨zq58, ?_⟩) ?_ ?_
           rotate_left
           exact zpw
           rotate_left
           exact zpa
           refine done_ (done_of HT_.out zq32) ?_
           obtain ⟨hcz25_0, hcz25_1, hcz25_2, hfz25_0, hfz25_1, hfz25_2⟩ := bcs3 BK162.out
           have p167 : 0 ≤ (x9_1 : Int) := of_decide_eq_true zq6
           have q167 : x9_1 < (l0_1.length : Int) := of_decide_eq_true zq6
           obtain ⟨ad167, e167, hx167_0, hx167_1⟩ := at_T58 HR0_1.out x9_1 p167 q167
           obtain rfl : ad166 = ad167 := (by injection e167)
           replace hx167_0 := hcx HB.out hx167_0
           replace hx167_1 := hcx HB.out hx167_1
           replace p167 := eq_true p167
           replace q167 := eq_true q167
           try go_wp2
           go_roundg k1
           case measure => have := HK1.out; omega
           case rel => exact ⟨(x9_1), (wrap64 (x9_1 + 1)), zq8, zq8, H', ⟨zq86⟩, ⟨(zq0 BK162.out)⟩, ⟨zq33⟩⟩
          ·rw [if_neg c20] at H
           have c20b0 : decide (x8_1 < 0) = false := decide_eq_false c20
           clear c20
           have H' := Aside0.mk H
           clear H
           obtain ⟨hcz26_0, hcz26_1, hcz26_2, hfz26_0, hfz26_1, hfz26_2⟩ := bcs3 BK162.out
           try go_wp2_with (first | ((with_reducible refine gate_callee (f := 77) rfl ?_); refine goesL_ (some 27) rfl rfl Try.func77 zq32 rfl #[.agg #[.int .i64 a0_0, .slice A0_1 l0_1.length c0_1, .slice A0_2 l0_2.length c0_2], .slice (some ad163) l1.length c1, .int .i64 x9_1, .int .i64 a2, .int .u8 1] rfl zq3 ?_; (with_reducible refine (culletref07_how.calls k1 a0_0 _ _ l0_1 _ _ l0_2 _ _ l1 x9_1 a2 1 t164 _ ?side1 ?side2 ?side3 ?side4 ?side5 ?side6 A11.out).mono ?_); (case side1 => exact zq4); (case side2 => exact HC0_1.out); (case side3 => exact zq5); (case side4 => exact HC0_2.out); (case side5 => exact zq12); (case side6 => exact HC1.out); rintro e w27 ⟨rfl, hb⟩; refine ⟨_, rfl, ?_⟩; have n_ := as2 (blk_below (zq0 BK162.out) hb) (below_step zq33 hb); clear BK162 HB; obtain ⟨BK162, HB⟩ := n_; (try clear hb); (try clear hb2); (try clear hk); (try clear hi)))
           have n0_ := Aside0.mk (blk_drew BK162.out)
           have n1_ := Aside0.mk (below_drew1 HB.out)
           clear BK162
           clear HB
           have BK162 := n0_
           have HB := n1_
           clear n0_ n1_
           have p166 : 0 ≤ (x9_1 : Int) := of_decide_eq_true zq6
           have q166 : x9_1 < (l0_1.length : Int) := of_decide_eq_true zq6
           obtain ⟨ad166, e166, hx166_0, hx166_1⟩ := at_T58 HR0_1.out x9_1 p166 q166
           have hw166_1 := hx166_1
           have hw166_0 := hx166_0
           cases e166
           replace hx166_0 := hcx HB.out hx166_0
           replace hx166_1 := hcx HB.out hx166_1
           replace p166 := eq_true p166
           replace q166 := eq_true q166
           refine start_ (n := 14) (S := fun w' => w'.cell? ⟨gb162, 0, none⟩ = some (.int .i64 a0_0) ∧ w'.cell? ⟨gb162, 1, none⟩ = some (.slice (some ad166) l0_1.length c0_1) ∧ w'.cell? ⟨gb162, 2, none⟩ = some (.slice A0_2 l0_2.length c0_2) ∧ w'.cell? (ad166.add ((x9_1).toNat * 2)) = some (.string ((rd_T58 l0_1 x9_1).f0)) ∧ w'.cell? ⟨(ad166.add ((x9_1).toNat * 2)).block, (ad166.add ((x9_1).toNat * 2)).off + 1, none⟩ = some (.int .i64 ((rd_T58 l0_1 x9_1).f1))) (ds := []) #[false, false, false, false, false, false, false, false, false, false, false, false, false, false] zq32 rfl rfl ⟨(blk_cell BK162.out 0).trans rfl, (blk_cell BK162.out 1).trans rfl, (blk_cell BK162.out 2).trans rfl, ((HB.out.cell (World.block_lt_of_cell? w _ hw166_0)).trans hw166_0), ((HB.out.cell (World.block_lt_of_cell? w _ hw166_1)).trans hw166_1)⟩ (fun hHeld => ?_); refine with_tabW culletref07_judge.tab8 culletref07_judge.bits8 (fun HT_ HW_ => ?_)
           generalize w27.drew = w28 at BK162 HB hx166_0 hx166_1 hHeld ⊢
           refine pure_ (i := 0) (N := some 28) (v := ?_) (a' := ?_) #[true, false, false, false, false, false, false, false, false, false, false, false, false, false] rfl rfl (any_of HT_.out zq32) (fun _ _ _ h => h) (Or.inl ⟨zq58, ?_⟩) ?_ ?_
           rotate_left
           exact zpw
           rotate_left
           exact zpa
           refine pure_ (i := 2) (N := some 30) (v := ?_) (a' := ?_) #[true, false, true, false, false, false, false, false, false, false, false, false, false, false] rfl rfl (any_of HT_.out zq32) (fun _ _ _ h => h) (Or.inl ⟨zq58, ?_⟩) ?_ ?_
           rotate_left
           exact zpw
           rotate_left
           exact zpa
           refine pure_ (i := 3) (N := some 31) (v := ?_) (a' := ?_) #[true, false, true, true, false, false, false, false, false, false, false, false, false, false] rfl rfl (any_of HT_.out zq32) (fun _ _ _ h => h) (Or.inl ⟨zq58, ?_⟩) ?_ ?_
           rotate_left
           exact zpw
           rotate_left
           exact zpa
           refine pure_ (i := 4) (N := some 32) (v := ?_) (a' := ?_) #[true, false, true, true, true, false, false, false, false, false, false, false, false, false] rfl rfl (any_of HT_.out zq32) (fun _ _ _ h => h) (Or.inl ⟨zq58, ?_⟩) ?_ ?_
           rotate_left
           exact zpw
           rotate_left
           exact zpa
           refine pure_ (i := 7) (N := some 35) (v := ?_) (a' := ?_) #[true, false, true, true, true, false, false, true, false, false, false, false, false, false] rfl rfl (any_of HT_.out zq32) (fun _ _ _ h => h) (Or.inl ⟨zq58, ?_⟩) ?_ ?_
           rotate_left
           exact zpw
           rotate_left
           exact zpa
           refine pure_ (i := 9) (N := some 37) (v := ?_) (a' := ?_) #[true, false, true, true, true, false, false, true, false, true, false, false, false, false] rfl rfl (any_of HT_.out zq32) (fun _ _ _ h => h) (Or.inl ⟨zq58, ?_⟩) ?_ ?_
           rotate_left
           exact zpw
           rotate_left
           exact zpa
           refine take_ (i := 1) (N := some 29) (v := ?_) (a' := ?_) #[true, true, true, true, true, false, false, true, false, true, false, false, false, false] rfl rfl (take_ofW HT_.out HW_.out zq32) (fun _ _ _ h => h) (Or.inl ⟨zq58, ?_⟩) hHeld ?_ ?_
           rotate_left
           ·rintro w' ⟨s0, s1, s2, s3, s4⟩
            go_simp
            with_reducible rfl
           rotate_left
           exact zpa
           refine take_ (i := 8) (N := some 36) (v := ?_) (a' := ?_) #[true, true, true, true, true, false, false, true, true, true, false, false, false, false] rfl rfl (take_ofW HT_.out HW_.out zq32) (fun _ _ _ h => h) (Or.inl ⟨zq58, ?_⟩) hHeld ?_ ?_
           rotate_left
           ·rintro w' ⟨s0, s1, s2, s3, s4⟩
            go_simp
            with_reducible rfl
           rotate_left
           exact zpa
           refine pure_ (i := 10) (N := some 38) (v := ?_) (a' := ?_) #[true, true, true, true, true, false, false, true, true, true, true, false, false, false] rfl rfl (any_of HT_.out zq32) (fun _ _ _ h => h) (Or.inl ⟨zq58, ?_⟩) ?_ ?_
           rotate_left
           exact zpw
           rotate_left
           exact zpa
           refine pure_ (i := 11) (N := some 39) (v := ?_) (a' := ?_) #[true, true, true, true, true, false, false, true, true, true, true, true, false, false] rfl rfl (any_of HT_.out zq32) (fun _ _ _ h => h) (Or.inl ⟨zq58, ?_⟩) ?_ ?_
           rotate_left
           exact zpw
           rotate_left
           exact zpa
           refine take_ (i := 12) (N := some 40) (v := ?_) (a' := ?_) #[true, true, true, true, true, false, false, true, true, true, true, true, true, false] rfl rfl (take_ofW HT_.out HW_.out zq32) (fun _ _ _ h => h) (Or.inl ⟨zq58, ?_⟩) hHeld ?_ ?_
           rotate_left
           ·rintro w' ⟨s0, s1, s2, s3, s4⟩
            go_simp
            with_reducible rfl
           rotate_left
           exact zpa
           refine one_ (i := 5) (N := some 33) #[true, true, true, true, true, true, false, true, true, true, true, true, true, false] rfl rfl (one_of HT_.out zq32) zq53 (fun K hK => ?_)
           refine goes_ Try.func77 zq32 rfl #[.agg #[.int .i64 a0_0, .slice (some ad166) l0_1.length c0_1, .slice A0_2 l0_2.length c0_2], .slice (some ad163) l1.length c1, .int .i64 x9_1, .int .i64 a2, .int .u8 0] zq58 rfl rfl zq3 ?_
           with_reducible refine (culletref07_how.calls k1 a0_0 _ _ l0_1 _ _ l0_2 _ _ l1 x9_1 a2 0 t165 _ ?side1 ?side2 ?side3 ?side4 ?side5 ?side6 A12.out).mono ?_
           (case side1 => exact zq4)
           (case side2 => exact HC0_1.out)
           (case side3 => exact zq5)
           (case side4 => exact HC0_2.out)
           (case side5 => exact zq12)
           (case side6 => exact HC1.out)
           rintro e w29 ⟨rfl, hb⟩
           refine ⟨_, rfl, ?_⟩
           have n0_ := Aside0.mk (blk_below (zq0 BK162.out) hb)
           have n1_ := Aside0.mk (below_step zq33 hb)
           clear BK162
           clear HB
           have BK162 := n0_
           have HB := n1_
           clear n0_ n1_
           (try clear hb)
           (try clear hb2)
           (try clear hk)
           (try clear hi)
           refine hK.out _ _ ⟨(blk_cell BK162.out 0).trans rfl, (blk_cell BK162.out 1).trans rfl, (blk_cell BK162.out 2).trans rfl, ((HB.out.cell (World.block_lt_of_cell? w _ hw166_0)).trans hw166_0), ((HB.out.cell (World.block_lt_of_cell? w _ hw166_1)).trans hw166_1)⟩ (fun hHeld => ?_)
           clear hK K
           refine norm_ (a' := ?_) ?_ ?_
           rotate_left
           ·show Act.put _ (some 33) _ = _
            simp only [Act.put, List.setIfInBounds_toArray, List.set_cons_zero, List.set_cons_succ, i64_w, i32_w]
            rfl
           refine pure_ (i := 6) (N := some 34) (v := ?_) (a' := ?_) #[true, true, true, true, true, true, true, true, true, true, true, true, true, false] rfl rfl (any_of HT_.out zq32) (fun _ _ _ h => h) (Or.inl ⟨zq58, ?_⟩) ?_ ?_
           rotate_left
           exact zpw
           rotate_left
           exact zpa
           refine pure_ (i := 13) (N := some 41) (v := ?_) (a' := ?_) #[true, true, true, true, true, true, true, true, true, true, true, true, true, true] rfl rfl (any_of HT_.out zq32) (fun _ _ _ h => h) (Or.inl ⟨zq58, ?_⟩) ?_ ?_
           rotate_left
           exact zpw
           rotate_left
           exact zpa
           refine done_ (done_of HT_.out zq32) ?_
           obtain ⟨hcz30_0, hcz30_1, hcz30_2, hfz30_0, hfz30_1, hfz30_2⟩ := bcs3 BK162.out
           have p167 : 0 ≤ (x9_1 : Int) := of_decide_eq_true zq6
           have q167 : x9_1 < (l0_1.length : Int) := of_decide_eq_true zq6
           obtain ⟨ad167, e167, hx167_0, hx167_1⟩ := at_T58 HR0_1.out x9_1 p167 q167
           obtain rfl : ad166 = ad167 := (by injection e167)
           replace hx167_0 := hcx HB.out hx167_0
           replace hx167_1 := hcx HB.out hx167_1
           replace p167 := eq_true p167
           replace q167 := eq_true q167
           try go_wp2
           go_roundg k1
           case measure => have := HK1.out; omega
           case rel => exact ⟨(x8_1), (wrap64 (x9_1 + 1)), zq8, zq8, H', ⟨zq86⟩, ⟨(zq0 BK162.out)⟩, ⟨zq33⟩⟩
         ·rw [if_neg c19] at H
          have c19b0 : decide (t164 < ((rd_T58 l0_1 x9_1).f1)) = false := decide_eq_false c19
          clear c19
          have H' := Aside0.mk H
          clear H
          obtain ⟨hcz31_0, hcz31_1, hcz31_2, hfz31_0, hfz31_1, hfz31_2⟩ := bcs3 BK162.out
          try go_wp2_with (first | ((with_reducible refine gate_callee (f := 77) rfl ?_); refine goesL_ (some 27) rfl rfl Try.func77 zq32 rfl #[.agg #[.int .i64 a0_0, .slice A0_1 l0_1.length c0_1, .slice A0_2 l0_2.length c0_2], .slice (some ad163) l1.length c1, .int .i64 x9_1, .int .i64 a2, .int .u8 1] rfl zq3 ?_; (with_reducible refine (culletref07_how.calls k1 a0_0 _ _ l0_1 _ _ l0_2 _ _ l1 x9_1 a2 1 t164 _ ?side1 ?side2 ?side3 ?side4 ?side5 ?side6 A11.out).mono ?_); (case side1 => exact zq4); (case side2 => exact HC0_1.out); (case side3 => exact zq5); (case side4 => exact HC0_2.out); (case side5 => exact zq12); (case side6 => exact HC1.out); rintro e w32 ⟨rfl, hb⟩; refine ⟨_, rfl, ?_⟩; have n_ := as2 (blk_below (zq0 BK162.out) hb) (below_step zq33 hb); clear BK162 HB; obtain ⟨BK162, HB⟩ := n_; (try clear hb); (try clear hb2); (try clear hk); (try clear hi)))
          have n0_ := Aside0.mk (blk_drew BK162.out)
          have n1_ := Aside0.mk (below_drew1 HB.out)
          clear BK162
          clear HB
          have BK162 := n0_
          have HB := n1_
          clear n0_ n1_
          have p166 : 0 ≤ (x9_1 : Int) := of_decide_eq_true zq6
          have q166 : x9_1 < (l0_1.length : Int) := of_decide_eq_true zq6
          obtain ⟨ad166, e166, hx166_0, hx166_1⟩ := at_T58 HR0_1.out x9_1 p166 q166
          have hw166_1 := hx166_1
          have hw166_0 := hx166_0
          cases e166
          replace hx166_0 := hcx HB.out hx166_0
          replace hx166_1 := hcx HB.out hx166_1
          replace p166 := eq_true p166
          replace q166 := eq_true q166
          refine start_ (n := 14) (S := fun w' => w'.cell? ⟨gb162, 0, none⟩ = some (.int .i64 a0_0) ∧ w'.cell? ⟨gb162, 1, none⟩ = some (.slice (some ad166) l0_1.length c0_1) ∧ w'.cell? ⟨gb162, 2, none⟩ = some (.slice A0_2 l0_2.length c0_2) ∧ w'.cell? (ad166.add ((x9_1).toNat * 2)) = some (.string ((rd_T58 l0_1 x9_1).f0)) ∧ w'.cell? ⟨(ad166.add ((x9_1).toNat * 2)).block, (ad166.add ((x9_1).toNat * 2)).off + 1, none⟩ = some (.int .i64 ((rd_T58 l0_1 x9_1).f1))) (ds := []) #[false, false, false, false, false, false, false, false, false, false, false, false, false, false] zq32 rfl rfl ⟨(blk_cell BK162.out 0).trans rfl, (blk_cell BK162.out 1).trans rfl, (blk_cell BK162.out 2).trans rfl, ((HB.out.cell (World.block_lt_of_cell? w _ hw166_0)).trans hw166_0), ((HB.out.cell (World.block_lt_of_cell? w _ hw166_1)).trans hw166_1)⟩ (fun hHeld => ?_); refine with_tabW culletref07_judge.tab8 culletref07_judge.bits8 (fun HT_ HW_ => ?_)
          generalize w32.drew = w33 at BK162 HB hx166_0 hx166_1 hHeld ⊢
          refine pure_ (i := 0) (N := some 28) (v := ?_) (a' := ?_) #[true, false, false, false, false, false, false, false, false, false, false, false, false, false] rfl rfl (any_of HT_.out zq32) (fun _ _ _ h => h) (Or.inl ⟨zq58, ?_⟩) ?_ ?_
          rotate_left
          exact zpw
          rotate_left
          exact zpa
          refine pure_ (i := 2) (N := some 30) (v := ?_) (a' := ?_) #[true, false, true, false, false, false, false, false, false, false, false, false, false, false] rfl rfl (any_of HT_.out zq32) (fun _ _ _ h => h) (Or.inl ⟨zq58, ?_⟩) ?_ ?_
          rotate_left
          exact zpw
          rotate_left
          exact zpa
          refine pure_ (i := 3) (N := some 31) (v := ?_) (a' := ?_) #[true, false, true, true, false, false, false, false, false, false, false, false, false, false] rfl rfl (any_of HT_.out zq32) (fun _ _ _ h => h) (Or.inl ⟨zq58, ?_⟩) ?_ ?_
          rotate_left
          exact zpw
          rotate_left
          exact zpa
          refine pure_ (i := 4) (N := some 32) (v := ?_) (a' := ?_) #[true, false, true, true, true, false, false, false, false, false, false, false, false, false] rfl rfl (any_of HT_.out zq32) (fun _ _ _ h => h) (Or.inl ⟨zq58, ?_⟩) ?_ ?_
          rotate_left
          exact zpw
          rotate_left
          exact zpa
          refine pure_ (i := 7) (N := some 35) (v := ?_) (a' := ?_) #[true, false, true, true, true, false, false, true, false, false, false, false, false, false] rfl rfl (any_of HT_.out zq32) (fun _ _ _ h => h) (Or.inl ⟨zq58, ?_⟩) ?_ ?_
          rotate_left
          exact zpw
          rotate_left
          exact zpa
          refine pure_ (i := 9) (N := some 37) (v := ?_) (a' := ?_) #[true, false, true, true, true, false, false, true, false, true, false, false, false, false] rfl rfl (any_of HT_.out zq32) (fun _ _ _ h => h) (Or.inl ⟨zq58, ?_⟩) ?_ ?_
          rotate_left
          exact zpw
          rotate_left
          exact zpa
          refine take_ (i := 1) (N := some 29) (v := ?_) (a' := ?_) #[true, true, true, true, true, false, false, true, false, true, false, false, false, false] rfl rfl (take_ofW HT_.out HW_.out zq32) (fun _ _ _ h => h) (Or.inl ⟨zq58, ?_⟩) hHeld ?_ ?_
          rotate_left
          ·rintro w' ⟨s0, s1, s2, s3, s4⟩
           go_simp
           with_reducible rfl
          rotate_left
          exact zpa
          refine take_ (i := 8) (N := some 36) (v := ?_) (a' := ?_) #[true, true, true, true, true, false, false, true, true, true, false, false, false, false] rfl rfl (take_ofW HT_.out HW_.out zq32) (fun _ _ _ h => h) (Or.inl ⟨zq58, ?_⟩) hHeld ?_ ?_
          rotate_left
          ·rintro w' ⟨s0, s1, s2, s3, s4⟩
           go_simp
           with_reducible rfl
          rotate_left
          exact zpa
          refine pure_ (i := 10) (N := some 38) (v := ?_) (a' := ?_) #[true, true, true, true, true, false, false, true, true, true, true, false, false, false] rfl rfl (any_of HT_.out zq32) (fun _ _ _ h => h) (Or.inl ⟨zq58, ?_⟩) ?_ ?_
          rotate_left
          exact zpw
          rotate_left
          exact zpa
          refine pure_ (i := 11) (N := some 39) (v := ?_) (a' := ?_) #[true, true, true, true, true, false, false, true, true, true, true, true, false, false] rfl rfl (any_of HT_.out zq32) (fun _ _ _ h => h) (Or.inl ⟨zq58, ?_⟩) ?_ ?_
          rotate_left
          exact zpw
          rotate_left
          exact zpa
          refine take_ (i := 12) (N := some 40) (v := ?_) (a' := ?_) #[true, true, true, true, true, false, false, true, true, true, true, true, true, false] rfl rfl (take_ofW HT_.out HW_.out zq32) (fun _ _ _ h => h) (Or.inl ⟨zq58, ?_⟩) hHeld ?_ ?_
          rotate_left
          ·rintro w' ⟨s0, s1, s2, s3, s4⟩
           go_simp
           with_reducible rfl
          rotate_left
          exact zpa
          refine one_ (i := 5) (N := some 33) #[true, true, true, true, true, true, false, true, true, true, true, true, true, false] rfl rfl (one_of HT_.out zq32) zq53 (fun K hK => ?_)
          refine goes_ Try.func77 zq32 rfl #[.agg #[.int .i64 a0_0, .slice (some ad166) l0_1.length c0_1, .slice A0_2 l0_2.length c0_2], .slice (some ad163) l1.length c1, .int .i64 x9_1, .int .i64 a2, .int .u8 0] zq58 rfl rfl zq3 ?_
          with_reducible refine (culletref07_how.calls k1 a0_0 _ _ l0_1 _ _ l0_2 _ _ l1 x9_1 a2 0 t165 _ ?side1 ?side2 ?side3 ?side4 ?side5 ?side6 A12.out).mono ?_
          (case side1 => exact zq4)
          (case side2 => exact HC0_1.out)
          (case side3 => exact zq5)
          (case side4 => exact HC0_2.out)
          (case side5 => exact zq12)
          (case side6 => exact HC1.out)
          rintro e w34 ⟨rfl, hb⟩
          refine ⟨_, rfl, ?_⟩
          have n0_ := Aside0.mk (blk_below (zq0 BK162.out) hb)
          have n1_ := Aside0.mk (below_step zq33 hb)
          clear BK162
          clear HB
          have BK162 := n0_
          have HB := n1_
          clear n0_ n1_
          (try clear hb)
          (try clear hb2)
          (try clear hk)
          (try clear hi)
          refine hK.out _ _ ⟨(blk_cell BK162.out 0).trans rfl, (blk_cell BK162.out 1).trans rfl, (blk_cell BK162.out 2).trans rfl, ((HB.out.cell (World.block_lt_of_cell? w _ hw166_0)).trans hw166_0), ((HB.out.cell (World.block_lt_of_cell? w _ hw166_1)).trans hw166_1)⟩ (fun hHeld => ?_)
          clear hK K
          refine norm_ (a' := ?_) ?_ ?_
          rotate_left
          ·show Act.put _ (some 33) _ = _
           simp only [Act.put, List.setIfInBounds_toArray, List.set_cons_zero, List.set_cons_succ, i64_w, i32_w]
           rfl
          refine pure_ (i := 6) (N := some 34) (v := ?_) (a' := ?_) #[true, true, true, true, true, true, true, true, true, true, true, true, true, false] rfl rfl (any_of HT_.out zq32) (fun _ _ _ h => h) (Or.inl ⟨zq58, ?_⟩) ?_ ?_
          rotate_left
          exact zpw
          rotate_left
          exact zpa
          refine pure_ (i := 13) (N := some 41) (v := ?_) (a' := ?_) #[true, true, true, true, true, true, true, true, true, true, true, true, true, true] rfl rfl (any_of HT_.out zq32) (fun _ _ _ h => h) (Or.inl ⟨zq58, ?_⟩) ?_ ?_
          rotate_left
          exact zpw
          rotate_left
          exact zpa
          refine done_ (done_of HT_.out zq32) ?_
          obtain ⟨hcz35_0, hcz35_1, hcz35_2, hfz35_0, hfz35_1, hfz35_2⟩ := bcs3 BK162.out
          have p167 : 0 ≤ (x9_1 : Int) := of_decide_eq_true zq6
          have q167 : x9_1 < (l0_1.length : Int) := of_decide_eq_true zq6
          obtain ⟨ad167, e167, hx167_0, hx167_1⟩ := at_T58 HR0_1.out x9_1 p167 q167
          obtain rfl : ad166 = ad167 := (by injection e167)
          replace hx167_0 := hcx HB.out hx167_0
          replace hx167_1 := hcx HB.out hx167_1
          replace p167 := eq_true p167
          replace q167 := eq_true q167
          try go_wp2
          go_roundg k1
          case measure => have := HK1.out; omega
          case rel => exact ⟨(x8_1), (wrap64 (x9_1 + 1)), zq8, zq8, H', ⟨zq86⟩, ⟨(zq0 BK162.out)⟩, ⟨zq33⟩⟩
       ·rw [if_neg c13] at H
        exact absurd H zq81
      ·rw [if_neg c10] at H
       have c10b0 : decide (x9_1 < (l0_1.length : Int)) = false := decide_eq_false c10
       clear c10
       by_cases c36 : x8_1 ≥ 0
       ·rw [if_pos c36] at H
        have c36b0 : decide (0 ≤ x8_1) = true := decide_eq_true c36
        clear c36
        simp only [Option.some.injEq, Prod.mk.injEq] at H
        obtain ⟨rfl, rfl⟩ := H
        obtain ⟨hcz37_0, hcz37_1, hcz37_2, hfz37_0, hfz37_1, hfz37_2⟩ := bcs3 BK162.out
        go_wp2
        go_ret2
        exact ⟨zq7, zq33⟩
       ·rw [if_neg c36] at H
        have c36b0 : decide (0 ≤ x8_1) = false := decide_eq_false c36
        clear c36
        simp only [Option.some.injEq, Prod.mk.injEq] at H
        obtain ⟨rfl, rfl⟩ := H
        obtain ⟨hcz38_0, hcz38_1, hcz38_2, hfz38_0, hfz38_1, hfz38_2⟩ := bcs3 BK162.out
        go_wp2
        go_ret2
        exact ⟨zq7, zq33⟩
  ·rw [if_neg c5] at H
   exact absurd H zq81
 ·rw [if_neg c4] at H
  exact absurd H zq81
def inspect_within.f (a0 : Int) (a1 : Int) (a2 : Int) : Option (Bool) := if a0 ≥ a1 then (some (decide (a0 ≤ a2))) else (some false)
set_option maxHeartbeats 8000000 in
set_option maxRecDepth 100000 in
theorem inspect_within.calls (a0 : Int) (a1 : Int) (a2 : Int) (r : Bool) (w : World) (h : inspect_within.f a0 a1 a2 = some r) :
  Calls Try.prog 36 #[.int .i64 a0, .int .i64 a1, .int .i64 a2] w fun e w' => e = .returned (.bool r) ∧ Drawn0 w w' := by
 have H : (if a0 ≥ a1 then (some (decide (a0 ≤ a2))) else (some false)) = some r := h
 clear h
 by_cases c4 : a0 ≥ a1
 ·rw [if_pos c4] at H
  have c4b0 : decide (a1 ≤ a0) = true := decide_eq_true c4
  clear c4
  obtain rfl := Option.some.inj H
  go_enter Try.func36, Try.ntmps36
  go_wp2
  go_ret
  exact ⟨zq8, zq34⟩
 ·rw [if_neg c4] at H
  have c4b0 : decide (a1 ≤ a0) = false := decide_eq_false c4
  clear c4
  obtain rfl := Option.some.inj H
  go_enter Try.func36, Try.ntmps36
  go_wp2
  go_ret
  exact ⟨zq8, zq34⟩
mutual
def inspect_isName.j0 : Nat → ByteArray → Bool → Option (Bool)
 | 0, _, _ => none
 | k + 1, x0, x21 => if x21 = true then (some false) else (inspect_isName.l0 k x0 (x0.size : Int) 0)
def inspect_isName.l0 : Nat → ByteArray → Int → Int → Option (Bool)
 | 0, _, _, _ => none
 | k + 1, x0, x23, x24 => if x24 < x23 then (if 0 ≤ x24 then (if x24 < (x0.size : Int) then (if (bt x0 x24) ≥ 97 then (if (bt x0 x24) ≤ 122 then (inspect_isName.l0 k x0 x23 (wrap64 (x24 + 1))) else (if (bt x0 x24) ≥ 48 then (if (bt x0 x24) ≤ 57 then (inspect_isName.l0 k x0 x23 (wrap64 (x24 + 1))) else (if ((bt x0 x24) = 45) then (inspect_isName.l0 k x0 x23 (wrap64 (x24 + 1))) else (some false))) else (if ((bt x0 x24) = 45) then (inspect_isName.l0 k x0 x23 (wrap64 (x24 + 1))) else (some false)))) else (if (bt x0 x24) ≥ 48 then (if (bt x0 x24) ≤ 57 then (inspect_isName.l0 k x0 x23 (wrap64 (x24 + 1))) else (if ((bt x0 x24) = 45) then (inspect_isName.l0 k x0 x23 (wrap64 (x24 + 1))) else (some false))) else (if ((bt x0 x24) = 45) then (inspect_isName.l0 k x0 x23 (wrap64 (x24 + 1))) else (some false)))) else (none)) else (none)) else (some true)
end
def inspect_isName.f (k : Nat) (a0 : ByteArray) : Option (Bool) := if a0.toList = ([] : List UInt8) then (inspect_isName.j0 k a0 true) else (if (a0.size : Int) > 16 then (inspect_isName.j0 k a0 true) else (if 0 < (a0.size : Int) then (if (bt a0 0) < 97 then (inspect_isName.j0 k a0 true) else (inspect_isName.j0 k a0 (decide ((bt a0 0) > 122)))) else (none)))
set_option maxHeartbeats 8000000 in
set_option maxRecDepth 100000 in
theorem inspect_isName.calls (k : Nat) (a0 : ByteArray) (r : Bool) (w : World) (h : inspect_isName.f k a0 = some r) :
  Calls Try.prog 71 #[.string a0] w fun e w' => e = .returned (.bool r) ∧ Drawn0 w w' := by
 have H : (if a0.toList = ([] : List UInt8) then (inspect_isName.j0 k a0 true) else (if (a0.size : Int) > 16 then (inspect_isName.j0 k a0 true) else (if 0 < (a0.size : Int) then (if (bt a0 0) < 97 then (inspect_isName.j0 k a0 true) else (inspect_isName.j0 k a0 (decide ((bt a0 0) > 122)))) else (none)))) = some r := h
 clear h
 have HC2 := Aside0.mk H
 clear H
 go_enter Try.func71, Try.ntmps71
 go_upto_region 1 with (fail)
 go_cut [21] (fun v21 wc => ∃ (kq : Nat) (x21_1 : Bool), v21 = .bool x21_1 ∧ Aside0 (inspect_isName.j0 kq a0 x21_1 = some r) ∧ Aside0 (kq ≤ k) ∧ Drawn0 w wc)
 case first =>
  have H := HC2.out
  clear HC2
  by_cases c3 : a0.toList = ([] : List UInt8)
  ·rw [if_pos c3] at H
   have c3b0 : (a0.toList == ([] : List UInt8)) = true := beq_iff_eq.mpr c3
   have c3b1 : (a0.toList != ([] : List UInt8)) = false := bne_eq_false_iff_eq.mpr c3
   clear c3
   (first | rw [c3b0] | (simp only [i64_w, i32_w]; rw [c3b0]) | skip)
   have H' := Aside0.mk H
   clear H
   go_wp2
   go_meet
   case rel => exact ⟨_, (true), zq8, H', ⟨zq41⟩, zq34⟩
  ·rw [if_neg c3] at H
   have c3b0 : (a0.toList == ([] : List UInt8)) = false := beq_eq_false_iff_ne.mpr c3
   have c3b1 : (a0.toList != ([] : List UInt8)) = true := bne_iff_ne.mpr c3
   (first | rw [c3b0] | (simp only [i64_w, i32_w]; rw [c3b0]) | skip)
   by_cases c4 : (a0.size : Int) > 16
   ·rw [if_pos c4] at H
    have c4b0 : decide (16 < (a0.size : Int)) = true := decide_eq_true c4
    have c4b1 : decide (16 < a0.size) = true := decide_eq_true zq17
    clear c4
    have H' := Aside0.mk H
    clear H
    go_wp2
    go_meet
    case rel => exact ⟨_, (true), zq8, H', ⟨zq41⟩, zq34⟩
   ·rw [if_neg c4] at H
    have c4b0 : decide (16 < (a0.size : Int)) = false := decide_eq_false c4
    have c4b1 : decide (16 < a0.size) = false := decide_eq_false zq17
    clear c4
    by_cases c5 : 0 < (a0.size : Int)
    ·rw [if_pos c5] at H
     have c5b0 : decide (0 < (a0.size : Int)) = true := decide_eq_true c5
     have c5b1 : decide (0 < a0.size) = true := decide_eq_true zq17
     clear c5
     by_cases c7 : (bt a0 0) < 97
     ·rw [if_pos c7] at H
      have c7b0 : decide ((bt a0 0) < 97) = true := decide_eq_true c7
      clear c7
      have H' := Aside0.mk H
      clear H
      have p6 : 0 ≤ (0 : Int) := zq17
      have q6 : 0 < a0.size := (by have : (0 : Int) < (a0.size : Int) := of_decide_eq_true zq6; omega)
      have hx6 : ∀ h : 0 < a0.size, ((a0[0]'h).toNat : Int) = bt a0 0 := bt_at a0 0
      clear p6
      have qi6 : (0 < (a0.size : Int)) = True := eq_true (of_decide_eq_true zq6)
      replace q6 := eq_true q6
      go_wp2
      go_meet
      case rel => exact ⟨_, (true), zq8, H', ⟨zq41⟩, zq34⟩
     ·rw [if_neg c7] at H
      have c7b0 : decide ((bt a0 0) < 97) = false := decide_eq_false c7
      clear c7
      have H' := Aside0.mk H
      clear H
      have p6 : 0 ≤ (0 : Int) := zq17
      have q6 : 0 < a0.size := (by have : (0 : Int) < (a0.size : Int) := of_decide_eq_true zq6; omega)
      have hx6 : ∀ h : 0 < a0.size, ((a0[0]'h).toNat : Int) = bt a0 0 := bt_at a0 0
      clear p6
      have qi6 : (0 < (a0.size : Int)) = True := eq_true (of_decide_eq_true zq6)
      replace q6 := eq_true q6
      have p8 : 0 ≤ (0 : Int) := zq17
      have q8 : 0 < a0.size := (by have : (0 : Int) < (a0.size : Int) := of_decide_eq_true zq6; omega)
      have hx8 : ∀ h : 0 < a0.size, ((a0[0]'h).toNat : Int) = bt a0 0 := bt_at a0 0
      clear p8
      have qi8 : (0 < (a0.size : Int)) = True := eq_true (of_decide_eq_true zq6)
      replace q8 := eq_true q8
      go_wp2
      go_meet
      case rel => exact ⟨_, (decide ((bt a0 0) > 122)), zq8, H', ⟨zq41⟩, zq34⟩
    ·rw [if_neg c5] at H
     exact absurd H zq81
 case rest =>
  clear HC2
  try clear p2
  try clear c3
  try clear c3b0
  try clear c3b1
  try clear c4
  try clear c4b0
  try clear c4b1
  try clear c5
  try clear c5b0
  try clear c5b1
  try clear p6 p6
  try clear q6 q6
  try clear hx6
  try clear qi6
  try clear c7
  try clear c7b0
  try clear p8 p8
  try clear q8 q8
  try clear hx8
  try clear qi8
  obtain ⟨kq, x21_1, rfl, HA, HJ1, ⟨mc1, rfl⟩⟩ := hcut
  cases kq with
  | zero => exact absurd HA.out (by simp [inspect_isName.j0])
  | succ kj1 =>
   have H := HA.out
   clear HA
   simp only [inspect_isName.j0] at H
   by_cases c9 : x21_1 = true
   ·subst c9
    have H1 : (some false) = some r := by rw [if_pos rfl] at H; exact H
    clear H
    have H := H1
    clear H1
    obtain rfl := Option.some.inj H
    go_wp2
    go_ret
    exact ⟨zq8, zq34⟩
   ·replace c9 := Bool.eq_false_iff.mpr c9
    subst c9
    have H1 : (inspect_isName.l0 kj1 a0 (a0.size : Int) 0) = some r := by rw [if_neg (show ¬ (false = true) by decide)] at H; exact H
    clear H
    have H := H1
    clear H1
    have H' := Aside0.mk H
    clear H
    go_wp2
    go_loopg [24] kj1 (fun kq v24 w' => ∃ (x24_2 : Int), v24 = .int .i64 x24_2 ∧ Aside0 (inspect_isName.l0 kq a0 (a0.size : Int) x24_2 = some r) ∧ Aside0 (kq ≤ kj1) ∧ Drawn0 w w')
    case atStart => exact ⟨(0), zq8, H', ⟨Nat.le_refl _⟩, zq34⟩
    case round =>
     clear H'
     try clear c1
     try clear p2 p2
     try clear c3
     try clear c3b0
     try clear c3b1
     try clear c4
     try clear c4b0
     try clear c4b1
     try clear c5
     try clear c5b0
     try clear c5b1
     try clear p6 p6
     try clear q6 q6
     try clear hx6
     try clear qi6
     try clear c7
     try clear c7b0
     try clear p8 p8
     try clear q8 q8
     try clear hx8
     try clear qi8
     try clear c9
     obtain ⟨x24_2, rfl, HA, HK2, ⟨m2, rfl⟩⟩ := hrel
     cases gk with
     | zero => exact absurd HA.out (by simp [inspect_isName.l0])
     | succ k2 =>
      have H := HA.out
      clear HA
      simp only [inspect_isName.l0] at H
      by_cases c10 : x24_2 < (a0.size : Int)
      ·rw [if_pos c10] at H
       have c10b0 : decide (x24_2 < (a0.size : Int)) = true := decide_eq_true c10
       clear c10
       by_cases c11 : 0 ≤ x24_2
       ·rw [if_pos c11] at H
        have c11b0 : decide (0 ≤ x24_2) = true := decide_eq_true c11
        clear c11
        by_cases c12 : x24_2 < (a0.size : Int)
        ·rw [if_pos c12] at H
         have c12b0 : decide (x24_2 < (a0.size : Int)) = true := decide_eq_true c12
         clear c12
         by_cases c14 : (bt a0 x24_2) ≥ 97
         ·rw [if_pos c14] at H
          have c14b0 : decide (97 ≤ (bt a0 x24_2)) = true := decide_eq_true c14
          clear c14
          by_cases c15 : (bt a0 x24_2) ≤ 122
          ·rw [if_pos c15] at H
           have c15b0 : decide ((bt a0 x24_2) ≤ 122) = true := decide_eq_true c15
           clear c15
           have H' := Aside0.mk H
           clear H
           have p13 : 0 ≤ (x24_2 : Int) := of_decide_eq_true zq6
           have q13 : x24_2 < (a0.size : Int) := of_decide_eq_true zq6
           have hx13 := bt_at a0 x24_2
           replace p13 := eq_true p13
           replace q13 := eq_true q13
           go_wp2
           go_roundg k2
           case measure => have := HJ1.out; have := HK2.out; omega
           case rel => exact ⟨(wrap64 (x24_2 + 1)), zq8, H', ⟨zq54⟩, zq34⟩
          ·rw [if_neg c15] at H
           have c15b0 : decide ((bt a0 x24_2) ≤ 122) = false := decide_eq_false c15
           clear c15
           by_cases c16 : (bt a0 x24_2) ≥ 48
           ·rw [if_pos c16] at H
            have c16b0 : decide (48 ≤ (bt a0 x24_2)) = true := decide_eq_true c16
            clear c16
            by_cases c17 : (bt a0 x24_2) ≤ 57
            ·rw [if_pos c17] at H
             have c17b0 : decide ((bt a0 x24_2) ≤ 57) = true := decide_eq_true c17
             clear c17
             have H' := Aside0.mk H
             clear H
             have p13 : 0 ≤ (x24_2 : Int) := of_decide_eq_true zq6
             have q13 : x24_2 < (a0.size : Int) := of_decide_eq_true zq6
             have hx13 := bt_at a0 x24_2
             replace p13 := eq_true p13
             replace q13 := eq_true q13
             go_wp2
             go_roundg k2
             case measure => have := HJ1.out; have := HK2.out; omega
             case rel => exact ⟨(wrap64 (x24_2 + 1)), zq8, H', ⟨zq54⟩, zq34⟩
            ·rw [if_neg c17] at H
             have c17b0 : decide ((bt a0 x24_2) ≤ 57) = false := decide_eq_false c17
             clear c17
             by_cases c18 : ((bt a0 x24_2) = 45)
             ·rw [if_pos c18] at H
              have c18b0 : ((bt a0 x24_2) == 45) = true := beq_iff_eq.mpr c18
              have c18b1 : ((bt a0 x24_2) != 45) = false := bne_eq_false_iff_eq.mpr c18
              clear c18
              have H' := Aside0.mk H
              clear H
              have p13 : 0 ≤ (x24_2 : Int) := of_decide_eq_true zq6
              have q13 : x24_2 < (a0.size : Int) := of_decide_eq_true zq6
              have hx13 := bt_at a0 x24_2
              replace p13 := eq_true p13
              replace q13 := eq_true q13
              go_wp2
              go_roundg k2
              case measure => have := HJ1.out; have := HK2.out; omega
              case rel => exact ⟨(wrap64 (x24_2 + 1)), zq8, H', ⟨zq54⟩, zq34⟩
             ·rw [if_neg c18] at H
              have c18b0 : ((bt a0 x24_2) == 45) = false := beq_eq_false_iff_ne.mpr c18
              have c18b1 : ((bt a0 x24_2) != 45) = true := bne_iff_ne.mpr c18
              obtain rfl := Option.some.inj H
              have p13 : 0 ≤ (x24_2 : Int) := of_decide_eq_true zq6
              have q13 : x24_2 < (a0.size : Int) := of_decide_eq_true zq6
              have hx13 := bt_at a0 x24_2
              replace p13 := eq_true p13
              replace q13 := eq_true q13
              go_wp2
              go_ret
              exact ⟨zq8, zq34⟩
           ·rw [if_neg c16] at H
            have c16b0 : decide (48 ≤ (bt a0 x24_2)) = false := decide_eq_false c16
            clear c16
            by_cases c19 : ((bt a0 x24_2) = 45)
            ·rw [if_pos c19] at H
             have c19b0 : ((bt a0 x24_2) == 45) = true := beq_iff_eq.mpr c19
             have c19b1 : ((bt a0 x24_2) != 45) = false := bne_eq_false_iff_eq.mpr c19
             clear c19
             have H' := Aside0.mk H
             clear H
             have p13 : 0 ≤ (x24_2 : Int) := of_decide_eq_true zq6
             have q13 : x24_2 < (a0.size : Int) := of_decide_eq_true zq6
             have hx13 := bt_at a0 x24_2
             replace p13 := eq_true p13
             replace q13 := eq_true q13
             go_wp2
             go_roundg k2
             case measure => have := HJ1.out; have := HK2.out; omega
             case rel => exact ⟨(wrap64 (x24_2 + 1)), zq8, H', ⟨zq54⟩, zq34⟩
            ·rw [if_neg c19] at H
             have c19b0 : ((bt a0 x24_2) == 45) = false := beq_eq_false_iff_ne.mpr c19
             have c19b1 : ((bt a0 x24_2) != 45) = true := bne_iff_ne.mpr c19
             obtain rfl := Option.some.inj H
             have p13 : 0 ≤ (x24_2 : Int) := of_decide_eq_true zq6
             have q13 : x24_2 < (a0.size : Int) := of_decide_eq_true zq6
             have hx13 := bt_at a0 x24_2
             replace p13 := eq_true p13
             replace q13 := eq_true q13
             go_wp2
             go_ret
             exact ⟨zq8, zq34⟩
         ·rw [if_neg c14] at H
          have c14b0 : decide (97 ≤ (bt a0 x24_2)) = false := decide_eq_false c14
          clear c14
          by_cases c20 : (bt a0 x24_2) ≥ 48
          ·rw [if_pos c20] at H
           have c20b0 : decide (48 ≤ (bt a0 x24_2)) = true := decide_eq_true c20
           clear c20
           by_cases c21 : (bt a0 x24_2) ≤ 57
           ·rw [if_pos c21] at H
            have c21b0 : decide ((bt a0 x24_2) ≤ 57) = true := decide_eq_true c21
            clear c21
            have H' := Aside0.mk H
            clear H
            have p13 : 0 ≤ (x24_2 : Int) := of_decide_eq_true zq6
            have q13 : x24_2 < (a0.size : Int) := of_decide_eq_true zq6
            have hx13 := bt_at a0 x24_2
            replace p13 := eq_true p13
            replace q13 := eq_true q13
            go_wp2
            go_roundg k2
            case measure => have := HJ1.out; have := HK2.out; omega
            case rel => exact ⟨(wrap64 (x24_2 + 1)), zq8, H', ⟨zq54⟩, zq34⟩
           ·rw [if_neg c21] at H
            have c21b0 : decide ((bt a0 x24_2) ≤ 57) = false := decide_eq_false c21
            clear c21
            by_cases c22 : ((bt a0 x24_2) = 45)
            ·rw [if_pos c22] at H
             have c22b0 : ((bt a0 x24_2) == 45) = true := beq_iff_eq.mpr c22
             have c22b1 : ((bt a0 x24_2) != 45) = false := bne_eq_false_iff_eq.mpr c22
             clear c22
             have H' := Aside0.mk H
             clear H
             have p13 : 0 ≤ (x24_2 : Int) := of_decide_eq_true zq6
             have q13 : x24_2 < (a0.size : Int) := of_decide_eq_true zq6
             have hx13 := bt_at a0 x24_2
             replace p13 := eq_true p13
             replace q13 := eq_true q13
             go_wp2
             go_roundg k2
             case measure => have := HJ1.out; have := HK2.out; omega
             case rel => exact ⟨(wrap64 (x24_2 + 1)), zq8, H', ⟨zq54⟩, zq34⟩
            ·rw [if_neg c22] at H
             have c22b0 : ((bt a0 x24_2) == 45) = false := beq_eq_false_iff_ne.mpr c22
             have c22b1 : ((bt a0 x24_2) != 45) = true := bne_iff_ne.mpr c22
             obtain rfl := Option.some.inj H
             have p13 : 0 ≤ (x24_2 : Int) := of_decide_eq_true zq6
             have q13 : x24_2 < (a0.size : Int) := of_decide_eq_true zq6
             have hx13 := bt_at a0 x24_2
             replace p13 := eq_true p13
             replace q13 := eq_true q13
             go_wp2
             go_ret
             exact ⟨zq8, zq34⟩
          ·rw [if_neg c20] at H
           have c20b0 : decide (48 ≤ (bt a0 x24_2)) = false := decide_eq_false c20
           clear c20
           by_cases c23 : ((bt a0 x24_2) = 45)
           ·rw [if_pos c23] at H
            have c23b0 : ((bt a0 x24_2) == 45) = true := beq_iff_eq.mpr c23
            have c23b1 : ((bt a0 x24_2) != 45) = false := bne_eq_false_iff_eq.mpr c23
            clear c23
            have H' := Aside0.mk H
            clear H
            have p13 : 0 ≤ (x24_2 : Int) := of_decide_eq_true zq6
            have q13 : x24_2 < (a0.size : Int) := of_decide_eq_true zq6
            have hx13 := bt_at a0 x24_2
            replace p13 := eq_true p13
            replace q13 := eq_true q13
            go_wp2
            go_roundg k2
            case measure => have := HJ1.out; have := HK2.out; omega
            case rel => exact ⟨(wrap64 (x24_2 + 1)), zq8, H', ⟨zq54⟩, zq34⟩
           ·rw [if_neg c23] at H
            have c23b0 : ((bt a0 x24_2) == 45) = false := beq_eq_false_iff_ne.mpr c23
            have c23b1 : ((bt a0 x24_2) != 45) = true := bne_iff_ne.mpr c23
            obtain rfl := Option.some.inj H
            have p13 : 0 ≤ (x24_2 : Int) := of_decide_eq_true zq6
            have q13 : x24_2 < (a0.size : Int) := of_decide_eq_true zq6
            have hx13 := bt_at a0 x24_2
            replace p13 := eq_true p13
            replace q13 := eq_true q13
            go_wp2
            go_ret
            exact ⟨zq8, zq34⟩
        ·rw [if_neg c12] at H
         exact absurd H zq81
       ·rw [if_neg c11] at H
        exact absurd H zq81
      ·rw [if_neg c10] at H
       have c10b0 : decide (x24_2 < (a0.size : Int)) = false := decide_eq_false c10
       clear c10
       obtain rfl := Option.some.inj H
       go_wp2
       go_ret
       exact ⟨zq8, zq34⟩
def idxOf {α : Type} (p : α → Bool) : List α → Int
 | [] => -1
 | x :: l => if p x then 0 else if idxOf p l < 0 then -1 else idxOf p l + 1
theorem idxOf_lo {α : Type} (p : α → Bool) : ∀ l : List α, -1 ≤ idxOf p l ∧ idxOf p l < l.length
 | [] => by simp [idxOf]
 | x :: l => by
  have ih := idxOf_lo p l
  unfold idxOf
  simp only [List.length_cons]
  split
  ·omega
  ·split <;> omega
theorem idxOf_hit {α : Type} (p : α → Bool) (z : α) : ∀ (l : List α) (k : Nat), k < l.length → (∀ j, j < k → p (l.getD j z) = false) → p (l.getD k z) = true → idxOf p l = k
 | [], k, h, _, _ => by simp at h
 | x :: l, 0, _, _, h => by simp [idxOf] at h ⊢; simp [h]
 | x :: l, k + 1, h, ha, hk => by
  have h0 := ha 0 zq17
  have ih := idxOf_hit p z l k (by simpa using h) (fun j hj => by have := ha (j + 1) zq17; simpa using this) (by simpa using hk)
  have h0' : p x = false := by simpa using h0
  unfold idxOf
  rw [h0', ih]
  simp
  omega
theorem idxOf_miss {α : Type} (p : α → Bool) (z : α) : ∀ (l : List α), (∀ j, j < l.length → p (l.getD j z) = false) → idxOf p l = -1
 | [], _ => rfl
 | x :: l, ha => by
  have h0 := ha 0 zq81
  have ih := idxOf_miss p z l (fun j hj => by have := ha (j + 1) (by simpa using hj); simpa using this)
  have h0' : p x = false := by simpa using h0
  unfold idxOf
  rw [h0', ih]
  simp
theorem idxOf_any {α : Type} (p : α → Bool) : ∀ l : List α, decide (idxOf p l ≥ 0) = l.any p
 | [] => by simp [idxOf]
 | x :: l => by
  have ih := idxOf_any p l
  have hb := idxOf_lo p l
  unfold idxOf
  rw [List.any_cons, ← ih]
  cases hx : p x
  ·simp
   split <;> omega
  ·simp
set_option maxHeartbeats 2000000 in
set_option maxRecDepth 100000 in
theorem Idx63 (p : S68 → Bool) (g : Nat) (lb : Array Value) (eg : ∀ args w, (callFunc g args).run Try.prog w = .ok (.enter g args) w) (A : Option Addr) (c : Nat) (l : List S68) (w : World) (hr : Kd.C k68 w A l.length l)
  (hp : ∀ (W : World) (x : S68), Below w.heap.size w W → Calls Try.prog g (#[.agg #[.int .i64 x.f0, .int .i64 x.f1, .int .i64 x.f2]] ++ lb) W fun e w' => e = .returned (.bool (p x)) ∧ Below w.heap.size w w') :
  Calls Try.prog 63 #[.slice A l.length c, .func (.func g) #[] lb] w fun e w' => e = .returned (.int .i64 (idxOf p l)) ∧ Below w.heap.size w w' := by
 have hm := Kd.C_max hr
 have HR := Aside0.mk hr
 have HP := Aside0.mk hp
 clear hr hp
 go_enter Try.func63, Try.ntmps63
 go_wp2
 go_loopg [5, 8] l.length (fun gg _ s8 wr => ∃ i : Int, Aside0 (0 ≤ i ∧ i ≤ l.length ∧ l.length - i ≤ gg) ∧ s8 = .int .i64 i ∧ Aside0 (Below w.heap.size w wr) ∧ Aside0 (∀ j : Nat, (j : Int) < i → p (l.getD j z68) = false))
 case atStart => exact ⟨0, ⟨zq17, zq17, zq17⟩, rfl, ⟨Below.refl _ w⟩, ⟨fun j hj => absurd hj zq17⟩⟩
 case round =>
  obtain ⟨i, hi, rfl, BW, HA⟩ := hrel
  have hi0 := hi.out.1
  by_cases hlt : i < (l.length : Int)
  ·obtain ⟨ad, e, hx0, hx1, hx2⟩ := at_T68 HR.out i hi0 hlt
   cases e
   replace hx0 := (BW.out.cell (World.block_lt_of_cell? w _ hx0)).trans hx0
   replace hx1 := (BW.out.cell (World.block_lt_of_cell? w _ hx1)).trans hx1
   replace hx2 := (BW.out.cell (World.block_lt_of_cell? w _ hx2)).trans hx2
   have hcall := HP.out wr (rd_T68 l i) BW.out
   cases hq : p (rd_T68 l i) with
   | true =>
    rw [hq] at hcall
    have HQ := Aside0.mk hq
    clear hq
    go_wp2_with (go_at_fn g; refine hcall.mono ?_; rintro e w' ⟨rfl, hb'⟩)
    go_ret
    refine ⟨?_, hb'⟩
    have hi' := hi.out
    rw [idxOf_hit p z68 l i.toNat zq17 (fun j hj => HA.out j zq17) HQ.out, show ((i.toNat : Nat) : Int) = i by omega]
    rfl
   | false =>
    rw [hq] at hcall
    have HQ := Aside0.mk hq
    clear hq
    go_wp2_with (go_at_fn g; refine hcall.mono ?_; rintro e w' ⟨rfl, hb'⟩)
    go_roundg (l.length - (i + 1)).toNat
    case measure => have := hi.out; omega
    case rel =>
     refine ⟨i + 1, ⟨zq90⟩, zq96, ⟨hb'⟩, ⟨fun j hj => ?_⟩⟩
     by_cases e : (j : Int) = i
     ·subst e
      simpa [rd_T68] using HQ.out
     ·exact HA.out j zq17
  ·have hb : decide (i < (l.length : Int)) = false := decide_eq_false hlt
   go_wp2
   go_ret
   refine ⟨?_, BW.out⟩
   rw [idxOf_miss p z68 l (fun j hj => HA.out j zq90)]
   rfl
set_option maxHeartbeats 2000000 in
set_option maxRecDepth 100000 in
theorem Idx84 (p : S58 → Bool) (g : Nat) (lb : Array Value) (eg : ∀ args w, (callFunc g args).run Try.prog w = .ok (.enter g args) w) (A : Option Addr) (c : Nat) (l : List S58) (w : World) (hr : Kd.C k58 w A l.length l)
  (hp : ∀ (W : World) (x : S58), Below w.heap.size w W → Calls Try.prog g (#[.agg #[.string x.f0, .int .i64 x.f1]] ++ lb) W fun e w' => e = .returned (.bool (p x)) ∧ Below w.heap.size w w') :
  Calls Try.prog 84 #[.slice A l.length c, .func (.func g) #[] lb] w fun e w' => e = .returned (.int .i64 (idxOf p l)) ∧ Below w.heap.size w w' := by
 have hm := Kd.C_max hr
 have HR := Aside0.mk hr
 have HP := Aside0.mk hp
 clear hr hp
 go_enter Try.func84, Try.ntmps84
 go_wp2
 go_loopg [5, 8] l.length (fun gg _ s8 wr => ∃ i : Int, Aside0 (0 ≤ i ∧ i ≤ l.length ∧ l.length - i ≤ gg) ∧ s8 = .int .i64 i ∧ Aside0 (Below w.heap.size w wr) ∧ Aside0 (∀ j : Nat, (j : Int) < i → p (l.getD j z58) = false))
 case atStart => exact ⟨0, ⟨zq17, zq17, zq17⟩, rfl, ⟨Below.refl _ w⟩, ⟨fun j hj => absurd hj zq17⟩⟩
 case round =>
  obtain ⟨i, hi, rfl, BW, HA⟩ := hrel
  have hi0 := hi.out.1
  by_cases hlt : i < (l.length : Int)
  ·obtain ⟨ad, e, hx0, hx1⟩ := at_T58 HR.out i hi0 hlt
   cases e
   replace hx0 := (BW.out.cell (World.block_lt_of_cell? w _ hx0)).trans hx0
   replace hx1 := (BW.out.cell (World.block_lt_of_cell? w _ hx1)).trans hx1
   have hcall := HP.out wr (rd_T58 l i) BW.out
   cases hq : p (rd_T58 l i) with
   | true =>
    rw [hq] at hcall
    have HQ := Aside0.mk hq
    clear hq
    go_wp2_with (go_at_fn g; refine hcall.mono ?_; rintro e w' ⟨rfl, hb'⟩)
    go_ret
    refine ⟨?_, hb'⟩
    have hi' := hi.out
    rw [idxOf_hit p z58 l i.toNat zq17 (fun j hj => HA.out j zq17) HQ.out, show ((i.toNat : Nat) : Int) = i by omega]
    rfl
   | false =>
    rw [hq] at hcall
    have HQ := Aside0.mk hq
    clear hq
    go_wp2_with (go_at_fn g; refine hcall.mono ?_; rintro e w' ⟨rfl, hb'⟩)
    go_roundg (l.length - (i + 1)).toNat
    case measure => have := hi.out; omega
    case rel =>
     refine ⟨i + 1, ⟨zq90⟩, zq96, ⟨hb'⟩, ⟨fun j hj => ?_⟩⟩
     by_cases e : (j : Int) = i
     ·subst e
      simpa [rd_T58] using HQ.out
     ·exact HA.out j zq17
  ·have hb : decide (i < (l.length : Int)) = false := decide_eq_false hlt
   go_wp2
   go_ret
   refine ⟨?_, BW.out⟩
   rw [idxOf_miss p z58 l (fun j hj => HA.out j zq90)]
   rfl
set_option maxHeartbeats 2000000 in
set_option maxRecDepth 100000 in
theorem Idx85 (p : S56 → Bool) (g : Nat) (lb : Array Value) (eg : ∀ args w, (callFunc g args).run Try.prog w = .ok (.enter g args) w) (A : Option Addr) (c : Nat) (l : List S56) (w : World) (hr : Kd.C k56 w A l.length l)
  (hp : ∀ (W : World) (x : S56) (A1 : Option Addr) (cA1 : Nat), Below w.heap.size w W → Calls Try.prog g (#[.agg #[.string x.f0, .slice A1 x.f1.length cA1]] ++ lb) W fun e w' => e = .returned (.bool (p x)) ∧ Below w.heap.size w w') :
  Calls Try.prog 85 #[.slice A l.length c, .func (.func g) #[] lb] w fun e w' => e = .returned (.int .i64 (idxOf p l)) ∧ Below w.heap.size w w' := by
 have hm := Kd.C_max hr
 have HR := Aside0.mk hr
 have HP := Aside0.mk hp
 clear hr hp
 go_enter Try.func85, Try.ntmps85
 go_wp2
 go_loopg [5, 8] l.length (fun gg _ s8 wr => ∃ i : Int, Aside0 (0 ≤ i ∧ i ≤ l.length ∧ l.length - i ≤ gg) ∧ s8 = .int .i64 i ∧ Aside0 (Below w.heap.size w wr) ∧ Aside0 (∀ j : Nat, (j : Int) < i → p (l.getD j z56) = false))
 case atStart => exact ⟨0, ⟨zq17, zq17, zq17⟩, rfl, ⟨Below.refl _ w⟩, ⟨fun j hj => absurd hj zq17⟩⟩
 case round =>
  obtain ⟨i, hi, rfl, BW, HA⟩ := hrel
  have hi0 := hi.out.1
  by_cases hlt : i < (l.length : Int)
  ·obtain ⟨ad, A1, c1, e, hx0, hx1, hl1, hi1⟩ := at_T56 HR.out i hi0 hlt
   cases e
   replace hx0 := (BW.out.cell (World.block_lt_of_cell? w _ hx0)).trans hx0
   replace hx1 := (BW.out.cell (World.block_lt_of_cell? w _ hx1)).trans hx1
   have hcall := HP.out wr (rd_T56 l i) A1 c1 BW.out
   cases hq : p (rd_T56 l i) with
   | true =>
    rw [hq] at hcall
    have HQ := Aside0.mk hq
    clear hq
    go_wp2_with (go_at_fn g; refine hcall.mono ?_; rintro e w' ⟨rfl, hb'⟩)
    go_ret
    refine ⟨?_, hb'⟩
    have hi' := hi.out
    rw [idxOf_hit p z56 l i.toNat zq17 (fun j hj => HA.out j zq17) HQ.out, show ((i.toNat : Nat) : Int) = i by omega]
    rfl
   | false =>
    rw [hq] at hcall
    have HQ := Aside0.mk hq
    clear hq
    go_wp2_with (go_at_fn g; refine hcall.mono ?_; rintro e w' ⟨rfl, hb'⟩)
    go_roundg (l.length - (i + 1)).toNat
    case measure => have := hi.out; omega
    case rel =>
     refine ⟨i + 1, ⟨zq90⟩, zq96, ⟨hb'⟩, ⟨fun j hj => ?_⟩⟩
     by_cases e : (j : Int) = i
     ·subst e
      simpa [rd_T56] using HQ.out
     ·exact HA.out j zq17
  ·have hb : decide (i < (l.length : Int)) = false := decide_eq_false hlt
   go_wp2
   go_ret
   refine ⟨?_, BW.out⟩
   rw [idxOf_miss p z56 l (fun j hj => HA.out j zq90)]
   rfl
set_option maxHeartbeats 2000000 in
set_option maxRecDepth 100000 in
theorem Has86 (p : S68 → Bool) (g : Nat) (lb : Array Value) (eg : ∀ args w, (callFunc g args).run Try.prog w = .ok (.enter g args) w) (A : Option Addr) (c : Nat) (l : List S68) (w : World) (hr : Kd.C k68 w A l.length l)
  (hp : ∀ (W : World) (x : S68), Below w.heap.size w W → Calls Try.prog g (#[.agg #[.int .i64 x.f0, .int .i64 x.f1, .int .i64 x.f2]] ++ lb) W fun e w' => e = .returned (.bool (p x)) ∧ Below w.heap.size w w') :
  Calls Try.prog 86 #[.slice A l.length c, .func (.func g) #[] lb] w fun e w' => e = .returned (.bool (l.any p)) ∧ Below w.heap.size w w' := by
 rw [← idxOf_any p l]
 have hx := Idx63 p g lb eg A c l w hr hp
 clear hr hp
 go_enter Try.func86, Try.ntmps86
 go_wp2_with (go_at_call 63; refine hx.mono ?_; rintro e w' ⟨rfl, hb'⟩)
 go_ret
 exact ⟨rfl, hb'⟩
set_option maxHeartbeats 2000000 in
set_option maxRecDepth 100000 in
theorem Has72 (p : S58 → Bool) (g : Nat) (lb : Array Value) (eg : ∀ args w, (callFunc g args).run Try.prog w = .ok (.enter g args) w) (A : Option Addr) (c : Nat) (l : List S58) (w : World) (hr : Kd.C k58 w A l.length l)
  (hp : ∀ (W : World) (x : S58), Below w.heap.size w W → Calls Try.prog g (#[.agg #[.string x.f0, .int .i64 x.f1]] ++ lb) W fun e w' => e = .returned (.bool (p x)) ∧ Below w.heap.size w w') :
  Calls Try.prog 72 #[.slice A l.length c, .func (.func g) #[] lb] w fun e w' => e = .returned (.bool (l.any p)) ∧ Below w.heap.size w w' := by
 rw [← idxOf_any p l]
 have hx := Idx84 p g lb eg A c l w hr hp
 clear hr hp
 go_enter Try.func72, Try.ntmps72
 go_wp2_with (go_at_call 84; refine hx.mono ?_; rintro e w' ⟨rfl, hb'⟩)
 go_ret
 exact ⟨rfl, hb'⟩
set_option maxHeartbeats 2000000 in
set_option maxRecDepth 100000 in
theorem Has74 (p : S56 → Bool) (g : Nat) (lb : Array Value) (eg : ∀ args w, (callFunc g args).run Try.prog w = .ok (.enter g args) w) (A : Option Addr) (c : Nat) (l : List S56) (w : World) (hr : Kd.C k56 w A l.length l)
  (hp : ∀ (W : World) (x : S56) (A1 : Option Addr) (cA1 : Nat), Below w.heap.size w W → Calls Try.prog g (#[.agg #[.string x.f0, .slice A1 x.f1.length cA1]] ++ lb) W fun e w' => e = .returned (.bool (p x)) ∧ Below w.heap.size w w') :
  Calls Try.prog 74 #[.slice A l.length c, .func (.func g) #[] lb] w fun e w' => e = .returned (.bool (l.any p)) ∧ Below w.heap.size w w' := by
 rw [← idxOf_any p l]
 have hx := Idx85 p g lb eg A c l w hr hp
 clear hr hp
 go_enter Try.func74, Try.ntmps74
 go_wp2_with (go_at_call 85; refine hx.mono ?_; rintro e w' ⟨rfl, hb'⟩)
 go_ret
 exact ⟨rfl, hb'⟩
set_option maxRecDepth 100000 in
theorem clo64 (x : S68)  (gb : Nat) (y0 : Int) (w : World) (hbx : w.heap[gb]? = some (.cells #[.int .i64 y0] 3 (0, 0))) :
  Calls Try.prog 64 #[.agg #[.int .i64 x.f0, .int .i64 x.f1, .int .i64 x.f2], .pointer (some ⟨gb, 0, none⟩)] w fun e w' => e = .returned (.bool (x.f0 == y0)) ∧ Below w.heap.size w w' := by
 have HX := Aside0.mk hbx
 clear hbx
 go_enter Try.func64, Try.ntmps64
 go_wp2_with ((with_reducible refine gate_dst (N := 2) rfl ?_); refine box_event ?hg (N := 2) ?hd (cs := #[.int .i64 x.f0, .int .i64 x.f1, .int .i64 x.f2]) (t := 68) ?hr ?_; (case hd => rfl); (case hg => rfl); (case hr => exact zq9); intro g0 hg w1 hbox hb; have hc0 : w1.cell? ⟨g0, 0, none⟩ = some (.int .i64 x.f0) := (blk_cell hbox 0).trans rfl; have hc1 : w1.cell? ⟨gb, 0, none⟩ = some (.int .i64 y0) := (blk_cell (blk_below HX.out hb) 0).trans rfl; have HB := Aside0.mk hb; clear hg hbox hb)
 go_ret
 exact ⟨rfl, HB.out⟩
set_option maxRecDepth 100000 in
theorem clo87 (x : S68)  (gb : Nat) (y0 : Int) (y1 : Int) (y2 : Int) (w : World) (hbx : w.heap[gb]? = some (.cells #[.int .i64 y0, .int .i64 y1, .int .i64 y2] 68 (0, 0))) :
  Calls Try.prog 87 #[.agg #[.int .i64 x.f0, .int .i64 x.f1, .int .i64 x.f2], .pointer (some ⟨gb, 0, none⟩)] w fun e w' => e = .returned (.bool (x.f0 == y0)) ∧ Below w.heap.size w w' := by
 have HX := Aside0.mk hbx
 clear hbx
 go_enter Try.func87, Try.ntmps87
 go_wp2_with ((with_reducible refine gate_dst (N := 2) rfl ?_); refine box_event ?hg (N := 2) ?hd (cs := #[.int .i64 x.f0, .int .i64 x.f1, .int .i64 x.f2]) (t := 68) ?hr ?_; (case hd => rfl); (case hg => rfl); (case hr => exact zq9); intro g0 hg w1 hbox hb; have hc0 : w1.cell? ⟨g0, 0, none⟩ = some (.int .i64 x.f0) := (blk_cell hbox 0).trans rfl; have hc1 : w1.cell? ⟨gb, 0, none⟩ = some (.int .i64 y0) := (blk_cell (blk_below HX.out hb) 0).trans rfl; have HB := Aside0.mk hb; clear hg hbox hb)
 go_ret
 exact ⟨rfl, HB.out⟩
set_option maxRecDepth 100000 in
theorem clo73 (x : S58)  (gb : Nat) (y0 : ByteArray) (y1 : Int) (w : World) (hbx : w.heap[gb]? = some (.cells #[.string y0, .int .i64 y1] 58 (0, 0))) :
  Calls Try.prog 73 #[.agg #[.string x.f0, .int .i64 x.f1], .pointer (some ⟨gb, 0, none⟩)] w fun e w' => e = .returned (.bool (x.f0.toList == y0.toList)) ∧ Below w.heap.size w w' := by
 have HX := Aside0.mk hbx
 clear hbx
 go_enter Try.func73, Try.ntmps73
 go_wp2_with ((with_reducible refine gate_dst (N := 2) rfl ?_); refine box_event ?hg (N := 2) ?hd (cs := #[.string x.f0, .int .i64 x.f1]) (t := 58) ?hr ?_; (case hd => rfl); (case hg => rfl); (case hr => exact zq9); intro g0 hg w1 hbox hb; have hc0 : w1.cell? ⟨g0, 0, none⟩ = some (.string x.f0) := (blk_cell hbox 0).trans rfl; have hc1 : w1.cell? ⟨gb, 0, none⟩ = some (.string y0) := (blk_cell (blk_below HX.out hb) 0).trans rfl; have HB := Aside0.mk hb; clear hg hbox hb)
 go_ret
 exact ⟨rfl, HB.out⟩
set_option maxRecDepth 100000 in
theorem clo75 (x : S56) (A1 : Option Addr) (cA1 : Nat) (gb : Nat) (y0 : ByteArray) (B1 : Option Addr) (d1 : Nat) (y1 : List S68) (w : World) (hbx : w.heap[gb]? = some (.cells #[.string y0, .slice B1 y1.length d1] 56 (0, 0))) :
  Calls Try.prog 75 #[.agg #[.string x.f0, .slice A1 x.f1.length cA1], .pointer (some ⟨gb, 0, none⟩)] w fun e w' => e = .returned (.bool (x.f0.toList == y0.toList)) ∧ Below w.heap.size w w' := by
 have HX := Aside0.mk hbx
 clear hbx
 go_enter Try.func75, Try.ntmps75
 go_wp2_with ((with_reducible refine gate_dst (N := 2) rfl ?_); refine box_event ?hg (N := 2) ?hd (cs := #[.string x.f0, .slice A1 x.f1.length cA1]) (t := 56) ?hr ?_; (case hd => rfl); (case hg => rfl); (case hr => exact zq9); intro g0 hg w1 hbox hb; have hc0 : w1.cell? ⟨g0, 0, none⟩ = some (.string x.f0) := (blk_cell hbox 0).trans rfl; have hc1 : w1.cell? ⟨gb, 0, none⟩ = some (.string y0) := (blk_cell (blk_below HX.out hb) 0).trans rfl; have HB := Aside0.mk hb; clear hg hbox hb)
 go_ret
 exact ⟨rfl, HB.out⟩
def IdxClaim.f (l : List S68) (y0 : Int) : Option Int := some (idxOf (fun x : S68 => x.f0 == y0) l)
theorem IdxClaim.calls (A : Option Addr) (c : Nat) (l : List S68) (gb : Nat) (y0 : Int) (r : Int) (w : World) (hr : Kd.C k68 w A l.length l) (hc : l.length ≤ c) (hbx : w.heap[gb]? = some (.cells #[.int .i64 y0] 3 (0, 0))) (h : IdxClaim.f l y0 = some r) :
  Calls Try.prog 63 #[.slice A l.length c, .func (.func 64) #[] #[.pointer (some ⟨gb, 0, none⟩)]] w fun e w' => e = .returned (.int .i64 r) ∧ Below w.heap.size w w' := by
 obtain rfl : idxOf (fun x : S68 => x.f0 == y0) l = r := Option.some.inj h
 exact Idx63 _ 64 _ (enters_of Try.func64 zq32 rfl) A c l w hr (fun W x hb => (clo64 x gb y0 W (blk_below hbx hb)).mono fun _ _ ⟨e1, h1⟩ => ⟨e1, below_step hb h1⟩)
def HasClaim.f (l : List S68) (y0 : Int) (y1 : Int) (y2 : Int) : Option Bool := some (l.any (fun x : S68 => x.f0 == y0))
theorem HasClaim.calls (A : Option Addr) (c : Nat) (l : List S68) (gb : Nat) (y0 : Int) (y1 : Int) (y2 : Int) (r : Bool) (w : World) (hr : Kd.C k68 w A l.length l) (hc : l.length ≤ c) (hbx : w.heap[gb]? = some (.cells #[.int .i64 y0, .int .i64 y1, .int .i64 y2] 68 (0, 0))) (h : HasClaim.f l y0 y1 y2 = some r) :
  Calls Try.prog 86 #[.slice A l.length c, .func (.func 87) #[] #[.pointer (some ⟨gb, 0, none⟩)]] w fun e w' => e = .returned (.bool r) ∧ Below w.heap.size w w' := by
 obtain rfl : l.any (fun x : S68 => x.f0 == y0) = r := Option.some.inj h
 exact Has86 _ 87 _ (enters_of Try.func87 zq32 rfl) A c l w hr (fun W x hb => (clo87 x gb y0 y1 y2 W (blk_below hbx hb)).mono fun _ _ ⟨e1, h1⟩ => ⟨e1, below_step hb h1⟩)
def HasFlaw.f (l : List S58) (y0 : ByteArray) (y1 : Int) : Option Bool := some (l.any (fun x : S58 => x.f0.toList == y0.toList))
theorem HasFlaw.calls (A : Option Addr) (c : Nat) (l : List S58) (gb : Nat) (y0 : ByteArray) (y1 : Int) (r : Bool) (w : World) (hr : Kd.C k58 w A l.length l) (hc : l.length ≤ c) (hbx : w.heap[gb]? = some (.cells #[.string y0, .int .i64 y1] 58 (0, 0))) (h : HasFlaw.f l y0 y1 = some r) :
  Calls Try.prog 72 #[.slice A l.length c, .func (.func 73) #[] #[.pointer (some ⟨gb, 0, none⟩)]] w fun e w' => e = .returned (.bool r) ∧ Below w.heap.size w w' := by
 obtain rfl : l.any (fun x : S58 => x.f0.toList == y0.toList) = r := Option.some.inj h
 exact Has72 _ 73 _ (enters_of Try.func73 zq32 rfl) A c l w hr (fun W x hb => (clo73 x gb y0 y1 W (blk_below hbx hb)).mono fun _ _ ⟨e1, h1⟩ => ⟨e1, below_step hb h1⟩)
def HasStand.f (l : List S56) (y0 : ByteArray) (y1 : List S68) : Option Bool := some (l.any (fun x : S56 => x.f0.toList == y0.toList))
theorem HasStand.calls (A : Option Addr) (c : Nat) (l : List S56) (gb : Nat) (y0 : ByteArray) (B1 : Option Addr) (d1 : Nat) (y1 : List S68) (r : Bool) (w : World) (hr : Kd.C k56 w A l.length l) (hc : l.length ≤ c) (hbx : w.heap[gb]? = some (.cells #[.string y0, .slice B1 y1.length d1] 56 (0, 0))) (h : HasStand.f l y0 y1 = some r) :
  Calls Try.prog 74 #[.slice A l.length c, .func (.func 75) #[] #[.pointer (some ⟨gb, 0, none⟩)]] w fun e w' => e = .returned (.bool r) ∧ Below w.heap.size w w' := by
 obtain rfl : l.any (fun x : S56 => x.f0.toList == y0.toList) = r := Option.some.inj h
 exact Has74 _ 75 _ (enters_of Try.func75 zq32 rfl) A c l w hr (fun W x A1 cA1 hb => (clo75 x A1 cA1 gb y0 B1 d1 y1 W (blk_below hbx hb)).mono fun _ _ ⟨e1, h1⟩ => ⟨e1, below_step hb h1⟩)
end Go.Proofs.Ytbpebehbfpgjbaa.P
end
